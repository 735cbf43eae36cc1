/- Contracts of functions that the law reaches, each by its own hypotheses; joined by a program of mine. -/
import Derived.Test.YtokiomlellclkaaGreatDoorM5
import Derived.Test.YtokiomlellclkaaGreatDoorAp
import Derived.Test.YtokiomlellclkaaGreatDoorChecked
import Derived.Eval
set_option linter.unusedSimpArgs false
set_option linter.unusedVariables false
set_option maxRecDepth 100000
open Go
open Go.IntKind renaming wrap→η
open Int renaming tmod→Xxb,toNat→γ,toNat_of_nonneg→Xje,tmod_lt_of_pos→Xx4,neg_tmod→Xve
open List renaming range→Xqd,flatMap_cons→Xqa,length_append→ξ,length_cons→Γ,drop→ε,flatMap_append→Xql,drop_left→Xza,drop_eq_getElem_cons→Xjz,take→μ,take_of_length_le→τ,append_nil→ο,take_left'→Xjn,drop_eq_nil_of_le→Xq0,length→κ,append_assoc→Δ,nil_append→θ,length_nil→Xqh,getElem?_eq_getElem→ν,getElem_mem→Xx1,length_range→Xja,getElem?_append_right→Xxi,length_flatMap→Xzm,map_cons→φ,sum_cons→Xwz,all→Xwn,mem_cons→Xqs,nodup_append→Xxw,nodup_range→Xx2,mem_append→Xjc,map_nil→Xjo,map_map→Xzs,foldl_cons→Xqw,countP_eq_length_filter→Xzl,mem_filter→Xxg,foldl_nil→Xwr,tail_cons→Xv3,cons_append→Xqt,map_toArray→Xvl,mem_cons_self→Xqp,mem_cons_of_mem→Xqk,mem_of_getElem?→χ,length_filter_le→Xjq,filter_congr→Xzy,length_map→Xq4
open Nat renaming succ_mul→Xwf,le_refl→ζ,ble→Ψ,zero_add→Θ,sub_self→Xzc,zero_le→Xqr,not_lt_zero→Xwg,lt_of_le_of_lt→Xx3,le_trans→Xqg,lt_succ_self→Xvm
open Bool renaming or_eq_true→Xxf,and_eq_true→δ,and_true→Xj4,false_eq_true→Xqe,eq_false_iff→Xjb
open Prod renaming ext→Xvu
open Option renaming toList→Xzk,map_some→Xqu,getD_some→Xxd,getD→Xjf
open UInt8 renaming ofNat→π
namespace AM
theorem dP {x:Int} (h: -9223372036854775808≤x) (a:x<9223372036854775808):η .i64 x=x:=by
 show (if (true && decide (x % 2^64≥2^63))=true then x % 2^64 - 2^64 else x % 2^64)=x;by_cases hx:x % 2^64≥2^63
 ·rw [if_pos (by simpa using hx)];omega
 ·rw [if_neg (by simpa using hx)];omega
theorem sJ {a:Nat} (h:a<9223372036854775808):η .i64 (a:Int)=(a:Int):=dP (by omega) (by omega)
theorem VH {a b:Nat} (h:a+b<9223372036854775808):η .i64 ((a:Int)+(b:Int))=((a+b:Nat):Int):=by
 rw [dP (by omega) (by omega)];omega
theorem VI {a b:Nat} (h:a*b<9223372036854775808):η .i64 ((a:Int)*(b:Int))=((a*b:Nat):Int):=by
 rw [← Int.natCast_mul,sJ h]
theorem ZR (k:IntKind) (a:k.signed=false) (x:Int):η k x=x % 2^k.bits:=by
 show (if (k.signed && _)=true then _ else _)=_;rw [a];rfl
theorem TJ {w:Nat} {k:IntKind} (c:k.signed=false) (b:k.bits=w) (a:Nat):η k (a:Int)=((a % 2^w:Nat):Int):=by
 rw [ZR k c,b];simp
theorem w8u (a:Nat):η .u8 (a:Int)=((a % 256:Nat):Int):=TJ (w:=8) rfl rfl a
theorem ahn (a:Nat):η .u64 (a:Int)=((a % 18446744073709551616:Nat):Int):=TJ (w:=64) rfl rfl a
theorem VU (a b:Nat):((a:Int)+(b:Int))=((a+b:Nat):Int):=(Int.natCast_add a b).symm
theorem Yz (a b:Nat):Int.tdiv (a:Int) (b:Int)=((a / b:Nat):Int):=(Int.ofNat_tdiv a b).symm
theorem YA (a b:Nat):Xxb (a:Int) (b:Int)=((a % b:Nat):Int):=(Int.ofNat_tmod a b).symm
theorem aai (a n:Nat):Int.fdiv (a:Int) (2^n)=((a / 2^n:Nat):Int):=by
 have:((2:Int)^n)=((2^n:Nat):Int):=by simp
 rw [this,Int.fdiv_eq_ediv_of_nonneg _ (Int.natCast_nonneg _)];exact (Int.natCast_ediv _ _).symm
theorem aS (a:Nat):γ (a:Int)=a:=rfl
theorem Ug (a b:Nat):decide ((a:Int)≤(b:Int))=decide (a≤b):=by
 by_cases h:a≤b<;>simp [h]
theorem yK (a b:Nat):decide ((a:Int)<(b:Int))=decide (a<b):=by
 by_cases h:a<b<;>simp [h]
theorem d_eq (a b:Nat):decide ((a:Int)=(b:Int))=decide (a=b):=by
 by_cases h:a=b
 ·simp [h]
 ·rw [Yq1 h,Yq1 (by omega)]
theorem NT (a b:Nat):((a:Int)==(b:Int))=decide (a=b):=d_eq a b
theorem H9 (b:Bool):lit true b=b:=rfl
theorem H8 (b:Bool):lit false b= !b:=rfl
theorem MC (b:Bool):((!b)=true)=(b=false):=by cases b<;>simp
theorem GY (p:Prop) [Decidable p]:(decide p=true)=p:=by simp
theorem KO (p:Prop) [Decidable p]:(decide p=false)=¬ p:=by simp
end AM
open Go AM
namespace Go.Proofs.Tryz
abbrev ψ (n:Nat) (f:Func):=ak prog ap [] n (au 0 (ag f))
abbrev zcc1_0 : List UInt8 := [98,97,115,105,99]
theorem aae:(Xqd ap.nty).map ap.ty.get=(Xqd ap.nty).map (Tj prog):=by kernel_rfl
noncomputable def aac (i:Nat):Bool:=match ap.fn.get i with|some _=>true|_=>false
theorem aad:(Xqd ap.nfn).map (fun i=>(ap.fn.get i).map AF.fn)=(Xqd ap.nfn).map fun i=>match aac i with|true=>prog.funcs[i]? |false=>none:=by kernel_rfl
theorem TZ:(Xqd ap.nfn).all (fun i=>Ah (ap.fn.get i))=true:=by kernel_rfl
theorem aaf:dJ prog ap:=T_ aae (hm:=by kernel_rfl)
theorem afY:C_ prog ap:=Ux aad TZ
theorem mixed:prog.follows .mixedOrders=true:=Tryz.checked.mixed
end Go.Proofs.Tryz
namespace Go.Proofs.Tryz
open Go AM
theorem lG:xH prog ap:=⟨aaf,mixed,afY⟩
abbrev CO (f:Nat) (args:List AV) (out:gK):Prop:=af prog ap f args [] out []
theorem pK (c:List Nat) (n k:Nat) {ans:List (gK × List aP)} {a:qj} {hs:List ng} {bs:List Bool} {ps:List Prop} {f:Nat} {args:List AV} {h b:List aP} {out:gK} (d:jQ bs) (hp:PS prog ap ps ans a hs)
  (he:KJ prog ap (uK prog ap 3000 4) 3000 c f args h a ⟨false,uU n k,[],[],ans,hs⟩= .ok (out,b,.dead) ⟨false,[],bs,ps,[],[]⟩:=by kernel_rfl):af prog ap f args h out b:=pk lG c n k d hp he
theorem pJ (f:Nat) (c:List Nat) (n k:Nat) {nt nt0:Nat} {ans:List (gK × List aP)} {b:qj} {hs:List ng} {bs:List Bool} {ps:List Prop} {a:Code} {s s':St} {h0:List aP} {e:aY} (g:jQ bs) (hp:PS prog ap ps ans b hs) (d:nt0≤nt)
  (he:JX prog ap h0 f nt0 c a s b (uU n k) ans hs s'.env= .ok ((e,s'),[]) ⟨false,[],bs,ps,[],[]⟩:=by kernel_rfl):ak prog ap h0 nt a s e s':=pj lG f c n k g hp d he
theorem pN (f:Nat) (c:List Nat) (n k:Nat) {nt nt0:Nat} {ans:List (gK × List aP)} {b:qj} {hs:List ng} {bs:List Bool} {ps:List Prop} {a:Code} {s s':St} {h0:List aP} {e:aY} (g:jQ bs) (hp:PS prog ap ps ans b hs) (d:nt0≤nt)
  (he:JW prog ap h0 f nt0 c a s b (uU n k) ans hs s'.env= .ok ((e,s'),[]) ⟨false,[],bs,ps,[],[]⟩:=by kernel_rfl):ak prog ap h0 nt a s e s':=pn lG f c n k g hp d he
abbrev Cm (a:AV):St:=⟨[(4,a)],[],.dead,[]⟩
abbrev Gi (a:AV) (b c:Nat) (d e f:List AV):St:=⟨[(0,a),(2,.ptr 0 0 0),(3,.ptr 1 0 0),(4,.ptr 2 0 0),(6,ω (b:Int)),(7,ω (c:Int))],[(0,⟨[.nilS,.nilS,.nilS],0,false,0,0,true⟩),(1,⟨[.bool false,ω 1,ω 0],0,false,0,0,true⟩),(2,⟨d,0,false,0,0,false⟩),(3,⟨[.str [120],.bool false,ω 1,ω 0],0,false,0,4,true⟩),(4,⟨e,0,false,0,4,true⟩),(5,⟨f,0,false,0,12,true⟩)],.dead,[]⟩
abbrev IZ (a:List UInt8) (b:Int):St:=⟨[(0,.str a),(3,ω b)],[],.dead,[]⟩
abbrev I4 (a:Int) (b:Nat) (c:List AV):St:=⟨[(1,ω a),(2,.ptr 0 0 0),(5,.nilS),(9,ω (b:Int))],[(0,⟨c,0,false,0,0,true⟩)],.dead,[]⟩
abbrev I5:St:=⟨[],[],.dead,[]⟩
abbrev Kt (a:Int) (b c d e:Nat) (f:List AV):St:=⟨[(1,ω a),(2,.ptr 0 0 0),(5,.nilS),(6,ω (b:Int)),(9,ω (c:Int)),(14,ω (d:Int)),(15,ω (e:Int))],[(0,⟨f,0,false,0,0,true⟩)],.dead,[]⟩
abbrev OW (a:AV) (b:Nat) (c d:List AV):St:=⟨[(0,a),(2,.ptr 0 0 0),(3,.ptr 1 0 0),(4,.ptr 2 0 0),(5,.ptr 3 0 0),(6,ω (b:Int)),(7,ω 0),(8,.dead),(9,.dead),(10,.dead),(11,.dead),(12,.dead),(13,.dead),(14,.dead),(15,.dead),(39,.dead),(57,.dead),(69,.dead),(74,.dead),(89,.dead),(97,.dead),(115,.dead)],[(0,⟨[.nilS,.nilS,.nilS],0,false,0,0,true⟩),(1,⟨[.bool false,ω 1,ω 0],0,false,0,0,true⟩),(2,⟨[.ref 4 0 0 1,.ref 5 0 0 1,.nilS],0,false,0,0,false⟩),(3,⟨c,0,false,0,0,true⟩),(4,⟨[.str [120],.bool false,ω 1,ω 0],0,false,0,4,true⟩),(5,⟨d,0,false,0,4,true⟩)],.dead,[]⟩
abbrev Vq (a:List UInt8) (b c:Int):St:=⟨[(0,.str a),(4,ω b),(5,ω c)],[],.dead,[]⟩
abbrev Vr (a b:List UInt8):St:=⟨[(0,.str a),(1,.str b)],[],.dead,[]⟩
abbrev Vs (a:AV) (b:Int) (c d:AV) (e:Int) (f g h:AV) (i:List AV):St:=⟨[(0,a),(1,ω b),(2,.ptr 0 0 0),(4,c),(5,.nilS),(6,d),(7,.dead),(8,.dead),(9,ω e),(10,f),(14,g),(15,h),(16,.dead),(24,.dead)],[(0,⟨i,0,false,0,0,true⟩)],.dead,[]⟩
abbrev Nw (a:Int) (b:AV) (c d:Nat) (e f:List AV):St:=⟨[(1,ω a),(2,.ptr 0 0 0),(5,.mr 1 0),(11,b),(12,ω (c:Int)),(13,ω (d:Int))],[(0,⟨e,0,false,0,0,true⟩),(1,⟨f,0,false,0,4611686018427387904,true⟩)],.dead,[]⟩
abbrev Ny (a:Nat) (b:List AV):St:=⟨[(2,.ref 0 0 0 a)],[(0,⟨b,0,false,0,2,true⟩)],.dead,[]⟩
abbrev Nz (a:AV) (b c:Nat) (d:List AV):St:=⟨[(0,a),(2,.ptr 0 0 0),(3,.ptr 1 0 0),(4,.ptr 2 0 0),(6,ω (b:Int)),(7,ω (c:Int))],[(0,⟨[.nilS,.nilS,.nilS],0,false,0,0,true⟩),(1,⟨[.bool false,ω 1,ω 0],0,false,0,0,true⟩),(2,⟨[.ref 3 0 0 1,.ref 4 0 0 1,.nilS],0,false,0,0,false⟩),(3,⟨[.str [120],.bool false,ω 1,ω 0],0,false,0,4,true⟩),(4,⟨d,0,false,0,4,true⟩)],.dead,[]⟩
abbrev NC (a:List AV):St:=⟨[(2,.ptr 0 0 0),(4,.ptr 1 0 0)],[(0,⟨[.nilS,.nilS,.nilS],0,false,0,0,true⟩),(1,⟨[.ref 2 0 0 1,.ref 3 0 0 1,.nilS],0,false,0,0,false⟩),(2,⟨[.str [120],.bool false,ω 1,ω 0],0,false,0,4,true⟩),(3,⟨a,0,false,0,4,true⟩)],.dead,[]⟩
abbrev ND (a b c:List AV):St:=⟨[(2,.ptr 0 0 0),(4,.ptr 1 0 0)],[(0,⟨[.nilS,.nilS,.nilS],0,false,0,0,true⟩),(1,⟨a,0,false,0,0,false⟩),(2,⟨[.str [120],.bool false,ω 1,ω 0],0,false,0,4,true⟩),(3,⟨b,0,false,0,4,true⟩),(4,⟨c,0,false,0,12,true⟩)],.dead,[]⟩
abbrev NE (a:List AV):St:=⟨[(3,.ptr 0 0 0),(4,.mr 1 0)],[(0,⟨[.sl [.str [98]] 1 true,.nilS,.sl [.str [97]] 1 true],0,false,0,0,true⟩),(1,⟨a,0,false,0,4611686018427387904,true⟩)],.dead,[]⟩
abbrev SL (a:List AV):St:=⟨[(5,.mr 0 0)],[(0,⟨a,0,false,0,4611686018427387904,true⟩)],.dead,[]⟩
abbrev SN (a:List AV):St:=⟨[(4,.mr 0 0)],[(0,⟨a,0,false,0,4611686018427387904,true⟩)],.dead,[]⟩
abbrev SQ (a b c d:List AV):St:=⟨[],[(0,⟨[.mr 5 0],0,false,0,0,false⟩),(1,⟨a,0,false,0,0,true⟩),(2,⟨b,0,false,0,0,true⟩),(3,⟨[.mr 6 0],0,false,0,0,false⟩),(4,⟨[.fn 56 [] [.ptr 0 0 0,.ptr 1 0 0,.ptr 2 0 0,.ptr 3 0 0,.ptr 4 0 0]],0,false,0,0,false⟩),(5,⟨c,0,false,0,4611686018427387904,true⟩),(6,⟨d,0,false,0,4611686018427387904,true⟩)],.dead,[]⟩
abbrev SS (a b:Nat) (c d:List AV):St:=⟨[(0,.ref 0 0 0 a),(5,ω (b:Int))],[(0,⟨c,0,false,0,2,true⟩),(1,⟨[.mr 2 0],0,false,0,0,false⟩),(2,⟨d,0,false,0,4611686018427387904,true⟩)],.dead,[]⟩
abbrev SV (a:Nat) (b:AV) (c:Int) (d e f g h:AV) (i:List AV):St:=⟨[(0,.ref 0 0 0 a),(2,b),(3,ω c),(4,d),(5,e),(8,f),(13,g),(25,h),(32,.dead),(44,.dead)],[(0,⟨i,0,false,0,2,true⟩)],.dead,[]⟩
abbrev SY (a:AV) (b c:Nat) (d e f:List AV):St:=⟨[(0,a),(2,.ptr 0 0 0),(3,.ptr 1 0 0),(4,.ptr 2 0 0),(6,ω (b:Int)),(7,ω (c:Int)),(8,.ptr 3 0 0),(9,.ptr 4 0 0)],[(0,⟨[.nilS,.nilS,.nilS],0,false,0,0,true⟩),(1,⟨[.bool false,ω 1,ω 0],0,false,0,0,true⟩),(2,⟨[.ref 5 0 0 1,.ref 6 0 0 1,.nilS],0,false,0,0,false⟩),(3,⟨d,0,false,0,0,true⟩),(4,⟨e,0,false,0,0,true⟩),(5,⟨[.str [120],.bool false,ω 1,ω 0],0,false,0,4,true⟩),(6,⟨f,0,false,0,4,true⟩)],.dead,[]⟩
abbrev S9 (a:AV) (b c:Nat) (d e f g h:List AV):St:=⟨[(0,a),(2,.ptr 0 0 0),(3,.ptr 1 0 0),(4,.ptr 2 0 0),(6,ω (b:Int)),(7,ω (c:Int)),(8,.ptr 3 0 0),(9,.ptr 4 0 0)],[(0,⟨[.nilS,.nilS,.nilS],0,false,0,0,true⟩),(1,⟨[.bool false,ω 1,ω 0],0,false,0,0,true⟩),(2,⟨d,0,false,0,0,false⟩),(3,⟨e,0,false,0,0,true⟩),(4,⟨f,0,false,0,0,true⟩),(5,⟨[.str [120],.bool false,ω 1,ω 0],0,false,0,4,true⟩),(6,⟨g,0,false,0,4,true⟩),(7,⟨h,0,false,0,12,true⟩)],.dead,[]⟩
abbrev X3 (a:List UInt8) (b:Bool):St:=⟨[(0,.str a),(2,ω 0),(3,.bool false),(4,ω 0),(5,ω 0),(20,.bool b),(24,.dead)],[],.dead,[]⟩
abbrev X4:St:=⟨[(6,.ptr 0 0 0)],[(0,⟨[.bool false,ω 0,ω 0],0,false,0,0,true⟩)],.dead,[]⟩
abbrev X5 (a:AV) (b:Int) (c:List UInt8):St:=⟨[(0,a),(1,ω b),(2,.str c),(6,.ptr 0 0 0),(7,.bool false),(8,ω 0),(9,.dead),(13,.dead),(48,.dead)],[(0,⟨[.bool false,ω 0,ω 0],0,false,0,0,true⟩)],.dead,[]⟩
abbrev X6 (a:Int) (b:AV) (c d:Nat) (e f:List AV):St:=⟨[(1,ω a),(3,.ptr 0 0 0),(5,.ptr 1 0 0),(7,.nilS),(23,b),(24,ω (c:Int)),(25,ω (d:Int))],[(0,⟨e,0,false,0,0,true⟩),(1,⟨f,0,false,0,0,true⟩)],.dead,[]⟩
abbrev X7 (a:AV) (b:Int) (c:AV) (d:Bool) (e:AV) (f:Nat) (g h:List AV):St:=⟨[(0,a),(1,ω b),(2,c),(3,.ptr 0 0 0),(5,.ptr 1 0 0),(6,.nilS),(7,.nilS),(9,.dead),(10,.dead),(11,.dead),(16,.bool d),(23,e),(24,ω (f:Int)),(25,ω 0),(26,.dead),(36,.dead),(39,.dead),(50,.dead)],[(0,⟨g,0,false,0,0,true⟩),(1,⟨h,0,false,0,0,true⟩)],.dead,[]⟩
abbrev X8 (a:Int) (b c:Nat) (d e:List AV):St:=⟨[(1,ω a),(2,.ptr 0 0 0),(5,.ref 1 0 0 b),(9,ω (c:Int))],[(0,⟨d,0,false,0,0,true⟩),(1,⟨e,0,false,0,2,true⟩)],.dead,[]⟩
abbrev X9 (a b:Nat) (c d:List AV):St:=⟨[(0,.ref 0 0 0 a),(1,.fn 58 [] [.ptr 1 0 0]),(4,ω 0),(5,.dead),(7,ω (b:Int)),(8,ω 0),(9,.dead),(16,.dead)],[(0,⟨c,0,false,0,2,true⟩),(1,⟨[.mr 2 0],0,false,0,0,false⟩),(2,⟨d,0,false,0,4611686018427387904,true⟩)],.dead,[]⟩
abbrev X_ (a b:AV) (c:Nat):St:=⟨[(0,a),(1,b),(4,ω 0),(5,.dead),(7,ω (c:Int)),(8,ω 0),(9,.dead),(16,.dead)],[],.dead,[]⟩
abbrev Ya (a:AV) (b c:List AV):St:=⟨[(2,a),(3,.ptr 0 0 0),(4,.ptr 1 0 0)],[(0,⟨b,0,false,0,0,true⟩),(1,⟨c,0,false,0,0,true⟩)],.dead,[]⟩
abbrev Yb (a:AV) (b c d:List AV):St:=⟨[(2,a),(3,.ptr 0 0 0),(4,.ptr 1 0 0),(7,.mr 2 0)],[(0,⟨b,0,false,0,0,true⟩),(1,⟨c,0,false,0,0,true⟩),(2,⟨d,0,false,0,4611686018427387904,true⟩)],.dead,[]⟩
abbrev Yc (a b c:List AV):St:=⟨[(3,.ptr 0 0 0),(4,.ptr 1 0 0),(13,.ptr 2 0 0)],[(0,⟨a,0,false,0,0,true⟩),(1,⟨b,0,false,0,0,true⟩),(2,⟨[.mr 3 0],0,false,0,0,false⟩),(3,⟨c,0,false,0,4611686018427387904,true⟩)],.dead,[]⟩
abbrev Yd (a b c:Nat) (d:List AV):St:=⟨[(0,.ref 0 0 0 a),(1,ω 0),(2,ω (b:Int)),(3,.fn 41 [] []),(8,ω (c:Int))],[(0,⟨d,0,false,0,2,true⟩)],.dead,[]⟩
abbrev Ye (a b:Nat) (c:Int) (d e:AV) (f:List AV):St:=⟨[(0,.ref 0 0 0 a),(1,ω 0),(2,ω (b:Int)),(3,.fn 41 [] []),(8,ω c),(9,d),(14,e),(34,.dead)],[(0,⟨f,0,false,0,2,true⟩)],.dead,[]⟩
abbrev Yf (a:AV) (b c:Nat) (d:Bool) (e:Nat) (f g:Bool) (h i j:List AV):St:=⟨[(0,a),(2,.ptr 0 0 0),(3,.ptr 1 0 0),(4,.ptr 2 0 0),(5,.dead),(6,ω (b:Int)),(7,ω (c:Int)),(8,.ptr 3 0 0),(9,.ptr 4 0 0),(10,.bool d),(11,ω (e:Int)),(12,ω 0),(13,.dead),(14,.dead),(15,.dead),(39,.bool f),(57,.bool g),(69,.dead),(74,.dead),(89,.dead),(97,.dead),(115,.dead)],[(0,⟨[.nilS,.nilS,.nilS],0,false,0,0,true⟩),(1,⟨[.bool false,ω 1,ω 0],0,false,0,0,true⟩),(2,⟨[.ref 5 0 0 1,.ref 6 0 0 1,.nilS],0,false,0,0,false⟩),(3,⟨h,0,false,0,0,true⟩),(4,⟨i,0,false,0,0,false⟩),(5,⟨[.str [120],.bool false,ω 1,ω 0],0,false,0,4,true⟩),(6,⟨j,0,false,0,4,true⟩),(7,⟨[ω 5,.bool false,.str [],.str [],.str [120]],0,false,0,5,true⟩)],.dead,[]⟩
abbrev Yg (a:AV) (b c:Nat) (d:Bool) (e:Nat) (f g:Bool) (h i j k l:List AV):St:=⟨[(0,a),(2,.ptr 0 0 0),(3,.ptr 1 0 0),(4,.ptr 2 0 0),(5,.dead),(6,ω (b:Int)),(7,ω (c:Int)),(8,.ptr 3 0 0),(9,.ptr 4 0 0),(10,.bool d),(11,ω (e:Int)),(12,ω 0),(13,.dead),(14,.dead),(15,.dead),(39,.bool f),(57,.bool g),(69,.dead),(74,.dead),(89,.dead),(97,.dead),(115,.dead)],[(0,⟨[.nilS,.nilS,.nilS],0,false,0,0,true⟩),(1,⟨[.bool false,ω 1,ω 0],0,false,0,0,true⟩),(2,⟨h,0,false,0,0,false⟩),(3,⟨i,0,false,0,0,true⟩),(4,⟨j,0,false,0,0,false⟩),(5,⟨[.str [120],.bool false,ω 1,ω 0],0,false,0,4,true⟩),(6,⟨k,0,false,0,4,true⟩),(7,⟨l,0,false,0,12,true⟩),(8,⟨[ω 5,.bool false,.str [],.str [],.str [120]],0,false,0,5,true⟩)],.dead,[]⟩
abbrev Yh:St:=⟨[(1,.ptr 0 0 0)],[(0,⟨[.sl [.str [98],.bool false,ω 0,ω 0] 1 true,.nilS,.sl [.str [97],.bool false,ω 0,ω 0,.sl [ω 5,.bool false,.str [],.str [],.str [98]] 1 true,.bool false,.bool false,.str [1],.str [1],.bool false,.str [9],.str [1]] 1 true],0,false,0,0,true⟩)],.dead,[]⟩
abbrev Yi (a b:Nat) (c d:List AV):St:=⟨[(1,.ptr 0 0 0),(3,.ref 1 0 0 a),(5,ω (b:Int))],[(0,⟨c,0,false,0,0,true⟩),(1,⟨d,0,false,0,5,true⟩)],.dead,[]⟩
abbrev LB (n b:Nat) (f:Func):St→aY→St→Prop:=bg prog ap [] n (.block b (.loop (au b (ag f))))
end Go.Proofs.Tryz
set_option maxRecDepth 100000
set_option linter.unusedVariables false
open Go AM
namespace AM
variable {P:Program} {ap:AP}
theorem aJ.goD {α σ β:Type} {h0:List aP} {nt:Nat} {b:Code} {e:β→aY} {st:Nat × σ→St} {out:β→St} (F:σ→α→σ ⊕ β) (a:σ→β) (L:List α) (Inv:List α→σ→Prop)
  (hstep:∀ p x r s,L=p++x::r→Inv p s→(∃ s',F s x= .inl s'∧ak P ap h0 nt b (st (p.length,s)) .normal (st (p.length+1,s'))∧Inv (p++ [x]) s')∨∃ q,F s x= .inr q∧ak P ap h0 nt b (st (p.length,s)) (e q) (out q))
  (hend:∀ s,Inv L s→ak P ap h0 nt b (st (L.length,s)) (e (a s)) (out (a s))) (s:σ) (h:Inv [] s):aJ P ap h0 nt b e st out (0,s) (AM.goL F a L s):=by
 refine aJ.goL F a L Inv ?_ hend L [] s rfl h;intro p x r s f g;rcases hstep p x r s f g with ⟨s',c,d,i⟩|⟨q,c,d⟩
 ·rw [c];exact ⟨d,i⟩
 ·rw [c];exact d
end AM
namespace Go.Proofs.Tryz
theorem dY {α:Type} {f:α→List AV} {n:Nat} (a:∀ x,(f x).length=n) (l:List α):(l.flatMap f).length=l.length*n:=by
 induction l with
 |nil=>simp
 |cons x r ih=>rw [Xqa,ξ,ih,a,Γ,Xwf];omega
theorem eH {α:Type} {f:α→List AV} {n:Nat} (a:∀ x,(f x).length=n) {p r l:List α} {x:α} (h:l=p++x::r):ε (γ (p.length:Int)*n) (l.flatMap f)=f x++r.flatMap f:=by
 subst h;rw [aS,Xql,← dY a p,Xza,Xqa]
theorem Lc {α:Type} {f:α→List AV} {n:Nat} (c:∀ x,(f x).length=n) {l:List α} {k:Nat} {x:α} (h:l[k]? =some x):ε (γ (k:Int)*n) (l.flatMap f)=f x++(l.drop (k+1)).flatMap f:=by
 have b:k<l.length:=(List.getElem?_eq_some_iff.1 h).1;have e:l=l.take k++x::l.drop (k+1):=by
  have a:l[k]=x:=(List.getElem?_eq_some_iff.1 h).2;rw [← a,← Xjz b,List.take_append_drop]
 have d:(l.take k).length=k:=by rw [List.length_take];omega
 have:=eH c (p:=l.take k) e;rwa [d] at this
theorem eP {α:Type} {f:α→List AV} {n:Nat} (a:∀ x,(f x).length=n) (l:List α) (x:α) {k:Nat} (h:l.length=k):μ (k*n) (l.flatMap f)++f x=(l++ [x]).flatMap f:=by
 rw [τ (by rw [dY a,h];exact ζ _),Xql,Xqa,List.flatMap_nil,ο]
theorem k0 (k:Nat):decide (((0:Nat):Int)≤(k:Int))=true:=Yq0 (by omega)
theorem kl {k n:Nat} (h:k<n):decide ((k:Int)<(n:Int))=true:=Yq0 (by omega)
theorem kn {k n:Nat} (h:n≤k):decide ((k:Int)<(n:Int))=false:=Yq1 (by omega)
theorem mP {α:Type} {p r l:List α} {x:α} (h:l=p++x::r):p.length<l.length:=by subst h;simp
theorem wpS {k:Nat} (h:k<2^62):ω (η .i64 ((k:Int)+((1:Nat):Int)))= ω ((k+1:Nat):Int):=by
 have e:η .i64 ((k:Int)+((1:Nat):Int))=((k+1:Nat):Int):=by rw [dP]<;>omega
 rw [e]
theorem dA (l:List Cl):(cL l).length=l.length*2:=dY (n:=2) (fun _=>rfl) l
structure Nd where
 op:Int
 neg:Bool
 num:List UInt8
 den:List UInt8
 name:List UInt8
def OA (x:Nd):List AV:= [ω x.op,.bool x.neg,.str x.num,.str x.den,.str x.name]
def bT (l:List Nd):List AV:=l.flatMap OA
theorem nd5 (x:Nd):(OA x).length=5:=rfl
structure Pv where
 nm:List UInt8
 tr:Bool
 tm:Int
 td:Int
 body:List Nd
 ch:Bool
 sn:Bool
 sa:List UInt8
 sd:List UInt8
 cn:Bool
 ca:List UInt8
 cd:List UInt8
def vZ (x:Pv):List AV:= [.str x.nm,.bool x.tr,ω x.tm,ω x.td,.sl (bT x.body) x.body.length false,.bool x.ch,.bool x.sn,.str x.sa,.str x.sd,.bool x.cn,.str x.ca,.str x.cd]
def bQ (l:List Pv):List AV:=l.flatMap vZ
theorem Rf (x:Pv):(vZ x).length=12:=rfl
structure Lw where
 fx:List AV
 fn:Nat
 sx:List AV
 sn:Nat
 ps:List Pv
abbrev Lw.c (L:Lw) (a b c:Bool):List AV:= [.sl L.fx L.fn a,.sl L.sx L.sn b,.sl (bQ L.ps) L.ps.length c]
end Go.Proofs.Tryz
set_option maxRecDepth 100000
set_option linter.unusedVariables false
open Go AM
namespace Go.Proofs.Tryz
theorem xg (x:Int):CO 142 [ω x] (.ret (.bool false)):=by
 have h:CO 142 [ω x] (.ret (.bool (!(x==x)))):=pK [] 0 0 .nil .nil;rwa [show (!(x==x))=false by simp] at h
def Df (x y:Int):Int:=if x<y then -1 else if y<x then 1 else 0
theorem YH (x y:Int):CO 93 [ω x,ω y] (.ret (ω (Df x y))):=by
 rcases tf (decide (x<y)) with b0|b0
 ·have e:Df x y=(-1):=by
   simp only [decide_eq_true_eq,decide_eq_false_iff_not] at b0;simp only [Df]
   first|(rw [if_pos (by omega)];done)|(rw [if_neg (by omega),if_pos (by omega)];done)|(rw [if_neg (by omega),if_neg (by omega)];done)
  rw [e];exact pK [] 3 4 (.c (ai b0) (.n 2 .nil)) (.c (xg y) (.c (xg x) .nil))
 ·rcases tf (decide (y<x)) with b1|b1
  ·have e:Df x y=1:=by
    simp only [decide_eq_true_eq,decide_eq_false_iff_not] at b0 b1;simp only [Df]
    first|(rw [if_pos (by omega)];done)|(rw [if_neg (by omega),if_pos (by omega)];done)|(rw [if_neg (by omega),if_neg (by omega)];done)
   rw [e];exact pK [] 4 8 (.c (ai b1) (.c (aj b0) (.n 2 .nil))) (.c (xg y) (.c (xg x) .nil))
  ·have e:Df x y=0:=by
    simp only [decide_eq_true_eq,decide_eq_false_iff_not] at b0 b1;simp only [Df]
    first|(rw [if_pos (by omega)];done)|(rw [if_neg (by omega),if_pos (by omega)];done)|(rw [if_neg (by omega),if_neg (by omega)];done)
   rw [e];exact pK [] 4 0 (.c (aj b1) (.c (aj b0) (.n 2 .nil))) (.c (xg y) (.c (xg x) .nil))
theorem ab6 (x y:Int):CO 92 [.sl [ω x,ω y] 2 true] (.ret (ω (if x=0 then y else x))):=by
 rcases tf (x==((0:Nat):Int)) with b0|b0
 ·rcases tf (y==((0:Nat):Int)) with b1|b1
  ·have e:(if x=0 then y else x)=0:=by
    simp only [beq_iff_eq,Yq2] at b0 b1;split<;>simp_all
   rw [e];exact pK [] 5 5 (.k 1 (dM b1) (.k 4 (dM b0) (.n 4 .nil))) (.nil)
  ·have e:(if x=0 then y else x)=y:=by
    simp only [beq_iff_eq,Yq2] at b0 b1;split<;>simp_all
   rw [e];exact pK [] 4 13 (.c (fK b1) (.k 4 (dM b0) (.n 4 .nil))) (.nil)
 ·have e:(if x=0 then y else x)=x:=by
   simp only [beq_iff_eq,Yq2] at b0;split<;>simp_all
  rw [e];exact pK [] 2 3 (.c (fK b0) (.n 4 .nil)) (.nil)
def lI (c:Cl):Prop:=0≤c.1∧c.1≤1
def sK (c d:Cl):Bool:=decide (c.1<d.1)||((c.1==d.1) && decide (c.2<d.2))
theorem zW (c d:Cl) (b:lI c) (e:lI d):∃ r:Int,decide (r<((0:Nat):Int))=sK c d∧CO 41 [cA c,cA d] (.ret (ω r)):=by
 obtain ⟨g,j⟩:=b;obtain ⟨i,f⟩:=e;have a:ω (η .i64 (c.1 - d.1))= ω (c.1 - d.1):=by rw [dP]<;>omega
 refine ⟨if c.1 - d.1=0 then Df c.2 d.2 else c.1 - d.1, ?_,pK [] 0 0 (.n 4 .nil) (.c (ab6 (c.1 - d.1) (Df c.2 d.2)) (.c (YH c.2 d.2) (.v 9 (.eq a) .nil)))⟩;unfold sK Df;by_cases h:c.1=d.1
 ·rw [if_pos (by omega),h];simp;split
  ·simp [*]
  ·split<;>simp [*]
 ·rw [if_neg (by omega)];have:(c.1==d.1)=false:=by simp [h]
  rw [this];simp;omega
def aK (s n:Int) (x:Cl):Bool:=((s==1)||(s==2)) && (decide (0≤x.1) && (decide (x.1<s) && (decide (0≤x.2) && decide (x.2<n))))
theorem lC (L:Lw) (a b c:Bool) (s:Int) (x:Cl):CO 38 [.agg (L.c a b c),ω s,cA x] (.ret (.bool (aK s L.ps.length x))):=by
 rcases tf (s==((1:Nat):Int)) with b0|b0
 ·rcases tf (decide (((0:Nat):Int)≤x.1)) with b1|b1
  ·rcases tf (decide (x.1<s)) with b2|b2
   ·rcases tf (decide (((0:Nat):Int)≤x.2)) with b3|b3
    ·have e:aK s L.ps.length x=(decide (x.2<(L.ps.length:Int))):=by
      unfold aK;have j:(((0:Nat):Int))=0:=rfl;have h:(((1:Nat):Int))=1:=rfl;have i:(((2:Nat):Int))=2:=rfl;have d:=b0;(try simp only [j,h,i] at d);rw [d];have f:=b1;(try simp only [j,h,i] at f);rw [f];have g:=b2;(try simp only [j,h,i] at g);rw [g];have k:=b3;(try simp only [j,h,i] at k);rw [k]
      first|rfl|simp
     rw [e];exact pK [] 5 31 (.k 2 (ai b3) (.k 1 (ai b2) (.k 1 (ai b1) (.k 2 (ai b0) .nil)))) (.nil)
    ·have e:aK s L.ps.length x=false:=by
      unfold aK;have j:(((0:Nat):Int))=0:=rfl;have h:(((1:Nat):Int))=1:=rfl;have i:(((2:Nat):Int))=2:=rfl;have d:=b0;(try simp only [j,h,i] at d);rw [d];have f:=b1;(try simp only [j,h,i] at f);rw [f];have g:=b2;(try simp only [j,h,i] at g);rw [g];have k:=b3;(try simp only [j,h,i] at k);rw [k]
      first|rfl|simp
     rw [e];exact pK [] 5 15 (.c (aj b3) (.k 1 (ai b2) (.k 1 (ai b1) (.k 2 (ai b0) .nil)))) (.nil)
   ·have e:aK s L.ps.length x=false:=by
     unfold aK;have j:(((0:Nat):Int))=0:=rfl;have h:(((1:Nat):Int))=1:=rfl;have i:(((2:Nat):Int))=2:=rfl;have d:=b0;(try simp only [j,h,i] at d);rw [d];have f:=b1;(try simp only [j,h,i] at f);rw [f];have g:=b2;(try simp only [j,h,i] at g);rw [g]
     first|rfl|simp
    rw [e];exact pK [] 5 7 (.k 1 (aj b2) (.k 1 (ai b1) (.k 2 (ai b0) .nil))) (.nil)
  ·have e:aK s L.ps.length x=false:=by
    unfold aK;have j:(((0:Nat):Int))=0:=rfl;have h:(((1:Nat):Int))=1:=rfl;have i:(((2:Nat):Int))=2:=rfl;have d:=b0;(try simp only [j,h,i] at d);rw [d];have f:=b1;(try simp only [j,h,i] at f);rw [f]
    first|rfl|simp
   rw [e];exact pK [] 5 3 (.k 2 (aj b1) (.k 2 (ai b0) .nil)) (.nil)
 ·rcases tf (s==((2:Nat):Int)) with b1|b1
  ·rcases tf (decide (((0:Nat):Int)≤x.1)) with b2|b2
   ·rcases tf (decide (x.1<s)) with b3|b3
    ·rcases tf (decide (((0:Nat):Int)≤x.2)) with b4|b4
     ·have e:aK s L.ps.length x=(decide (x.2<(L.ps.length:Int))):=by
       unfold aK;have j:(((0:Nat):Int))=0:=rfl;have h:(((1:Nat):Int))=1:=rfl;have i:(((2:Nat):Int))=2:=rfl;have d:=b0;(try simp only [j,h,i] at d);rw [d];have f:=b1;(try simp only [j,h,i] at f);rw [f];have g:=b2;(try simp only [j,h,i] at g);rw [g];have k:=b3;(try simp only [j,h,i] at k);rw [k];have l:=b4;(try simp only [j,h,i] at l);rw [l]
       first|rfl|simp
      rw [e];exact pK [] 5 30 (.k 2 (ai b4) (.k 1 (ai b3) (.k 1 (ai b2) (.k 1 (ai b1) (.c (aj b0) .nil))))) (.nil)
     ·have e:aK s L.ps.length x=false:=by
       unfold aK;have j:(((0:Nat):Int))=0:=rfl;have h:(((1:Nat):Int))=1:=rfl;have i:(((2:Nat):Int))=2:=rfl;have d:=b0;(try simp only [j,h,i] at d);rw [d];have f:=b1;(try simp only [j,h,i] at f);rw [f];have g:=b2;(try simp only [j,h,i] at g);rw [g];have k:=b3;(try simp only [j,h,i] at k);rw [k];have l:=b4;(try simp only [j,h,i] at l);rw [l]
       first|rfl|simp
      rw [e];exact pK [] 5 14 (.c (aj b4) (.k 1 (ai b3) (.k 1 (ai b2) (.k 1 (ai b1) (.c (aj b0) .nil))))) (.nil)
    ·have e:aK s L.ps.length x=false:=by
      unfold aK;have j:(((0:Nat):Int))=0:=rfl;have h:(((1:Nat):Int))=1:=rfl;have i:(((2:Nat):Int))=2:=rfl;have d:=b0;(try simp only [j,h,i] at d);rw [d];have f:=b1;(try simp only [j,h,i] at f);rw [f];have g:=b2;(try simp only [j,h,i] at g);rw [g];have k:=b3;(try simp only [j,h,i] at k);rw [k]
      first|rfl|simp
     rw [e];exact pK [] 5 6 (.k 1 (aj b3) (.k 1 (ai b2) (.k 1 (ai b1) (.c (aj b0) .nil)))) (.nil)
   ·have e:aK s L.ps.length x=false:=by
     unfold aK;have j:(((0:Nat):Int))=0:=rfl;have h:(((1:Nat):Int))=1:=rfl;have i:(((2:Nat):Int))=2:=rfl;have d:=b0;(try simp only [j,h,i] at d);rw [d];have f:=b1;(try simp only [j,h,i] at f);rw [f];have g:=b2;(try simp only [j,h,i] at g);rw [g]
     first|rfl|simp
    rw [e];exact pK [] 5 2 (.k 2 (aj b2) (.k 1 (ai b1) (.c (aj b0) .nil))) (.nil)
  ·have e:aK s L.ps.length x=false:=by
    unfold aK;have j:(((0:Nat):Int))=0:=rfl;have h:(((1:Nat):Int))=1:=rfl;have i:(((2:Nat):Int))=2:=rfl;have d:=b0;(try simp only [j,h,i] at d);rw [d];have f:=b1;(try simp only [j,h,i] at f);rw [f]
    first|rfl|simp
   rw [e];exact pK [] 5 0 (.k 3 (aj b1) (.c (aj b0) .nil)) (.nil)
theorem LV (c d:Cl) (h:sK c d=true):sK d c=false:=by
 simp only [sK,Xxf,δ,decide_eq_true_eq,beq_iff_eq,Bool.or_eq_false_iff,decide_eq_false_iff_not] at h ⊢;refine ⟨by omega, ?_⟩;by_cases e:d.1=c.1
 ·simp [e];omega
 ·simp [e]
def mO:List Cl→Cl→List Cl→List Cl
 | [],y,r=>y::r
 |x::q,y,r=>if sK y x then mO q y (x::r) else (x::q).reverse++y::r
def qI:List Cl→List Cl→List Cl
 |p,[]=>p
 |p,y::r=>qI (mO p.reverse y []) r
def jb:List Cl→List Cl
 | []=> []
 |x::l=>qI [x] l
abbrev cB (l:List Cl):aP:=⟨cL l,0,false,0,2,true⟩
theorem TQ {k:Nat} (a:k<2^62):ω (η .i64 ((((k+1):Nat):Int) - ((1:Nat):Int)))= ω (k:Int):=by
 have e:η .i64 ((((k+1):Nat):Int) - ((1:Nat):Int))=(k:Int):=by rw [dP]<;>omega
 rw [e]
theorem oK {a b n:Nat} (h:b=n) (c:a≤n):a≤b:=h ▸ c
theorem dw {a b:Nat} (h:a≤b):Ψ a b=true:=Nat.ble_eq_true_of_le h
theorem SI {L p r:List Cl} {x z:Cl} (b:L=p++x::r):μ ((0+(γ (p.length:Int)))*2) (cL L)++cC z++ε (((0+(γ (p.length:Int)))*2)+2) (cL L)=cL (p++z::r):=by
 subst b;rw [aS,Θ];have a:(cL p).length=p.length*2:=dA p;have e:cL (p++x::r)=cL p++(cC x++cL r):=by simp [cL]
 rw [e,Xjn a,List.drop_append,Xq0 (by omega),a,show p.length*2+2 - p.length*2=(cC x).length by simp [cC],Xza];simp [cL]
theorem pU {L p r:List Cl} {x:Cl} (a:L=p++x::r):ε ((0+(γ (p.length:Int)))*2) (cL L)=cC x++cL r:=by
 rw [Θ];exact eH (n:=2) (fun _=>rfl) a
theorem UJ {p r:List Cl} {x y:Cl}:(p++x::y::r).length=p.length+r.length+2:=by simp;omega
def O9 (n i k:Nat) (L:List Cl):St:=⟨[(0,.ref 0 0 0 n),(1,ω 0),(2,ω (n:Int)),(3,.fn 41 [] []),(8,ω (i:Int)),(9,ω (k:Int))],[(0,⟨(cL L),0,false,0,2,true⟩)],.dead,[]⟩
theorem YV {nt:Nat} (A:53≤nt) (L0 p r:List Cl) (x y:Cl) (n i:Nat) (hs:(p++x::y::r).length=n) (D:n<2^40) (h:lI x) (j:lI y) (l:sK y x=true):
  ak prog ap [cB L0] nt (au 2 (ag f132)) (O9 n i (p.length+1) (p++x::y::r)) .normal (O9 n i p.length (p++y::x::r)):=by
 obtain ⟨q,t,v⟩:=zW y x j h;rw [l] at t;have e:=pU (L:=p++x::y::r) (p:=p) (x:=x) (r:=y::r) rfl;have f:ε ((0+(γ (((p.length+1):Nat):Int)))*2) (cL (p++x::y::r))=cC y++cL r:=by
  have:=pU (L:=p++x::y::r) (p:=p++ [x]) (x:=y) (r:=r) (by simp);simpa using this
 have d:p.length<2^62:=by rw [UJ] at hs;omega
 have u:p.length+1<n:=by rw [← hs,UJ];omega
 have c:(cL (p++x::y::r)).length=n*2:=by rw [dA,hs]
 have B:(decide (((0:Nat):Int)<(((p.length+1):Nat):Int)))=true:=Yq0 (by omega);have s:μ ((0+(γ (((p.length+1):Nat):Int)))*2) (cL (p++x::y::r))++cC x++ε (((0+(γ (((p.length+1):Nat):Int)))*2)+2) (cL (p++x::y::r))=cL (p++x::x::r):=by
  have:=SI (L:=p++x::y::r) (p:=p++ [x]) (x:=y) (r:=r) (z:=x) (by simp);simpa using this
 have g:=SI (L:=p++x::x::r) (p:=p) (x:=x) (r:=x::r) (z:=y) rfl;have hlen2:(cL (p++x::x::r)).length=n*2:=by rw [dA,← hs];simp
 rw [← s] at g hlen2;unfold O9;rw [← g];clear s g hs;generalize C:p++x::y::r=L at*
 generalize p.length=k at*
 have o:(Ψ (((0+(γ (k:Int)))*2)+2) (κ (μ ((0+(γ (((k+1):Nat):Int)))*2) (cL L)++ [ω x.1,ω x.2]++ε (((0+(γ (((k+1):Nat):Int)))*2)+2) (cL L))))=true:=(dw (oK hlen2 (by omega)))
 have a:(decide ((k:Int)<(n:Int)))=true:=(kl (by omega))
 have m:(Ψ (((0+(γ (((k+1):Nat):Int)))*2)+2) (κ (cL L)))=true:=(dw (oK c (by omega)))
 have b:(decide ((((k+1):Nat):Int)<(n:Int)))=true:=(kl (by omega))
 exact pN 132 [] 2 3 (.c o (.k 1 a (.c m (.k 1 b (.a (bP [.int .i64,.int .i64] f rfl) (.k 1 b (.a (bP [.int .i64,.int .i64] e rfl) (.k 1 a (.c (ai t) (.a (bP [.int .i64,.int .i64] e rfl) (.k 1 a (.a (bP [.int .i64,.int .i64] f rfl) (.k 1 b (.c (ai B) .nil)))))))))))))) (.v 36 (.eq (TQ d)) (.v 50 (.rd [.int .i64,.int .i64] f rfl) (.v 46 (.rd [.int .i64,.int .i64] e rfl) (.v 44 (.eq (TQ d)) (.v 41 (.eq (TQ d)) (.c v (.v 31 (.rd [.int .i64,.int .i64] e rfl) (.v 29 (.eq (TQ d)) (.v 26 (.rd [.int .i64,.int .i64] f rfl) .nil))))))))) A
theorem YX {nt:Nat} (s:53≤nt) (L0 p r:List Cl) (x y:Cl) (n i:Nat) (hs:(p++x::y::r).length=n) (v:n<2^40) (a:lI x) (c:lI y) (d:sK y x=false):
  ak prog ap [cB L0] nt (au 2 (ag f132)) (O9 n i (p.length+1) (p++x::y::r)) (.exit 2) ⟨[(0,.ref 0 0 0 n),(1,ω 0),(2,ω (n:Int)),(3,.fn 41 [] []),(8,ω (i:Int))],[(0,cB (p++x::y::r))],.dead,[]⟩:=by
 obtain ⟨q,f,o⟩:=zW y x c a;rw [d] at f;have j:=pU (L:=p++x::y::r) (p:=p) (x:=x) (r:=y::r) rfl;have g:ε ((0+(γ (((p.length+1):Nat):Int)))*2) (cL (p++x::y::r))=cC y++cL r:=by
  have:=pU (L:=p++x::y::r) (p:=p++ [x]) (x:=y) (r:=r) (by simp);simpa using this
 have m:p.length<2^62:=by rw [UJ] at hs;omega
 have l:p.length+1<n:=by rw [← hs,UJ];omega
 have h:(cL (p++x::y::r)).length=n*2:=by rw [dA,hs]
 have t:(decide (((0:Nat):Int)<(((p.length+1):Nat):Int)))=true:=Yq0 (by omega);clear hs;unfold O9;generalize u:p++x::y::r=L at*
 generalize p.length=k at*
 have b:(decide ((k:Int)<(n:Int)))=true:=(kl (by omega))
 have e:(decide ((((k+1):Nat):Int)<(n:Int)))=true:=(kl (by omega))
 exact pN 132 [] 2 1 (.c (aj f) (.a (bP [.int .i64,.int .i64] j rfl) (.k 1 b (.a (bP [.int .i64,.int .i64] g rfl) (.k 1 e (.c (ai t) .nil)))))) (.c o (.v 31 (.rd [.int .i64,.int .i64] j rfl) (.v 29 (.eq (TQ m)) (.v 26 (.rd [.int .i64,.int .i64] g rfl) .nil)))) s
theorem abJ {nt:Nat} (a:53≤nt) (L0 L:List Cl) (n i:Nat):
  ak prog ap [cB L0] nt (au 2 (ag f132)) (O9 n i 0 L) (.exit 2) ⟨[(0,.ref 0 0 0 n),(1,ω 0),(2,ω (n:Int)),(3,.fn 41 [] []),(8,ω (i:Int))],[(0,cB L)],.dead,[]⟩:=pN 132 [] 2 0 (.n 2 .nil) (.nil) a
theorem Hy {nt:Nat} (a:53≤nt) (L0:List Cl) (n i:Nat) (b:n<2^40) (y:Cl) (c:lI y):∀ (q r:List Cl),(∀ x ∈ q,lI x)→(q.reverse++y::r).length=n→
  aJ prog ap [cB L0] nt (au 2 (ag f132)) (fun _=> .exit 2) (fun p:List Cl × List Cl=>O9 n i p.1.length (p.1.reverse++y::p.2)) (fun L=> ⟨[(0,.ref 0 0 0 n),(1,ω 0),(2,ω (n:Int)),(3,.fn 41 [] []),(8,ω (i:Int))],[(0,cB L)],.dead,[]⟩) (q,r) (mO q y r)
 | [],r,_,_=> .done (abJ a L0 (y::r) n i)
 | x::q,r,hq,hs=>by
  have d:=hq x (by simp);have e:(x::q).reverse++y::r=q.reverse++x::y::r:=by simp
  rw [e] at hs;unfold mO;cases h:sK y x with
  |true=>
   rw [if_pos rfl];refine .next (a':=(q,x::r)) ?_ (Hy a L0 n i b y c q (x::r) (fun z f=>hq z (by simp [f])) (by simpa using hs))
   have:=YV a L0 q.reverse r x y n i hs b d c h;show ak _ _ _ _ _ (O9 n i (q.length+1) ((x::q).reverse++y::r)) _ (O9 n i q.length (q.reverse++y::x::r));rw [e];simpa using this
  |false=>
   rw [if_neg (by simp)];refine .done ?_;have:=YX a L0 q.reverse r x y n i hs b d c h;show ak _ _ _ _ _ (O9 n i (q.length+1) ((x::q).reverse++y::r)) _ _;rw [e];simpa using this
theorem Hu:∀ (q:List Cl) (y:Cl) (r s:List Cl),mO q y (r++s)=mO q y r++s
 | [],y,r,s=>by simp [mO]
 |x::q,y,r,s=>by
  unfold mO;cases sK y x with
  |true=>rw [if_pos rfl,if_pos rfl,← Hu q y (x::r) s];rfl
  |false=>rw [if_neg (by simp),if_neg (by simp)];simp
theorem wU:∀ (q:List Cl) (y:Cl) (r:List Cl),(mO q y r).Perm (q.reverse++y::r)
 | [],y,r=>by simp [mO]
 | x::q,y,r=>by
  unfold mO;cases sK y x with
  |true=>
   rw [if_pos rfl];refine (wU q y (x::r)).trans ?_;rw [List.reverse_cons,Δ];exact List.Perm.append_left _ (List.Perm.swap x y r)
  |false=>rw [if_neg (by simp)]
theorem xY:∀ (r p:List Cl),(qI p r).Perm (p++r)
 | [],p=>by simp [qI]
 |y::r,p=>by
  unfold qI;refine (xY r _).trans ?_;have:=(wU p.reverse y []).append_right r;simpa using this
theorem uy (l:List Cl):(jb l).Perm l:=by
 cases l with
 |nil=>exact List.Perm.refl _
 |cons x l=>exact xY l [x]
def BG (n k:Nat) (L:List Cl):St:=(Yd n n k (cL L))
theorem Zj {nt:Nat} (d:53≤nt) (L0 p r:List Cl) (y:Cl) (n:Nat) (hs:(p++y::r).length=n) (c:n<2^40) (hp:∀ x ∈ p,lI x) (h:lI y):
  ak prog ap [cB L0] nt (au 0 (ag f132)) (BG n p.length (p++y::r)) .normal (BG n (p.length+1) (mO p.reverse y []++r)):=by
 have f:p.length<2^62:=by rw [← hs] at c;simp at c;omega
 have e:p.length<n:=by rw [← hs];simp
 have i:(decide ((p.length:Int)<(n:Int)))=true:=Yq0 (by omega);have a:=aJ.blk (id:=2) (e':= .normal) (s:=O9 n p.length p.length (p++y::r)) (s':=⟨[(0,.ref 0 0 0 n),(1,ω 0),(2,ω (n:Int)),(3,.fn 41 [] []),(8,ω (p.length:Int))],[(0,cB (mO p.reverse y r))],.dead,[]⟩) (fun nt (d:53≤nt)=>Hy d L0 n p.length c y h p.reverse r (fun x j=>hp x (by simpa using j)) (by simpa using hs)) (by simp) rfl
  (by simpa using aI.refl _) (aI.refl _)
 rw [← θ r,Hu p.reverse y [] r,θ] at a;unfold O9 at a;unfold BG;generalize l:p++y::r=L at*
 generalize mO p.reverse y []++r=L2 at*
 generalize p.length=k at*
 have g:bg prog ap [cB L0] 53 (.block 2 (.loop (au 2 (ag f132)))) (Ye n n (k:Int) (ω (k:Int)) (.bool (decide ((k:Int)<(n:Int)))) (cL L)) (.normal) (Yd n n k (cL L2)):=(fun nt b=>(a nt b).weak (aI.of ⟨rfl,rfl,rfl,rfl,rfl,rfl,trivial⟩) (aI.refl _))
 exact pN 132 [2] 1 1 (.c (ai i) .nil) (.v 16 (.eq (wpS f)) (.l g .nil)) d
theorem MI {nt:Nat} (a:53≤nt) (L0 L:List Cl) (n k:Nat) (h:n≤k):ak prog ap [cB L0] nt (au 0 (ag f132)) (BG n k L) (.exit 0) ⟨[],[(0,cB L)],.dead,[]⟩:=by
 have b:(decide ((k:Int)<(n:Int)))=false:=Yq1 (by omega);exact pN 132 [2] 1 0 (.c (aj b) .nil) .nil a
theorem Ii {nt:Nat} (c:53≤nt) (L0:List Cl) (n:Nat) (e:n<2^40):∀ (r p:List Cl),(∀ x ∈ p,lI x)→(∀ x ∈ r,lI x)→(p++r).length=n→
  aJ prog ap [cB L0] nt (au 0 (ag f132)) (fun _=> .exit 0) (fun q:List Cl × List Cl=>BG n q.1.length (q.1++q.2)) (fun L=> ⟨[],[(0,cB L)],.dead,[]⟩) (p,r) (qI p r)
 | [],p,_,_,hs=>by
  refine .done ?_;show ak _ _ _ _ _ (BG n p.length (p++ [])) _ _;have:=MI c L0 (p++ []) n p.length (by rw [← hs];simp);rw [ο] at this ⊢;exact this
 | y::r,p,hp,hr,hs=>by
  unfold qI;have b:=wU p.reverse y [];rw [List.reverse_reverse] at b;have a:(mO p.reverse y []).length=p.length+1:=by rw [b.length_eq];simp
  refine .next (a':=(mO p.reverse y [],r)) ?_ (Ii c L0 n e r (mO p.reverse y []) (fun x d=> ?_) (fun x d=>hr x (by simp [d])) (by rw [← hs];simp [a];omega))
  ·show ak _ _ _ _ _ (BG n p.length (p++y::r)) _ (BG n (mO p.reverse y []).length (mO p.reverse y []++r));rw [a];exact Zj c L0 p r y n hs e hp (hr y (by simp))
  ·have:=b.mem_iff.1 d;simp at this;rcases this with h|h
   ·exact hp x h
   ·subst h;exact hr x (by simp)
theorem YW (l:List Cl) (f:l.length<2^40) (hs:∀ x ∈ l,lI x):af prog ap 132 [.ref 0 0 0 l.length,ω 0,ω (l.length:Int),.fn 41 [] []] [cB l] (.ret (.tup [])) [cB (jb l)]:=by
 have hloop:bg prog ap [cB l] 53 (.block 0 (.loop (au 0 (ag f132)))) (BG l.length 1 l) .normal ⟨[],[(0,cB (jb l))],.dead,[]⟩:=by
  cases l with
  |nil=>exact aJ.blk (id:=0) (e':= .normal) (fun nt c=>aJ.done (α:=Unit) (β:=Unit) (a:=()) (r:=()) (e:=fun _=> .exit 0) (st:=fun _=>BG 0 1 []) (out:=fun _=> ⟨[],[(0,cB [])],.dead,[]⟩) (MI c [] [] 0 1 (by omega))) (by simp) rfl (aI.refl _) (aI.refl _)
  |cons x r=>exact aJ.blk (id:=0) (e':= .normal) (fun nt c=>Ii c (x::r) (x::r).length f r [x] (fun z b=>by simp at b;subst b;exact hs z (by simp)) (fun z b=>hs z (by simp [b])) rfl) (by simp) rfl (aI.refl _) (aI.refl _)
 unfold BG at hloop;have g:bg prog ap [cB l] 53 (.block 0 (.loop (au 0 (ag f132)))) (Ye l.length l.length 1 (.dead) (.dead) (cL l)) (.normal) ⟨[],[(0,⟨(cL (jb l)),0,false,0,2,true⟩)],.dead,[]⟩:=(fun nt d=>(hloop nt d).weak (aI.of ⟨rfl,rfl,rfl,rfl,rfl,trivial⟩) (aI.refl _))
 exact pK [0] 0 0 .nil (.l g .nil)
end Go.Proofs.Tryz
namespace Go.Proofs.Tryz
open Go AM
theorem cD (b:List Nat) {ans:List (gK × List aP)} {ps:List Prop} {f:Nat} {args:List AV} {h a:List aP} {out:gK} (hp:PS prog ap ps ans [] [])
  (he:kR ap (F_ prog ap 3000 b 9) 3000 .dead f args h ⟨true,[],[],[],ans,[]⟩= .ok (out,a,.dead) ⟨true,[],[],ps,[],[]⟩:=by kernel_rfl):af prog ap f args h out a:=J9 lG.apok lG.mixed lG.fnok he ⟨fun _ c=>(by cases c),hp.all.mem⟩
theorem Y5:∀ n:Nat,n≤12→∃ v:Int,CO 91 [.int .u64 (n:Int)] (.ret (ω v))
 |0,_=> ⟨0,cD [] .nil⟩
 |1,_=> ⟨1,cD [] .nil⟩
 |2,_=> ⟨2,cD [] .nil⟩
 |3,_=> ⟨2,cD [] .nil⟩
 |4,_=> ⟨3,cD [] .nil⟩
 |5,_=> ⟨3,cD [] .nil⟩
 |6,_=> ⟨3,cD [] .nil⟩
 |7,_=> ⟨3,cD [] .nil⟩
 |8,_=> ⟨4,cD [] .nil⟩
 |9,_=> ⟨4,cD [] .nil⟩
 |10,_=> ⟨4,cD [] .nil⟩
 |11,_=> ⟨4,cD [] .nil⟩
 |12,_=> ⟨4,cD [] .nil⟩
 |n+13,h=>absurd h (by omega)
theorem Zk (L L2:List Cl) (n:Nat) (v:Int) (c:n≤12) (h:af prog ap 132 [.ref 0 0 0 n,ω 0,ω (n:Int),.fn 41 [] []] [cB L] (.ret (.tup [])) [cB L2]):af prog ap 90 [.ref 0 0 0 n,ω 0,ω (n:Int),ω v,.fn 41 [] []] [cB L] (.ret (.tup [])) [cB L2]:=by
 have a:ω (η .i64 ((n:Int) - ((0:Nat):Int)))= ω (n:Int):=by
  have e:η .i64 ((n:Int) - ((0:Nat):Int))=(n:Int):=by rw [dP]<;>omega
  rw [e]
 have b:(decide ((n:Int)≤((12:Nat):Int)))=true:=Yq0 (by omega);exact pK [] 1 1 (.c (ai b) .nil) (.c h (.v 23 (.eq a) .nil))
theorem Vm (l:List Cl) (a:l.length≤12) (hs:∀ x ∈ l,lI x):af prog ap 40 [.ref 0 0 0 l.length,.fn 41 [] []] [cB l] (.ret (.tup [])) [cB (jb l)]:=by
 obtain ⟨v,d⟩:=Y5 l.length a;have b:=Zk l (jb l) l.length v a (YW l (by omega) hs);have c:AV.int .u64 (η .u64 (l.length:Int))= .int .u64 (l.length:Int):=by
  have e:η .u64 (l.length:Int)=(l.length:Int):=by rw [ahn]<;>omega
  rw [e]
 generalize jb l=L2 at*
 generalize l.length=n at*
 exact pK [] 0 0 .nil (.c b (.c d (.v 10 (.eq c) .nil)))
theorem SK:CO 40 [.nilS,.fn 41 [] []] (.ret (.tup [])):=cD [] .nil
def G6 (y x:Cl):Bool:=((y.1==x.1) && ((y.2==x.2) && true))
theorem Fe {x y:Cl}:G6 y x=true↔y=x:=by
 unfold G6;simp only [Xj4,δ,beq_iff_eq];exact ⟨fun h=>Xvu h.1 h.2,fun h=>h ▸ ⟨rfl,rfl⟩⟩
def oD:List Cl→Cl→List Cl→List Cl
 |A,_,[]=>A
 |A,z,y::r=>if G6 y z then oD A y r else oD (A++ [y]) y r
def b_:List Cl→List Cl
 | []=> []
 |x::l=>oD [x] x l
def wM:List Cl→List Cl→Cl→List Cl→List Cl × List Cl
 |A,G,z,[]=>(A,G++ [z])
 |A,G,z,y::r=>if G6 y z then wM A (G++ [z]) y r else wM (A++ [y]) (G++ [z]).tail y r
theorem zU:∀ (r A G:List Cl) (z:Cl),(wM A G z r).1=oD A z r
 | [],A,G,z=>rfl
 |y::r,A,G,z=>by
  unfold wM oD;split
  ·exact zU r A _ y
  ·exact zU r _ _ y
theorem zV:∀ (r A G:List Cl) (z:Cl),(wM A G z r).1.length+(wM A G z r).2.length=A.length+G.length+1+r.length
 | [],A,G,z=>by simp [wM];omega
 |y::r,A,G,z=>by
  unfold wM;split
  ·rw [zV r A _ y];simp;omega
  ·rw [zV r _ _ y];simp;omega
theorem KP {L p r:List Cl} {x:Cl} {a j:Nat} (b:L=p++x::r) (c:a+j=p.length):ε ((a+(γ (j:Int)))*2) (cL L)=cC x++cL r:=by
 have:=eH (f:=cC) (n:=2) (fun _=>rfl) b;rw [aS] at this ⊢;rw [c];exact this
def TK (n k kz q j:Nat) (L:List Cl):St:=⟨[(0,.ref 0 0 0 n),(3,ω (k:Int)),(4,.ref 0 0 kz q),(5,ω (((j+1):Nat):Int))],[(0,⟨(cL L),0,false,0,2,true⟩)],.dead,[]⟩
theorem aax {nt:Nat} (B:61≤nt) (L0 A G r:List Cl) (x y:Cl) (n a q j:Nat) (hs:(A++G++x::y::r).length=n) (F:n<2^40) (E:a+q=n) (u:A.length+G.length=a+j) (m:G6 y x=false):
  ak prog ap [cB L0] nt (au 2 (ag f42)) (TK n A.length a q j (A++G++x::y::r)) .normal (TK n (A++ [y]).length a q (j+1) ((A++ [y])++(G++ [x]).tail++y::r)):=by
 have s:(ε ((a+(γ (j:Int)))*2) (cL (A++G++x::y::r)))=cC x++cL (y::r):=KP (p:=A++G) rfl (by simp;omega);have c:(ε ((a+(γ (((j+1):Nat):Int)))*2) (cL (A++G++x::y::r)))=cC y++cL r:=KP (p:=A++G++ [x]) (by simp) (by simp;omega);have b:(cL (A++G++x::y::r)).length=n*2:=by rw [dA,hs]
 have C:A.length+G.length+2+r.length=n:=by rw [← hs];simp;omega
 have l:(decide ((((j+1):Nat):Int)<(q:Int)))=true:=kl (by omega);have v:j<2^62:=by omega
 have h:j+1<2^62:=by omega
 have t:A.length<2^62:=by omega
 have o:μ ((0+(γ (A.length:Int)))*2) (cL (A++G++x::y::r))++cC y++ε (((0+(γ (A.length:Int)))*2)+2) (cL (A++G++x::y::r))=cL ((A++ [y])++(G++ [x]).tail++y::r):=by
  cases G with
  |nil=>have:=SI (L:=A++ []++x::y::r) (p:=A) (x:=x) (r:=y::r) (z:=y) (by simp);simpa using this
  |cons g G=>have:=SI (L:=A++(g::G)++x::y::r) (p:=A) (x:=g) (r:=G++x::y::r) (z:=y) (by simp);simpa using this
 have e:(A++ [y]).length=A.length+1:=by simp
 unfold TK;rw [e,← o];clear o e hs;unfold G6 at m;generalize D:A++G++x::y::r=L at*
 generalize A.length=k at*
 have d:(Ψ (((0+(γ (k:Int)))*2)+2) (κ (cL L)))=true:=(dw (oK b (by omega)))
 have f:(decide ((k:Int)<(n:Int)))=true:=(kl (by omega))
 have i:(decide ((j:Int)<(q:Int)))=true:=(kl (by omega))
 exact pN 42 [] 2 3 (.c d (.k 1 f (.a (bP [.int .i64,.int .i64] c rfl) (.k 1 l (.c (fK m) (.a (bP [.int .i64,.int .i64] s rfl) (.k 1 i (.a (bP [.int .i64,.int .i64] c rfl) (.k 1 l (.c (ai l) .nil)))))))))) (.v 34 (.eq (wpS h)) (.v 53 (.eq (wpS t)) (.v 50 (.rd [.int .i64,.int .i64] c rfl) (.v 43 (.rd [.int .i64,.int .i64] s rfl) (.v 41 (.eq (TQ v)) (.v 38 (.rd [.int .i64,.int .i64] c rfl) .nil)))))) B
theorem aaw {nt:Nat} (m:61≤nt) (L0 A G r:List Cl) (x y:Cl) (n a q j:Nat) (hs:(A++G++x::y::r).length=n) (v:n<2^40) (u:a+q=n) (i:A.length+G.length=a+j) (d:G6 y x=true):
  ak prog ap [cB L0] nt (au 2 (ag f42)) (TK n A.length a q j (A++G++x::y::r)) .normal (TK n A.length a q (j+1) (A++G++x::y::r)):=by
 have h:(ε ((a+(γ (j:Int)))*2) (cL (A++G++x::y::r)))=cC x++cL (y::r):=KP (p:=A++G) rfl (by simp;omega);have e:(ε ((a+(γ (((j+1):Nat):Int)))*2) (cL (A++G++x::y::r)))=cC y++cL r:=KP (p:=A++G++ [x]) (by simp) (by simp;omega);have g:(cL (A++G++x::y::r)).length=n*2:=by rw [dA,hs]
 have o:A.length+G.length+2+r.length=n:=by rw [← hs];simp;omega
 have f:(decide ((((j+1):Nat):Int)<(q:Int)))=true:=kl (by omega);have l:j<2^62:=by omega
 have c:j+1<2^62:=by omega
 have t:A.length<2^62:=by omega
 unfold TK;clear hs;unfold G6 at d;generalize s:A++G++x::y::r=L at*
 generalize A.length=k at*
 have b:(decide ((j:Int)<(q:Int)))=true:=(kl (by omega))
 exact pN 42 [] 2 1 (.c (dM d) (.a (bP [.int .i64,.int .i64] h rfl) (.k 1 b (.a (bP [.int .i64,.int .i64] e rfl) (.k 1 f (.c (ai f) .nil)))))) (.v 34 (.eq (wpS c)) (.v 43 (.rd [.int .i64,.int .i64] h rfl) (.v 41 (.eq (TQ l)) (.v 38 (.rd [.int .i64,.int .i64] e rfl) .nil)))) m
theorem aav {nt:Nat} (b:61≤nt) (L0 L:List Cl) (n k a q j:Nat) (h:q≤j+1):
  ak prog ap [cB L0] nt (au 2 (ag f42)) (TK n k a q j L) (.exit 2) ⟨[(0,.ref 0 0 0 n),(3,ω (k:Int))],[(0,cB L)],.dead,[]⟩:=by
 have c:(decide ((((j+1):Nat):Int)<(q:Int)))=false:=kn h;exact pN 42 [] 1 0 (.c (aj c) .nil) .nil b
theorem E9 {nt:Nat} (b:61≤nt) (L0:List Cl) (n a q:Nat) (c:n<2^40) (d:a+q=n):∀ (r A G:List Cl) (z:Cl) (j:Nat),(A++G++z::r).length=n→A.length+G.length=a+j→
  aJ prog ap [cB L0] nt (au 2 (ag f42)) (fun _=> .exit 2) (fun p:List Cl × List Cl × Cl × List Cl × Nat=>TK n p.1.length a q p.2.2.2.2 (p.1++p.2.1++p.2.2.1::p.2.2.2.1)) (fun p:List Cl × List Cl=> ⟨[(0,.ref 0 0 0 n),(3,ω (p.1.length:Int))],[(0,cB (p.1++p.2))],.dead,[]⟩) (A,G,z,r,j) (wM A G z r)
 | [],A,G,z,j,hs,hj=>by
  refine .done ?_;have:=aav b L0 (A++G++ [z]) n A.length a q j (by simp at hs;omega);simpa [wM] using this
 | y::r,A,G,z,j,hs,hj=>by
  unfold wM;cases e:G6 y z with
  |true=>
   rw [if_pos rfl];refine .next (a':=(A,G++ [z],y,r,j+1)) ?_ (E9 b L0 n a q c d r A (G++ [z]) y (j+1) (by simpa using hs) (by simp;omega))
   have:=aaw b L0 A G r z y n a q j hs c d hj e;simpa using this
  |false=>
   rw [if_neg (by simp)];refine .next (a':=(A++ [y],(G++ [z]).tail,y,r,j+1)) (aax b L0 A G r z y n a q j hs c d hj e) (E9 b L0 n a q c d r (A++ [y]) (G++ [z]).tail y (j+1) ?_ ?_)
   ·simp at hs ⊢;omega
   ·simp;omega
def Gt (k:Nat):List AV:=gG k [ω 0,ω 0]
theorem NM (k:Nat):(Gt k).length=k*2:=by unfold Gt gG;simp [List.length_flatten]
def yJ (n k:Nat) (L:List Cl):St:=⟨[(0,.ref 0 0 0 n),(3,ω (((k+1):Nat):Int))],[(0,⟨(cL L),0,false,0,2,true⟩)],.dead,[]⟩
def YJ:List Cl→Cl→List Cl→Option (List Cl)
 |_,_,[]=>none
 |p,x,y::r=>if G6 y x then some (oD (p++ [x]) y r) else YJ (p++ [x]) y r
def YK:Option (List Cl)→aY
 |none=> .exit 0
 |some _=> .ret
def aau (n:Nat) (L:List Cl):Option (List Cl)→St
 |none=> ⟨[(0,.ref 0 0 0 n)],[(0,cB L)],.dead,[]⟩
 |some A=>(Ny A.length (cL A++Gt (n - A.length)))
theorem PN:∀ (r p:List Cl) (x:Cl),(match YJ p x r with|none=>p++x::r|some A=>A)=oD (p++ [x]) x r
 | [],p,x=>rfl
 | y::r,p,x=>by
  rw [YJ,oD];cases a:G6 y x with
  |true=>rw [if_pos rfl,if_pos rfl]
  |false=>
   rw [if_neg (by simp),if_neg (by simp)];have:=PN r (p++ [x]) y;cases h:YJ (p++ [x]) y r with
   |none=>rw [h] at this;simpa using this
   |some A=>rw [h] at this;exact this
theorem YN {nt:Nat} (l:61≤nt) (L0 p r:List Cl) (x y:Cl) (n:Nat) (hs:(p++x::y::r).length=n) (K:n<2^40) (z:G6 y x=true):
  ak prog ap [cB L0] nt (au 0 (ag f42)) (yJ n p.length (p++x::y::r)) .ret (aau n (p++x::y::r) (some (oD (p++ [x]) y r))):=by
 have E:=pU (L:=p++x::y::r) (p:=p) (x:=x) (r:=y::r) rfl;have F:ε ((0+(γ (((p.length+1):Nat):Int)))*2) (cL (p++x::y::r))=cC y++cL r:=by
  have:=pU (L:=p++x::y::r) (p:=p++ [x]) (x:=y) (r:=r) (by simp);simpa using this
 have U:p.length+r.length+2=n:=by rw [← hs];simp;omega
 have O:p.length<2^62:=by omega
 have Q:p.length+1<2^62:=by omega
 have G:(cL (p++x::y::r)).length=n*2:=by rw [dA,hs]
 have N:(decide ((((p.length+1):Nat):Int)<(n:Int)))=true:=kl (by omega);obtain ⟨q,o⟩:∃ q,q=n - (p.length+1):=⟨_,rfl⟩
 have J:AV.ref 0 0 (0+(γ (((p.length+1):Nat):Int))) ((γ (n:Int)) - (γ (((p.length+1):Nat):Int)))= .ref 0 0 (p.length+1) q:=by
  rw [aS,aS,Θ,← o]
 have D:(wM (p++ [x]) [] y r).1=oD (p++ [x]) y r:=zU r (p++ [x]) [] y;have d:=zV r (p++ [x]) [] y;have f:=aJ.blk (id:=2) (e':= .normal) (s:=TK n (p++ [x]).length (p.length+1) q 0 ((p++ [x])++ []++y::r)) (fun nt (l:61≤nt)=>E9 l L0 n (p.length+1) q K (by omega) r (p++ [x]) [] y 0 (by rw [← hs];simp) (by simp)) (by simp) rfl (aI.refl _) (aI.refl _);rw [← D];generalize v:wM (p++ [x]) [] y r=RR at*
 obtain ⟨A,B⟩:=RR;have C:(p++ [x])++ []++y::r=p++x::y::r:=by simp
 have g:(p++ [x]).length=p.length+1:=by simp
 rw [C,g] at f;simp only [g,Xqh] at d;have b:A.length+B.length=n:=by omega
 have hlen2:(cL (A++B)).length=n*2:=by rw [dA,ξ,b]
 have a:μ ((0+(γ (A.length:Int)))*2) (cL (A++B))++(gG ((γ (n:Int)) - (γ (A.length:Int))) [ω 0,ω 0])++ε (((0+(γ (A.length:Int)))*2)+(κ (gG ((γ (n:Int)) - (γ (A.length:Int))) [ω 0,ω 0]))) (cL (A++B))=cL A++Gt (n - A.length):=by
  rw [aS,aS,Θ];have H:(cL A).length=A.length*2:=dA A;have R:cL (A++B)=cL A++cL B:=by simp [cL]
  have T:(gG (n - A.length) [ω 0,ω 0]).length=(n - A.length)*2:=NM _;rw [T,R,Xjn H,Xq0 (by rw [ξ,dA,dA];omega),ο];rfl
 show ak _ _ _ _ _ (yJ n p.length (p++x::y::r)) _ (Ny A.length (cL A++Gt (n - A.length)));rw [← a];unfold TK at f;unfold yJ;simp only at f;have M:A.length≤n:=by omega
 clear hs a v D d C g b;unfold G6 at z;generalize V:p++x::y::r=L at*
 generalize I:A++B=L2 at*
 generalize p.length=k at*
 generalize A.length=m at*
 have S:bg prog ap [cB L0] 61 (.block 2 (.loop (au 2 (ag f42)))) (SV n (.dead) (((k+1):Nat):Int) (.ref 0 0 (k+1) q) (ω 1) (.dead) (.bool (decide ((((k+1):Nat):Int)<(n:Int)))) (.bool ((y.1==x.1) && ((y.2==x.2) && true))) (cL L)) (.normal) ⟨[(0,.ref 0 0 0 n),(3,ω (m:Int))],[(0,⟨(cL L2),0,false,0,2,true⟩)],.dead,[]⟩:=(fun nt j=>(f nt j).weak (aI.of ⟨rfl,rfl,rfl,rfl,trivial⟩) (aI.refl _))
 have c:(decide ((m:Int)≤(n:Int)))=true:=(Yq0 (by omega))
 have h:(Ψ (((0+(γ (m:Int)))*2)+(((γ (n:Int)) - (γ (m:Int)))*2)) (κ (cL L2)))=true:=(dw (oK hlen2 (by omega)))
 have e:(decide ((n:Int)≤(n:Int)))=true:=(Yq0 (by omega))
 have t:(decide ((((k+1):Nat):Int)≤(n:Int)))=true:=(Yq0 (by omega))
 have u:(decide ((k:Int)<(n:Int)))=true:=(kl (by omega))
 have i:(decide ((((k+1):Nat):Int)<(n:Int)))=true:=(kl (by omega))
 exact pN 42 [2] 2 3 (.k 2 c (.c h (.k 1 c (.c e (.k 1 t (.c e (.c (ai z) (.a (bP [.int .i64,.int .i64] E rfl) (.k 1 u (.a (bP [.int .i64,.int .i64] F rfl) (.k 1 i (.c (ai N) .nil)))))))))))) (.l S (.v 28 (.eq J) (.v 24 (.rd [.int .i64,.int .i64] E rfl) (.v 22 (.eq (TQ O)) (.v 19 (.rd [.int .i64,.int .i64] F rfl) .nil))))) l
theorem YM {nt:Nat} (i:61≤nt) (L0 p r:List Cl) (x y:Cl) (n:Nat) (hs:(p++x::y::r).length=n) (o:n<2^40) (d:G6 y x=false):
  ak prog ap [cB L0] nt (au 0 (ag f42)) (yJ n p.length (p++x::y::r)) .normal (yJ n (p.length+1) (p++x::y::r)):=by
 have g:=pU (L:=p++x::y::r) (p:=p) (x:=x) (r:=y::r) rfl;have e:ε ((0+(γ (((p.length+1):Nat):Int)))*2) (cL (p++x::y::r))=cC y++cL r:=by
  have:=pU (L:=p++x::y::r) (p:=p++ [x]) (x:=y) (r:=r) (by simp);simpa using this
 have l:p.length+r.length+2=n:=by rw [← hs];simp;omega
 have h:p.length<2^62:=by omega
 have b:p.length+1<2^62:=by omega
 have f:(cL (p++x::y::r)).length=n*2:=by rw [dA,hs]
 have j:(decide ((((p.length+1):Nat):Int)<(n:Int)))=true:=kl (by omega);unfold yJ;clear hs;unfold G6 at d;generalize m:p++x::y::r=L at*
 generalize p.length=k at*
 have a:(decide ((k:Int)<(n:Int)))=true:=(kl (by omega))
 have c:(decide ((((k+1):Nat):Int)<(n:Int)))=true:=(kl (by omega))
 exact pN 42 [2] 2 1 (.c (aj d) (.a (bP [.int .i64,.int .i64] g rfl) (.k 1 a (.a (bP [.int .i64,.int .i64] e rfl) (.k 1 c (.c (ai j) .nil)))))) (.v 15 (.eq (wpS b)) (.v 24 (.rd [.int .i64,.int .i64] g rfl) (.v 22 (.eq (TQ h)) (.v 19 (.rd [.int .i64,.int .i64] e rfl) .nil)))) i
theorem YL {nt:Nat} (a:61≤nt) (L0 L:List Cl) (n k:Nat) (h:n≤k+1):
  ak prog ap [cB L0] nt (au 0 (ag f42)) (yJ n k L) (.exit 0) ⟨[(0,.ref 0 0 0 n)],[(0,cB L)],.dead,[]⟩:=by
 have b:(decide ((((k+1):Nat):Int)<(n:Int)))=false:=kn h;exact pN 42 [2] 1 0 (.c (aj b) .nil) .nil a
theorem GX {nt:Nat} (a:61≤nt) (L0 L:List Cl) (n:Nat) (b:n<2^40) (hs:L.length=n):∀ (r p:List Cl) (x:Cl),p++x::r=L→
  aJ prog ap [cB L0] nt (au 0 (ag f42)) YK (fun k:Nat=>yJ n k L) (aau n L) p.length (YJ p x r)
 | [],p,x,h=>by
  refine .done ?_;exact YL a L0 L n p.length (by rw [← hs,← h];simp)
 | y::r,p,x,h=>by
  unfold YJ;cases c:G6 y x with
  |true=>
   rw [if_pos rfl];refine .done ?_;have:=YN a L0 p r x y n (by rw [h];exact hs) b c;rwa [h] at this
  |false=>
   rw [if_neg (by simp)];have:=YM a L0 p r x y n (by rw [h];exact hs) b c;rw [h] at this;refine .next (a':=p.length+1) this ?_
   have d:=GX a L0 L n b hs r (p++ [x]) y (by rw [← h];simp);simpa using d
theorem NL (l:List AV):l++Gt 0=l:=by simp [Gt,gG]
theorem Jw (l:List Cl) (e:l.length<2^40):af prog ap 42 [.ref 0 0 0 l.length] [cB l] (.ret (.ref 0 0 0 (b_ l).length)) [⟨cL (b_ l)++Gt (l.length - (b_ l).length),0,false,0,2,true⟩]:=by
 have small:∀ (L:List Cl) (n:Nat),n<2→af prog ap 42 [.ref 0 0 0 n] [cB L] (.ret (.ref 0 0 0 n)) [cB L]:=fun L n f=>by
  have d:(decide (((n:Nat):Int)<((2:Nat):Int)))=true:=kl f;exact pK [0] 1 1 (.c (ai d) .nil) .nil
 match l,e with
 | [],_=>have:=small [] 0 (by omega);simpa [b_,NL] using this
 | [x],_=>
  have:=small [x] 1 (by omega);show af prog ap 42 [.ref 0 0 0 1] [cB [x]] (.ret (.ref 0 0 0 1)) [⟨cL [x]++Gt 0,0,false,0,2,true⟩];rw [NL];exact this
 | x::y::r,e=>
  have c:=PN (y::r) [] x;rw [θ,θ] at c;have i:b_ (x::y::r)=oD [x] x (y::r):=rfl;rw [i,← c];have hloop:=fun nt (f:61≤nt)=>GX f (x::y::r) (x::y::r) (x::y::r).length e rfl (y::r) [] x rfl
  have d:(decide ((((x::y::r).length:Nat):Int)<((2:Nat):Int)))=false:=kn (by simp);cases h:YJ [] x (y::r) with
  |none=>
   rw [h] at hloop;have b:=aJ.blk (id:=0) (e':= .normal) (s:=yJ (x::y::r).length 0 (x::y::r)) (s':=⟨[(0,.ref 0 0 0 (x::y::r).length)],[(0,cB (x::y::r))],.dead,[]⟩) hloop (by simp [YK]) rfl (aI.refl _) (aI.refl _);unfold yJ at b;simp only [Xzc,NL];generalize j:x::y::r=L at*
   generalize L.length=n at*
   have g:bg prog ap [cB L] 61 (.block 0 (.loop (au 0 (ag f42)))) (SV n (.nilS) 1 (.dead) (.dead) (.bool (decide (((n:Nat):Int)<((2:Nat):Int)))) (.dead) (.dead) (cL L)) (.normal) ⟨[(0,.ref 0 0 0 n)],[(0,⟨(cL L),0,false,0,2,true⟩)],.dead,[]⟩:=(fun nt a=>(b nt a).weak (aI.of ⟨rfl,rfl,trivial⟩) (aI.refl _))
   exact pK [0] 1 0 (.c (aj d) .nil) (.l g .nil)
  |some A=>
   rw [h] at hloop;have b:=aJ.blk (id:=0) (e':= .ret) (s:=yJ (x::y::r).length 0 (x::y::r)) (s':=(Ny A.length (cL A++Gt ((x::y::r).length - A.length)))) hloop (by simp [YK]) rfl (aI.refl _) (aI.refl _);unfold yJ at b;show af prog ap 42 _ _ (.ret (.ref 0 0 0 A.length)) [⟨cL A++Gt ((x::y::r).length - A.length),0,false,0,2,true⟩];generalize j:x::y::r=L at*
   generalize L.length=n at*
   generalize A.length=k at*
   generalize cL A++Gt (n - k)=C2 at*
   have g:bg prog ap [cB L] 61 (.block 0 (.loop (au 0 (ag f42)))) (SV n (.nilS) 1 (.dead) (.dead) (.bool (decide (((n:Nat):Int)<((2:Nat):Int)))) (.dead) (.dead) (cL L)) (.ret) (Ny k C2):=(fun nt a=>(b nt a).weak (aI.of ⟨rfl,rfl,trivial⟩) (aI.refl _))
   exact pK [0] 1 0 (.c (aj d) .nil) (.l g .nil)
theorem GR:CO 42 [.nilS] (.ret .nilS):=cD [] .nil
theorem G8 (x:Pv) (a:List UInt8):CO 89 [.agg (vZ x),.pp [.str a] 0] (.ret (.bool (x.nm==a))):=pK [] 0 0 (.n 2 .nil) .nil
def Ur (nm:List UInt8) (k:Nat) (x:Pv):Nat ⊕ Option Nat:=if x.nm==nm then .inr (some k) else .inl (k+1)
def PY (ps:List Pv) (nm:List UInt8):Option Nat:=AM.goL (Ur nm) (fun _=>none) ps 0
def PZ (ps:List Pv) (nm:List UInt8) (c:Bool) (p:Nat × Nat):St:=⟨[(0,.sl (bQ ps) ps.length c),(1,.fn 89 [] [.pp [.str nm] 0]),(7,ω (ps.length:Int)),(8,ω (p.1:Int))],[],.dead,[]⟩
def Uo:Option Nat→aY
 |none=> .exit 0
 |some _=> .ret
def PX:Option Nat→St
 |none=>I5
 |some k=>(Cm (.int .i64 (k:Int)))
theorem Us {nt:Nat} (d:19≤nt) (ps:List Pv) (a:List UInt8) (c:Bool) (f:ps.length<2^40):aJ prog ap [] nt (au 0 (ag f88)) Uo (PZ ps a c) PX (0,0) (PY ps a):=by
 refine aJ.goD (Ur a) (fun _=>none) ps (fun p s=>s=p.length) ?_ ?_ 0 rfl
 ·rintro p x rs s hL hp
  have e:(ε ((γ (p.length:Int))*12) (bQ ps))=vZ x++bQ rs:=eH Rf hL;have b:(decide ((p.length:Int)<(ps.length:Int)))=true:=kl (mP hL);have g:p.length<2^62:=by have:=mP hL;omega
  subst hp;show (∃ s',_∧ak _ _ _ _ _ (PZ ps a c (p.length,_)) _ _∧_)∨∃ q,_∧ak _ _ _ _ _ (PZ ps a c (p.length,_)) _ _;have hp:(p++ [x]).length=p.length+1:=by simp
  generalize p.length=k at*
  clear hL;rcases tf (x.nm==a) with b0|b0
  ·exact .inr ⟨some k,by simp only [Ur,b0,if_true],pN 88 [] 2 3 (.c (ai b0) (.k 12 (k0 k) (.c b (.c (ai b) .nil)))) (.c (G8 x a) (.v 14 (.ppt e) .nil)) d⟩
  ·exact .inl ⟨k+1,by simp only [Ur,b0,Xqe,if_false],pN 88 [] 2 1 (.c (aj b0) (.k 12 (k0 k) (.c b (.c (ai b) .nil)))) (.v 18 (.eq (wpS g)) (.c (G8 x a) (.v 14 (.ppt e) .nil))) d,by simp [hp]⟩
 ·intro _ _;exact pN 88 [] 1 0 (.c (aj (kn (ζ ps.length))) .nil) (.nil) d
theorem QC (ps:List Pv) (a:List UInt8) (c:Bool) (d:ps.length<2^40):CO 88 [.sl (bQ ps) ps.length c,.fn 89 [] [.pp [.str a] 0]] (.ret (.int .i64 (match PY ps a with|none=> -1|some k=>(k:Int)))):=by
 have hloop:=fun nt (hn:19≤nt)=>Us hn ps a c d
 cases g:PY ps a with
 |none=>
  rw [g] at hloop;have e:=aJ.blk (id:=0) (e':= .normal) (s:=PZ ps a c (0,0)) (s':=PX none) hloop (by simp [Uo]) rfl (aI.refl _) (aI.refl _);have f:LB 19 0 f88 (X_ (.sl (bQ ps) ps.length c) (.fn 89 [] [.pp [.str a] 0]) ps.length) (.normal) I5:=(fun nt b=>(e nt b).weak (aI.of ⟨rfl,rfl,rfl,rfl,trivial⟩) (aI.refl _))
  exact pK [0] 0 0 .nil (.l f .nil)
 |some k=>
  rw [g] at hloop;have e:=aJ.blk (id:=0) (e':= .ret) (s:=PZ ps a c (0,0)) (s':=PX (some k)) hloop (by simp [Uo]) rfl (aI.refl _) (aI.refl _);have f:LB 19 0 f88 (X_ (.sl (bQ ps) ps.length c) (.fn 89 [] [.pp [.str a] 0]) ps.length) (.ret) (Cm (ω (k:Int))):=(fun nt b=>(e nt b).weak (aI.of ⟨rfl,rfl,rfl,rfl,trivial⟩) (aI.refl _))
  exact pK [0] 0 0 .nil (.l f .nil)
theorem mx0 (k:Nat):ω (if ((0:Nat):Int)>(k:Int) then ((0:Nat):Int) else (k:Int))= ω (k:Int):=by rw [if_neg (by omega)]
theorem ge0 (k:Nat):AV.bool (decide (((0:Nat):Int)≤(k:Int)))= .bool true:=by rw [Yq0 (by omega)]
theorem Uw (L:Lw) (a b c:Bool) (e:List UInt8) (d:L.ps.length<2^40):CO 39 [.agg (L.c a b c),.str e] (.ret (match PY L.ps e with|none=> .tup [.int .i64 0,.bool false]|some k=> .tup [.int .i64 (k:Int),.bool true])):=by
 cases f:PY L.ps e with
 |none=>
  have h:=QC L.ps e c d;rw [f] at h;exact pK [] 0 0 (.n 1 .nil) (.c (h:CO 88 [.sl (bQ L.ps) L.ps.length c,.fn 89 [] [.pp [.str e] 0]] (.ret (ω (-1)))) .nil)
 |some k=>
  have h:=QC L.ps e c d;rw [f] at h;exact pK [] 0 0 (.n 1 .nil) (.v 14 (.eq (ge0 k)) (.v 12 (.eq (mx0 k)) (.c (h:CO 88 [.sl (bQ L.ps) L.ps.length c,.fn 89 [] [.pp [.str e] 0]] (.ret (ω (k:Int)))) .nil)))
theorem ER (a:List Cl) (z:Cl):μ (a.length*2) (cL a)++cC z=cL (a++ [z]):=eP (f:=cC) (n:=2) (fun _=>rfl) a z rfl
def CX (ps:List Pv) (nm:List UInt8):Nat:=(PY ps nm).getD 0
def O8 (ps:List Pv) (nm:List UInt8):Bool:=(PY ps nm).isSome
theorem KY (L:Lw) (a b c:Bool) (d:List UInt8) (e:L.ps.length<2^40):CO 39 [.agg (L.c a b c),.str d] (.ret (.tup [ω ((CX L.ps d:Nat):Int),.bool (O8 L.ps d)])):=by
 have h:=Uw L a b c d e;unfold CX O8;cases f:PY L.ps d with
 |none=>rw [f] at h;exact h
 |some k=>rw [f] at h;exact h
def jZ (L:Lw) (s:Int) (w:Cl) (x:Nd):Option Cl:=if O8 L.ps x.name then (if x.op==((6:Nat):Int) then some (w.1,((CX L.ps x.name:Nat):Int)) else if x.op==((8:Nat):Int) then (if s==((2:Nat):Int) then some (1 - w.1,((CX L.ps x.name:Nat):Int)) else none) else none) else none
def afL (os:List Cl):AV:=match os with| []=> .nilS|_::_=> .ref 2 0 0 os.length
def afK (os:List Cl):Hp:=match os with| []=> []|_::_=> [(2,cB os)]
def O3 (L:Lw) (a b c:Bool) (s:Int) (w:Cl) (bd:List Nd) (p:Nat × List Cl):St:=⟨[(1,ω s),(3,.ptr 0 0 0),(5,.ptr 1 0 0),(7,afL p.2),(23,.sl (bT bd) bd.length false),(24,ω (bd.length:Int)),(25,ω (p.1:Int))],(0,⟨L.c a b c,0,false,0,0,true⟩)::(1,⟨cC w,0,false,0,0,true⟩)::afK p.2,.dead,[]⟩
def Tz (os:List Cl):St:=match os with| []=> ⟨[(7,.nilS)],[],.dead,[]⟩|_::_=> ⟨[(7,.ref 0 0 0 os.length)],[(0,cB os)],.dead,[]⟩
theorem ahl {nt:Nat} (i:71≤nt) (L:Lw) (a b c:Bool) (s:Int) (w:Cl) (h:lI w) (f q:List Nd) (x:Nd) (k:Nat) (l:L.ps.length<2^40) (p:k<2^40) (n:k<f.length) (m:(ε ((γ (k:Int))*5) (bT f))=OA x++bT q):
  ψ nt f16 (X6 s (.sl (bT f) f.length false) f.length k (L.c a b c) (cC w)) .normal (O3 L a b c s w f (k+1,(jZ L s w x).toList)):=by
 have j:=KY L a b c x.name l;have d:(decide ((k:Int)<(f.length:Int)))=true:=kl n;have g:k<2^62:=by omega
 have o:ω (η .i64 (((1:Nat):Int) - w.1))= ω (1 - w.1):=by
  have r:=h.1;have t:=h.2;rw [dP]<;>first|rfl|omega
 rcases tf (O8 L.ps x.name) with b0|b0
 ·rcases tf (x.op==((6:Nat):Int)) with b1|b1
  ·have e:jZ L s w x=some (w.1,((CX L.ps x.name:Nat):Int)):=by simp only [jZ,b0,b1,if_true,Xqe,if_false];try rfl
   rw [e];exact pN 16 [] 4 5 (.k 4 (ai b1) (.k 1 (dM b0) (.k 10 (k0 k) (.c d (.c (ai d) .nil))))) (.v 66 (.eq (wpS g)) (.c j (.v 27 (.ppt m) .nil))) i
  ·rcases tf (x.op==((8:Nat):Int)) with b2|b2
   ·rcases tf (s==((2:Nat):Int)) with b3|b3
    ·have e:jZ L s w x=some (1 - w.1,((CX L.ps x.name:Nat):Int)):=by simp only [jZ,b0,b1,b2,b3,if_true,Xqe,if_false];try rfl
     rw [e];exact pN 16 [] 6 25 (.k 4 (ai b3) (.c (ai b2) (.k 1 (aj b1) (.k 1 (dM b0) (.k 10 (k0 k) (.c d (.c (ai d) .nil))))))) (.v 66 (.eq (wpS g)) (.v 61 (.eq o) (.c j (.v 27 (.ppt m) .nil)))) i
    ·have e:jZ L s w x=none:=by simp only [jZ,b0,b1,b2,b3,if_true,Xqe,if_false];try rfl
     rw [e];exact pN 16 [] 5 9 (.c (aj b3) (.c (ai b2) (.k 1 (aj b1) (.k 1 (dM b0) (.k 10 (k0 k) (.c d (.c (ai d) .nil))))))) (.v 66 (.eq (wpS g)) (.c j (.v 27 (.ppt m) .nil))) i
   ·have e:jZ L s w x=none:=by simp only [jZ,b0,b1,b2,if_true,Xqe,if_false];try rfl
    rw [e];exact pN 16 [] 5 1 (.k 1 (aj b2) (.k 1 (aj b1) (.k 1 (dM b0) (.k 10 (k0 k) (.c d (.c (ai d) .nil)))))) (.v 66 (.eq (wpS g)) (.c j (.v 27 (.ppt m) .nil))) i
 ·have e:jZ L s w x=none:=by simp only [jZ,b0,if_true,Xqe,if_false];try rfl
  rw [e];exact pN 16 [] 2 3 (.c (fK b0) (.k 10 (k0 k) (.c d (.c (ai d) .nil)))) (.v 66 (.eq (wpS g)) (.c j (.v 27 (.ppt m) .nil))) i
theorem afq {nt:Nat} (e:71≤nt) (L:Lw) (a b c:Bool) (s:Int) (w:Cl) (d:List Nd):ψ nt f16 (X6 s (.sl (bT d) d.length false) d.length d.length (L.c a b c) (cC w)) (.exit 0) ⟨[(7,.nilS)],[],.dead,[]⟩:=by
 have f:(decide ((d.length:Int)<(d.length:Int)))=false:=kn (ζ _);exact pN 16 [] 1 0 (.c (aj f) .nil) .nil e
theorem ahk {nt:Nat} (l:71≤nt) (L:Lw) (a b c:Bool) (s:Int) (w:Cl) (j:lI w) (h y:List Nd) (x:Nd) (k:Nat) (d:List Cl) (f:d ≠ []) (B:d.length<2^40) (t:L.ps.length<2^40) (v:k<2^40) (u:k<h.length) (p:(ε ((γ ((k:Nat):Int))*5) (bT h))=OA x++bT y):
  ψ nt f16 ⟨[(1,ω s),(3,.ptr 0 0 0),(5,.ptr 1 0 0),(7,.ref 2 0 0 d.length),(23,.sl (bT h) h.length false),(24,ω (h.length:Int)),(25,ω ((k:Nat):Int))],[(0,⟨L.c a b c,0,false,0,0,true⟩),(1,⟨cC w,0,false,0,0,true⟩),(2,cB d)],.dead,[]⟩ .normal (O3 L a b c s w h (k+1,(d++(jZ L s w x).toList))):=by
 have m:=KY L a b c x.name t;have i:(decide (((k:Nat):Int)<(h.length:Int)))=true:=kl u;have q:k<2^62:=by omega
 have z:ω (η .i64 (((1:Nat):Int) - w.1))= ω (1 - w.1):=by
  have A:=j.1;have C:=j.2;rw [dP]<;>first|rfl|omega
 have n:(Ψ (d.length+1) 1099511627776)=true:=(dw (by omega))
 have r:(Ψ (d.length*2) (κ (cL d)))=true:=(dw (oK (dA d) (by omega)))
 have g:∀ d:List Cl,d ≠ []→∀ k,O3 L a b c s w h (k,d)=⟨[(1,ω s),(3,.ptr 0 0 0),(5,.ptr 1 0 0),(7,.ref 2 0 0 d.length),(23,.sl (bT h) h.length false),(24,ω (h.length:Int)),(25,ω ((k:Nat):Int))],[(0,⟨L.c a b c,0,false,0,0,true⟩),(1,⟨cC w,0,false,0,0,true⟩),(2,cB d)],.dead,[]⟩:=fun d f k=>by cases d with|nil=>exact absurd rfl f|cons o d=>rfl
 rcases tf (O8 L.ps x.name) with b0|b0
 ·rcases tf (x.op==((6:Nat):Int)) with b1|b1
  ·have e:jZ L s w x=some (w.1,((CX L.ps x.name:Nat):Int)):=by simp only [jZ,b0,b1,if_true,Xqe,if_false];try rfl
   rw [e];rw [g _ (by simp [f])];simp only [Xzk,ο,ξ,Γ,Xqh,Θ];exact pN 16 [] 3 5 (.k 1 n (.c r (.k 2 (ai b1) (.k 1 (dM b0) (.k 10 (k0 k) (.c i (.c (ai i) .nil))))))) (.v 66 (.eq (wpS q)) (.b 49 (ER d (w.1,(((CX L.ps x.name):Nat):Int))) (.c m (.v 27 (.ppt p) .nil)))) l
  ·rcases tf (x.op==((8:Nat):Int)) with b2|b2
   ·rcases tf (s==((2:Nat):Int)) with b3|b3
    ·have e:jZ L s w x=some (1 - w.1,((CX L.ps x.name:Nat):Int)):=by simp only [jZ,b0,b1,b2,b3,if_true,Xqe,if_false];try rfl
     rw [e];rw [g _ (by simp [f])];simp only [Xzk,ο,ξ,Γ,Xqh,Θ];exact pN 16 [] 5 25 (.k 1 n (.c r (.k 2 (ai b3) (.c (ai b2) (.k 1 (aj b1) (.k 1 (dM b0) (.k 10 (k0 k) (.c i (.c (ai i) .nil))))))))) (.v 66 (.eq (wpS q)) (.b 65 (ER d (1 - w.1,(((CX L.ps x.name):Nat):Int))) (.v 61 (.eq z) (.c m (.v 27 (.ppt p) .nil))))) l
    ·have e:jZ L s w x=none:=by simp only [jZ,b0,b1,b2,b3,if_true,Xqe,if_false];try rfl
     rw [e];rw [g _ (by simp [f])];simp only [Xzk,ο,ξ,Γ,Xqh,Θ];exact pN 16 [] 5 9 (.c (aj b3) (.c (ai b2) (.k 1 (aj b1) (.k 1 (dM b0) (.k 10 (k0 k) (.c i (.c (ai i) .nil))))))) (.v 66 (.eq (wpS q)) (.c m (.v 27 (.ppt p) .nil))) l
   ·have e:jZ L s w x=none:=by simp only [jZ,b0,b1,b2,if_true,Xqe,if_false];try rfl
    rw [e];rw [g _ (by simp [f])];simp only [Xzk,ο,ξ,Γ,Xqh,Θ];exact pN 16 [] 5 1 (.k 1 (aj b2) (.k 1 (aj b1) (.k 1 (dM b0) (.k 10 (k0 k) (.c i (.c (ai i) .nil)))))) (.v 66 (.eq (wpS q)) (.c m (.v 27 (.ppt p) .nil))) l
 ·have e:jZ L s w x=none:=by simp only [jZ,b0,if_true,Xqe,if_false];try rfl
  rw [e];rw [g _ (by simp [f])];simp only [Xzk,ο,ξ,Γ,Xqh,Θ];exact pN 16 [] 2 3 (.c (fK b0) (.k 10 (k0 k) (.c i (.c (ai i) .nil)))) (.v 66 (.eq (wpS q)) (.c m (.v 27 (.ppt p) .nil))) l
theorem afp {nt:Nat} (f:71≤nt) (L:Lw) (a b c:Bool) (s:Int) (w:Cl) (d:List Nd) (e:List Cl):ψ nt f16 ⟨[(1,ω s),(3,.ptr 0 0 0),(5,.ptr 1 0 0),(7,.ref 2 0 0 e.length),(23,.sl (bT d) d.length false),(24,ω (d.length:Int)),(25,ω (d.length:Int))],[(0,⟨L.c a b c,0,false,0,0,true⟩),(1,⟨cC w,0,false,0,0,true⟩),(2,cB e)],.dead,[]⟩ (.exit 0) ⟨[(7,.ref 0 0 0 e.length)],[(0,cB e)],.dead,[]⟩:=by
 have g:(decide ((d.length:Int)<(d.length:Int)))=false:=kn (ζ _);exact pN 16 [] 1 0 (.c (aj g) .nil) .nil f
def kL (L:Lw) (s:Int) (w:Cl) (bd:List Nd):List Cl:=bd.filterMap (jZ L s w)
theorem VF {nt:Nat} (j:71≤nt) (L:Lw) (a b c:Bool) (s:Int) (w:Cl) (g:lI w) (e:List Nd) (f:L.ps.length<2^40) (q:e.length<2^39):
  aJ prog ap [] nt (au 0 (ag f16)) (fun _=> .exit 0) (O3 L a b c s w e) Tz (0,[]) (kL L s w e):=by
 have n:(2:Nat)^39=549755813888:=by decide
 have t:(2:Nat)^40=1099511627776:=by decide
 have k:AM.goL (fun (d:List Cl) x=>(Sum.inl (d++(jZ L s w x).toList):List Cl ⊕ List Cl)) id e []=kL L s w e:=by
  have key:∀ (e:List Nd) (d:List Cl),AM.goL (fun (d:List Cl) x=>(Sum.inl (d++(jZ L s w x).toList):List Cl ⊕ List Cl)) id e d=d++kL L s w e:=by
   intro e
   induction e with
   |nil=>intro d;simp [AM.goL,kL]
   |cons x e ih=>
    intro d;simp only [AM.goL];rw [ih];unfold kL;cases h:jZ L s w x<;>simp [h]
  simpa using key e []
 rw [← k];refine aJ.goD (fun (d:List Cl) x=>(Sum.inl (d++(jZ L s w x).toList):List Cl ⊕ List Cl)) id e (fun p d=>d.length≤p.length) ?_ ?_ [] (by simp)
 ·intro p x r d l hp;have i:p.length<e.length:=mP l;have m:=eH nd5 l;refine .inl ⟨d++(jZ L s w x).toList,rfl, ?_,by cases jZ L s w x<;>simp<;>omega⟩;cases d with
  |nil=>exact ahl j L a b c s w g e r x p.length f (by omega) i m
  |cons o d=>exact ahk j L a b c s w g e r x p.length (o::d) (by simp) (by simp only [Γ] at hp ⊢;omega) f (by omega) i m
 ·intro d _;cases d with
  |nil=>exact afq j L a b c s w e
  |cons o d=>exact afp j L a b c s w e (o::d)
theorem YO {L:Lw} {s:Int} {w d:Cl} {x:Nd} (a:lI w) (h:jZ L s w x=some d):lI d:=by
 unfold jZ at h;obtain ⟨b,c⟩:=a;unfold lI;split at h
 ·split at h
  ·cases h;exact ⟨b,c⟩
  ·split at h
   ·split at h
    ·cases h;constructor<;>simp only<;>omega
    ·cases h
   ·cases h
 ·cases h
def jv (L:Lw) (s:Int) (w:Cl):List Cl:=if (aK s L.ps.length w) then b_ (jb (kL L s w ((L.ps[w.2.toNat]?.map Pv.body).getD []))) else []
theorem Fh (l:List Cl) (C:List AV) (h:C.take (l.length*2)=cL l) {P:Program} {f:Nat} {args:List AV} (b:af P ap f args [] (.ret (.own C l.length 2)) []):af P ap f args [] (.ret (.sl (cL l) l.length false)) []:=by
 have a:=b.thaw (by simp);simp only [qg,thaw,h] at a;exact a.out (je.ret rfl rfl (bF.sl _ _ _))
def CP (L:Lw):Prop:=L.ps.length<2^40∧∀ p ∈ L.ps,p.body.length<2^39∧∀ s w,(kL L s w p.body).length≤12
theorem NH (L:Lw) (a b c:Bool) (s:Int) (w:Cl) (I:CP L):CO 16 [.agg (L.c a b c),ω s,cA w] (.ret (.sl (cL (jv L s w)) (jv L s w).length false)):=by
 obtain ⟨A,v⟩:=I;have d:=lC L a b c s w;unfold jv;cases g:(aK s L.ps.length w) with
 | false=>
  rw [g] at d;have h:CO 16 [.agg (L.c a b c),ω s,cA w] (.ret .nilS):=by
   generalize k:false=vq at d;have g:=k.symm;exact pK [0] 1 1 (.c (fK g) (.n 5 .nil)) (.c d .nil)
  exact h.out (je.ret rfl rfl (bF.nilS false rfl))
 | true=>
  have q:=g;unfold aK at q;simp only [δ,decide_eq_true_eq] at q;obtain ⟨h0,J,S,H,F⟩:=q;have hs:s≤2:=by simp only [Xxf,beq_iff_eq] at h0;omega
  have r:lI w:=⟨J,by omega⟩
  have t:w.2.toNat<L.ps.length:=by omega
  have e:L.ps[w.2.toNat]? =some L.ps[w.2.toNat]:=ν t;have i:L.ps[w.2.toNat] ∈ L.ps:=Xx1 t;have M:=(v _ i).1;have m:=(v _ i).2 s w;generalize L.ps[w.2.toNat]=p at e M m;have hp:=Lc Rf e;rw [aS] at hp;generalize O:(L.ps.drop (w.2.toNat+1))=rp at hp;change (ε ((γ w.2)*12) (bQ L.ps))=vZ p++bQ rp at hp;rw [g] at d;simp only [e,Xqu,Xxd,if_true];have f:=aJ.blk (id:=0) (e':= .normal) (s:=O3 L a b c s w p.body (0,[])) (s':=Tz (kL L s w p.body)) (fun nt (hn:71≤nt)=>VF hn L a b c s w r p.body A (by omega)) (by simp) rfl (aI.refl _) (aI.refl _);have u:∀ x ∈ kL L s w p.body,lI x:=fun x N=>by
   obtain ⟨y,_,Q⟩:=List.mem_filterMap.1 N;exact YO r Q
  unfold O3 at f;change bg _ _ _ _ _ ⟨_,[(0,⟨L.c a b c,0,false,0,0,true⟩),(1,⟨cC w,0,false,0,0,true⟩)],_,_⟩ _ _ at f;generalize k:true=vq at d;have g:=k.symm;cases G:kL L s w p.body with
  | nil=>
   rw [G] at f;have h:CO 16 [.agg (L.c a b c),ω s,cA w] (.ret .nilS):=by
    have l:(decide (((0:Nat):Int)≤w.2))=true:=(Yq0 H)
    have n:(decide (w.2<(L.ps.length:Int)))=true:=(Yq0 F)
    have D:LB 71 0 f16 (X7 (.agg [.sl L.fx L.fn a,.sl L.sx L.sn b,.sl (bQ L.ps) L.ps.length c]) s (.agg [ω w.1,ω w.2]) (!vq) (.sl (bT p.body) p.body.length false) p.body.length [.sl L.fx L.fn a,.sl L.sx L.sn b,.sl (bQ L.ps) L.ps.length c] [ω w.1,ω w.2]) (.normal) ⟨[(7,.nilS)],[],.dead,[]⟩:=(fun nt j=>(f nt j).weak (aI.of ⟨rfl,rfl,rfl,rfl,rfl,rfl,rfl,trivial⟩) (aI.refl _))
    exact pK [0] 1 0 (.k 1 l (.c n (.k 2 (dM g) (.n 5 .nil)))) (.c GR (.c SK (.l D (.v 21 (.ppt hp) (.c d .nil)))))
   exact h.out (je.ret rfl rfl (bF.nilS false rfl))
  |cons o os=>
   rw [G] at f u m;have E:=Vm (o::os) m u;have C:=(uy (o::os)).length_eq;have z:=Jw (jb (o::os)) (by omega);rw [C] at z;have B:(cL (b_ (jb (o::os)))++Gt ((o::os).length - (b_ (jb (o::os))).length)).take ((b_ (jb (o::os))).length*2)=cL (b_ (jb (o::os))):=Xjn (dA _);unfold Tz at f;refine Fh _ (μ ((b_ (jb (o::os))).length*2) (cL (b_ (jb (o::os)))++Gt ((o::os).length - (b_ (jb (o::os))).length))) (by rw [List.take_take,Nat.min_self];exact B) ?_;change bg _ _ _ _ _ _ _ ⟨[(7,.ref 0 0 0 (o::os).length)],[(0,cB (o::os))],_,_⟩ at f;generalize R:jb (o::os)=o2 at*
   generalize (b_ o2).length=n3 at*
   generalize K:o::os=o1 at*
   generalize o1.length=n1 at*
   generalize cL (b_ o2)++Gt (n1 - n3)=C3 at*
   have l:(decide (((0:Nat):Int)≤w.2))=true:=(Yq0 H)
   have n:(decide (w.2<(L.ps.length:Int)))=true:=(Yq0 F)
   have D:LB 71 0 f16 (X7 (.agg [.sl L.fx L.fn a,.sl L.sx L.sn b,.sl (bQ L.ps) L.ps.length c]) s (.agg [ω w.1,ω w.2]) (!vq) (.sl (bT p.body) p.body.length false) p.body.length [.sl L.fx L.fn a,.sl L.sx L.sn b,.sl (bQ L.ps) L.ps.length c] [ω w.1,ω w.2]) (.normal) ⟨[(7,.ref 0 0 0 n1)],[(0,⟨(cL o1),0,false,0,2,true⟩)],.dead,[]⟩:=(fun nt j=>(f nt j).weak (aI.of ⟨rfl,rfl,rfl,rfl,rfl,rfl,rfl,trivial⟩) (aI.refl _))
   exact pK [0] 1 0 (.k 1 l (.c n (.k 2 (dM g) (.n 5 .nil)))) (.c z (.c E (.l D (.v 21 (.ppt hp) (.c d .nil)))))
def mZ (s:Int) (n q:Nat):List Cl:=(Xqd n).flatMap fun k=>if aK s n ((q:Int),((k:Nat):Int)) then [((q:Int),((k:Nat):Int))] else []
def clS (L:Lw) (a b c:Bool) (s:Int) (q:Nat) (p:Nat × List Cl):St:=match p.2 with
 | []=>(Kt s q q L.ps.length p.1 (L.c a b c))
 |o::os2=> ⟨[(1,.int .i64 s),(2,.ptr 0 0 0),(5,.ref 1 0 0 (o::os2).length),(6,.int .i64 (q:Int)),(9,.int .i64 (q:Int)),(14,.int .i64 (L.ps.length:Int)),(15,.int .i64 (p.1:Int))],[(0,⟨L.c a b c,0,false,0,0,true⟩),(1,cB (o::os2))],.dead,[]⟩
def ZX (L:Lw) (a b c:Bool) (s:Int) (q:Nat) (os:List Cl):St:=match os with
 | []=>(I4 s q (L.c a b c))
 |o::os2=> ⟨[(1,.int .i64 s),(2,.ptr 0 0 0),(5,.ref 1 0 0 (o::os2).length),(9,.int .i64 (q:Int))],[(0,⟨L.c a b c,0,false,0,0,true⟩),(1,cB (o::os2))],.dead,[]⟩
theorem aat {nt:Nat} (g:32≤nt) (L:Lw) (a b c:Bool) (s:Int) (q k:Nat) (h:k<2^40) (e:k<L.ps.length) (i:aK s L.ps.length ((q:Int),(k:Int))=true):
  ak prog ap [] nt (au 2 (ag f49)) (Kt s q q L.ps.length k (L.c a b c)) .normal ⟨[(1,ω s),(2,.ptr 0 0 0),(5,.ref 1 0 0 1),(6,ω (q:Int)),(9,ω (q:Int)),(14,ω (L.ps.length:Int)),(15,ω ((k+1:Nat):Int))],[(0,⟨L.c a b c,0,false,0,0,true⟩),(1,cB [((q:Int),(k:Int))])],.dead,[]⟩:=by
 have d:=lC L a b c s ((q:Int),(k:Int));have j:(decide ((k:Int)<(L.ps.length:Int)))=true:=kl e;have f:k<2^62:=by omega
 generalize l:aK s L.ps.length ((q:Int),(k:Int))=vq at*
 exact pN 49 [] 3 3 (.k 5 (ai i) (.k 6 (ai j) .nil)) (.v 29 (.eq (wpS f)) (.c d .nil)) g
theorem aap {nt:Nat} (g:32≤nt) (L:Lw) (a b c:Bool) (s:Int) (q k:Nat) (h:k<2^40) (e:k<L.ps.length) (i:aK s L.ps.length ((q:Int),(k:Int))=false):
  ak prog ap [] nt (au 2 (ag f49)) (Kt s q q L.ps.length k (L.c a b c)) .normal (Kt s q q L.ps.length (k+1) (L.c a b c)):=by
 have d:=lC L a b c s ((q:Int),(k:Int));have j:(decide ((k:Int)<(L.ps.length:Int)))=true:=kl e;have f:k<2^62:=by omega
 generalize l:aK s L.ps.length ((q:Int),(k:Int))=vq at*
 exact pN 49 [] 2 1 (.c (aj i) (.k 6 (ai j) .nil)) (.v 29 (.eq (wpS f)) (.c d .nil)) g
theorem aan {nt:Nat} (d:32≤nt) (L:Lw) (a b c:Bool) (s:Int) (q:Nat):ak prog ap [] nt (au 2 (ag f49)) (Kt s q q L.ps.length L.ps.length (L.c a b c)) (.exit 2) (I4 s q (L.c a b c)):=by
 have e:(decide ((L.ps.length:Int)<(L.ps.length:Int)))=false:=kn (ζ _);exact pN 49 [] 1 0 (.c (aj e) .nil) .nil d
theorem aas {nt:Nat} (n:32≤nt) (L:Lw) (a b c:Bool) (s:Int) (q k:Nat) (d:List Cl) (p:d.length<2^40) (j:k<2^40) (f:k<L.ps.length) (m:aK s L.ps.length ((q:Int),(k:Int))=true):
  ak prog ap [] nt (au 2 (ag f49)) ⟨[(1,ω s),(2,.ptr 0 0 0),(5,.ref 1 0 0 d.length),(6,ω (q:Int)),(9,ω (q:Int)),(14,ω (L.ps.length:Int)),(15,ω (k:Int))],[(0,⟨L.c a b c,0,false,0,0,true⟩),(1,cB d)],.dead,[]⟩ .normal ⟨[(1,ω s),(2,.ptr 0 0 0),(5,.ref 1 0 0 (d.length+1)),(6,ω (q:Int)),(9,ω (q:Int)),(14,ω (L.ps.length:Int)),(15,ω ((k+1:Nat):Int))],[(0,⟨L.c a b c,0,false,0,0,true⟩),(1,cB (d++ [((q:Int),(k:Int))]))],.dead,[]⟩:=by
 have g:=lC L a b c s ((q:Int),(k:Int));have l:(decide ((k:Int)<(L.ps.length:Int)))=true:=kl f;have i:k<2^62:=by omega
 generalize o:aK s L.ps.length ((q:Int),(k:Int))=vq at*
 have h:(Ψ (d.length+1) 1099511627776)=true:=(dw (by omega))
 have e:(Ψ (d.length*2) (κ (cL d)))=true:=(dw (oK (dA d) (by omega)))
 exact pN 49 [] 2 3 (.k 1 h (.c e (.k 3 (ai m) (.k 6 (ai l) .nil)))) (.v 29 (.eq (wpS i)) (.b 28 (ER d ((q:Int),(k:Int))) (.c g .nil))) n
theorem aao {nt:Nat} (m:32≤nt) (L:Lw) (a b c:Bool) (s:Int) (q k:Nat) (d:List Cl) (p:d.length<2^40) (h:k<2^40) (e:k<L.ps.length) (l:aK s L.ps.length ((q:Int),(k:Int))=false):
  ak prog ap [] nt (au 2 (ag f49)) ⟨[(1,ω s),(2,.ptr 0 0 0),(5,.ref 1 0 0 d.length),(6,ω (q:Int)),(9,ω (q:Int)),(14,ω (L.ps.length:Int)),(15,ω (k:Int))],[(0,⟨L.c a b c,0,false,0,0,true⟩),(1,cB d)],.dead,[]⟩ .normal ⟨[(1,ω s),(2,.ptr 0 0 0),(5,.ref 1 0 0 d.length),(6,ω (q:Int)),(9,ω (q:Int)),(14,ω (L.ps.length:Int)),(15,ω ((k+1:Nat):Int))],[(0,⟨L.c a b c,0,false,0,0,true⟩),(1,cB d)],.dead,[]⟩:=by
 have f:=lC L a b c s ((q:Int),(k:Int));have j:(decide ((k:Int)<(L.ps.length:Int)))=true:=kl e;have g:k<2^62:=by omega
 generalize n:aK s L.ps.length ((q:Int),(k:Int))=vq at*
 have o:(Ψ (d.length+1) 1099511627776)=true:=(dw (by omega))
 have i:(Ψ (d.length*2) (κ (cL d)))=true:=(dw (oK (dA d) (by omega)))
 exact pN 49 [] 2 1 (.c (aj l) (.k 6 (ai j) .nil)) (.v 29 (.eq (wpS g)) (.c f .nil)) m
theorem aam {nt:Nat} (e:32≤nt) (L:Lw) (a b c:Bool) (s:Int) (q:Nat) (d:List Cl):ak prog ap [] nt (au 2 (ag f49)) ⟨[(1,ω s),(2,.ptr 0 0 0),(5,.ref 1 0 0 d.length),(6,ω (q:Int)),(9,ω (q:Int)),(14,ω (L.ps.length:Int)),(15,ω (L.ps.length:Int))],[(0,⟨L.c a b c,0,false,0,0,true⟩),(1,cB d)],.dead,[]⟩ (.exit 2) ⟨[(1,ω s),(2,.ptr 0 0 0),(5,.ref 1 0 0 d.length),(9,ω (q:Int))],[(0,⟨L.c a b c,0,false,0,0,true⟩),(1,cB d)],.dead,[]⟩:=by
 have f:(decide ((L.ps.length:Int)<(L.ps.length:Int)))=false:=kn (ζ _);exact pN 49 [] 1 0 (.c (aj f) .nil) .nil e
theorem Ud {nt:Nat} (g:32≤nt) (L:Lw) (a b c:Bool) (s:Int) (q:Nat) (d:List Cl) (t:d.length+L.ps.length<2^40):
  aJ prog ap [] nt (au 2 (ag f49)) (fun _=> .exit 2) (clS L a b c s q) (ZX L a b c s q) (0,d) (d++mZ s L.ps.length q):=by
 have i:∀ (l:List Nat) (d:List Cl),AM.goL (fun (d:List Cl) k=>(Sum.inl (d++(if aK s L.ps.length ((q:Int),((k:Nat):Int)) then [((q:Int),((k:Nat):Int))] else [])):List Cl ⊕ List Cl)) id l d=d++l.flatMap fun k=>if aK s L.ps.length ((q:Int),((k:Nat):Int)) then [((q:Int),((k:Nat):Int))] else []:=by
  intro l
  induction l with
  |nil=>intro d;simp [AM.goL]
  |cons x l ih=>intro d;simp only [AM.goL];rw [ih];simp
 unfold mZ;rw [← i];have m:(Xqd L.ps.length).length=L.ps.length:=Xja;refine aJ.goD (fun (d:List Cl) k=>(Sum.inl (d++(if aK s L.ps.length ((q:Int),((k:Nat):Int)) then [((q:Int),((k:Nat):Int))] else [])):List Cl ⊕ List Cl)) id (Xqd L.ps.length) (fun p f=>f.length≤d.length+p.length) ?_ ?_ d (by simp)
 ·intro p k r f j hp;have e:p.length<L.ps.length:=by rw [← m,j];simp
  have n:k=p.length:=by
   have:=congrArg (fun l=>l[p.length]?) j;simp only [Xxi (ζ _),Xzc,List.getElem?_cons_zero] at this;rw [List.getElem?_range e] at this;exact (Option.some.inj this).symm
  subst n;refine .inl ⟨_,rfl, ?_,by split<;>simp<;>omega⟩;cases h:aK s L.ps.length ((q:Int),(p.length:Int)) with
  |true=>
   rw [if_pos rfl];cases f with
   |nil=>exact aat g L a b c s q p.length (by omega) e h
   |cons o os'=>have:=aas g L a b c s q p.length (o::os') (by omega) (by omega) e h;simpa [clS] using this
  |false=>
   rw [if_neg (by simp),ο];cases f with
   |nil=>exact aap g L a b c s q p.length (by omega) e h
   |cons o os'=>exact aao g L a b c s q p.length (o::os') (by omega) (by omega) e h
 ·intro f _;rw [m];cases f with
  |nil=>exact aan g L a b c s q
  |cons o os'=>exact aam g L a b c s q (o::os')
def aB (s:Int) (n:Nat):List Cl:=mZ s n 0++mZ s n 1
theorem YG {nt:Nat} (h:32≤nt) (L:Lw) (a b c:Bool) (s:Int) (q n1 n2:Nat) (k l:List Cl) (e:q<2) (g:LB 32 2 f49 (Kt s q q L.ps.length 0 (L.c a b c)) .normal (I4 s q (L.c a b c))):
  ψ nt f49 (I4 s q (L.c a b c)) .normal (I4 s (q+1) (L.c a b c)):=by
 have j:(decide ((q:Int)<((2:Nat):Int)))=true:=kl e;have f:q<2^62:=by omega
 have i:LB 32 2 f49 (Vs (.dead) s (.dead) (ω (q:Int)) (q:Int) (.bool (decide ((q:Int)<((2:Nat):Int)))) (ω (L.ps.length:Int)) (ω 0) [.sl L.fx L.fn a,.sl L.sx L.sn b,.sl (bQ L.ps) L.ps.length c]) (.normal) (I4 s q [.sl L.fx L.fn a,.sl L.sx L.sn b,.sl (bQ L.ps) L.ps.length c]):=(fun nt d=>(g nt d).weak (aI.of ⟨rfl,rfl,rfl,rfl,rfl,rfl,rfl,trivial⟩) (aI.refl _))
 exact pN 49 [2] 1 1 (.k 1 (ai j) .nil) (.v 30 (.eq (wpS f)) (.l i .nil)) h
theorem YF {nt:Nat} (i:32≤nt) (L:Lw) (a b c:Bool) (s:Int) (q n1 n2:Nat) (l e:List Cl) (f:q<2) (h:LB 32 2 f49 (Kt s q q L.ps.length 0 (L.c a b c)) .normal ⟨[(1,ω s),(2,.ptr 0 0 0),(5,.ref 1 0 0 n2),(9,ω (q:Int))],[(0,⟨L.c a b c,0,false,0,0,true⟩),(1,cB e)],.dead,[]⟩):
  ψ nt f49 (I4 s q (L.c a b c)) .normal ⟨[(1,ω s),(2,.ptr 0 0 0),(5,.ref 1 0 0 n2),(9,ω ((q+1:Nat):Int))],[(0,⟨L.c a b c,0,false,0,0,true⟩),(1,cB e)],.dead,[]⟩:=by
 have k:(decide ((q:Int)<((2:Nat):Int)))=true:=kl f;have g:q<2^62:=by omega
 have j:LB 32 2 f49 (Vs (.dead) s (.dead) (ω (q:Int)) (q:Int) (.bool (decide ((q:Int)<((2:Nat):Int)))) (ω (L.ps.length:Int)) (ω 0) [.sl L.fx L.fn a,.sl L.sx L.sn b,.sl (bQ L.ps) L.ps.length c]) (.normal) (X8 s n2 q [.sl L.fx L.fn a,.sl L.sx L.sn b,.sl (bQ L.ps) L.ps.length c] (cL e)):=(fun nt d=>(h nt d).weak (aI.of ⟨rfl,rfl,rfl,rfl,rfl,rfl,rfl,trivial⟩) (aI.refl _))
 exact pN 49 [2] 1 1 (.k 1 (ai k) .nil) (.v 30 (.eq (wpS g)) (.l j .nil)) i
theorem YE {nt:Nat} (j:32≤nt) (L:Lw) (a b c:Bool) (s:Int) (q n1 n2:Nat) (d f:List Cl) (g:q<2) (i:LB 32 2 f49 ⟨[(1,ω s),(2,.ptr 0 0 0),(5,.ref 1 0 0 n1),(6,ω (q:Int)),(9,ω (q:Int)),(14,ω (L.ps.length:Int)),(15,ω ((0:Nat):Int))],[(0,⟨L.c a b c,0,false,0,0,true⟩),(1,cB d)],.dead,[]⟩ .normal ⟨[(1,ω s),(2,.ptr 0 0 0),(5,.ref 1 0 0 n2),(9,ω (q:Int))],[(0,⟨L.c a b c,0,false,0,0,true⟩),(1,cB f)],.dead,[]⟩):
  ψ nt f49 ⟨[(1,ω s),(2,.ptr 0 0 0),(5,.ref 1 0 0 n1),(9,ω (q:Int))],[(0,⟨L.c a b c,0,false,0,0,true⟩),(1,cB d)],.dead,[]⟩ .normal ⟨[(1,ω s),(2,.ptr 0 0 0),(5,.ref 1 0 0 n2),(9,ω ((q+1:Nat):Int))],[(0,⟨L.c a b c,0,false,0,0,true⟩),(1,cB f)],.dead,[]⟩:=by
 have l:(decide ((q:Int)<((2:Nat):Int)))=true:=kl g;have h:q<2^62:=by omega
 have k:LB 32 2 f49 ⟨[(0,.dead),(1,ω s),(2,.ptr 0 0 0),(4,.dead),(5,.ref 1 0 0 n1),(6,ω (q:Int)),(7,.dead),(8,.dead),(9,ω (q:Int)),(10,.bool (decide ((q:Int)<((2:Nat):Int)))),(14,ω (L.ps.length:Int)),(15,ω 0),(16,.dead),(24,.dead)],[(0,⟨[.sl L.fx L.fn a,.sl L.sx L.sn b,.sl (bQ L.ps) L.ps.length c],0,false,0,0,true⟩),(1,⟨(cL d),0,false,0,2,true⟩)],.dead,[]⟩ (.normal) (X8 s n2 q [.sl L.fx L.fn a,.sl L.sx L.sn b,.sl (bQ L.ps) L.ps.length c] (cL f)):=(fun nt e=>(i nt e).weak (aI.of ⟨rfl,rfl,rfl,rfl,rfl,rfl,rfl,trivial⟩) (aI.refl _))
 exact pN 49 [2] 1 1 (.k 1 (ai l) .nil) (.v 30 (.eq (wpS h)) (.l k .nil)) j
theorem aar {nt:Nat} (d:32≤nt) (L:Lw) (a b c:Bool) (s:Int) (n1:Nat) (f:List Cl):ψ nt f49 (I4 s 2 (L.c a b c)) (.exit 0) ⟨[(5,.nilS)],[],.dead,[]⟩:=by
 have e:(decide (((2:Nat):Int)<((2:Nat):Int)))=false:=by decide
 exact pN 49 [2] 1 0 (.c (aj e) .nil) .nil d
theorem aaq {nt:Nat} (e:32≤nt) (L:Lw) (a b c:Bool) (s:Int) (n1:Nat) (d:List Cl):ψ nt f49 ⟨[(1,ω s),(2,.ptr 0 0 0),(5,.ref 1 0 0 n1),(9,ω ((2:Nat):Int))],[(0,⟨L.c a b c,0,false,0,0,true⟩),(1,cB d)],.dead,[]⟩ (.exit 0) ⟨[(5,.ref 0 0 0 n1)],[(0,cB d)],.dead,[]⟩:=by
 have f:(decide (((2:Nat):Int)<((2:Nat):Int)))=false:=by decide
 exact pN 49 [2] 1 0 (.c (aj f) .nil) .nil e
theorem KN {nt:Nat} (f:32≤nt) (L:Lw) (a b c:Bool) (s:Int) (q:Nat) (d:List Cl) (e:q<2) (i:d.length+L.ps.length<2^40):
  ψ nt f49 (ZX L a b c s q d) .normal (ZX L a b c s (q+1) (d++mZ s L.ps.length q)):=by
 have g:=aJ.blk (id:=2) (e':= .normal) (s:=clS L a b c s q (0,d)) (s':=ZX L a b c s q (d++mZ s L.ps.length q)) (fun nt (f:32≤nt)=>Ud f L a b c s q d i) (by simp) rfl (aI.refl _) (aI.refl _);generalize h:mZ s L.ps.length q=row at*
 clear h;cases d with
 |nil=>
  rw [θ] at*
  cases row with
  |nil=>exact YG f L a b c s q 0 0 [] [] e g
  |cons y o2=>exact YF f L a b c s q 0 (y::o2).length [] (y::o2) e g
 |cons x d=>exact YE f L a b c s q (x::d).length (x::d++row).length (x::d) (x::d++row) e g
def clR (os:List Cl):St:=match os with| []=> ⟨[(5,.nilS)],[],.dead,[]⟩|o::os2=> ⟨[(5,.ref 0 0 0 (o::os2).length)],[(0,cB (o::os2))],.dead,[]⟩
theorem YD {nt:Nat} (e:32≤nt) (L:Lw) (a b c:Bool) (s:Int) (g:L.ps.length<2^38):aJ prog ap [] nt (au 0 (ag f49)) (fun _=> .exit 0) (fun p:Nat × List Cl=>ZX L a b c s p.1 p.2) clR (0,[]) (aB s L.ps.length):=by
 have d:∀ q,(mZ s L.ps.length q).length≤L.ps.length:=fun q=>by
  unfold mZ;rw [Xzm];have:∀ l:List Nat,(l.map fun k=>(if aK s L.ps.length (((q:Nat):Int),((k:Nat):Int)) then [((((q:Nat):Int),((k:Nat):Int)):Cl)] else []).length).sum≤l.length:=by
   intro l
   induction l with
   |nil=>simp
   |cons x l ih=>simp only [φ,Xwz,Γ];split<;>simp<;>omega
  have:=this (Xqd L.ps.length);rwa [Xja] at this
 have f:(2:Nat)^38=274877906944:=by decide
 have h0:=d 0;refine .next (a':=(1,mZ s L.ps.length 0)) (by simpa using KN e L a b c s 0 [] (by omega) (by simp;omega)) ?_
 refine .next (a':=(2,aB s L.ps.length)) (KN e L a b c s 1 (mZ s L.ps.length 0) (by omega) (by omega)) (.done ?_)
 generalize aB s L.ps.length=o1;cases o1 with
 |nil=>exact aar e L a b c s 0 []
 |cons o os=>exact aaq e L a b c s (o::os).length (o::os)
def acp (l:List Cl):AV:=match l with| []=> .nilS|o::os=> .own (cL (o::os)) (o::os).length 2
theorem GK (L:Lw) (a b c:Bool) (s:Int) (i:L.ps.length<2^38):CO 49 [.agg (L.c a b c),ω s] (.ret (acp (aB s L.ps.length))):=by
 have e:=aJ.blk (id:=0) (e':= .normal) (s:=ZX L a b c s 0 []) (s':=clR (aB s L.ps.length)) (fun nt (hn:32≤nt)=>YD hn L a b c s i) (by simp) rfl (aI.refl _) (aI.refl _);cases h:aB s L.ps.length with
 |nil=>
  rw [h] at e;have f:LB 32 0 f49 (Vs (.agg [.sl L.fx L.fn a,.sl L.sx L.sn b,.sl (bQ L.ps) L.ps.length c]) s (.nilS) (.dead) 0 (.dead) (.dead) (.dead) [.sl L.fx L.fn a,.sl L.sx L.sn b,.sl (bQ L.ps) L.ps.length c]) (.normal) ⟨[(5,.nilS)],[],.dead,[]⟩:=(fun nt d=>(e nt d).weak (aI.of ⟨rfl,rfl,rfl,rfl,trivial⟩) (aI.refl _))
  exact pK [0] 0 0 .nil (.l f .nil)
 |cons o os=>
  rw [h] at e;have g:μ ((o::os).length*2) (cL (o::os))=cL (o::os):=τ (by rw [dA];exact ζ _);show CO 49 _ (.ret (.own (cL (o::os)) (o::os).length 2));rw [← g];change bg _ _ _ _ _ _ _ ⟨[(5,.ref 0 0 0 (o::os).length)],[(0,cB (o::os))],_,_⟩ at e;clear g;generalize j:o::os=o1 at*
  generalize o1.length=n1 at*
  have f:LB 32 0 f49 (Vs (.agg [.sl L.fx L.fn a,.sl L.sx L.sn b,.sl (bQ L.ps) L.ps.length c]) s (.nilS) (.dead) 0 (.dead) (.dead) (.dead) [.sl L.fx L.fn a,.sl L.sx L.sn b,.sl (bQ L.ps) L.ps.length c]) (.normal) ⟨[(5,.ref 0 0 0 n1)],[(0,⟨(cL o1),0,false,0,2,true⟩)],.dead,[]⟩:=(fun nt d=>(e nt d).weak (aI.of ⟨rfl,rfl,rfl,rfl,trivial⟩) (aI.refl _))
  exact pK [0] 0 0 .nil (.l f .nil)
noncomputable def Wy (t:Nat):AV→Bool:=match ap.tyAt t with|some ti=>gJ ti|none=>fun _=>false
theorem Y2 (x:Cl):Wy 25 (cA x)=true:=by kernel_rfl
theorem rQ (l:List Cl):Xwn (l.map cA) (Wy 25)=true:=by
 rw [List.all_eq_true];intro k a;obtain ⟨x,_,rfl⟩:=List.mem_map.1 a;exact Y2 x
theorem ut (x y:Cl):Ad (cA x) (cA y)=true↔x=y:=by
 simp only [cA,cC,Ad,Ff,Ae,Xj4,δ,beq_iff_eq];exact ⟨fun h=>Xvu h.1 h.2,fun h=>h ▸ ⟨rfl,rfl⟩⟩
theorem Yw {l:List Cl} {x:Cl}:List.any (l.map cA) (Ad (cA x))=true↔x ∈ l:=by
 rw [List.any_eq_true];constructor
 ·rintro ⟨k,hk,h⟩
  obtain ⟨y,a,rfl⟩:=List.mem_map.1 hk;rw [(ut x y).1 h];exact a
 ·intro h;exact ⟨cA x,List.mem_map.2 ⟨x,h,rfl⟩,(ut x x).2 rfl⟩
theorem Ik {l:List Cl} {x:Cl} (h:x ∉ l):xn (l.map cA) (cA x)=(l++ [x]).map cA:=by
 unfold xn;have:List.any (l.map cA) (Ad (cA x))=false:=by
  rw [Xjb];exact fun e=>h (Yw.1 e)
 rw [this];simp
theorem BJ:∀ {l:List Cl} {x:Cl} (vs:List AV) (v:AV),x ∉ l→vs.length=l.length→mY (l.map cA) vs (cA x) v=vs++ [v]
 | [],x,[],v,_,_=>rfl
 | [],x,_::_,v,_,h=>by simp at h
 |y::l,x,[],v,_,h=>by simp at h
 |y::l,x,u::vs,v,h,hl=>by
  simp only [Xqs,not_or] at h;have e:Ad (cA x) (cA y)=false:=by rw [Xjb];exact fun e=>h.1 ((ut x y).1 e)
  simp only [φ,mY,e];rw [BJ vs v h.2 (by simpa using hl)];rfl
def fE (L:Lw) (s:Int) (l:List Cl):Ut:=l.map fun x=>(x,jv L s x)
def yQ (W:Ut):List AV:=W.map fun x=> .sl (cL x.2) x.2.length false
theorem aeY {nt:Nat} (B:25≤nt) (L:Lw) (a b c:Bool) (s:Int) (y:CP L) (l p r:List Cl) (x:Cl) (i:l=p++x::r) (C:l.length<2^40) (d:x ∉ p):
  ψ nt f47 (Nw s (.sl (cL l) l.length false) l.length p.length (L.c a b c) [.agg (p.map cA),.agg (yQ (fE L s p))]) .normal (Nw s (.sl (cL l) l.length false) l.length (p.length+1) (L.c a b c) [.agg ((p++ [x]).map cA),.agg (yQ (fE L s (p++ [x])))]):=by
 have v:=eH (f:=cC) (n:=2) (fun _=>rfl) i;change ε _ (cL l)=cC x++cL r at v;have A:=NH L a b c s x y;have g:p.length<l.length:=mP i;have z:p.length<2^62:=by omega
 have h:=rQ p;have o:=Ik d;have t:=BJ (yQ (fE L s p)) (.sl (cL (jv L s x)) (jv L s x).length false) d (by simp [yQ,fE]);have m:yQ (fE L s (p++ [x]))=yQ (fE L s p)++ [.sl (cL (jv L s x)) (jv L s x).length false]:=by simp [yQ,fE]
 rw [m,← o,← t];have q:(decide ((p.length:Int)<(l.length:Int)))=true:=kl g;have hp:(p++ [x]).length=p.length+1:=by simp
 clear o t m i;generalize yQ (fE L s p)=vs at*
 generalize List.map cA p=ks at*
 generalize jv L s x=u at*
 generalize p.length=k at*
 have j:(Xwn ks (Wy 25))=true:=h;have e:(decide ((k:Int)<(l.length:Int)))=true:=q;exact pN 47 [] 1 1 (.k 1 j (.k 11 e (.c (ai q) .nil))) (.v 23 (.eq (wpS z)) (.c A (.v 15 (.ppt v) .nil))) B
theorem aeX {nt:Nat} (d:25≤nt) (L:Lw) (a b c:Bool) (s:Int) (l:List Cl) (ks vs:List AV):
  ψ nt f47 (Nw s (.sl (cL l) l.length false) l.length l.length (L.c a b c) [.agg ks,.agg vs]) (.exit 0) (SL [.agg ks,.agg vs]):=by
 have e:(decide ((l.length:Int)<(l.length:Int)))=false:=kn (ζ _);exact pN 47 [] 1 0 (.c (aj e) .nil) .nil d
theorem Nu {nt:Nat} (g:25≤nt) (L:Lw) (a b c:Bool) (s:Int) (j:CP L) (l:List Cl) (f:l.length<2^40) (d:l.Nodup):∀ (r p:List Cl),l=p++r→
  aJ prog ap [] nt (au 0 (ag f47)) (fun _=> .exit 0) (fun p:List Cl=>(Nw s (.sl (cL l) l.length false) l.length p.length (L.c a b c) [.agg (p.map cA),.agg (yQ (fE L s p))])) (fun p:List Cl=>(SL [.agg (p.map cA),.agg (yQ (fE L s p))])) p l
 | [],p,h=>by
  have hp:p=l:=by rw [h];simp
  subst hp;exact .done (aeX g L a b c s p _ _)
 | x::r,p,h=>by
  have i:x ∉ p:=by
   rw [h] at d;intro i;have:=(List.nodup_append.1 d).2.2 x i x (by simp);exact this rfl
  refine .next (a':=p++ [x]) ?_ (Nu g L a b c s j l f d r (p++ [x]) (by rw [h];simp))
  have:=aeY g L a b c s j l p r x h f i;have e:(p++ [x]).length=p.length+1:=by simp
  simpa [e] using this
theorem PH (L:Lw) (a b c:Bool) (s:Int) (e:L.ps.length<2^38):CO 49 [.agg (L.c a b c),ω s] (.ret (.sl (cL (aB s L.ps.length)) (aB s L.ps.length).length false)):=by
 have h:=GK L a b c s e;cases d:aB s L.ps.length with
 |nil=>rw [d] at h;exact h.out (je.ret rfl rfl (bF.nilS false rfl))
 |cons o os=>rw [d] at h;exact Fh (o::os) _ (τ (by rw [dA];exact ζ _)) h
theorem ww {s:Int} {n q:Nat} {x:Cl}:x ∈ mZ s n q↔x.1=q∧aK s n x=true:=by
 unfold mZ;rw [List.mem_flatMap];constructor
 ·rintro ⟨k,hk,hx⟩
  split at hx
  ·rename_i f;rw [List.mem_singleton] at hx;subst hx;exact ⟨rfl,f⟩
  ·cases hx
 ·rintro ⟨h1,h2⟩
  obtain ⟨a,b⟩:=x;simp only at h1;subst h1;have c:=h2;unfold aK at c;simp only [δ,decide_eq_true_eq] at c;obtain ⟨_,_,_,d,g⟩:=c;have e:(b.toNat:Int)=b:=Xje d;refine ⟨b.toNat,List.mem_range.2 (by omega), ?_⟩;rw [e,if_pos h2];simp
theorem BV (s:Int) (n q:Nat):(mZ s n q).Nodup:=by
 unfold mZ;have key:∀ l:List Nat,l.Nodup→(l.flatMap fun k=>if aK s n ((q:Int),((k:Nat):Int)) then [(((q:Int),((k:Nat):Int)):Cl)] else []).Nodup:=by
  intro l
  induction l with
  |nil=>intro _;simp
  |cons k l ih=>
   intro h;rw [List.nodup_cons] at h;rw [Xqa,Xxw];refine ⟨by split<;>simp,ih h.2,fun x c y a e=> ?_⟩;subst e;obtain ⟨k2,b,a⟩:=List.mem_flatMap.1 a;split at c<;>split at a<;>simp at c a
   rw [c] at a;simp at a;have:k=k2:=by omega
   subst this;exact h.1 b
 exact key _ Xx2
theorem kS {s:Int} {n:Nat} {x:Cl}:x ∈ aB s n↔aK s n x=true:=by
 unfold aB;rw [Xjc,ww,ww];constructor
 ·rintro (h|h)<;>exact h.2
 ·intro h;have a:=h;unfold aK at a;simp only [δ,Xxf,decide_eq_true_eq,beq_iff_eq] at a;obtain ⟨h0,b,c,_⟩:=a;have:x.1=((0:Nat):Int)∨x.1=((1:Nat):Int):=by omega
  exact this.imp (fun e=> ⟨e,h⟩) (fun e=> ⟨e,h⟩)
theorem vk (s:Int) (n:Nat):(aB s n).Nodup:=by
 unfold aB;rw [Xxw];refine ⟨BV _ _ _,BV _ _ _,fun x b y a e=> ?_⟩;subst e;have c:=(ww.1 b).1;have d:=(ww.1 a).1;omega
theorem Js (s:Int) (n:Nat) (e:n<2^38):(aB s n).length<2^40:=by
 have a:∀ q,(mZ s n q).length≤n:=fun q=>by
  unfold mZ;rw [Xzm];have:∀ l:List Nat,(l.map fun k=>(if aK s n (((q:Nat):Int),((k:Nat):Int)) then [((((q:Nat):Int),((k:Nat):Int)):Cl)] else []).length).sum≤l.length:=by
   intro l
   induction l with
   |nil=>simp
   |cons x l ih=>simp only [φ,Xwz,Γ];split<;>simp<;>omega
  have:=this (Xqd n);rwa [Xja] at this
 have b:(2:Nat)^38=274877906944:=by decide
 have c:(2:Nat)^40=1099511627776:=by decide
 have h0:=a 0;have d:=a 1;unfold aB;rw [ξ];omega
theorem Vo (L:Lw) (a b c:Bool) (s:Int) (h:CP L) (g:L.ps.length<2^38):af prog ap 47 [.agg (L.c a b c),ω s] [] (.ret (.mr 0 0)) [⟨[.agg ((aB s L.ps.length).map cA),.agg (yQ (fE L s (aB s L.ps.length)))],0,false,0,4611686018427387904,true⟩]:=by
 have i:=PH L a b c s g;have e:=aJ.blk (id:=0) (e':= .normal) (fun nt (d:25≤nt)=>Nu d L a b c s h (aB s L.ps.length) (Js _ _ g) (vk _ _) (aB s L.ps.length) [] rfl) (by simp) rfl (aI.refl _) (aI.refl _);simp only [Xjo,Xqh] at e;change bg _ _ _ _ _ ⟨_,[(0,⟨L.c a b c,0,false,0,0,true⟩),(1,⟨[.agg [],.agg []],0,false,0,4611686018427387904,true⟩)],_,_⟩ _ _ at e;generalize (aB s L.ps.length).map cA=ks at*
 generalize yQ (fE L s (aB s L.ps.length))=vs at*
 generalize aB s L.ps.length=l at*
 have j:LB 25 0 f47 ⟨[(0,.agg [.sl L.fx L.fn a,.sl L.sx L.sn b,.sl (bQ L.ps) L.ps.length c]),(1,ω s),(2,.ptr 0 0 0),(4,.mp [] []),(5,.mr 1 0),(7,.dead),(11,.sl (cL l) l.length false),(12,ω (l.length:Int)),(13,ω 0),(14,.dead)],[(0,⟨[.sl L.fx L.fn a,.sl L.sx L.sn b,.sl (bQ L.ps) L.ps.length c],0,false,0,0,true⟩),(1,⟨[.agg [],.agg []],0,false,0,4611686018427387904,true⟩)],.dead,[]⟩ (.normal) (SL [.agg ks,.agg vs]):=(fun nt f=>(e nt f).weak (aI.of ⟨rfl,rfl,rfl,rfl,rfl,rfl,trivial⟩) (aI.refl _))
 exact nI lG 1 (F:=⟨f47,[0,1,2,4,5,7,11,12,13,14],true⟩) rfl rfl (fun nt d=>(pN 47 [0] 0 0 (.n 3 .nil) (.l j (.c i .nil)) d:ak prog ap [] nt (ag f47) (eQ .dead [.agg (L.c a b c),ω s] []) .ret (SN [.agg ks,.agg vs]))) rfl (Xqr _) rfl
def zg (l:List Cl):List AV:=l.map fun _=> .bool true
def pO (L:Lw) (a b c:Bool) (s:Int) (uk uv ks vs:List AV):List aP:= [⟨[.mr 5 0],0,false,0,0,false⟩,⟨[.sl L.fx L.fn a,.sl L.sx L.sn b,.sl (bQ L.ps) L.ps.length c],0,false,0,0,true⟩,⟨[ω s],0,false,0,0,true⟩,⟨[.mr 6 0],0,false,0,0,false⟩,⟨[.fn 56 [] [.ptr 0 0 0,.ptr 1 0 0,.ptr 2 0 0,.ptr 3 0 0,.ptr 4 0 0]],0,false,0,0,false⟩,⟨[.agg ks,.agg vs],0,false,0,4611686018427387904,true⟩,⟨[.agg uk,.agg uv],0,false,0,4611686018427387904,true⟩]
theorem wP:∀ (l:List Cl) (x:Cl),Xjf (iC (l.map cA) (zg l) (cA x)) (.bool false)= .bool (decide (x ∈ l))
 | [],x=>by simp [iC,zg]
 | y::l,x=>by
  simp only [zg,φ,iC];cases h:Ad (cA x) (cA y) with
  |true=>have:=(ut x y).1 h;subst this;simp
  |false=>
   have a:x ≠ y:=fun e=>by rw [(ut x y).2 e] at h;cases h
   have:=wP l x;simp only [zg] at this;simp only [this,Xqs,a,false_or]
theorem P5:∀ (U:Ut) (x:Cl),bF (Xjf (iC (U.map fun x=>cA x.1) (yQ U) (cA x)) .nilS) (.sl (cL (dm U x)) (dm U x).length false)
 | [],x=>by simpa [iC,yQ,dm,cL] using bF.nilS false rfl
 | (y,l)::U,x=>by
  simp only [yQ,φ,iC,dm];cases h:Ad (cA x) (cA y) with
  |true=>have:=(ut x y).1 h;subst this;rw [if_pos rfl];exact bF.eq rfl
  |false=>
   have a:¬ y=x:=fun e=>by rw [(ut x y).2 e.symm] at h;cases h
   rw [if_neg a];exact P5 U x
theorem ZT (U:Ut):Xwn (U.map fun x=>cA x.1) (Wy 25)=true:=by
 have:=rQ (U.map (·.1));rwa [Xzs] at this
def lD (us:Cl→List Cl) (ok:Cl→Bool):Nat→List Cl→Cl→List Cl
 |0,seen,_=>seen
 |n+1,seen,x=>if x ∈ seen then seen else if ok x then (us x).foldl (lD us ok n) (seen++ [x]) else seen
theorem CS (us:Cl→List Cl) (ok:Cl→Bool):∀ (n:Nat) (seen:List Cl) (x:Cl),∃ t,lD us ok n seen x=seen++t
 |0,seen,_=> ⟨[],by simp [lD]⟩
 | n +1,seen,x=>by
  unfold lD;split
  ·exact ⟨[],by simp⟩
  ·split
   ·have key:∀ (l:List Cl) (a:List Cl),∃ t,l.foldl (lD us ok n) a=a++t:=by
     intro l
     induction l with
     |nil=>intro a;exact ⟨[],by simp⟩
     |cons y l ih=>
      intro a;obtain ⟨t,b⟩:=CS us ok n a y;obtain ⟨d,c⟩:=ih (lD us ok n a y);exact ⟨t++d,by rw [Xqw,c,b,Δ]⟩
    obtain ⟨t,b⟩:=key (us x) (seen++ [x]);exact ⟨[x]++t,by rw [b,Δ]⟩
   ·exact ⟨[],by simp⟩
def ZU (L:Lw) (a b c:Bool) (s:Int) (uk uv:List AV) (l:List Cl) (k:Nat) (ks vs:List AV):St:=⟨[(1,.ptr 0 0 0),(2,.ptr 1 0 0),(3,.ptr 2 0 0),(4,.ptr 3 0 0),(5,.ptr 4 0 0),(23,.sl (cL l) l.length false),(24,ω (l.length:Int)),(25,ω (k:Int))],[(0,⟨[.mr 5 0],0,false,0,0,false⟩),(1,⟨[.sl L.fx L.fn a,.sl L.sx L.sn b,.sl (bQ L.ps) L.ps.length c],0,false,0,0,true⟩),(2,⟨[ω s],0,false,0,0,true⟩),(3,⟨[.mr 6 0],0,false,0,0,false⟩),(4,⟨[.fn 56 [] [.ptr 0 0 0,.ptr 1 0 0,.ptr 2 0 0,.ptr 3 0 0,.ptr 4 0 0]],0,false,0,0,false⟩),(5,⟨[.agg ks,.agg vs],0,false,0,4611686018427387904,true⟩),(6,⟨[.agg uk,.agg uv],0,false,0,4611686018427387904,true⟩)],.dead,[]⟩
theorem afr (L:Lw) (a b c:Bool) (s:Int) (g h ks vs:List AV) (x:Cl) (e:Xwn ks (Wy 25)=true) (d:Xjf (iC ks vs (cA x)) (.bool false)= .bool true):af prog ap 56 [cA x,.ptr 0 0 0,.ptr 1 0 0,.ptr 2 0 0,.ptr 3 0 0,.ptr 4 0 0] (pO L a b c s g h ks vs) (.ret (.tup [])) (pO L a b c s g h ks vs):=by
 obtain ⟨f,hs⟩:∃ f,f=true:=⟨_,rfl⟩
 have d:Xjf (iC ks vs (cA x)) (.bool false)= .bool f:=by rw [hs];exact d
 exact pK [0] 2 3 (.k 1 (ai hs) (.k 1 e (.n 3 .nil))) (.v 11 (.eq d) .nil)
theorem afs (L:Lw) (a b c:Bool) (s:Int) (h i ks vs:List AV) (x:Cl) (e:Xwn ks (Wy 25)=true) (d:Xjf (iC ks vs (cA x)) (.bool false)= .bool false) (j:aK s L.ps.length x=false):af prog ap 56 [cA x,.ptr 0 0 0,.ptr 1 0 0,.ptr 2 0 0,.ptr 3 0 0,.ptr 4 0 0] (pO L a b c s h i ks vs) (.ret (.tup [])) (pO L a b c s h i ks vs):=by
 obtain ⟨g,hs⟩:∃ g,g=false:=⟨_,rfl⟩
 have d:Xjf (iC ks vs (cA x)) (.bool false)= .bool g:=by rw [hs];exact d
 have f:=lC L a b c s x;generalize aK s L.ps.length x=vq at*
 exact pK [0] 2 2 (.c (fK j) (.k 6 (aj hs) (.k 1 e (.n 3 .nil)))) (.c f (.v 11 (.eq d) .nil))
theorem aft (L:Lw) (a b c:Bool) (s:Int) (d e ks vs:List AV) (x:Cl) (g:Xwn ks (Wy 25)=true) (k:Xwn d (Wy 25)=true) (k2 h:List AV) (us:List Cl) (f:Xjf (iC ks vs (cA x)) (.bool false)= .bool false) (n:aK s L.ps.length x=true) (m:bF (Xjf (iC d e (cA x)) .nilS) (.sl (cL us) us.length false))
  (l0:bg prog ap (pO L a b c s d e ks vs) 33 (.block 0 (.loop (au 0 (ag f56)))) (ZU L a b c s d e us 0 (xn ks (cA x)) (mY ks vs (cA x) (.bool true))) .normal (SQ [.sl L.fx L.fn a,.sl L.sx L.sn b,.sl (bQ L.ps) L.ps.length c] [ω s] [.agg k2,.agg h] [.agg d,.agg e])):af prog ap 56 [cA x,.ptr 0 0 0,.ptr 1 0 0,.ptr 2 0 0,.ptr 3 0 0,.ptr 4 0 0] (pO L a b c s d e ks vs) (.ret (.tup [])) (pO L a b c s d e k2 h):=by
 unfold ZU pO at l0;have o:bg prog ap [⟨[.mr 5 0],0,false,0,0,false⟩,⟨[.sl L.fx L.fn a,.sl L.sx L.sn b,.sl (bQ L.ps) L.ps.length c],0,false,0,0,true⟩,⟨[ω s],0,false,0,0,true⟩,⟨[.mr 6 0],0,false,0,0,false⟩,⟨[.fn 56 [] [.ptr 0 0 0,.ptr 1 0 0,.ptr 2 0 0,.ptr 3 0 0,.ptr 4 0 0]],0,false,0,0,false⟩,⟨[.agg ks,.agg vs],0,false,0,4611686018427387904,true⟩,⟨[.agg d,.agg e],0,false,0,4611686018427387904,true⟩] 33 (.block 0 (.loop (au 0 (ag f56)))) ⟨[(0,.agg [ω x.1,ω x.2]),(1,.ptr 0 0 0),(2,.ptr 1 0 0),(3,.ptr 2 0 0),(4,.ptr 3 0 0),(5,.ptr 4 0 0),(6,.ptr 7 0 0),(8,.dead),(18,.bool (!(aK s L.ps.length x))),(23,.sl (cL us) us.length false),(24,ω (us.length:Int)),(25,ω 0),(26,.dead)],[(0,⟨[.mr 5 0],0,false,0,0,false⟩),(1,⟨[.sl L.fx L.fn a,.sl L.sx L.sn b,.sl (bQ L.ps) L.ps.length c],0,false,0,0,true⟩),(2,⟨[ω s],0,false,0,0,true⟩),(3,⟨[.mr 6 0],0,false,0,0,false⟩),(4,⟨[.fn 56 [] [.ptr 0 0 0,.ptr 1 0 0,.ptr 2 0 0,.ptr 3 0 0,.ptr 4 0 0]],0,false,0,0,false⟩),(5,⟨[.agg (xn ks (.agg [ω x.1,ω x.2])),.agg (mY ks vs (.agg [ω x.1,ω x.2]) (.bool true))],0,false,0,4611686018427387904,true⟩),(6,⟨[.agg d,.agg e],0,false,0,4611686018427387904,true⟩),(7,⟨[ω x.1,ω x.2],0,false,0,0,true⟩)],.dead,[]⟩ (.normal) (SQ [.sl L.fx L.fn a,.sl L.sx L.sn b,.sl (bQ L.ps) L.ps.length c] [ω s] [.agg k2,.agg h] [.agg d,.agg e]):=(fun nt j=>ak.tidy [1,2,3,4,5,23,24,25] (l0 nt j) (by kernel_rfl) rfl)
 obtain ⟨i,hs⟩:∃ i,i=false:=⟨_,rfl⟩
 have f:Xjf (iC ks vs (cA x)) (.bool false)= .bool i:=by rw [hs];exact f
 have l:=lC L a b c s x;generalize aK s L.ps.length x=vq at*
 exact pK [0] 2 0 (.k 1 k (.k 4 g (.k 3 (dM n) (.k 6 (aj hs) (.k 1 g (.n 3 .nil)))))) (.l o (.v 23 m (.c l (.v 11 (.eq f) .nil))))
theorem afv {nt:Nat} (u:33≤nt) (h0:List aP) (t:h0.length=7) (L:Lw) (a b c:Bool) (s:Int) (d e ks vs k2 j:List AV) (l p r:List Cl) (x:Cl) (g:l=p++x::r) (v:l.length<2^40) (m:af prog ap 56 [cA x,.ptr 0 0 0,.ptr 1 0 0,.ptr 2 0 0,.ptr 3 0 0,.ptr 4 0 0] (pO L a b c s d e ks vs) (.ret (.tup [])) (pO L a b c s d e k2 j)):
  ak prog ap h0 nt (au 0 (ag f56)) (ZU L a b c s d e l p.length ks vs) .normal (ZU L a b c s d e l (p.length+1) k2 j):=by
 have o:=eH (f:=cC) (n:=2) (fun _=>rfl) g;change ε _ (cL l)=cC x++cL r at o;have i:p.length<l.length:=mP g;have y:p.length<2^62:=by omega
 have q:(decide ((p.length:Int)<(l.length:Int)))=true:=kl i
 match h0,t with
 | [b0,b1,b2,b3,b4,b5,b6],_=>
  unfold ZU;unfold pO at m;clear g;generalize p.length=k at*
  have h:(decide ((k:Int)<(l.length:Int)))=true:=q;exact pN 56 [] 1 1 (.k 7 h (.c (ai q) .nil)) (.v 32 (.eq (wpS y)) (.c m (.v 27 (.ppt o) .nil))) u
theorem afu {nt:Nat} (f:33≤nt) (h0:List aP) (g:h0.length=7) (L:Lw) (a b c:Bool) (s:Int) (d e ks vs:List AV) (l:List Cl):
  ak prog ap h0 nt (au 0 (ag f56)) (ZU L a b c s d e l l.length ks vs) (.exit 0) (SQ [.sl L.fx L.fn a,.sl L.sx L.sn b,.sl (bQ L.ps) L.ps.length c] [ω s] [.agg ks,.agg vs] [.agg d,.agg e]):=by
 have h:(decide ((l.length:Int)<(l.length:Int)))=false:=kn (ζ _)
 match h0,g with
 | [b0,b1,b2,b3,b4,b5,b6],_=>exact pN 56 [] 1 0 (.c (aj h) .nil) .nil f
def jq (C:List Cl) (seen:List Cl):Nat:=(C.filter fun c=>decide (c ∉ seen)).length
theorem xC (C:List Cl) {s t:List Cl} (h:∀ x ∈ s,x ∈ t):jq C t≤jq C s:=by
 unfold jq;rw [← Xzl,← Xzl];refine List.countP_mono_left fun x _ a=> ?_
 simp only [decide_eq_true_eq] at a ⊢;exact fun e=>a (h x e)
theorem EF {C:List Cl} {s:List Cl} {x:Cl} (a:x ∈ C) (hs:x ∉ s):jq C (s++ [x])<jq C s:=by
 unfold jq;have e:(C.filter fun c=>decide (c ∉ s++ [x]))=(C.filter fun c=>decide (c ∉ s)).filter fun c=>decide (c ≠ x):=by
  rw [List.filter_filter];congr 1;funext c;rw [Bool.eq_iff_iff];simp [and_comm]
 rw [e];refine (List.length_filter_lt_length_iff_exists).2 ⟨x, ?_,by simp⟩;rw [Xxg];exact ⟨a,by simpa using hs⟩
theorem TG (L:Lw) (a b c:Bool) (s:Int) (U:Ut) (m:∀ x,(dm U x).length<2^40):∀ (n:Nat) (seen:List Cl) (x:Cl),jq (aB s L.ps.length) seen<n→
  af prog ap 56 [cA x,.ptr 0 0 0,.ptr 1 0 0,.ptr 2 0 0,.ptr 3 0 0,.ptr 4 0 0] (pO L a b c s (U.map fun x=>cA x.1) (yQ U) (seen.map cA) (zg seen)) (.ret (.tup [])) (pO L a b c s (U.map fun x=>cA x.1) (yQ U) ((lD (dm U) (aK s L.ps.length) n seen x).map cA) (zg (lD (dm U) (aK s L.ps.length) n seen x)))
 |0,seen,x,h=>absurd h (Xwg _)
 | n + 1,seen,x,h=>by
  have f:=wP seen x;unfold lD;by_cases hx:x ∈ seen
  ·rw [if_pos hx];exact afr L a b c s _ _ _ _ x (rQ seen) (by rw [f];simp [hx])
  ·rw [if_neg hx];have e:Xjf (iC (seen.map cA) (zg seen) (cA x)) (.bool false)= .bool false:=by rw [f];simp [hx]
   cases l:aK s L.ps.length x with
   |false=>
    rw [if_neg (by simp)];exact afs L a b c s _ _ _ _ x (rQ seen) e l
   | true=>
    rw [if_pos rfl];have k:jq (aB s L.ps.length) (seen++ [x])<n:=by have:=EF (kS.2 l) hx;omega
    have h0len:(pO L a b c s (U.map fun x=>cA x.1) (yQ U) (seen.map cA) (zg seen)).length=7:=rfl;have g:∀ (r p d:List Cl),dm U x=p++r→jq (aB s L.ps.length) d<n→∀ nt,33≤nt→
      aJ prog ap (pO L a b c s (U.map fun x=>cA x.1) (yQ U) (seen.map cA) (zg seen)) nt (au 0 (ag f56)) (fun _=> .exit 0) (fun q:Nat × List Cl=>ZU L a b c s (U.map fun x=>cA x.1) (yQ U) (dm U x) q.1 (q.2.map cA) (zg q.2))
       (fun d:List Cl=> ⟨[],(pO L a b c s (U.map fun x=>cA x.1) (yQ U) (d.map cA) (zg d)).zipIdx.map (fun q=>(q.2,q.1)),.dead,[]⟩) (p.length,d) (r.foldl (lD (dm U) (aK s L.ps.length) n) d):=by
     intro r
     induction r with
     |nil=>
      intro p d hp hs nt i;rw [ο] at hp;rw [Xwr,← hp];exact .done (afu i _ h0len L a b c s _ _ _ _ (dm U x))
     |cons y r ih=>
      intro p d hp hs nt i;rw [Xqw];have u:=TG L a b c s U m n d y hs;obtain ⟨t,B⟩:=CS (dm U) (aK s L.ps.length) n d y;have A:=afv i _ h0len L a b c s _ _ _ _ _ _ (dm U x) p r y hp (m x) u;have o:=ih (p++ [y]) (lD (dm U) (aK s L.ps.length) n d y) (by rw [hp];simp) (Xx3 (xC _ (fun z C=>by rw [B];simp [C])) hs) nt i;rw [show (p++ [y]).length=p.length+1 by simp] at o;exact .next (a':=(p.length+1,_)) A o
    have j:=aJ.blk (id:=0) (e':= .normal) (g (dm U x) [] (seen++ [x]) rfl k) (by simp) rfl (aI.refl _) (aI.refl _);rw [← Ik hx] at j;have v:zg (seen++ [x])=mY (seen.map cA) (zg seen) (cA x) (.bool true):=by
     rw [BJ (zg seen) (.bool true) hx (by simp [zg])];simp [zg]
    rw [v] at j;exact aft L a b c s _ _ _ _ x (rQ seen) (ZT U) _ _ (dm U x) e l (P5 U x) j
theorem acn (l:List Cl) (x:Cl):af prog ap 58 [cA x,.ptr 0 0 0] [⟨[.mr 1 0],0,false,0,0,false⟩,⟨[.agg (l.map cA),.agg (zg l)],0,false,0,4611686018427387904,true⟩] (.ret (.bool (!(decide (x ∈ l))))) [⟨[.mr 1 0],0,false,0,0,false⟩,⟨[.agg (l.map cA),.agg (zg l)],0,false,0,4611686018427387904,true⟩]:=by
 have b:=wP l x;have a:=rQ l;generalize decide (x ∈ l)=sv at*
 generalize zg l=vs at*
 generalize l.map cA=ks at*
 exact pK [] 0 0 (.k 1 a (.n 3 .nil)) (.v 6 (.eq b) .nil)
abbrev dH (ks vs:List AV) (L:List Cl):List aP:= [cB L,⟨[.mr 2 0],0,false,0,0,false⟩,⟨[.agg ks,.agg vs],0,false,0,4611686018427387904,true⟩]
def QB (ks vs:List AV) (n:Nat) (L:List Cl) (k:Nat):St:=⟨[(0,.ref 0 0 0 n),(1,.fn 58 [] [.ptr 1 0 0]),(7,ω (n:Int)),(8,ω (k:Int))],[(0,⟨(cL L),0,false,0,2,true⟩),(1,⟨[.mr 2 0],0,false,0,0,false⟩),(2,⟨[.agg ks,.agg vs],0,false,0,4611686018427387904,true⟩)],.dead,[]⟩
theorem Y1 {nt:Nat} (h:19≤nt) (ks vs:List AV) (c:Cl→Bool) (g:∀ x,af prog ap 58 [cA x,.ptr 0 0 0] [⟨[.mr 1 0],0,false,0,0,false⟩,⟨[.agg ks,.agg vs],0,false,0,4611686018427387904,true⟩] (.ret (.bool (!(c x)))) [⟨[.mr 1 0],0,false,0,0,false⟩,⟨[.agg ks,.agg vs],0,false,0,4611686018427387904,true⟩]) (L0 p r:List Cl) (x:Cl) (n:Nat) (hs:(p++x::r).length=n) (l:n<2^40) (b:c x=false):
  ak prog ap (dH ks vs L0) nt (au 0 (ag f100)) (QB ks vs n (p++x::r) p.length) .ret ⟨[(4,ω (p.length:Int))],[(0,cB (p++x::r)),(1,⟨[.mr 2 0],0,false,0,0,false⟩),(2,⟨[.agg ks,.agg vs],0,false,0,4611686018427387904,true⟩)],.dead,[]⟩:=by
 have e:=pU (L:=p++x::r) (p:=p) (x:=x) (r:=r) rfl;have a:p.length<n:=by rw [← hs];simp
 have j:p.length<2^62:=by omega
 have d:(decide ((p.length:Int)<(n:Int)))=true:=kl a;have f:=g x;unfold QB;clear hs;generalize i:p++x::r=L at*
 generalize p.length=k at*
 generalize c x=kx at*
 exact pN 100 [] 2 3 (.c (fK b) (.a (bP [.int .i64,.int .i64] e rfl) (.k 1 d (.c (ai d) .nil)))) (.c f (.v 15 (.rd [.int .i64,.int .i64] e rfl) .nil)) h
theorem abN {nt:Nat} (i:19≤nt) (ks vs:List AV) (c:Cl→Bool) (h:∀ x,af prog ap 58 [cA x,.ptr 0 0 0] [⟨[.mr 1 0],0,false,0,0,false⟩,⟨[.agg ks,.agg vs],0,false,0,4611686018427387904,true⟩] (.ret (.bool (!(c x)))) [⟨[.mr 1 0],0,false,0,0,false⟩,⟨[.agg ks,.agg vs],0,false,0,4611686018427387904,true⟩]) (L0 p r:List Cl) (x:Cl) (n:Nat) (hs:(p++x::r).length=n) (l:n<2^40) (b:c x=true):
  ak prog ap (dH ks vs L0) nt (au 0 (ag f100)) (QB ks vs n (p++x::r) p.length) .normal (QB ks vs n (p++x::r) (p.length+1)):=by
 have e:=pU (L:=p++x::r) (p:=p) (x:=x) (r:=r) rfl;have a:p.length<n:=by rw [← hs];simp
 have f:p.length<2^62:=by omega
 have d:(decide ((p.length:Int)<(n:Int)))=true:=kl a;have g:=h x;unfold QB;clear hs;generalize j:p++x::r=L at*
 generalize p.length=k at*
 generalize c x=kx at*
 exact pN 100 [] 2 1 (.c (dM b) (.a (bP [.int .i64,.int .i64] e rfl) (.k 1 d (.c (ai d) .nil)))) (.v 18 (.eq (wpS f)) (.c g (.v 15 (.rd [.int .i64,.int .i64] e rfl) .nil))) i
theorem abM {nt:Nat} (a:19≤nt) (ks vs:List AV) (L0 L:List Cl) (n:Nat):
  ak prog ap (dH ks vs L0) nt (au 0 (ag f100)) (QB ks vs n L n) (.exit 0) ⟨[],[(0,cB L),(1,⟨[.mr 2 0],0,false,0,0,false⟩),(2,⟨[.agg ks,.agg vs],0,false,0,4611686018427387904,true⟩)],.dead,[]⟩:=by
 have b:(decide ((n:Int)<(n:Int)))=false:=kn (ζ _);exact pN 100 [] 1 0 (.c (aj b) .nil) .nil a
def Qz (kp:Cl→Bool):List Cl→Nat→Option Nat
 | [],_=>none
 |x::r,k=>if kp x then Qz kp r (k+1) else some k
def ixE:Option Nat→aY
 |none=> .exit 0
 |some _=> .ret
def ixO (ks vs:List AV) (L:List Cl):Option Nat→St
 |none=> ⟨[],[(0,cB L),(1,⟨[.mr 2 0],0,false,0,0,false⟩),(2,⟨[.agg ks,.agg vs],0,false,0,4611686018427387904,true⟩)],.dead,[]⟩
 |some k=> ⟨[(4,.int .i64 (k:Int))],[(0,cB L),(1,⟨[.mr 2 0],0,false,0,0,false⟩),(2,⟨[.agg ks,.agg vs],0,false,0,4611686018427387904,true⟩)],.dead,[]⟩
theorem LJ {nt:Nat} (c:19≤nt) (ks vs:List AV) (a:Cl→Bool) (e:∀ x,af prog ap 58 [cA x,.ptr 0 0 0] [⟨[.mr 1 0],0,false,0,0,false⟩,⟨[.agg ks,.agg vs],0,false,0,4611686018427387904,true⟩] (.ret (.bool (!(a x)))) [⟨[.mr 1 0],0,false,0,0,false⟩,⟨[.agg ks,.agg vs],0,false,0,4611686018427387904,true⟩]) (L:List Cl) (n:Nat) (hs:L.length=n) (d:n<2^40):∀ (r p:List Cl),p++r=L→
  aJ prog ap (dH ks vs L) nt (au 0 (ag f100)) ixE (fun k:Nat=>QB ks vs n L k) (ixO ks vs L) p.length (Qz a r p.length)
 | [],p,h=>by
  have hp:p.length=n:=by rw [← hs,← h];simp
  rw [hp];exact .done (abM c ks vs L L n)
 | x::r,p,h=>by
  unfold Qz;cases f:a x with
  |true=>
   rw [if_pos rfl];have b:=abN c ks vs a e L p r x n (by rw [h];exact hs) d f;rw [h] at b;refine .next (a':=p.length+1) b ?_
   have g:=LJ c ks vs a e L n hs d r (p++ [x]) (by rw [← h];simp);simpa using g
  |false=>
   rw [if_neg (by simp)];have b:=Y1 c ks vs a e L p r x n (by rw [h];exact hs) d f;rw [h] at b;exact .done b
theorem AO (b:Cl→Bool):∀ (r p:List Cl),match Qz b r p.length with
  |none=> ∀ x ∈ r,b x=true
  |some i=> ∃ q x t,r=q++x::t∧i=p.length+q.length∧(∀ y ∈ q,b y=true)∧b x=false
 | [],p=>by simp [Qz]
 | x::r,p=>by
  unfold Qz;cases c:b x with
  | true=>
   simp only [if_true];have h:=AO b r (p++ [x]);rw [show (p++ [x]).length=p.length+1 by simp] at h;cases d:Qz b r (p.length+1) with
   |none=>
    rw [d] at h;intro y a;rcases List.mem_cons.1 a with rfl|a
    ·exact c
    ·exact h y a
   |some i=>
    rw [d] at h;obtain ⟨q,z,t,e,f,j,g⟩:=h;refine ⟨x::q,z,t,by rw [e];rfl,by rw [f];simp;omega,fun y a=> ?_,g⟩;rcases List.mem_cons.1 a with rfl|a
    ·exact c
    ·exact j y a
  |false=>exact ⟨[],x,r,rfl,by simp,(fun y a=>(by cases a)),c⟩
theorem abO (ks vs:List AV) (c:Cl→Bool) (g:∀ x,af prog ap 58 [cA x,.ptr 0 0 0] [⟨[.mr 1 0],0,false,0,0,false⟩,⟨[.agg ks,.agg vs],0,false,0,4611686018427387904,true⟩] (.ret (.bool (!(c x)))) [⟨[.mr 1 0],0,false,0,0,false⟩,⟨[.agg ks,.agg vs],0,false,0,4611686018427387904,true⟩]) (L:List Cl) (f:L.length<2^40):af prog ap 100 [.ref 0 0 0 L.length,.fn 58 [] [.ptr 1 0 0]] (dH ks vs L) (.ret (.int .i64 (match Qz c L 0 with|none=> -1|some k=>(k:Int)))) (dH ks vs L):=by
 have hloop:=fun nt (hn:19≤nt)=>LJ hn ks vs c g L L.length rfl f L [] rfl
 cases e:Qz c L 0 with
 |none=>
  rw [Xqh,e] at hloop;have b:=aJ.blk (id:=0) (e':= .normal) (s:=QB ks vs L.length L 0) (s':=ixO ks vs L none) hloop (by simp [ixE]) rfl (aI.refl _) (aI.refl _);unfold QB ixO at b;generalize L.length=n at*
  have d:bg prog ap (dH ks vs L) 19 (.block 0 (.loop (au 0 (ag f100)))) (X9 n n (cL L) [.agg ks,.agg vs]) (.normal) ⟨[],[(0,⟨(cL L),0,false,0,2,true⟩),(1,⟨[.mr 2 0],0,false,0,0,false⟩),(2,⟨[.agg ks,.agg vs],0,false,0,4611686018427387904,true⟩)],.dead,[]⟩:=(fun nt a=>(b nt a).weak (aI.of ⟨rfl,rfl,rfl,rfl,trivial⟩) (aI.refl _))
  exact pK [0] 0 0 .nil (.l d .nil)
 |some k=>
  rw [Xqh,e] at hloop;have b:=aJ.blk (id:=0) (e':= .ret) (s:=QB ks vs L.length L 0) (s':=ixO ks vs L (some k)) hloop (by simp [ixE]) rfl (aI.refl _) (aI.refl _);unfold QB ixO at b;generalize L.length=n at*
  have d:bg prog ap (dH ks vs L) 19 (.block 0 (.loop (au 0 (ag f100)))) (X9 n n (cL L) [.agg ks,.agg vs]) (.ret) ⟨[(4,ω (k:Int))],[(0,⟨(cL L),0,false,0,2,true⟩),(1,⟨[.mr 2 0],0,false,0,0,false⟩),(2,⟨[.agg ks,.agg vs],0,false,0,4611686018427387904,true⟩)],.dead,[]⟩:=(fun nt a=>(b nt a).weak (aI.of ⟨rfl,rfl,rfl,rfl,trivial⟩) (aI.refl _))
  exact pK [0] 0 0 .nil (.l d .nil)
def Ui (ks vs:List AV) (n k j:Nat) (L:List Cl):St:=⟨[(0,.ref 0 0 0 n),(1,.fn 58 [] [.ptr 1 0 0]),(5,ω (k:Int)),(6,ω (j:Int))],[(0,⟨(cL L),0,false,0,2,true⟩),(1,⟨[.mr 2 0],0,false,0,0,false⟩),(2,⟨[.agg ks,.agg vs],0,false,0,4611686018427387904,true⟩)],.dead,[]⟩
theorem aaz {nt:Nat} (B:42≤nt) (ks vs:List AV) (c:Cl→Bool) (v:∀ x,af prog ap 58 [cA x,.ptr 0 0 0] [⟨[.mr 1 0],0,false,0,0,false⟩,⟨[.agg ks,.agg vs],0,false,0,4611686018427387904,true⟩] (.ret (.bool (!(c x)))) [⟨[.mr 1 0],0,false,0,0,false⟩,⟨[.agg ks,.agg vs],0,false,0,4611686018427387904,true⟩]) (L0 A G r:List Cl) (y:Cl) (n j:Nat) (C:0<G.length) (hs:(A++G++y::r).length=n) (H:n<2^40) (t:A.length+G.length=j) (h:c y=true):
  ak prog ap (dH ks vs L0) nt (au 0 (ag f57)) (Ui ks vs n A.length j (A++G++y::r)) .normal (Ui ks vs n (A++ [y]).length (j+1) ((A++ [y])++(G.tail++ [y])++r)):=by
 have m:μ ((0+(γ (A.length:Int)))*2) (cL (A++G++y::r))++cC y++ε (((0+(γ (A.length:Int)))*2)+2) (cL (A++G++y::r))=cL ((A++ [y])++(G.tail++ [y])++r):=by
  obtain ⟨g,G',rfl⟩:=List.exists_cons_of_length_pos C;have:=SI (L:=A++(g::G')++y::r) (p:=A) (x:=g) (r:=G'++y::r) (z:=y) (by simp);simpa using this
 have a:(A++G).length=j:=by simp;omega
 have o:(ε ((0+(γ (j:Int)))*2) (cL (A++G++y::r)))=cC y++cL r:=by
  rw [← a];exact pU (L:=A++G++y::r) (p:=A++G) (x:=y) (r:=r) rfl
 have b:(cL (A++G++y::r)).length=n*2:=by rw [dA,hs]
 have E:A.length+G.length+1+r.length=n:=by rw [← hs];simp;omega
 have u:j<2^62:=by omega
 have D:A.length<2^62:=by omega
 have l:(decide ((j:Int)<(n:Int)))=true:=kl (by omega);have s:=v y;have d:(!(c y))=false:=by rw [h];rfl
 have e:(A++ [y]).length=A.length+1:=by simp
 have q:A.length<n:=by omega
 unfold Ui;rw [e,← m];clear m e hs a;generalize F:A++G++y::r=L at*
 generalize A.length=k at*
 generalize c y=kx at*
 have i:(Ψ (((0+(γ (k:Int)))*2)+2) (κ (cL L)))=true:=(dw (oK b (by omega)))
 have f:(decide ((k:Int)<(n:Int)))=true:=(kl (by omega))
 exact pN 57 [] 2 3 (.c i (.k 1 f (.k 2 (fK d) (.n 3 (.a (bP [.int .i64,.int .i64] o rfl) (.k 1 l (.c (ai l) .nil))))))) (.v 21 (.eq (wpS u)) (.v 35 (.eq (wpS D)) (.c s (.v 25 (.rd [.int .i64,.int .i64] o rfl) .nil)))) B
theorem aaA {nt:Nat} (o:42≤nt) (ks vs:List AV) (b:Cl→Bool) (m:∀ x,af prog ap 58 [cA x,.ptr 0 0 0] [⟨[.mr 1 0],0,false,0,0,false⟩,⟨[.agg ks,.agg vs],0,false,0,4611686018427387904,true⟩] (.ret (.bool (!(b x)))) [⟨[.mr 1 0],0,false,0,0,false⟩,⟨[.agg ks,.agg vs],0,false,0,4611686018427387904,true⟩]) (L0 A G r:List Cl) (y:Cl) (n j:Nat) (hs:(A++G++y::r).length=n) (u:n<2^40) (i:A.length+G.length=j) (c:b y=false):
  ak prog ap (dH ks vs L0) nt (au 0 (ag f57)) (Ui ks vs n A.length j (A++G++y::r)) .normal (Ui ks vs n A.length (j+1) (A++G++y::r)):=by
 have a:(A++G).length=j:=by simp;omega
 have e:(ε ((0+(γ (j:Int)))*2) (cL (A++G++y::r)))=cC y++cL r:=by
  rw [← a];exact pU (L:=A++G++y::r) (p:=A++G) (x:=y) (r:=r) rfl
 have g:(cL (A++G++y::r)).length=n*2:=by rw [dA,hs]
 have q:A.length+G.length+1+r.length=n:=by rw [← hs];simp;omega
 have l:j<2^62:=by omega
 have t:A.length<2^62:=by omega
 have f:(decide ((j:Int)<(n:Int)))=true:=kl (by omega);have h:=m y;have d:(!(b y))=true:=by rw [c];rfl
 unfold Ui;clear hs a;generalize s:A++G++y::r=L at*
 generalize A.length=k at*
 generalize b y=kx at*
 exact pN 57 [] 2 1 (.c (dM d) (.n 3 (.a (bP [.int .i64,.int .i64] e rfl) (.k 1 f (.c (ai f) .nil))))) (.v 21 (.eq (wpS l)) (.c h (.v 25 (.rd [.int .i64,.int .i64] e rfl) .nil))) o
theorem aay {nt:Nat} (a:42≤nt) (ks vs:List AV) (L0 L:List Cl) (n k:Nat):
  ak prog ap (dH ks vs L0) nt (au 0 (ag f57)) (Ui ks vs n k n L) (.exit 0) (SS n k (cL L) [.agg ks,.agg vs]):=by
 have b:(decide ((n:Int)<(n:Int)))=false:=kn (ζ _);exact pN 57 [] 1 0 (.c (aj b) .nil) .nil a
def Oa (kp:Cl→Bool):List Cl→List Cl→List Cl→List Cl × List Cl
 |A,G,[]=>(A,G)
 |A,G,y::r=>if kp y then Oa kp (A++ [y]) (G.tail++ [y]) r else Oa kp A (G++ [y]) r
theorem E_ (a:Cl→Bool):∀ (r A G:List Cl),(Oa a A G r).1=A++r.filter a
 | [],A,G=>by simp [Oa]
 |y::r,A,G=>by
  unfold Oa;cases h:a y with
  |true=>rw [if_pos rfl,E_ a r];simp [h]
  |false=>rw [if_neg (by simp),E_ a r];simp [h]
theorem yT (a:Cl→Bool):∀ (r A:List Cl) (g:Cl) (G:List Cl),(Oa a A (g::G) r).1.length+(Oa a A (g::G) r).2.length=A.length+(g::G).length+r.length
 | [],A,g,G=>by simp [Oa]
 | y::r,A,g,G=>by
  unfold Oa;cases h:a y with
  |true=>
   rw [if_pos rfl];cases G with
   |nil=>rw [Xv3,θ,yT a r];simp;omega
   |cons g2 G=>rw [Xv3,Xqt,yT a r];simp;omega
  |false=>rw [if_neg (by simp),Xqt,yT a r];simp;omega
theorem yU {nt:Nat} (b:42≤nt) (ks vs:List AV) (a:Cl→Bool) (d:∀ x,af prog ap 58 [cA x,.ptr 0 0 0] [⟨[.mr 1 0],0,false,0,0,false⟩,⟨[.agg ks,.agg vs],0,false,0,4611686018427387904,true⟩] (.ret (.bool (!(a x)))) [⟨[.mr 1 0],0,false,0,0,false⟩,⟨[.agg ks,.agg vs],0,false,0,4611686018427387904,true⟩]) (L0:List Cl) (n:Nat) (c:n<2^40):∀ (r A:List Cl) (g:Cl) (G:List Cl) (j:Nat),(A++(g::G)++r).length=n→A.length+(g::G).length=j→
  aJ prog ap (dH ks vs L0) nt (au 0 (ag f57)) (fun _=> .exit 0) (fun p:List Cl × List Cl × List Cl × Nat=>Ui ks vs n p.1.length p.2.2.2 (p.1++p.2.1++p.2.2.1)) (fun p:List Cl × List Cl=>(SS n p.1.length (cL (p.1++p.2)) [.agg ks,.agg vs])) (A,g::G,r,j) (Oa a A (g::G) r)
 | [],A,g,G,j,hs,hj=>by
  refine .done ?_;have e:j=n:=by rw [← hs,← hj];simp
  subst e;have:=aay b ks vs L0 (A++(g::G)++ []) j A.length;simpa [Oa] using this
 | y::r,A,g,G,j,hs,hj=>by
  unfold Oa;cases f:a y with
  | true=>
   rw [if_pos rfl];have h:=aaz b ks vs a d L0 A (g::G) r y n j (by simp) hs c hj f;cases G with
   |nil=>
    refine .next (a':=(A++ [y],[y],r,j+1)) h (yU b ks vs a d L0 n c r (A++ [y]) y [] (j+1) ?_ ?_)
    ·simp at hs ⊢;omega
    ·simp at hj ⊢;omega
   |cons g2 G=>
    refine .next (a':=(A++ [y],g2::G++ [y],r,j+1)) h (yU b ks vs a d L0 n c r (A++ [y]) g2 (G++ [y]) (j+1) ?_ ?_)
    ·simp at hs ⊢;omega
    ·simp at hj ⊢;omega
  | false=>
   rw [if_neg (by simp)];refine .next (a':=(A,g::G++ [y],r,j+1)) ?_ (yU b ks vs a d L0 n c r A g (G++ [y]) (j+1) ?_ ?_)
   ·have:=aaA b ks vs a d L0 A (g::G) r y n j hs c hj f;simpa using this
   ·simp at hs ⊢;omega
   ·simp at hj ⊢;omega
theorem QA {a:Cl→Bool} {L:List Cl} (h:Qz a L 0=none):L.filter a=L:=by
 have:=AO a L [];rw [Xqh,h] at this;exact List.filter_eq_self.2 this
theorem YP (ks vs:List AV) (a:Cl→Bool) (u:∀ x,af prog ap 58 [cA x,.ptr 0 0 0] [⟨[.mr 1 0],0,false,0,0,false⟩,⟨[.agg ks,.agg vs],0,false,0,4611686018427387904,true⟩] (.ret (.bool (!(a x)))) [⟨[.mr 1 0],0,false,0,0,false⟩,⟨[.agg ks,.agg vs],0,false,0,4611686018427387904,true⟩]) (L:List Cl) (E:L.length<2^40):af prog ap 57 [.ref 0 0 0 L.length,.fn 58 [] [.ptr 1 0 0]] (dH ks vs L) (.ret (.ref 0 0 0 (L.filter a).length)) [⟨cL (L.filter a)++Gt (L.length - (L.filter a).length),0,false,0,2,true⟩,⟨[.mr 2 0],0,false,0,0,false⟩,⟨[.agg ks,.agg vs],0,false,0,4611686018427387904,true⟩]:=by
 have g:=abO ks vs a u L E;have e:=AO a L [];rw [Xqh] at e;cases b:Qz a L 0 with
 |none=>
  rw [QA b,Xzc,NL];rw [b] at g;have y:((-1)==(-1:Int))=true:=by decide
  generalize L.length=n at*
  exact pK [0] 1 1 (.c (ai y) .nil) (.c g .nil)
 | some i=>
  rw [b] at g e;simp only at g;obtain ⟨q,x,t,f,c,D,G⟩:=e;rw [Θ] at c;have F:L.filter a=q++t.filter a:=by
   rw [f,List.filter_append,List.filter_cons,G,List.filter_eq_self.2 D];rfl
  have hloop:=fun nt (hn:42≤nt)=>yU hn ks vs a u L L.length E t q x [] (i+1) (by rw [f];simp) (by rw [c];rfl)
  have r:=aJ.blk (id:=0) (e':= .normal) hloop (by simp) rfl (aI.refl _) (aI.refl _);have p:=E_ a t q [x];have s:=yT a t q x [];rw [F,← p];have h:q++ [x]++t=L:=by rw [f];simp
  have o:q.length+1+t.length=L.length:=by rw [f];simp;omega
  simp only [h,← c] at r;simp only [Γ,Xqh,Θ,o] at s;generalize Oa a q [x] t=RR at*
  obtain ⟨A,B⟩:=RR;simp only at r s ⊢;have J:i<2^62:=by omega
  have hlen2:(cL (A++B)).length=L.length*2:=by rw [dA,ξ,s]
  have d:μ ((0+(γ (A.length:Int)))*2) (cL (A++B))++(gG ((γ (L.length:Int)) - (γ (A.length:Int))) [ω 0,ω 0])++ε (((0+(γ (A.length:Int)))*2)+(κ (gG ((γ (L.length:Int)) - (γ (A.length:Int))) [ω 0,ω 0]))) (cL (A++B))=cL A++Gt (L.length - A.length):=by
   rw [aS,aS,Θ];have p:(cL A).length=A.length*2:=dA A;have K:cL (A++B)=cL A++cL B:=by simp [cL]
   have N:(gG (L.length - A.length) [ω 0,ω 0]).length=(L.length - A.length)*2:=NM _;rw [N,K,Xjn p,Xq0 (by rw [ξ,dA,dA];omega),ο];rfl
  rw [← d];have y:((i:Int)==(-1:Int))=false:=by simp
  have I:A.length≤L.length:=by omega
  unfold Ui at r;clear d F p f h o s hloop b u D G c;generalize L.length=n at*
  generalize H:A++B=L2 at*
  generalize A.length=k at*
  have M:bg prog ap (dH ks vs L) 42 (.block 0 (.loop (au 0 (ag f57)))) ⟨[(0,.ref 0 0 0 n),(1,.fn 58 [] [.ptr 1 0 0]),(4,.nilS),(5,ω (i:Int)),(6,ω (((i+1):Nat):Int)),(7,.dead),(12,.bool ((i:Int)==(-1:Int))),(19,.dead),(29,.dead)],[(0,⟨(cL L),0,false,0,2,true⟩),(1,⟨[.mr 2 0],0,false,0,0,false⟩),(2,⟨[.agg ks,.agg vs],0,false,0,4611686018427387904,true⟩)],.dead,[]⟩ (.normal) (SS n k (cL L2) [.agg ks,.agg vs]):=(fun nt v=>(r nt v).weak (aI.of ⟨rfl,rfl,rfl,rfl,trivial⟩) (aI.refl _))
  have j:AV.ref 0 0 0 ((γ (k:Int)) - 0)= .ref 0 0 0 k:=rfl;have l:(decide (((0:Nat):Int)≤(k:Int)))=true:=(k0 _)
  have m:(decide ((k:Int)≤(n:Int)))=true:=(Yq0 (by omega))
  have C:(Ψ (((0+(γ (k:Int)))*2)+(((γ (n:Int)) - (γ (k:Int)))*2)) (κ (cL L2)))=true:=(dw (oK hlen2 (by omega)))
  have z:(decide ((n:Int)≤(n:Int)))=true:=(Yq0 (by omega))
  exact pK [0] 1 0 (.k 1 l (.c m (.c C (.c l (.c m (.c z (.c (aj y) .nil))))))) (.v 41 (.eq j) (.l M (.v 15 (.eq (wpS J)) (.c g .nil))))
end Go.Proofs.Tryz
set_option maxRecDepth 100000
set_option linter.unusedVariables false
open Go AM
open Go.ChangeMaps (setBlock)
namespace Go.Proofs.Tryz
def mk (d:Option Nat) (p:Op) (s:Oper):Oper:={s with dst:=d,op:=p,guard:=none}
theorem CY {P:Program} {ops:Array Oper} {rest:List Oper} {s:Oper} {a:Act} {w w':World} {Q:Exit→Act→World→Prop} {d:Nat} {p:Op} {v:Value} (c:(execOp a.eval (mk (some d) p s)).run P w= .ok (.value v) w') (h:wpList P ops Q rest (a.put (some d) v) w'):wpList P ops Q (mk (some d) p s::rest) a w:=
 wpList_plain rfl fun K b=>by unfold Oper.wp;rw [c];exact b _ _ h
theorem mku {P:Program} {ops:Array Oper} {rest:List Oper} {s:Oper} {a:Act} {w w':World} {Q:Exit→Act→World→Prop} {p:Op} (c:(execOp a.eval (mk none p s)).run P w= .ok .skip w') (h:wpList P ops Q rest a w'):wpList P ops Q (mk none p s::rest) a w:=
 wpList_plain rfl fun K b=>by unfold Oper.wp;rw [c];exact b _ _ h
theorem bn {a:Act} {d t:Nat} {v:Value} (b:d<a.tmps.size):(a.put (some d) v).eval (.tmp t)=if t=d then v else a.eval (.tmp t):=by
 by_cases e:t=d
 ·subst e;rw [if_pos rfl];exact bY a t v b
 ·rw [if_neg e];exact jI a (some d) v (by simpa using fun h=>e h.symm)
structure Ka (dl:List Nat) (a0 a:Act):Prop where
 size:a.tmps.size=a0.tmps.size
 dfs:a.defers=a0.defers
 get:∀ t,t ∉ dl→a.eval (.tmp t)=a0.eval (.tmp t)
theorem Ka.refl (b:List Nat) (a:Act):Ka b a a:=⟨rfl,rfl,fun _ _=>rfl⟩
theorem Ka.put {b:List Nat} {f a:Act} {d:Nat} {v:Value} (h:Ka b f a) (g:d ∈ b):Ka b f (a.put (some d) v):=
 ⟨by rw [aC];exact h.size,by rw [lq];exact h.dfs,fun t c=>by
  have e:t ≠ d:=fun e=>c (e ▸ g)
  rw [show (a.put (some d) v).eval (.tmp t)=a.eval (.tmp t) from jI a (some d) v (by simpa using fun h=>e h.symm)];exact h.get t c⟩
theorem Ka.trans {d:List Nat} {a b c:Act} (h:Ka d a b) (e:Ka d b c):Ka d a c:=⟨e.size.trans h.size,e.dfs.trans h.dfs,fun t f=>(e.get t f).trans (h.get t f)⟩
structure Kp (base um:Nat) (w0 w:World):Prop where
 os:w.os=w0.os
 tape:w.tape=w0.tape
 output:w.output=w0.output
 size:w0.heap.size≤w.heap.size
 blk:∀ k,k<base→k ≠ um→w.heap[k]? =w0.heap[k]?
theorem Kp.refl (base a:Nat) (w:World):Kp base a w w:=⟨rfl,rfl,rfl,ζ _,fun _ _ _=>rfl⟩
theorem Kp.trans {base e:Nat} {a b c:World} (h:Kp base e a b) (d:Kp base e b c):Kp base e a c:=⟨d.os.trans h.os,d.tape.trans h.tape,d.output.trans h.output,Xqg h.size d.size,fun k f g=>(d.blk k f g).trans (h.blk k f g)⟩
theorem Kp.grown {base a:Nat} {w w':World} {row:Option Nat} (f:base≤w.heap.size) (h:w.grownBy w' row) (b:∀ k,row=some k→k=a∨base≤k):Kp base a w w':=
 ⟨h.os,h.tape,h.output,h.size,fun k c d=>h.block k (by omega) fun e=>by rcases b k e.symm with e1|e1<;>omega⟩
structure Lo (g:bJ) (m:aH) (S:az) (base um:Nat):Prop where
 blk:∀ k,base≤k∨k=um→∀ b B,g b=some B→(m b).1 ≠ k
 clr:∀ k,base≤k∨k=um→∀ o,S k o=none
theorem Lo.fr {env:dK} {hp:Hp} {nt:Nat} {m:aH} {S:az} {w0 w:World} {g a:Act} {base j:Nat} {c:List Nat} (l:Lo (AM.ah hp) m S base j) (o:FR ap env hp [] nt m S w0 g) (n:Kp base j w0 w) (f:Ka c g a) (p:∀ d ∈ c,env.get d= .dead):FR ap env hp [] nt m S w a:=by
 have b:=o.other (w':=w) fun k i=>by
  by_cases h:base≤k∨k=j
  ·exact .inr ⟨i,l.blk k h,l.clr k h⟩
  ·exact .inl (n.blk k (by omega) (by omega))
 refine ⟨b.srel,fun t=> ?_, ?_,f.size.trans b.size⟩
 ·by_cases ht:t ∈ c
  ·rw [p t ht];simp [VR]
  ·have:=f.get t ht;have e:a.tmps.getD t undef=g.tmps.getD t undef:=this;rw [e];exact b.env t
 ·rw [f.dfs];exact b.dfs
theorem Lo.frame {hp:Hp} {h0:List aP} {m0 m:aH} {S0 S:az} {w0 w w':World} {base d:Nat} (g:Lo (AM.ah hp) m S base d) (h:Fr (aF h0) m0 S0 w0 (AM.ah hp) m S w) (a:Kp base d w w') (j:w0.heap.size≤d) (l:w0.heap.size≤base):Fr (aF h0) m0 S0 w0 (AM.ah hp) m S w':=
 h.other a.size a.os a.tape a.output (fun k i=>a.blk k (by omega) (by omega)) fun b B f=>a.blk _ (by
  refine Nat.lt_of_not_le fun c=>g.blk _ (.inl c) b B f rfl) fun e=>g.blk _ (.inr e) b B f rfl
theorem afk:ap.tyAt 25=some ⟨.struct [(0,3,1),(1,3,1)],2,16,[ω 0,ω 0],[.int .i64,.int .i64],true⟩:=by kernel_rfl
theorem ahf:ap.tyAt 35=some ⟨.slice 25,1,24,[.nilS],[.sl],false⟩:=by kernel_rfl
theorem afl:ap.tyAt 95=some ⟨.map 25 35,1,8,[.mp [] []],[.oth],false⟩:=by kernel_rfl
theorem VE:prog.underlying 35=some (.slice 25):=by kernel_rfl
theorem ahi:prog.underlying 95=some (.map 25 35):=by kernel_rfl
theorem Qw:∃ i,prog.info? 25=some i∧i.zero=some (.agg #[.int .i64 0,.int .i64 0])∧i.size=2∧i.bytes=16:=by
 have h:(prog.info? 25).map (fun i=>(i.zero,i.size,i.bytes))=some (some (.agg #[.int .i64 0,.int .i64 0]),2,16):=by kernel_rfl
 cases a:prog.info? 25 with
 |none=>rw [a] at h;cases h
 |some i=>
  rw [a] at h;simp only [Xqu,Option.some.injEq,Prod.mk.injEq] at h;exact ⟨i,rfl,h.1,h.2.1,h.2.2⟩
theorem agX:∃ i,prog.info? 35=some i∧i.zero=some (.slice none 0 0):=by
 have h:(prog.info? 35).map (fun i=>i.zero)=some (some (.slice none 0 0)):=by kernel_rfl
 cases a:prog.info? 35 with
 |none=>rw [a] at h;cases h
 |some i=>
  rw [a] at h;simp only [Xqu,Option.some.injEq] at h;exact ⟨i,rfl,h⟩
section
variable {w:World}
theorem Nb:(Instr.alloc 25 true (.tuple #[])).run prog w= .ok (.pointer (some ⟨w.heap.size,0,none⟩)) (w.alloc (.cells #[.int .i64 0,.int .i64 0] 25)):=by
 obtain ⟨i,b,a,c,_⟩:=Qw;simp [Instr.alloc,zeroValue,typeInfo,b,a,newVar,newRow,Value.cells]
theorem Nc {k:Nat} {cur:Array Value} (b:w.heap[k]? =some (.cells cur 25 (0,0))) (hs:cur.size=2) (c:Cl):(Instr.storeAt 25 (.pointer (some ⟨k,0,none⟩)) (cV c)).run prog w= .ok () (w.setRow k (cU c).toArray):=by
 obtain ⟨i,d,g,f,_⟩:=Qw;have a:=run_storeCells_at prog k 0 25 (cU c) 0 cur w b (by simp [cU,hs]) (Jp c);have e:(cur.toList.take (0+0)++cU c++cur.toList.drop (0+0+(cU c).length)).toArray=(cU c).toArray:=by
  have:cur.toList.drop 2= []:=Xq0 (by simp [hs]);simp [cU,this]
 rw [e] at a;simp [Instr.storeAt,Instr.sureAddr,storeVar,Go.sizeOf,typeInfo,d,f,cV,Value.cells,a];simp [cU] at a ⊢
theorem Gf (a:dJ prog ap) {k o:Nat} {c:Cl} (h:∀ j u,(cU c)[j]? =some u→w.cell? ⟨k,o+j,none⟩=some u):(Instr.loadAt 25 (.pointer (some ⟨k,o,none⟩))).run prog w= .ok (cV c) w:=by
 obtain ⟨i,d,z,e⟩:=bV a afk;obtain ⟨cv,b,f⟩:=oL (g:=fun _=>none) (m:=fun _=>(0,0)) (S:=fun _ _=>none) (w:=w) e (us:=cU c) (cs:=cC c) rfl h (aZ _ (Jf c)) (v:=cA c) rfl;have:=DF (zD _ f rfl);subst this;simpa [Instr.loadAt,Instr.sureAddr] using b
end
def vX:Code→List Oper
 | .region _ ops _=>ops.toList
 |_=> []
noncomputable def tX (p:List Nat) (k:Nat):Oper:=(vX (dG p (ag f22))).getD k default
abbrev pRd:List Nat:= [1,1,1,0,1,0,0]
abbrev O_:List Nat:= [1,1,1,0,1,0,0,1,1]
abbrev FX:List Nat:= [1,1,1,0,1,0,0,1,1,0,1,1,0,0]
noncomputable def KH:Code:= .block 3 (.seq
 (.region 8 #[mk (some 32) (.indexAddr 35 (.tmp 28) (.tmp 30)) (tX (FX++ [1,1,0,0,0]) 0),mk (some 33) (.load 25 (.tmp 32)) (tX (FX++ [1,1,0,0,0]) 1),mk (some 12) (.alloc 25) (tX (FX++ [1,1,0,0,0]) 2),mk none (.store 25 (.tmp 12) (.tmp 33)) (tX (FX++ [1,1,0,0,0]) 3)] false)
 (.region 9 #[mk (some 34) (.load 95 (.tmp 8)) (tX (FX++ [1,1,0,0,1]) 0),mk (some 35) (.load 25 (.tmp 12)) (tX (FX++ [1,1,0,0,1]) 1),mk (some 37) (.load 25 (.tmp 9)) (tX (FX++ [1,1,0,0,1]) 2),mk (some 38) (.buildSlice 35 1 #[(0,.tmp 37)]) (tX (FX++ [1,1,0,0,1]) 3),mk (some 39) (.mapEntry 95 (.tmp 34) (.tmp 35)) (tX (FX++ [1,1,0,0,1]) 4),mk (some 36) (.extract (.tmp 39) 0) (tX (FX++ [1,1,0,0,1]) 5),
  mk (some 40) (.call {callee:= .builtin .append,args:=#[.tmp 36,.tmp 38],argTypes:=#[35,35]}) (tX (FX++ [1,1,0,0,1]) 6),mk (some 41) (.extract (.tmp 39) 1) (tX (FX++ [1,1,0,0,1]) 7),mk none (.entryStore 95 (.tmp 34) (.tmp 41) (.tmp 40)) (tX (FX++ [1,1,0,0,1]) 8)] false))
noncomputable def ZY:Code:= .seq (.region 7 #[mk (some 31) (.binOp .lss 3 (.tmp 30) (.tmp 29) 3) (tX (FX++ [0]) 0)] false) (.seq (.cond (.tmp 31) .skip (.exit 2)) (.seq KH
 (.region 10 #[mk (some 42) (.binOp .add 3 (.tmp 30) (.const (.int .i64 1)) 3) (tX (FX++ [1,1,1]) 0),mk (some 30) (.move (.tmp 42)) (tX (FX++ [1,1,1]) 1)] false)))
theorem N9:dG O_ (ag f22)= .block 1 (.seq
 (.region 5 #[mk (some 25) (.entry (.tmp 22)) (tX (O_++ [0,0]) 0),mk (some 26) (.extract (.tmp 25) 0) (tX (O_++ [0,0]) 1),mk (some 27) (.extract (.tmp 25) 1) (tX (O_++ [0,0]) 2),mk (some 9) (.alloc 25) (tX (O_++ [0,0]) 3),mk none (.store 25 (.tmp 9) (.tmp 26)) (tX (O_++ [0,0]) 4),mk (some 10) (.assign (.tmp 27)) (tX (O_++ [0,0]) 5)] false)
 (.seq (.region 6 #[mk (some 28) (.move (.tmp 10)) (tX (O_++ [0,1,0]) 0),mk (some 29) (.call {callee:= .builtin .len,args:=#[.tmp 28],argTypes:=#[35]}) (tX (O_++ [0,1,0]) 1),mk (some 30) (.move (.const (.int .i64 0))) (tX (O_++ [0,1,0]) 2)] false)
  (.block 2 (.loop ZY)))):=by kernel_rfl
theorem PM:dG [1,1,1,0] (ag f22)= .seq (.region 3 #[mk (some 21) (.move (.tmp 7)) (tX [1,1,1,0,0] 0),mk (some 22) (.range 95 (.tmp 21)) (tX [1,1,1,0,0] 1)] false)
 (.block 0 (.loop (.seq (.region 4 #[mk (some 23) (.next (.tmp 22) false) (tX (pRd++ [0]) 0),mk (some 24) (.extract (.tmp 23) 0) (tX (pRd++ [0]) 1)] false) (.seq (.cond (.tmp 24) .skip (.exit 0)) (dG O_ (ag f22)))))):=by kernel_rfl
end Go.Proofs.Tryz
set_option maxRecDepth 100000
set_option linter.unusedVariables false
open Go AM
open Go.ChangeMaps (setBlock)
namespace Go.Proofs.Tryz
abbrev GZ:List Nat:= [9,10,12,25,26,27,28,29,30,31,32,33,34,35,36,37,38,39,40,41,42]
structure In (nt:Nat) (a:Act) (vv:Value) (n kU k9 k:Nat):Prop where
 sz:a.tmps.size=nt
 t8:a.eval (.tmp 8)= .pointer (some ⟨kU,0,none⟩)
 t9:a.eval (.tmp 9)= .pointer (some ⟨k9,0,none⟩)
 t28:a.eval (.tmp 28)=vv
 t29:a.eval (.tmp 29)= .int .i64 (n:Int)
 t30:a.eval (.tmp 30)= .int .i64 (k:Int)
structure Z7 (w:World) (base um kU k9:Nat) (c:Cl) (U:Ut) (bnd:Nat):Prop where
 u:w.cell? ⟨kU,0,none⟩=some (.map (some um))
 n:w.heap[k9]? =some (.cells (cU c).toArray 25 (0,0))
 t:yS w base 25 um k9 U bnd
 b:base≤w.heap.size
 lU:kU<base
 l9:base≤k9
 ne:kU ≠ um
def NR (w:World) (base um:Nat) (us:List Cl) (vv:Value):Prop:=∃ b o cap,vv= .slice (some ⟨b,o,none⟩) us.length cap∧b<base∧b ≠ um∧∀ k d,us[k]? =some d→∀ j u,(cU d)[j]? =some u→w.cell? ⟨b,o+k*2+j,none⟩=some u
theorem NR.kept {w w':World} {base e:Nat} {us:List Cl} {f:Value} (h:NR w base e us f) (l:Kp base e w w'):NR w' base e us f:=by
 obtain ⟨b,o,c,m,g,i,q⟩:=h;exact ⟨b,o,c,m,g,i,fun k d p j u n=>by rw [World.cell?_of_block (w:=w) (a:=⟨b,_,none⟩) (l.blk b g i)];exact q k d p j u n⟩
theorem wK {w:World} {k j:Nat} {cur:Array Value} {e:TypeId} {u:Value} (h:w.heap[k]? =some (.cells cur e (0,0))) (a:cur.toList[j]? =some u):w.cell? ⟨k,0+j,none⟩=some u:=by
 rw [Θ,jh h];exact a
theorem Zt {w:World} {b o n a k:Nat} (c:k<n):(Instr.indexAt 35 (.slice (some ⟨b,o,none⟩) n a) (.int .i64 (k:Int))).run prog w= .ok (.pointer (some ⟨b,o+k*2,none⟩)) w:=by
 obtain ⟨i,d,g,f,_⟩:=Qw;have h0:¬ ((k:Int)<0):=by omega
 have e:(k:Int)<(n:Int):=by omega
 simp [Instr.indexAt,asIntOf,run_underlying VE,h0,e,c,Go.sizeOf,typeInfo,d,f,Addr.add_mid]
theorem Vf {w:World} (e:dJ prog ap) {k b:Nat} (h:w.cell? ⟨k,0,none⟩=some (.map (some b))):(Instr.loadAt 95 (.pointer (some ⟨k,0,none⟩))).run prog w= .ok (.map (some b)) w:=by
 obtain ⟨i,d,z,n⟩:=bV e afl;obtain ⟨cv,l,f⟩:=oL (g:=fun _=>none) (m:=fun _=>(0,0)) (S:=fun _ _=>none) (w:=w) n (us:= [.map (some b)]) (cs:= [.raw (.map (some b))]) (k:=k) (a:=0) rfl
  (fun j u c=>by
   match j,c with
   |0,c=>simp at c;subst c;exact h) (by simp [aU,VR,PR]) (v:= .raw (.map (some b))) rfl
 simp only [VR,PR] at f;subst f;simpa [Instr.loadAt,Instr.sureAddr] using l
theorem Vg {w:World} (c:Cl):(Instr.buildSlice 35 1 #[(0,cV c)]).run prog w= .ok (.slice (some ⟨w.heap.size,0,none⟩) 1 1) (w.alloc (.cells (cU c).toArray 25)):=by
 obtain ⟨i,b,e,a,_⟩:=Qw;refine qQ VE b e (by rw [a];decide) (by rw [a];decide) ?_;rw [a];have d:Array.range 2=#[0,1]:=rfl;simp [Instr.fill,madeCells,cV,cU,Value.cells,d]
theorem QD (c:Cl):gJ ⟨.struct [(0,3,1),(1,3,1)],2,16,[ω 0,ω 0],[.int .i64,.int .i64],true⟩ (cA c)=true:=rfl
theorem Cf {w:World} {k:Nat} {cur a:Array Value} {e:TypeId} (h:w.heap[k]? =some (.cells cur e (0,0))):(w.setRow k a).heap[k]? =some (.cells a e (0,0)):=setRow_heap w k cur a e (0,0) h
theorem afQ {n a:Nat} (h:n≤a) (b:a<2^40):n+1≤maxLen∧(n+1)*16≤140737488355328:=by
 have c:(2:Nat)^40=1099511627776:=by decide
 simp only [maxLen];omega
set_option maxHeartbeats 1000000 in
theorem UF (D:dJ prog ap) {nt:Nat} (hn:60≤nt) {w:World} {a:Act} {base A J k9:Nat} {c d:Cl} {U:Ut} {M:Nat} {us:List Cl} {vv:Value} {k:Nat} (hb:M<2^40) (hk:k<2^40) (hd:us[k]? =some d)
  (hI:In nt a vv us.length J k9 k) (hW:Z7 w base A J k9 c U M) (hS:NR w base A us vv) {Q:Exit→Act→World→Prop}
  (hQ:∀ a' w',In nt a' vv us.length J k9 (k+1)→Z7 w' base A J k9 c (jy U d c) (M+1)→Kp base A w w'→Ka GZ a a'→Q .normal a' w'):
  (Code.seq KH (.region 10 #[mk (some 42) (.binOp .add 3 (.tmp 30) (.const (.int .i64 1)) 3) (tX (FX++ [1,1,1]) 0),mk (some 30) (.move (.tmp 42)) (tX (FX++ [1,1,1]) 1)] false)).wp prog Q a w:=by
 obtain ⟨b,o,X,rfl,hbb,hbm,hcells⟩:=hS;have hkl:k<us.length:=(List.getElem?_eq_some_iff.1 hd).1;obtain ⟨i25,h251,h252,h253,h254⟩:=Qw;obtain ⟨i95,d95,z95,ht95⟩:=bV D afl;obtain ⟨i35,d35,z35,L⟩:=bV D ahf;have hd95:d95= .map 25 35:=Gm (by rw [← ht95.d_eq]);subst hd95;have hz35:z35= .slice none 0 0:=by
  obtain ⟨i,h1,h2⟩:=agX;have:=L.info;rw [h1] at this;cases this;have:=L.zero;rw [h2] at this;cases this;rfl
 have O:=hI.sz;refine wp_seq ?_;unfold KH;refine wp_block (wp_seq (wp_region_list ?_));refine CY (v:= .pointer (some ⟨b,o+k*2,none⟩)) (w':=w) ?_ ?_
 ·simp only [execOp,mk,hI.t28,hI.t30,Sem.run_bind,Zt hkl,Result.andThen_ok,Sem.run_pure]
 have e32:=bn (a:=a) (d:=32) (t:=32) (v:= .pointer (some ⟨b,o+k*2,none⟩)) (by omega);rw [if_pos rfl] at e32;refine CY (v:=cV d) (w':=w) ?_ ?_
 ·simp only [execOp,mk,e32,Sem.run_bind,Gf D (hcells k d hd),Result.andThen_ok,Sem.run_pure]
 refine CY (v:= .pointer (some ⟨w.heap.size,0,none⟩)) (w':=w.alloc (.cells #[.int .i64 0,.int .i64 0] 25)) ?_ ?_
 ·simp only [execOp,mk,Sem.run_bind,Nb,Result.andThen_ok,Sem.run_pure]
 generalize hw1:w.alloc (.cells #[.int .i64 0,.int .i64 0] 25)=w1;have hn1:w1.heap[w.heap.size]? =some (.cells #[.int .i64 0,.int .i64 0] 25 (0,0)):=by rw [← hw1];exact heap_alloc_new w _
 have K:w.grownBy w1 none:=by rw [← hw1];exact World.grownBy_alloc w _ none
 have hz1:w1.heap.size=w.heap.size+1:=by rw [← hw1];simp
 generalize z:((a.put (some 32) (.pointer (some ⟨b,o+k*2,none⟩))).put (some 33) (cV d)).put (some 12) (.pointer (some ⟨w.heap.size,0,none⟩))=a3;have y:a3.tmps.size=nt:=by rw [← z];simp only [aC,O]
 have f12:a3.eval (.tmp 12)= .pointer (some ⟨w.heap.size,0,none⟩):=by rw [← z,bn (by simp only [aC];omega),if_pos rfl]
 have f33:a3.eval (.tmp 33)=cV d:=by rw [← z,bn (by simp only [aC];omega),if_neg (by decide),bn (by simp only [aC];omega),if_pos rfl]
 have R:Ka GZ a a3:=by rw [← z];exact (((Ka.refl GZ a).put (by decide)).put (by decide)).put (by decide)
 have f9:a3.eval (.tmp 9)= .pointer (some ⟨k9,0,none⟩):=by rw [← z];simp only [bn,aC,O,show (12:Nat)<nt by omega,show (33:Nat)<nt by omega,show (32:Nat)<nt by omega];simpa using hI.t9
 have f28:a3.eval (.tmp 28)= .slice (some ⟨b,o,none⟩) us.length X:=by rw [← z];simp only [bn,aC,O,show (12:Nat)<nt by omega,show (33:Nat)<nt by omega,show (32:Nat)<nt by omega];simpa using hI.t28
 have f29:a3.eval (.tmp 29)= .int .i64 (us.length:Int):=by rw [← z];simp only [bn,aC,O,show (12:Nat)<nt by omega,show (33:Nat)<nt by omega,show (32:Nat)<nt by omega];simpa using hI.t29
 have f30:a3.eval (.tmp 30)= .int .i64 (k:Int):=by rw [← z];simp only [bn,aC,O,show (12:Nat)<nt by omega,show (33:Nat)<nt by omega,show (32:Nat)<nt by omega];simpa using hI.t30
 have f8:a3.eval (.tmp 8)= .pointer (some ⟨J,0,none⟩):=by rw [R.get 8 (by decide)];exact hI.t8
 clear z e32;refine mku (w':=w1.setRow w.heap.size (cU d).toArray) ?_ ?_
 ·simp only [execOp,mk,f12,f33,Sem.run_bind,Nc hn1 rfl d,Result.andThen_ok,Sem.run_pure]
 generalize W:w1.setRow w.heap.size (cU d).toArray=w2;have hn2:w2.heap[w.heap.size]? =some (.cells (cU d).toArray 25 (0,0)):=by rw [← W];exact Cf hn1
 have hz2:w2.heap.size=w.heap.size+1:=by rw [← W];simpa using hz1
 have Z:w.grownBy w2 none:=by
  rw [← W];exact ⟨K.os,K.tape,K.output,by simp;omega,fun q hq hne=>(setRow_other w1 w.heap.size q _ (by omega)).trans (K.block q hq hne)⟩
 clear hw1 W hn1 K hz1;show (Code.region 9 _ false).wp prog _ _ _;refine wp_region_list ?_;have hkUl:J<w.heap.size:=by have:=hW.lU;have:=hW.b;omega
 have hk9l:k9<w.heap.size:=(Array.getElem?_eq_some_iff.1 hW.n).1;have hu2:w2.cell? ⟨J,0,none⟩=some (.map (some A)):=(World.cell?_of_block (w:=w) (a:=⟨J,0,none⟩) (Z.block J hkUl (by simp))).trans hW.u;have hc2:w2.heap[k9]? =some (.cells (cU c).toArray 25 (0,0)):=(Z.block k9 hk9l (by simp)).trans hW.n;have hT2:yS w2 base 25 A k9 U M:=hW.t.kept Z;refine CY (v:= .map (some A)) (w':=w2) ?_ ?_
 ·simp only [execOp,mk,f8,Sem.run_bind,Vf D hu2,Result.andThen_ok,Sem.run_pure]
 refine CY (v:=cV d) (w':=w2) ?_ ?_
 ·simp only [execOp,mk,bn,y,show (34:Nat)<nt by omega,show ¬ (12:Nat)=34 by decide,if_false,f12,Sem.run_bind,Gf (o:=0) D (fun j u hj=>wK hn2 (by simpa using hj)),Result.andThen_ok,Sem.run_pure]
 refine CY (v:=cV c) (w':=w2) ?_ ?_
 ·simp only [execOp,mk,bn,aC,y,show (34:Nat)<nt by omega,show (35:Nat)<nt by omega,show ¬ (9:Nat)=34 by decide,show ¬ (9:Nat)=35 by decide,if_false,f9,Sem.run_bind,Gf (o:=0) D (fun j u hj=>wK hc2 (by simpa using hj)),Result.andThen_ok,Sem.run_pure]
 generalize p:((a3.put (some 34) (.map (some A))).put (some 35) (cV d)).put (some 37) (cV c)=a4;have n:a4.tmps.size=nt:=by rw [← p];simp only [aC,y]
 have hka4:Ka GZ a3 a4:=by rw [← p];exact (((Ka.refl GZ a3).put (by decide)).put (by decide)).put (by decide)
 have r:(34:Nat)<nt:=by omega
 have x:(35:Nat)<nt:=by omega
 have s:(37:Nat)<nt:=by omega
 have g37:a4.eval (.tmp 37)=cV c:=by rw [← p,bn (by simp only [aC];omega),if_pos rfl]
 have g35:a4.eval (.tmp 35)=cV d:=by rw [← p];simp only [bn,aC,y,r,x,s];simp
 have g34:a4.eval (.tmp 34)= .map (some A):=by rw [← p];simp only [bn,aC,y,r,x,s];simp
 have g9:a4.eval (.tmp 9)= .pointer (some ⟨k9,0,none⟩):=by rw [← p];simp only [bn,aC,y,r,x,s];simpa using f9
 have g28:a4.eval (.tmp 28)= .slice (some ⟨b,o,none⟩) us.length X:=by rw [← p];simp only [bn,aC,y,r,x,s];simpa using f28
 have g29:a4.eval (.tmp 29)= .int .i64 (us.length:Int):=by rw [← p];simp only [bn,aC,y,r,x,s];simpa using f29
 have g30:a4.eval (.tmp 30)= .int .i64 (k:Int):=by rw [← p];simp only [bn,aC,y,r,x,s];simpa using f30
 have hka:Ka GZ a a4:=R.trans hka4;clear p hka4 R f9 f28 f29 f30 f8 f12 f33;refine CY (v:= .slice (some ⟨w2.heap.size,0,none⟩) 1 1) (w':=w2.alloc (.cells (cU c).toArray 25)) ?_ ?_
 ·simp only [execOp,mk,Xvl,φ,Xjo,g37,Sem.run_bind,Vg,Result.andThen_ok,Sem.run_pure]
 generalize Y:w2.alloc (.cells (cU c).toArray 25)=w3;have hn3:w3.heap[w2.heap.size]? =some (.cells (cU c).toArray 25 (0,0)):=by rw [← Y];exact heap_alloc_new w2 _
 have hg3:w2.grownBy w3 none:=by rw [← Y];exact World.grownBy_alloc w2 _ none
 have hz3:w3.heap.size=w2.heap.size+1:=by rw [← Y];simp
 clear Y;have hT3:yS w3 base 25 A k9 U M:=hT2.kept hg3;have hb3:base≤w3.heap.size:=by have:=hW.b;omega
 obtain ⟨T,st,w4,hr4,V,ho4,hl4,hx4,hback⟩:=hT3.entry D ht95 afk L hz35 QD hb3 (by omega) d;refine CY (v:= .tuple #[T,goInt st]) (w':=w4) ?_ ?_
 ·simp only [execOp,mk,bn,n,show (38:Nat)<nt by omega,show ¬ (34:Nat)=38 by decide,show ¬ (35:Nat)=38 by decide,if_false,g34,g35,Sem.run_bind,hr4,Result.andThen_ok,Sem.run_pure]
 refine CY (v:=T) (w':=w4) ?_ ?_
 ·simp [execOp,mk,bn,aC,n,show (39:Nat)<nt by omega,Instr.extract]
 have hsz4:w3.heap.size≤w4.heap.size:=V.size;have hne2:w2.heap.size ≠ A:=by have:=hW.t.lt;have:=hW.b;omega
 have hn4:w4.heap[w2.heap.size]? =some (.cells (cU c).toArray 25 (0,0)):=(V.block _ (by omega) (by simpa using hne2)).trans hn3;obtain ⟨q1,q2⟩:=afQ hl4 hb;obtain ⟨v5,w5,hr5,ho5,N,_,hwh5⟩:=run_append_own_at (P:=prog) w4 base 35 (tX (FX++ [1,1,0,0,1]) 6).type 25 i25 (.agg #[.int .i64 0,.int .i64 0]) 2 16 VE h251 h252 h253 h254 rfl (by decide) T _ _ ho4 ⟨w2.heap.size,0,none⟩ 1 1 (cU c) rfl
  (fun j u hj=>by
   have e:(⟨w2.heap.size,0,none⟩:Addr).add j=⟨w2.heap.size,0+j,none⟩:=Addr.add_mid ..;rw [e];exact wK hn4 (by simpa using hj)) (Jp c) q1 q2 (by omega)
 generalize m:((a4.put (some 38) (.slice (some ⟨w2.heap.size,0,none⟩) 1 1)).put (some 39) (.tuple #[T,goInt st])).put (some 36) T=a5;have F:a5.tmps.size=nt:=by rw [← m];simp only [aC,n]
 have g:(38:Nat)<nt:=by omega
 have f:(39:Nat)<nt:=by omega
 have l:(36:Nat)<nt:=by omega
 have hka5:Ka GZ a a5:=by rw [← m];exact ((hka.put (by decide)).put (by decide)).put (by decide)
 have h36:a5.eval (.tmp 36)=T:=by rw [← m,bn (by simp only [aC];omega),if_pos rfl]
 have h38:a5.eval (.tmp 38)= .slice (some ⟨w2.heap.size,0,none⟩) 1 1:=by rw [← m];simp only [bn,aC,n,g,f,l];simp
 have h39:a5.eval (.tmp 39)= .tuple #[T,goInt st]:=by rw [← m];simp only [bn,aC,n,g,f,l];simp
 have h34:a5.eval (.tmp 34)= .map (some A):=by rw [← m];simp only [bn,aC,n,g,f,l];simpa using g34
 have h9:a5.eval (.tmp 9)= .pointer (some ⟨k9,0,none⟩):=by rw [← m];simp only [bn,aC,n,g,f,l];simpa using g9
 have h28:a5.eval (.tmp 28)= .slice (some ⟨b,o,none⟩) us.length X:=by rw [← m];simp only [bn,aC,n,g,f,l];simpa using g28
 have h29:a5.eval (.tmp 29)= .int .i64 (us.length:Int):=by rw [← m];simp only [bn,aC,n,g,f,l];simpa using g29
 have h30:a5.eval (.tmp 30)= .int .i64 (k:Int):=by rw [← m];simp only [bn,aC,n,g,f,l];simpa using g30
 clear m hka g9 g28 g29 g30 g34 g35 g37;refine CY (v:=v5) (w':=w5) ?_ ?_
 ·simp only [execOp,mk,resolve,invoke,builtin,Sem.run_bind,Sem.run_pure,Result.andThen_ok,Xvl,φ,Xjo,h36,h38,hr5]
 refine CY (v:=goInt st) (w':=w5) ?_ ?_
 ·simp [execOp,mk,bn,F,show (40:Nat)<nt by omega,h39,Instr.extract]
 obtain ⟨S,hr6,hg6,hT6⟩:=hback w5 v5 c N (by rw [show ES (dm U d++ [c])=ES (dm U d)++cU c by simp [ES]];exact ho5) (hwh5.imp (fun h=>h) fun h=> ⟨_,h,ζ _⟩);refine mku (w':=S) ?_ ?_
 ·simp only [execOp,mk,bn,aC,F,show (40:Nat)<nt by omega,show (41:Nat)<nt by omega,show ¬ (34:Nat)=41 by decide,show ¬ (34:Nat)=40 by decide,show ¬ (40:Nat)=41 by decide,if_false,if_true,h34,Sem.run_bind,hr6,Result.andThen_ok,Sem.run_pure]
 have hv0:∀ q,T.ownBlock=some q→q=A∨base≤q:=fun q hq=> .inr (ho4.lt q hq).1
 have hum:A<base:=hW.t.lt;have hbw:=hW.b;have hb4:base≤w4.heap.size:=by omega
 have hb5:base≤w5.heap.size:=Xqg hb4 N.size;have hkp:Kp base A w S:=(((Kp.grown hW.b Z (by simp)).trans (Kp.grown (by omega) hg3 (by simp))).trans (Kp.grown hb3 V (fun q h=> .inl (by cases h;rfl)))).trans ((Kp.grown hb4 N hv0).trans (Kp.grown hb5 hg6 (fun q h=> .inl (by cases h;rfl))));have hku6:S.cell? ⟨J,0,none⟩=some (.map (some A)):=(World.cell?_of_block (w:=w) (a:=⟨J,0,none⟩) (hkp.blk J hW.lU hW.ne)).trans hW.u;have hk9um:k9 ≠ A:=by have:=hW.l9;omega
 have hk9v:some k9 ≠ T.ownBlock:=fun e=>hx4 e.symm
 have hk96:S.heap[k9]? =some (.cells (cU c).toArray 25 (0,0)):=by
  have l4:k9<w4.heap.size:=by omega
  rw [hg6.block k9 (by have:=N.size;omega) (by simpa using hk9um),N.block k9 l4 hk9v,V.block k9 (by omega) (by simpa using hk9um),hg3.block k9 (by omega) (by simp)];exact hc2
 have hb6:base≤S.heap.size:=Xqg hb5 hg6.size;generalize G:(a5.put (some 40) v5).put (some 41) (goInt st)=a6;have E:a6.tmps.size=nt:=by rw [← G];simp only [aC,F]
 have hka6:Ka GZ a a6:=by rw [← G];exact (hka5.put (by decide)).put (by decide)
 have I:(40:Nat)<nt:=by omega
 have H:(41:Nat)<nt:=by omega
 have i9:a6.eval (.tmp 9)= .pointer (some ⟨k9,0,none⟩):=by rw [← G];simp only [bn,aC,F,I,H];simpa using h9
 have i28:a6.eval (.tmp 28)= .slice (some ⟨b,o,none⟩) us.length X:=by rw [← G];simp only [bn,aC,F,I,H];simpa using h28
 have i29:a6.eval (.tmp 29)= .int .i64 (us.length:Int):=by rw [← G];simp only [bn,aC,F,I,H];simpa using h29
 have i30:a6.eval (.tmp 30)= .int .i64 (k:Int):=by rw [← G];simp only [bn,aC,F,I,H];simpa using h30
 clear G h9 h28 h29 h30 h34 h36 h38 h39;show (Code.region 10 _ false).wp prog Q a6 S;refine wp_region_list ?_;have hkw:η .i64 ((k:Int)+1)=((k+1:Nat):Int):=by
  have h2:(2:Nat)^40=1099511627776:=by decide
  rw [dP]<;>omega
 refine CY (v:= .int .i64 ((k+1:Nat):Int)) (w':=S) ?_ ?_
 ·have hc1:a6.eval (.const (.int .i64 1))= .int .i64 1:=rfl;have hgd:(eqGuard .add 3 (.tmp 30) (.const (.int .i64 1)) (.int .i64 (k:Int)) (.int .i64 1)).run prog S= .ok () S:=gy _ _ _ _ _ _ (by simp) (by simp);simp only [execOp,mk,i30,hc1,Sem.run_bind,hgd,Result.andThen_ok];simp [binOp,Op.intArith,hkw]
 refine CY (v:= .int .i64 ((k+1:Nat):Int)) (w':=S) ?_ ?_
 ·simp only [execOp,mk,bn,E,show (42:Nat)<nt by omega,if_true,Sem.run_pure]
 have C:(42:Nat)<nt:=by omega
 have B:(30:Nat)<nt:=by omega
 refine hQ _ _ ⟨by simp only [aC,E], ?_, ?_, ?_, ?_, ?_⟩ ⟨hku6,hk96,hT6,hb6,hW.lU,hW.l9,hW.ne⟩ hkp ((hka6.put (by decide)).put (by decide))
 ·simp only [bn,aC,E,C,B];simp [hka6.get 8 (by decide)];exact hI.t8
 ·simp only [bn,aC,E,C,B];simpa using i9
 ·simp only [bn,aC,E,C,B];simpa using i28
 ·simp only [bn,aC,E,C,B];simpa using i29
 ·simp only [bn,aC,E,C,B];simp
def fB (W:Ut):List Nat→Ut
 | []=> []
 |i::l=>match W[i]? with
  |some x=>x.2.foldl (fun U d=>jy U d x.1) (fB W l)
  |none=>fB W l
theorem LC (l:dJ prog ap) {nt:Nat} (u:60≤nt) {base n m k9:Nat} {c:Cl} {us:List Cl} {o:Value} {Q:Exit→Act→World→Prop}:∀ (rest pre:List Cl) (U:Ut) (bnd:Nat) (w:World) (a:Act),us=pre++rest→us.length<2^39→bnd+rest.length<2^40→
  In nt a o us.length m k9 pre.length→Z7 w base n m k9 c U bnd→(us ≠ []→NR w base n us o)→
  (∀ a' w',In nt a' o us.length m k9 us.length→Z7 w' base n m k9 c (rest.foldl (fun U d=>jy U d c) U) (bnd+rest.length)→Kp base n w w'→Ka GZ a a'→Q (.exit 2) a' w')→Code.rounds prog ZY Q (rest.length+1) a w
 | rest,pre,U,bnd,w,a,hus,hl,hb,hI,hW,hS,hQ=>by
  show (ZY).wp prog (Exit.then (Code.rounds prog ZY Q rest.length) Q) a w;unfold ZY;refine wp_seq (wp_region_list ?_);have t:=hI.sz;have s:(eqGuard .lss 3 (.tmp 30) (.tmp 29) (.int .i64 (pre.length:Int)) (.int .i64 (us.length:Int))).run prog w= .ok () w:=gy _ _ _ _ _ _ (by simp) (by simp);refine CY (v:= .bool (decide ((pre.length:Int)<(us.length:Int)))) (w':=w) ?_ ?_
  ·simp only [execOp,mk,hI.t29,hI.t30,Sem.run_bind,s,Result.andThen_ok];simp [binOp,Op.intCmp,Op.intArith]
  have x:(31:Nat)<nt:=by omega
  generalize g:a.put (some 31) (.bool (decide ((pre.length:Int)<(us.length:Int))))=a1;have f:a1.eval (.tmp 31)= .bool (decide ((pre.length:Int)<(us.length:Int))):=by rw [← g,bn (by omega),if_pos rfl]
  have j:In nt a1 o us.length m k9 pre.length:=by
   rw [← g];refine ⟨by rw [aC];exact t, ?_, ?_, ?_, ?_, ?_⟩<;>rw [bn (by omega),if_neg (by decide)]
   ·exact hI.t8
   ·exact hI.t9
   ·exact hI.t28
   ·exact hI.t29
   ·exact hI.t30
  have h:Ka GZ a a1:=by rw [← g];exact (Ka.refl GZ a).put (by decide)
  clear g;show (Code.seq (.cond (.tmp 31) .skip (.exit 2)) _).wp prog _ a1 w
  match rest,hus,hb,hQ with
  | [],hus,hb,hQ=>
   have b:pre.length=us.length:=by rw [hus];simp
   rw [b,Yq1 (by omega)] at f;refine wp_seq (wp_cond_false f (wp_exit ?_));show Q (.exit 2) a1 w;refine hQ a1 w (by rw [b] at j;exact j) (by simpa using hW) (Kp.refl _ _ _) h
  |d::rest,hus,hb,hQ=>
   have b:pre.length<us.length:=by rw [hus];simp
   rw [Yq0 (by omega)] at f;refine wp_seq (wp_cond_true f (wp_skip ?_));have A:us[pre.length]? =some d:=by rw [hus];simp
   have i:us ≠ []:=fun e=>by rw [e] at b;simp at b
   simp only [Γ] at hb;show (Code.seq KH _).wp prog _ a1 w;have G:(2:Nat)^39=549755813888:=by decide
   have B:(2:Nat)^40=1099511627776:=by decide
   refine UF l u (by omega) (by omega) A j hW (hS i) ?_;intro a' w' r p k q;show Code.rounds prog ZY Q (rest.length+1) a' w';refine LC l u rest (pre++ [d]) _ (bnd+1) w' a' (by rw [hus];simp) hl (by omega) (by simpa using r) p (fun i=>(hS i).kept k) ?_;intro D z y C E F;refine hQ D z y ?_ (k.trans E) ((h.trans q).trans F);simp only [Xqw,Γ];rw [show bnd+(rest.length+1)=bnd+1+rest.length by omega];exact C
theorem KI:∀ {us:List Cl} {k j:Nat} {d:Cl} {u:Value},us[k]? =some d→(cU d)[j]? =some u→(ES us)[k*2+j]? =some u
 | [],_,_,_,_,h,_=>by simp at h
 |x::us,0,j,d,u,h,hj=>by
  simp at h;subst h;have a:=(List.getElem?_eq_some_iff.1 hj).1;simp only [ES,Xqa,Nat.zero_mul,Θ];rw [List.getElem?_append_left a];exact hj
 |x::us,k+1,j,d,u,h,hj=>by
  simp only [List.getElem?_cons_succ] at h;have:=KI h hj;simp only [ES,Xqa];rw [Xxi (by simp [cU];omega)];rw [show (k+1)*2+j - (cU x).length=k*2+j by simp [cU];omega];exact this
theorem aeV {hp:Hp} {m:aH} {S:az} {w:World} {base i:Nat} (y:bf ap (AM.ah hp) m S w) (s:Lo (AM.ah hp) m S base i) {us:List Cl} {t:Bool} {e:Value} (h:PR S (.sl (cL us) us.length t) e):
  ∃ g a,e= .slice g us.length a∧(us ≠ []→NR w base i us e):=by
 simp only [PR] at h;obtain ⟨g,a,rfl,z,h⟩:=h;refine ⟨g,a,rfl,fun c=> ?_⟩;rcases h with ⟨_,f,_⟩|⟨b,o,vs,rfl,f,p⟩
 ·exfalso;cases us with
  |nil=>exact c rfl
  |cons x us=>simp [cL,cC] at f
 ·have n:=zB f;subst n;have B:¬ (base≤b∨b=i):=fun l=>by
   cases us with
   |nil=>exact c rfl
   |cons x us=>
    have:=(p 0 (.int .i64 x.1) rfl).1;rw [s.clr b l] at this;cases this
  refine ⟨b,o,a,rfl,by omega,by omega,fun k d v j u q=> ?_⟩;obtain ⟨r,A⟩:=p _ u (KI v q);rw [Nat.add_assoc];exact y.one r A
structure Jt (W:Ut) (lb:Nat) (kU um base:Nat) (w:World) (done:List Nat) (w':World):Prop where
 nd:done.Nodup
 lt:∀ i ∈ done,i<W.length
 u:w'.cell? ⟨kU,0,none⟩=some (.map (some um))
 t:∃ x,yS w' base 25 um x (fB W done) (done.length*lb)
 b:base≤w'.heap.size
 k:Kp w.heap.size um w w'
theorem PQ {W:Ut} {done:List Nat} (h:done.Nodup) (b:∀ i ∈ done,i<W.length):done.length≤W.length:=by
 have:=List.Nodup.length_le_of_subset h (l₂:=Xqd W.length) (fun i a=>List.mem_range.2 (b i a));simpa using this
abbrev tC (fr:List Cl) (nf:Bool) (p:AV):dK:= [(2,.sl (cL fr) fr.length nf),(3,.ptr 0 0 0),(4,.ptr 1 0 0),(8,p)]
theorem Uh {fr:List Cl} {c:Bool} {p:AV} {b:Value}:∀ d ∈ GZ,(fQ 22 23 24 b (tC fr c p)).get d= .dead:=by
 intro d a;simp only [GZ,Xqs,List.not_mem_nil,or_false] at a;rcases a with rfl|rfl|rfl|rfl|rfl|rfl|rfl|rfl|rfl|rfl|rfl|rfl|rfl|rfl|rfl|rfl|rfl|rfl|rfl|rfl|rfl<;>rfl
set_option maxHeartbeats 1000000 in
theorem Q5 (R:dJ prog ap) {nt:Nat} (U:60≤nt) {W:Ut} {lb f s base r:Nat} {H w:World} {a:Act} {done:List Nat} {i:Nat} {c:Cl} {us:List Cl} {nn:Bool} {hp:Hp} {m m0:aH} {S S0:az} {w0:World} {h0:List aP} {fr:List Cl} {Q:Bool} {kv vv:Value}
  (hlb:W.length*lb+lb<2^39) (hws:base=H.heap.size+1) (hr:r=H.heap.size) (hkU:f<H.heap.size) (hum:s<H.heap.size) (A:f ≠ s) (hl:Lo (AM.ah hp) m S base s) (hw0:w0.heap.size≤s) (hw0b:w0.heap.size≤base)
  (hJ:Jt W lb f s base H done w) (hi:i ∉ done) (hW:W[i]? =some (c,us)) (hus:us.length≤lb)
  (hfr:Fr (aF h0) m0 S0 w0 (AM.ah hp) m S w) (hF:FR ap (fQ 22 23 24 (.pointer (some ⟨r,0,none⟩)) (tC fr Q (.raw (.pointer (some ⟨f,0,none⟩))))) hp [] nt m S w a)
  (hent:(Instr.entry (.pointer (some ⟨r,0,none⟩))).run prog w= .ok (.tuple #[kv,vv]) w) (G:PR S (cA c) kv) (hvv:PR S (.sl (cL us) us.length nn) vv) {K:Exit→Act→World→Prop}
  (hK:∀ w' a',Jt W lb f s base H (i::done) w'→Fr (aF h0) m0 S0 w0 (AM.ah hp) m S w'→FR ap (fQ 22 23 24 (.pointer (some ⟨r,0,none⟩)) (tC fr Q (.raw (.pointer (some ⟨f,0,none⟩))))) hp [] nt m S w' a'→(∀ k,k<base→k ≠ s→w'.heap[k]? =w.heap[k]?)→K .normal a' w'):
  (dG O_ (ag f22)).wp prog K a w:=by
 have G:=DF G;subst G;obtain ⟨n,b,rfl,hsl⟩:=aeV hF.srel hl hvv;obtain ⟨x,hT⟩:=hJ.t;have j:a.tmps.size=nt:=hF.size;have V:a.eval (.tmp 22)= .pointer (some ⟨r,0,none⟩):=by
  have:=hF.env 22;simp only [fQ,dK.get,AM.ah,Nat.beq_refl,Xxd,VR,PR] at this;exact this
 have e8:a.eval (.tmp 8)= .pointer (some ⟨f,0,none⟩):=by
  have:=hF.env 8;have e:(fQ 22 23 24 (.pointer (some ⟨r,0,none⟩)) (tC fr Q (.raw (.pointer (some ⟨f,0,none⟩))))).get 8= .raw (.pointer (some ⟨f,0,none⟩)):=rfl;rw [e] at this;simp only [VR,PR] at this;exact this
 rw [N9];refine wp_block (wp_seq (wp_region_list ?_));refine CY (v:= .tuple #[cV c,.slice n us.length b]) (w':=w) ?_ ?_
 ·simp only [execOp,mk,V,Sem.run_bind,hent,Result.andThen_ok,Sem.run_pure]
 have o:(25:Nat)<nt:=by omega
 have E:(26:Nat)<nt:=by omega
 have M:(27:Nat)<nt:=by omega
 have l9:(9:Nat)<nt:=by omega
 have B:(10:Nat)<nt:=by omega
 have L:(28:Nat)<nt:=by omega
 have Z:(29:Nat)<nt:=by omega
 have l30:(30:Nat)<nt:=by omega
 refine CY (v:=cV c) (w':=w) ?_ ?_
 ·simp [execOp,mk,bn,j,o,Instr.extract]
 refine CY (v:= .slice n us.length b) (w':=w) ?_ ?_
 ·simp [execOp,mk,bn,aC,j,o,E,Instr.extract]
 refine CY (v:= .pointer (some ⟨w.heap.size,0,none⟩)) (w':=w.alloc (.cells #[.int .i64 0,.int .i64 0] 25)) ?_ ?_
 ·simp only [execOp,mk,Sem.run_bind,Nb,Result.andThen_ok,Sem.run_pure]
 generalize t:w.alloc (.cells #[.int .i64 0,.int .i64 0] 25)=w1;have D:w1.heap[w.heap.size]? =some (.cells #[.int .i64 0,.int .i64 0] 25 (0,0)):=by rw [← t];exact heap_alloc_new w _
 have l:w.grownBy w1 none:=by rw [← t];exact World.grownBy_alloc w _ none
 have I:w1.heap.size=w.heap.size+1:=by rw [← t];simp
 generalize g:(((a.put (some 25) (.tuple #[cV c,.slice n us.length b])).put (some 26) (cV c)).put (some 27) (.slice n us.length b)).put (some 9) (.pointer (some ⟨w.heap.size,0,none⟩))=a3;have u:a3.tmps.size=nt:=by rw [← g];simp only [aC,j]
 have z:Ka GZ a a3:=by rw [← g];exact ((((Ka.refl GZ a).put (by decide)).put (by decide)).put (by decide)).put (by decide)
 have f9:a3.eval (.tmp 9)= .pointer (some ⟨w.heap.size,0,none⟩):=by rw [← g,bn (by simp only [aC];omega),if_pos rfl]
 have f26:a3.eval (.tmp 26)=cV c:=by rw [← g];simp only [bn,aC,j,o,E,M,l9];simp
 have Y:a3.eval (.tmp 27)= .slice n us.length b:=by rw [← g];simp only [bn,aC,j,o,E,M,l9];simp
 clear g t;refine mku (w':=w1.setRow w.heap.size (cU c).toArray) ?_ ?_
 ·simp only [execOp,mk,f9,f26,Sem.run_bind,Nc D rfl c,Result.andThen_ok,Sem.run_pure]
 generalize y:w1.setRow w.heap.size (cU c).toArray=w2;have T:w2.heap[w.heap.size]? =some (.cells (cU c).toArray 25 (0,0)):=by rw [← y];exact Cf D
 have hz2:w2.heap.size=w.heap.size+1:=by rw [← y];simpa using I
 have p:w.grownBy w2 none:=by
  rw [← y];exact ⟨l.os,l.tape,l.output,by simp;omega,fun q J A=>(setRow_other w1 w.heap.size q _ (by omega)).trans (l.block q J A)⟩
 clear y D l I;refine CY (v:= .slice n us.length b) (w':=w2) ?_ ?_
 ·simp only [execOp,mk,Y,Sem.run_pure]
 show (Code.seq (.region 6 _ false) _).wp prog _ _ _;refine wp_seq (wp_region_list ?_);refine CY (v:= .slice n us.length b) (w':=w2) ?_ ?_
 ·simp [execOp,mk,bn,u,B]
 refine CY (v:= .int .i64 (us.length:Int)) (w':=w2) ?_ ?_
 ·simp [execOp,mk,bn,aC,u,B,L,resolve,invoke,builtin,Builtin.len_,run_underlying VE,goInt]
 refine CY (v:= .int .i64 0) (w':=w2) ?_ ?_
 ·simp only [execOp,mk,Sem.run_pure];rfl
 generalize F:(((a3.put (some 10) (.slice n us.length b)).put (some 28) (.slice n us.length b)).put (some 29) (.int .i64 (us.length:Int))).put (some 30) (.int .i64 0)=a4;have hI:In nt a4 (.slice n us.length b) us.length f w.heap.size ([]:List Cl).length:=by
  rw [← F];refine ⟨by simp only [aC,u], ?_, ?_, ?_, ?_, ?_⟩<;>simp only [bn,aC,u,B,L,Z,l30]
  ·simp [z.get 8 (by decide),e8]
  ·simpa using f9
  ·simp
  ·simp
  ·simp
 have N:Ka GZ a a4:=by rw [← F];exact (((z.put (by decide)).put (by decide)).put (by decide)).put (by decide)
 clear F;have C:=hJ.b;have hdl:=PQ hJ.nd hJ.lt;have X:i<W.length:=(List.getElem?_eq_some_iff.1 hW).1;have hbd:done.length*lb≤W.length*lb:=Nat.mul_le_mul_right _ hdl;have h39:(2:Nat)^39=549755813888:=by decide
 have h40:(2:Nat)^40=1099511627776:=by decide
 have O:Z7 w2 base s f w.heap.size c (fB W done) (done.length*lb):=
  ⟨(World.cell?_of_block (w:=w) (a:=⟨f,0,none⟩) (p.block f (show f<_ by omega) (by simp))).trans hJ.u,T,(hT.new_x (ζ _)).kept p,by omega,by omega,C,A⟩
 refine wp_block (wp_loop_rounds (us.length+1) ?_);refine LC R U us [] _ _ w2 a4 rfl (show us.length<2^39 by omega) (by omega) hI O (fun h=>(hsl h).kept (Kp.grown C p (by simp))) ?_;intro a' w' h1 h2 h3 h4;have d:Kp base s w w':=(Kp.grown C p (by simp)).trans h3;have hka:Ka GZ a a':=N.trans h4;have:=hK w' a' ⟨List.nodup_cons.2 ⟨hi,hJ.nd⟩,fun q J=>by
   rcases List.mem_cons.1 J with rfl|J
   ·exact X
   ·exact hJ.lt q J,h2.u,⟨_,by
   have h5:=h2.t.mono (bnd':=(i::done).length*lb) (by simp only [Γ,Nat.add_mul];omega);simpa only [fB,hW] using h5⟩,h2.b,hJ.k.trans ⟨d.os,d.tape,d.output,d.size,fun k hk U=>d.blk k (by omega) U⟩⟩
  (hl.frame hfr d hw0 hw0b) (hl.fr hF d hka Uh) d.blk
 simpa [Exit.then,Exit.inBlock] using this
def ZV (W:Ut):aP:=⟨[.agg (W.map fun x=>cA x.1),.agg (W.map fun x=> .sl (cL x.2) x.2.length false)],0,false,0,dN,true⟩
abbrev Dj (lc:List AV):aP:=⟨lc,0,false,0,0,true⟩
abbrev Di (n:Int):aP:=⟨[ω n],0,false,0,0,true⟩
def qV (W:Ut) (lc:List AV) (n:Int) (fr:List Cl) (nf:Bool):St:=
 ⟨[(2,.sl (cL fr) fr.length nf),(3,.ptr 0 0 0),(4,.ptr 1 0 0),(7,.mr 2 0),(8,.ptr 3 0 0)],[(0,Dj lc),(1,Di n),(2,ZV W),(3,⟨[.mr 4 0],0,false,0,0,false⟩),(4,⟨[.agg [],.agg []],0,false,0,dN,true⟩)],.dead,[]⟩
def Tq (U:Ut) (lc:List AV) (n:Int) (fr:List Cl) (nf:Bool):St:=
 ⟨tC fr nf (.ptr 3 0 0),[(3,⟨[.mr 4 0],0,false,0,0,false⟩),(4,Dv U),(0,Dj lc),(1,Di n)],.dead,[]⟩
theorem aaF {P:Nat→Prop} (h0:∀ t,t ≠ 2→t ≠ 3→t ≠ 4→t ≠ 8→P t) (b:P 2) (d:P 3) (c:P 4) (a:P 8):∀ t,P t:=by
 intro t;by_cases e2:t=2
 ·subst e2;exact b
 by_cases e3:t=3
 ·subst e3;exact d
 by_cases e4:t=4
 ·subst e4;exact c
 by_cases e8:t=8
 ·subst e8;exact a
 exact h0 t e2 e3 e4 e8
theorem z_ {fr:List Cl} {b:Bool} {p:AV} {t:Nat} (c:t ≠ 2) (f:t ≠ 3) (d:t ≠ 4) (a:t ≠ 8):(tC fr b p).get t= .dead:=by
 simp [tC,dK.get,AM.ah,lh (fun e=>c e.symm:2 ≠ t),lh (fun e=>f e.symm:3 ≠ t),lh (fun e=>d e.symm:4 ≠ t),lh (fun e=>a e.symm:8 ≠ t)]
theorem WC {A B:aP} {x:Nat} {C:aP} (h:AM.ah [(0,A),(1,B)] x=some C):(x=0∧C=A)∨(x=1∧C=B):=by
 simp only [AM.ah] at h;by_cases e0:x=0
 ·subst e0;simp at h;exact .inl ⟨rfl,h.symm⟩
 ·by_cases e1:x=1
  ·subst e1;simp at h;exact .inr ⟨rfl,h.symm⟩
  ·rw [lh (fun e=>e0 e.symm:0 ≠ x),lh (fun e=>e1 e.symm:1 ≠ x)] at h;cases h
set_option maxHeartbeats 1000000 in
theorem Tt (hap:dJ prog ap) {nt:Nat} (hn:60≤nt) (W:Ut) (f:List AV) (hlc:bD f= []) (n:Int) (fr:List Cl) (l:Bool) (lb:Nat) (hlb:W.length*lb+lb<2^39) (hus:∀ x ∈ W,x.2.length≤lb):
  gZ prog ap [] nt (dG [1,1,1,0] (ag f22)) (qV W f n fr l) fun e s'=>e= .normal∧∃ done:List Nat,done.Nodup∧(∀ i,i ∈ done↔i<W.length)∧s'=Tq (fB W done) f n fr l:=by
 intro _;refine ⟨fun e s' ⟨_,_,_,_,h⟩=>h ▸ rfl,fun m0 S0 w0 m S w a hfr p Q hQ=> ?_⟩;rw [PM];have z:=p.env 8;have e8:(qV W f n fr l).env.get 8= .ptr 3 0 0:=rfl;rw [e8] at z;simp only [VR] at z;obtain ⟨B3,hB3,_,_,z⟩:=z;have V:AM.ah (qV W f n fr l).hp 3=some ⟨[.mr 4 0],0,false,0,0,false⟩:=rfl;have E:AM.ah (qV W f n fr l).hp 4=some ⟨[.agg [],.agg []],0,false,0,dN,true⟩:=rfl;have l2:AM.ah (qV W f n fr l).hp 2=some (ZV W):=rfl;rw [V] at hB3;cases hB3;have z:=z rfl;obtain ⟨⟨R,t3,vs3,rest3,I,r32,_,r34,r35,r36⟩,_,_⟩:=p.srel.blk 3 _ V;obtain ⟨⟨cur4,t4,vs4,rest4,r41,L,r43,_,_,_⟩,_,_⟩:=p.srel.blk 4 _ E;obtain ⟨es4,clk4,hm4,hc4⟩:=r41.map rfl;have hes:es4=#[]:=by
  have h:=r43 rfl;subst hc4
  match vs4,h,L with
  |u1::u2::vs,h,L=>
   simp only [bi,PR] at h;obtain ⟨⟨ks,rfl,q⟩,_⟩:=h;have d:ks= []:=by cases ks with|nil=>rfl|cons _ _=>simp [bi] at q
   subst d;simp only [jk,Xqt,List.cons.injEq,Value.agg.injEq] at L;have:=congrArg Array.size L.1;simp at this;exact Array.eq_empty_of_size_eq_zero (by simpa using this)
  | [],h,_=>simp [bi] at h
  | [_],h,_=>simp [bi] at h
 subst hes;have hv3:vs3= [.map (some (m 4).1)]:=by
  match vs3,r34 with
  | [u],h=>
   simp only [aU,VR] at h;obtain ⟨⟨B,H,_,_,h⟩,_⟩:=h;rw [E] at H;cases H;rw [h rfl]
  | [],h=>simp [aU] at h
  |_::_::_,h=>simp [aU] at h
 subst hv3;have I:=I.cells (show (0:Nat) ≠ dN by decide);have hc3:w.cell? ⟨(m 3).1,0,none⟩=some (.map (some (m 4).1)):=by rw [jh I,r32];rfl
 have U:(m 3).1 ≠ (m 4).1:=fun e=>by have:=p.srel.inj 3 4 _ _ V E e;omega
 have hU3:=p.srel.lt V;have hU4:=p.srel.lt E;have X:∀ x C,AM.ah (qV W f n fr l).hp x=some C→w0.heap.size≤(m x).1:=fun x C F=>by
  rcases hfr.img x C F with q|⟨B0,q,_⟩
  ·exact q
  ·simp [aF] at q
 have O:∀ x C,AM.ah (qV W f n fr l).hp x=some C→C.fro=false→∀ o,S (m x).1 o=none:=fun x C F hC o=>by
  cases hs:S (m x).1 o with
  |none=>rfl
  |some v=>have:=(p.srel.own x C F o v hs).1;rw [hC] at this;cases this
 have s:∀ x C,AM.ah [(0,Dj f),(1,Di n)] x=some C→AM.ah (qV W f n fr l).hp x=some C∧x ≠ 2:=fun x C F=>by
  rcases WC F with ⟨rfl,rfl⟩|⟨rfl,rfl⟩<;>exact ⟨rfl,by decide⟩
 have D:Lo (AM.ah [(0,Dj f),(1,Di n)]) m S (w.heap.size+1) (m 4).1:=by
  refine ⟨fun k d b B H e=> ?_,fun k d o=> ?_⟩
  ·have q:=(s b B H).1;have:=p.srel.lt q;rcases d with d|d
   ·omega
   ·have Z:=p.srel.inj b 4 _ _ q E (e.trans d);subst Z;simp [AM.ah] at H
  ·rcases d with d|d
   ·cases hs:S k o with
    |none=>rfl
    |some v=>have:=p.srel.seal_lt hs;omega
   ·subst d;exact O 4 _ E rfl o
 have hF0:FR ap ((8,.raw (.pointer (some ⟨(m 3).1,0,none⟩)))::(qV W f n fr l).env) (qV W f n fr l).hp [] nt m S w a:=p.say (by rw [z];simp only [VR,PR]);refine Ip (h0:= []) (ks:=W.map fun x=>cA x.1) (vs:=W.map fun x=> .sl (cL x.2) x.2.length false) (B:=ZV W) (b:=2) (ver:=0) (tm:=7) (n:=W.length) (hp0:= [(0,Dj f),(1,Di n)]) (env0:=tC fr l (.raw (.pointer (some ⟨(m 3).1,0,none⟩)))) (J:=fun done w'=>Jt W lb (m 3).1 (m 4).1 (w.heap.size+1) w done w')
  rfl rfl rfl rfl rfl rfl rfl rfl rfl rfl rfl rfl (by omega) (by omega) (by omega) (by omega) (by decide) (by decide) ahi rfl l2 rfl rfl rfl rfl (by simp [aF]) (by simp) s ?_ ?_ (fun x B0 C h=>by simp [aF] at h) hfr hF0 ?_ ?_ Q ?_ ?_
 ·intro x C F y j;rcases WC F with ⟨rfl,rfl⟩|⟨rfl,rfl⟩
  ·rw [hlc] at j;cases j
  ·cases j
 ·refine aaF (fun t Z h3 h4 z=> .inl (z_ Z h3 h4 z)) (.inr ⟨by decide,by decide,rfl,fun y j=>by cases j⟩) (.inr ⟨by decide,by decide,rfl,fun y j=> ?_⟩) (.inr ⟨by decide,by decide,rfl,fun y j=> ?_⟩) (.inr ⟨by decide,by decide,rfl,fun y j=>by cases j⟩)
  ·have j:y ∈ [0]:=j;simp at j;subst j;rfl
  ·have j:y ∈ [1]:=j;simp at j;subst j;rfl
 ·intro w' d hs ho ht hu;exact ⟨by simp,(fun i hi=>(by cases hi)),(World.cell?_of_block (w:=w) (a:=⟨(m 3).1,0,none⟩) (d _ hU3)).trans hc3,⟨0,by simpa [fB] using yS.new ((d _ hU4).trans hm4) (by omega)⟩,by omega,⟨ho,ht,hu,by omega,fun k h _=>d k h⟩⟩
 ·intro done w1 w' r mm si se ci g hr hrs d hs ho ht hu;have n3:(m 3).1 ≠ r:=by omega
  have n4:(m 4).1 ≠ r:=by omega
  obtain ⟨x,F⟩:=g.t;exact ⟨g.nd,g.lt,(World.cell?_of_block (w:=w1) (a:=⟨(m 3).1,0,none⟩) (d _ n3)).trans g.u,⟨x,F.apart (by omega) n4 d⟩,by rw [hs];exact g.b,⟨ho.trans g.k.os,ht.trans g.k.tape,hu.trans g.k.output,by rw [hs];exact g.k.size,fun k hlt hne=>(d k (by omega)).trans (g.k.blk k hlt hne)⟩⟩
 ·intro r bm done i k v w1 a1 es clk it0 hr g hi hni G M A Y hit hi1 hi2 hbm hbe ⟨kv,vv,hent,hkv,hvv⟩ K hK;have hWi:W[i]? =some W[i]:=ν hi;have G:k=cA W[i].1:=by simp [hWi] at G;exact G.symm
  have M:v= .sl (cL W[i].2) W[i].2.length false:=by simp [hWi] at M;exact M.symm
  subst G;subst M;refine Q5 (c:=W[i].1) (us:=W[i].2) hap hn hlb rfl hr hU3 hU4 U D (X 4 _ E) (by have:=hfr.size;omega) g hni hWi (hus _ (Xx1 hi)) A Y hent hkv hvv ?_;intro w' a' q Z h3 h4;have hmb:=p.srel.lt l2;refine hK w' a' q Z h3 (h4 r (by omega) (by omega)) (h4 bm (by omega) ?_);rw [hbe];intro e;have:=p.srel.inj 2 4 _ _ l2 E e;omega
 ·intro r done w1 a1 g hall A Y;obtain ⟨x,hT⟩:=g.t;have hcl:∀ k,w.heap.size+1≤k→(∀ b B,AM.ah [(0,Dj f),(1,Di n)] b=some B→(m b).1 ≠ k)∧∀ o,S k o=none:=fun k d=> ⟨D.blk k (.inl d),D.clr k (.inl d)⟩
  have hlt1:(m 4).1<w1.heap.size:=by have:=g.k.size;omega
  obtain ⟨m1,S1,hle,hm1,N,hSk,hfr2,hF2⟩:=hT.shut A Y (X 4 _ E) ⟨hlt1,D.blk _ (.inr rfl),D.clr _ (.inr rfl)⟩ hcl 4 rfl;have hoff:VP (AM.ah [(4,Dv (fB W done)),(0,Dj f),(1,Di n)]) m1 S1 w1 (m 3).1:=by
   refine ⟨by have:=g.k.size;omega,fun b B H e=> ?_,fun o=>by rw [hSk _ _ (by omega)];exact O 3 _ V rfl o⟩;by_cases hb4:b=4
   ·subst hb4;rw [N] at e;exact U e.symm
   ·rw [hm1 b hb4] at e;have hB':AM.ah [(0,Dj f),(1,Di n)] b=some B:=by
     simp only [AM.ah] at H ⊢;rw [lh (fun e=>hb4 e.symm:4 ≠ b)] at H;exact H
    have q:=(s b B hB').1;have:=p.srel.inj b 3 _ _ q V e;subst this;simp [AM.ah] at hB'
  have T:w1.heap[(m 3).1]? =some (.cells R t3 (0,0)):=(g.k.blk _ hU3 U).trans I;have hvr:aU (AM.ah [(4,Dv (fB W done)),(0,Dj f),(1,Di n)]) m1 S1 [.mr 4 0] [.map (some (m 4).1)]:=by
   simp only [aU,VR,and_true];exact ⟨Dv (fB W done),rfl,ζ _,⟨_,rfl⟩,fun _=>by rw [N]⟩
  obtain ⟨m2,hm2,hm2b,hfr3,hF3⟩:=VT (h0:= []) 3 ⟨[.mr 4 0],0,false,0,0,false⟩ (k:=(m 3).1) (c:=0) hfr2 hF2 rfl hoff (X 3 _ V) rfl rfl (fun es clk he=>by rw [T] at he;cases he)
   ⟨R,t3,_,rest3,fU.of (by decide) T,r32,(fun h=>(by cases h)),hvr,r35,fun h=>absurd h (by decide)⟩
  have hp8:a1.tmps.getD 8 undef= .pointer (some ⟨(m 3).1,0,none⟩):=by
   have:=hF3.env 8;have e:(fQ 22 23 24 (.pointer (some ⟨r,0,none⟩)) (tC fr l (.raw (.pointer (some ⟨(m 3).1,0,none⟩))))).get 8= .raw (.pointer (some ⟨(m 3).1,0,none⟩)):=rfl;rw [e] at this;simpa only [VR,PR] using this
  have hF4:=hF3.say (t:=8) (x:= .ptr 3 0 0) (by
   rw [hp8];simp only [VR];exact ⟨⟨[.mr 4 0],0,false,0,0,false⟩,rfl,ζ _,⟨_,_,rfl⟩,fun _=>by rw [hm2b]⟩)
  have hF5:=hF4.drop (env':=tC fr l (.ptr 3 0 0)) (hp':= [(3,⟨[.mr 4 0],0,false,0,0,false⟩),(4,Dv (fB W done)),(0,Dj f),(1,Di n)]) (fun _ _ h=>h) (fun _ _ _ _ _=>rfl)
   (aaF (fun t Z h3 h4 z=> .inl (z_ Z h3 h4 z)) (.inr ⟨rfl,fun _ _=>rfl⟩) (.inr ⟨rfl,fun _ _=>rfl⟩) (.inr ⟨rfl,fun _ _=>rfl⟩) (.inr ⟨rfl,fun _ _=>rfl⟩))
  exact hQ .normal (Tq (fB W done) f n fr l) ⟨rfl,done,g.nd,fun i=> ⟨g.lt i,hall i⟩,rfl⟩ m2 S1 w1 a1 hfr3 hF5
theorem wu:∀ (U:Ut) (d c x:Cl),dm (jy U d c) x=if d=x then dm U x++ [c] else dm U x
 | [],d,c,x=>by simp only [jy,dm];split<;>rfl
 | (y,l)::r,d,c,x=>by
  unfold jy;by_cases h:y=d
  ·rw [if_pos h];subst h;simp only [dm];by_cases hx:y=x
   ·rw [if_pos hx,if_pos hx,if_pos hx]
   ·rw [if_neg hx,if_neg hx,if_neg hx]
  ·rw [if_neg h];simp only [dm,wu r d c x];by_cases hx:y=x
   ·subst hx;have:¬ d=y:=fun e=>h e.symm
    simp [this]
   ·rw [if_neg hx,if_neg hx]
theorem Eu (c x:Cl):∀ (us:List Cl) (U:Ut),∃ t,dm (us.foldl (fun U d=>jy U d c) U) x=dm U x++t∧t.length≤us.length∧(∀ y,y ∈ t↔(y=c∧x ∈ us))
 | [],U=> ⟨[],by simp,by simp,by simp⟩
 | d::us,U=>by
  obtain ⟨t,b,f,a⟩:=Eu c x us (jy U d c);rw [Xqw,b,wu];by_cases h:d=x
  ·rw [if_pos h];refine ⟨c::t,by simp,by simp;omega,fun y=> ?_⟩;rw [Xqs,a,h];constructor
   ·rintro (e|e)
    ·exact ⟨e,Xqp⟩
    ·exact ⟨e.1,Xqk _ e.2⟩
   ·intro e;exact .inl e.1
  ·rw [if_neg h];refine ⟨t,rfl,by simp;omega,fun y=> ?_⟩;rw [a,Xqs];constructor
   ·exact fun e=> ⟨e.1,.inr e.2⟩
   ·rintro ⟨e1,e2|e2⟩
    ·exact absurd e2.symm h
    ·exact ⟨e1,e2⟩
theorem xA (W:Ut) (lb:Nat) (a:∀ x ∈ W,x.2.length≤lb) (x:Cl):∀ (done:List Nat),(dm (fB W done) x).length≤done.length*lb∧∀ y,y ∈ dm (fB W done) x↔∃ i ∈ done,∃ us,W[i]? =some (y,us)∧x ∈ us
 | []=> ⟨by simp [fB,dm],by simp [fB,dm]⟩
 | i ::done=>by
  obtain ⟨k,c⟩:=xA W lb a x done;unfold fB;cases b:W[i]? with
  | none=>
   simp only;refine ⟨by rw [Γ,Xwf];omega,fun y=> ?_⟩;rw [c];constructor
   ·rintro ⟨j,hj,us,h⟩
    exact ⟨j,Xqk _ hj,us,h⟩
   ·rintro ⟨j,hj,us,h⟩
    rcases List.mem_cons.1 hj with e|hj
    ·rw [e,b] at h;cases h.1
    ·exact ⟨j,hj,us,h⟩
  | some w=>
   simp only;obtain ⟨t,f,l,d⟩:=Eu w.1 x w.2 (fB W done);rw [f];have g:w.2.length≤lb:=a w (χ b);refine ⟨by rw [ξ,Γ,Xwf];omega,fun y=> ?_⟩;rw [Xjc,c,d];constructor
   ·rintro (⟨j,hj,us,h⟩|⟨e1,e2⟩)
    ·exact ⟨j,Xqk _ hj,us,h⟩
    ·exact ⟨i,Xqp,w.2,by rw [b,e1],e2⟩
   ·rintro ⟨j,hj,us,h,hx⟩
    rcases List.mem_cons.1 hj with e|hj
    ·rw [e,b] at h;cases h;exact .inr ⟨rfl,hx⟩
    ·exact .inl ⟨j,hj,us,h,hx⟩
theorem OE {n:Nat} {l:List Nat} (a:l.Nodup) (h:∀ i,i ∈ l↔i<n):l.length=n:=by
 have:=(List.perm_ext_iff_of_nodup a Xx2).2 (fun i=>by rw [h,List.mem_range]);rw [this.length_eq,Xja]
inductive Jg (us:Cl→List Cl) (ok:Cl→Bool) (fr:List Cl):Cl→Prop
 |base {x:Cl}:x ∈ fr→ok x=true→Jg us ok fr x
 |step {x y:Cl}:Jg us ok fr x→y ∈ us x→ok y=true→Jg us ok fr y
theorem Jg.ok {us:Cl→List Cl} {ok:Cl→Bool} {fr:List Cl} {x:Cl} (h:Jg us ok fr x):ok x=true:=by
 cases h<;>assumption
theorem Jg.mono {us a:Cl→List Cl} {ok:Cl→Bool} {fr:List Cl} (b:∀ x y,ok x=true→ok y=true→y ∈ us x→y ∈ a x) {x:Cl} (h:Jg us ok fr x):Jg a ok fr x:=by
 induction h with
 |base h1 h2=>exact .base h1 h2
 |step h1 h2 h3 ih=>exact .step ih (b _ _ h1.ok h3 h2) h3
theorem Jg.trans {us:Cl→List Cl} {ok:Cl→Bool} {fr l:List Cl} (a:∀ y ∈ l,ok y=true→Jg us ok fr y) {x:Cl} (h:Jg us ok l x):Jg us ok fr x:=by
 induction h with
 |base h1 h2=>exact a _ h1 h2
 |step h1 h2 h3 ih=>exact .step ih h2 h3
structure Yp (us:Cl→List Cl) (ok:Cl→Bool) (seen:List Cl) (fr res:List Cl):Prop where
 sub:∀ y ∈ seen,y ∈ res
 all:∀ y ∈ fr,ok y=true→y ∈ res
 clo:∀ y ∈ res,y ∉ seen→∀ z ∈ us y,ok z=true→z ∈ res
 src:∀ y ∈ res,y ∈ seen∨Jg us ok fr y
theorem Yp.two {us:Cl→List Cl} {ok:Cl→Bool} {f a b fr:List Cl} {x:Cl} (j:Yp us ok f [x] a) (i:Yp us ok a fr b):Yp us ok f (x::fr) b:=by
 refine ⟨fun y c=>i.sub y (j.sub y c),fun y c d=> ?_,fun y c k z g d=> ?_,fun y c=> ?_⟩
 ·rcases List.mem_cons.1 c with e|c
  ·exact i.sub y (j.all y (by simp [e]) d)
  ·exact i.all y c d
 ·by_cases ha:y ∈ a
  ·exact i.sub z (j.clo y ha k z g d)
  ·exact i.clo y c ha z g d
 ·rcases i.src y c with h|h
  ·rcases j.src y h with h|h
   ·exact .inl h
   ·exact .inr (h.trans fun z g d=> .base (by simp at g;simp [g]) d)
  ·exact .inr (h.trans fun z g d=> .base (Xqk _ g) d)
theorem CU {us:Cl→List Cl} {ok:Cl→Bool} {C:List Cl} {n:Nat} (b:∀ seen x,jq C seen<n→Yp us ok seen [x] (lD us ok n seen x)):∀ (r sn:List Cl),jq C sn<n→Yp us ok sn r (r.foldl (lD us ok n) sn)
 | [],sn,h=> ⟨fun y a=>a,(fun y a=>by cases a),fun y a d=>absurd a d,fun y a=> .inl a⟩
 |y::r,sn,h=>by
  rw [Xqw];have c:=b sn y h;exact c.two (CU b r _ (Xx3 (xC C c.sub) h))
theorem Ja {us:Cl→List Cl} {ok:Cl→Bool} {C:List Cl} (k:∀ x,ok x=true→x ∈ C):∀ (n:Nat) (a:List Cl) (x:Cl),jq C a<n→Yp us ok a [x] (lD us ok n a x)
 |0,a,x,h=>absurd h (Xwg _)
 | n +1,a,x,h=>by
  unfold lD;by_cases hx:x ∈ a
  ·rw [if_pos hx];exact ⟨fun y b=>b,(fun y b _=>(by simp at b;rw [b];exact hx)),fun y b f=>absurd b f,fun y b=> .inl b⟩
  ·rw [if_neg hx];cases i:ok x with
   |false=>
    rw [if_neg (by simp)];exact ⟨fun y b=>b,(fun y b h=>(by simp at b;rw [b,i] at h;cases h)),fun y b f=>absurd b f,fun y b=> .inl b⟩
   | true=>
    rw [if_pos rfl];have d:=CU (us:=us) (fun a x=>Ja k n a x) (us x) (a++ [x]) (by have:=EF (k x i) hx;omega);have j:x ∈ (us x).foldl (lD us ok n) (a++ [x]):=d.sub x (by simp);refine ⟨fun y b=>d.sub y (by simp [b]),(fun y b _=>(by simp at b;rw [b];exact j)),fun y b f z g c=> ?_,fun y b=> ?_⟩
    ·by_cases e:y=x
     ·subst e;exact d.all z g c
     ·exact d.clo y b (by simp [f,e]) z g c
    ·rcases d.src y b with h|h
     ·rcases List.mem_append.1 h with h|h
      ·exact .inl h
      ·simp at h;subst h;exact .inr (.base (by simp) i)
     ·exact .inr (h.trans fun z g c=> .step (.base (by simp) i) g c)
theorem NI {us:Cl→List Cl} {ok:Cl→Bool} {C:List Cl} (d:∀ x,ok x=true→x ∈ C) (fr:List Cl) (n:Nat) (e:C.length<n) (x:Cl):x ∈ fr.foldl (lD us ok n) []↔Jg us ok fr x:=by
 have b:jq C []<n:=Xx3 (Xjq _ _) e;have h:=CU (fun a x=>Ja (us:=us) d n a x) fr [] b;constructor
 ·intro c;rcases h.src x c with h|h
  ·cases h
  ·exact h
 ·intro c
  induction c with
  |base h1 h2=>exact h.all _ h1 h2
  |step h1 h2 h3 ih=>exact h.clo _ ih (by simp) _ h2 h3
def zn (L:Lw) (s:Int) (u:Cl):List Cl:=(aB s L.ps.length).filter fun c=>decide (u ∈ jv L s c)
open Classical in
noncomputable def gB (L:Lw) (s:Int) (fr:List Cl):List Cl:=(aB s L.ps.length).filter fun c=>decide (Jg (zn L s) (aK s L.ps.length) fr c)
theorem NJ {L:Lw} {s:Int} {l:List Cl} {i:Nat} {y:Cl} {us:List Cl}:(fE L s l)[i]? =some (y,us)↔l[i]? =some y∧us=jv L s y:=by
 unfold fE;rw [List.getElem?_map];cases h:l[i]? with
 |none=>simp
 |some x=>
  simp only [Xqu,Option.some.injEq,Prod.mk.injEq];constructor
  ·rintro ⟨rfl,rfl⟩;exact ⟨rfl,rfl⟩
  ·rintro ⟨rfl,rfl⟩;exact ⟨rfl,rfl⟩
theorem CJ {L:Lw} {s:Int} {lb:Nat} {done:List Nat} (d:∀ x ∈ fE L s (aB s L.ps.length),x.2.length≤lb) (f:∀ i,i ∈ done↔i<(fE L s (aB s L.ps.length)).length) (x y:Cl):y ∈ dm (fB (fE L s (aB s L.ps.length)) done) x↔y ∈ zn L s x:=by
 rw [(xA _ lb d x done).2 y];unfold zn;rw [Xxg];constructor
 ·rintro ⟨i,_,us,h,hx⟩
  obtain ⟨b,c⟩:=NJ.1 h;subst c;exact ⟨χ b,by simpa using hx⟩
 ·rintro ⟨b,c⟩
  obtain ⟨i,e⟩:=List.getElem?_of_mem b;have a:=(NJ (L:=L) (s:=s)).2 ⟨e,rfl⟩;exact ⟨i,(f i).2 (List.getElem?_eq_some_iff.1 a).1,_,a,by simpa using c⟩
theorem OY {L:Lw} {s:Int} {lb:Nat} {done:List Nat} (a:∀ x ∈ fE L s (aB s L.ps.length),x.2.length≤lb) (b:∀ i,i ∈ done↔i<(fE L s (aB s L.ps.length)).length) (fr:List Cl) (n:Nat) (d:(aB s L.ps.length).length<n):
  (aB s L.ps.length).filter (fun c=>decide (c ∈ fr.foldl (lD (dm (fB (fE L s (aB s L.ps.length)) done)) (aK s L.ps.length) n) []))=gB L s fr:=by
 classical
 unfold gB;refine Xzy fun c f=> ?_
 rw [decide_eq_decide,NI (C:=aB s L.ps.length) (fun x e=>kS.2 e) fr n d];exact ⟨fun h=>h.mono fun x y _ _ h=>(CJ a b x y).1 h,fun h=>h.mono fun x y _ _ h=>(CJ a b x y).2 h⟩
theorem aha {nt:Nat} (e:60≤nt) (L:Lw) (a b c:Bool) (s:Int) (fr:List Cl) (d:Bool):ak prog ap [] nt (dG [0] (ag f22)) (eQ .dead [.agg [.sl L.fx L.fn a,.sl L.sx L.sn b,.sl (bQ L.ps) L.ps.length c],ω s,.sl (cL fr) fr.length d] []) .normal (Ya (.sl (cL fr) fr.length d) [.sl L.fx L.fn a,.sl L.sx L.sn b,.sl (bQ L.ps) L.ps.length c] [ω s]):=by
 exact pN 22 [] 0 0 .nil (.nil) e
theorem ahb {nt:Nat} (e:60≤nt) (L:Lw) (a b c:Bool) (s:Int) (fr:List Cl) (d:Bool) (ks vs:List AV) (f:af prog ap 47 [.agg [.sl L.fx L.fn a,.sl L.sx L.sn b,.sl (bQ L.ps) L.ps.length c],ω s] [] (.ret (.mr 0 0)) [⟨[.agg ks,.agg vs],0,false,0,4611686018427387904,true⟩]):ak prog ap [] nt (dG [1,0] (ag f22)) (Ya (.sl (cL fr) fr.length d) [.sl L.fx L.fn a,.sl L.sx L.sn b,.sl (bQ L.ps) L.ps.length c] [ω s]) .normal (Yb (.sl (cL fr) fr.length d) [.sl L.fx L.fn a,.sl L.sx L.sn b,.sl (bQ L.ps) L.ps.length c] [ω s] [.agg ks,.agg vs]):=by
 exact pN 22 [] 0 0 (.n 4 .nil) (.c f .nil) e
theorem ahc {nt:Nat} (e:60≤nt) (L:Lw) (a b c:Bool) (s:Int) (fr:List Cl) (d:Bool) (ks vs:List AV):ak prog ap [] nt (dG [1,1,0] (ag f22)) (Yb (.sl (cL fr) fr.length d) [.sl L.fx L.fn a,.sl L.sx L.sn b,.sl (bQ L.ps) L.ps.length c] [ω s] [.agg ks,.agg vs]) .normal ⟨[(2,.sl (cL fr) fr.length d),(3,.ptr 0 0 0),(4,.ptr 1 0 0),(7,.mr 2 0),(8,.ptr 3 0 0)],[(0,⟨[.sl L.fx L.fn a,.sl L.sx L.sn b,.sl (bQ L.ps) L.ps.length c],0,false,0,0,true⟩),(1,⟨[ω s],0,false,0,0,true⟩),(2,⟨[.agg ks,.agg vs],0,false,0,4611686018427387904,true⟩),(3,⟨[.mr 4 0],0,false,0,0,false⟩),(4,⟨[.agg [],.agg []],0,false,0,4611686018427387904,true⟩)],.dead,[]⟩:=by
 exact pN 22 [] 0 0 (.n 1 .nil) (.nil) e
def Zp (L:Lw) (a b c:Bool) (s:Int) (fr:List Cl) (nf:Bool) (uk uv:List AV) (k:Nat) (ks vs:List AV):St:=⟨[(3,.ptr 0 0 0),(4,.ptr 1 0 0),(8,.ptr 2 0 0),(13,.ptr 3 0 0),(14,.ptr 4 0 0),(45,.sl (cL fr) fr.length nf),(46,ω (fr.length:Int)),(47,ω (k:Int))],[(0,⟨[.sl L.fx L.fn a,.sl L.sx L.sn b,.sl (bQ L.ps) L.ps.length c],0,false,0,0,true⟩),(1,⟨[ω s],0,false,0,0,true⟩),(2,⟨[.mr 5 0],0,false,0,0,false⟩),(3,⟨[.mr 6 0],0,false,0,0,false⟩),(4,⟨[.fn 56 [] [.ptr 3 0 0,.ptr 0 0 0,.ptr 1 0 0,.ptr 2 0 0,.ptr 4 0 0]],0,false,0,0,false⟩),(5,⟨[.agg uk,.agg uv],0,false,0,4611686018427387904,true⟩),(6,⟨[.agg ks,.agg vs],0,false,0,4611686018427387904,true⟩)],.dead,[]⟩
def rlE (L:Lw) (a b c:Bool) (s:Int) (uk uv:List AV) (ks vs:List AV):St:=(Yc [.sl L.fx L.fn a,.sl L.sx L.sn b,.sl (bQ L.ps) L.ps.length c] [ω s] [.agg ks,.agg vs])
theorem acx {nt:Nat} (q:60≤nt) (L:Lw) (a b c:Bool) (s:Int) (fr:List Cl) (l:Bool) (e g ks vs k2 i:List AV) (p r:List Cl) (x:Cl) (d:fr=p++x::r) (u:fr.length<2^40) (j:af prog ap 56 [cA x,.ptr 0 0 0,.ptr 1 0 0,.ptr 2 0 0,.ptr 3 0 0,.ptr 4 0 0] (pO L a b c s e g ks vs) (.ret (.tup [])) (pO L a b c s e g k2 i)):
  ak prog ap [] nt (au 4 (ag f22)) (Zp L a b c s fr l e g p.length ks vs) .normal (Zp L a b c s fr l e g (p.length+1) k2 i):=by
 have o:=eH (f:=cC) (n:=2) (fun _=>rfl) d;change ε _ (cL fr)=cC x++cL r at o;have h:p.length<fr.length:=mP d;have t:p.length<2^62:=by omega
 have m:(decide ((p.length:Int)<(fr.length:Int)))=true:=kl h;unfold Zp;unfold pO at j;clear d;generalize p.length=k at*
 exact pN 22 [] 1 1 (.k 7 m (.c (ai m) .nil)) (.v 54 (.eq (wpS t)) (.c j (.v 49 (.ppt o) .nil))) q
theorem acw {nt:Nat} (f:60≤nt) (L:Lw) (a b c:Bool) (s:Int) (fr:List Cl) (g:Bool) (d e ks vs:List AV):
  ak prog ap [] nt (au 4 (ag f22)) (Zp L a b c s fr g d e fr.length ks vs) (.exit 4) (rlE L a b c s d e ks vs):=by
 have h:(decide ((fr.length:Int)<(fr.length:Int)))=false:=kn (ζ _);exact pN 22 [] 1 0 (.c (aj h) .nil) .nil f
theorem MZ {nt:Nat} (e:60≤nt) (L:Lw) (a b c:Bool) (s:Int) (fr:List Cl) (d:Bool) (U:Ut) (f:∀ x,(dm U x).length<2^40) (n:Nat) (g:fr.length<2^40):∀ (r p sn:List Cl),fr=p++r→jq (aB s L.ps.length) sn<n→
  aJ prog ap [] nt (au 4 (ag f22)) (fun _=> .exit 4) (fun q:Nat × List Cl=>Zp L a b c s fr d (U.map fun x=>cA x.1) (yQ U) q.1 (q.2.map cA) (zg q.2)) (fun sn:List Cl=>rlE L a b c s (U.map fun x=>cA x.1) (yQ U) (sn.map cA) (zg sn)) (p.length,sn) (r.foldl (lD (dm U) (aK s L.ps.length) n) sn)
 | [],p,sn,hp,hs=>by
  rw [ο] at hp;rw [Xwr,← hp];exact .done (acw e L a b c s fr d _ _ _ _)
 |y::r,p,sn,hp,hs=>by
  rw [Xqw];have i:=TG L a b c s U f n sn y hs;obtain ⟨t,k⟩:=CS (dm U) (aK s L.ps.length) n sn y;have j:=acx e L a b c s fr d _ _ _ _ _ _ p r y hp g i;have h:=MZ e L a b c s fr d U f n g r (p++ [y]) (lD (dm U) (aK s L.ps.length) n sn y) (by rw [hp];simp) (Xx3 (xC _ (fun z l=>by rw [k];simp [l])) hs);rw [show (p++ [y]).length=p.length+1 by simp] at h;exact .next (a':=(p.length+1,_)) j h
theorem ahd {nt:Nat} (i:60≤nt) (L:Lw) (a b c:Bool) (s:Int) (fr:List Cl) (f:Bool) (g h ks vs:List AV) (l:List Cl) (q:Nat) (C2:List AV) (e:CO 49 [.agg [.sl L.fx L.fn a,.sl L.sx L.sn b,.sl (bQ L.ps) L.ps.length c],ω s] (.ret (.own (cL l) l.length 2))) (d:af prog ap 57 [.ref 0 0 0 l.length,.fn 58 [] [.ptr 1 0 0]] [⟨(cL l),0,false,0,2,true⟩,⟨[.mr 2 0],0,false,0,0,false⟩,⟨[.agg ks,.agg vs],0,false,0,4611686018427387904,true⟩] (.ret (.ref 0 0 0 q)) [⟨C2,0,false,0,2,true⟩,⟨[.mr 2 0],0,false,0,0,false⟩,⟨[.agg ks,.agg vs],0,false,0,4611686018427387904,true⟩])
  (l1:LB 60 4 f22 ⟨[(0,.dead),(1,.dead),(2,.sl (cL fr) fr.length f),(3,.ptr 0 0 0),(4,.ptr 1 0 0),(6,.dead),(7,.dead),(8,.ptr 2 0 0),(9,.dead),(10,.dead),(12,.dead),(13,.ptr 3 0 0),(14,.ptr 4 0 0),(16,.dead),(22,.dead),(24,.dead),(28,.dead),(29,.dead),(30,.dead),(31,.dead),(45,.sl (cL fr) fr.length f),(46,ω (fr.length:Int)),(47,ω 0),(48,.dead)],[(0,⟨[.sl L.fx L.fn a,.sl L.sx L.sn b,.sl (bQ L.ps) L.ps.length c],0,false,0,0,true⟩),(1,⟨[ω s],0,false,0,0,true⟩),(2,⟨[.mr 5 0],0,false,0,0,false⟩),(3,⟨[.mr 6 0],0,false,0,0,false⟩),(4,⟨[.fn 56 [] [.ptr 3 0 0,.ptr 0 0 0,.ptr 1 0 0,.ptr 2 0 0,.ptr 4 0 0]],0,false,0,0,false⟩),(5,⟨[.agg g,.agg h],0,false,0,4611686018427387904,true⟩),(6,⟨[.agg [],.agg []],0,false,0,4611686018427387904,true⟩)],.dead,[]⟩ (.normal) (Yc [.sl L.fx L.fn a,.sl L.sx L.sn b,.sl (bQ L.ps) L.ps.length c] [ω s] [.agg ks,.agg vs])):ak prog ap [] nt (dG [1,1,1,1] (ag f22)) ⟨[(2,.sl (cL fr) fr.length f),(3,.ptr 0 0 0),(4,.ptr 1 0 0),(8,.ptr 3 0 0)],[(3,⟨[.mr 4 0],0,false,0,0,false⟩),(4,⟨[.agg g,.agg h],0,false,0,4611686018427387904,true⟩),(0,⟨[.sl L.fx L.fn a,.sl L.sx L.sn b,.sl (bQ L.ps) L.ps.length c],0,false,0,0,true⟩),(1,⟨[ω s],0,false,0,0,true⟩)],.dead,[]⟩ .ret ⟨[(6,.ref 0 0 0 q)],[(0,⟨C2,0,false,0,2,true⟩)],.dead,[]⟩:=by
 exact pN 22 [4] 0 0 (.n 6 .nil) (.c d (.c e (.l l1 .nil))) i
theorem YI:ag f22= .seq (dG [0] (ag f22)) (.seq (dG [1,0] (ag f22)) (.seq (dG [1,1,0] (ag f22)) (.seq (dG [1,1,1,0] (ag f22)) (dG [1,1,1,1] (ag f22))))):=by kernel_rfl
theorem zO:∀ (r A:List Cl) (z:Cl),(oD A z r).length≤A.length+r.length
 | [],A,z=>by simp [oD]
 |y::r,A,z=>by
  unfold oD;split
  ·have:=zO r A y;simp;omega
  ·have:=zO r (A++ [y]) y;simp at this ⊢;omega
theorem xE {L:Lw} (a:CP L) (s:Int) (w:Cl):(jv L s w).length≤12:=by
 unfold jv;split
 ·have b:(jb (kL L s w ((L.ps[w.2.toNat]?.map Pv.body).getD []))).length≤12:=by
   rw [(uy _).length_eq];cases h:L.ps[w.2.toNat]? with
   |none=>simp [kL]
   |some p=>exact (a.2 p (χ h)).2 s w
  generalize jb (kL L s w ((L.ps[w.2.toNat]?.map Pv.body).getD []))=l at*
  cases l with
  |nil=>simp [b_]
  |cons x l=>
   have:=zO l [x] x;simp only [b_];simp at this b ⊢;omega
 ·simp
theorem qB (s:Int) (n:Nat):(aB s n).length≤n+n:=by
 have a:∀ q,(mZ s n q).length≤n:=fun q=>by
  unfold mZ;rw [Xzm];have:∀ l:List Nat,(l.map fun k=>(if aK s n (((q:Nat):Int),((k:Nat):Int)) then [((((q:Nat):Int),((k:Nat):Int)):Cl)] else []).length).sum≤l.length:=by
   intro l
   induction l with
   |nil=>simp
   |cons x l ih=>simp only [φ,Xwz,Γ];split<;>simp<;>omega
  have:=this (Xqd n);rwa [Xja] at this
 unfold aB;rw [ξ];exact Nat.add_le_add (a 0) (a 1)
theorem Zl (L:Lw) (a b c:Bool) (s:Int) (fr:List Cl) (g:Bool) (m:CP L) (t:L.ps.length<2^34) (u:fr.length<2^40) {e:aY} {d:St} (f:d.md= .dead)
  (tail:∀ done:List Nat,done.Nodup→(∀ i,i ∈ done↔i<(fE L s (aB s L.ps.length)).length)→∀ nt,60≤nt→ak prog ap [] nt (dG [1,1,1,1] (ag f22)) (Tq (fB (fE L s (aB s L.ps.length)) done) (L.c a b c) s fr g) e d) (nt:Nat) (hn:60≤nt):
  ak prog ap [] nt (ag f22) (eQ .dead [.agg [.sl L.fx L.fn a,.sl L.sx L.sn b,.sl (bQ L.ps) L.ps.length c],ω s,.sl (cL fr) fr.length g] []) e d:=by
 have l:=Vo L a b c s m (by omega);have r:∀ x ∈ fE L s (aB s L.ps.length),x.2.length≤12:=fun x o=>by
  unfold fE at o;obtain ⟨y,_,rfl⟩:=List.mem_map.1 o;exact xE m s y
 have n:(fE L s (aB s L.ps.length)).length≤L.ps.length+L.ps.length:=by
  unfold fE;rw [Xq4];exact qB s _
 have q:=Tt aaf hn (fE L s (aB s L.ps.length)) (L.c a b c) rfl s fr g 12 (by omega) r;have hrest:ak prog ap [] nt (.seq (dG [1,1,1,0] (ag f22)) (dG [1,1,1,1] (ag f22))) (qV (fE L s (aB s L.ps.length)) (L.c a b c) s fr g) e d:=by
  refine (gZ.seq (Post:=fun k j=>k=e∧j=d) q (fun j ⟨_,done,h1,h2,h3⟩=> ?_) (fun e j ⟨h,_⟩ hne=>absurd h hne) (fun k j h=>h.2 ▸ f)).one;subst h3;exact (tail done h1 h2 nt hn).any ⟨rfl,rfl⟩ (fun k j h=>h.2 ▸ f)
 rw [YI];refine (aha hn L a b c s fr g).seq ((ahb hn L a b c s fr g _ _ l).seq ((ahc hn L a b c s fr g _ _).seq ?_));have p:(aB s L.ps.length).map cA=(fE L s (aB s L.ps.length)).map fun x=>cA x.1:=by
  unfold fE;rw [Xzs];rfl
 rw [p];exact hrest
theorem U_ (L:Lw) (a b c:Bool) (s:Int) (fr:List Cl) (d:Bool) (C2:List AV) (q:Nat) (h:∀ nt,60≤nt→ak prog ap [] nt (ag f22) (eQ .dead [.agg [.sl L.fx L.fn a,.sl L.sx L.sn b,.sl (bQ L.ps) L.ps.length c],ω s,.sl (cL fr) fr.length d] []) .ret ⟨[(6,.ref 0 0 0 q)],[(0,⟨C2,0,false,0,2,true⟩)],.dead,[]⟩):CO 22 [.agg [.sl L.fx L.fn a,.sl L.sx L.sn b,.sl (bQ L.ps) L.ps.length c],ω s,.sl (cL fr) fr.length d] (.ret (.own (C2.take (q*2)) q 2)):=
 nI lG 0 (F:=⟨f22,[0,1,2,3,4,6,7,8,9,10,12,13,14,16,22,24,28,29,30,31,45,46,47,48],true⟩) rfl rfl h rfl (Xqr _) rfl
theorem xu (L:Lw) (a b c:Bool) (s:Int) (fr:List Cl) (j:Bool) (t:CP L) (G:L.ps.length<2^34) (B:fr.length<2^40) (o:Cl) (H:List Cl) (u:aB s L.ps.length=o::H):CO 22 [.agg (L.c a b c),ω s,.sl (cL fr) fr.length j] (.ret (.own (cL (gB L s fr)) (gB L s fr).length 2)):=by
 have A:∀ x ∈ fE L s (aB s L.ps.length),x.2.length≤12:=fun x C=>by
  unfold fE at C;obtain ⟨y,_,rfl⟩:=List.mem_map.1 C;exact xE t s y
 have D:(fE L s (aB s L.ps.length)).length≤L.ps.length+L.ps.length:=by
  unfold fE;rw [Xq4];exact qB s _
 have I:=qB s L.ps.length;have r:∀ done:List Nat,done.Nodup→(∀ i,i ∈ done↔i<(fE L s (aB s L.ps.length)).length)→∀ d,fr.foldl (lD (dm (fB (fE L s (aB s L.ps.length)) done)) (aK s L.ps.length) ((aB s L.ps.length).length+1)) []=d→LB 60 4 f22 (Zp L a b c s fr j ((fB (fE L s (aB s L.ps.length)) done).map fun x=>cA x.1) (yQ (fB (fE L s (aB s L.ps.length)) done)) 0 [] []) .normal (rlE L a b c s ((fB (fE L s (aB s L.ps.length)) done).map fun x=>cA x.1) (yQ (fB (fE L s (aB s L.ps.length)) done)) (d.map cA) (zg d)):=fun done g m d e=>by
  have F:∀ x,(dm (fB (fE L s (aB s L.ps.length)) done) x).length<2^40:=fun x=>by
   have E:=(xA _ 12 A x done).1;rw [OE g m] at E;omega
  have:=aJ.blk (id:=4) (e':= .normal) (fun nt (p:60≤nt)=>MZ p L a b c s fr j (fB (fE L s (aB s L.ps.length)) done) F ((aB s L.ps.length).length+1) B fr [] [] rfl (Nat.lt_succ_of_le (Xjq _ _))) (by simp) rfl (aI.refl _) (aI.refl _);rw [e] at this;exact this
 have l:=GK L a b c s (by omega);have k:acp (aB s L.ps.length)= .own (cL (aB s L.ps.length)) (aB s L.ps.length).length 2:=by rw [u];rfl
 rw [k] at l;clear k u;have q:(cL (gB L s fr)++Gt ((aB s L.ps.length).length - (gB L s fr).length)).take ((gB L s fr).length*2)=cL (gB L s fr):=Xjn (dA _);refine af.out (out:= .ret (.own ((cL (gB L s fr)++Gt ((aB s L.ps.length).length - (gB L s fr).length)).take ((gB L s fr).length*2)) (gB L s fr).length 2)) (by rw [q];exact ⟨fun _=>rfl,fun _ _ _ _ h=>h⟩) ?_;refine U_ L a b c s fr j _ _ (Zl L a b c s fr j t G B rfl fun done g m nt p=> ?_);obtain ⟨d,e⟩:∃ d,fr.foldl (lD (dm (fB (fE L s (aB s L.ps.length)) done)) (aK s L.ps.length) ((aB s L.ps.length).length+1)) []=d:=⟨_,rfl⟩
 have v:=r done g m d e;have z:=OY A m fr ((aB s L.ps.length).length+1) (Xvm _);rw [e] at z;have f:=YP (d.map cA) (zg d) (fun c=>decide (c ∈ d)) (fun x=>acn d x) (aB s L.ps.length) (by omega);rw [z] at f;unfold Zp rlE at v;exact ahd p L a b c s fr j _ _ (d.map cA) (zg d) (aB s L.ps.length) (gB L s fr).length _ l f (fun nt n=>(v nt n).weak (aI.of ⟨rfl,rfl,rfl,rfl,rfl,rfl,rfl,rfl,trivial⟩) (aI.refl _))
theorem xq (L:Lw) (s:Int) (fr:List Cl):gB L s fr=(aB s L.ps.length).filter fun c=>decide (c ∈ fr.foldl (lD (zn L s) (aK s L.ps.length) ((aB s L.ps.length).length+1)) []):=by
 classical
 unfold gB;refine Xzy fun c b=> ?_
 rw [decide_eq_decide,NI (C:=aB s L.ps.length) (fun x a=>kS.2 a) fr _ (Xvm _)]
def iL (l:List Int):List AV:=l.map fun a=> ω a
theorem UD {a:List Int} {i:Nat} (h:i<a.length):ε (γ (i:Int)*1) (iL a)= [ω (a.getD i 0)]++iL (a.drop (i+1)):=by
 unfold iL;rw [aS,Nat.mul_one,← List.map_drop,Xjz h,List.getD_eq_getElem?_getD,ν h];rfl
abbrev dB (xs:List Int) (nn:Bool) (k:Nat):aP:=⟨[.sl (iL xs) xs.length nn,ω (k:Int)],0,false,0,0,true⟩
theorem NK {x:Int} (h: -2^63≤x) (a:x<2^63):η .i64 x=x:=dP h a
theorem UT (a:Int) (n:Nat) (g:0<n) (e:n<1000):∃ k:Nat,k<n∧CO 61 [ω a,ω (n:Int)] (.ret (ω (k:Int))):=by
 have c:(!((n:Int)==((0:Nat):Int)))=true:=by simp;omega
 have f:=Xx4 a (b:=(n:Int)) (by omega);have i: -(n:Int)<Xxb a n:=by
  have:=Xx4 (-a) (b:=(n:Int)) (by omega);rw [Xve] at this;omega
 by_cases h:Xxb a n<0
 ·have d:(decide ((Xxb a (n:Int))<((0:Nat):Int)))=true:=Yq0 h;have hp:CO 61 [ω a,ω (n:Int)] (.ret (ω (η .i64 ((Xxb a (n:Int))+(n:Int))))):=pK [] 1 1 (.c (ai d) (.c c .nil)) (.nil);rw [NK (by omega) (by omega)] at hp;refine ⟨(Xxb a n+n).toNat,by omega, ?_⟩;rw [Xje (by omega)];exact hp
 ·have d:(decide ((Xxb a (n:Int))<((0:Nat):Int)))=false:=Yq1 h;have hp:CO 61 [ω a,ω (n:Int)] (.ret (ω (Xxb a (n:Int)))):=pK [] 1 0 (.c (aj d) (.c c .nil)) (.nil);refine ⟨(Xxb a n).toNat,by omega, ?_⟩;rw [Xje (by omega)];exact hp
theorem kK (a:Int) (n:Nat) (g:0<n) (e:n<1000):∃ k:Nat,k<n∧CO 86 [ω a,ω (n:Int)] (.ret (ω (k:Int))):=by
 have c:(!((n:Int)==((0:Nat):Int)))=true:=by simp;omega
 have f:=Xx4 a (b:=(n:Int)) (by omega);have i: -(n:Int)<Xxb a n:=by
  have:=Xx4 (-a) (b:=(n:Int)) (by omega);rw [Xve] at this;omega
 by_cases h:Xxb a n<0
 ·have d:(decide ((Xxb a (n:Int))<((0:Nat):Int)))=true:=Yq0 h;have hp:CO 86 [ω a,ω (n:Int)] (.ret (ω (η .i64 ((Xxb a (n:Int))+(n:Int))))):=pK [] 1 1 (.c (ai d) (.c c .nil)) (.nil);rw [NK (by omega) (by omega)] at hp;refine ⟨(Xxb a n+n).toNat,by omega, ?_⟩;rw [Xje (by omega)];exact hp
 ·have d:(decide ((Xxb a (n:Int))<((0:Nat):Int)))=false:=Yq1 h;have hp:CO 86 [ω a,ω (n:Int)] (.ret (ω (Xxb a (n:Int)))):=pK [] 1 0 (.c (aj d) (.c c .nil)) (.nil);refine ⟨(Xxb a n).toNat,by omega, ?_⟩;rw [Xje (by omega)];exact hp
theorem aQ (a:List Int) (g:Bool) (k n:Nat) (f:k<2^62) (i:0<n) (e:n<1000):∃ r k':Nat,r<n∧k'≤k+1∧af prog ap 63 [.ptr 0 0 0,ω (n:Int)] [dB a g k] (.ret (ω (r:Int))) [dB a g k']:=by
 by_cases h:k<a.length
 ·obtain ⟨r,j,hm⟩:=kK (a.getD k 0) n i e;have l:=UD h;have c:(decide ((a.length:Int)≤(k:Int)))=false:=Yq1 (by omega);have b:(decide (((0:Nat):Int)≤(k:Int)))=true:=(k0 _)
  have d:(decide ((k:Int)<(a.length:Int)))=true:=(kl h)
  exact ⟨r,k+1,j,ζ _,pK [] 1 0 (.k 1 b (.c d (.k 4 (aj c) (.n 2 .nil)))) (.c hm (.v 31 (.ppt l) (.v 30 (.eq (TQ f)) (.v 19 (.eq (wpS f)) .nil))))⟩
 ·have c:(decide ((a.length:Int)≤(k:Int)))=true:=Yq0 (by omega);exact ⟨0,k,i,Nat.le_succ _,pK [] 1 1 (.c (ai c) (.n 2 .nil)) (.nil)⟩
theorem L9 (k:Nat) (h:k<8):CO 62 [ω (k:Int)] (.ret (.str [π (97+k)])):=by
 match k,h with
 |0,_=>exact cD [] .nil
 |1,_=>exact cD [] .nil
 |2,_=>exact cD [] .nil
 |3,_=>exact cD [] .nil
 |4,_=>exact cD [] .nil
 |5,_=>exact cD [] .nil
 |6,_=>exact cD [] .nil
 |7,_=>exact cD [] .nil
def aG:List Nat:= [25,59,60,64,65,101,104,106,114,143,146,147]
theorem iO:CO 65 [ω 1] (.ret (.str [1])):=cD aG (.nil)
theorem gq2:CO 25 [ω 1] (.ret (Ω false [1] [1])):=cD aG (.c iO (.c iO .nil))
theorem gq4:CO 65 [ω 2] (.ret (.str [2])):=cD aG (.nil)
theorem gq5:CO 25 [ω 2] (.ret (Ω false [2] [1])):=cD aG (.c iO (.c gq4 .nil))
theorem gq7:CO 65 [ω 3] (.ret (.str [3])):=cD aG (.nil)
theorem gq8:CO 25 [ω 3] (.ret (Ω false [3] [1])):=cD aG (.c iO (.c gq7 .nil))
theorem YR:CO 65 [ω 4] (.ret (.str [4])):=cD aG (.nil)
theorem af1:CO 25 [ω 4] (.ret (Ω false [4] [1])):=cD aG (.c iO (.c YR .nil))
theorem Oj:CO 65 [ω 5] (.ret (.str [5])):=cD aG (.nil)
theorem af2:CO 25 [ω 5] (.ret (Ω false [5] [1])):=cD aG (.c iO (.c Oj .nil))
theorem af4:CO 65 [ω 6] (.ret (.str [6])):=cD aG (.nil)
theorem af5:CO 25 [ω 6] (.ret (Ω false [6] [1])):=cD aG (.c iO (.c af4 .nil))
theorem af6:CO 65 [ω 7] (.ret (.str [7])):=cD aG (.nil)
theorem af7:CO 25 [ω 7] (.ret (Ω false [7] [1])):=cD aG (.c iO (.c af6 .nil))
theorem af8:CO 65 [ω 8] (.ret (.str [8])):=cD aG (.nil)
theorem af9:CO 25 [ω 8] (.ret (Ω false [8] [1])):=cD aG (.c iO (.c af8 .nil))
theorem abq:CO 65 [ω 9] (.ret (.str [9])):=cD aG (.nil)
theorem af_:CO 25 [ω 9] (.ret (Ω false [9] [1])):=cD aG (.c iO (.c abq .nil))
theorem JC:CO 65 [ω 10] (.ret (.str [10])):=cD aG (.nil)
theorem JD:CO 25 [ω 10] (.ret (Ω false [10] [1])):=cD aG (.c iO (.c JC .nil))
theorem aga:CO 65 [ω 11] (.ret (.str [11])):=cD aG (.nil)
theorem agb:CO 25 [ω 11] (.ret (Ω false [11] [1])):=cD aG (.c iO (.c aga .nil))
theorem agc:CO 65 [ω 12] (.ret (.str [12])):=cD aG (.nil)
theorem agd:CO 25 [ω 12] (.ret (Ω false [12] [1])):=cD aG (.c iO (.c agc .nil))
theorem age:CO 65 [ω 13] (.ret (.str [13])):=cD aG (.nil)
theorem agf:CO 25 [ω 13] (.ret (Ω false [13] [1])):=cD aG (.c iO (.c age .nil))
theorem agh:CO 65 [ω 14] (.ret (.str [14])):=cD aG (.nil)
theorem agi:CO 25 [ω 14] (.ret (Ω false [14] [1])):=cD aG (.c iO (.c agh .nil))
theorem agj:CO 65 [ω 15] (.ret (.str [15])):=cD aG (.nil)
theorem agk:CO 25 [ω 15] (.ret (Ω false [15] [1])):=cD aG (.c iO (.c agj .nil))
theorem agl:CO 65 [ω 16] (.ret (.str [16])):=cD aG (.nil)
theorem agm:CO 25 [ω 16] (.ret (Ω false [16] [1])):=cD aG (.c iO (.c agl .nil))
theorem agn:CO 65 [ω 17] (.ret (.str [17])):=cD aG (.nil)
theorem agp:CO 25 [ω 17] (.ret (Ω false [17] [1])):=cD aG (.c iO (.c agn .nil))
theorem agq:CO 65 [ω 18] (.ret (.str [18])):=cD aG (.nil)
theorem agr:CO 25 [ω 18] (.ret (Ω false [18] [1])):=cD aG (.c iO (.c agq .nil))
theorem ags:CO 65 [ω 19] (.ret (.str [19])):=cD aG (.nil)
theorem agt:CO 25 [ω 19] (.ret (Ω false [19] [1])):=cD aG (.c iO (.c ags .nil))
theorem UA:CO 65 [ω 20] (.ret (.str [20])):=cD aG (.nil)
theorem abD:CO 25 [ω 20] (.ret (Ω false [20] [1])):=cD aG (.c iO (.c UA .nil))
theorem agu:CO 65 [ω 21] (.ret (.str [21])):=cD aG (.nil)
theorem agv:CO 25 [ω 21] (.ret (Ω false [21] [1])):=cD aG (.c iO (.c agu .nil))
theorem agw:CO 65 [ω 22] (.ret (.str [22])):=cD aG (.nil)
theorem agx:CO 25 [ω 22] (.ret (Ω false [22] [1])):=cD aG (.c iO (.c agw .nil))
theorem agy:CO 65 [ω 23] (.ret (.str [23])):=cD aG (.nil)
theorem agz:CO 25 [ω 23] (.ret (Ω false [23] [1])):=cD aG (.c iO (.c agy .nil))
theorem agB:CO 65 [ω 24] (.ret (.str [24])):=cD aG (.nil)
theorem agC:CO 25 [ω 24] (.ret (Ω false [24] [1])):=cD aG (.c iO (.c agB .nil))
theorem agD:CO 65 [ω 25] (.ret (.str [25])):=cD aG (.nil)
theorem agE:CO 25 [ω 25] (.ret (Ω false [25] [1])):=cD aG (.c iO (.c agD .nil))
theorem agF:CO 65 [ω 26] (.ret (.str [26])):=cD aG (.nil)
theorem agG:CO 25 [ω 26] (.ret (Ω false [26] [1])):=cD aG (.c iO (.c agF .nil))
theorem agH:CO 65 [ω 27] (.ret (.str [27])):=cD aG (.nil)
theorem agI:CO 25 [ω 27] (.ret (Ω false [27] [1])):=cD aG (.c iO (.c agH .nil))
theorem agJ:CO 65 [ω 28] (.ret (.str [28])):=cD aG (.nil)
theorem agK:CO 25 [ω 28] (.ret (Ω false [28] [1])):=cD aG (.c iO (.c agJ .nil))
theorem agL:CO 65 [ω 29] (.ret (.str [29])):=cD aG (.nil)
theorem agM:CO 25 [ω 29] (.ret (Ω false [29] [1])):=cD aG (.c iO (.c agL .nil))
theorem agN:CO 65 [ω 30] (.ret (.str [30])):=cD aG (.nil)
theorem agO:CO 25 [ω 30] (.ret (Ω false [30] [1])):=cD aG (.c iO (.c agN .nil))
theorem agP:CO 65 [ω 31] (.ret (.str [31])):=cD aG (.nil)
theorem agQ:CO 25 [ω 31] (.ret (Ω false [31] [1])):=cD aG (.c iO (.c agP .nil))
theorem agR:CO 65 [ω 32] (.ret (.str [32])):=cD aG (.nil)
theorem agS:CO 25 [ω 32] (.ret (Ω false [32] [1])):=cD aG (.c iO (.c agR .nil))
theorem agT:CO 65 [ω 33] (.ret (.str [33])):=cD aG (.nil)
theorem agU:CO 25 [ω 33] (.ret (Ω false [33] [1])):=cD aG (.c iO (.c agT .nil))
theorem aaH:CO 65 [ω 34] (.ret (.str [34])):=cD aG (.nil)
theorem aaI:CO 25 [ω 34] (.ret (Ω false [34] [1])):=cD aG (.c iO (.c aaH .nil))
theorem aaJ:CO 65 [ω 35] (.ret (.str [35])):=cD aG (.nil)
theorem aaK:CO 25 [ω 35] (.ret (Ω false [35] [1])):=cD aG (.c iO (.c aaJ .nil))
theorem aaL:CO 65 [ω 36] (.ret (.str [36])):=cD aG (.nil)
theorem aaM:CO 25 [ω 36] (.ret (Ω false [36] [1])):=cD aG (.c iO (.c aaL .nil))
theorem aaN:CO 65 [ω 37] (.ret (.str [37])):=cD aG (.nil)
theorem aaO:CO 25 [ω 37] (.ret (Ω false [37] [1])):=cD aG (.c iO (.c aaN .nil))
theorem aaP:CO 65 [ω 38] (.ret (.str [38])):=cD aG (.nil)
theorem aaQ:CO 25 [ω 38] (.ret (Ω false [38] [1])):=cD aG (.c iO (.c aaP .nil))
theorem aaR:CO 65 [ω 39] (.ret (.str [39])):=cD aG (.nil)
theorem aaS:CO 25 [ω 39] (.ret (Ω false [39] [1])):=cD aG (.c iO (.c aaR .nil))
theorem aaT:CO 65 [ω 40] (.ret (.str [40])):=cD aG (.nil)
theorem aaU:CO 25 [ω 40] (.ret (Ω false [40] [1])):=cD aG (.c iO (.c aaT .nil))
theorem aaV:CO 65 [ω 41] (.ret (.str [41])):=cD aG (.nil)
theorem aaW:CO 25 [ω 41] (.ret (Ω false [41] [1])):=cD aG (.c iO (.c aaV .nil))
theorem Qb:CO 147 [.str [1]] (.ret (.tup [ω 1,.bool true])):=cD aG (.nil)
theorem nK:CO 106 [.str [1],ω 7] (.ret (.tup [ω 1,.bool true])):=cD aG (.c Qb .nil)
theorem ja:CO 65 [ω 0] (.ret (.str [])):=cD aG (.nil)
theorem D8:CO 146 [.str [1],.str [1]] (.ret (.tup [.str [1],.str [],.bool true])):=cD aG (.c ja (.c iO (.c nK (.c nK .nil))))
theorem tK:CO 143 [.str [1],.str [1]] (.ret (ω 0)):=cD aG (.nil)
theorem Qc:CO 114 [Ω false [1] [1]] (.ret (.bool true)):=cD aG (.c tK (.c iO (.c D8 .nil)))
theorem VW:CO 147 [.str [2]] (.ret (.tup [ω 2,.bool true])):=cD aG (.nil)
theorem Hf:CO 106 [.str [2],ω 7] (.ret (.tup [ω 2,.bool true])):=cD aG (.c VW .nil)
theorem Qd:CO 146 [.str [2],.str [1]] (.ret (.tup [.str [2],.str [],.bool true])):=cD aG (.c ja (.c gq4 (.c nK (.c Hf .nil))))
theorem VX:CO 114 [Ω false [2] [1]] (.ret (.bool true)):=cD aG (.c tK (.c iO (.c Qd .nil)))
theorem Hg:CO 106 [.str [1],ω 3] (.ret (.tup [ω 1,.bool true])):=cD aG (.c Qb .nil)
theorem Hl:CO 106 [.str [1],ω 4] (.ret (.tup [ω 1,.bool true])):=cD aG (.c Qb .nil)
theorem Hm:CO 104 [.str [1],.str [1]] (.ret (.str [1])):=cD aG (.c iO (.c Hl (.c Hg .nil)))
theorem aaX:CO 106 [.str [2],ω 4] (.ret (.tup [ω 2,.bool true])):=cD aG (.c VW .nil)
theorem VY:CO 104 [.str [1],.str [2]] (.ret (.str [2])):=cD aG (.c gq4 (.c aaX (.c Hg .nil)))
theorem aaY:CO 146 [.str [1],.str [2]] (.ret (.tup [.str [],.str [1],.bool true])):=cD aG (.c iO (.c ja (.c Hf (.c nK .nil))))
theorem aaZ:CO 64 [Ω false [1] [1],Ω false [2] [1]] (.ret (.tup [Ω false [1] [2],.bool true])):=cD aG (.c Qd (.c D8 (.c Qd (.c aaY (.c VY (.c Hm (.c VX (.c Qc .nil))))))))
theorem VZ:CO 147 [.str [3]] (.ret (.tup [ω 3,.bool true])):=cD aG (.nil)
theorem V3:CO 106 [.str [3],ω 7] (.ret (.tup [ω 3,.bool true])):=cD aG (.c VZ .nil)
theorem Qe:CO 146 [.str [3],.str [1]] (.ret (.tup [.str [3],.str [],.bool true])):=cD aG (.c ja (.c gq7 (.c nK (.c V3 .nil))))
theorem aa0:CO 114 [Ω false [3] [1]] (.ret (.bool true)):=cD aG (.c tK (.c iO (.c Qe .nil)))
theorem aa1:CO 106 [.str [3],ω 4] (.ret (.tup [ω 3,.bool true])):=cD aG (.c VZ .nil)
theorem aa2:CO 104 [.str [1],.str [3]] (.ret (.str [3])):=cD aG (.c gq7 (.c aa1 (.c Hg .nil)))
theorem aa3:CO 146 [.str [1],.str [3]] (.ret (.tup [.str [],.str [1],.bool true])):=cD aG (.c iO (.c ja (.c V3 (.c nK .nil))))
theorem aa4:CO 64 [Ω false [1] [1],Ω false [3] [1]] (.ret (.tup [Ω false [1] [3],.bool true])):=cD aG (.c Qe (.c D8 (.c Qe (.c aa3 (.c aa2 (.c Hm (.c aa0 (.c Qc .nil))))))))
theorem V4:CO 147 [.str [4]] (.ret (.tup [ω 4,.bool true])):=cD aG (.nil)
theorem V5:CO 106 [.str [4],ω 7] (.ret (.tup [ω 4,.bool true])):=cD aG (.c V4 .nil)
theorem Qg:CO 146 [.str [4],.str [1]] (.ret (.tup [.str [4],.str [],.bool true])):=cD aG (.c ja (.c YR (.c nK (.c V5 .nil))))
theorem aa5:CO 114 [Ω false [4] [1]] (.ret (.bool true)):=cD aG (.c tK (.c iO (.c Qg .nil)))
theorem aa6:CO 106 [.str [4],ω 4] (.ret (.tup [ω 4,.bool true])):=cD aG (.c V4 .nil)
theorem aa7:CO 104 [.str [1],.str [4]] (.ret (.str [4])):=cD aG (.c YR (.c aa6 (.c Hg .nil)))
theorem aa8:CO 146 [.str [1],.str [4]] (.ret (.tup [.str [],.str [1],.bool true])):=cD aG (.c iO (.c ja (.c V5 (.c nK .nil))))
theorem aa9:CO 64 [Ω false [1] [1],Ω false [4] [1]] (.ret (.tup [Ω false [1] [4],.bool true])):=cD aG (.c Qg (.c D8 (.c Qg (.c aa8 (.c aa7 (.c Hm (.c aa5 (.c Qc .nil))))))))
theorem aa_:CO 59 [ω 1,ω 0] (.ret (.agg [.bool false,ω 1,ω 0])):=cD aG (.nil)
theorem V6:CO 25 [ω 0] (.ret (Ω false [] [1])):=cD aG (.c iO (.c ja .nil))
theorem Qh:CO 65 [ω 50] (.ret (.str [50])):=cD aG (.nil)
theorem Ld:CO 25 [ω 50] (.ret (Ω false [50] [1])):=cD aG (.c iO (.c Qh .nil))
theorem V7:CO 147 [.str [10]] (.ret (.tup [ω 10,.bool true])):=cD aG (.nil)
theorem Ak:CO 106 [.str [10],ω 7] (.ret (.tup [ω 10,.bool true])):=cD aG (.c V7 .nil)
theorem Le:CO 146 [.str [10],.str [1]] (.ret (.tup [.str [10],.str [],.bool true])):=cD aG (.c ja (.c JC (.c nK (.c Ak .nil))))
theorem V8:CO 114 [Ω false [10] [1]] (.ret (.bool true)):=cD aG (.c tK (.c iO (.c Le .nil)))
theorem V9:CO 147 [.str [50]] (.ret (.tup [ω 50,.bool true])):=cD aG (.nil)
theorem Ho:CO 106 [.str [50],ω 7] (.ret (.tup [ω 50,.bool true])):=cD aG (.c V9 .nil)
theorem aba:CO 146 [.str [50],.str [1]] (.ret (.tup [.str [50],.str [],.bool true])):=cD aG (.c ja (.c Qh (.c nK (.c Ho .nil))))
theorem Qi:CO 114 [Ω false [50] [1]] (.ret (.bool true)):=cD aG (.c tK (.c iO (.c aba .nil)))
theorem abb:CO 106 [.str [10],ω 3] (.ret (.tup [ω 10,.bool true])):=cD aG (.c V7 .nil)
theorem Qj:CO 104 [.str [10],.str [1]] (.ret (.str [10])):=cD aG (.c JC (.c Hl (.c abb .nil)))
theorem abd:CO 106 [.str [50],ω 4] (.ret (.tup [ω 50,.bool true])):=cD aG (.c V9 .nil)
theorem Qk:CO 104 [.str [1],.str [50]] (.ret (.str [50])):=cD aG (.c Qh (.c abd (.c Hg .nil)))
theorem V_:CO 146 [.str [10],.str [50]] (.ret (.tup [.str [],.str [10],.bool true])):=cD aG (.c JC (.c ja (.c Ho (.c Ak .nil))))
theorem Hq:CO 146 [.str [50],.str [10]] (.ret (.tup [.str [5],.str [],.bool true])):=cD aG (.c ja (.c Oj (.c Ak (.c Ho .nil))))
theorem We:CO 146 [.str [10],.str [10]] (.ret (.tup [.str [1],.str [],.bool true])):=cD aG (.c ja (.c iO (.c Ak (.c Ak .nil))))
theorem Wh:CO 64 [Ω false [10] [1],Ω false [50] [1]] (.ret (.tup [Ω false [1] [5],.bool true])):=cD aG (.c Hq (.c We (.c Hq (.c V_ (.c Qk (.c Qj (.c Qi (.c V8 .nil))))))))
theorem Wi:CO 146 [.str [10],.str [2]] (.ret (.tup [.str [5],.str [],.bool true])):=cD aG (.c ja (.c Oj (.c Hf (.c Ak .nil))))
theorem abe:CO 146 [.str [2],.str [2]] (.ret (.tup [.str [1],.str [],.bool true])):=cD aG (.c ja (.c iO (.c Hf (.c Hf .nil))))
theorem Lh:CO 64 [Ω false [10] [1],Ω false [2] [1]] (.ret (.tup [Ω false [5] [1],.bool true])):=cD aG (.c abe (.c Wi (.c Wi (.c VY (.c Qj (.c VX (.c V8 .nil)))))))
theorem abf:CO 114 [Ω false [] [1]] (.ret (.bool true)):=cD aG (.c tK (.c iO .nil))
theorem Wj:CO 147 [.str [5]] (.ret (.tup [ω 5,.bool true])):=cD aG (.nil)
theorem Lj:CO 106 [.str [5],ω 7] (.ret (.tup [ω 5,.bool true])):=cD aG (.c Wj .nil)
theorem Ql:CO 146 [.str [5],.str [1]] (.ret (.tup [.str [5],.str [],.bool true])):=cD aG (.c ja (.c Oj (.c nK (.c Lj .nil))))
theorem Qm:CO 114 [Ω false [5] [1]] (.ret (.bool true)):=cD aG (.c tK (.c iO (.c Ql .nil)))
theorem Wl:CO 147 [.str []] (.ret (.tup [ω 0,.bool true])):=cD aG (.nil)
theorem abg:CO 106 [.str [],ω 3] (.ret (.tup [ω 0,.bool true])):=cD aG (.c Wl .nil)
theorem abh:CO 104 [.str [],.str [1]] (.ret (.str [])):=cD aG (.c ja (.c Hl (.c abg .nil)))
theorem abj:CO 106 [.str [5],ω 3] (.ret (.tup [ω 5,.bool true])):=cD aG (.c Wj .nil)
theorem Qn:CO 104 [.str [5],.str [1]] (.ret (.str [5])):=cD aG (.c Oj (.c Hl (.c abj .nil)))
theorem abk:CO 106 [.str [],ω 7] (.ret (.tup [ω 0,.bool true])):=cD aG (.c Wl .nil)
theorem Wn:CO 101 [Ω false [] [1],Ω false [5] [1]] (.ret (Ω false [5] [1])):=cD aG (.c D8 (.c Ql (.c Ql (.c Oj (.c Lj (.c abk (.c Hm (.c Qn (.c abh (.c Qm (.c abf .nil)))))))))))
theorem abl:CO 147 [.str [9]] (.ret (.tup [ω 9,.bool true])):=cD aG (.nil)
theorem abm:CO 106 [.str [9],ω 7] (.ret (.tup [ω 9,.bool true])):=cD aG (.c abl .nil)
theorem abn:CO 25 [ω (-10)] (.ret (Ω true [10] [1])):=cD aG (.c iO (.c JC (.c nK (.c abm (.c iO (.c abq .nil))))))
theorem abo:CO 114 [Ω true [10] [1]] (.ret (.bool true)):=cD aG (.c tK (.c iO (.c Le .nil)))
theorem abp:CO 64 [Ω true [10] [1],Ω false [50] [1]] (.ret (.tup [Ω true [1] [5],.bool true])):=cD aG (.c Hq (.c We (.c Hq (.c V_ (.c Qk (.c Qj (.c Qi (.c abo .nil))))))))
theorem Wp:CO 101 [Ω false [5] [1],Ω false [5] [1]] (.ret (Ω false [10] [1])):=cD aG (.c D8 (.c Le (.c Le (.c JC (.c Lj (.c Lj (.c Hm (.c Qn (.c Qn (.c Qm (.c Qm .nil)))))))))))
theorem abr:CO 60 [.sl [ω 20,ω 9,ω 1,ω 0,ω 9,ω 1] 2 true] (.ret (.agg [.str zcc1_0,ω 1,ω 0,.sl [.bool false,.str [],.str [1],.bool false,.str [1],.str [5],.bool false,.str [5],.str [1],.bool true,.str [1],.str [5]] 2 true])):=cD aG (.c Wp (.c Lh (.c gq5 (.c JD (.c abp (.c Ld (.c abn (.c Wn (.c Lh (.c gq5 (.c JD (.c Wh (.c Ld (.c JD (.c V6 .nil)))))))))))))))
theorem Wq:CO 147 [.str [20]] (.ret (.tup [ω 20,.bool true])):=cD aG (.nil)
theorem Ll:CO 106 [.str [20],ω 7] (.ret (.tup [ω 20,.bool true])):=cD aG (.c Wq .nil)
theorem abt:CO 146 [.str [20],.str [1]] (.ret (.tup [.str [20],.str [],.bool true])):=cD aG (.c ja (.c UA (.c nK (.c Ll .nil))))
theorem abu:CO 114 [Ω false [20] [1]] (.ret (.bool true)):=cD aG (.c tK (.c iO (.c abt .nil)))
theorem abv:CO 106 [.str [20],ω 3] (.ret (.tup [ω 20,.bool true])):=cD aG (.c Wq .nil)
theorem abw:CO 104 [.str [20],.str [1]] (.ret (.str [20])):=cD aG (.c UA (.c Hl (.c abv .nil)))
theorem abx:CO 146 [.str [20],.str [50]] (.ret (.tup [.str [],.str [20],.bool true])):=cD aG (.c UA (.c ja (.c Ho (.c Ll .nil))))
theorem aby:CO 146 [.str [50],.str [20]] (.ret (.tup [.str [2],.str [10],.bool true])):=cD aG (.c JC (.c gq4 (.c Ll (.c Ho .nil))))
theorem Ws:CO 146 [.str [20],.str [10]] (.ret (.tup [.str [2],.str [],.bool true])):=cD aG (.c ja (.c gq4 (.c Ak (.c Ll .nil))))
theorem abz:CO 64 [Ω false [20] [1],Ω false [50] [1]] (.ret (.tup [Ω false [2] [5],.bool true])):=cD aG (.c Hq (.c Ws (.c Ws (.c aby (.c abx (.c Qk (.c abw (.c Qi (.c abu .nil)))))))))
theorem abA:CO 60 [.sl [ω 20,ω 9,ω 1,ω 30,ω 9,ω 1] 2 true] (.ret (.agg [.str zcc1_0,ω 1,ω 0,.sl [.bool false,.str [],.str [1],.bool false,.str [1],.str [5],.bool false,.str [5],.str [1],.bool false,.str [2],.str [5]] 2 true])):=cD aG (.c Wp (.c Lh (.c gq5 (.c JD (.c abz (.c Ld (.c abD (.c Wn (.c Lh (.c gq5 (.c JD (.c Wh (.c Ld (.c JD (.c V6 .nil)))))))))))))))
theorem MF (n:Nat) (h:n<41):CO 25 [ω ((n+1:Nat):Int)] (.ret (.agg [.bool false,.str [π (n+1)],.str [1]])):=by
 match n,h with
 |0,_=>exact gq2
 |1,_=>exact gq5
 |2,_=>exact gq8
 |3,_=>exact af1
 |4,_=>exact af2
 |5,_=>exact af5
 |6,_=>exact af7
 |7,_=>exact af9
 |8,_=>exact af_
 |9,_=>exact JD
 |10,_=>exact agb
 |11,_=>exact agd
 |12,_=>exact agf
 |13,_=>exact agi
 |14,_=>exact agk
 |15,_=>exact agm
 |16,_=>exact agp
 |17,_=>exact agr
 |18,_=>exact agt
 |19,_=>exact abD
 |20,_=>exact agv
 |21,_=>exact agx
 |22,_=>exact agz
 |23,_=>exact agC
 |24,_=>exact agE
 |25,_=>exact agG
 |26,_=>exact agI
 |27,_=>exact agK
 |28,_=>exact agM
 |29,_=>exact agO
 |30,_=>exact agQ
 |31,_=>exact agS
 |32,_=>exact agU
 |33,_=>exact aaI
 |34,_=>exact aaK
 |35,_=>exact aaM
 |36,_=>exact aaO
 |37,_=>exact aaQ
 |38,_=>exact aaS
 |39,_=>exact aaU
 |40,_=>exact aaW
 |n+41,h=>exact absurd h (by omega)
theorem YS:CO 64 [Ω false [1] [1],Ω false [2] [1]] (.ret (.tup [Ω false [1] [2],.bool true])):=aaZ
theorem YT:CO 64 [Ω false [1] [1],Ω false [3] [1]] (.ret (.tup [Ω false [1] [3],.bool true])):=aa4
theorem YU:CO 64 [Ω false [1] [1],Ω false [4] [1]] (.ret (.tup [Ω false [1] [4],.bool true])):=aa9
theorem vW:CO 59 [ω 1,ω 0] (.ret (.agg [.bool false,ω 1,ω 0])):=aa_
theorem XW:CO 60 [.sl [ω 20,ω 9,ω 1,ω 0,ω 9,ω 1] 2 true] (.ret (.agg [.str zcc1_0,ω 1,ω 0,.sl [.bool false,.str [],.str [1],.bool false,.str [1],.str [5],.bool false,.str [5],.str [1],.bool true,.str [1],.str [5]] 2 true])):=abr
theorem XX:CO 60 [.sl [ω 20,ω 9,ω 1,ω 30,ω 9,ω 1] 2 true] (.ret (.agg [.str zcc1_0,ω 1,ω 0,.sl [.bool false,.str [],.str [1],.bool false,.str [1],.str [5],.bool false,.str [5],.str [1],.bool false,.str [2],.str [5]] 2 true])):=abA
end Go.Proofs.Tryz
