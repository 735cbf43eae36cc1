/- Contracts of functions that the law reaches, each by its own hypotheses; joined by a program of mine. -/
import Derived.Test.YtokiomlellclkaaGreatDoorM5
import Derived.Test.YtokiomlellclkaaGreatDoorAp
import Derived.Test.YtokiomlellclkaaGreatDoorChecked
import Derived.Eval
set_option linter.unusedSimpArgs false
set_option linter.unusedVariables false
set_option maxRecDepth 100000
open Go
open Go.IntKind renaming wrap→δ
open Int renaming toNat→γ
open List renaming range→Xqf,flatMap_cons→Xqg,length_append→ο,length_cons→Θ,drop→θ,flatMap_append→Xqn,drop_left→Xzp,take→ξ,take_of_length_le→τ,append_nil→υ,take_left'→Xq8,drop_eq_nil_of_le→Xxf,length→ν,append_assoc→Ξ,nil_append→μ,length_nil→Xqj,getElem?_eq_getElem→ζ,getElem_mem→Xx1,length_range→Xjm,getElem?_append_right→Xqz,length_flatMap→Xzy,map_cons→χ,sum_cons→Xvg,all→Xw5,mem_cons→Xqu,nodup_append→Xx7,nodup_range→Xx2,mem_append→Xjo,map_nil→Xjd,map_map→Xz4,foldl_cons→Xqy,countP_eq_length_filter→Xzx,mem_filter→Xxa,foldl_nil→Xwa,tail_cons→Xkh,cons_append→Xqw,map_toArray→Xzs,mem_cons_self→Xqs,mem_cons_of_mem→Xql,mem_of_getElem?→Γ,length_filter_le→Xxr,filter_congr→Xzn,length_map→Xqv
open Nat renaming succ_mul→Xww,le_refl→ε,ble→Xqc,zero_add→Φ,sub_self→Xzf,zero_le→Xqp,not_lt_zero→Xwx,lt_of_le_of_lt→Xje,le_trans→Xqh,lt_succ_of_le→Xvp,lt_succ_self→Xwo
open Bool renaming or_eq_true→Xq7,and_eq_true→η,and_true→Xzh,false_eq_true→Xqi,eq_false_iff→Xjn
open Prod renaming ext→Xv8
open Option renaming toList→Xzw,map_some→Xqr,getD_some→Xq9,getD→Xjr
namespace AM
theorem dZ {x:Int} (h: -9223372036854775808≤x) (a:x<9223372036854775808):δ .i64 x=x:=by
 show (if (true && decide (x % 2^64≥2^63))=true then x % 2^64 - 2^64 else x % 2^64)=x;by_cases hx:x % 2^64≥2^63
 ·rw [if_pos (by simpa using hx)];omega
 ·rw [if_neg (by simpa using hx)];omega
theorem uo {a:Nat} (h:a<9223372036854775808):δ .i64 (a:Int)=(a:Int):=dZ (by omega) (by omega)
theorem Yd {a b:Nat} (h:a+b<9223372036854775808):δ .i64 ((a:Int)+(b:Int))=((a+b:Nat):Int):=by
 rw [dZ (by omega) (by omega)];omega
theorem Ye {a b:Nat} (h:a*b<9223372036854775808):δ .i64 ((a:Int)*(b:Int))=((a*b:Nat):Int):=by
 rw [← Int.natCast_mul,uo h]
theorem acn (k:IntKind) (a:k.signed=false) (x:Int):δ k x=x % 2^k.bits:=by
 show (if (k.signed && _)=true then _ else _)=_;rw [a];rfl
theorem VO {w:Nat} {k:IntKind} (c:k.signed=false) (b:k.bits=w) (a:Nat):δ k (a:Int)=((a % 2^w:Nat):Int):=by
 rw [acn k c,b];simp
theorem w8u (a:Nat):δ .u8 (a:Int)=((a % 256:Nat):Int):=VO (w:=8) rfl rfl a
theorem akn (a:Nat):δ .u64 (a:Int)=((a % 18446744073709551616:Nat):Int):=VO (w:=64) rfl rfl a
theorem Yw (a b:Nat):((a:Int)+(b:Int))=((a+b:Nat):Int):=(Int.natCast_add a b).symm
theorem aaU (a b:Nat):Int.tdiv (a:Int) (b:Int)=((a / b:Nat):Int):=(Int.ofNat_tdiv a b).symm
theorem aaV (a b:Nat):Int.tmod (a:Int) (b:Int)=((a % b:Nat):Int):=(Int.ofNat_tmod a b).symm
theorem acR (a n:Nat):Int.fdiv (a:Int) (2^n)=((a / 2^n:Nat):Int):=by
 have:((2:Int)^n)=((2^n:Nat):Int):=by simp
 rw [this,Int.fdiv_eq_ediv_of_nonneg _ (Int.natCast_nonneg _)];exact (Int.natCast_ediv _ _).symm
theorem aS (a:Nat):γ (a:Int)=a:=rfl
theorem Wq (a b:Nat):decide ((a:Int)≤(b:Int))=decide (a≤b):=by
 by_cases h:a≤b<;>simp [h]
theorem zV (a b:Nat):decide ((a:Int)<(b:Int))=decide (a<b):=by
 by_cases h:a<b<;>simp [h]
theorem d_eq (a b:Nat):decide ((a:Int)=(b:Int))=decide (a=b):=by
 by_cases h:a=b
 ·simp [h]
 ·rw [Yq1 h,Yq1 (by omega)]
theorem PZ (a b:Nat):((a:Int)==(b:Int))=decide (a=b):=d_eq a b
theorem Jn (b:Bool):lit true b=b:=rfl
theorem Jm (b:Bool):lit false b= !b:=rfl
theorem Oz (b:Bool):((!b)=true)=(b=false):=by cases b<;>simp
theorem IP (p:Prop) [Decidable p]:(decide p=true)=p:=by simp
theorem Nw (p:Prop) [Decidable p]:(decide p=false)=¬ p:=by simp
end AM
open Go AM
namespace Go.Proofs.Tryz
abbrev ψ (n:Nat) (f:Func):=af prog ap [] n (aj 0 (ae f))
theorem acM:(Xqf ap.nty).map ap.ty.get=(Xqf ap.nty).map (Vz prog):=by kernel_rfl
noncomputable def acK (i:Nat):Bool:=match ap.fn.get i with|some _=>true|_=>false
theorem acL:(Xqf ap.nfn).map (fun i=>(ap.fn.get i).map AF.fn)=(Xqf ap.nfn).map fun i=>match acK i with|true=>prog.funcs[i]? |false=>none:=by kernel_rfl
theorem V7:(Xqf ap.nfn).all (fun i=>BL (ap.fn.get i))=true:=by kernel_rfl
theorem acN:dF prog ap:=V8 acM (hm:=by kernel_rfl)
theorem aiG:Eo prog ap:=WN acL V7
theorem mixed:prog.follows .mixedOrders=true:=Tryz.checked.mixed
end Go.Proofs.Tryz
namespace Go.Proofs.Tryz
open Go AM
theorem jW:yO prog ap:=⟨acN,mixed,aiG⟩
abbrev CO (f:Nat) (args:List AV) (out:h_):Prop:=ah prog ap f args [] out []
theorem pK (c:List Nat) (n k:Nat) {ans:List (h_ × List aK)} {a:qQ} {hs:List oh} {bs:List Bool} {ps:List Prop} {f:Nat} {args:List AV} {h b:List aK} {out:h_} (d:kH bs) (hp:PS prog ap ps ans a hs)
  (he:Nq prog ap (vW prog ap 3000 4) 3000 c f args h a ⟨false,wE n k,[],[],ans,hs⟩= .ok (out,b,.dead) ⟨false,[],bs,ps,[],[]⟩:=by kernel_rfl):ah prog ap f args h out b:=pk jW c n k d hp he
theorem pJ (f:Nat) (c:List Nat) (n k:Nat) {nt nt0:Nat} {ans:List (h_ × List aK)} {b:qQ} {hs:List oh} {bs:List Bool} {ps:List Prop} {a:Code} {s s':St} {h0:List aK} {e:aV} (d:kH bs) (hp:PS prog ap ps ans b hs) (g:nt0≤nt)
  (he:L_ prog ap h0 f nt0 c a s b (wE n k) ans hs s'.env= .ok ((e,s'),[]) ⟨false,[],bs,ps,[],[]⟩:=by kernel_rfl):af prog ap h0 nt a s e s':=pj jW f c n k d hp g he
theorem pN (f:Nat) (c:List Nat) (n k:Nat) {nt nt0:Nat} {ans:List (h_ × List aK)} {b:qQ} {hs:List oh} {bs:List Bool} {ps:List Prop} {a:Code} {s s':St} {h0:List aK} {e:aV} (d:kH bs) (hp:PS prog ap ps ans b hs) (g:nt0≤nt)
  (he:L9 prog ap h0 f nt0 c a s b (wE n k) ans hs s'.env= .ok ((e,s'),[]) ⟨false,[],bs,ps,[],[]⟩:=by kernel_rfl):af prog ap h0 nt a s e s':=pn jW f c n k d hp g he
abbrev qP (a b c:AV) (d e:Nat) (f g:Int) (h:List AV):St:=⟨[(2,a),(7,b),(8,c),(9,.ref 0 0 0 d),(10,ω (e:Int)),(11,ω f),(12,ω g)],[(0,⟨h,0,false,0,1,true⟩)],.dead,[]⟩
abbrev yH (a:AV):St:=⟨[(4,a)],[],.dead,[]⟩
abbrev D9 (a b c:AV) (d e:Nat) (f:List AV):St:=⟨[(2,a),(7,b),(8,c),(9,.ref 0 0 0 d),(10,ω (e:Int))],[(0,⟨f,0,false,0,1,true⟩)],.dead,[]⟩
abbrev H_ (a b:AV) (c:Nat) (d:Int):St:=⟨[(5,a),(6,b),(11,ω (c:Int)),(12,ω d)],[],.dead,[]⟩
abbrev Ia (a b:AV) (c:Int):St:=⟨[(5,a),(6,b),(11,ω c)],[],.dead,[]⟩
abbrev Ib (a:Int) (b c:AV) (d e:Nat) (f:AV) (g:Int) (h i:List AV):St:=⟨[(1,ω a),(2,.ptr 0 0 0),(5,b),(6,c),(7,ω (d:Int)),(8,.ref 1 0 0 e),(9,f),(10,ω g)],[(0,⟨h,0,false,0,0,true⟩),(1,⟨i,0,false,0,1,true⟩)],.dead,[]⟩
abbrev Ic (a:AV) (b c:Nat) (d e f:List AV):St:=⟨[(0,a),(2,.ptr 0 0 0),(3,.ptr 1 0 0),(4,.ptr 2 0 0),(6,ω (b:Int)),(7,ω (c:Int))],[(0,⟨[.nilS,.nilS,.nilS],0,false,0,0,true⟩),(1,⟨[.bool false,ω 1,ω 0],0,false,0,0,true⟩),(2,⟨d,0,false,0,0,false⟩),(3,⟨[.str [120],.bool false,ω 1,ω 0],0,false,0,4,true⟩),(4,⟨e,0,false,0,4,true⟩),(5,⟨f,0,false,0,12,true⟩)],.dead,[]⟩
abbrev Kt (a:List UInt8) (b:Int):St:=⟨[(0,.str a),(3,ω b)],[],.dead,[]⟩
abbrev Ku (a:AV):St:=⟨[(6,a)],[],.dead,[]⟩
abbrev Kv (a:Int) (b:Nat) (c:List AV):St:=⟨[(1,ω a),(2,.ptr 0 0 0),(5,.nilS),(9,ω (b:Int))],[(0,⟨c,0,false,0,0,true⟩)],.dead,[]⟩
abbrev zM:St:=⟨[],[],.dead,[]⟩
abbrev D6 (a:Int) (b c:AV) (d:Nat) (e:List AV):St:=⟨[(1,ω a),(2,.ptr 0 0 0),(5,b),(6,c),(7,ω (d:Int))],[(0,⟨e,0,false,0,0,true⟩)],.dead,[]⟩
abbrev D7 (a b:AV) (c d:Nat) (e:Int):St:=⟨[(5,a),(6,b),(11,ω (c:Int)),(12,ω (d:Int)),(13,ω e)],[],.dead,[]⟩
abbrev D8 (a:Int) (b c d e:Nat) (f:List AV):St:=⟨[(1,ω a),(2,.ptr 0 0 0),(5,.nilS),(6,ω (b:Int)),(9,ω (c:Int)),(14,ω (d:Int)),(15,ω (e:Int))],[(0,⟨f,0,false,0,0,true⟩)],.dead,[]⟩
abbrev FU (a:AV) (b c:Nat) (d:List AV):St:=⟨[(0,a),(3,.ref 0 0 0 b),(4,ω (c:Int))],[(0,⟨d,0,false,0,2,true⟩)],.dead,[]⟩
abbrev FV (a:AV) (b:Nat) (c d:List AV):St:=⟨[(0,a),(2,.ptr 0 0 0),(3,.ptr 1 0 0),(4,.ptr 2 0 0),(5,.ptr 3 0 0),(6,ω (b:Int)),(7,ω 0),(8,.dead),(9,.dead),(10,.dead),(11,.dead),(12,.dead),(13,.dead),(14,.dead),(15,.dead),(39,.dead),(57,.dead),(69,.dead),(74,.dead),(89,.dead),(97,.dead),(115,.dead)],[(0,⟨[.nilS,.nilS,.nilS],0,false,0,0,true⟩),(1,⟨[.bool false,ω 1,ω 0],0,false,0,0,true⟩),(2,⟨[.ref 4 0 0 1,.ref 5 0 0 1,.nilS],0,false,0,0,false⟩),(3,⟨c,0,false,0,0,true⟩),(4,⟨[.str [120],.bool false,ω 1,ω 0],0,false,0,4,true⟩),(5,⟨d,0,false,0,4,true⟩)],.dead,[]⟩
abbrev Pn (a:List UInt8) (b c:Int):St:=⟨[(0,.str a),(4,ω b),(5,ω c)],[],.dead,[]⟩
abbrev Po (a b:List UInt8):St:=⟨[(0,.str a),(1,.str b)],[],.dead,[]⟩
abbrev Pq (a:Int) (b c:AV) (d e:Nat) (f g:List AV):St:=⟨[(1,ω a),(2,.ptr 0 0 0),(5,b),(6,c),(7,ω (d:Int)),(8,.ref 1 0 0 e)],[(0,⟨f,0,false,0,0,true⟩),(1,⟨g,0,false,0,1,true⟩)],.dead,[]⟩
abbrev Px (a:AV) (b:Int) (c d:AV) (e:Int) (f g h:AV) (i:List AV):St:=⟨[(0,a),(1,ω b),(2,.ptr 0 0 0),(4,c),(5,.nilS),(6,d),(7,.dead),(8,.dead),(9,ω e),(10,f),(14,g),(15,h),(16,.dead),(24,.dead)],[(0,⟨i,0,false,0,0,true⟩)],.dead,[]⟩
abbrev Py (a:Int) (b:AV) (c d:Nat) (e f:List AV):St:=⟨[(1,ω a),(2,.ptr 0 0 0),(5,.mr 1 0),(11,b),(12,ω (c:Int)),(13,ω (d:Int))],[(0,⟨e,0,false,0,0,true⟩),(1,⟨f,0,false,0,4611686018427387904,true⟩)],.dead,[]⟩
abbrev Pz (a:Nat) (b:List AV):St:=⟨[(2,.ref 0 0 0 a)],[(0,⟨b,0,false,0,2,true⟩)],.dead,[]⟩
abbrev PD (a:AV) (b:Nat):St:=⟨[(0,a),(3,.nilS),(4,ω (b:Int))],[],.dead,[]⟩
abbrev PE:St:=⟨[(3,.nilS)],[],.dead,[]⟩
abbrev PG (a:AV) (b c:Nat) (d:List AV):St:=⟨[(0,a),(2,.ptr 0 0 0),(3,.ptr 1 0 0),(4,.ptr 2 0 0),(6,ω (b:Int)),(7,ω (c:Int))],[(0,⟨[.nilS,.nilS,.nilS],0,false,0,0,true⟩),(1,⟨[.bool false,ω 1,ω 0],0,false,0,0,true⟩),(2,⟨[.ref 3 0 0 1,.ref 4 0 0 1,.nilS],0,false,0,0,false⟩),(3,⟨[.str [120],.bool false,ω 1,ω 0],0,false,0,4,true⟩),(4,⟨d,0,false,0,4,true⟩)],.dead,[]⟩
abbrev PH (a:List AV):St:=⟨[(2,.ptr 0 0 0),(4,.ptr 1 0 0)],[(0,⟨[.nilS,.nilS,.nilS],0,false,0,0,true⟩),(1,⟨[.ref 2 0 0 1,.ref 3 0 0 1,.nilS],0,false,0,0,false⟩),(2,⟨[.str [120],.bool false,ω 1,ω 0],0,false,0,4,true⟩),(3,⟨a,0,false,0,4,true⟩)],.dead,[]⟩
abbrev PI (a b c:List AV):St:=⟨[(2,.ptr 0 0 0),(4,.ptr 1 0 0)],[(0,⟨[.nilS,.nilS,.nilS],0,false,0,0,true⟩),(1,⟨a,0,false,0,0,false⟩),(2,⟨[.str [120],.bool false,ω 1,ω 0],0,false,0,4,true⟩),(3,⟨b,0,false,0,4,true⟩),(4,⟨c,0,false,0,12,true⟩)],.dead,[]⟩
abbrev PK (a:List AV):St:=⟨[(3,.ptr 0 0 0),(4,.mr 1 0)],[(0,⟨[.sl [.str [98]] 1 true,.nilS,.sl [.str [97]] 1 true],0,false,0,0,true⟩),(1,⟨a,0,false,0,4611686018427387904,true⟩)],.dead,[]⟩
abbrev Vh (a:AV) (b:Nat) (c:List AV):St:=⟨[(7,a),(9,.ref 0 0 0 b)],[(0,⟨c,0,false,0,1,true⟩)],.dead,[]⟩
abbrev Vj (a:List AV):St:=⟨[(5,.mr 0 0)],[(0,⟨a,0,false,0,4611686018427387904,true⟩)],.dead,[]⟩
abbrev Vk (a:List AV):St:=⟨[(4,.mr 0 0)],[(0,⟨a,0,false,0,4611686018427387904,true⟩)],.dead,[]⟩
abbrev Vl (a b c d:List AV):St:=⟨[],[(0,⟨[.mr 5 0],0,false,0,0,false⟩),(1,⟨a,0,false,0,0,true⟩),(2,⟨b,0,false,0,0,true⟩),(3,⟨[.mr 6 0],0,false,0,0,false⟩),(4,⟨[.fn 56 [] [.ptr 0 0 0,.ptr 1 0 0,.ptr 2 0 0,.ptr 3 0 0,.ptr 4 0 0]],0,false,0,0,false⟩),(5,⟨c,0,false,0,4611686018427387904,true⟩),(6,⟨d,0,false,0,4611686018427387904,true⟩)],.dead,[]⟩
abbrev Vm (a b:Nat) (c d:List AV):St:=⟨[(0,.ref 0 0 0 a),(5,ω (b:Int))],[(0,⟨c,0,false,0,2,true⟩),(1,⟨[.mr 2 0],0,false,0,0,false⟩),(2,⟨d,0,false,0,4611686018427387904,true⟩)],.dead,[]⟩
abbrev Vo (a b c:List AV):St:=⟨[(3,.ptr 0 0 0),(4,.ptr 1 0 0),(13,.ptr 2 0 0)],[(0,⟨a,0,false,0,0,true⟩),(1,⟨b,0,false,0,0,true⟩),(2,⟨[.mr 3 0],0,false,0,0,false⟩),(3,⟨c,0,false,0,4611686018427387904,true⟩)],.dead,[]⟩
abbrev Vp (a:Nat) (b:AV) (c:Int) (d e f g h:AV) (i:List AV):St:=⟨[(0,.ref 0 0 0 a),(2,b),(3,ω c),(4,d),(5,e),(8,f),(13,g),(25,h),(32,.dead),(44,.dead)],[(0,⟨i,0,false,0,2,true⟩)],.dead,[]⟩
abbrev Vq (a:Nat) (b:List AV):St:=⟨[(3,.ref 0 0 0 a)],[(0,⟨b,0,false,0,2,true⟩)],.dead,[]⟩
abbrev Vr (a:AV) (b c:Nat) (d e f:List AV):St:=⟨[(0,a),(2,.ptr 0 0 0),(3,.ptr 1 0 0),(4,.ptr 2 0 0),(6,ω (b:Int)),(7,ω (c:Int)),(8,.ptr 3 0 0),(9,.ptr 4 0 0)],[(0,⟨[.nilS,.nilS,.nilS],0,false,0,0,true⟩),(1,⟨[.bool false,ω 1,ω 0],0,false,0,0,true⟩),(2,⟨[.ref 5 0 0 1,.ref 6 0 0 1,.nilS],0,false,0,0,false⟩),(3,⟨d,0,false,0,0,true⟩),(4,⟨e,0,false,0,0,true⟩),(5,⟨[.str [120],.bool false,ω 1,ω 0],0,false,0,4,true⟩),(6,⟨f,0,false,0,4,true⟩)],.dead,[]⟩
abbrev Vs (a:AV) (b c:Nat) (d e f g h:List AV):St:=⟨[(0,a),(2,.ptr 0 0 0),(3,.ptr 1 0 0),(4,.ptr 2 0 0),(6,ω (b:Int)),(7,ω (c:Int)),(8,.ptr 3 0 0),(9,.ptr 4 0 0)],[(0,⟨[.nilS,.nilS,.nilS],0,false,0,0,true⟩),(1,⟨[.bool false,ω 1,ω 0],0,false,0,0,true⟩),(2,⟨d,0,false,0,0,false⟩),(3,⟨e,0,false,0,0,true⟩),(4,⟨f,0,false,0,0,true⟩),(5,⟨[.str [120],.bool false,ω 1,ω 0],0,false,0,4,true⟩),(6,⟨g,0,false,0,4,true⟩),(7,⟨h,0,false,0,12,true⟩)],.dead,[]⟩
abbrev aak (a:List UInt8) (b:Bool):St:=⟨[(0,.str a),(2,ω 0),(3,.bool false),(4,ω 0),(5,ω 0),(20,.bool b),(24,.dead)],[],.dead,[]⟩
abbrev aal (a:Int) (b c:AV) (d e:Nat) (f:AV) (g h:List AV):St:=⟨[(1,ω a),(2,.ptr 0 0 0),(5,b),(6,c),(7,ω (d:Int)),(8,.ref 1 0 0 e),(9,f)],[(0,⟨g,0,false,0,0,true⟩),(1,⟨h,0,false,0,1,true⟩)],.dead,[]⟩
abbrev aam:St:=⟨[(6,.ptr 0 0 0)],[(0,⟨[.bool false,ω 0,ω 0],0,false,0,0,true⟩)],.dead,[]⟩
abbrev aan (a:AV) (b:Int) (c:List UInt8):St:=⟨[(0,a),(1,ω b),(2,.str c),(6,.ptr 0 0 0),(7,.bool false),(8,ω 0),(9,.dead),(13,.dead),(48,.dead)],[(0,⟨[.bool false,ω 0,ω 0],0,false,0,0,true⟩)],.dead,[]⟩
abbrev aao (a:Int) (b:AV) (c d:Nat) (e f:List AV):St:=⟨[(1,ω a),(3,.ptr 0 0 0),(5,.ptr 1 0 0),(7,.nilS),(23,b),(24,ω (c:Int)),(25,ω (d:Int))],[(0,⟨e,0,false,0,0,true⟩),(1,⟨f,0,false,0,0,true⟩)],.dead,[]⟩
abbrev aap (a:AV) (b:Int) (c:AV) (d:Bool) (e:AV) (f:Nat) (g h:List AV):St:=⟨[(0,a),(1,ω b),(2,c),(3,.ptr 0 0 0),(5,.ptr 1 0 0),(6,.nilS),(7,.nilS),(9,.dead),(10,.dead),(11,.dead),(16,.bool d),(23,e),(24,ω (f:Int)),(25,ω 0),(26,.dead),(36,.dead),(39,.dead),(50,.dead)],[(0,⟨g,0,false,0,0,true⟩),(1,⟨h,0,false,0,0,true⟩)],.dead,[]⟩
abbrev aaq (a:Int) (b c:Nat) (d e:List AV):St:=⟨[(1,ω a),(2,.ptr 0 0 0),(5,.ref 1 0 0 b),(9,ω (c:Int))],[(0,⟨d,0,false,0,0,true⟩),(1,⟨e,0,false,0,2,true⟩)],.dead,[]⟩
abbrev aar (a b:Nat) (c d:List AV):St:=⟨[(0,.ref 0 0 0 a),(1,.fn 58 [] [.ptr 1 0 0]),(4,ω 0),(5,.dead),(7,ω (b:Int)),(8,ω 0),(9,.dead),(16,.dead)],[(0,⟨c,0,false,0,2,true⟩),(1,⟨[.mr 2 0],0,false,0,0,false⟩),(2,⟨d,0,false,0,4611686018427387904,true⟩)],.dead,[]⟩
abbrev aas (a b:AV) (c:Nat):St:=⟨[(0,a),(1,b),(4,ω 0),(5,.dead),(7,ω (c:Int)),(8,ω 0),(9,.dead),(16,.dead)],[],.dead,[]⟩
abbrev aat (a:AV) (b c:List AV):St:=⟨[(2,a),(3,.ptr 0 0 0),(4,.ptr 1 0 0)],[(0,⟨b,0,false,0,0,true⟩),(1,⟨c,0,false,0,0,true⟩)],.dead,[]⟩
abbrev aau (a:AV) (b c d:List AV):St:=⟨[(2,a),(3,.ptr 0 0 0),(4,.ptr 1 0 0),(7,.mr 2 0)],[(0,⟨b,0,false,0,0,true⟩),(1,⟨c,0,false,0,0,true⟩),(2,⟨d,0,false,0,4611686018427387904,true⟩)],.dead,[]⟩
abbrev aav (a b:AV) (c:Nat) (d e f:List AV):St:=⟨[(0,.dead),(1,.dead),(2,a),(3,.ptr 0 0 0),(4,.ptr 1 0 0),(6,.dead),(7,.dead),(8,.ptr 2 0 0),(9,.dead),(10,.dead),(12,.dead),(13,.ptr 3 0 0),(14,.ptr 4 0 0),(16,.dead),(22,.dead),(24,.dead),(28,.dead),(29,.dead),(30,.dead),(31,.dead),(45,b),(46,ω (c:Int)),(47,ω 0),(48,.dead)],[(0,⟨d,0,false,0,0,true⟩),(1,⟨e,0,false,0,0,true⟩),(2,⟨[.mr 5 0],0,false,0,0,false⟩),(3,⟨[.mr 6 0],0,false,0,0,false⟩),(4,⟨[.fn 56 [] [.ptr 3 0 0,.ptr 0 0 0,.ptr 1 0 0,.ptr 2 0 0,.ptr 4 0 0]],0,false,0,0,false⟩),(5,⟨f,0,false,0,4611686018427387904,true⟩),(6,⟨[.agg [],.agg []],0,false,0,4611686018427387904,true⟩)],.dead,[]⟩
abbrev aaw (a:AV) (b c d:List AV):St:=⟨[(2,a),(3,.ptr 0 0 0),(4,.ptr 1 0 0),(8,.ptr 3 0 0)],[(3,⟨[.mr 4 0],0,false,0,0,false⟩),(4,⟨b,0,false,0,4611686018427387904,true⟩),(0,⟨c,0,false,0,0,true⟩),(1,⟨d,0,false,0,0,true⟩)],.dead,[]⟩
abbrev aax (a b c:Nat) (d:List AV):St:=⟨[(0,.ref 0 0 0 a),(1,ω 0),(2,ω (b:Int)),(3,.fn 41 [] []),(8,ω (c:Int))],[(0,⟨d,0,false,0,2,true⟩)],.dead,[]⟩
abbrev aay (a b:Nat) (c:Int) (d e:AV) (f:List AV):St:=⟨[(0,.ref 0 0 0 a),(1,ω 0),(2,ω (b:Int)),(3,.fn 41 [] []),(8,ω c),(9,d),(14,e),(34,.dead)],[(0,⟨f,0,false,0,2,true⟩)],.dead,[]⟩
abbrev aaz (a:AV) (b c:Nat) (d:Bool) (e:Nat) (f g:Bool) (h i j:List AV):St:=⟨[(0,a),(2,.ptr 0 0 0),(3,.ptr 1 0 0),(4,.ptr 2 0 0),(5,.dead),(6,ω (b:Int)),(7,ω (c:Int)),(8,.ptr 3 0 0),(9,.ptr 4 0 0),(10,.bool d),(11,ω (e:Int)),(12,ω 0),(13,.dead),(14,.dead),(15,.dead),(39,.bool f),(57,.bool g),(69,.dead),(74,.dead),(89,.dead),(97,.dead),(115,.dead)],[(0,⟨[.nilS,.nilS,.nilS],0,false,0,0,true⟩),(1,⟨[.bool false,ω 1,ω 0],0,false,0,0,true⟩),(2,⟨[.ref 5 0 0 1,.ref 6 0 0 1,.nilS],0,false,0,0,false⟩),(3,⟨h,0,false,0,0,true⟩),(4,⟨i,0,false,0,0,false⟩),(5,⟨[.str [120],.bool false,ω 1,ω 0],0,false,0,4,true⟩),(6,⟨j,0,false,0,4,true⟩),(7,⟨[ω 5,.bool false,.str [],.str [],.str [120]],0,false,0,5,true⟩)],.dead,[]⟩
abbrev aaA (a:AV) (b c:Nat) (d:Bool) (e:Nat) (f g:Bool) (h i j k l:List AV):St:=⟨[(0,a),(2,.ptr 0 0 0),(3,.ptr 1 0 0),(4,.ptr 2 0 0),(5,.dead),(6,ω (b:Int)),(7,ω (c:Int)),(8,.ptr 3 0 0),(9,.ptr 4 0 0),(10,.bool d),(11,ω (e:Int)),(12,ω 0),(13,.dead),(14,.dead),(15,.dead),(39,.bool f),(57,.bool g),(69,.dead),(74,.dead),(89,.dead),(97,.dead),(115,.dead)],[(0,⟨[.nilS,.nilS,.nilS],0,false,0,0,true⟩),(1,⟨[.bool false,ω 1,ω 0],0,false,0,0,true⟩),(2,⟨h,0,false,0,0,false⟩),(3,⟨i,0,false,0,0,true⟩),(4,⟨j,0,false,0,0,false⟩),(5,⟨[.str [120],.bool false,ω 1,ω 0],0,false,0,4,true⟩),(6,⟨k,0,false,0,4,true⟩),(7,⟨l,0,false,0,12,true⟩),(8,⟨[ω 5,.bool false,.str [],.str [],.str [120]],0,false,0,5,true⟩)],.dead,[]⟩
abbrev aaB:St:=⟨[(1,.ptr 0 0 0)],[(0,⟨[.sl [.str [98],.bool false,ω 0,ω 0] 1 true,.nilS,.sl [.str [97],.bool false,ω 0,ω 0,.sl [ω 5,.bool false,.str [],.str [],.str [98]] 1 true,.bool false,.bool false,.str [1],.str [1],.bool false,.str [9],.str [1]] 1 true],0,false,0,0,true⟩)],.dead,[]⟩
abbrev aaC (a b:Nat) (c d:List AV):St:=⟨[(1,.ptr 0 0 0),(3,.ref 1 0 0 a),(5,ω (b:Int))],[(0,⟨c,0,false,0,0,true⟩),(1,⟨d,0,false,0,5,true⟩)],.dead,[]⟩
abbrev LB (n b:Nat) (f:Func):St→aV→St→Prop:=bD prog ap [] n (.block b (.loop (aj b (ae f))))
end Go.Proofs.Tryz
set_option maxRecDepth 100000
set_option linter.unusedVariables false
open Go AM
namespace AM
variable {P:Program} {ap:AP}
theorem aP.goD {α σ β:Type} {h0:List aK} {nt:Nat} {b:Code} {e:β→aV} {st:Nat × σ→St} {out:β→St} (F:σ→α→σ ⊕ β) (a:σ→β) (L:List α) (Inv:List α→σ→Prop)
  (hstep:∀ p x r s,L=p++x::r→Inv p s→(∃ s',F s x= .inl s'∧af P ap h0 nt b (st (p.length,s)) .normal (st (p.length+1,s'))∧Inv (p++ [x]) s')∨∃ q,F s x= .inr q∧af P ap h0 nt b (st (p.length,s)) (e q) (out q))
  (hend:∀ s,Inv L s→af P ap h0 nt b (st (L.length,s)) (e (a s)) (out (a s))) (s:σ) (h:Inv [] s):aP P ap h0 nt b e st out (0,s) (AM.goL F a L s):=by
 refine aP.goL F a L Inv ?_ hend L [] s rfl h;intro p x r s f g;rcases hstep p x r s f g with ⟨s',c,d,i⟩|⟨q,c,d⟩
 ·rw [c];exact ⟨d,i⟩
 ·rw [c];exact d
end AM
namespace Go.Proofs.Tryz
theorem eX {α:Type} {f:α→List AV} {n:Nat} (a:∀ x,(f x).length=n) (l:List α):(l.flatMap f).length=l.length*n:=by
 induction l with
 |nil=>simp
 |cons x r ih=>rw [Xqg,ο,ih,a,Θ,Xww];omega
theorem dS {α:Type} {f:α→List AV} {n:Nat} (a:∀ x,(f x).length=n) {p r l:List α} {x:α} (h:l=p++x::r):θ (γ (p.length:Int)*n) (l.flatMap f)=f x++r.flatMap f:=by
 subst h;rw [aS,Xqn,← eX a p,Xzp,Xqg]
theorem NJ {α:Type} {f:α→List AV} {n:Nat} (b:∀ x,(f x).length=n) {l:List α} {k:Nat} {x:α} (h:l[k]? =some x):θ (γ (k:Int)*n) (l.flatMap f)=f x++(l.drop (k+1)).flatMap f:=by
 have d:k<l.length:=(List.getElem?_eq_some_iff.1 h).1;have e:l=l.take k++x::l.drop (k+1):=by
  have c:l[k]=x:=(List.getElem?_eq_some_iff.1 h).2;rw [← c,← List.drop_eq_getElem_cons d,List.take_append_drop]
 have a:(l.take k).length=k:=by rw [List.length_take];omega
 have:=dS b (p:=l.take k) e;rwa [a] at this
theorem fE {α:Type} {f:α→List AV} {n:Nat} (a:∀ x,(f x).length=n) (l:List α) (x:α) {k:Nat} (h:l.length=k):ξ (k*n) (l.flatMap f)++f x=(l++ [x]).flatMap f:=by
 rw [τ (by rw [eX a,h];exact ε _),Xqn,Xqg,List.flatMap_nil,υ]
theorem k0 (k:Nat):decide (((0:Nat):Int)≤(k:Int))=true:=Yq0 (by omega)
theorem kl {k n:Nat} (h:k<n):decide ((k:Int)<(n:Int))=true:=Yq0 (by omega)
theorem kn {k n:Nat} (h:n≤k):decide ((k:Int)<(n:Int))=false:=Yq1 (by omega)
theorem nT {α:Type} {p r l:List α} {x:α} (h:l=p++x::r):p.length<l.length:=by subst h;simp
theorem wpS {k:Nat} (h:k<2^62):ω (δ .i64 ((k:Int)+((1:Nat):Int)))= ω ((k+1:Nat):Int):=by
 have e:δ .i64 ((k:Int)+((1:Nat):Int))=((k+1:Nat):Int):=by rw [dZ]<;>omega
 rw [e]
theorem b_ (l:List Cl):(cL l).length=l.length*2:=eX (n:=2) (fun _=>rfl) l
structure Nd where
 op:Int
 neg:Bool
 num:List UInt8
 den:List UInt8
 name:List UInt8
def Qy (x:Nd):List AV:= [ω x.op,.bool x.neg,.str x.num,.str x.den,.str x.name]
def bV (l:List Nd):List AV:=l.flatMap Qy
theorem nd5 (x:Nd):(Qy x).length=5:=rfl
structure Pv where
 nm:List UInt8
 tr:Bool
 tm:Int
 td:Int
 body:List Nd
 ch:Bool
 sn:Bool
 sa:List UInt8
 sd:List UInt8
 cn:Bool
 ca:List UInt8
 cd:List UInt8
def xn (x:Pv):List AV:= [.str x.nm,.bool x.tr,ω x.tm,ω x.td,.sl (bV x.body) x.body.length false,.bool x.ch,.bool x.sn,.str x.sa,.str x.sd,.bool x.cn,.str x.ca,.str x.cd]
def bJ (l:List Pv):List AV:=l.flatMap xn
theorem Ul (x:Pv):(xn x).length=12:=rfl
structure Lw where
 fx:List AV
 fn:Nat
 sx:List AV
 sn:Nat
 ps:List Pv
abbrev Lw.c (L:Lw) (a b c:Bool):List AV:= [.sl L.fx L.fn a,.sl L.sx L.sn b,.sl (bJ L.ps) L.ps.length c]
end Go.Proofs.Tryz
set_option maxRecDepth 100000
set_option linter.unusedVariables false
open Go AM
namespace Go.Proofs.Tryz
theorem yw (x:Int):CO 142 [ω x] (.ret (.bool false)):=by
 have h:CO 142 [ω x] (.ret (.bool (!(x==x)))):=pK [] 0 0 .nil .nil;rwa [show (!(x==x))=false by simp] at h
def Es (x y:Int):Int:=if x<y then -1 else if y<x then 1 else 0
theorem aa2 (x y:Int):CO 93 [ω x,ω y] (.ret (ω (Es x y))):=by
 rcases tf (decide (x<y)) with b0|b0
 ·have e:Es x y=(-1):=by
   simp only [decide_eq_true_eq,decide_eq_false_iff_not] at b0;simp only [Es]
   first|(rw [if_pos (by omega)];done)|(rw [if_neg (by omega),if_pos (by omega)];done)|(rw [if_neg (by omega),if_neg (by omega)];done)
  rw [e];exact pK [] 3 4 (.c (ak b0) (.n 2 .nil)) (.c (yw y) (.c (yw x) .nil))
 ·rcases tf (decide (y<x)) with b1|b1
  ·have e:Es x y=1:=by
    simp only [decide_eq_true_eq,decide_eq_false_iff_not] at b0 b1;simp only [Es]
    first|(rw [if_pos (by omega)];done)|(rw [if_neg (by omega),if_pos (by omega)];done)|(rw [if_neg (by omega),if_neg (by omega)];done)
   rw [e];exact pK [] 4 8 (.c (ak b1) (.c (au b0) (.n 2 .nil))) (.c (yw y) (.c (yw x) .nil))
  ·have e:Es x y=0:=by
    simp only [decide_eq_true_eq,decide_eq_false_iff_not] at b0 b1;simp only [Es]
    first|(rw [if_pos (by omega)];done)|(rw [if_neg (by omega),if_pos (by omega)];done)|(rw [if_neg (by omega),if_neg (by omega)];done)
   rw [e];exact pK [] 4 0 (.c (au b1) (.c (au b0) (.n 2 .nil))) (.c (yw y) (.c (yw x) .nil))
theorem aeD (x y:Int):CO 92 [.sl [ω x,ω y] 2 true] (.ret (ω (if x=0 then y else x))):=by
 rcases tf (x==((0:Nat):Int)) with b0|b0
 ·rcases tf (y==((0:Nat):Int)) with b1|b1
  ·have e:(if x=0 then y else x)=0:=by
    simp only [beq_iff_eq,Yq2] at b0 b1;split<;>simp_all
   rw [e];exact pK [] 5 5 (.k 1 (dV b1) (.k 4 (dV b0) (.n 4 .nil))) (.nil)
  ·have e:(if x=0 then y else x)=y:=by
    simp only [beq_iff_eq,Yq2] at b0 b1;split<;>simp_all
   rw [e];exact pK [] 4 13 (.c (fZ b1) (.k 4 (dV b0) (.n 4 .nil))) (.nil)
 ·have e:(if x=0 then y else x)=x:=by
   simp only [beq_iff_eq,Yq2] at b0;split<;>simp_all
  rw [e];exact pK [] 2 3 (.c (fZ b0) (.n 4 .nil)) (.nil)
def mP (c:Cl):Prop:=0≤c.1∧c.1≤1
def ut (c d:Cl):Bool:=decide (c.1<d.1)||((c.1==d.1) && decide (c.2<d.2))
theorem BA (c d:Cl) (b:mP c) (e:mP d):∃ r:Int,decide (r<((0:Nat):Int))=ut c d∧CO 41 [cA c,cA d] (.ret (ω r)):=by
 obtain ⟨i,f⟩:=b;obtain ⟨j,g⟩:=e;have a:ω (δ .i64 (c.1 - d.1))= ω (c.1 - d.1):=by rw [dZ]<;>omega
 refine ⟨if c.1 - d.1=0 then Es c.2 d.2 else c.1 - d.1, ?_,pK [] 0 0 (.n 4 .nil) (.c (aeD (c.1 - d.1) (Es c.2 d.2)) (.c (aa2 c.2 d.2) (.v 9 (.eq a) .nil)))⟩;unfold ut Es;by_cases h:c.1=d.1
 ·rw [if_pos (by omega),h];simp;split
  ·simp [*]
  ·split<;>simp [*]
 ·rw [if_neg (by omega)];have:(c.1==d.1)=false:=by simp [h]
  rw [this];simp;omega
def aH (s n:Int) (x:Cl):Bool:=((s==1)||(s==2)) && (decide (0≤x.1) && (decide (x.1<s) && (decide (0≤x.2) && decide (x.2<n))))
theorem mG (L:Lw) (a b c:Bool) (s:Int) (x:Cl):CO 38 [.agg (L.c a b c),ω s,cA x] (.ret (.bool (aH s L.ps.length x))):=by
 rcases tf (s==((1:Nat):Int)) with b0|b0
 ·rcases tf (decide (((0:Nat):Int)≤x.1)) with b1|b1
  ·rcases tf (decide (x.1<s)) with b2|b2
   ·rcases tf (decide (((0:Nat):Int)≤x.2)) with b3|b3
    ·have e:aH s L.ps.length x=(decide (x.2<(L.ps.length:Int))):=by
      unfold aH;have i:(((0:Nat):Int))=0:=rfl;have h:(((1:Nat):Int))=1:=rfl;have j:(((2:Nat):Int))=2:=rfl;have f:=b0;(try simp only [i,h,j] at f);rw [f];have d:=b1;(try simp only [i,h,j] at d);rw [d];have g:=b2;(try simp only [i,h,j] at g);rw [g];have k:=b3;(try simp only [i,h,j] at k);rw [k]
      first|rfl|simp
     rw [e];exact pK [] 5 31 (.k 2 (ak b3) (.k 1 (ak b2) (.k 1 (ak b1) (.k 2 (ak b0) .nil)))) (.nil)
    ·have e:aH s L.ps.length x=false:=by
      unfold aH;have i:(((0:Nat):Int))=0:=rfl;have h:(((1:Nat):Int))=1:=rfl;have j:(((2:Nat):Int))=2:=rfl;have f:=b0;(try simp only [i,h,j] at f);rw [f];have d:=b1;(try simp only [i,h,j] at d);rw [d];have g:=b2;(try simp only [i,h,j] at g);rw [g];have k:=b3;(try simp only [i,h,j] at k);rw [k]
      first|rfl|simp
     rw [e];exact pK [] 5 15 (.c (au b3) (.k 1 (ak b2) (.k 1 (ak b1) (.k 2 (ak b0) .nil)))) (.nil)
   ·have e:aH s L.ps.length x=false:=by
     unfold aH;have i:(((0:Nat):Int))=0:=rfl;have h:(((1:Nat):Int))=1:=rfl;have j:(((2:Nat):Int))=2:=rfl;have f:=b0;(try simp only [i,h,j] at f);rw [f];have d:=b1;(try simp only [i,h,j] at d);rw [d];have g:=b2;(try simp only [i,h,j] at g);rw [g]
     first|rfl|simp
    rw [e];exact pK [] 5 7 (.k 1 (au b2) (.k 1 (ak b1) (.k 2 (ak b0) .nil))) (.nil)
  ·have e:aH s L.ps.length x=false:=by
    unfold aH;have i:(((0:Nat):Int))=0:=rfl;have h:(((1:Nat):Int))=1:=rfl;have j:(((2:Nat):Int))=2:=rfl;have f:=b0;(try simp only [i,h,j] at f);rw [f];have d:=b1;(try simp only [i,h,j] at d);rw [d]
    first|rfl|simp
   rw [e];exact pK [] 5 3 (.k 2 (au b1) (.k 2 (ak b0) .nil)) (.nil)
 ·rcases tf (s==((2:Nat):Int)) with b1|b1
  ·rcases tf (decide (((0:Nat):Int)≤x.1)) with b2|b2
   ·rcases tf (decide (x.1<s)) with b3|b3
    ·rcases tf (decide (((0:Nat):Int)≤x.2)) with b4|b4
     ·have e:aH s L.ps.length x=(decide (x.2<(L.ps.length:Int))):=by
       unfold aH;have i:(((0:Nat):Int))=0:=rfl;have h:(((1:Nat):Int))=1:=rfl;have j:(((2:Nat):Int))=2:=rfl;have f:=b0;(try simp only [i,h,j] at f);rw [f];have d:=b1;(try simp only [i,h,j] at d);rw [d];have g:=b2;(try simp only [i,h,j] at g);rw [g];have k:=b3;(try simp only [i,h,j] at k);rw [k];have l:=b4;(try simp only [i,h,j] at l);rw [l]
       first|rfl|simp
      rw [e];exact pK [] 5 30 (.k 2 (ak b4) (.k 1 (ak b3) (.k 1 (ak b2) (.k 1 (ak b1) (.c (au b0) .nil))))) (.nil)
     ·have e:aH s L.ps.length x=false:=by
       unfold aH;have i:(((0:Nat):Int))=0:=rfl;have h:(((1:Nat):Int))=1:=rfl;have j:(((2:Nat):Int))=2:=rfl;have f:=b0;(try simp only [i,h,j] at f);rw [f];have d:=b1;(try simp only [i,h,j] at d);rw [d];have g:=b2;(try simp only [i,h,j] at g);rw [g];have k:=b3;(try simp only [i,h,j] at k);rw [k];have l:=b4;(try simp only [i,h,j] at l);rw [l]
       first|rfl|simp
      rw [e];exact pK [] 5 14 (.c (au b4) (.k 1 (ak b3) (.k 1 (ak b2) (.k 1 (ak b1) (.c (au b0) .nil))))) (.nil)
    ·have e:aH s L.ps.length x=false:=by
      unfold aH;have i:(((0:Nat):Int))=0:=rfl;have h:(((1:Nat):Int))=1:=rfl;have j:(((2:Nat):Int))=2:=rfl;have f:=b0;(try simp only [i,h,j] at f);rw [f];have d:=b1;(try simp only [i,h,j] at d);rw [d];have g:=b2;(try simp only [i,h,j] at g);rw [g];have k:=b3;(try simp only [i,h,j] at k);rw [k]
      first|rfl|simp
     rw [e];exact pK [] 5 6 (.k 1 (au b3) (.k 1 (ak b2) (.k 1 (ak b1) (.c (au b0) .nil)))) (.nil)
   ·have e:aH s L.ps.length x=false:=by
     unfold aH;have i:(((0:Nat):Int))=0:=rfl;have h:(((1:Nat):Int))=1:=rfl;have j:(((2:Nat):Int))=2:=rfl;have f:=b0;(try simp only [i,h,j] at f);rw [f];have d:=b1;(try simp only [i,h,j] at d);rw [d];have g:=b2;(try simp only [i,h,j] at g);rw [g]
     first|rfl|simp
    rw [e];exact pK [] 5 2 (.k 2 (au b2) (.k 1 (ak b1) (.c (au b0) .nil))) (.nil)
  ·have e:aH s L.ps.length x=false:=by
    unfold aH;have i:(((0:Nat):Int))=0:=rfl;have h:(((1:Nat):Int))=1:=rfl;have j:(((2:Nat):Int))=2:=rfl;have f:=b0;(try simp only [i,h,j] at f);rw [f];have d:=b1;(try simp only [i,h,j] at d);rw [d]
    first|rfl|simp
   rw [e];exact pK [] 5 0 (.k 3 (au b1) (.c (au b0) .nil)) (.nil)
theorem Oc (c d:Cl) (h:ut c d=true):ut d c=false:=by
 simp only [ut,Xq7,η,decide_eq_true_eq,beq_iff_eq,Bool.or_eq_false_iff,decide_eq_false_iff_not] at h ⊢;refine ⟨by omega, ?_⟩;by_cases e:d.1=c.1
 ·simp [e];omega
 ·simp [e]
def nP:List Cl→Cl→List Cl→List Cl
 | [],y,r=>y::r
 |x::q,y,r=>if ut y x then nP q y (x::r) else (x::q).reverse++y::r
def rM:List Cl→List Cl→List Cl
 |p,[]=>p
 |p,y::r=>rM (nP p.reverse y []) r
def jw:List Cl→List Cl
 | []=> []
 |x::l=>rM [x] l
abbrev cB (l:List Cl):aK:=⟨cL l,0,false,0,2,true⟩
theorem VW {k:Nat} (a:k<2^62):ω (δ .i64 ((((k+1):Nat):Int) - ((1:Nat):Int)))= ω (k:Int):=by
 have e:δ .i64 ((((k+1):Nat):Int) - ((1:Nat):Int))=(k:Int):=by rw [dZ]<;>omega
 rw [e]
theorem nS {a b n:Nat} (h:b=n) (c:a≤n):a≤b:=h ▸ c
theorem dA {a b:Nat} (h:a≤b):Xqc a b=true:=Nat.ble_eq_true_of_le h
theorem Vb {L p r:List Cl} {x z:Cl} (b:L=p++x::r):ξ ((0+(γ (p.length:Int)))*2) (cL L)++cC z++θ (((0+(γ (p.length:Int)))*2)+2) (cL L)=cL (p++z::r):=by
 subst b;rw [aS,Φ];have a:(cL p).length=p.length*2:=b_ p;have e:cL (p++x::r)=cL p++(cC x++cL r):=by simp [cL]
 rw [e,Xq8 a,List.drop_append,Xxf (by omega),a,show p.length*2+2 - p.length*2=(cC x).length by simp [cC],Xzp];simp [cL]
theorem qE {L p r:List Cl} {x:Cl} (a:L=p++x::r):θ ((0+(γ (p.length:Int)))*2) (cL L)=cC x++cL r:=by
 rw [Φ];exact dS (n:=2) (fun _=>rfl) a
theorem W9 {p r:List Cl} {x y:Cl}:(p++x::y::r).length=p.length+r.length+2:=by simp;omega
def Q3 (n i k:Nat) (L:List Cl):St:=⟨[(0,.ref 0 0 0 n),(1,ω 0),(2,ω (n:Int)),(3,.fn 41 [] []),(8,ω (i:Int)),(9,ω (k:Int))],[(0,⟨(cL L),0,false,0,2,true⟩)],.dead,[]⟩
theorem abj {nt:Nat} (t:53≤nt) (L0 p r:List Cl) (x y:Cl) (n i:Nat) (hs:(p++x::y::r).length=n) (B:n<2^40) (l:mP x) (g:mP y) (j:ut y x=true):
  af prog ap [cB L0] nt (aj 2 (ae f132)) (Q3 n i (p.length+1) (p++x::y::r)) .normal (Q3 n i p.length (p++y::x::r)):=by
 obtain ⟨q,o,u⟩:=BA y x g l;rw [j] at o;have e:=qE (L:=p++x::y::r) (p:=p) (x:=x) (r:=y::r) rfl;have d:θ ((0+(γ (((p.length+1):Nat):Int)))*2) (cL (p++x::y::r))=cC y++cL r:=by
  have:=qE (L:=p++x::y::r) (p:=p++ [x]) (x:=y) (r:=r) (by simp);simpa using this
 have f:p.length<2^62:=by rw [W9] at hs;omega
 have s:p.length+1<n:=by rw [← hs,W9];omega
 have c:(cL (p++x::y::r)).length=n*2:=by rw [b_,hs]
 have v:(decide (((0:Nat):Int)<(((p.length+1):Nat):Int)))=true:=Yq0 (by omega);have s1:ξ ((0+(γ (((p.length+1):Nat):Int)))*2) (cL (p++x::y::r))++cC x++θ (((0+(γ (((p.length+1):Nat):Int)))*2)+2) (cL (p++x::y::r))=cL (p++x::x::r):=by
  have:=Vb (L:=p++x::y::r) (p:=p++ [x]) (x:=y) (r:=r) (z:=x) (by simp);simpa using this
 have s2:=Vb (L:=p++x::x::r) (p:=p) (x:=x) (r:=x::r) (z:=y) rfl;have hlen2:(cL (p++x::x::r)).length=n*2:=by rw [b_,← hs];simp
 rw [← s1] at s2 hlen2;unfold Q3;rw [← s2];clear s1 s2 hs;generalize A:p++x::y::r=L at*
 generalize p.length=k at*
 have m:(Xqc (((0+(γ (k:Int)))*2)+2) (ν (ξ ((0+(γ (((k+1):Nat):Int)))*2) (cL L)++ [ω x.1,ω x.2]++θ (((0+(γ (((k+1):Nat):Int)))*2)+2) (cL L))))=true:=(dA (nS hlen2 (by omega)))
 have b:(decide ((k:Int)<(n:Int)))=true:=(kl (by omega))
 have h:(Xqc (((0+(γ (((k+1):Nat):Int)))*2)+2) (ν (cL L)))=true:=(dA (nS c (by omega)))
 have a:(decide ((((k+1):Nat):Int)<(n:Int)))=true:=(kl (by omega))
 exact pN 132 [] 2 3 (.c m (.k 1 b (.c h (.k 1 a (.a (bQ [.int .i64,.int .i64] d rfl) (.k 1 a (.a (bQ [.int .i64,.int .i64] e rfl) (.k 1 b (.c (ak o) (.a (bQ [.int .i64,.int .i64] e rfl) (.k 1 b (.a (bQ [.int .i64,.int .i64] d rfl) (.k 1 a (.c (ak v) .nil)))))))))))))) (.v 36 (.eq (VW f)) (.v 50 (.rd [.int .i64,.int .i64] d rfl) (.v 46 (.rd [.int .i64,.int .i64] e rfl) (.v 44 (.eq (VW f)) (.v 41 (.eq (VW f)) (.c u (.v 31 (.rd [.int .i64,.int .i64] e rfl) (.v 29 (.eq (VW f)) (.v 26 (.rd [.int .i64,.int .i64] d rfl) .nil))))))))) t
theorem abl {nt:Nat} (m:53≤nt) (L0 p r:List Cl) (x y:Cl) (n i:Nat) (hs:(p++x::y::r).length=n) (v:n<2^40) (d:mP x) (a:mP y) (c:ut y x=false):
  af prog ap [cB L0] nt (aj 2 (ae f132)) (Q3 n i (p.length+1) (p++x::y::r)) (.exit 2) ⟨[(0,.ref 0 0 0 n),(1,ω 0),(2,ω (n:Int)),(3,.fn 41 [] []),(8,ω (i:Int))],[(0,cB (p++x::y::r))],.dead,[]⟩:=by
 obtain ⟨q,j,o⟩:=BA y x a d;rw [c] at j;have g:=qE (L:=p++x::y::r) (p:=p) (x:=x) (r:=y::r) rfl;have f:θ ((0+(γ (((p.length+1):Nat):Int)))*2) (cL (p++x::y::r))=cC y++cL r:=by
  have:=qE (L:=p++x::y::r) (p:=p++ [x]) (x:=y) (r:=r) (by simp);simpa using this
 have t:p.length<2^62:=by rw [W9] at hs;omega
 have l:p.length+1<n:=by rw [← hs,W9];omega
 have h:(cL (p++x::y::r)).length=n*2:=by rw [b_,hs]
 have s:(decide (((0:Nat):Int)<(((p.length+1):Nat):Int)))=true:=Yq0 (by omega);clear hs;unfold Q3;generalize u:p++x::y::r=L at*
 generalize p.length=k at*
 have e:(decide ((k:Int)<(n:Int)))=true:=(kl (by omega))
 have b:(decide ((((k+1):Nat):Int)<(n:Int)))=true:=(kl (by omega))
 exact pN 132 [] 2 1 (.c (au j) (.a (bQ [.int .i64,.int .i64] g rfl) (.k 1 e (.a (bQ [.int .i64,.int .i64] f rfl) (.k 1 b (.c (ak s) .nil)))))) (.c o (.v 31 (.rd [.int .i64,.int .i64] g rfl) (.v 29 (.eq (VW t)) (.v 26 (.rd [.int .i64,.int .i64] f rfl) .nil)))) m
theorem aef {nt:Nat} (a:53≤nt) (L0 L:List Cl) (n i:Nat):
  af prog ap [cB L0] nt (aj 2 (ae f132)) (Q3 n i 0 L) (.exit 2) ⟨[(0,.ref 0 0 0 n),(1,ω 0),(2,ω (n:Int)),(3,.fn 41 [] []),(8,ω (i:Int))],[(0,cB L)],.dead,[]⟩:=pN 132 [] 2 0 (.n 2 .nil) (.nil) a
theorem Jg {nt:Nat} (a:53≤nt) (L0:List Cl) (n i:Nat) (c:n<2^40) (y:Cl) (b:mP y):∀ (q r:List Cl),(∀ x ∈ q,mP x)→(q.reverse++y::r).length=n→
  aP prog ap [cB L0] nt (aj 2 (ae f132)) (fun _=> .exit 2) (fun p:List Cl × List Cl=>Q3 n i p.1.length (p.1.reverse++y::p.2)) (fun L=> ⟨[(0,.ref 0 0 0 n),(1,ω 0),(2,ω (n:Int)),(3,.fn 41 [] []),(8,ω (i:Int))],[(0,cB L)],.dead,[]⟩) (q,r) (nP q y r)
 | [],r,_,_=> .done (aef a L0 (y::r) n i)
 | x::q,r,hq,hs=>by
  have d:=hq x (by simp);have e:(x::q).reverse++y::r=q.reverse++x::y::r:=by simp
  rw [e] at hs;unfold nP;cases h:ut y x with
  |true=>
   rw [if_pos rfl];refine .next (a':=(q,x::r)) ?_ (Jg a L0 n i c y b q (x::r) (fun z f=>hq z (by simp [f])) (by simpa using hs))
   have:=abj a L0 q.reverse r x y n i hs c d b h;show af _ _ _ _ _ (Q3 n i (q.length+1) ((x::q).reverse++y::r)) _ (Q3 n i q.length (q.reverse++y::x::r));rw [e];simpa using this
  |false=>
   rw [if_neg (by simp)];refine .done ?_;have:=abl a L0 q.reverse r x y n i hs c d b h;show af _ _ _ _ _ (Q3 n i (q.length+1) ((x::q).reverse++y::r)) _ _;rw [e];simpa using this
theorem Je:∀ (q:List Cl) (y:Cl) (r s:List Cl),nP q y (r++s)=nP q y r++s
 | [],y,r,s=>by simp [nP]
 |x::q,y,r,s=>by
  unfold nP;cases ut y x with
  |true=>rw [if_pos rfl,if_pos rfl,← Je q y (x::r) s];rfl
  |false=>rw [if_neg (by simp),if_neg (by simp)];simp
theorem xY:∀ (q:List Cl) (y:Cl) (r:List Cl),(nP q y r).Perm (q.reverse++y::r)
 | [],y,r=>by simp [nP]
 | x::q,y,r=>by
  unfold nP;cases ut y x with
  |true=>
   rw [if_pos rfl];refine (xY q y (x::r)).trans ?_;rw [List.reverse_cons,Ξ];exact List.Perm.append_left _ (List.Perm.swap x y r)
  |false=>rw [if_neg (by simp)]
theorem zg:∀ (r p:List Cl),(rM p r).Perm (p++r)
 | [],p=>by simp [rM]
 |y::r,p=>by
  unfold rM;refine (zg r _).trans ?_;have:=(xY p.reverse y []).append_right r;simpa using this
theorem vK (l:List Cl):(jw l).Perm l:=by
 cases l with
 |nil=>exact List.Perm.refl _
 |cons x l=>exact zg l [x]
def Dl (n k:Nat) (L:List Cl):St:=(aax n n k (cL L))
theorem abL {nt:Nat} (c:53≤nt) (L0 p r:List Cl) (y:Cl) (n:Nat) (hs:(p++y::r).length=n) (d:n<2^40) (hp:∀ x ∈ p,mP x) (e:mP y):
  af prog ap [cB L0] nt (aj 0 (ae f132)) (Dl n p.length (p++y::r)) .normal (Dl n (p.length+1) (nP p.reverse y []++r)):=by
 have i:p.length<2^62:=by rw [← hs] at d;simp at d;omega
 have g:p.length<n:=by rw [← hs];simp
 have h:(decide ((p.length:Int)<(n:Int)))=true:=Yq0 (by omega);have b:=aP.blk (id:=2) (e':= .normal) (s:=Q3 n p.length p.length (p++y::r)) (s':=⟨[(0,.ref 0 0 0 n),(1,ω 0),(2,ω (n:Int)),(3,.fn 41 [] []),(8,ω (p.length:Int))],[(0,cB (nP p.reverse y r))],.dead,[]⟩) (fun nt (c:53≤nt)=>Jg c L0 n p.length d y e p.reverse r (fun x f=>hp x (by simpa using f)) (by simpa using hs)) (by simp) rfl
  (by simpa using aJ.refl _) (aJ.refl _)
 rw [← μ r,Je p.reverse y [] r,μ] at b;unfold Q3 at b;unfold Dl;generalize l:p++y::r=L at*
 generalize nP p.reverse y []++r=L2 at*
 generalize p.length=k at*
 have j:bD prog ap [cB L0] 53 (.block 2 (.loop (aj 2 (ae f132)))) (aay n n (k:Int) (ω (k:Int)) (.bool (decide ((k:Int)<(n:Int)))) (cL L)) (.normal) (aax n n k (cL L2)):=(fun nt a=>(b nt a).weak (aJ.of ⟨rfl,rfl,rfl,rfl,rfl,rfl,trivial⟩) (aJ.refl _))
 exact pN 132 [2] 1 1 (.c (ak h) .nil) (.v 16 (.eq (wpS i)) (.l j .nil)) c
theorem OE {nt:Nat} (a:53≤nt) (L0 L:List Cl) (n k:Nat) (h:n≤k):af prog ap [cB L0] nt (aj 0 (ae f132)) (Dl n k L) (.exit 0) ⟨[],[(0,cB L)],.dead,[]⟩:=by
 have b:(decide ((k:Int)<(n:Int)))=false:=Yq1 (by omega);exact pN 132 [2] 1 0 (.c (au b) .nil) .nil a
theorem Jz {nt:Nat} (c:53≤nt) (L0:List Cl) (n:Nat) (e:n<2^40):∀ (r p:List Cl),(∀ x ∈ p,mP x)→(∀ x ∈ r,mP x)→(p++r).length=n→
  aP prog ap [cB L0] nt (aj 0 (ae f132)) (fun _=> .exit 0) (fun q:List Cl × List Cl=>Dl n q.1.length (q.1++q.2)) (fun L=> ⟨[],[(0,cB L)],.dead,[]⟩) (p,r) (rM p r)
 | [],p,_,_,hs=>by
  refine .done ?_;show af _ _ _ _ _ (Dl n p.length (p++ [])) _ _;have:=OE c L0 (p++ []) n p.length (by rw [← hs];simp);rw [υ] at this ⊢;exact this
 | y::r,p,hp,hr,hs=>by
  unfold rM;have b:=xY p.reverse y [];rw [List.reverse_reverse] at b;have a:(nP p.reverse y []).length=p.length+1:=by rw [b.length_eq];simp
  refine .next (a':=(nP p.reverse y [],r)) ?_ (Jz c L0 n e r (nP p.reverse y []) (fun x d=> ?_) (fun x d=>hr x (by simp [d])) (by rw [← hs];simp [a];omega))
  ·show af _ _ _ _ _ (Dl n p.length (p++y::r)) _ (Dl n (nP p.reverse y []).length (nP p.reverse y []++r));rw [a];exact abL c L0 p r y n hs e hp (hr y (by simp))
  ·have:=b.mem_iff.1 d;simp at this;rcases this with h|h
   ·exact hp x h
   ·subst h;exact hr x (by simp)
theorem abk (l:List Cl) (g:l.length<2^40) (hs:∀ x ∈ l,mP x):ah prog ap 132 [.ref 0 0 0 l.length,ω 0,ω (l.length:Int),.fn 41 [] []] [cB l] (.ret (.tup [])) [cB (jw l)]:=by
 have hloop:bD prog ap [cB l] 53 (.block 0 (.loop (aj 0 (ae f132)))) (Dl l.length 1 l) .normal ⟨[],[(0,cB (jw l))],.dead,[]⟩:=by
  cases l with
  |nil=>exact aP.blk (id:=0) (e':= .normal) (fun nt d=>aP.done (α:=Unit) (β:=Unit) (a:=()) (r:=()) (e:=fun _=> .exit 0) (st:=fun _=>Dl 0 1 []) (out:=fun _=> ⟨[],[(0,cB [])],.dead,[]⟩) (OE d [] [] 0 1 (by omega))) (by simp) rfl (aJ.refl _) (aJ.refl _)
  |cons x r=>exact aP.blk (id:=0) (e':= .normal) (fun nt d=>Jz d (x::r) (x::r).length g r [x] (fun z b=>by simp at b;subst b;exact hs z (by simp)) (fun z b=>hs z (by simp [b])) rfl) (by simp) rfl (aJ.refl _) (aJ.refl _)
 unfold Dl at hloop;have f:bD prog ap [cB l] 53 (.block 0 (.loop (aj 0 (ae f132)))) (aay l.length l.length 1 (.dead) (.dead) (cL l)) (.normal) ⟨[],[(0,⟨(cL (jw l)),0,false,0,2,true⟩)],.dead,[]⟩:=(fun nt c=>(hloop nt c).weak (aJ.of ⟨rfl,rfl,rfl,rfl,rfl,trivial⟩) (aJ.refl _))
 exact pK [0] 0 0 .nil (.l f .nil)
end Go.Proofs.Tryz
namespace Go.Proofs.Tryz
open Go AM
theorem cD (c:List Nat) {ans:List (h_ × List aK)} {ps:List Prop} {f:Nat} {args:List AV} {h a:List aK} {out:h_} (hp:PS prog ap ps ans [] [])
  (he:lL ap (H5 prog ap 3000 c 9) 3000 .dead f args h ⟨true,[],[],[],ans,[]⟩= .ok (out,a,.dead) ⟨true,[],[],ps,[],[]⟩:=by kernel_rfl):ah prog ap f args h out a:=ML jW.apok jW.mixed jW.fnok he ⟨fun _ b=>(by cases b),hp.all.mem⟩
theorem abv:∀ n:Nat,n≤12→∃ v:Int,CO 91 [.int .u64 (n:Int)] (.ret (ω v))
 |0,_=> ⟨0,cD [] .nil⟩
 |1,_=> ⟨1,cD [] .nil⟩
 |2,_=> ⟨2,cD [] .nil⟩
 |3,_=> ⟨2,cD [] .nil⟩
 |4,_=> ⟨3,cD [] .nil⟩
 |5,_=> ⟨3,cD [] .nil⟩
 |6,_=> ⟨3,cD [] .nil⟩
 |7,_=> ⟨3,cD [] .nil⟩
 |8,_=> ⟨4,cD [] .nil⟩
 |9,_=> ⟨4,cD [] .nil⟩
 |10,_=> ⟨4,cD [] .nil⟩
 |11,_=> ⟨4,cD [] .nil⟩
 |12,_=> ⟨4,cD [] .nil⟩
 |n+13,h=>absurd h (by omega)
theorem abM (L L2:List Cl) (n:Nat) (v:Int) (c:n≤12) (h:ah prog ap 132 [.ref 0 0 0 n,ω 0,ω (n:Int),.fn 41 [] []] [cB L] (.ret (.tup [])) [cB L2]):ah prog ap 90 [.ref 0 0 0 n,ω 0,ω (n:Int),ω v,.fn 41 [] []] [cB L] (.ret (.tup [])) [cB L2]:=by
 have a:ω (δ .i64 ((n:Int) - ((0:Nat):Int)))= ω (n:Int):=by
  have e:δ .i64 ((n:Int) - ((0:Nat):Int))=(n:Int):=by rw [dZ]<;>omega
  rw [e]
 have b:(decide ((n:Int)≤((12:Nat):Int)))=true:=Yq0 (by omega);exact pK [] 1 1 (.c (ak b) .nil) (.c h (.v 23 (.eq a) .nil))
theorem XU (l:List Cl) (a:l.length≤12) (hs:∀ x ∈ l,mP x):ah prog ap 40 [.ref 0 0 0 l.length,.fn 41 [] []] [cB l] (.ret (.tup [])) [cB (jw l)]:=by
 obtain ⟨v,c⟩:=abv l.length a;have d:=abM l (jw l) l.length v a (abk l (by omega) hs);have b:AV.int .u64 (δ .u64 (l.length:Int))= .int .u64 (l.length:Int):=by
  have e:δ .u64 (l.length:Int)=(l.length:Int):=by rw [akn]<;>omega
  rw [e]
 generalize jw l=L2 at*
 generalize l.length=n at*
 exact pK [] 0 0 .nil (.c d (.c c (.v 10 (.eq b) .nil)))
theorem Vg:CO 40 [.nilS,.fn 41 [] []] (.ret (.tup [])):=cD [] .nil
def IV (y x:Cl):Bool:=((y.1==x.1) && ((y.2==x.2) && true))
theorem GK {x y:Cl}:IV y x=true↔y=x:=by
 unfold IV;simp only [Xzh,η,beq_iff_eq];exact ⟨fun h=>Xv8 h.1 h.2,fun h=>h ▸ ⟨rfl,rfl⟩⟩
def pI:List Cl→Cl→List Cl→List Cl
 |A,_,[]=>A
 |A,z,y::r=>if IV y z then pI A y r else pI (A++ [y]) y r
def di:List Cl→List Cl
 | []=> []
 |x::l=>pI [x] x l
def xN:List Cl→List Cl→Cl→List Cl→List Cl × List Cl
 |A,G,z,[]=>(A,G++ [z])
 |A,G,z,y::r=>if IV y z then xN A (G++ [z]) y r else xN (A++ [y]) (G++ [z]).tail y r
theorem Bv:∀ (r A G:List Cl) (z:Cl),(xN A G z r).1=pI A z r
 | [],A,G,z=>rfl
 |y::r,A,G,z=>by
  unfold xN pI;split
  ·exact Bv r A _ y
  ·exact Bv r _ _ y
theorem Bz:∀ (r A G:List Cl) (z:Cl),(xN A G z r).1.length+(xN A G z r).2.length=A.length+G.length+1+r.length
 | [],A,G,z=>by simp [xN];omega
 |y::r,A,G,z=>by
  unfold xN;split
  ·rw [Bz r A _ y];simp;omega
  ·rw [Bz r _ _ y];simp;omega
theorem Ny {L p r:List Cl} {x:Cl} {a j:Nat} (b:L=p++x::r) (c:a+j=p.length):θ ((a+(γ (j:Int)))*2) (cL L)=cC x++cL r:=by
 have:=dS (f:=cC) (n:=2) (fun _=>rfl) b;rw [aS] at this ⊢;rw [c];exact this
def VQ (n k kz q j:Nat) (L:List Cl):St:=⟨[(0,.ref 0 0 0 n),(3,ω (k:Int)),(4,.ref 0 0 kz q),(5,ω (((j+1):Nat):Int))],[(0,⟨(cL L),0,false,0,2,true⟩)],.dead,[]⟩
theorem ac6 {nt:Nat} (t:61≤nt) (L0 A G r:List Cl) (x y:Cl) (n a q j:Nat) (hs:(A++G++x::y::r).length=n) (E:n<2^40) (D:a+q=n) (s:A.length+G.length=a+j) (m:IV y x=false):
  af prog ap [cB L0] nt (aj 2 (ae f42)) (VQ n A.length a q j (A++G++x::y::r)) .normal (VQ n (A++ [y]).length a q (j+1) ((A++ [y])++(G++ [x]).tail++y::r)):=by
 have o:(θ ((a+(γ (j:Int)))*2) (cL (A++G++x::y::r)))=cC x++cL (y::r):=Ny (p:=A++G) rfl (by simp;omega);have c:(θ ((a+(γ (((j+1):Nat):Int)))*2) (cL (A++G++x::y::r)))=cC y++cL r:=Ny (p:=A++G++ [x]) (by simp) (by simp;omega);have b:(cL (A++G++x::y::r)).length=n*2:=by rw [b_,hs]
 have u:A.length+G.length+2+r.length=n:=by rw [← hs];simp;omega
 have i:(decide ((((j+1):Nat):Int)<(q:Int)))=true:=kl (by omega);have v:j<2^62:=by omega
 have h:j+1<2^62:=by omega
 have B:A.length<2^62:=by omega
 have s1:ξ ((0+(γ (A.length:Int)))*2) (cL (A++G++x::y::r))++cC y++θ (((0+(γ (A.length:Int)))*2)+2) (cL (A++G++x::y::r))=cL ((A++ [y])++(G++ [x]).tail++y::r):=by
  cases G with
  |nil=>have:=Vb (L:=A++ []++x::y::r) (p:=A) (x:=x) (r:=y::r) (z:=y) (by simp);simpa using this
  |cons g G=>have:=Vb (L:=A++(g::G)++x::y::r) (p:=A) (x:=g) (r:=G++x::y::r) (z:=y) (by simp);simpa using this
 have e:(A++ [y]).length=A.length+1:=by simp
 unfold VQ;rw [e,← s1];clear s1 e hs;unfold IV at m;generalize C:A++G++x::y::r=L at*
 generalize A.length=k at*
 have l:(Xqc (((0+(γ (k:Int)))*2)+2) (ν (cL L)))=true:=(dA (nS b (by omega)))
 have d:(decide ((k:Int)<(n:Int)))=true:=(kl (by omega))
 have f:(decide ((j:Int)<(q:Int)))=true:=(kl (by omega))
 exact pN 42 [] 2 3 (.c l (.k 1 d (.a (bQ [.int .i64,.int .i64] c rfl) (.k 1 i (.c (fZ m) (.a (bQ [.int .i64,.int .i64] o rfl) (.k 1 f (.a (bQ [.int .i64,.int .i64] c rfl) (.k 1 i (.c (ak i) .nil)))))))))) (.v 34 (.eq (wpS h)) (.v 53 (.eq (wpS B)) (.v 50 (.rd [.int .i64,.int .i64] c rfl) (.v 43 (.rd [.int .i64,.int .i64] o rfl) (.v 41 (.eq (VW v)) (.v 38 (.rd [.int .i64,.int .i64] c rfl) .nil)))))) t
theorem ac5 {nt:Nat} (l:61≤nt) (L0 A G r:List Cl) (x y:Cl) (n a q j:Nat) (hs:(A++G++x::y::r).length=n) (v:n<2^40) (t:a+q=n) (i:A.length+G.length=a+j) (d:IV y x=true):
  af prog ap [cB L0] nt (aj 2 (ae f42)) (VQ n A.length a q j (A++G++x::y::r)) .normal (VQ n A.length a q (j+1) (A++G++x::y::r)):=by
 have f:(θ ((a+(γ (j:Int)))*2) (cL (A++G++x::y::r)))=cC x++cL (y::r):=Ny (p:=A++G) rfl (by simp;omega);have e:(θ ((a+(γ (((j+1):Nat):Int)))*2) (cL (A++G++x::y::r)))=cC y++cL r:=Ny (p:=A++G++ [x]) (by simp) (by simp;omega);have g:(cL (A++G++x::y::r)).length=n*2:=by rw [b_,hs]
 have m:A.length+G.length+2+r.length=n:=by rw [← hs];simp;omega
 have h:(decide ((((j+1):Nat):Int)<(q:Int)))=true:=kl (by omega);have o:j<2^62:=by omega
 have b:j+1<2^62:=by omega
 have u:A.length<2^62:=by omega
 unfold VQ;clear hs;unfold IV at d;generalize s:A++G++x::y::r=L at*
 generalize A.length=k at*
 have c:(decide ((j:Int)<(q:Int)))=true:=(kl (by omega))
 exact pN 42 [] 2 1 (.c (dV d) (.a (bQ [.int .i64,.int .i64] f rfl) (.k 1 c (.a (bQ [.int .i64,.int .i64] e rfl) (.k 1 h (.c (ak h) .nil)))))) (.v 34 (.eq (wpS b)) (.v 43 (.rd [.int .i64,.int .i64] f rfl) (.v 41 (.eq (VW o)) (.v 38 (.rd [.int .i64,.int .i64] e rfl) .nil)))) l
theorem ac4 {nt:Nat} (a:61≤nt) (L0 L:List Cl) (n k b q j:Nat) (h:q≤j+1):
  af prog ap [cB L0] nt (aj 2 (ae f42)) (VQ n k b q j L) (.exit 2) ⟨[(0,.ref 0 0 0 n),(3,ω (k:Int))],[(0,cB L)],.dead,[]⟩:=by
 have c:(decide ((((j+1):Nat):Int)<(q:Int)))=false:=kn h;exact pN 42 [] 1 0 (.c (au c) .nil) .nil a
theorem Gz {nt:Nat} (b:61≤nt) (L0:List Cl) (n a q:Nat) (d:n<2^40) (c:a+q=n):∀ (r A G:List Cl) (z:Cl) (j:Nat),(A++G++z::r).length=n→A.length+G.length=a+j→
  aP prog ap [cB L0] nt (aj 2 (ae f42)) (fun _=> .exit 2) (fun p:List Cl × List Cl × Cl × List Cl × Nat=>VQ n p.1.length a q p.2.2.2.2 (p.1++p.2.1++p.2.2.1::p.2.2.2.1)) (fun p:List Cl × List Cl=> ⟨[(0,.ref 0 0 0 n),(3,ω (p.1.length:Int))],[(0,cB (p.1++p.2))],.dead,[]⟩) (A,G,z,r,j) (xN A G z r)
 | [],A,G,z,j,hs,hj=>by
  refine .done ?_;have:=ac4 b L0 (A++G++ [z]) n A.length a q j (by simp at hs;omega);simpa [xN] using this
 | y::r,A,G,z,j,hs,hj=>by
  unfold xN;cases e:IV y z with
  |true=>
   rw [if_pos rfl];refine .next (a':=(A,G++ [z],y,r,j+1)) ?_ (Gz b L0 n a q d c r A (G++ [z]) y (j+1) (by simpa using hs) (by simp;omega))
   have:=ac5 b L0 A G r z y n a q j hs d c hj e;simpa using this
  |false=>
   rw [if_neg (by simp)];refine .next (a':=(A++ [y],(G++ [z]).tail,y,r,j+1)) (ac6 b L0 A G r z y n a q j hs d c hj e) (Gz b L0 n a q d c r (A++ [y]) (G++ [z]).tail y (j+1) ?_ ?_)
   ·simp at hs ⊢;omega
   ·simp;omega
def Ip (k:Nat):List AV:=gu k [ω 0,ω 0]
theorem PU (k:Nat):(Ip k).length=k*2:=by unfold Ip gu;simp [List.length_flatten]
def zU (n k:Nat) (L:List Cl):St:=⟨[(0,.ref 0 0 0 n),(3,ω (((k+1):Nat):Int))],[(0,⟨(cL L),0,false,0,2,true⟩)],.dead,[]⟩
def cp1:List Cl→Cl→List Cl→Option (List Cl)
 |_,_,[]=>none
 |p,x,y::r=>if IV y x then some (pI (p++ [x]) y r) else cp1 (p++ [x]) y r
def aa5:Option (List Cl)→aV
 |none=> .exit 0
 |some _=> .ret
def ac3 (n:Nat) (L:List Cl):Option (List Cl)→St
 |none=> ⟨[(0,.ref 0 0 0 n)],[(0,cB L)],.dead,[]⟩
 |some A=>(Pz A.length (cL A++Ip (n - A.length)))
theorem RG:∀ (r p:List Cl) (x:Cl),(match cp1 p x r with|none=>p++x::r|some A=>A)=pI (p++ [x]) x r
 | [],p,x=>rfl
 | y::r,p,x=>by
  rw [cp1,pI];cases a:IV y x with
  |true=>rw [if_pos rfl,if_pos rfl]
  |false=>
   rw [if_neg (by simp),if_neg (by simp)];have:=RG r (p++ [x]) y;cases h:cp1 (p++ [x]) y r with
   |none=>rw [h] at this;simpa using this
   |some A=>rw [h] at this;exact this
theorem aa8 {nt:Nat} (o:61≤nt) (L0 p r:List Cl) (x y:Cl) (n:Nat) (hs:(p++x::y::r).length=n) (U:n<2^40) (z:IV y x=true):
  af prog ap [cB L0] nt (aj 0 (ae f42)) (zU n p.length (p++x::y::r)) .ret (ac3 n (p++x::y::r) (some (pI (p++ [x]) y r))):=by
 have D:=qE (L:=p++x::y::r) (p:=p) (x:=x) (r:=y::r) rfl;have C:θ ((0+(γ (((p.length+1):Nat):Int)))*2) (cL (p++x::y::r))=cC y++cL r:=by
  have:=qE (L:=p++x::y::r) (p:=p++ [x]) (x:=y) (r:=r) (by simp);simpa using this
 have N:p.length+r.length+2=n:=by rw [← hs];simp;omega
 have R:p.length<2^62:=by omega
 have T:p.length+1<2^62:=by omega
 have E:(cL (p++x::y::r)).length=n*2:=by rw [b_,hs]
 have O:(decide ((((p.length+1):Nat):Int)<(n:Int)))=true:=kl (by omega);obtain ⟨q,v⟩:∃ q,q=n - (p.length+1):=⟨_,rfl⟩
 have H:AV.ref 0 0 (0+(γ (((p.length+1):Nat):Int))) ((γ (n:Int)) - (γ (((p.length+1):Nat):Int)))= .ref 0 0 (p.length+1) q:=by
  rw [aS,aS,Φ,← v]
 have G:(xN (p++ [x]) [] y r).1=pI (p++ [x]) y r:=Bv r (p++ [x]) [] y;have e:=Bz r (p++ [x]) [] y;have f:=aP.blk (id:=2) (e':= .normal) (s:=VQ n (p++ [x]).length (p.length+1) q 0 ((p++ [x])++ []++y::r)) (fun nt (o:61≤nt)=>Gz o L0 n (p.length+1) q U (by omega) r (p++ [x]) [] y 0 (by rw [← hs];simp) (by simp)) (by simp) rfl (aJ.refl _) (aJ.refl _);rw [← G];generalize u:xN (p++ [x]) [] y r=RR at*
 obtain ⟨A,B⟩:=RR;have F:(p++ [x])++ []++y::r=p++x::y::r:=by simp
 have t:(p++ [x]).length=p.length+1:=by simp
 rw [F,t] at f;simp only [t,Xqj] at e;have c:A.length+B.length=n:=by omega
 have hlen2:(cL (A++B)).length=n*2:=by rw [b_,ο,c]
 have a:ξ ((0+(γ (A.length:Int)))*2) (cL (A++B))++(gu ((γ (n:Int)) - (γ (A.length:Int))) [ω 0,ω 0])++θ (((0+(γ (A.length:Int)))*2)+(ν (gu ((γ (n:Int)) - (γ (A.length:Int))) [ω 0,ω 0]))) (cL (A++B))=cL A++Ip (n - A.length):=by
  rw [aS,aS,Φ];have M:(cL A).length=A.length*2:=b_ A;have J:cL (A++B)=cL A++cL B:=by simp [cL]
  have I:(gu (n - A.length) [ω 0,ω 0]).length=(n - A.length)*2:=PU _;rw [I,J,Xq8 M,Xxf (by rw [ο,b_,b_];omega),υ];rfl
 show af _ _ _ _ _ (zU n p.length (p++x::y::r)) _ (Pz A.length (cL A++Ip (n - A.length)));rw [← a];unfold VQ at f;unfold zU;simp only at f;have K:A.length≤n:=by omega
 clear hs a u G e F t c;unfold IV at z;generalize V:p++x::y::r=L at*
 generalize Q:A++B=L2 at*
 generalize p.length=k at*
 generalize A.length=m at*
 have S:bD prog ap [cB L0] 61 (.block 2 (.loop (aj 2 (ae f42)))) (Vp n (.dead) (((k+1):Nat):Int) (.ref 0 0 (k+1) q) (ω 1) (.dead) (.bool (decide ((((k+1):Nat):Int)<(n:Int)))) (.bool ((y.1==x.1) && ((y.2==x.2) && true))) (cL L)) (.normal) ⟨[(0,.ref 0 0 0 n),(3,ω (m:Int))],[(0,⟨(cL L2),0,false,0,2,true⟩)],.dead,[]⟩:=(fun nt l=>(f nt l).weak (aJ.of ⟨rfl,rfl,rfl,rfl,trivial⟩) (aJ.refl _))
 have b:(decide ((m:Int)≤(n:Int)))=true:=(Yq0 (by omega))
 have h:(Xqc (((0+(γ (m:Int)))*2)+(((γ (n:Int)) - (γ (m:Int)))*2)) (ν (cL L2)))=true:=(dA (nS hlen2 (by omega)))
 have d:(decide ((n:Int)≤(n:Int)))=true:=(Yq0 (by omega))
 have i:(decide ((((k+1):Nat):Int)≤(n:Int)))=true:=(Yq0 (by omega))
 have j:(decide ((k:Int)<(n:Int)))=true:=(kl (by omega))
 have g:(decide ((((k+1):Nat):Int)<(n:Int)))=true:=(kl (by omega))
 exact pN 42 [2] 2 3 (.k 2 b (.c h (.k 1 b (.c d (.k 1 i (.c d (.c (ak z) (.a (bQ [.int .i64,.int .i64] D rfl) (.k 1 j (.a (bQ [.int .i64,.int .i64] C rfl) (.k 1 g (.c (ak O) .nil)))))))))))) (.l S (.v 28 (.eq H) (.v 24 (.rd [.int .i64,.int .i64] D rfl) (.v 22 (.eq (VW R)) (.v 19 (.rd [.int .i64,.int .i64] C rfl) .nil))))) o
theorem aa7 {nt:Nat} (h:61≤nt) (L0 p r:List Cl) (x y:Cl) (n:Nat) (hs:(p++x::y::r).length=n) (o:n<2^40) (d:IV y x=false):
  af prog ap [cB L0] nt (aj 0 (ae f42)) (zU n p.length (p++x::y::r)) .normal (zU n (p.length+1) (p++x::y::r)):=by
 have f:=qE (L:=p++x::y::r) (p:=p) (x:=x) (r:=y::r) rfl;have e:θ ((0+(γ (((p.length+1):Nat):Int)))*2) (cL (p++x::y::r))=cC y++cL r:=by
  have:=qE (L:=p++x::y::r) (p:=p++ [x]) (x:=y) (r:=r) (by simp);simpa using this
 have i:p.length+r.length+2=n:=by rw [← hs];simp;omega
 have l:p.length<2^62:=by omega
 have c:p.length+1<2^62:=by omega
 have g:(cL (p++x::y::r)).length=n*2:=by rw [b_,hs]
 have j:(decide ((((p.length+1):Nat):Int)<(n:Int)))=true:=kl (by omega);unfold zU;clear hs;unfold IV at d;generalize m:p++x::y::r=L at*
 generalize p.length=k at*
 have b:(decide ((k:Int)<(n:Int)))=true:=(kl (by omega))
 have a:(decide ((((k+1):Nat):Int)<(n:Int)))=true:=(kl (by omega))
 exact pN 42 [2] 2 1 (.c (au d) (.a (bQ [.int .i64,.int .i64] f rfl) (.k 1 b (.a (bQ [.int .i64,.int .i64] e rfl) (.k 1 a (.c (ak j) .nil)))))) (.v 15 (.eq (wpS c)) (.v 24 (.rd [.int .i64,.int .i64] f rfl) (.v 22 (.eq (VW l)) (.v 19 (.rd [.int .i64,.int .i64] e rfl) .nil)))) h
theorem aa6 {nt:Nat} (a:61≤nt) (L0 L:List Cl) (n k:Nat) (h:n≤k+1):
  af prog ap [cB L0] nt (aj 0 (ae f42)) (zU n k L) (.exit 0) ⟨[(0,.ref 0 0 0 n)],[(0,cB L)],.dead,[]⟩:=by
 have b:(decide ((((k+1):Nat):Int)<(n:Int)))=false:=kn h;exact pN 42 [2] 1 0 (.c (au b) .nil) .nil a
theorem IM {nt:Nat} (a:61≤nt) (L0 L:List Cl) (n:Nat) (b:n<2^40) (hs:L.length=n):∀ (r p:List Cl) (x:Cl),p++x::r=L→
  aP prog ap [cB L0] nt (aj 0 (ae f42)) aa5 (fun k:Nat=>zU n k L) (ac3 n L) p.length (cp1 p x r)
 | [],p,x,h=>by
  refine .done ?_;exact aa6 a L0 L n p.length (by rw [← hs,← h];simp)
 | y::r,p,x,h=>by
  unfold cp1;cases c:IV y x with
  |true=>
   rw [if_pos rfl];refine .done ?_;have:=aa8 a L0 p r x y n (by rw [h];exact hs) b c;rwa [h] at this
  |false=>
   rw [if_neg (by simp)];have:=aa7 a L0 p r x y n (by rw [h];exact hs) b c;rw [h] at this;refine .next (a':=p.length+1) this ?_
   have d:=IM a L0 L n b hs r (p++ [x]) y (by rw [← h];simp);simpa using d
theorem PT (l:List AV):l++Ip 0=l:=by simp [Ip,gu]
theorem Lc (l:List Cl) (g:l.length<2^40):ah prog ap 42 [.ref 0 0 0 l.length] [cB l] (.ret (.ref 0 0 0 (di l).length)) [⟨cL (di l)++Ip (l.length - (di l).length),0,false,0,2,true⟩]:=by
 have small:∀ (L:List Cl) (n:Nat),n<2→ah prog ap 42 [.ref 0 0 0 n] [cB L] (.ret (.ref 0 0 0 n)) [cB L]:=fun L n e=>by
  have d:(decide (((n:Nat):Int)<((2:Nat):Int)))=true:=kl e;exact pK [0] 1 1 (.c (ak d) .nil) .nil
 match l,g with
 | [],_=>have:=small [] 0 (by omega);simpa [di,PT] using this
 | [x],_=>
  have:=small [x] 1 (by omega);show ah prog ap 42 [.ref 0 0 0 1] [cB [x]] (.ret (.ref 0 0 0 1)) [⟨cL [x]++Ip 0,0,false,0,2,true⟩];rw [PT];exact this
 | x::y::r,g=>
  have c:=RG (y::r) [] x;rw [μ,μ] at c;have j:di (x::y::r)=pI [x] x (y::r):=rfl;rw [j,← c];have hloop:=fun nt (e:61≤nt)=>IM e (x::y::r) (x::y::r) (x::y::r).length g rfl (y::r) [] x rfl
  have d:(decide ((((x::y::r).length:Nat):Int)<((2:Nat):Int)))=false:=kn (by simp);cases h:cp1 [] x (y::r) with
  |none=>
   rw [h] at hloop;have b:=aP.blk (id:=0) (e':= .normal) (s:=zU (x::y::r).length 0 (x::y::r)) (s':=⟨[(0,.ref 0 0 0 (x::y::r).length)],[(0,cB (x::y::r))],.dead,[]⟩) hloop (by simp [aa5]) rfl (aJ.refl _) (aJ.refl _);unfold zU at b;simp only [Xzf,PT];generalize i:x::y::r=L at*
   generalize L.length=n at*
   have f:bD prog ap [cB L] 61 (.block 0 (.loop (aj 0 (ae f42)))) (Vp n (.nilS) 1 (.dead) (.dead) (.bool (decide (((n:Nat):Int)<((2:Nat):Int)))) (.dead) (.dead) (cL L)) (.normal) ⟨[(0,.ref 0 0 0 n)],[(0,⟨(cL L),0,false,0,2,true⟩)],.dead,[]⟩:=(fun nt a=>(b nt a).weak (aJ.of ⟨rfl,rfl,trivial⟩) (aJ.refl _))
   exact pK [0] 1 0 (.c (au d) .nil) (.l f .nil)
  |some A=>
   rw [h] at hloop;have b:=aP.blk (id:=0) (e':= .ret) (s:=zU (x::y::r).length 0 (x::y::r)) (s':=(Pz A.length (cL A++Ip ((x::y::r).length - A.length)))) hloop (by simp [aa5]) rfl (aJ.refl _) (aJ.refl _);unfold zU at b;show ah prog ap 42 _ _ (.ret (.ref 0 0 0 A.length)) [⟨cL A++Ip ((x::y::r).length - A.length),0,false,0,2,true⟩];generalize i:x::y::r=L at*
   generalize L.length=n at*
   generalize A.length=k at*
   generalize cL A++Ip (n - k)=C2 at*
   have f:bD prog ap [cB L] 61 (.block 0 (.loop (aj 0 (ae f42)))) (Vp n (.nilS) 1 (.dead) (.dead) (.bool (decide (((n:Nat):Int)<((2:Nat):Int)))) (.dead) (.dead) (cL L)) (.ret) (Pz k C2):=(fun nt a=>(b nt a).weak (aJ.of ⟨rfl,rfl,trivial⟩) (aJ.refl _))
   exact pK [0] 1 0 (.c (au d) .nil) (.l f .nil)
theorem IJ:CO 42 [.nilS] (.ret .nilS):=cD [] .nil
theorem IX (x:Pv) (a:List UInt8):CO 89 [.agg (xn x),.pp [.str a] 0] (.ret (.bool (x.nm==a))):=pK [] 0 0 (.n 2 .nil) .nil
def WH (nm:List UInt8) (k:Nat) (x:Pv):Nat ⊕ Option Nat:=if x.nm==nm then .inr (some k) else .inl (k+1)
def RY (ps:List Pv) (nm:List UInt8):Option Nat:=AM.goL (WH nm) (fun _=>none) ps 0
def RZ (ps:List Pv) (nm:List UInt8) (c:Bool) (p:Nat × Nat):St:=⟨[(0,.sl (bJ ps) ps.length c),(1,.fn 89 [] [.pp [.str nm] 0]),(7,ω (ps.length:Int)),(8,ω (p.1:Int))],[],.dead,[]⟩
def WG:Option Nat→aV
 |none=> .exit 0
 |some _=> .ret
def RX:Option Nat→St
 |none=>zM
 |some k=>(yH (.int .i64 (k:Int)))
theorem WI {nt:Nat} (d:19≤nt) (ps:List Pv) (a:List UInt8) (c:Bool) (f:ps.length<2^40):aP prog ap [] nt (aj 0 (ae f88)) WG (RZ ps a c) RX (0,0) (RY ps a):=by
 refine aP.goD (WH a) (fun _=>none) ps (fun p s=>s=p.length) ?_ ?_ 0 rfl
 ·rintro p x rs s hL hp
  have e:(θ ((γ (p.length:Int))*12) (bJ ps))=xn x++bJ rs:=dS Ul hL;have b:(decide ((p.length:Int)<(ps.length:Int)))=true:=kl (nT hL);have g:p.length<2^62:=by have:=nT hL;omega
  subst hp;show (∃ s',_∧af _ _ _ _ _ (RZ ps a c (p.length,_)) _ _∧_)∨∃ q,_∧af _ _ _ _ _ (RZ ps a c (p.length,_)) _ _;have hp:(p++ [x]).length=p.length+1:=by simp
  generalize p.length=k at*
  clear hL;rcases tf (x.nm==a) with b0|b0
  ·exact .inr ⟨some k,by simp only [WH,b0,if_true],pN 88 [] 2 3 (.c (ak b0) (.k 12 (k0 k) (.c b (.c (ak b) .nil)))) (.c (IX x a) (.v 14 (.ppt e) .nil)) d⟩
  ·exact .inl ⟨k+1,by simp only [WH,b0,Xqi,if_false],pN 88 [] 2 1 (.c (au b0) (.k 12 (k0 k) (.c b (.c (ak b) .nil)))) (.v 18 (.eq (wpS g)) (.c (IX x a) (.v 14 (.ppt e) .nil))) d,by simp [hp]⟩
 ·intro _ _;exact pN 88 [] 1 0 (.c (au (kn (ε ps.length))) .nil) (.nil) d
theorem Tz (ps:List Pv) (a:List UInt8) (c:Bool) (d:ps.length<2^40):CO 88 [.sl (bJ ps) ps.length c,.fn 89 [] [.pp [.str a] 0]] (.ret (.int .i64 (match RY ps a with|none=> -1|some k=>(k:Int)))):=by
 have hloop:=fun nt (hn:19≤nt)=>WI hn ps a c d
 cases g:RY ps a with
 |none=>
  rw [g] at hloop;have e:=aP.blk (id:=0) (e':= .normal) (s:=RZ ps a c (0,0)) (s':=RX none) hloop (by simp [WG]) rfl (aJ.refl _) (aJ.refl _);have f:LB 19 0 f88 (aas (.sl (bJ ps) ps.length c) (.fn 89 [] [.pp [.str a] 0]) ps.length) (.normal) zM:=(fun nt b=>(e nt b).weak (aJ.of ⟨rfl,rfl,rfl,rfl,trivial⟩) (aJ.refl _))
  exact pK [0] 0 0 .nil (.l f .nil)
 |some k=>
  rw [g] at hloop;have e:=aP.blk (id:=0) (e':= .ret) (s:=RZ ps a c (0,0)) (s':=RX (some k)) hloop (by simp [WG]) rfl (aJ.refl _) (aJ.refl _);have f:LB 19 0 f88 (aas (.sl (bJ ps) ps.length c) (.fn 89 [] [.pp [.str a] 0]) ps.length) (.ret) (yH (ω (k:Int))):=(fun nt b=>(e nt b).weak (aJ.of ⟨rfl,rfl,rfl,rfl,trivial⟩) (aJ.refl _))
  exact pK [0] 0 0 .nil (.l f .nil)
theorem mx0 (k:Nat):ω (if ((0:Nat):Int)>(k:Int) then ((0:Nat):Int) else (k:Int))= ω (k:Int):=by rw [if_neg (by omega)]
theorem ge0 (k:Nat):AV.bool (decide (((0:Nat):Int)≤(k:Int)))= .bool true:=by rw [Yq0 (by omega)]
theorem WM (L:Lw) (a b c:Bool) (e:List UInt8) (d:L.ps.length<2^40):CO 39 [.agg (L.c a b c),.str e] (.ret (match RY L.ps e with|none=> .tup [.int .i64 0,.bool false]|some k=> .tup [.int .i64 (k:Int),.bool true])):=by
 cases f:RY L.ps e with
 |none=>
  have h:=Tz L.ps e c d;rw [f] at h;exact pK [] 0 0 (.n 1 .nil) (.c (h:CO 88 [.sl (bJ L.ps) L.ps.length c,.fn 89 [] [.pp [.str e] 0]] (.ret (ω (-1)))) .nil)
 |some k=>
  have h:=Tz L.ps e c d;rw [f] at h;exact pK [] 0 0 (.n 1 .nil) (.v 14 (.eq (ge0 k)) (.v 12 (.eq (mx0 k)) (.c (h:CO 88 [.sl (bJ L.ps) L.ps.length c,.fn 89 [] [.pp [.str e] 0]] (.ret (ω (k:Int)))) .nil)))
theorem Gn (os:List Cl) (z:Cl):ξ (os.length*2) (cL os)++cC z=cL (os++ [z]):=fE (f:=cC) (n:=2) (fun _=>rfl) os z rfl
def Ej (ps:List Pv) (nm:List UInt8):Nat:=(RY ps nm).getD 0
def QZ (ps:List Pv) (nm:List UInt8):Bool:=(RY ps nm).isSome
theorem NH (L:Lw) (a b c:Bool) (d:List UInt8) (e:L.ps.length<2^40):CO 39 [.agg (L.c a b c),.str d] (.ret (.tup [ω ((Ej L.ps d:Nat):Int),.bool (QZ L.ps d)])):=by
 have h:=WM L a b c d e;unfold Ej QZ;cases f:RY L.ps d with
 |none=>rw [f] at h;exact h
 |some k=>rw [f] at h;exact h
def kR (L:Lw) (s:Int) (w:Cl) (x:Nd):Option Cl:=if QZ L.ps x.name then (if x.op==((6:Nat):Int) then some (w.1,((Ej L.ps x.name:Nat):Int)) else if x.op==((8:Nat):Int) then (if s==((2:Nat):Int) then some (1 - w.1,((Ej L.ps x.name:Nat):Int)) else none) else none) else none
def aii (os:List Cl):AV:=match os with| []=> .nilS|_::_=> .ref 2 0 0 os.length
def aih (os:List Cl):Hp:=match os with| []=> []|_::_=> [(2,cB os)]
def QV (L:Lw) (a b c:Bool) (s:Int) (w:Cl) (bd:List Nd) (p:Nat × List Cl):St:=⟨[(1,ω s),(3,.ptr 0 0 0),(5,.ptr 1 0 0),(7,aii p.2),(23,.sl (bV bd) bd.length false),(24,ω (bd.length:Int)),(25,ω (p.1:Int))],(0,⟨L.c a b c,0,false,0,0,true⟩)::(1,⟨cC w,0,false,0,0,true⟩)::aih p.2,.dead,[]⟩
def VH (os:List Cl):St:=match os with| []=> ⟨[(7,.nilS)],[],.dead,[]⟩|_::_=> ⟨[(7,.ref 0 0 0 os.length)],[(0,cB os)],.dead,[]⟩
theorem akl {nt:Nat} (i:71≤nt) (L:Lw) (a b c:Bool) (s:Int) (w:Cl) (g:mP w) (f p:List Nd) (x:Nd) (k:Nat) (j:L.ps.length<2^40) (q:k<2^40) (n:k<f.length) (h:(θ ((γ (k:Int))*5) (bV f))=Qy x++bV p):
  ψ nt f16 (aao s (.sl (bV f) f.length false) f.length k (L.c a b c) (cC w)) .normal (QV L a b c s w f (k+1,(kR L s w x).toList)):=by
 have l:=NH L a b c x.name j;have d:(decide ((k:Int)<(f.length:Int)))=true:=kl n;have m:k<2^62:=by omega
 have o:ω (δ .i64 (((1:Nat):Int) - w.1))= ω (1 - w.1):=by
  have t:=g.1;have r:=g.2;rw [dZ]<;>first|rfl|omega
 rcases tf (QZ L.ps x.name) with b0|b0
 ·rcases tf (x.op==((6:Nat):Int)) with b1|b1
  ·have e:kR L s w x=some (w.1,((Ej L.ps x.name:Nat):Int)):=by simp only [kR,b0,b1,if_true,Xqi,if_false];try rfl
   rw [e];exact pN 16 [] 4 5 (.k 4 (ak b1) (.k 1 (dV b0) (.k 10 (k0 k) (.c d (.c (ak d) .nil))))) (.v 66 (.eq (wpS m)) (.c l (.v 27 (.ppt h) .nil))) i
  ·rcases tf (x.op==((8:Nat):Int)) with b2|b2
   ·rcases tf (s==((2:Nat):Int)) with b3|b3
    ·have e:kR L s w x=some (1 - w.1,((Ej L.ps x.name:Nat):Int)):=by simp only [kR,b0,b1,b2,b3,if_true,Xqi,if_false];try rfl
     rw [e];exact pN 16 [] 6 25 (.k 4 (ak b3) (.c (ak b2) (.k 1 (au b1) (.k 1 (dV b0) (.k 10 (k0 k) (.c d (.c (ak d) .nil))))))) (.v 66 (.eq (wpS m)) (.v 61 (.eq o) (.c l (.v 27 (.ppt h) .nil)))) i
    ·have e:kR L s w x=none:=by simp only [kR,b0,b1,b2,b3,if_true,Xqi,if_false];try rfl
     rw [e];exact pN 16 [] 5 9 (.c (au b3) (.c (ak b2) (.k 1 (au b1) (.k 1 (dV b0) (.k 10 (k0 k) (.c d (.c (ak d) .nil))))))) (.v 66 (.eq (wpS m)) (.c l (.v 27 (.ppt h) .nil))) i
   ·have e:kR L s w x=none:=by simp only [kR,b0,b1,b2,if_true,Xqi,if_false];try rfl
    rw [e];exact pN 16 [] 5 1 (.k 1 (au b2) (.k 1 (au b1) (.k 1 (dV b0) (.k 10 (k0 k) (.c d (.c (ak d) .nil)))))) (.v 66 (.eq (wpS m)) (.c l (.v 27 (.ppt h) .nil))) i
 ·have e:kR L s w x=none:=by simp only [kR,b0,if_true,Xqi,if_false];try rfl
  rw [e];exact pN 16 [] 2 3 (.c (fZ b0) (.k 10 (k0 k) (.c d (.c (ak d) .nil)))) (.v 66 (.eq (wpS m)) (.c l (.v 27 (.ppt h) .nil))) i
theorem ahX {nt:Nat} (f:71≤nt) (L:Lw) (a b c:Bool) (s:Int) (w:Cl) (d:List Nd):ψ nt f16 (aao s (.sl (bV d) d.length false) d.length d.length (L.c a b c) (cC w)) (.exit 0) ⟨[(7,.nilS)],[],.dead,[]⟩:=by
 have e:(decide ((d.length:Int)<(d.length:Int)))=false:=kn (ε _);exact pN 16 [] 1 0 (.c (au e) .nil) .nil f
theorem akk {nt:Nat} (n:71≤nt) (L:Lw) (a b c:Bool) (s:Int) (w:Cl) (i:mP w) (f u:List Nd) (x:Nd) (k:Nat) (os:List Cl) (d:os ≠ []) (z:os.length<2^40) (l:L.ps.length<2^40) (y:k<2^40) (t:k<f.length) (j:(θ ((γ ((k:Nat):Int))*5) (bV f))=Qy x++bV u):
  ψ nt f16 ⟨[(1,ω s),(3,.ptr 0 0 0),(5,.ptr 1 0 0),(7,.ref 2 0 0 os.length),(23,.sl (bV f) f.length false),(24,ω (f.length:Int)),(25,ω ((k:Nat):Int))],[(0,⟨L.c a b c,0,false,0,0,true⟩),(1,⟨cC w,0,false,0,0,true⟩),(2,cB os)],.dead,[]⟩ .normal (QV L a b c s w f (k+1,(os++(kR L s w x).toList))):=by
 have p:=NH L a b c x.name l;have h:(decide (((k:Nat):Int)<(f.length:Int)))=true:=kl t;have r:k<2^62:=by omega
 have v:ω (δ .i64 (((1:Nat):Int) - w.1))= ω (1 - w.1):=by
  have B:=i.1;have A:=i.2;rw [dZ]<;>first|rfl|omega
 have m:(Xqc (os.length+1) 1099511627776)=true:=(dA (by omega))
 have q:(Xqc (os.length*2) (ν (cL os)))=true:=(dA (nS (b_ os) (by omega)))
 have g:∀ os:List Cl,os ≠ []→∀ k,QV L a b c s w f (k,os)=⟨[(1,ω s),(3,.ptr 0 0 0),(5,.ptr 1 0 0),(7,.ref 2 0 0 os.length),(23,.sl (bV f) f.length false),(24,ω (f.length:Int)),(25,ω ((k:Nat):Int))],[(0,⟨L.c a b c,0,false,0,0,true⟩),(1,⟨cC w,0,false,0,0,true⟩),(2,cB os)],.dead,[]⟩:=fun os d k=>by cases os with|nil=>exact absurd rfl d|cons o os=>rfl
 rcases tf (QZ L.ps x.name) with b0|b0
 ·rcases tf (x.op==((6:Nat):Int)) with b1|b1
  ·have e:kR L s w x=some (w.1,((Ej L.ps x.name:Nat):Int)):=by simp only [kR,b0,b1,if_true,Xqi,if_false];try rfl
   rw [e];rw [g _ (by simp [d])];simp only [Xzw,υ,ο,Θ,Xqj,Φ];exact pN 16 [] 3 5 (.k 1 m (.c q (.k 2 (ak b1) (.k 1 (dV b0) (.k 10 (k0 k) (.c h (.c (ak h) .nil))))))) (.v 66 (.eq (wpS r)) (.b 49 (Gn os (w.1,(((Ej L.ps x.name):Nat):Int))) (.c p (.v 27 (.ppt j) .nil)))) n
  ·rcases tf (x.op==((8:Nat):Int)) with b2|b2
   ·rcases tf (s==((2:Nat):Int)) with b3|b3
    ·have e:kR L s w x=some (1 - w.1,((Ej L.ps x.name:Nat):Int)):=by simp only [kR,b0,b1,b2,b3,if_true,Xqi,if_false];try rfl
     rw [e];rw [g _ (by simp [d])];simp only [Xzw,υ,ο,Θ,Xqj,Φ];exact pN 16 [] 5 25 (.k 1 m (.c q (.k 2 (ak b3) (.c (ak b2) (.k 1 (au b1) (.k 1 (dV b0) (.k 10 (k0 k) (.c h (.c (ak h) .nil))))))))) (.v 66 (.eq (wpS r)) (.b 65 (Gn os (1 - w.1,(((Ej L.ps x.name):Nat):Int))) (.v 61 (.eq v) (.c p (.v 27 (.ppt j) .nil))))) n
    ·have e:kR L s w x=none:=by simp only [kR,b0,b1,b2,b3,if_true,Xqi,if_false];try rfl
     rw [e];rw [g _ (by simp [d])];simp only [Xzw,υ,ο,Θ,Xqj,Φ];exact pN 16 [] 5 9 (.c (au b3) (.c (ak b2) (.k 1 (au b1) (.k 1 (dV b0) (.k 10 (k0 k) (.c h (.c (ak h) .nil))))))) (.v 66 (.eq (wpS r)) (.c p (.v 27 (.ppt j) .nil))) n
   ·have e:kR L s w x=none:=by simp only [kR,b0,b1,b2,if_true,Xqi,if_false];try rfl
    rw [e];rw [g _ (by simp [d])];simp only [Xzw,υ,ο,Θ,Xqj,Φ];exact pN 16 [] 5 1 (.k 1 (au b2) (.k 1 (au b1) (.k 1 (dV b0) (.k 10 (k0 k) (.c h (.c (ak h) .nil)))))) (.v 66 (.eq (wpS r)) (.c p (.v 27 (.ppt j) .nil))) n
 ·have e:kR L s w x=none:=by simp only [kR,b0,if_true,Xqi,if_false];try rfl
  rw [e];rw [g _ (by simp [d])];simp only [Xzw,υ,ο,Θ,Xqj,Φ];exact pN 16 [] 2 3 (.c (fZ b0) (.k 10 (k0 k) (.c h (.c (ak h) .nil)))) (.v 66 (.eq (wpS r)) (.c p (.v 27 (.ppt j) .nil))) n
theorem ahW {nt:Nat} (f:71≤nt) (L:Lw) (a b c:Bool) (s:Int) (w:Cl) (d:List Nd) (os:List Cl):ψ nt f16 ⟨[(1,ω s),(3,.ptr 0 0 0),(5,.ptr 1 0 0),(7,.ref 2 0 0 os.length),(23,.sl (bV d) d.length false),(24,ω (d.length:Int)),(25,ω (d.length:Int))],[(0,⟨L.c a b c,0,false,0,0,true⟩),(1,⟨cC w,0,false,0,0,true⟩),(2,cB os)],.dead,[]⟩ (.exit 0) ⟨[(7,.ref 0 0 0 os.length)],[(0,cB os)],.dead,[]⟩:=by
 have e:(decide ((d.length:Int)<(d.length:Int)))=false:=kn (ε _);exact pN 16 [] 1 0 (.c (au e) .nil) .nil f
def lD (L:Lw) (s:Int) (w:Cl) (bd:List Nd):List Cl:=bd.filterMap (kR L s w)
theorem Ya {nt:Nat} (i:71≤nt) (L:Lw) (a b c:Bool) (s:Int) (w:Cl) (f:mP w) (d:List Nd) (e:L.ps.length<2^40) (q:d.length<2^39):
  aP prog ap [] nt (aj 0 (ae f16)) (fun _=> .exit 0) (QV L a b c s w d) VH (0,[]) (lD L s w d):=by
 have m:(2:Nat)^39=549755813888:=by decide
 have n:(2:Nat)^40=1099511627776:=by decide
 have j:AM.goL (fun (os:List Cl) x=>(Sum.inl (os++(kR L s w x).toList):List Cl ⊕ List Cl)) id d []=lD L s w d:=by
  have key:∀ (d:List Nd) (os:List Cl),AM.goL (fun (os:List Cl) x=>(Sum.inl (os++(kR L s w x).toList):List Cl ⊕ List Cl)) id d os=os++lD L s w d:=by
   intro d
   induction d with
   |nil=>intro os;simp [AM.goL,lD]
   |cons x d ih=>
    intro os;simp only [AM.goL];rw [ih];unfold lD;cases h:kR L s w x<;>simp [h]
  simpa using key d []
 rw [← j];refine aP.goD (fun (os:List Cl) x=>(Sum.inl (os++(kR L s w x).toList):List Cl ⊕ List Cl)) id d (fun p os=>os.length≤p.length) ?_ ?_ [] (by simp)
 ·intro p x r os k hp;have g:p.length<d.length:=nT k;have l:=dS nd5 k;refine .inl ⟨os++(kR L s w x).toList,rfl, ?_,by cases kR L s w x<;>simp<;>omega⟩;cases os with
  |nil=>exact akl i L a b c s w f d r x p.length e (by omega) g l
  |cons o os=>exact akk i L a b c s w f d r x p.length (o::os) (by simp) (by simp only [Θ] at hp ⊢;omega) e (by omega) g l
 ·intro os _;cases os with
  |nil=>exact ahX i L a b c s w d
  |cons o os=>exact ahW i L a b c s w d (o::os)
theorem aa9 {L:Lw} {s:Int} {w d:Cl} {x:Nd} (a:mP w) (h:kR L s w x=some d):mP d:=by
 unfold kR at h;obtain ⟨b,c⟩:=a;unfold mP;split at h
 ·split at h
  ·cases h;exact ⟨b,c⟩
  ·split at h
   ·split at h
    ·cases h;constructor<;>simp only<;>omega
    ·cases h
   ·cases h
 ·cases h
def lh (L:Lw) (s:Int) (w:Cl):List Cl:=if (aH s L.ps.length w) then di (jw (lD L s w ((L.ps[w.2.toNat]?.map Pv.body).getD []))) else []
theorem xR (l:List Cl) (C:List AV) (h:C.take (l.length*2)=cL l) {P:Program} {f:Nat} {args:List AV} (b:ah P ap f args [] (.ret (.own C l.length 2)) []):ah P ap f args [] (.ret (.sl (cL l) l.length false)) []:=by
 have a:=b.thaw (by simp);simp only [qL,thaw,h] at a;exact a.out (iP.ret rfl rfl (bF.sl _ _ _))
def vZ (L:Lw):Prop:=L.ps.length<2^40∧∀ p ∈ L.ps,p.body.length<2^39∧∀ s w,(lD L s w p.body).length≤12
theorem Yb (L:Lw) (a b c:Bool) (s:Int) (w:Cl) (M:vZ L):CO 16 [.agg (L.c a b c),ω s,cA w] (.ret (.sl (cL (lh L s w)) (lh L s w).length false)):=by
 obtain ⟨u,A⟩:=M;have d:=mG L a b c s w;unfold lh;cases g:(aH s L.ps.length w) with
 | false=>
  rw [g] at d;have h:CO 16 [.agg (L.c a b c),ω s,cA w] (.ret .nilS):=by
   generalize j:false=vq at d;have g:=j.symm;exact pK [0] 1 1 (.c (fZ g) (.n 5 .nil)) (.c d .nil)
  exact h.out (iP.ret rfl rfl (bF.nilS false rfl))
 | true=>
  have m:=g;unfold aH at m;simp only [η,decide_eq_true_eq] at m;obtain ⟨h0,N,S,F,H⟩:=m;have hs:s≤2:=by simp only [Xq7,beq_iff_eq] at h0;omega
  have r:mP w:=⟨N,by omega⟩
  have v:w.2.toNat<L.ps.length:=by omega
  have e:L.ps[w.2.toNat]? =some L.ps[w.2.toNat]:=ζ v;have i:L.ps[w.2.toNat] ∈ L.ps:=Xx1 v;have I:=(A _ i).1;have l:=(A _ i).2 s w;generalize L.ps[w.2.toNat]=p at e I l;have hp:=NJ Ul e;rw [aS] at hp;generalize O:(L.ps.drop (w.2.toNat+1))=rp at hp;change (θ ((γ w.2)*12) (bJ L.ps))=xn p++bJ rp at hp;rw [g] at d;simp only [e,Xqr,Xq9,if_true];have f:=aP.blk (id:=0) (e':= .normal) (s:=QV L a b c s w p.body (0,[])) (s':=VH (lD L s w p.body)) (fun nt (hn:71≤nt)=>Ya hn L a b c s w r p.body u (by omega)) (by simp) rfl (aJ.refl _) (aJ.refl _);have z:∀ x ∈ lD L s w p.body,mP x:=fun x K=>by
   obtain ⟨y,_,J⟩:=List.mem_filterMap.1 K;exact aa9 r J
  unfold QV at f;change bD _ _ _ _ _ ⟨_,[(0,⟨L.c a b c,0,false,0,0,true⟩),(1,⟨cC w,0,false,0,0,true⟩)],_,_⟩ _ _ at f;generalize j:true=vq at d;have g:=j.symm;cases G:lD L s w p.body with
  | nil=>
   rw [G] at f;have h:CO 16 [.agg (L.c a b c),ω s,cA w] (.ret .nilS):=by
    have k:(decide (((0:Nat):Int)≤w.2))=true:=(Yq0 F)
    have q:(decide (w.2<(L.ps.length:Int)))=true:=(Yq0 H)
    have E:LB 71 0 f16 (aap (.agg [.sl L.fx L.fn a,.sl L.sx L.sn b,.sl (bJ L.ps) L.ps.length c]) s (.agg [ω w.1,ω w.2]) (!vq) (.sl (bV p.body) p.body.length false) p.body.length [.sl L.fx L.fn a,.sl L.sx L.sn b,.sl (bJ L.ps) L.ps.length c] [ω w.1,ω w.2]) (.normal) ⟨[(7,.nilS)],[],.dead,[]⟩:=(fun nt n=>(f nt n).weak (aJ.of ⟨rfl,rfl,rfl,rfl,rfl,rfl,rfl,trivial⟩) (aJ.refl _))
    exact pK [0] 1 0 (.k 1 k (.c q (.k 2 (dV g) (.n 5 .nil)))) (.c IJ (.c Vg (.l E (.v 21 (.ppt hp) (.c d .nil)))))
   exact h.out (iP.ret rfl rfl (bF.nilS false rfl))
  |cons o os=>
   rw [G] at f z l;have D:=XU (o::os) l z;have B:=(vK (o::os)).length_eq;have t:=Lc (jw (o::os)) (by omega);rw [B] at t;have C:(cL (di (jw (o::os)))++Ip ((o::os).length - (di (jw (o::os))).length)).take ((di (jw (o::os))).length*2)=cL (di (jw (o::os))):=Xq8 (b_ _);unfold VH at f;refine xR _ (ξ ((di (jw (o::os))).length*2) (cL (di (jw (o::os)))++Ip ((o::os).length - (di (jw (o::os))).length))) (by rw [List.take_take,Nat.min_self];exact C) ?_;change bD _ _ _ _ _ _ _ ⟨[(7,.ref 0 0 0 (o::os).length)],[(0,cB (o::os))],_,_⟩ at f;generalize Q:jw (o::os)=o2 at*
   generalize (di o2).length=n3 at*
   generalize R:o::os=o1 at*
   generalize o1.length=n1 at*
   generalize cL (di o2)++Ip (n1 - n3)=C3 at*
   have k:(decide (((0:Nat):Int)≤w.2))=true:=(Yq0 F)
   have q:(decide (w.2<(L.ps.length:Int)))=true:=(Yq0 H)
   have E:LB 71 0 f16 (aap (.agg [.sl L.fx L.fn a,.sl L.sx L.sn b,.sl (bJ L.ps) L.ps.length c]) s (.agg [ω w.1,ω w.2]) (!vq) (.sl (bV p.body) p.body.length false) p.body.length [.sl L.fx L.fn a,.sl L.sx L.sn b,.sl (bJ L.ps) L.ps.length c] [ω w.1,ω w.2]) (.normal) ⟨[(7,.ref 0 0 0 n1)],[(0,⟨(cL o1),0,false,0,2,true⟩)],.dead,[]⟩:=(fun nt n=>(f nt n).weak (aJ.of ⟨rfl,rfl,rfl,rfl,rfl,rfl,rfl,trivial⟩) (aJ.refl _))
   exact pK [0] 1 0 (.k 1 k (.c q (.k 2 (dV g) (.n 5 .nil)))) (.c t (.c D (.l E (.v 21 (.ppt hp) (.c d .nil)))))
def n_ (s:Int) (n q:Nat):List Cl:=(Xqf n).flatMap fun k=>if aH s n ((q:Int),((k:Nat):Int)) then [((q:Int),((k:Nat):Int))] else []
def clS (L:Lw) (a b c:Bool) (s:Int) (q:Nat) (p:Nat × List Cl):St:=match p.2 with
 | []=>(D8 s q q L.ps.length p.1 (L.c a b c))
 |o::os2=> ⟨[(1,.int .i64 s),(2,.ptr 0 0 0),(5,.ref 1 0 0 (o::os2).length),(6,.int .i64 (q:Int)),(9,.int .i64 (q:Int)),(14,.int .i64 (L.ps.length:Int)),(15,.int .i64 (p.1:Int))],[(0,⟨L.c a b c,0,false,0,0,true⟩),(1,cB (o::os2))],.dead,[]⟩
def clO (L:Lw) (a b c:Bool) (s:Int) (q:Nat) (os:List Cl):St:=match os with
 | []=>(Kv s q (L.c a b c))
 |o::os2=> ⟨[(1,.int .i64 s),(2,.ptr 0 0 0),(5,.ref 1 0 0 (o::os2).length),(9,.int .i64 (q:Int))],[(0,⟨L.c a b c,0,false,0,0,true⟩),(1,cB (o::os2))],.dead,[]⟩
theorem ac2 {nt:Nat} (l:32≤nt) (L:Lw) (a b c:Bool) (s:Int) (q k:Nat) (f:k<2^40) (d:k<L.ps.length) (h:aH s L.ps.length ((q:Int),(k:Int))=true):
  af prog ap [] nt (aj 2 (ae f49)) (D8 s q q L.ps.length k (L.c a b c)) .normal ⟨[(1,ω s),(2,.ptr 0 0 0),(5,.ref 1 0 0 1),(6,ω (q:Int)),(9,ω (q:Int)),(14,ω (L.ps.length:Int)),(15,ω ((k+1:Nat):Int))],[(0,⟨L.c a b c,0,false,0,0,true⟩),(1,cB [((q:Int),(k:Int))])],.dead,[]⟩:=by
 have e:=mG L a b c s ((q:Int),(k:Int));have j:(decide ((k:Int)<(L.ps.length:Int)))=true:=kl d;have i:k<2^62:=by omega
 generalize g:aH s L.ps.length ((q:Int),(k:Int))=vq at*
 exact pN 49 [] 3 3 (.k 5 (ak h) (.k 6 (ak j) .nil)) (.v 29 (.eq (wpS i)) (.c e .nil)) l
theorem acY {nt:Nat} (l:32≤nt) (L:Lw) (a b c:Bool) (s:Int) (q k:Nat) (f:k<2^40) (d:k<L.ps.length) (h:aH s L.ps.length ((q:Int),(k:Int))=false):
  af prog ap [] nt (aj 2 (ae f49)) (D8 s q q L.ps.length k (L.c a b c)) .normal (D8 s q q L.ps.length (k+1) (L.c a b c)):=by
 have e:=mG L a b c s ((q:Int),(k:Int));have j:(decide ((k:Int)<(L.ps.length:Int)))=true:=kl d;have i:k<2^62:=by omega
 generalize g:aH s L.ps.length ((q:Int),(k:Int))=vq at*
 exact pN 49 [] 2 1 (.c (au h) (.k 6 (ak j) .nil)) (.v 29 (.eq (wpS i)) (.c e .nil)) l
theorem acW {nt:Nat} (e:32≤nt) (L:Lw) (a b c:Bool) (s:Int) (q:Nat):af prog ap [] nt (aj 2 (ae f49)) (D8 s q q L.ps.length L.ps.length (L.c a b c)) (.exit 2) (Kv s q (L.c a b c)):=by
 have d:(decide ((L.ps.length:Int)<(L.ps.length:Int)))=false:=kn (ε _);exact pN 49 [] 1 0 (.c (au d) .nil) .nil e
theorem ac1 {nt:Nat} (i:32≤nt) (L:Lw) (a b c:Bool) (s:Int) (q k:Nat) (os:List Cl) (o:os.length<2^40) (j:k<2^40) (e:k<L.ps.length) (h:aH s L.ps.length ((q:Int),(k:Int))=true):
  af prog ap [] nt (aj 2 (ae f49)) ⟨[(1,ω s),(2,.ptr 0 0 0),(5,.ref 1 0 0 os.length),(6,ω (q:Int)),(9,ω (q:Int)),(14,ω (L.ps.length:Int)),(15,ω (k:Int))],[(0,⟨L.c a b c,0,false,0,0,true⟩),(1,cB os)],.dead,[]⟩ .normal ⟨[(1,ω s),(2,.ptr 0 0 0),(5,.ref 1 0 0 (os.length+1)),(6,ω (q:Int)),(9,ω (q:Int)),(14,ω (L.ps.length:Int)),(15,ω ((k+1:Nat):Int))],[(0,⟨L.c a b c,0,false,0,0,true⟩),(1,cB (os++ [((q:Int),(k:Int))]))],.dead,[]⟩:=by
 have g:=mG L a b c s ((q:Int),(k:Int));have n:(decide ((k:Int)<(L.ps.length:Int)))=true:=kl e;have m:k<2^62:=by omega
 generalize l:aH s L.ps.length ((q:Int),(k:Int))=vq at*
 have d:(Xqc (os.length+1) 1099511627776)=true:=(dA (by omega))
 have f:(Xqc (os.length*2) (ν (cL os)))=true:=(dA (nS (b_ os) (by omega)))
 exact pN 49 [] 2 3 (.k 1 d (.c f (.k 3 (ak h) (.k 6 (ak n) .nil)))) (.v 29 (.eq (wpS m)) (.b 28 (Gn os ((q:Int),(k:Int))) (.c g .nil))) i
theorem acX {nt:Nat} (g:32≤nt) (L:Lw) (a b c:Bool) (s:Int) (q k:Nat) (os:List Cl) (o:os.length<2^40) (i:k<2^40) (d:k<L.ps.length) (f:aH s L.ps.length ((q:Int),(k:Int))=false):
  af prog ap [] nt (aj 2 (ae f49)) ⟨[(1,ω s),(2,.ptr 0 0 0),(5,.ref 1 0 0 os.length),(6,ω (q:Int)),(9,ω (q:Int)),(14,ω (L.ps.length:Int)),(15,ω (k:Int))],[(0,⟨L.c a b c,0,false,0,0,true⟩),(1,cB os)],.dead,[]⟩ .normal ⟨[(1,ω s),(2,.ptr 0 0 0),(5,.ref 1 0 0 os.length),(6,ω (q:Int)),(9,ω (q:Int)),(14,ω (L.ps.length:Int)),(15,ω ((k+1:Nat):Int))],[(0,⟨L.c a b c,0,false,0,0,true⟩),(1,cB os)],.dead,[]⟩:=by
 have e:=mG L a b c s ((q:Int),(k:Int));have n:(decide ((k:Int)<(L.ps.length:Int)))=true:=kl d;have m:k<2^62:=by omega
 generalize l:aH s L.ps.length ((q:Int),(k:Int))=vq at*
 have h:(Xqc (os.length+1) 1099511627776)=true:=(dA (by omega))
 have j:(Xqc (os.length*2) (ν (cL os)))=true:=(dA (nS (b_ os) (by omega)))
 exact pN 49 [] 2 1 (.c (au f) (.k 6 (ak n) .nil)) (.v 29 (.eq (wpS m)) (.c e .nil)) g
theorem acV {nt:Nat} (e:32≤nt) (L:Lw) (a b c:Bool) (s:Int) (q:Nat) (os:List Cl):af prog ap [] nt (aj 2 (ae f49)) ⟨[(1,ω s),(2,.ptr 0 0 0),(5,.ref 1 0 0 os.length),(6,ω (q:Int)),(9,ω (q:Int)),(14,ω (L.ps.length:Int)),(15,ω (L.ps.length:Int))],[(0,⟨L.c a b c,0,false,0,0,true⟩),(1,cB os)],.dead,[]⟩ (.exit 2) ⟨[(1,ω s),(2,.ptr 0 0 0),(5,.ref 1 0 0 os.length),(9,ω (q:Int))],[(0,⟨L.c a b c,0,false,0,0,true⟩),(1,cB os)],.dead,[]⟩:=by
 have d:(decide ((L.ps.length:Int)<(L.ps.length:Int)))=false:=kn (ε _);exact pN 49 [] 1 0 (.c (au d) .nil) .nil e
theorem Wl {nt:Nat} (e:32≤nt) (L:Lw) (a b c:Bool) (s:Int) (q:Nat) (os:List Cl) (n:os.length+L.ps.length<2^40):
  aP prog ap [] nt (aj 2 (ae f49)) (fun _=> .exit 2) (clS L a b c s q) (clO L a b c s q) (0,os) (os++n_ s L.ps.length q):=by
 have h:∀ (l:List Nat) (os:List Cl),AM.goL (fun (os:List Cl) k=>(Sum.inl (os++(if aH s L.ps.length ((q:Int),((k:Nat):Int)) then [((q:Int),((k:Nat):Int))] else [])):List Cl ⊕ List Cl)) id l os=os++l.flatMap fun k=>if aH s L.ps.length ((q:Int),((k:Nat):Int)) then [((q:Int),((k:Nat):Int))] else []:=by
  intro l
  induction l with
  |nil=>intro os;simp [AM.goL]
  |cons x l ih=>intro os;simp only [AM.goL];rw [ih];simp
 unfold n_;rw [← h];have j:(Xqf L.ps.length).length=L.ps.length:=Xjm;refine aP.goD (fun (os:List Cl) k=>(Sum.inl (os++(if aH s L.ps.length ((q:Int),((k:Nat):Int)) then [((q:Int),((k:Nat):Int))] else [])):List Cl ⊕ List Cl)) id (Xqf L.ps.length) (fun p f=>f.length≤os.length+p.length) ?_ ?_ os (by simp)
 ·intro p k r f i hp;have d:p.length<L.ps.length:=by rw [← j,i];simp
  have m:k=p.length:=by
   have:=congrArg (fun l=>l[p.length]?) i;simp only [Xqz (ε _),Xzf,List.getElem?_cons_zero] at this;rw [List.getElem?_range d] at this;exact (Option.some.inj this).symm
  subst m;refine .inl ⟨_,rfl, ?_,by split<;>simp<;>omega⟩;cases g:aH s L.ps.length ((q:Int),(p.length:Int)) with
  |true=>
   rw [if_pos rfl];cases f with
   |nil=>exact ac2 e L a b c s q p.length (by omega) d g
   |cons o os'=>have:=ac1 e L a b c s q p.length (o::os') (by omega) (by omega) d g;simpa [clS] using this
  |false=>
   rw [if_neg (by simp),υ];cases f with
   |nil=>exact acY e L a b c s q p.length (by omega) d g
   |cons o os'=>exact acX e L a b c s q p.length (o::os') (by omega) (by omega) d g
 ·intro f _;rw [j];cases f with
  |nil=>exact acW e L a b c s q
  |cons o os'=>exact acV e L a b c s q (o::os')
def ax (s:Int) (n:Nat):List Cl:=n_ s n 0++n_ s n 1
theorem aa1 {nt:Nat} (g:32≤nt) (L:Lw) (a b c:Bool) (s:Int) (q n1 n2:Nat) (k l:List Cl) (e:q<2) (f:LB 32 2 f49 (D8 s q q L.ps.length 0 (L.c a b c)) .normal (Kv s q (L.c a b c))):
  ψ nt f49 (Kv s q (L.c a b c)) .normal (Kv s (q+1) (L.c a b c)):=by
 have i:(decide ((q:Int)<((2:Nat):Int)))=true:=kl e;have h:q<2^62:=by omega
 have j:LB 32 2 f49 (Px (.dead) s (.dead) (ω (q:Int)) (q:Int) (.bool (decide ((q:Int)<((2:Nat):Int)))) (ω (L.ps.length:Int)) (ω 0) [.sl L.fx L.fn a,.sl L.sx L.sn b,.sl (bJ L.ps) L.ps.length c]) (.normal) (Kv s q [.sl L.fx L.fn a,.sl L.sx L.sn b,.sl (bJ L.ps) L.ps.length c]):=(fun nt d=>(f nt d).weak (aJ.of ⟨rfl,rfl,rfl,rfl,rfl,rfl,rfl,trivial⟩) (aJ.refl _))
 exact pN 49 [2] 1 1 (.k 1 (ak i) .nil) (.v 30 (.eq (wpS h)) (.l j .nil)) g
theorem aa0 {nt:Nat} (h:32≤nt) (L:Lw) (a b c:Bool) (s:Int) (q n1 n2:Nat) (l f:List Cl) (e:q<2) (g:LB 32 2 f49 (D8 s q q L.ps.length 0 (L.c a b c)) .normal ⟨[(1,ω s),(2,.ptr 0 0 0),(5,.ref 1 0 0 n2),(9,ω (q:Int))],[(0,⟨L.c a b c,0,false,0,0,true⟩),(1,cB f)],.dead,[]⟩):
  ψ nt f49 (Kv s q (L.c a b c)) .normal ⟨[(1,ω s),(2,.ptr 0 0 0),(5,.ref 1 0 0 n2),(9,ω ((q+1:Nat):Int))],[(0,⟨L.c a b c,0,false,0,0,true⟩),(1,cB f)],.dead,[]⟩:=by
 have j:(decide ((q:Int)<((2:Nat):Int)))=true:=kl e;have i:q<2^62:=by omega
 have k:LB 32 2 f49 (Px (.dead) s (.dead) (ω (q:Int)) (q:Int) (.bool (decide ((q:Int)<((2:Nat):Int)))) (ω (L.ps.length:Int)) (ω 0) [.sl L.fx L.fn a,.sl L.sx L.sn b,.sl (bJ L.ps) L.ps.length c]) (.normal) (aaq s n2 q [.sl L.fx L.fn a,.sl L.sx L.sn b,.sl (bJ L.ps) L.ps.length c] (cL f)):=(fun nt d=>(g nt d).weak (aJ.of ⟨rfl,rfl,rfl,rfl,rfl,rfl,rfl,trivial⟩) (aJ.refl _))
 exact pN 49 [2] 1 1 (.k 1 (ak j) .nil) (.v 30 (.eq (wpS i)) (.l k .nil)) h
theorem aaZ {nt:Nat} (i:32≤nt) (L:Lw) (a b c:Bool) (s:Int) (q n1 n2:Nat) (f g:List Cl) (e:q<2) (h:LB 32 2 f49 ⟨[(1,ω s),(2,.ptr 0 0 0),(5,.ref 1 0 0 n1),(6,ω (q:Int)),(9,ω (q:Int)),(14,ω (L.ps.length:Int)),(15,ω ((0:Nat):Int))],[(0,⟨L.c a b c,0,false,0,0,true⟩),(1,cB f)],.dead,[]⟩ .normal ⟨[(1,ω s),(2,.ptr 0 0 0),(5,.ref 1 0 0 n2),(9,ω (q:Int))],[(0,⟨L.c a b c,0,false,0,0,true⟩),(1,cB g)],.dead,[]⟩):
  ψ nt f49 ⟨[(1,ω s),(2,.ptr 0 0 0),(5,.ref 1 0 0 n1),(9,ω (q:Int))],[(0,⟨L.c a b c,0,false,0,0,true⟩),(1,cB f)],.dead,[]⟩ .normal ⟨[(1,ω s),(2,.ptr 0 0 0),(5,.ref 1 0 0 n2),(9,ω ((q+1:Nat):Int))],[(0,⟨L.c a b c,0,false,0,0,true⟩),(1,cB g)],.dead,[]⟩:=by
 have k:(decide ((q:Int)<((2:Nat):Int)))=true:=kl e;have j:q<2^62:=by omega
 have l:LB 32 2 f49 ⟨[(0,.dead),(1,ω s),(2,.ptr 0 0 0),(4,.dead),(5,.ref 1 0 0 n1),(6,ω (q:Int)),(7,.dead),(8,.dead),(9,ω (q:Int)),(10,.bool (decide ((q:Int)<((2:Nat):Int)))),(14,ω (L.ps.length:Int)),(15,ω 0),(16,.dead),(24,.dead)],[(0,⟨[.sl L.fx L.fn a,.sl L.sx L.sn b,.sl (bJ L.ps) L.ps.length c],0,false,0,0,true⟩),(1,⟨(cL f),0,false,0,2,true⟩)],.dead,[]⟩ (.normal) (aaq s n2 q [.sl L.fx L.fn a,.sl L.sx L.sn b,.sl (bJ L.ps) L.ps.length c] (cL g)):=(fun nt d=>(h nt d).weak (aJ.of ⟨rfl,rfl,rfl,rfl,rfl,rfl,rfl,trivial⟩) (aJ.refl _))
 exact pN 49 [2] 1 1 (.k 1 (ak k) .nil) (.v 30 (.eq (wpS j)) (.l l .nil)) i
theorem ac0 {nt:Nat} (e:32≤nt) (L:Lw) (a b c:Bool) (s:Int) (n1:Nat) (f:List Cl):ψ nt f49 (Kv s 2 (L.c a b c)) (.exit 0) ⟨[(5,.nilS)],[],.dead,[]⟩:=by
 have d:(decide (((2:Nat):Int)<((2:Nat):Int)))=false:=by decide
 exact pN 49 [2] 1 0 (.c (au d) .nil) .nil e
theorem acZ {nt:Nat} (f:32≤nt) (L:Lw) (a b c:Bool) (s:Int) (n1:Nat) (d:List Cl):ψ nt f49 ⟨[(1,ω s),(2,.ptr 0 0 0),(5,.ref 1 0 0 n1),(9,ω ((2:Nat):Int))],[(0,⟨L.c a b c,0,false,0,0,true⟩),(1,cB d)],.dead,[]⟩ (.exit 0) ⟨[(5,.ref 0 0 0 n1)],[(0,cB d)],.dead,[]⟩:=by
 have e:(decide (((2:Nat):Int)<((2:Nat):Int)))=false:=by decide
 exact pN 49 [2] 1 0 (.c (au e) .nil) .nil f
theorem Nu {nt:Nat} (e:32≤nt) (L:Lw) (a b c:Bool) (s:Int) (q:Nat) (os:List Cl) (d:q<2) (g:os.length+L.ps.length<2^40):
  ψ nt f49 (clO L a b c s q os) .normal (clO L a b c s (q+1) (os++n_ s L.ps.length q)):=by
 have f:=aP.blk (id:=2) (e':= .normal) (s:=clS L a b c s q (0,os)) (s':=clO L a b c s q (os++n_ s L.ps.length q)) (fun nt (e:32≤nt)=>Wl e L a b c s q os g) (by simp) rfl (aJ.refl _) (aJ.refl _);generalize h:n_ s L.ps.length q=row at*
 clear h;cases os with
 |nil=>
  rw [μ] at*
  cases row with
  |nil=>exact aa1 e L a b c s q 0 0 [] [] d f
  |cons y o2=>exact aa0 e L a b c s q 0 (y::o2).length [] (y::o2) d f
 |cons x os=>exact aaZ e L a b c s q (x::os).length (x::os++row).length (x::os) (x::os++row) d f
def clR (os:List Cl):St:=match os with| []=> ⟨[(5,.nilS)],[],.dead,[]⟩|o::os2=> ⟨[(5,.ref 0 0 0 (o::os2).length)],[(0,cB (o::os2))],.dead,[]⟩
theorem aaY {nt:Nat} (e:32≤nt) (L:Lw) (a b c:Bool) (s:Int) (g:L.ps.length<2^38):aP prog ap [] nt (aj 0 (ae f49)) (fun _=> .exit 0) (fun p:Nat × List Cl=>clO L a b c s p.1 p.2) clR (0,[]) (ax s L.ps.length):=by
 have d:∀ q,(n_ s L.ps.length q).length≤L.ps.length:=fun q=>by
  unfold n_;rw [Xzy];have:∀ l:List Nat,(l.map fun k=>(if aH s L.ps.length (((q:Nat):Int),((k:Nat):Int)) then [((((q:Nat):Int),((k:Nat):Int)):Cl)] else []).length).sum≤l.length:=by
   intro l
   induction l with
   |nil=>simp
   |cons x l ih=>simp only [χ,Xvg,Θ];split<;>simp<;>omega
  have:=this (Xqf L.ps.length);rwa [Xjm] at this
 have f:(2:Nat)^38=274877906944:=by decide
 have h0:=d 0;refine .next (a':=(1,n_ s L.ps.length 0)) (by simpa using Nu e L a b c s 0 [] (by omega) (by simp;omega)) ?_
 refine .next (a':=(2,ax s L.ps.length)) (Nu e L a b c s 1 (n_ s L.ps.length 0) (by omega) (by omega)) (.done ?_)
 generalize ax s L.ps.length=o1;cases o1 with
 |nil=>exact ac0 e L a b c s 0 []
 |cons o os=>exact acZ e L a b c s (o::os).length (o::os)
def XE (l:List Cl):AV:=match l with| []=> .nilS|o::os=> .own (cL (o::os)) (o::os).length 2
theorem Bf (L:Lw) (a b c:Bool) (s:Int) (i:L.ps.length<2^38):CO 49 [.agg (L.c a b c),ω s] (.ret (XE (ax s L.ps.length))):=by
 have e:=aP.blk (id:=0) (e':= .normal) (s:=clO L a b c s 0 []) (s':=clR (ax s L.ps.length)) (fun nt (hn:32≤nt)=>aaY hn L a b c s i) (by simp) rfl (aJ.refl _) (aJ.refl _);cases h:ax s L.ps.length with
 |nil=>
  rw [h] at e;have f:LB 32 0 f49 (Px (.agg [.sl L.fx L.fn a,.sl L.sx L.sn b,.sl (bJ L.ps) L.ps.length c]) s (.nilS) (.dead) 0 (.dead) (.dead) (.dead) [.sl L.fx L.fn a,.sl L.sx L.sn b,.sl (bJ L.ps) L.ps.length c]) (.normal) ⟨[(5,.nilS)],[],.dead,[]⟩:=(fun nt d=>(e nt d).weak (aJ.of ⟨rfl,rfl,rfl,rfl,trivial⟩) (aJ.refl _))
  exact pK [0] 0 0 .nil (.l f .nil)
 |cons o os=>
  rw [h] at e;have g:ξ ((o::os).length*2) (cL (o::os))=cL (o::os):=τ (by rw [b_];exact ε _);show CO 49 _ (.ret (.own (cL (o::os)) (o::os).length 2));rw [← g];change bD _ _ _ _ _ _ _ ⟨[(5,.ref 0 0 0 (o::os).length)],[(0,cB (o::os))],_,_⟩ at e;clear g;generalize j:o::os=o1 at*
  generalize o1.length=n1 at*
  have f:LB 32 0 f49 (Px (.agg [.sl L.fx L.fn a,.sl L.sx L.sn b,.sl (bJ L.ps) L.ps.length c]) s (.nilS) (.dead) 0 (.dead) (.dead) (.dead) [.sl L.fx L.fn a,.sl L.sx L.sn b,.sl (bJ L.ps) L.ps.length c]) (.normal) ⟨[(5,.ref 0 0 0 n1)],[(0,⟨(cL o1),0,false,0,2,true⟩)],.dead,[]⟩:=(fun nt d=>(e nt d).weak (aJ.of ⟨rfl,rfl,rfl,rfl,trivial⟩) (aJ.refl _))
  exact pK [0] 0 0 .nil (.l f .nil)
noncomputable def YW (t:Nat):AV→Bool:=match ap.tyAt t with|some ti=>g_ ti|none=>fun _=>false
theorem abr (x:Cl):YW 25 (cA x)=true:=by kernel_rfl
theorem tJ (l:List Cl):Xw5 (l.map cA) (YW 25)=true:=by
 rw [List.all_eq_true];intro k a;obtain ⟨x,_,rfl⟩:=List.mem_map.1 a;exact abr x
theorem vH (x y:Cl):BH (cA x) (cA y)=true↔x=y:=by
 simp only [cA,cC,BH,GL,BI,Xzh,η,beq_iff_eq];exact ⟨fun h=>Xv8 h.1 h.2,fun h=>h ▸ ⟨rfl,rfl⟩⟩
theorem aaQ {l:List Cl} {x:Cl}:List.any (l.map cA) (BH (cA x))=true↔x ∈ l:=by
 rw [List.any_eq_true];constructor
 ·rintro ⟨k,hk,h⟩
  obtain ⟨y,a,rfl⟩:=List.mem_map.1 hk;rw [(vH x y).1 h];exact a
 ·intro h;exact ⟨cA x,List.mem_map.2 ⟨x,h,rfl⟩,(vH x x).2 rfl⟩
theorem JD {l:List Cl} {x:Cl} (h:x ∉ l):yC (l.map cA) (cA x)=(l++ [x]).map cA:=by
 unfold yC;have:List.any (l.map cA) (BH (cA x))=false:=by
  rw [Xjn];exact fun e=>h (aaQ.1 e)
 rw [this];simp
theorem Dt:∀ {l:List Cl} {x:Cl} (vs:List AV) (v:AV),x ∉ l→vs.length=l.length→nZ (l.map cA) vs (cA x) v=vs++ [v]
 | [],x,[],v,_,_=>rfl
 | [],x,_::_,v,_,h=>by simp at h
 |y::l,x,[],v,_,h=>by simp at h
 |y::l,x,u::vs,v,h,hl=>by
  simp only [Xqu,not_or] at h;have e:BH (cA x) (cA y)=false:=by rw [Xjn];exact fun e=>h.1 ((vH x y).1 e)
  simp only [χ,nZ,e];rw [Dt vs v h.2 (by simpa using hl)];rfl
def dM (L:Lw) (s:Int) (l:List Cl):Ut:=l.map fun x=>(x,lh L s x)
def yM (W:Ut):List AV:=W.map fun x=> .sl (cL x.2) x.2.length false
theorem ahu {nt:Nat} (B:25≤nt) (L:Lw) (a b c:Bool) (s:Int) (y:vZ L) (l p r:List Cl) (x:Cl) (j:l=p++x::r) (z:l.length<2^40) (d:x ∉ p):
  ψ nt f47 (Py s (.sl (cL l) l.length false) l.length p.length (L.c a b c) [.agg (p.map cA),.agg (yM (dM L s p))]) .normal (Py s (.sl (cL l) l.length false) l.length (p.length+1) (L.c a b c) [.agg ((p++ [x]).map cA),.agg (yM (dM L s (p++ [x])))]):=by
 have m:=dS (f:=cC) (n:=2) (fun _=>rfl) j;change θ _ (cL l)=cC x++cL r at m;have A:=Yb L a b c s x y;have h:p.length<l.length:=nT j;have C:p.length<2^62:=by omega
 have e:=tJ p;have q:=JD d;have v:=Dt (yM (dM L s p)) (.sl (cL (lh L s x)) (lh L s x).length false) d (by simp [yM,dM]);have t:yM (dM L s (p++ [x]))=yM (dM L s p)++ [.sl (cL (lh L s x)) (lh L s x).length false]:=by simp [yM,dM]
 rw [t,← q,← v];have o:(decide ((p.length:Int)<(l.length:Int)))=true:=kl h;have hp:(p++ [x]).length=p.length+1:=by simp
 clear q v t j;generalize yM (dM L s p)=vs at*
 generalize List.map cA p=ks at*
 generalize lh L s x=u at*
 generalize p.length=k at*
 have g:(Xw5 ks (YW 25))=true:=e;have i:(decide ((k:Int)<(l.length:Int)))=true:=o;exact pN 47 [] 1 1 (.k 1 g (.k 11 i (.c (ak o) .nil))) (.v 23 (.eq (wpS C)) (.c A (.v 15 (.ppt m) .nil))) B
theorem aht {nt:Nat} (e:25≤nt) (L:Lw) (a b c:Bool) (s:Int) (l:List Cl) (ks vs:List AV):
  ψ nt f47 (Py s (.sl (cL l) l.length false) l.length l.length (L.c a b c) [.agg ks,.agg vs]) (.exit 0) (Vj [.agg ks,.agg vs]):=by
 have d:(decide ((l.length:Int)<(l.length:Int)))=false:=kn (ε _);exact pN 47 [] 1 0 (.c (au d) .nil) .nil e
theorem Pj {nt:Nat} (i:25≤nt) (L:Lw) (a b c:Bool) (s:Int) (j:vZ L) (l:List Cl) (f:l.length<2^40) (d:l.Nodup):∀ (r p:List Cl),l=p++r→
  aP prog ap [] nt (aj 0 (ae f47)) (fun _=> .exit 0) (fun p:List Cl=>(Py s (.sl (cL l) l.length false) l.length p.length (L.c a b c) [.agg (p.map cA),.agg (yM (dM L s p))])) (fun p:List Cl=>(Vj [.agg (p.map cA),.agg (yM (dM L s p))])) p l
 | [],p,h=>by
  have hp:p=l:=by rw [h];simp
  subst hp;exact .done (aht i L a b c s p _ _)
 | x::r,p,h=>by
  have g:x ∉ p:=by
   rw [h] at d;intro g;have:=(List.nodup_append.1 d).2.2 x g x (by simp);exact this rfl
  refine .next (a':=p++ [x]) ?_ (Pj i L a b c s j l f d r (p++ [x]) (by rw [h];simp))
  have:=ahu i L a b c s j l p r x h f g;have e:(p++ [x]).length=p.length+1:=by simp
  simpa [e] using this
theorem Rx (L:Lw) (a b c:Bool) (s:Int) (e:L.ps.length<2^38):CO 49 [.agg (L.c a b c),ω s] (.ret (.sl (cL (ax s L.ps.length)) (ax s L.ps.length).length false)):=by
 have h:=Bf L a b c s e;cases d:ax s L.ps.length with
 |nil=>rw [d] at h;exact h.out (iP.ret rfl rfl (bF.nilS false rfl))
 |cons o os=>rw [d] at h;exact xR (o::os) _ (τ (by rw [b_];exact ε _)) h
theorem xy {s:Int} {n q:Nat} {x:Cl}:x ∈ n_ s n q↔x.1=q∧aH s n x=true:=by
 unfold n_;rw [List.mem_flatMap];constructor
 ·rintro ⟨k,hk,hx⟩
  split at hx
  ·rename_i f;rw [List.mem_singleton] at hx;subst hx;exact ⟨rfl,f⟩
  ·cases hx
 ·rintro ⟨h1,h2⟩
  obtain ⟨a,b⟩:=x;simp only at h1;subst h1;have c:=h2;unfold aH at c;simp only [η,decide_eq_true_eq] at c;obtain ⟨_,_,_,d,g⟩:=c;have e:(b.toNat:Int)=b:=Int.toNat_of_nonneg d;refine ⟨b.toNat,List.mem_range.2 (by omega), ?_⟩;rw [e,if_pos h2];simp
theorem DL (s:Int) (n q:Nat):(n_ s n q).Nodup:=by
 unfold n_;have key:∀ l:List Nat,l.Nodup→(l.flatMap fun k=>if aH s n ((q:Int),((k:Nat):Int)) then [(((q:Int),((k:Nat):Int)):Cl)] else []).Nodup:=by
  intro l
  induction l with
  |nil=>intro _;simp
  |cons k l ih=>
   intro h;rw [List.nodup_cons] at h;rw [Xqg,Xx7];refine ⟨by split<;>simp,ih h.2,fun x b y a e=> ?_⟩;subst e;obtain ⟨k2,c,a⟩:=List.mem_flatMap.1 a;split at b<;>split at a<;>simp at b a
   rw [b] at a;simp at a;have:k=k2:=by omega
   subst this;exact h.1 c
 exact key _ Xx2
theorem dY {s:Int} {n:Nat} {x:Cl}:x ∈ ax s n↔aH s n x=true:=by
 unfold ax;rw [Xjo,xy,xy];constructor
 ·rintro (h|h)<;>exact h.2
 ·intro h;have a:=h;unfold aH at a;simp only [η,Xq7,decide_eq_true_eq,beq_iff_eq] at a;obtain ⟨h0,b,c,_⟩:=a;have:x.1=((0:Nat):Int)∨x.1=((1:Nat):Int):=by omega
  exact this.imp (fun e=> ⟨e,h⟩) (fun e=> ⟨e,h⟩)
theorem iJ (s:Int) (n:Nat):(ax s n).Nodup:=by
 unfold ax;rw [Xx7];refine ⟨DL _ _ _,DL _ _ _,fun x b y a e=> ?_⟩;subst e;have c:=(xy.1 b).1;have d:=(xy.1 a).1;omega
theorem KZ (s:Int) (n:Nat) (e:n<2^38):(ax s n).length<2^40:=by
 have a:∀ q,(n_ s n q).length≤n:=fun q=>by
  unfold n_;rw [Xzy];have:∀ l:List Nat,(l.map fun k=>(if aH s n (((q:Nat):Int),((k:Nat):Int)) then [((((q:Nat):Int),((k:Nat):Int)):Cl)] else []).length).sum≤l.length:=by
   intro l
   induction l with
   |nil=>simp
   |cons x l ih=>simp only [χ,Xvg,Θ];split<;>simp<;>omega
  have:=this (Xqf n);rwa [Xjm] at this
 have b:(2:Nat)^38=274877906944:=by decide
 have c:(2:Nat)^40=1099511627776:=by decide
 have h0:=a 0;have d:=a 1;unfold ax;rw [ο];omega
theorem XV (L:Lw) (a b c:Bool) (s:Int) (h:vZ L) (g:L.ps.length<2^38):ah prog ap 47 [.agg (L.c a b c),ω s] [] (.ret (.mr 0 0)) [⟨[.agg ((ax s L.ps.length).map cA),.agg (yM (dM L s (ax s L.ps.length)))],0,false,0,4611686018427387904,true⟩]:=by
 have i:=Rx L a b c s g;have e:=aP.blk (id:=0) (e':= .normal) (fun nt (f:25≤nt)=>Pj f L a b c s h (ax s L.ps.length) (KZ _ _ g) (iJ _ _) (ax s L.ps.length) [] rfl) (by simp) rfl (aJ.refl _) (aJ.refl _);simp only [Xjd,Xqj] at e;change bD _ _ _ _ _ ⟨_,[(0,⟨L.c a b c,0,false,0,0,true⟩),(1,⟨[.agg [],.agg []],0,false,0,4611686018427387904,true⟩)],_,_⟩ _ _ at e;generalize (ax s L.ps.length).map cA=ks at*
 generalize yM (dM L s (ax s L.ps.length))=vs at*
 generalize ax s L.ps.length=l at*
 have j:LB 25 0 f47 ⟨[(0,.agg [.sl L.fx L.fn a,.sl L.sx L.sn b,.sl (bJ L.ps) L.ps.length c]),(1,ω s),(2,.ptr 0 0 0),(4,.mp [] []),(5,.mr 1 0),(7,.dead),(11,.sl (cL l) l.length false),(12,ω (l.length:Int)),(13,ω 0),(14,.dead)],[(0,⟨[.sl L.fx L.fn a,.sl L.sx L.sn b,.sl (bJ L.ps) L.ps.length c],0,false,0,0,true⟩),(1,⟨[.agg [],.agg []],0,false,0,4611686018427387904,true⟩)],.dead,[]⟩ (.normal) (Vj [.agg ks,.agg vs]):=(fun nt d=>(e nt d).weak (aJ.of ⟨rfl,rfl,rfl,rfl,rfl,rfl,trivial⟩) (aJ.refl _))
 exact jm jW 1 (F:=⟨f47,[0,1,2,4,5,7,11,12,13,14],true⟩) rfl rfl (fun nt f=>(pN 47 [0] 0 0 (.n 3 .nil) (.l j (.c i .nil)) f:af prog ap [] nt (ae f47) (dO .dead [.agg (L.c a b c),ω s] []) .ret (Vk [.agg ks,.agg vs]))) rfl (Xqp _) rfl
def zN (l:List Cl):List AV:=l.map fun _=> .bool true
def qB (L:Lw) (a b c:Bool) (s:Int) (uk uv ks vs:List AV):List aK:= [⟨[.mr 5 0],0,false,0,0,false⟩,⟨[.sl L.fx L.fn a,.sl L.sx L.sn b,.sl (bJ L.ps) L.ps.length c],0,false,0,0,true⟩,⟨[ω s],0,false,0,0,true⟩,⟨[.mr 6 0],0,false,0,0,false⟩,⟨[.fn 56 [] [.ptr 0 0 0,.ptr 1 0 0,.ptr 2 0 0,.ptr 3 0 0,.ptr 4 0 0]],0,false,0,0,false⟩,⟨[.agg ks,.agg vs],0,false,0,4611686018427387904,true⟩,⟨[.agg uk,.agg uv],0,false,0,4611686018427387904,true⟩]
theorem xP:∀ (l:List Cl) (x:Cl),Xjr (iT (l.map cA) (zN l) (cA x)) (.bool false)= .bool (decide (x ∈ l))
 | [],x=>by simp [iT,zN]
 | y::l,x=>by
  simp only [zN,χ,iT];cases h:BH (cA x) (cA y) with
  |true=>have:=(vH x y).1 h;subst this;simp
  |false=>
   have a:x ≠ y:=fun e=>by rw [(vH x y).2 e] at h;cases h
   have:=xP l x;simp only [zN] at this;simp only [this,Xqu,a,false_or]
theorem R_:∀ (U:Ut) (x:Cl),bF (Xjr (iT (U.map fun x=>cA x.1) (yM U) (cA x)) .nilS) (.sl (cL (dn U x)) (dn U x).length false)
 | [],x=>by simpa [iT,yM,dn,cL] using bF.nilS false rfl
 | (y,l)::U,x=>by
  simp only [yM,χ,iT,dn];cases h:BH (cA x) (cA y) with
  |true=>have:=(vH x y).1 h;subst this;rw [if_pos rfl];exact bF.eq rfl
  |false=>
   have a:¬ y=x:=fun e=>by rw [(vH x y).2 e.symm] at h;cases h
   rw [if_neg a];exact R_ U x
theorem aco (U:Ut):Xw5 (U.map fun x=>cA x.1) (YW 25)=true:=by
 have:=tJ (U.map (·.1));rwa [Xz4] at this
def kX (us:Cl→List Cl) (ok:Cl→Bool):Nat→List Cl→Cl→List Cl
 |0,seen,_=>seen
 |n+1,seen,x=>if x ∈ seen then seen else if ok x then (us x).foldl (kX us ok n) (seen++ [x]) else seen
theorem Ef (us:Cl→List Cl) (ok:Cl→Bool):∀ (n:Nat) (seen:List Cl) (x:Cl),∃ t,kX us ok n seen x=seen++t
 |0,seen,_=> ⟨[],by simp [kX]⟩
 | n +1,seen,x=>by
  unfold kX;split
  ·exact ⟨[],by simp⟩
  ·split
   ·have key:∀ (l:List Cl) (a:List Cl),∃ t,l.foldl (kX us ok n) a=a++t:=by
     intro l
     induction l with
     |nil=>intro a;exact ⟨[],by simp⟩
     |cons y l ih=>
      intro a;obtain ⟨t,b⟩:=Ef us ok n a y;obtain ⟨d,c⟩:=ih (kX us ok n a y);exact ⟨t++d,by rw [Xqy,c,b,Ξ]⟩
    obtain ⟨t,b⟩:=key (us x) (seen++ [x]);exact ⟨[x]++t,by rw [b,Ξ]⟩
   ·exact ⟨[],by simp⟩
def vlS (L:Lw) (a b c:Bool) (s:Int) (uk uv:List AV) (l:List Cl) (k:Nat) (ks vs:List AV):St:=⟨[(1,.ptr 0 0 0),(2,.ptr 1 0 0),(3,.ptr 2 0 0),(4,.ptr 3 0 0),(5,.ptr 4 0 0),(23,.sl (cL l) l.length false),(24,ω (l.length:Int)),(25,ω (k:Int))],[(0,⟨[.mr 5 0],0,false,0,0,false⟩),(1,⟨[.sl L.fx L.fn a,.sl L.sx L.sn b,.sl (bJ L.ps) L.ps.length c],0,false,0,0,true⟩),(2,⟨[ω s],0,false,0,0,true⟩),(3,⟨[.mr 6 0],0,false,0,0,false⟩),(4,⟨[.fn 56 [] [.ptr 0 0 0,.ptr 1 0 0,.ptr 2 0 0,.ptr 3 0 0,.ptr 4 0 0]],0,false,0,0,false⟩),(5,⟨[.agg ks,.agg vs],0,false,0,4611686018427387904,true⟩),(6,⟨[.agg uk,.agg uv],0,false,0,4611686018427387904,true⟩)],.dead,[]⟩
theorem ahY (L:Lw) (a b c:Bool) (s:Int) (g h ks vs:List AV) (x:Cl) (e:Xw5 ks (YW 25)=true) (d:Xjr (iT ks vs (cA x)) (.bool false)= .bool true):ah prog ap 56 [cA x,.ptr 0 0 0,.ptr 1 0 0,.ptr 2 0 0,.ptr 3 0 0,.ptr 4 0 0] (qB L a b c s g h ks vs) (.ret (.tup [])) (qB L a b c s g h ks vs):=by
 obtain ⟨f,hs⟩:∃ f,f=true:=⟨_,rfl⟩
 have d:Xjr (iT ks vs (cA x)) (.bool false)= .bool f:=by rw [hs];exact d
 exact pK [0] 2 3 (.k 1 (ak hs) (.k 1 e (.n 3 .nil))) (.v 11 (.eq d) .nil)
theorem ahZ (L:Lw) (a b c:Bool) (s:Int) (h i ks vs:List AV) (x:Cl) (e:Xw5 ks (YW 25)=true) (d:Xjr (iT ks vs (cA x)) (.bool false)= .bool false) (j:aH s L.ps.length x=false):ah prog ap 56 [cA x,.ptr 0 0 0,.ptr 1 0 0,.ptr 2 0 0,.ptr 3 0 0,.ptr 4 0 0] (qB L a b c s h i ks vs) (.ret (.tup [])) (qB L a b c s h i ks vs):=by
 obtain ⟨f,hs⟩:∃ f,f=false:=⟨_,rfl⟩
 have d:Xjr (iT ks vs (cA x)) (.bool false)= .bool f:=by rw [hs];exact d
 have g:=mG L a b c s x;generalize aH s L.ps.length x=vq at*
 exact pK [0] 2 2 (.c (fZ j) (.k 6 (au hs) (.k 1 e (.n 3 .nil)))) (.c g (.v 11 (.eq d) .nil))
theorem ah0 (L:Lw) (a b c:Bool) (s:Int) (d e ks vs:List AV) (x:Cl) (g:Xw5 ks (YW 25)=true) (j:Xw5 d (YW 25)=true) (k2 v2:List AV) (us:List Cl) (f:Xjr (iT ks vs (cA x)) (.bool false)= .bool false) (m:aH s L.ps.length x=true) (i:bF (Xjr (iT d e (cA x)) .nilS) (.sl (cL us) us.length false))
  (l0:bD prog ap (qB L a b c s d e ks vs) 33 (.block 0 (.loop (aj 0 (ae f56)))) (vlS L a b c s d e us 0 (yC ks (cA x)) (nZ ks vs (cA x) (.bool true))) .normal (Vl [.sl L.fx L.fn a,.sl L.sx L.sn b,.sl (bJ L.ps) L.ps.length c] [ω s] [.agg k2,.agg v2] [.agg d,.agg e])):ah prog ap 56 [cA x,.ptr 0 0 0,.ptr 1 0 0,.ptr 2 0 0,.ptr 3 0 0,.ptr 4 0 0] (qB L a b c s d e ks vs) (.ret (.tup [])) (qB L a b c s d e k2 v2):=by
 unfold vlS qB at l0;have n:bD prog ap [⟨[.mr 5 0],0,false,0,0,false⟩,⟨[.sl L.fx L.fn a,.sl L.sx L.sn b,.sl (bJ L.ps) L.ps.length c],0,false,0,0,true⟩,⟨[ω s],0,false,0,0,true⟩,⟨[.mr 6 0],0,false,0,0,false⟩,⟨[.fn 56 [] [.ptr 0 0 0,.ptr 1 0 0,.ptr 2 0 0,.ptr 3 0 0,.ptr 4 0 0]],0,false,0,0,false⟩,⟨[.agg ks,.agg vs],0,false,0,4611686018427387904,true⟩,⟨[.agg d,.agg e],0,false,0,4611686018427387904,true⟩] 33 (.block 0 (.loop (aj 0 (ae f56)))) ⟨[(0,.agg [ω x.1,ω x.2]),(1,.ptr 0 0 0),(2,.ptr 1 0 0),(3,.ptr 2 0 0),(4,.ptr 3 0 0),(5,.ptr 4 0 0),(6,.ptr 7 0 0),(8,.dead),(18,.bool (!(aH s L.ps.length x))),(23,.sl (cL us) us.length false),(24,ω (us.length:Int)),(25,ω 0),(26,.dead)],[(0,⟨[.mr 5 0],0,false,0,0,false⟩),(1,⟨[.sl L.fx L.fn a,.sl L.sx L.sn b,.sl (bJ L.ps) L.ps.length c],0,false,0,0,true⟩),(2,⟨[ω s],0,false,0,0,true⟩),(3,⟨[.mr 6 0],0,false,0,0,false⟩),(4,⟨[.fn 56 [] [.ptr 0 0 0,.ptr 1 0 0,.ptr 2 0 0,.ptr 3 0 0,.ptr 4 0 0]],0,false,0,0,false⟩),(5,⟨[.agg (yC ks (.agg [ω x.1,ω x.2])),.agg (nZ ks vs (.agg [ω x.1,ω x.2]) (.bool true))],0,false,0,4611686018427387904,true⟩),(6,⟨[.agg d,.agg e],0,false,0,4611686018427387904,true⟩),(7,⟨[ω x.1,ω x.2],0,false,0,0,true⟩)],.dead,[]⟩ (.normal) (Vl [.sl L.fx L.fn a,.sl L.sx L.sn b,.sl (bJ L.ps) L.ps.length c] [ω s] [.agg k2,.agg v2] [.agg d,.agg e]):=(fun nt h=>af.tidy [1,2,3,4,5,23,24,25] (l0 nt h) (by kernel_rfl) rfl)
 obtain ⟨k,hs⟩:∃ k,k=false:=⟨_,rfl⟩
 have f:Xjr (iT ks vs (cA x)) (.bool false)= .bool k:=by rw [hs];exact f
 have l:=mG L a b c s x;generalize aH s L.ps.length x=vq at*
 exact pK [0] 2 0 (.k 1 j (.k 4 g (.k 3 (dV m) (.k 6 (au hs) (.k 1 g (.n 3 .nil)))))) (.l n (.v 23 i (.c l (.v 11 (.eq f) .nil))))
theorem ah2 {nt:Nat} (u:33≤nt) (h0:List aK) (t:h0.length=7) (L:Lw) (a b c:Bool) (s:Int) (d e ks vs k2 v2:List AV) (l p r:List Cl) (x:Cl) (i:l=p++x::r) (q:l.length<2^40) (m:ah prog ap 56 [cA x,.ptr 0 0 0,.ptr 1 0 0,.ptr 2 0 0,.ptr 3 0 0,.ptr 4 0 0] (qB L a b c s d e ks vs) (.ret (.tup [])) (qB L a b c s d e k2 v2)):
  af prog ap h0 nt (aj 0 (ae f56)) (vlS L a b c s d e l p.length ks vs) .normal (vlS L a b c s d e l (p.length+1) k2 v2):=by
 have j:=dS (f:=cC) (n:=2) (fun _=>rfl) i;change θ _ (cL l)=cC x++cL r at j;have g:p.length<l.length:=nT i;have v:p.length<2^62:=by omega
 have o:(decide ((p.length:Int)<(l.length:Int)))=true:=kl g
 match h0,t with
 | [b0,b1,b2,b3,b4,b5,b6],_=>
  unfold vlS;unfold qB at m;clear i;generalize p.length=k at*
  have h:(decide ((k:Int)<(l.length:Int)))=true:=o;exact pN 56 [] 1 1 (.k 7 h (.c (ak o) .nil)) (.v 32 (.eq (wpS v)) (.c m (.v 27 (.ppt j) .nil))) u
theorem ah1 {nt:Nat} (g:33≤nt) (h0:List aK) (h:h0.length=7) (L:Lw) (a b c:Bool) (s:Int) (d e ks vs:List AV) (l:List Cl):
  af prog ap h0 nt (aj 0 (ae f56)) (vlS L a b c s d e l l.length ks vs) (.exit 0) (Vl [.sl L.fx L.fn a,.sl L.sx L.sn b,.sl (bJ L.ps) L.ps.length c] [ω s] [.agg ks,.agg vs] [.agg d,.agg e]):=by
 have f:(decide ((l.length:Int)<(l.length:Int)))=false:=kn (ε _)
 match h0,h with
 | [b0,b1,b2,b3,b4,b5,b6],_=>exact pN 56 [] 1 0 (.c (au f) .nil) .nil g
def jJ (C:List Cl) (seen:List Cl):Nat:=(C.filter fun c=>decide (c ∉ seen)).length
theorem yJ (C:List Cl) {s t:List Cl} (h:∀ x ∈ s,x ∈ t):jJ C t≤jJ C s:=by
 unfold jJ;rw [← Xzx,← Xzx];refine List.countP_mono_left fun x _ a=> ?_
 simp only [decide_eq_true_eq] at a ⊢;exact fun e=>a (h x e)
theorem FZ {C:List Cl} {s:List Cl} {x:Cl} (a:x ∈ C) (hs:x ∉ s):jJ C (s++ [x])<jJ C s:=by
 unfold jJ;have e:(C.filter fun c=>decide (c ∉ s++ [x]))=(C.filter fun c=>decide (c ∉ s)).filter fun c=>decide (c ≠ x):=by
  rw [List.filter_filter];congr 1;funext c;rw [Bool.eq_iff_iff];simp [and_comm]
 rw [e];refine (List.length_filter_lt_length_iff_exists).2 ⟨x, ?_,by simp⟩;rw [Xxa];exact ⟨a,by simpa using hs⟩
theorem VN (L:Lw) (a b c:Bool) (s:Int) (U:Ut) (m:∀ x,(dn U x).length<2^40):∀ (n:Nat) (seen:List Cl) (x:Cl),jJ (ax s L.ps.length) seen<n→
  ah prog ap 56 [cA x,.ptr 0 0 0,.ptr 1 0 0,.ptr 2 0 0,.ptr 3 0 0,.ptr 4 0 0] (qB L a b c s (U.map fun x=>cA x.1) (yM U) (seen.map cA) (zN seen)) (.ret (.tup [])) (qB L a b c s (U.map fun x=>cA x.1) (yM U) ((kX (dn U) (aH s L.ps.length) n seen x).map cA) (zN (kX (dn U) (aH s L.ps.length) n seen x)))
 |0,seen,x,h=>absurd h (Xwx _)
 | n + 1,seen,x,h=>by
  have f:=xP seen x;unfold kX;by_cases hx:x ∈ seen
  ·rw [if_pos hx];exact ahY L a b c s _ _ _ _ x (tJ seen) (by rw [f];simp [hx])
  ·rw [if_neg hx];have e:Xjr (iT (seen.map cA) (zN seen) (cA x)) (.bool false)= .bool false:=by rw [f];simp [hx]
   cases j:aH s L.ps.length x with
   |false=>
    rw [if_neg (by simp)];exact ahZ L a b c s _ _ _ _ x (tJ seen) e j
   | true=>
    rw [if_pos rfl];have k:jJ (ax s L.ps.length) (seen++ [x])<n:=by have:=FZ (dY.2 j) hx;omega
    have h0len:(qB L a b c s (U.map fun x=>cA x.1) (yM U) (seen.map cA) (zN seen)).length=7:=rfl;have loop:∀ (r p d:List Cl),dn U x=p++r→jJ (ax s L.ps.length) d<n→∀ nt,33≤nt→
      aP prog ap (qB L a b c s (U.map fun x=>cA x.1) (yM U) (seen.map cA) (zN seen)) nt (aj 0 (ae f56)) (fun _=> .exit 0) (fun q:Nat × List Cl=>vlS L a b c s (U.map fun x=>cA x.1) (yM U) (dn U x) q.1 (q.2.map cA) (zN q.2))
       (fun d:List Cl=> ⟨[],(qB L a b c s (U.map fun x=>cA x.1) (yM U) (d.map cA) (zN d)).zipIdx.map (fun q=>(q.2,q.1)),.dead,[]⟩) (p.length,d) (r.foldl (kX (dn U) (aH s L.ps.length) n) d):=by
     intro r
     induction r with
     |nil=>
      intro p d hp hs nt g;rw [υ] at hp;rw [Xwa,← hp];exact .done (ah1 g _ h0len L a b c s _ _ _ _ (dn U x))
     |cons y r ih=>
      intro p d hp hs nt g;rw [Xqy];have v:=VN L a b c s U m n d y hs;obtain ⟨t,A⟩:=Ef (dn U) (aH s L.ps.length) n d y;have o:=ah2 g _ h0len L a b c s _ _ _ _ _ _ (dn U x) p r y hp (m x) v;have l:=ih (p++ [y]) (kX (dn U) (aH s L.ps.length) n d y) (by rw [hp];simp) (Xje (yJ _ (fun z B=>by rw [A];simp [B])) hs) nt g;rw [show (p++ [y]).length=p.length+1 by simp] at l;exact .next (a':=(p.length+1,_)) o l
    have i:=aP.blk (id:=0) (e':= .normal) (loop (dn U x) [] (seen++ [x]) rfl k) (by simp) rfl (aJ.refl _) (aJ.refl _);rw [← JD hx] at i;have u:zN (seen++ [x])=nZ (seen.map cA) (zN seen) (cA x) (.bool true):=by
     rw [Dt (zN seen) (.bool true) hx (by simp [zN])];simp [zN]
    rw [u] at i;exact ah0 L a b c s _ _ _ _ x (tJ seen) (aco U) _ _ (dn U x) e j (R_ U x) i
theorem aeU (l:List Cl) (x:Cl):ah prog ap 58 [cA x,.ptr 0 0 0] [⟨[.mr 1 0],0,false,0,0,false⟩,⟨[.agg (l.map cA),.agg (zN l)],0,false,0,4611686018427387904,true⟩] (.ret (.bool (!(decide (x ∈ l))))) [⟨[.mr 1 0],0,false,0,0,false⟩,⟨[.agg (l.map cA),.agg (zN l)],0,false,0,4611686018427387904,true⟩]:=by
 have a:=xP l x;have b:=tJ l;generalize decide (x ∈ l)=sv at*
 generalize zN l=vs at*
 generalize l.map cA=ks at*
 exact pK [] 0 0 (.k 1 b (.n 3 .nil)) (.v 6 (.eq a) .nil)
abbrev dH (ks vs:List AV) (L:List Cl):List aK:= [cB L,⟨[.mr 2 0],0,false,0,0,false⟩,⟨[.agg ks,.agg vs],0,false,0,4611686018427387904,true⟩]
def Tu (ks vs:List AV) (n:Nat) (L:List Cl) (k:Nat):St:=⟨[(0,.ref 0 0 0 n),(1,.fn 58 [] [.ptr 1 0 0]),(7,ω (n:Int)),(8,ω (k:Int))],[(0,⟨(cL L),0,false,0,2,true⟩),(1,⟨[.mr 2 0],0,false,0,0,false⟩),(2,⟨[.agg ks,.agg vs],0,false,0,4611686018427387904,true⟩)],.dead,[]⟩
theorem abo {nt:Nat} (f:19≤nt) (ks vs:List AV) (c:Cl→Bool) (g:∀ x,ah prog ap 58 [cA x,.ptr 0 0 0] [⟨[.mr 1 0],0,false,0,0,false⟩,⟨[.agg ks,.agg vs],0,false,0,4611686018427387904,true⟩] (.ret (.bool (!(c x)))) [⟨[.mr 1 0],0,false,0,0,false⟩,⟨[.agg ks,.agg vs],0,false,0,4611686018427387904,true⟩]) (L0 p r:List Cl) (x:Cl) (n:Nat) (hs:(p++x::r).length=n) (l:n<2^40) (a:c x=false):
  af prog ap (dH ks vs L0) nt (aj 0 (ae f100)) (Tu ks vs n (p++x::r) p.length) .ret ⟨[(4,ω (p.length:Int))],[(0,cB (p++x::r)),(1,⟨[.mr 2 0],0,false,0,0,false⟩),(2,⟨[.agg ks,.agg vs],0,false,0,4611686018427387904,true⟩)],.dead,[]⟩:=by
 have d:=qE (L:=p++x::r) (p:=p) (x:=x) (r:=r) rfl;have b:p.length<n:=by rw [← hs];simp
 have j:p.length<2^62:=by omega
 have e:(decide ((p.length:Int)<(n:Int)))=true:=kl b;have h:=g x;unfold Tu;clear hs;generalize i:p++x::r=L at*
 generalize p.length=k at*
 generalize c x=kx at*
 exact pN 100 [] 2 3 (.c (fZ a) (.a (bQ [.int .i64,.int .i64] d rfl) (.k 1 e (.c (ak e) .nil)))) (.c h (.v 15 (.rd [.int .i64,.int .i64] d rfl) .nil)) f
theorem aej {nt:Nat} (f:19≤nt) (ks vs:List AV) (c:Cl→Bool) (g:∀ x,ah prog ap 58 [cA x,.ptr 0 0 0] [⟨[.mr 1 0],0,false,0,0,false⟩,⟨[.agg ks,.agg vs],0,false,0,4611686018427387904,true⟩] (.ret (.bool (!(c x)))) [⟨[.mr 1 0],0,false,0,0,false⟩,⟨[.agg ks,.agg vs],0,false,0,4611686018427387904,true⟩]) (L0 p r:List Cl) (x:Cl) (n:Nat) (hs:(p++x::r).length=n) (l:n<2^40) (a:c x=true):
  af prog ap (dH ks vs L0) nt (aj 0 (ae f100)) (Tu ks vs n (p++x::r) p.length) .normal (Tu ks vs n (p++x::r) (p.length+1)):=by
 have d:=qE (L:=p++x::r) (p:=p) (x:=x) (r:=r) rfl;have b:p.length<n:=by rw [← hs];simp
 have i:p.length<2^62:=by omega
 have e:(decide ((p.length:Int)<(n:Int)))=true:=kl b;have h:=g x;unfold Tu;clear hs;generalize j:p++x::r=L at*
 generalize p.length=k at*
 generalize c x=kx at*
 exact pN 100 [] 2 1 (.c (dV a) (.a (bQ [.int .i64,.int .i64] d rfl) (.k 1 e (.c (ak e) .nil)))) (.v 18 (.eq (wpS i)) (.c h (.v 15 (.rd [.int .i64,.int .i64] d rfl) .nil))) f
theorem aei {nt:Nat} (a:19≤nt) (ks vs:List AV) (L0 L:List Cl) (n:Nat):
  af prog ap (dH ks vs L0) nt (aj 0 (ae f100)) (Tu ks vs n L n) (.exit 0) ⟨[],[(0,cB L),(1,⟨[.mr 2 0],0,false,0,0,false⟩),(2,⟨[.agg ks,.agg vs],0,false,0,4611686018427387904,true⟩)],.dead,[]⟩:=by
 have b:(decide ((n:Int)<(n:Int)))=false:=kn (ε _);exact pN 100 [] 1 0 (.c (au b) .nil) .nil a
def Tn (kp:Cl→Bool):List Cl→Nat→Option Nat
 | [],_=>none
 |x::r,k=>if kp x then Tn kp r (k+1) else some k
def ixE:Option Nat→aV
 |none=> .exit 0
 |some _=> .ret
def ixO (ks vs:List AV) (L:List Cl):Option Nat→St
 |none=> ⟨[],[(0,cB L),(1,⟨[.mr 2 0],0,false,0,0,false⟩),(2,⟨[.agg ks,.agg vs],0,false,0,4611686018427387904,true⟩)],.dead,[]⟩
 |some k=> ⟨[(4,.int .i64 (k:Int))],[(0,cB L),(1,⟨[.mr 2 0],0,false,0,0,false⟩),(2,⟨[.agg ks,.agg vs],0,false,0,4611686018427387904,true⟩)],.dead,[]⟩
theorem N8 {nt:Nat} (c:19≤nt) (ks vs:List AV) (a:Cl→Bool) (e:∀ x,ah prog ap 58 [cA x,.ptr 0 0 0] [⟨[.mr 1 0],0,false,0,0,false⟩,⟨[.agg ks,.agg vs],0,false,0,4611686018427387904,true⟩] (.ret (.bool (!(a x)))) [⟨[.mr 1 0],0,false,0,0,false⟩,⟨[.agg ks,.agg vs],0,false,0,4611686018427387904,true⟩]) (L:List Cl) (n:Nat) (hs:L.length=n) (d:n<2^40):∀ (r p:List Cl),p++r=L→
  aP prog ap (dH ks vs L) nt (aj 0 (ae f100)) ixE (fun k:Nat=>Tu ks vs n L k) (ixO ks vs L) p.length (Tn a r p.length)
 | [],p,h=>by
  have hp:p.length=n:=by rw [← hs,← h];simp
  rw [hp];exact .done (aei c ks vs L L n)
 | x::r,p,h=>by
  unfold Tn;cases f:a x with
  |true=>
   rw [if_pos rfl];have b:=aej c ks vs a e L p r x n (by rw [h];exact hs) d f;rw [h] at b;refine .next (a':=p.length+1) b ?_
   have g:=N8 c ks vs a e L n hs d r (p++ [x]) (by rw [← h];simp);simpa using g
  |false=>
   rw [if_neg (by simp)];have b:=abo c ks vs a e L p r x n (by rw [h];exact hs) d f;rw [h] at b;exact .done b
theorem Cc (b:Cl→Bool):∀ (r p:List Cl),match Tn b r p.length with
  |none=> ∀ x ∈ r,b x=true
  |some i=> ∃ q x t,r=q++x::t∧i=p.length+q.length∧(∀ y ∈ q,b y=true)∧b x=false
 | [],p=>by simp [Tn]
 | x::r,p=>by
  unfold Tn;cases c:b x with
  | true=>
   simp only [if_true];have h:=Cc b r (p++ [x]);rw [show (p++ [x]).length=p.length+1 by simp] at h;cases d:Tn b r (p.length+1) with
   |none=>
    rw [d] at h;intro y a;rcases List.mem_cons.1 a with rfl|a
    ·exact c
    ·exact h y a
   |some i=>
    rw [d] at h;obtain ⟨q,z,t,g,j,f,e⟩:=h;refine ⟨x::q,z,t,by rw [g];rfl,by rw [j];simp;omega,fun y a=> ?_,e⟩;rcases List.mem_cons.1 a with rfl|a
    ·exact c
    ·exact f y a
  |false=>exact ⟨[],x,r,rfl,by simp,(fun y a=>(by cases a)),c⟩
theorem aek (ks vs:List AV) (c:Cl→Bool) (g:∀ x,ah prog ap 58 [cA x,.ptr 0 0 0] [⟨[.mr 1 0],0,false,0,0,false⟩,⟨[.agg ks,.agg vs],0,false,0,4611686018427387904,true⟩] (.ret (.bool (!(c x)))) [⟨[.mr 1 0],0,false,0,0,false⟩,⟨[.agg ks,.agg vs],0,false,0,4611686018427387904,true⟩]) (L:List Cl) (f:L.length<2^40):ah prog ap 100 [.ref 0 0 0 L.length,.fn 58 [] [.ptr 1 0 0]] (dH ks vs L) (.ret (.int .i64 (match Tn c L 0 with|none=> -1|some k=>(k:Int)))) (dH ks vs L):=by
 have hloop:=fun nt (hn:19≤nt)=>N8 hn ks vs c g L L.length rfl f L [] rfl
 cases e:Tn c L 0 with
 |none=>
  rw [Xqj,e] at hloop;have b:=aP.blk (id:=0) (e':= .normal) (s:=Tu ks vs L.length L 0) (s':=ixO ks vs L none) hloop (by simp [ixE]) rfl (aJ.refl _) (aJ.refl _);unfold Tu ixO at b;generalize L.length=n at*
  have d:bD prog ap (dH ks vs L) 19 (.block 0 (.loop (aj 0 (ae f100)))) (aar n n (cL L) [.agg ks,.agg vs]) (.normal) ⟨[],[(0,⟨(cL L),0,false,0,2,true⟩),(1,⟨[.mr 2 0],0,false,0,0,false⟩),(2,⟨[.agg ks,.agg vs],0,false,0,4611686018427387904,true⟩)],.dead,[]⟩:=(fun nt a=>(b nt a).weak (aJ.of ⟨rfl,rfl,rfl,rfl,trivial⟩) (aJ.refl _))
  exact pK [0] 0 0 .nil (.l d .nil)
 |some k=>
  rw [Xqj,e] at hloop;have b:=aP.blk (id:=0) (e':= .ret) (s:=Tu ks vs L.length L 0) (s':=ixO ks vs L (some k)) hloop (by simp [ixE]) rfl (aJ.refl _) (aJ.refl _);unfold Tu ixO at b;generalize L.length=n at*
  have d:bD prog ap (dH ks vs L) 19 (.block 0 (.loop (aj 0 (ae f100)))) (aar n n (cL L) [.agg ks,.agg vs]) (.ret) ⟨[(4,ω (k:Int))],[(0,⟨(cL L),0,false,0,2,true⟩),(1,⟨[.mr 2 0],0,false,0,0,false⟩),(2,⟨[.agg ks,.agg vs],0,false,0,4611686018427387904,true⟩)],.dead,[]⟩:=(fun nt a=>(b nt a).weak (aJ.of ⟨rfl,rfl,rfl,rfl,trivial⟩) (aJ.refl _))
  exact pK [0] 0 0 .nil (.l d .nil)
def Wx (ks vs:List AV) (n k j:Nat) (L:List Cl):St:=⟨[(0,.ref 0 0 0 n),(1,.fn 58 [] [.ptr 1 0 0]),(5,ω (k:Int)),(6,ω (j:Int))],[(0,⟨(cL L),0,false,0,2,true⟩),(1,⟨[.mr 2 0],0,false,0,0,false⟩),(2,⟨[.agg ks,.agg vs],0,false,0,4611686018427387904,true⟩)],.dead,[]⟩
theorem ac8 {nt:Nat} (u:42≤nt) (ks vs:List AV) (c:Cl→Bool) (B:∀ x,ah prog ap 58 [cA x,.ptr 0 0 0] [⟨[.mr 1 0],0,false,0,0,false⟩,⟨[.agg ks,.agg vs],0,false,0,4611686018427387904,true⟩] (.ret (.bool (!(c x)))) [⟨[.mr 1 0],0,false,0,0,false⟩,⟨[.agg ks,.agg vs],0,false,0,4611686018427387904,true⟩]) (L0 A G r:List Cl) (y:Cl) (n j:Nat) (q:0<G.length) (hs:(A++G++y::r).length=n) (F:n<2^40) (o:A.length+G.length=j) (d:c y=true):
  af prog ap (dH ks vs L0) nt (aj 0 (ae f57)) (Wx ks vs n A.length j (A++G++y::r)) .normal (Wx ks vs n (A++ [y]).length (j+1) ((A++ [y])++(G.tail++ [y])++r)):=by
 have s1:ξ ((0+(γ (A.length:Int)))*2) (cL (A++G++y::r))++cC y++θ (((0+(γ (A.length:Int)))*2)+2) (cL (A++G++y::r))=cL ((A++ [y])++(G.tail++ [y])++r):=by
  obtain ⟨g,G',rfl⟩:=List.exists_cons_of_length_pos q;have:=Vb (L:=A++(g::G')++y::r) (p:=A) (x:=g) (r:=G'++y::r) (z:=y) (by simp);simpa using this
 have b:(A++G).length=j:=by simp;omega
 have l:(θ ((0+(γ (j:Int)))*2) (cL (A++G++y::r)))=cC y++cL r:=by
  rw [← b];exact qE (L:=A++G++y::r) (p:=A++G) (x:=y) (r:=r) rfl
 have a:(cL (A++G++y::r)).length=n*2:=by rw [b_,hs]
 have v:A.length+G.length+1+r.length=n:=by rw [← hs];simp;omega
 have C:j<2^62:=by omega
 have D:A.length<2^62:=by omega
 have m:(decide ((j:Int)<(n:Int)))=true:=kl (by omega);have s:=B y;have f:(!(c y))=false:=by rw [d];rfl
 have e:(A++ [y]).length=A.length+1:=by simp
 have t:A.length<n:=by omega
 unfold Wx;rw [e,← s1];clear s1 e hs b;generalize E:A++G++y::r=L at*
 generalize A.length=k at*
 generalize c y=kx at*
 have i:(Xqc (((0+(γ (k:Int)))*2)+2) (ν (cL L)))=true:=(dA (nS a (by omega)))
 have h:(decide ((k:Int)<(n:Int)))=true:=(kl (by omega))
 exact pN 57 [] 2 3 (.c i (.k 1 h (.k 2 (fZ f) (.n 3 (.a (bQ [.int .i64,.int .i64] l rfl) (.k 1 m (.c (ak m) .nil))))))) (.v 21 (.eq (wpS C)) (.v 35 (.eq (wpS D)) (.c s (.v 25 (.rd [.int .i64,.int .i64] l rfl) .nil)))) u
theorem ac9 {nt:Nat} (i:42≤nt) (ks vs:List AV) (b:Cl→Bool) (m:∀ x,ah prog ap 58 [cA x,.ptr 0 0 0] [⟨[.mr 1 0],0,false,0,0,false⟩,⟨[.agg ks,.agg vs],0,false,0,4611686018427387904,true⟩] (.ret (.bool (!(b x)))) [⟨[.mr 1 0],0,false,0,0,false⟩,⟨[.agg ks,.agg vs],0,false,0,4611686018427387904,true⟩]) (L0 A G r:List Cl) (y:Cl) (n j:Nat) (hs:(A++G++y::r).length=n) (u:n<2^40) (h:A.length+G.length=j) (c:b y=false):
  af prog ap (dH ks vs L0) nt (aj 0 (ae f57)) (Wx ks vs n A.length j (A++G++y::r)) .normal (Wx ks vs n A.length (j+1) (A++G++y::r)):=by
 have a:(A++G).length=j:=by simp;omega
 have e:(θ ((0+(γ (j:Int)))*2) (cL (A++G++y::r)))=cC y++cL r:=by
  rw [← a];exact qE (L:=A++G++y::r) (p:=A++G) (x:=y) (r:=r) rfl
 have f:(cL (A++G++y::r)).length=n*2:=by rw [b_,hs]
 have l:A.length+G.length+1+r.length=n:=by rw [← hs];simp;omega
 have q:j<2^62:=by omega
 have t:A.length<2^62:=by omega
 have g:(decide ((j:Int)<(n:Int)))=true:=kl (by omega);have o:=m y;have d:(!(b y))=true:=by rw [c];rfl
 unfold Wx;clear hs a;generalize s:A++G++y::r=L at*
 generalize A.length=k at*
 generalize b y=kx at*
 exact pN 57 [] 2 1 (.c (dV d) (.n 3 (.a (bQ [.int .i64,.int .i64] e rfl) (.k 1 g (.c (ak g) .nil))))) (.v 21 (.eq (wpS q)) (.c o (.v 25 (.rd [.int .i64,.int .i64] e rfl) .nil))) i
theorem ac7 {nt:Nat} (a:42≤nt) (ks vs:List AV) (L0 L:List Cl) (n k:Nat):
  af prog ap (dH ks vs L0) nt (aj 0 (ae f57)) (Wx ks vs n k n L) (.exit 0) (Vm n k (cL L) [.agg ks,.agg vs]):=by
 have b:(decide ((n:Int)<(n:Int)))=false:=kn (ε _);exact pN 57 [] 1 0 (.c (au b) .nil) .nil a
def Qg (kp:Cl→Bool):List Cl→List Cl→List Cl→List Cl × List Cl
 |A,G,[]=>(A,G)
 |A,G,y::r=>if kp y then Qg kp (A++ [y]) (G.tail++ [y]) r else Qg kp A (G++ [y]) r
theorem GG (a:Cl→Bool):∀ (r A G:List Cl),(Qg a A G r).1=A++r.filter a
 | [],A,G=>by simp [Qg]
 |y::r,A,G=>by
  unfold Qg;cases h:a y with
  |true=>rw [if_pos rfl,GG a r];simp [h]
  |false=>rw [if_neg (by simp),GG a r];simp [h]
theorem Ae (a:Cl→Bool):∀ (r A:List Cl) (g:Cl) (G:List Cl),(Qg a A (g::G) r).1.length+(Qg a A (g::G) r).2.length=A.length+(g::G).length+r.length
 | [],A,g,G=>by simp [Qg]
 | y::r,A,g,G=>by
  unfold Qg;cases h:a y with
  |true=>
   rw [if_pos rfl];cases G with
   |nil=>rw [Xkh,μ,Ae a r];simp;omega
   |cons g2 G=>rw [Xkh,Xqw,Ae a r];simp;omega
  |false=>rw [if_neg (by simp),Xqw,Ae a r];simp;omega
theorem Af {nt:Nat} (b:42≤nt) (ks vs:List AV) (a:Cl→Bool) (d:∀ x,ah prog ap 58 [cA x,.ptr 0 0 0] [⟨[.mr 1 0],0,false,0,0,false⟩,⟨[.agg ks,.agg vs],0,false,0,4611686018427387904,true⟩] (.ret (.bool (!(a x)))) [⟨[.mr 1 0],0,false,0,0,false⟩,⟨[.agg ks,.agg vs],0,false,0,4611686018427387904,true⟩]) (L0:List Cl) (n:Nat) (c:n<2^40):∀ (r A:List Cl) (g:Cl) (G:List Cl) (j:Nat),(A++(g::G)++r).length=n→A.length+(g::G).length=j→
  aP prog ap (dH ks vs L0) nt (aj 0 (ae f57)) (fun _=> .exit 0) (fun p:List Cl × List Cl × List Cl × Nat=>Wx ks vs n p.1.length p.2.2.2 (p.1++p.2.1++p.2.2.1)) (fun p:List Cl × List Cl=>(Vm n p.1.length (cL (p.1++p.2)) [.agg ks,.agg vs])) (A,g::G,r,j) (Qg a A (g::G) r)
 | [],A,g,G,j,hs,hj=>by
  refine .done ?_;have e:j=n:=by rw [← hs,← hj];simp
  subst e;have:=ac7 b ks vs L0 (A++(g::G)++ []) j A.length;simpa [Qg] using this
 | y::r,A,g,G,j,hs,hj=>by
  unfold Qg;cases f:a y with
  | true=>
   rw [if_pos rfl];have h:=ac8 b ks vs a d L0 A (g::G) r y n j (by simp) hs c hj f;cases G with
   |nil=>
    refine .next (a':=(A++ [y],[y],r,j+1)) h (Af b ks vs a d L0 n c r (A++ [y]) y [] (j+1) ?_ ?_)
    ·simp at hs ⊢;omega
    ·simp at hj ⊢;omega
   |cons g2 G=>
    refine .next (a':=(A++ [y],g2::G++ [y],r,j+1)) h (Af b ks vs a d L0 n c r (A++ [y]) g2 (G++ [y]) (j+1) ?_ ?_)
    ·simp at hs ⊢;omega
    ·simp at hj ⊢;omega
  | false=>
   rw [if_neg (by simp)];refine .next (a':=(A,g::G++ [y],r,j+1)) ?_ (Af b ks vs a d L0 n c r A g (G++ [y]) (j+1) ?_ ?_)
   ·have:=ac9 b ks vs a d L0 A (g::G) r y n j hs c hj f;simpa using this
   ·simp at hs ⊢;omega
   ·simp at hj ⊢;omega
theorem Tq {a:Cl→Bool} {L:List Cl} (h:Tn a L 0=none):L.filter a=L:=by
 have:=Cc a L [];rw [Xqj,h] at this;exact List.filter_eq_self.2 this
theorem aa_ (ks vs:List AV) (a:Cl→Bool) (z:∀ x,ah prog ap 58 [cA x,.ptr 0 0 0] [⟨[.mr 1 0],0,false,0,0,false⟩,⟨[.agg ks,.agg vs],0,false,0,4611686018427387904,true⟩] (.ret (.bool (!(a x)))) [⟨[.mr 1 0],0,false,0,0,false⟩,⟨[.agg ks,.agg vs],0,false,0,4611686018427387904,true⟩]) (L:List Cl) (G:L.length<2^40):ah prog ap 57 [.ref 0 0 0 L.length,.fn 58 [] [.ptr 1 0 0]] (dH ks vs L) (.ret (.ref 0 0 0 (L.filter a).length)) [⟨cL (L.filter a)++Ip (L.length - (L.filter a).length),0,false,0,2,true⟩,⟨[.mr 2 0],0,false,0,0,false⟩,⟨[.agg ks,.agg vs],0,false,0,4611686018427387904,true⟩]:=by
 have h:=aek ks vs a z L G;have e:=Cc a L [];rw [Xqj] at e;cases b:Tn a L 0 with
 |none=>
  rw [Tq b,Xzf,PT];rw [b] at h;have v:((-1)==(-1:Int))=true:=by decide
  generalize L.length=n at*
  exact pK [0] 1 1 (.c (ak v) .nil) (.c h .nil)
 | some i=>
  rw [b] at h e;simp only at h;obtain ⟨q,x,t,l,c,E,D⟩:=e;rw [Φ] at c;have F:L.filter a=q++t.filter a:=by
   rw [l,List.filter_append,List.filter_cons,D,List.filter_eq_self.2 E];rfl
  have hloop:=fun nt (hn:42≤nt)=>Af hn ks vs a z L L.length G t q x [] (i+1) (by rw [l];simp) (by rw [c];rfl)
  have p:=aP.blk (id:=0) (e':= .normal) hloop (by simp) rfl (aJ.refl _) (aJ.refl _);have s:=GG a t q [x];have r:=Ae a t q x [];rw [F,← s];have f:q++ [x]++t=L:=by rw [l];simp
  have m:q.length+1+t.length=L.length:=by rw [l];simp;omega
  simp only [f,← c] at p;simp only [Θ,Xqj,Φ,m] at r;generalize Qg a q [x] t=RR at*
  obtain ⟨A,B⟩:=RR;simp only at p r ⊢;have J:i<2^62:=by omega
  have hlen2:(cL (A++B)).length=L.length*2:=by rw [b_,ο,r]
  have d:ξ ((0+(γ (A.length:Int)))*2) (cL (A++B))++(gu ((γ (L.length:Int)) - (γ (A.length:Int))) [ω 0,ω 0])++θ (((0+(γ (A.length:Int)))*2)+(ν (gu ((γ (L.length:Int)) - (γ (A.length:Int))) [ω 0,ω 0]))) (cL (A++B))=cL A++Ip (L.length - A.length):=by
   rw [aS,aS,Φ];have s:(cL A).length=A.length*2:=b_ A;have K:cL (A++B)=cL A++cL B:=by simp [cL]
   have I:(gu (L.length - A.length) [ω 0,ω 0]).length=(L.length - A.length)*2:=PU _;rw [I,K,Xq8 s,Xxf (by rw [ο,b_,b_];omega),υ];rfl
  rw [← d];have v:((i:Int)==(-1:Int))=false:=by simp
  have M:A.length≤L.length:=by omega
  unfold Wx at p;clear d F s l f m r hloop b z E D c;generalize L.length=n at*
  generalize N:A++B=L2 at*
  generalize A.length=k at*
  have H:bD prog ap (dH ks vs L) 42 (.block 0 (.loop (aj 0 (ae f57)))) ⟨[(0,.ref 0 0 0 n),(1,.fn 58 [] [.ptr 1 0 0]),(4,.nilS),(5,ω (i:Int)),(6,ω (((i+1):Nat):Int)),(7,.dead),(12,.bool ((i:Int)==(-1:Int))),(19,.dead),(29,.dead)],[(0,⟨(cL L),0,false,0,2,true⟩),(1,⟨[.mr 2 0],0,false,0,0,false⟩),(2,⟨[.agg ks,.agg vs],0,false,0,4611686018427387904,true⟩)],.dead,[]⟩ (.normal) (Vm n k (cL L2) [.agg ks,.agg vs]):=(fun nt y=>(p nt y).weak (aJ.of ⟨rfl,rfl,rfl,rfl,trivial⟩) (aJ.refl _))
  have o:AV.ref 0 0 0 ((γ (k:Int)) - 0)= .ref 0 0 0 k:=rfl;have j:(decide (((0:Nat):Int)≤(k:Int)))=true:=(k0 _)
  have g:(decide ((k:Int)≤(n:Int)))=true:=(Yq0 (by omega))
  have u:(Xqc (((0+(γ (k:Int)))*2)+(((γ (n:Int)) - (γ (k:Int)))*2)) (ν (cL L2)))=true:=(dA (nS hlen2 (by omega)))
  have C:(decide ((n:Int)≤(n:Int)))=true:=(Yq0 (by omega))
  exact pK [0] 1 0 (.k 1 j (.c g (.c u (.c j (.c g (.c C (.c (au v) .nil))))))) (.v 41 (.eq o) (.l H (.v 15 (.eq (wpS J)) (.c h .nil))))
end Go.Proofs.Tryz
set_option maxRecDepth 100000
set_option linter.unusedVariables false
open Go AM
open Go.ChangeMaps (setBlock)
namespace Go.Proofs.Tryz
def mk (d:Option Nat) (p:Op) (s:Oper):Oper:={s with dst:=d,op:=p,guard:=none}
theorem yu {P:Program} {ops:Array Oper} {rest:List Oper} {s:Oper} {a:Act} {w w':World} {Q:Exit→Act→World→Prop} {d:Nat} {p:Op} {v:Value} (c:(execOp a.eval (mk (some d) p s)).run P w= .ok (.value v) w') (h:wpList P ops Q rest (a.put (some d) v) w'):wpList P ops Q (mk (some d) p s::rest) a w:=
 wpList_plain rfl fun K b=>by unfold Oper.wp;rw [c];exact b _ _ h
theorem mku {P:Program} {ops:Array Oper} {rest:List Oper} {s:Oper} {a:Act} {w w':World} {Q:Exit→Act→World→Prop} {p:Op} (c:(execOp a.eval (mk none p s)).run P w= .ok .skip w') (h:wpList P ops Q rest a w'):wpList P ops Q (mk none p s::rest) a w:=
 wpList_plain rfl fun K b=>by unfold Oper.wp;rw [c];exact b _ _ h
theorem bf {a:Act} {d t:Nat} {v:Value} (b:d<a.tmps.size):(a.put (some d) v).eval (.tmp t)=if t=d then v else a.eval (.tmp t):=by
 by_cases e:t=d
 ·subst e;rw [if_pos rfl];exact dh a t v b
 ·rw [if_neg e];exact jZ a (some d) v (by simpa using fun h=>e h.symm)
structure Ka (dl:List Nat) (a0 a:Act):Prop where
 size:a.tmps.size=a0.tmps.size
 dfs:a.defers=a0.defers
 get:∀ t,t ∉ dl→a.eval (.tmp t)=a0.eval (.tmp t)
theorem Ka.refl (dl:List Nat) (a:Act):Ka dl a a:=⟨rfl,rfl,fun _ _=>rfl⟩
theorem Ka.put {dl:List Nat} {b a:Act} {d:Nat} {v:Value} (h:Ka dl b a) (f:d ∈ dl):Ka dl b (a.put (some d) v):=
 ⟨by rw [aG];exact h.size,by rw [l_];exact h.dfs,fun t c=>by
  have e:t ≠ d:=fun e=>c (e ▸ f)
  rw [show (a.put (some d) v).eval (.tmp t)=a.eval (.tmp t) from jZ a (some d) v (by simpa using fun h=>e h.symm)];exact h.get t c⟩
theorem Ka.trans {dl:List Nat} {a b c:Act} (h:Ka dl a b) (d:Ka dl b c):Ka dl a c:=⟨d.size.trans h.size,d.dfs.trans h.dfs,fun t e=>(d.get t e).trans (h.get t e)⟩
structure Kp (base um:Nat) (w0 w:World):Prop where
 os:w.os=w0.os
 tape:w.tape=w0.tape
 output:w.output=w0.output
 size:w0.heap.size≤w.heap.size
 blk:∀ k,k<base→k ≠ um→w.heap[k]? =w0.heap[k]?
theorem Kp.refl (base a:Nat) (w:World):Kp base a w w:=⟨rfl,rfl,rfl,ε _,fun _ _ _=>rfl⟩
theorem Kp.trans {base e:Nat} {a b c:World} (h:Kp base e a b) (d:Kp base e b c):Kp base e a c:=⟨d.os.trans h.os,d.tape.trans h.tape,d.output.trans h.output,Xqh h.size d.size,fun k f g=>(d.blk k f g).trans (h.blk k f g)⟩
theorem Kp.grown {base a:Nat} {w w':World} {row:Option Nat} (c:base≤w.heap.size) (h:w.grownBy w' row) (b:∀ k,row=some k→k=a∨base≤k):Kp base a w w':=
 ⟨h.os,h.tape,h.output,h.size,fun k d f=>h.block k (by omega) fun e=>by rcases b k e.symm with e1|e1<;>omega⟩
structure Lo (g:bP) (m:aI) (S:aB) (base um:Nat):Prop where
 blk:∀ k,base≤k∨k=um→∀ b B,g b=some B→(m b).1 ≠ k
 clr:∀ k,base≤k∨k=um→∀ o,S k o=none
theorem Lo.fr {env:dE} {hp:Hp} {nt:Nat} {m:aI} {S:aB} {w0 w:World} {f a:Act} {base i:Nat} {dl:List Nat} (j:Lo (AM.ag hp) m S base i) (l:FR ap env hp [] nt m S w0 f) (n:Kp base i w0 w) (g:Ka dl f a) (o:∀ d ∈ dl,env.get d= .dead):FR ap env hp [] nt m S w a:=by
 have b:=l.other (w':=w) fun k c=>by
  by_cases h:base≤k∨k=i
  ·exact .inr ⟨c,j.blk k h,j.clr k h⟩
  ·exact .inl (n.blk k (by omega) (by omega))
 refine ⟨b.srel,fun t=> ?_, ?_,g.size.trans b.size⟩
 ·by_cases ht:t ∈ dl
  ·rw [o t ht];simp [VR]
  ·have:=g.get t ht;have e:a.tmps.getD t undef=f.tmps.getD t undef:=this;rw [e];exact b.env t
 ·rw [g.dfs];exact b.dfs
theorem Lo.frame {hp:Hp} {h0:List aK} {m0 m:aI} {S0 S:aB} {w0 w w':World} {base d:Nat} (g:Lo (AM.ag hp) m S base d) (h:Fr (aC h0) m0 S0 w0 (AM.ag hp) m S w) (a:Kp base d w w') (j:w0.heap.size≤d) (l:w0.heap.size≤base):Fr (aC h0) m0 S0 w0 (AM.ag hp) m S w':=
 h.other a.size a.os a.tape a.output (fun k i=>a.blk k (by omega) (by omega)) fun b B f=>a.blk _ (by
  refine Nat.lt_of_not_le fun c=>g.blk _ (.inl c) b B f rfl) fun e=>g.blk _ (.inr e) b B f rfl
theorem ahR:ap.tyAt 25=some ⟨.struct [(0,3,1),(1,3,1)],2,16,[ω 0,ω 0],[.int .i64,.int .i64],true⟩:=by kernel_rfl
theorem akd:ap.tyAt 35=some ⟨.slice 25,1,24,[.nilS],[.sl],false⟩:=by kernel_rfl
theorem ahS:ap.tyAt 95=some ⟨.map 25 35,1,8,[.mp [] []],[.oth],false⟩:=by kernel_rfl
theorem X9:prog.underlying 35=some (.slice 25):=by kernel_rfl
theorem aki:prog.underlying 95=some (.map 25 35):=by kernel_rfl
theorem Tj:∃ i,prog.info? 25=some i∧i.zero=some (.agg #[.int .i64 0,.int .i64 0])∧i.size=2∧i.bytes=16:=by
 have h:(prog.info? 25).map (fun i=>(i.zero,i.size,i.bytes))=some (some (.agg #[.int .i64 0,.int .i64 0]),2,16):=by kernel_rfl
 cases a:prog.info? 25 with
 |none=>rw [a] at h;cases h
 |some i=>
  rw [a] at h;simp only [Xqr,Option.some.injEq,Prod.mk.injEq] at h;exact ⟨i,rfl,h.1,h.2.1,h.2.2⟩
theorem ajC:∃ i,prog.info? 35=some i∧i.zero=some (.slice none 0 0):=by
 have h:(prog.info? 35).map (fun i=>i.zero)=some (some (.slice none 0 0)):=by kernel_rfl
 cases a:prog.info? 35 with
 |none=>rw [a] at h;cases h
 |some i=>
  rw [a] at h;simp only [Xqr,Option.some.injEq] at h;exact ⟨i,rfl,h⟩
section
variable {w:World}
theorem O5:(Instr.alloc 25 true (.tuple #[])).run prog w= .ok (.pointer (some ⟨w.heap.size,0,none⟩)) (w.alloc (.cells #[.int .i64 0,.int .i64 0] 25)):=by
 obtain ⟨i,a,b,c,_⟩:=Tj;simp [Instr.alloc,zeroValue,typeInfo,a,b,newVar,newRow,Value.cells]
theorem O6 {k:Nat} {cur:Array Value} (d:w.heap[k]? =some (.cells cur 25 (0,0))) (hs:cur.size=2) (c:Cl):(Instr.storeAt 25 (.pointer (some ⟨k,0,none⟩)) (cV c)).run prog w= .ok () (w.setRow k (cU c).toArray):=by
 obtain ⟨i,f,g,b,_⟩:=Tj;have a:=run_storeCells_at prog k 0 25 (cU c) 0 cur w d (by simp [cU,hs]) (KX c);have e:(cur.toList.take (0+0)++cU c++cur.toList.drop (0+0+(cU c).length)).toArray=(cU c).toArray:=by
  have:cur.toList.drop 2= []:=Xxf (by simp [hs]);simp [cU,this]
 rw [e] at a;simp [Instr.storeAt,Instr.sureAddr,storeVar,Go.sizeOf,typeInfo,f,b,cV,Value.cells,a];simp [cU] at a ⊢
theorem H6 (a:dF prog ap) {k o:Nat} {c:Cl} (h:∀ j u,(cU c)[j]? =some u→w.cell? ⟨k,o+j,none⟩=some u):(Instr.loadAt 25 (.pointer (some ⟨k,o,none⟩))).run prog w= .ok (cV c) w:=by
 obtain ⟨i,d,z,b⟩:=bW a ahR;obtain ⟨cv,e,f⟩:=jX (g:=fun _=>none) (m:=fun _=>(0,0)) (S:=fun _ _=>none) (w:=w) b (us:=cU c) (cs:=cC c) rfl h (aZ _ (KJ c)) (v:=cA c) rfl;have:=EO (AU _ f rfl);subst this;simpa [Instr.loadAt,Instr.sureAddr] using e
end
def uu:Code→List Oper
 | .region _ ops _=>ops.toList
 |_=> []
noncomputable def uT (p:List Nat) (k:Nat):Oper:=(uu (aU p (ae f22))).getD k default
abbrev pRd:List Nat:= [1,1,1,0,1,0,0]
abbrev Q5:List Nat:= [1,1,1,0,1,0,0,1,1]
abbrev Ho:List Nat:= [1,1,1,0,1,0,0,1,1,0,1,1,0,0]
noncomputable def Nl:Code:= .block 3 (.seq
 (.region 8 #[mk (some 32) (.indexAddr 35 (.tmp 28) (.tmp 30)) (uT (Ho++ [1,1,0,0,0]) 0),mk (some 33) (.load 25 (.tmp 32)) (uT (Ho++ [1,1,0,0,0]) 1),mk (some 12) (.alloc 25) (uT (Ho++ [1,1,0,0,0]) 2),mk none (.store 25 (.tmp 12) (.tmp 33)) (uT (Ho++ [1,1,0,0,0]) 3)] false)
 (.region 9 #[mk (some 34) (.load 95 (.tmp 8)) (uT (Ho++ [1,1,0,0,1]) 0),mk (some 35) (.load 25 (.tmp 12)) (uT (Ho++ [1,1,0,0,1]) 1),mk (some 37) (.load 25 (.tmp 9)) (uT (Ho++ [1,1,0,0,1]) 2),mk (some 38) (.buildSlice 35 1 #[(0,.tmp 37)]) (uT (Ho++ [1,1,0,0,1]) 3),mk (some 39) (.mapEntry 95 (.tmp 34) (.tmp 35)) (uT (Ho++ [1,1,0,0,1]) 4),mk (some 36) (.extract (.tmp 39) 0) (uT (Ho++ [1,1,0,0,1]) 5),
  mk (some 40) (.call {callee:= .builtin .append,args:=#[.tmp 36,.tmp 38],argTypes:=#[35,35]}) (uT (Ho++ [1,1,0,0,1]) 6),mk (some 41) (.extract (.tmp 39) 1) (uT (Ho++ [1,1,0,0,1]) 7),mk none (.entryStore 95 (.tmp 34) (.tmp 41) (.tmp 40)) (uT (Ho++ [1,1,0,0,1]) 8)] false))
noncomputable def inB:Code:= .seq (.region 7 #[mk (some 31) (.binOp .lss 3 (.tmp 30) (.tmp 29) 3) (uT (Ho++ [0]) 0)] false) (.seq (.cond (.tmp 31) .skip (.exit 2)) (.seq Nl
 (.region 10 #[mk (some 42) (.binOp .add 3 (.tmp 30) (.const (.int .i64 1)) 3) (uT (Ho++ [1,1,1]) 0),mk (some 30) (.move (.tmp 42)) (uT (Ho++ [1,1,1]) 1)] false)))
theorem Qc:aU Q5 (ae f22)= .block 1 (.seq
 (.region 5 #[mk (some 25) (.entry (.tmp 22)) (uT (Q5++ [0,0]) 0),mk (some 26) (.extract (.tmp 25) 0) (uT (Q5++ [0,0]) 1),mk (some 27) (.extract (.tmp 25) 1) (uT (Q5++ [0,0]) 2),mk (some 9) (.alloc 25) (uT (Q5++ [0,0]) 3),mk none (.store 25 (.tmp 9) (.tmp 26)) (uT (Q5++ [0,0]) 4),mk (some 10) (.assign (.tmp 27)) (uT (Q5++ [0,0]) 5)] false)
 (.seq (.region 6 #[mk (some 28) (.move (.tmp 10)) (uT (Q5++ [0,1,0]) 0),mk (some 29) (.call {callee:= .builtin .len,args:=#[.tmp 28],argTypes:=#[35]}) (uT (Q5++ [0,1,0]) 1),mk (some 30) (.move (.const (.int .i64 0))) (uT (Q5++ [0,1,0]) 2)] false)
  (.block 2 (.loop inB)))):=by kernel_rfl
theorem RF:aU [1,1,1,0] (ae f22)= .seq (.region 3 #[mk (some 21) (.move (.tmp 7)) (uT [1,1,1,0,0] 0),mk (some 22) (.range 95 (.tmp 21)) (uT [1,1,1,0,0] 1)] false)
 (.block 0 (.loop (.seq (.region 4 #[mk (some 23) (.next (.tmp 22) false) (uT (pRd++ [0]) 0),mk (some 24) (.extract (.tmp 23) 0) (uT (pRd++ [0]) 1)] false) (.seq (.cond (.tmp 24) .skip (.exit 0)) (aU Q5 (ae f22)))))):=by kernel_rfl
end Go.Proofs.Tryz
set_option maxRecDepth 100000
set_option linter.unusedVariables false
open Go AM
open Go.ChangeMaps (setBlock)
namespace Go.Proofs.Tryz
abbrev IR:List Nat:= [9,10,12,25,26,27,28,29,30,31,32,33,34,35,36,37,38,39,40,41,42]
structure In (nt:Nat) (a:Act) (vv:Value) (n kU k9 k:Nat):Prop where
 sz:a.tmps.size=nt
 t8:a.eval (.tmp 8)= .pointer (some ⟨kU,0,none⟩)
 t9:a.eval (.tmp 9)= .pointer (some ⟨k9,0,none⟩)
 t28:a.eval (.tmp 28)=vv
 t29:a.eval (.tmp 29)= .int .i64 (n:Int)
 t30:a.eval (.tmp 30)= .int .i64 (k:Int)
structure InW (w:World) (base um kU k9:Nat) (c:Cl) (U:Ut) (bnd:Nat):Prop where
 u:w.cell? ⟨kU,0,none⟩=some (.map (some um))
 n:w.heap[k9]? =some (.cells (cU c).toArray 25 (0,0))
 t:Ad w base 25 um k9 U bnd
 b:base≤w.heap.size
 lU:kU<base
 l9:base≤k9
 ne:kU ≠ um
def PX (w:World) (base um:Nat) (us:List Cl) (vv:Value):Prop:=∃ b o cap,vv= .slice (some ⟨b,o,none⟩) us.length cap∧b<base∧b ≠ um∧∀ k d,us[k]? =some d→∀ j u,(cU d)[j]? =some u→w.cell? ⟨b,o+k*2+j,none⟩=some u
theorem PX.kept {w w':World} {base e:Nat} {us:List Cl} {g:Value} (h:PX w base e us g) (p:Kp base e w w'):PX w' base e us g:=by
 obtain ⟨b,o,c,m,i,f,l⟩:=h;exact ⟨b,o,c,m,i,f,fun k d q j u n=>by rw [World.cell?_of_block (w:=w) (a:=⟨b,_,none⟩) (p.blk b i f)];exact l k d q j u n⟩
theorem sV {w:World} {k j:Nat} {cur:Array Value} {e:TypeId} {u:Value} (h:w.heap[k]? =some (.cells cur e (0,0))) (a:cur.toList[j]? =some u):w.cell? ⟨k,0+j,none⟩=some u:=by
 rw [Φ,jD h];exact a
theorem abX {w:World} {b o n a k:Nat} (f:k<n):(Instr.indexAt 35 (.slice (some ⟨b,o,none⟩) n a) (.int .i64 (k:Int))).run prog w= .ok (.pointer (some ⟨b,o+k*2,none⟩)) w:=by
 obtain ⟨i,e,g,d,_⟩:=Tj;have h0:¬ ((k:Int)<0):=by omega
 have c:(k:Int)<(n:Int):=by omega
 simp [Instr.indexAt,asIntOf,run_underlying X9,h0,c,f,Go.sizeOf,typeInfo,e,d,Addr.add_mid]
theorem XK {w:World} (e:dF prog ap) {k b:Nat} (h:w.cell? ⟨k,0,none⟩=some (.map (some b))):(Instr.loadAt 95 (.pointer (some ⟨k,0,none⟩))).run prog w= .ok (.map (some b)) w:=by
 obtain ⟨i,d,z,l⟩:=bW e ahS;obtain ⟨cv,n,f⟩:=jX (g:=fun _=>none) (m:=fun _=>(0,0)) (S:=fun _ _=>none) (w:=w) l (us:= [.map (some b)]) (cs:= [.raw (.map (some b))]) (k:=k) (a:=0) rfl
  (fun j u c=>by
   match j,c with
   |0,c=>simp at c;subst c;exact h) (by simp [aX,VR,PR]) (v:= .raw (.map (some b))) rfl
 simp only [VR,PR] at f;subst f;simpa [Instr.loadAt,Instr.sureAddr] using n
theorem XL {w:World} (c:Cl):(Instr.buildSlice 35 1 #[(0,cV c)]).run prog w= .ok (.slice (some ⟨w.heap.size,0,none⟩) 1 1) (w.alloc (.cells (cU c).toArray 25)):=by
 obtain ⟨i,b,d,a,_⟩:=Tj;refine mD X9 b d (by rw [a];decide) (by rw [a];decide) ?_;rw [a];have e:Array.range 2=#[0,1]:=rfl;simp [Instr.fill,madeCells,cV,cU,Value.cells,e]
theorem TA (c:Cl):g_ ⟨.struct [(0,3,1),(1,3,1)],2,16,[ω 0,ω 0],[.int .i64,.int .i64],true⟩ (cA c)=true:=rfl
theorem DY {w:World} {k:Nat} {cur a:Array Value} {e:TypeId} (h:w.heap[k]? =some (.cells cur e (0,0))):(w.setRow k a).heap[k]? =some (.cells a e (0,0)):=setRow_heap w k cur a e (0,0) h
theorem aip {n a:Nat} (h:n≤a) (b:a<2^40):n+1≤maxLen∧(n+1)*16≤140737488355328:=by
 have c:(2:Nat)^40=1099511627776:=by decide
 simp only [maxLen];omega
set_option maxHeartbeats 1000000 in
theorem WW (E:dF prog ap) {nt:Nat} (hn:60≤nt) {w:World} {a:Act} {base B J k9:Nat} {c d:Cl} {U:Ut} {N:Nat} {us:List Cl} {vv:Value} {k:Nat} (hb:N<2^40) (hk:k<2^40) (hd:us[k]? =some d)
  (hI:In nt a vv us.length J k9 k) (hW:InW w base B J k9 c U N) (hS:PX w base B us vv) {Q:Exit→Act→World→Prop}
  (hQ:∀ a' w',In nt a' vv us.length J k9 (k+1)→InW w' base B J k9 c (jM U d c) (N+1)→Kp base B w w'→Ka IR a a'→Q .normal a' w'):
  (Code.seq Nl (.region 10 #[mk (some 42) (.binOp .add 3 (.tmp 30) (.const (.int .i64 1)) 3) (uT (Ho++ [1,1,1]) 0),mk (some 30) (.move (.tmp 42)) (uT (Ho++ [1,1,1]) 1)] false)).wp prog Q a w:=by
 obtain ⟨b,o,X,rfl,hbb,hbm,hcells⟩:=hS;have hkl:k<us.length:=(List.getElem?_eq_some_iff.1 hd).1;obtain ⟨i25,h251,h252,h253,h254⟩:=Tj;obtain ⟨i95,d95,z95,ht95⟩:=bW E ahS;obtain ⟨i35,d35,z35,O⟩:=bW E akd;have hd95:d95= .map 25 35:=Ih (by rw [← ht95.d_eq]);subst hd95;have hz35:z35= .slice none 0 0:=by
  obtain ⟨i,h1,h2⟩:=ajC;have:=O.info;rw [h1] at this;cases this;have:=O.zero;rw [h2] at this;cases this;rfl
 have L:=hI.sz;refine wp_seq ?_;unfold Nl;refine wp_block (wp_seq (wp_region_list ?_));refine yu (v:= .pointer (some ⟨b,o+k*2,none⟩)) (w':=w) ?_ ?_
 ·simp only [execOp,mk,hI.t28,hI.t30,Sem.run_bind,abX hkl,Result.andThen_ok,Sem.run_pure]
 have e32:=bf (a:=a) (d:=32) (t:=32) (v:= .pointer (some ⟨b,o+k*2,none⟩)) (by omega);rw [if_pos rfl] at e32;refine yu (v:=cV d) (w':=w) ?_ ?_
 ·simp only [execOp,mk,e32,Sem.run_bind,H6 E (hcells k d hd),Result.andThen_ok,Sem.run_pure]
 refine yu (v:= .pointer (some ⟨w.heap.size,0,none⟩)) (w':=w.alloc (.cells #[.int .i64 0,.int .i64 0] 25)) ?_ ?_
 ·simp only [execOp,mk,Sem.run_bind,O5,Result.andThen_ok,Sem.run_pure]
 generalize V:w.alloc (.cells #[.int .i64 0,.int .i64 0] 25)=w1;have hn1:w1.heap[w.heap.size]? =some (.cells #[.int .i64 0,.int .i64 0] 25 (0,0)):=by rw [← V];exact heap_alloc_new w _
 have R:w.grownBy w1 none:=by rw [← V];exact World.grownBy_alloc w _ none
 have hz1:w1.heap.size=w.heap.size+1:=by rw [← V];simp
 generalize y:((a.put (some 32) (.pointer (some ⟨b,o+k*2,none⟩))).put (some 33) (cV d)).put (some 12) (.pointer (some ⟨w.heap.size,0,none⟩))=a3;have z:a3.tmps.size=nt:=by rw [← y];simp only [aG,L]
 have f12:a3.eval (.tmp 12)= .pointer (some ⟨w.heap.size,0,none⟩):=by rw [← y,bf (by simp only [aG];omega),if_pos rfl]
 have f33:a3.eval (.tmp 33)=cV d:=by rw [← y,bf (by simp only [aG];omega),if_neg (by decide),bf (by simp only [aG];omega),if_pos rfl]
 have M:Ka IR a a3:=by rw [← y];exact (((Ka.refl IR a).put (by decide)).put (by decide)).put (by decide)
 have f9:a3.eval (.tmp 9)= .pointer (some ⟨k9,0,none⟩):=by rw [← y];simp only [bf,aG,L,show (12:Nat)<nt by omega,show (33:Nat)<nt by omega,show (32:Nat)<nt by omega];simpa using hI.t9
 have f28:a3.eval (.tmp 28)= .slice (some ⟨b,o,none⟩) us.length X:=by rw [← y];simp only [bf,aG,L,show (12:Nat)<nt by omega,show (33:Nat)<nt by omega,show (32:Nat)<nt by omega];simpa using hI.t28
 have f29:a3.eval (.tmp 29)= .int .i64 (us.length:Int):=by rw [← y];simp only [bf,aG,L,show (12:Nat)<nt by omega,show (33:Nat)<nt by omega,show (32:Nat)<nt by omega];simpa using hI.t29
 have f30:a3.eval (.tmp 30)= .int .i64 (k:Int):=by rw [← y];simp only [bf,aG,L,show (12:Nat)<nt by omega,show (33:Nat)<nt by omega,show (32:Nat)<nt by omega];simpa using hI.t30
 have f8:a3.eval (.tmp 8)= .pointer (some ⟨J,0,none⟩):=by rw [M.get 8 (by decide)];exact hI.t8
 clear y e32;refine mku (w':=w1.setRow w.heap.size (cU d).toArray) ?_ ?_
 ·simp only [execOp,mk,f12,f33,Sem.run_bind,O6 hn1 rfl d,Result.andThen_ok,Sem.run_pure]
 generalize T:w1.setRow w.heap.size (cU d).toArray=w2;have hn2:w2.heap[w.heap.size]? =some (.cells (cU d).toArray 25 (0,0)):=by rw [← T];exact DY hn1
 have hz2:w2.heap.size=w.heap.size+1:=by rw [← T];simpa using hz1
 have W:w.grownBy w2 none:=by
  rw [← T];exact ⟨R.os,R.tape,R.output,by simp;omega,fun q hq hne=>(setRow_other w1 w.heap.size q _ (by omega)).trans (R.block q hq hne)⟩
 clear V T hn1 R hz1;show (Code.region 9 _ false).wp prog _ _ _;refine wp_region_list ?_;have hkUl:J<w.heap.size:=by have:=hW.lU;have:=hW.b;omega
 have hk9l:k9<w.heap.size:=(Array.getElem?_eq_some_iff.1 hW.n).1;have hu2:w2.cell? ⟨J,0,none⟩=some (.map (some B)):=(World.cell?_of_block (w:=w) (a:=⟨J,0,none⟩) (W.block J hkUl (by simp))).trans hW.u;have hc2:w2.heap[k9]? =some (.cells (cU c).toArray 25 (0,0)):=(W.block k9 hk9l (by simp)).trans hW.n;have hT2:Ad w2 base 25 B k9 U N:=hW.t.kept W;refine yu (v:= .map (some B)) (w':=w2) ?_ ?_
 ·simp only [execOp,mk,f8,Sem.run_bind,XK E hu2,Result.andThen_ok,Sem.run_pure]
 refine yu (v:=cV d) (w':=w2) ?_ ?_
 ·simp only [execOp,mk,bf,z,show (34:Nat)<nt by omega,show ¬ (12:Nat)=34 by decide,if_false,f12,Sem.run_bind,H6 (o:=0) E (fun j u hj=>sV hn2 (by simpa using hj)),Result.andThen_ok,Sem.run_pure]
 refine yu (v:=cV c) (w':=w2) ?_ ?_
 ·simp only [execOp,mk,bf,aG,z,show (34:Nat)<nt by omega,show (35:Nat)<nt by omega,show ¬ (9:Nat)=34 by decide,show ¬ (9:Nat)=35 by decide,if_false,f9,Sem.run_bind,H6 (o:=0) E (fun j u hj=>sV hc2 (by simpa using hj)),Result.andThen_ok,Sem.run_pure]
 generalize n:((a3.put (some 34) (.map (some B))).put (some 35) (cV d)).put (some 37) (cV c)=a4;have p:a4.tmps.size=nt:=by rw [← n];simp only [aG,z]
 have Z:Ka IR a3 a4:=by rw [← n];exact (((Ka.refl IR a3).put (by decide)).put (by decide)).put (by decide)
 have s:(34:Nat)<nt:=by omega
 have x:(35:Nat)<nt:=by omega
 have r:(37:Nat)<nt:=by omega
 have g37:a4.eval (.tmp 37)=cV c:=by rw [← n,bf (by simp only [aG];omega),if_pos rfl]
 have g35:a4.eval (.tmp 35)=cV d:=by rw [← n];simp only [bf,aG,z,s,x,r];simp
 have g34:a4.eval (.tmp 34)= .map (some B):=by rw [← n];simp only [bf,aG,z,s,x,r];simp
 have g9:a4.eval (.tmp 9)= .pointer (some ⟨k9,0,none⟩):=by rw [← n];simp only [bf,aG,z,s,x,r];simpa using f9
 have g28:a4.eval (.tmp 28)= .slice (some ⟨b,o,none⟩) us.length X:=by rw [← n];simp only [bf,aG,z,s,x,r];simpa using f28
 have g29:a4.eval (.tmp 29)= .int .i64 (us.length:Int):=by rw [← n];simp only [bf,aG,z,s,x,r];simpa using f29
 have g30:a4.eval (.tmp 30)= .int .i64 (k:Int):=by rw [← n];simp only [bf,aG,z,s,x,r];simpa using f30
 have hka:Ka IR a a4:=M.trans Z;clear n Z M f9 f28 f29 f30 f8 f12 f33;refine yu (v:= .slice (some ⟨w2.heap.size,0,none⟩) 1 1) (w':=w2.alloc (.cells (cU c).toArray 25)) ?_ ?_
 ·simp only [execOp,mk,Xzs,χ,Xjd,g37,Sem.run_bind,XL,Result.andThen_ok,Sem.run_pure]
 generalize Y:w2.alloc (.cells (cU c).toArray 25)=w3;have hn3:w3.heap[w2.heap.size]? =some (.cells (cU c).toArray 25 (0,0)):=by rw [← Y];exact heap_alloc_new w2 _
 have hg3:w2.grownBy w3 none:=by rw [← Y];exact World.grownBy_alloc w2 _ none
 have hz3:w3.heap.size=w2.heap.size+1:=by rw [← Y];simp
 clear Y;have hT3:Ad w3 base 25 B k9 U N:=hT2.kept hg3;have hb3:base≤w3.heap.size:=by have:=hW.b;omega
 obtain ⟨v0,st,w4,hr4,S,ho4,hl4,hx4,hback⟩:=hT3.entry E ht95 ahR O hz35 TA hb3 (by omega) d;refine yu (v:= .tuple #[v0,goInt st]) (w':=w4) ?_ ?_
 ·simp only [execOp,mk,bf,p,show (38:Nat)<nt by omega,show ¬ (34:Nat)=38 by decide,show ¬ (35:Nat)=38 by decide,if_false,g34,g35,Sem.run_bind,hr4,Result.andThen_ok,Sem.run_pure]
 refine yu (v:=v0) (w':=w4) ?_ ?_
 ·simp [execOp,mk,bf,aG,p,show (39:Nat)<nt by omega,Instr.extract]
 have hsz4:w3.heap.size≤w4.heap.size:=S.size;have hne2:w2.heap.size ≠ B:=by have:=hW.t.lt;have:=hW.b;omega
 have hn4:w4.heap[w2.heap.size]? =some (.cells (cU c).toArray 25 (0,0)):=(S.block _ (by omega) (by simpa using hne2)).trans hn3;obtain ⟨q1,q2⟩:=aip hl4 hb;obtain ⟨v5,w5,hr5,ho5,K,_,hwh5⟩:=run_append_own_at (P:=prog) w4 base 35 (uT (Ho++ [1,1,0,0,1]) 6).type 25 i25 (.agg #[.int .i64 0,.int .i64 0]) 2 16 X9 h251 h252 h253 h254 rfl (by decide) v0 _ _ ho4 ⟨w2.heap.size,0,none⟩ 1 1 (cU c) rfl
  (fun j u hj=>by
   have e:(⟨w2.heap.size,0,none⟩:Addr).add j=⟨w2.heap.size,0+j,none⟩:=Addr.add_mid ..;rw [e];exact sV hn4 (by simpa using hj)) (KX c) q1 q2 (by omega)
 generalize m:((a4.put (some 38) (.slice (some ⟨w2.heap.size,0,none⟩) 1 1)).put (some 39) (.tuple #[v0,goInt st])).put (some 36) v0=a5;have F:a5.tmps.size=nt:=by rw [← m];simp only [aG,p]
 have l:(38:Nat)<nt:=by omega
 have f:(39:Nat)<nt:=by omega
 have g:(36:Nat)<nt:=by omega
 have hka5:Ka IR a a5:=by rw [← m];exact ((hka.put (by decide)).put (by decide)).put (by decide)
 have h36:a5.eval (.tmp 36)=v0:=by rw [← m,bf (by simp only [aG];omega),if_pos rfl]
 have h38:a5.eval (.tmp 38)= .slice (some ⟨w2.heap.size,0,none⟩) 1 1:=by rw [← m];simp only [bf,aG,p,l,f,g];simp
 have h39:a5.eval (.tmp 39)= .tuple #[v0,goInt st]:=by rw [← m];simp only [bf,aG,p,l,f,g];simp
 have h34:a5.eval (.tmp 34)= .map (some B):=by rw [← m];simp only [bf,aG,p,l,f,g];simpa using g34
 have h9:a5.eval (.tmp 9)= .pointer (some ⟨k9,0,none⟩):=by rw [← m];simp only [bf,aG,p,l,f,g];simpa using g9
 have h28:a5.eval (.tmp 28)= .slice (some ⟨b,o,none⟩) us.length X:=by rw [← m];simp only [bf,aG,p,l,f,g];simpa using g28
 have h29:a5.eval (.tmp 29)= .int .i64 (us.length:Int):=by rw [← m];simp only [bf,aG,p,l,f,g];simpa using g29
 have h30:a5.eval (.tmp 30)= .int .i64 (k:Int):=by rw [← m];simp only [bf,aG,p,l,f,g];simpa using g30
 clear m hka g9 g28 g29 g30 g34 g35 g37;refine yu (v:=v5) (w':=w5) ?_ ?_
 ·simp only [execOp,mk,resolve,invoke,builtin,Sem.run_bind,Sem.run_pure,Result.andThen_ok,Xzs,χ,Xjd,h36,h38,hr5]
 refine yu (v:=goInt st) (w':=w5) ?_ ?_
 ·simp [execOp,mk,bf,F,show (40:Nat)<nt by omega,h39,Instr.extract]
 obtain ⟨w6,hr6,hg6,hT6⟩:=hback w5 v5 c K (by rw [show Gp (dn U d++ [c])=Gp (dn U d)++cU c by simp [Gp]];exact ho5) (hwh5.imp (fun h=>h) fun h=> ⟨_,h,ε _⟩);refine mku (w':=w6) ?_ ?_
 ·simp only [execOp,mk,bf,aG,F,show (40:Nat)<nt by omega,show (41:Nat)<nt by omega,show ¬ (34:Nat)=41 by decide,show ¬ (34:Nat)=40 by decide,show ¬ (40:Nat)=41 by decide,if_false,if_true,h34,Sem.run_bind,hr6,Result.andThen_ok,Sem.run_pure]
 have hv0:∀ q,v0.ownBlock=some q→q=B∨base≤q:=fun q hq=> .inr (ho4.lt q hq).1
 have hum:B<base:=hW.t.lt;have hbw:=hW.b;have hb4:base≤w4.heap.size:=by omega
 have hb5:base≤w5.heap.size:=Xqh hb4 K.size;have hkp:Kp base B w w6:=(((Kp.grown hW.b W (by simp)).trans (Kp.grown (by omega) hg3 (by simp))).trans (Kp.grown hb3 S (fun q h=> .inl (by cases h;rfl)))).trans ((Kp.grown hb4 K hv0).trans (Kp.grown hb5 hg6 (fun q h=> .inl (by cases h;rfl))));have hku6:w6.cell? ⟨J,0,none⟩=some (.map (some B)):=(World.cell?_of_block (w:=w) (a:=⟨J,0,none⟩) (hkp.blk J hW.lU hW.ne)).trans hW.u;have hk9um:k9 ≠ B:=by have:=hW.l9;omega
 have hk9v:some k9 ≠ v0.ownBlock:=fun e=>hx4 e.symm
 have hk96:w6.heap[k9]? =some (.cells (cU c).toArray 25 (0,0)):=by
  have l4:k9<w4.heap.size:=by omega
  rw [hg6.block k9 (by have:=K.size;omega) (by simpa using hk9um),K.block k9 l4 hk9v,S.block k9 (by omega) (by simpa using hk9um),hg3.block k9 (by omega) (by simp)];exact hc2
 have hb6:base≤w6.heap.size:=Xqh hb5 hg6.size;generalize G:(a5.put (some 40) v5).put (some 41) (goInt st)=a6;have D:a6.tmps.size=nt:=by rw [← G];simp only [aG,F]
 have hka6:Ka IR a a6:=by rw [← G];exact (hka5.put (by decide)).put (by decide)
 have I:(40:Nat)<nt:=by omega
 have H:(41:Nat)<nt:=by omega
 have i9:a6.eval (.tmp 9)= .pointer (some ⟨k9,0,none⟩):=by rw [← G];simp only [bf,aG,F,I,H];simpa using h9
 have i28:a6.eval (.tmp 28)= .slice (some ⟨b,o,none⟩) us.length X:=by rw [← G];simp only [bf,aG,F,I,H];simpa using h28
 have i29:a6.eval (.tmp 29)= .int .i64 (us.length:Int):=by rw [← G];simp only [bf,aG,F,I,H];simpa using h29
 have i30:a6.eval (.tmp 30)= .int .i64 (k:Int):=by rw [← G];simp only [bf,aG,F,I,H];simpa using h30
 clear G h9 h28 h29 h30 h34 h36 h38 h39;show (Code.region 10 _ false).wp prog Q a6 w6;refine wp_region_list ?_;have hkw:δ .i64 ((k:Int)+1)=((k+1:Nat):Int):=by
  have h2:(2:Nat)^40=1099511627776:=by decide
  rw [dZ]<;>omega
 refine yu (v:= .int .i64 ((k+1:Nat):Int)) (w':=w6) ?_ ?_
 ·have hc1:a6.eval (.const (.int .i64 1))= .int .i64 1:=rfl;have hgd:(eqGuard .add 3 (.tmp 30) (.const (.int .i64 1)) (.int .i64 (k:Int)) (.int .i64 1)).run prog w6= .ok () w6:=gX _ _ _ _ _ _ (by simp) (by simp);simp only [execOp,mk,i30,hc1,Sem.run_bind,hgd,Result.andThen_ok];simp [binOp,Op.intArith,hkw]
 refine yu (v:= .int .i64 ((k+1:Nat):Int)) (w':=w6) ?_ ?_
 ·simp only [execOp,mk,bf,D,show (42:Nat)<nt by omega,if_true,Sem.run_pure]
 have C:(42:Nat)<nt:=by omega
 have A:(30:Nat)<nt:=by omega
 refine hQ _ _ ⟨by simp only [aG,D], ?_, ?_, ?_, ?_, ?_⟩ ⟨hku6,hk96,hT6,hb6,hW.lU,hW.l9,hW.ne⟩ hkp ((hka6.put (by decide)).put (by decide))
 ·simp only [bf,aG,D,C,A];simp [hka6.get 8 (by decide)];exact hI.t8
 ·simp only [bf,aG,D,C,A];simpa using i9
 ·simp only [bf,aG,D,C,A];simpa using i28
 ·simp only [bf,aG,D,C,A];simpa using i29
 ·simp only [bf,aG,D,C,A];simp
def dK (W:Ut):List Nat→Ut
 | []=> []
 |i::l=>match W[i]? with
  |some x=>x.2.foldl (fun U d=>jM U d x.1) (dK W l)
  |none=>dK W l
theorem NY (l:dF prog ap) {nt:Nat} (x:60≤nt) {base n m k9:Nat} {c:Cl} {us:List Cl} {o:Value} {Q:Exit→Act→World→Prop}:∀ (rest pre:List Cl) (U:Ut) (bnd:Nat) (w:World) (a:Act),us=pre++rest→us.length<2^39→bnd+rest.length<2^40→
  In nt a o us.length m k9 pre.length→InW w base n m k9 c U bnd→(us ≠ []→PX w base n us o)→
  (∀ a' w',In nt a' o us.length m k9 us.length→InW w' base n m k9 c (rest.foldl (fun U d=>jM U d c) U) (bnd+rest.length)→Kp base n w w'→Ka IR a a'→Q (.exit 2) a' w')→Code.rounds prog inB Q (rest.length+1) a w
 | rest,pre,U,bnd,w,a,hus,hl,hb,hI,hW,hS,hQ=>by
  show (inB).wp prog (Exit.then (Code.rounds prog inB Q rest.length) Q) a w;unfold inB;refine wp_seq (wp_region_list ?_);have s:=hI.sz;have t:(eqGuard .lss 3 (.tmp 30) (.tmp 29) (.int .i64 (pre.length:Int)) (.int .i64 (us.length:Int))).run prog w= .ok () w:=gX _ _ _ _ _ _ (by simp) (by simp);refine yu (v:= .bool (decide ((pre.length:Int)<(us.length:Int)))) (w':=w) ?_ ?_
  ·simp only [execOp,mk,hI.t29,hI.t30,Sem.run_bind,t,Result.andThen_ok];simp [binOp,Op.intCmp,Op.intArith]
  have u:(31:Nat)<nt:=by omega
  generalize f:a.put (some 31) (.bool (decide ((pre.length:Int)<(us.length:Int))))=a1;have g:a1.eval (.tmp 31)= .bool (decide ((pre.length:Int)<(us.length:Int))):=by rw [← f,bf (by omega),if_pos rfl]
  have i:In nt a1 o us.length m k9 pre.length:=by
   rw [← f];refine ⟨by rw [aG];exact s, ?_, ?_, ?_, ?_, ?_⟩<;>rw [bf (by omega),if_neg (by decide)]
   ·exact hI.t8
   ·exact hI.t9
   ·exact hI.t28
   ·exact hI.t29
   ·exact hI.t30
  have h:Ka IR a a1:=by rw [← f];exact (Ka.refl IR a).put (by decide)
  clear f;show (Code.seq (.cond (.tmp 31) .skip (.exit 2)) _).wp prog _ a1 w
  match rest,hus,hb,hQ with
  | [],hus,hb,hQ=>
   have b:pre.length=us.length:=by rw [hus];simp
   rw [b,Yq1 (by omega)] at g;refine wp_seq (wp_cond_false g (wp_exit ?_));show Q (.exit 2) a1 w;refine hQ a1 w (by rw [b] at i;exact i) (by simpa using hW) (Kp.refl _ _ _) h
  |d::rest,hus,hb,hQ=>
   have b:pre.length<us.length:=by rw [hus];simp
   rw [Yq0 (by omega)] at g;refine wp_seq (wp_cond_true g (wp_skip ?_));have A:us[pre.length]? =some d:=by rw [hus];simp
   have j:us ≠ []:=fun e=>by rw [e] at b;simp at b
   simp only [Θ] at hb;show (Code.seq Nl _).wp prog _ a1 w;have y:(2:Nat)^39=549755813888:=by decide
   have E:(2:Nat)^40=1099511627776:=by decide
   refine WW l x (by omega) (by omega) A i hW (hS j) ?_;intro a' w' r p k q;show Code.rounds prog inB Q (rest.length+1) a' w';refine NY l x rest (pre++ [d]) _ (bnd+1) w' a' (by rw [hus];simp) hl (by omega) (by simpa using r) p (fun j=>(hS j).kept k) ?_;intro F w2 D z C B;refine hQ F w2 D ?_ (k.trans C) ((h.trans q).trans B);simp only [Xqy,Θ];rw [show bnd+(rest.length+1)=bnd+1+rest.length by omega];exact z
theorem Np:∀ {us:List Cl} {k j:Nat} {d:Cl} {u:Value},us[k]? =some d→(cU d)[j]? =some u→(Gp us)[k*2+j]? =some u
 | [],_,_,_,_,h,_=>by simp at h
 |x::us,0,j,d,u,h,hj=>by
  simp at h;subst h;have a:=(List.getElem?_eq_some_iff.1 hj).1;simp only [Gp,Xqg,Nat.zero_mul,Φ];rw [List.getElem?_append_left a];exact hj
 |x::us,k+1,j,d,u,h,hj=>by
  simp only [List.getElem?_cons_succ] at h;have:=Np h hj;simp only [Gp,Xqg];rw [Xqz (by simp [cU];omega)];rw [show (k+1)*2+j - (cU x).length=k*2+j by simp [cU];omega];exact this
theorem ahq {hp:Hp} {m:aI} {S:aB} {w:World} {base n:Nat} (z:bi ap (AM.ag hp) m S w) (A:Lo (AM.ag hp) m S base n) {us:List Cl} {v:Bool} {l:Value} (h:PR S (.sl (cL us) us.length v) l):
  ∃ g a,l= .slice g us.length a∧(us ≠ []→PX w base n us l):=by
 simp only [PR] at h;obtain ⟨g,a,rfl,t,h⟩:=h;refine ⟨g,a,rfl,fun c=> ?_⟩;rcases h with ⟨_,e,_⟩|⟨b,o,vs,rfl,e,p⟩
 ·exfalso;cases us with
  |nil=>exact c rfl
  |cons x us=>simp [cL,cC] at e
 ·have f:=AO e;subst f;have B:¬ (base≤b∨b=n):=fun i=>by
   cases us with
   |nil=>exact c rfl
   |cons x us=>
    have:=(p 0 (.int .i64 x.1) rfl).1;rw [A.clr b i] at this;cases this
  refine ⟨b,o,a,rfl,by omega,by omega,fun k d q j u r=> ?_⟩;obtain ⟨y,s⟩:=p _ u (Np q r);rw [Nat.add_assoc];exact z.one y s
structure Jt (W:Ut) (lb:Nat) (kU um base:Nat) (w:World) (done:List Nat) (w':World):Prop where
 nd:done.Nodup
 lt:∀ i ∈ done,i<W.length
 u:w'.cell? ⟨kU,0,none⟩=some (.map (some um))
 t:∃ x,Ad w' base 25 um x (dK W done) (done.length*lb)
 b:base≤w'.heap.size
 k:Kp w.heap.size um w w'
theorem RJ {W:Ut} {done:List Nat} (h:done.Nodup) (b:∀ i ∈ done,i<W.length):done.length≤W.length:=by
 have:=List.Nodup.length_le_of_subset h (l₂:=Xqf W.length) (fun i a=>List.mem_range.2 (b i a));simpa using this
abbrev uM (fr:List Cl) (nf:Bool) (p:AV):dE:= [(2,.sl (cL fr) fr.length nf),(3,.ptr 0 0 0),(4,.ptr 1 0 0),(8,p)]
theorem Ws {fr:List Cl} {b:Bool} {p:AV} {c:Value}:∀ d ∈ IR,(gq 22 23 24 c (uM fr b p)).get d= .dead:=by
 intro d a;simp only [IR,Xqu,List.not_mem_nil,or_false] at a;rcases a with rfl|rfl|rfl|rfl|rfl|rfl|rfl|rfl|rfl|rfl|rfl|rfl|rfl|rfl|rfl|rfl|rfl|rfl|rfl|rfl|rfl<;>rfl
set_option maxHeartbeats 1000000 in
theorem Uf (Y:dF prog ap) {nt:Nat} (hn:60≤nt) {W:Ut} {lb f s base r:Nat} {H w:World} {a:Act} {done:List Nat} {i:Nat} {c:Cl} {us:List Cl} {nn:Bool} {hp:Hp} {m m0:aI} {S S0:aB} {w0:World} {h0:List aK} {fr:List Cl} {nf:Bool} {kv vv:Value}
  (hlb:W.length*lb+lb<2^39) (hws:base=H.heap.size+1) (hr:r=H.heap.size) (hkU:f<H.heap.size) (hum:s<H.heap.size) (G:f ≠ s) (hl:Lo (AM.ag hp) m S base s) (hw0:w0.heap.size≤s) (hw0b:w0.heap.size≤base)
  (hJ:Jt W lb f s base H done w) (hi:i ∉ done) (hW:W[i]? =some (c,us)) (hus:us.length≤lb)
  (hfr:Fr (aC h0) m0 S0 w0 (AM.ag hp) m S w) (hF:FR ap (gq 22 23 24 (.pointer (some ⟨r,0,none⟩)) (uM fr nf (.raw (.pointer (some ⟨f,0,none⟩))))) hp [] nt m S w a)
  (hent:(Instr.entry (.pointer (some ⟨r,0,none⟩))).run prog w= .ok (.tuple #[kv,vv]) w) (B:PR S (cA c) kv) (hvv:PR S (.sl (cL us) us.length nn) vv) {K:Exit→Act→World→Prop}
  (hK:∀ w' a',Jt W lb f s base H (i::done) w'→Fr (aC h0) m0 S0 w0 (AM.ag hp) m S w'→FR ap (gq 22 23 24 (.pointer (some ⟨r,0,none⟩)) (uM fr nf (.raw (.pointer (some ⟨f,0,none⟩))))) hp [] nt m S w' a'→(∀ k,k<base→k ≠ s→w'.heap[k]? =w.heap[k]?)→K .normal a' w'):
  (aU Q5 (ae f22)).wp prog K a w:=by
 have B:=EO B;subst B;obtain ⟨n,b,rfl,V⟩:=ahq hF.srel hl hvv;obtain ⟨x,hT⟩:=hJ.t;have l:a.tmps.size=nt:=hF.size;have Z:a.eval (.tmp 22)= .pointer (some ⟨r,0,none⟩):=by
  have:=hF.env 22;simp only [gq,dE.get,AM.ag,Nat.beq_refl,Xq9,VR,PR] at this;exact this
 have e8:a.eval (.tmp 8)= .pointer (some ⟨f,0,none⟩):=by
  have:=hF.env 8;have e:(gq 22 23 24 (.pointer (some ⟨r,0,none⟩)) (uM fr nf (.raw (.pointer (some ⟨f,0,none⟩))))).get 8= .raw (.pointer (some ⟨f,0,none⟩)):=rfl;rw [e] at this;simp only [VR,PR] at this;exact this
 rw [Qc];refine wp_block (wp_seq (wp_region_list ?_));refine yu (v:= .tuple #[cV c,.slice n us.length b]) (w':=w) ?_ ?_
 ·simp only [execOp,mk,Z,Sem.run_bind,hent,Result.andThen_ok,Sem.run_pure]
 have y:(25:Nat)<nt:=by omega
 have D:(26:Nat)<nt:=by omega
 have J:(27:Nat)<nt:=by omega
 have l9:(9:Nat)<nt:=by omega
 have F:(10:Nat)<nt:=by omega
 have O:(28:Nat)<nt:=by omega
 have Q:(29:Nat)<nt:=by omega
 have l30:(30:Nat)<nt:=by omega
 refine yu (v:=cV c) (w':=w) ?_ ?_
 ·simp [execOp,mk,bf,l,y,Instr.extract]
 refine yu (v:= .slice n us.length b) (w':=w) ?_ ?_
 ·simp [execOp,mk,bf,aG,l,y,D,Instr.extract]
 refine yu (v:= .pointer (some ⟨w.heap.size,0,none⟩)) (w':=w.alloc (.cells #[.int .i64 0,.int .i64 0] 25)) ?_ ?_
 ·simp only [execOp,mk,Sem.run_bind,O5,Result.andThen_ok,Sem.run_pure]
 generalize u:w.alloc (.cells #[.int .i64 0,.int .i64 0] 25)=w1;have E:w1.heap[w.heap.size]? =some (.cells #[.int .i64 0,.int .i64 0] 25 (0,0)):=by rw [← u];exact heap_alloc_new w _
 have j:w.grownBy w1 none:=by rw [← u];exact World.grownBy_alloc w _ none
 have M:w1.heap.size=w.heap.size+1:=by rw [← u];simp
 generalize g:(((a.put (some 25) (.tuple #[cV c,.slice n us.length b])).put (some 26) (cV c)).put (some 27) (.slice n us.length b)).put (some 9) (.pointer (some ⟨w.heap.size,0,none⟩))=a3;have o:a3.tmps.size=nt:=by rw [← g];simp only [aG,l]
 have z:Ka IR a a3:=by rw [← g];exact ((((Ka.refl IR a).put (by decide)).put (by decide)).put (by decide)).put (by decide)
 have f9:a3.eval (.tmp 9)= .pointer (some ⟨w.heap.size,0,none⟩):=by rw [← g,bf (by simp only [aG];omega),if_pos rfl]
 have R:a3.eval (.tmp 26)=cV c:=by rw [← g];simp only [bf,aG,l,y,D,J,l9];simp
 have U:a3.eval (.tmp 27)= .slice n us.length b:=by rw [← g];simp only [bf,aG,l,y,D,J,l9];simp
 clear g u;refine mku (w':=w1.setRow w.heap.size (cU c).toArray) ?_ ?_
 ·simp only [execOp,mk,f9,R,Sem.run_bind,O6 E rfl c,Result.andThen_ok,Sem.run_pure]
 generalize t:w1.setRow w.heap.size (cU c).toArray=w2;have hn2:w2.heap[w.heap.size]? =some (.cells (cU c).toArray 25 (0,0)):=by rw [← t];exact DY E
 have hz2:w2.heap.size=w.heap.size+1:=by rw [← t];simpa using M
 have p:w.grownBy w2 none:=by
  rw [← t];exact ⟨j.os,j.tape,j.output,by simp;omega,fun q N G=>(setRow_other w1 w.heap.size q _ (by omega)).trans (j.block q N G)⟩
 clear t E j M;refine yu (v:= .slice n us.length b) (w':=w2) ?_ ?_
 ·simp only [execOp,mk,U,Sem.run_pure]
 show (Code.seq (.region 6 _ false) _).wp prog _ _ _;refine wp_seq (wp_region_list ?_);refine yu (v:= .slice n us.length b) (w':=w2) ?_ ?_
 ·simp [execOp,mk,bf,o,F]
 refine yu (v:= .int .i64 (us.length:Int)) (w':=w2) ?_ ?_
 ·simp [execOp,mk,bf,aG,o,F,O,resolve,invoke,builtin,Builtin.len_,run_underlying X9,goInt]
 refine yu (v:= .int .i64 0) (w':=w2) ?_ ?_
 ·simp only [execOp,mk,Sem.run_pure];rfl
 generalize C:(((a3.put (some 10) (.slice n us.length b)).put (some 28) (.slice n us.length b)).put (some 29) (.int .i64 (us.length:Int))).put (some 30) (.int .i64 0)=a4;have hI:In nt a4 (.slice n us.length b) us.length f w.heap.size ([]:List Cl).length:=by
  rw [← C];refine ⟨by simp only [aG,o], ?_, ?_, ?_, ?_, ?_⟩<;>simp only [bf,aG,o,F,O,Q,l30]
  ·simp [z.get 8 (by decide),e8]
  ·simpa using f9
  ·simp
  ·simp
  ·simp
 have L:Ka IR a a4:=by rw [← C];exact (((z.put (by decide)).put (by decide)).put (by decide)).put (by decide)
 clear C;have A:=hJ.b;have hdl:=RJ hJ.nd hJ.lt;have X:i<W.length:=(List.getElem?_eq_some_iff.1 hW).1;have hbd:done.length*lb≤W.length*lb:=Nat.mul_le_mul_right _ hdl;have h39:(2:Nat)^39=549755813888:=by decide
 have h40:(2:Nat)^40=1099511627776:=by decide
 have I:InW w2 base s f w.heap.size c (dK W done) (done.length*lb):=
  ⟨(World.cell?_of_block (w:=w) (a:=⟨f,0,none⟩) (p.block f (show f<_ by omega) (by simp))).trans hJ.u,hn2,(hT.new_x (ε _)).kept p,by omega,by omega,A,G⟩
 refine wp_block (wp_loop_rounds (us.length+1) ?_);refine NY Y hn us [] _ _ w2 a4 rfl (show us.length<2^39 by omega) (by omega) hI I (fun h=>(V h).kept (Kp.grown A p (by simp))) ?_;intro a' w' h1 T h3 h4;have d:Kp base s w w':=(Kp.grown A p (by simp)).trans h3;have hka:Ka IR a a':=L.trans h4;have:=hK w' a' ⟨List.nodup_cons.2 ⟨hi,hJ.nd⟩,fun q N=>by
   rcases List.mem_cons.1 N with rfl|N
   ·exact X
   ·exact hJ.lt q N,T.u,⟨_,by
   have h5:=T.t.mono (bnd':=(i::done).length*lb) (by simp only [Θ,Nat.add_mul];omega);simpa only [dK,hW] using h5⟩,T.b,hJ.k.trans ⟨d.os,d.tape,d.output,d.size,fun k hk hn=>d.blk k (by omega) hn⟩⟩
  (hl.frame hfr d hw0 hw0b) (hl.fr hF d hka Ws) d.blk
 simpa [Exit.then,Exit.inBlock] using this
def acr (W:Ut):aK:=⟨[.agg (W.map fun x=>cA x.1),.agg (W.map fun x=> .sl (cL x.2) x.2.length false)],0,false,0,dP,true⟩
abbrev Ew (lc:List AV):aK:=⟨lc,0,false,0,0,true⟩
abbrev Eu (n:Int):aK:=⟨[ω n],0,false,0,0,true⟩
def sF (W:Ut) (lc:List AV) (n:Int) (fr:List Cl) (nf:Bool):St:=
 ⟨[(2,.sl (cL fr) fr.length nf),(3,.ptr 0 0 0),(4,.ptr 1 0 0),(7,.mr 2 0),(8,.ptr 3 0 0)],[(0,Ew lc),(1,Eu n),(2,acr W),(3,⟨[.mr 4 0],0,false,0,0,false⟩),(4,⟨[.agg [],.agg []],0,false,0,dP,true⟩)],.dead,[]⟩
def VC (U:Ut) (lc:List AV) (n:Int) (fr:List Cl) (nf:Bool):St:=
 ⟨uM fr nf (.ptr 3 0 0),[(3,⟨[.mr 4 0],0,false,0,0,false⟩),(4,EH U),(0,Ew lc),(1,Eu n)],.dead,[]⟩
theorem ade {P:Nat→Prop} (h0:∀ t,t ≠ 2→t ≠ 3→t ≠ 4→t ≠ 8→P t) (d:P 2) (b:P 3) (a:P 4) (c:P 8):∀ t,P t:=by
 intro t;by_cases e2:t=2
 ·subst e2;exact d
 by_cases e3:t=3
 ·subst e3;exact b
 by_cases e4:t=4
 ·subst e4;exact a
 by_cases e8:t=8
 ·subst e8;exact c
 exact h0 t e2 e3 e4 e8
theorem BF {fr:List Cl} {d:Bool} {p:AV} {t:Nat} (f:t ≠ 2) (b:t ≠ 3) (a:t ≠ 4) (c:t ≠ 8):(uM fr d p).get t= .dead:=by
 simp [uM,dE.get,AM.ag,gG (fun e=>f e.symm:2 ≠ t),gG (fun e=>b e.symm:3 ≠ t),gG (fun e=>a e.symm:4 ≠ t),gG (fun e=>c e.symm:8 ≠ t)]
theorem YZ {A B:aK} {x:Nat} {C:aK} (h:AM.ag [(0,A),(1,B)] x=some C):(x=0∧C=A)∨(x=1∧C=B):=by
 simp only [AM.ag] at h;by_cases e0:x=0
 ·subst e0;simp at h;exact .inl ⟨rfl,h.symm⟩
 ·by_cases e1:x=1
  ·subst e1;simp at h;exact .inr ⟨rfl,h.symm⟩
  ·rw [gG (fun e=>e0 e.symm:0 ≠ x),gG (fun e=>e1 e.symm:1 ≠ x)] at h;cases h
set_option maxHeartbeats 1000000 in
theorem VD (hap:dF prog ap) {nt:Nat} (hn:60≤nt) (W:Ut) (f:List AV) (hlc:bG f= []) (n:Int) (fr:List Cl) (l:Bool) (lb:Nat) (hlb:W.length*lb+lb<2^39) (hus:∀ x ∈ W,x.2.length≤lb):
  iH prog ap [] nt (aU [1,1,1,0] (ae f22)) (sF W f n fr l) fun e s'=>e= .normal∧∃ done:List Nat,done.Nodup∧(∀ i,i ∈ done↔i<W.length)∧s'=VC (dK W done) f n fr l:=by
 intro _;refine ⟨fun e s' ⟨_,_,_,_,h⟩=>h ▸ rfl,fun m0 S0 w0 m S w a hfr p Q hQ=> ?_⟩;rw [RF];have A:=p.env 8;have e8:(sF W f n fr l).env.get 8= .ptr 3 0 0:=rfl;rw [e8] at A;simp only [VR] at A;obtain ⟨B3,hB3,_,_,A⟩:=A;have U:AM.ag (sF W f n fr l).hp 3=some ⟨[.mr 4 0],0,false,0,0,false⟩:=rfl;have M:AM.ag (sF W f n fr l).hp 4=some ⟨[.agg [],.agg []],0,false,0,dP,true⟩:=rfl;have l2:AM.ag (sF W f n fr l).hp 2=some (acr W):=rfl;rw [U] at hB3;cases hB3;have A:=A rfl;obtain ⟨⟨R,t3,vs3,rest3,I,r32,_,r34,r35,r36⟩,_,_⟩:=p.srel.blk 3 _ U;obtain ⟨⟨cur4,t4,vs4,rest4,r41,L,r43,_,_,_⟩,_,_⟩:=p.srel.blk 4 _ M;obtain ⟨es4,clk4,hm4,hc4⟩:=r41.map rfl;have hes:es4=#[]:=by
  have h:=r43 rfl;subst hc4
  match vs4,h,L with
  |u1::u2::vs,h,L=>
   simp only [bu,PR] at h;obtain ⟨⟨ks,rfl,q⟩,_⟩:=h;have d:ks= []:=by cases ks with|nil=>rfl|cons _ _=>simp [bu] at q
   subst d;simp only [jF,Xqw,List.cons.injEq,Value.agg.injEq] at L;have:=congrArg Array.size L.1;simp at this;exact Array.eq_empty_of_size_eq_zero (by simpa using this)
  | [],h,_=>simp [bu] at h
  | [_],h,_=>simp [bu] at h
 subst hes;have hv3:vs3= [.map (some (m 4).1)]:=by
  match vs3,r34 with
  | [u],h=>
   simp only [aX,VR] at h;obtain ⟨⟨B,H,_,_,h⟩,_⟩:=h;rw [M] at H;cases H;rw [h rfl]
  | [],h=>simp [aX] at h
  |_::_::_,h=>simp [aX] at h
 subst hv3;have I:=I.cells (show (0:Nat) ≠ dP by decide);have hc3:w.cell? ⟨(m 3).1,0,none⟩=some (.map (some (m 4).1)):=by rw [jD I,r32];rfl
 have Y:(m 3).1 ≠ (m 4).1:=fun e=>by have:=p.srel.inj 3 4 _ _ U M e;omega
 have hU3:=p.srel.lt U;have hU4:=p.srel.lt M;have X:∀ x C,AM.ag (sF W f n fr l).hp x=some C→w0.heap.size≤(m x).1:=fun x C E=>by
  rcases hfr.img x C E with q|⟨B0,q,_⟩
  ·exact q
  ·simp [aC] at q
 have T:∀ x C,AM.ag (sF W f n fr l).hp x=some C→C.fro=false→∀ o,S (m x).1 o=none:=fun x C E hC o=>by
  cases hs:S (m x).1 o with
  |none=>rfl
  |some v=>have:=(p.srel.own x C E o v hs).1;rw [hC] at this;cases this
 have D:∀ x C,AM.ag [(0,Ew f),(1,Eu n)] x=some C→AM.ag (sF W f n fr l).hp x=some C∧x ≠ 2:=fun x C E=>by
  rcases YZ E with ⟨rfl,rfl⟩|⟨rfl,rfl⟩<;>exact ⟨rfl,by decide⟩
 have z:Lo (AM.ag [(0,Ew f),(1,Eu n)]) m S (w.heap.size+1) (m 4).1:=by
  refine ⟨fun k d b B H e=> ?_,fun k d o=> ?_⟩
  ·have q:=(D b B H).1;have:=p.srel.lt q;rcases d with d|d
   ·omega
   ·have V:=p.srel.inj b 4 _ _ q M (e.trans d);subst V;simp [AM.ag] at H
  ·rcases d with d|d
   ·cases hs:S k o with
    |none=>rfl
    |some v=>have:=p.srel.seal_lt hs;omega
   ·subst d;exact T 4 _ M rfl o
 have hF0:FR ap ((8,.raw (.pointer (some ⟨(m 3).1,0,none⟩)))::(sF W f n fr l).env) (sF W f n fr l).hp [] nt m S w a:=p.say (by rw [A];simp only [VR,PR]);refine JG (h0:= []) (ks:=W.map fun x=>cA x.1) (vs:=W.map fun x=> .sl (cL x.2) x.2.length false) (B:=acr W) (b:=2) (ver:=0) (tm:=7) (n:=W.length) (hp0:= [(0,Ew f),(1,Eu n)]) (env0:=uM fr l (.raw (.pointer (some ⟨(m 3).1,0,none⟩)))) (J:=fun done w'=>Jt W lb (m 3).1 (m 4).1 (w.heap.size+1) w done w')
  rfl rfl rfl rfl rfl rfl rfl rfl rfl rfl rfl rfl (by omega) (by omega) (by omega) (by omega) (by decide) (by decide) aki rfl l2 rfl rfl rfl rfl (by simp [aC]) (by simp) D ?_ ?_ (fun x B0 C h=>by simp [aC] at h) hfr hF0 ?_ ?_ Q ?_ ?_
 ·intro x C E y j;rcases YZ E with ⟨rfl,rfl⟩|⟨rfl,rfl⟩
  ·rw [hlc] at j;cases j
  ·cases j
 ·refine ade (fun t V h3 h4 A=> .inl (BF V h3 h4 A)) (.inr ⟨by decide,by decide,rfl,fun y j=>by cases j⟩) (.inr ⟨by decide,by decide,rfl,fun y j=> ?_⟩) (.inr ⟨by decide,by decide,rfl,fun y j=> ?_⟩) (.inr ⟨by decide,by decide,rfl,fun y j=>by cases j⟩)
  ·have j:y ∈ [0]:=j;simp at j;subst j;rfl
  ·have j:y ∈ [1]:=j;simp at j;subst j;rfl
 ·intro w' d hs ho ht hu;exact ⟨by simp,(fun i hi=>(by cases hi)),(World.cell?_of_block (w:=w) (a:=⟨(m 3).1,0,none⟩) (d _ hU3)).trans hc3,⟨0,by simpa [dK] using Ad.new ((d _ hU4).trans hm4) (by omega)⟩,by omega,⟨ho,ht,hu,by omega,fun k h _=>d k h⟩⟩
 ·intro done w1 w' r mm si se ci g hr hrs d hs ho ht hu;have n3:(m 3).1 ≠ r:=by omega
  have n4:(m 4).1 ≠ r:=by omega
  obtain ⟨x,E⟩:=g.t;exact ⟨g.nd,g.lt,(World.cell?_of_block (w:=w1) (a:=⟨(m 3).1,0,none⟩) (d _ n3)).trans g.u,⟨x,E.apart (by omega) n4 d⟩,by rw [hs];exact g.b,⟨ho.trans g.k.os,ht.trans g.k.tape,hu.trans g.k.output,by rw [hs];exact g.k.size,fun k hlt hne=>(d k (by omega)).trans (g.k.blk k hlt hne)⟩⟩
 ·intro r bm done i k v w1 a1 es clk it0 hr g hi hni F G s hF1 hit hi1 hi2 hbm hbe ⟨kv,vv,hent,hkv,hvv⟩ K hK;have Z:W[i]? =some W[i]:=ζ hi;have F:k=cA W[i].1:=by simp [Z] at F;exact F.symm
  have G:v= .sl (cL W[i].2) W[i].2.length false:=by simp [Z] at G;exact G.symm
  subst F;subst G;refine Uf (c:=W[i].1) (us:=W[i].2) hap hn hlb rfl hr hU3 hU4 Y z (X 4 _ M) (by have:=hfr.size;omega) g hni Z (hus _ (Xx1 hi)) s hF1 hent hkv hvv ?_;intro w' a' q V h3 h4;have hmb:=p.srel.lt l2;refine hK w' a' q V h3 (h4 r (by omega) (by omega)) (h4 bm (by omega) ?_);rw [hbe];intro e;have:=p.srel.inj 2 4 _ _ l2 M e;omega
 ·intro r done w1 a1 g hall s hF1;obtain ⟨x,hT⟩:=g.t;have hcl:∀ k,w.heap.size+1≤k→(∀ b B,AM.ag [(0,Ew f),(1,Eu n)] b=some B→(m b).1 ≠ k)∧∀ o,S k o=none:=fun k d=> ⟨z.blk k (.inl d),z.clr k (.inl d)⟩
  have hlt1:(m 4).1<w1.heap.size:=by have:=g.k.size;omega
  obtain ⟨m1,S1,hle,hm1,N,hSk,hfr2,hF2⟩:=hT.shut s hF1 (X 4 _ M) ⟨hlt1,z.blk _ (.inr rfl),z.clr _ (.inr rfl)⟩ hcl 4 rfl;have hoff:ww (AM.ag [(4,EH (dK W done)),(0,Ew f),(1,Eu n)]) m1 S1 w1 (m 3).1:=by
   refine ⟨by have:=g.k.size;omega,fun b B H e=> ?_,fun o=>by rw [hSk _ _ (by omega)];exact T 3 _ U rfl o⟩;by_cases hb4:b=4
   ·subst hb4;rw [N] at e;exact Y e.symm
   ·rw [hm1 b hb4] at e;have hB':AM.ag [(0,Ew f),(1,Eu n)] b=some B:=by
     simp only [AM.ag] at H ⊢;rw [gG (fun e=>hb4 e.symm:4 ≠ b)] at H;exact H
    have q:=(D b B hB').1;have:=p.srel.inj b 3 _ _ q U e;subst this;simp [AM.ag] at hB'
  have O:w1.heap[(m 3).1]? =some (.cells R t3 (0,0)):=(g.k.blk _ hU3 Y).trans I;have hvr:aX (AM.ag [(4,EH (dK W done)),(0,Ew f),(1,Eu n)]) m1 S1 [.mr 4 0] [.map (some (m 4).1)]:=by
   simp only [aX,VR,and_true];exact ⟨EH (dK W done),rfl,ε _,⟨_,rfl⟩,fun _=>by rw [N]⟩
  obtain ⟨m2,hm2,hm2b,hfr3,hF3⟩:=Yo (h0:= []) 3 ⟨[.mr 4 0],0,false,0,0,false⟩ (k:=(m 3).1) (c:=0) hfr2 hF2 rfl hoff (X 3 _ U) rfl rfl (fun es clk he=>by rw [O] at he;cases he)
   ⟨R,t3,_,rest3,gy.of (by decide) O,r32,(fun h=>(by cases h)),hvr,r35,fun h=>absurd h (by decide)⟩
  have hp8:a1.tmps.getD 8 undef= .pointer (some ⟨(m 3).1,0,none⟩):=by
   have:=hF3.env 8;have e:(gq 22 23 24 (.pointer (some ⟨r,0,none⟩)) (uM fr l (.raw (.pointer (some ⟨(m 3).1,0,none⟩))))).get 8= .raw (.pointer (some ⟨(m 3).1,0,none⟩)):=rfl;rw [e] at this;simpa only [VR,PR] using this
  have hF4:=hF3.say (t:=8) (x:= .ptr 3 0 0) (by
   rw [hp8];simp only [VR];exact ⟨⟨[.mr 4 0],0,false,0,0,false⟩,rfl,ε _,⟨_,_,rfl⟩,fun _=>by rw [hm2b]⟩)
  have hF5:=hF4.drop (env':=uM fr l (.ptr 3 0 0)) (hp':= [(3,⟨[.mr 4 0],0,false,0,0,false⟩),(4,EH (dK W done)),(0,Ew f),(1,Eu n)]) (fun _ _ h=>h) (fun _ _ _ _ _=>rfl)
   (ade (fun t V h3 h4 A=> .inl (BF V h3 h4 A)) (.inr ⟨rfl,fun _ _=>rfl⟩) (.inr ⟨rfl,fun _ _=>rfl⟩) (.inr ⟨rfl,fun _ _=>rfl⟩) (.inr ⟨rfl,fun _ _=>rfl⟩))
  exact hQ .normal (VC (dK W done) f n fr l) ⟨rfl,done,g.nd,fun i=> ⟨g.lt i,hall i⟩,rfl⟩ m2 S1 w1 a1 hfr3 hF5
theorem xx:∀ (U:Ut) (d c x:Cl),dn (jM U d c) x=if d=x then dn U x++ [c] else dn U x
 | [],d,c,x=>by simp only [jM,dn];split<;>rfl
 | (y,l)::r,d,c,x=>by
  unfold jM;by_cases h:y=d
  ·rw [if_pos h];subst h;simp only [dn];by_cases hx:y=x
   ·rw [if_pos hx,if_pos hx,if_pos hx]
   ·rw [if_neg hx,if_neg hx,if_neg hx]
  ·rw [if_neg h];simp only [dn,xx r d c x];by_cases hx:y=x
   ·subst hx;have:¬ d=y:=fun e=>h e.symm
    simp [this]
   ·rw [if_neg hx,if_neg hx]
theorem FO (c x:Cl):∀ (us:List Cl) (U:Ut),∃ t,dn (us.foldl (fun U d=>jM U d c) U) x=dn U x++t∧t.length≤us.length∧(∀ y,y ∈ t↔(y=c∧x ∈ us))
 | [],U=> ⟨[],by simp,by simp,by simp⟩
 | d::us,U=>by
  obtain ⟨t,b,f,a⟩:=FO c x us (jM U d c);rw [Xqy,b,xx];by_cases h:d=x
  ·rw [if_pos h];refine ⟨c::t,by simp,by simp;omega,fun y=> ?_⟩;rw [Xqu,a,h];constructor
   ·rintro (e|e)
    ·exact ⟨e,Xqs⟩
    ·exact ⟨e.1,Xql _ e.2⟩
   ·intro e;exact .inl e.1
  ·rw [if_neg h];refine ⟨t,rfl,by simp;omega,fun y=> ?_⟩;rw [a,Xqu];constructor
   ·exact fun e=> ⟨e.1,.inr e.2⟩
   ·rintro ⟨e1,e2|e2⟩
    ·exact absurd e2.symm h
    ·exact ⟨e1,e2⟩
theorem uf (W:Ut) (lb:Nat) (a:∀ x ∈ W,x.2.length≤lb) (x:Cl):∀ (done:List Nat),(dn (dK W done) x).length≤done.length*lb∧∀ y,y ∈ dn (dK W done) x↔∃ i ∈ done,∃ us,W[i]? =some (y,us)∧x ∈ us
 | []=> ⟨by simp [dK,dn],by simp [dK,dn]⟩
 | i ::done=>by
  obtain ⟨l,c⟩:=uf W lb a x done;unfold dK;cases b:W[i]? with
  | none=>
   simp only;refine ⟨by rw [Θ,Xww];omega,fun y=> ?_⟩;rw [c];constructor
   ·rintro ⟨j,hj,us,h⟩
    exact ⟨j,Xql _ hj,us,h⟩
   ·rintro ⟨j,hj,us,h⟩
    rcases List.mem_cons.1 hj with e|hj
    ·rw [e,b] at h;cases h.1
    ·exact ⟨j,hj,us,h⟩
  | some w=>
   simp only;obtain ⟨t,d,k,f⟩:=FO w.1 x w.2 (dK W done);rw [d];have g:w.2.length≤lb:=a w (Γ b);refine ⟨by rw [ο,Θ,Xww];omega,fun y=> ?_⟩;rw [Xjo,c,f];constructor
   ·rintro (⟨j,hj,us,h⟩|⟨e1,e2⟩)
    ·exact ⟨j,Xql _ hj,us,h⟩
    ·exact ⟨i,Xqs,w.2,by rw [b,e1],e2⟩
   ·rintro ⟨j,hj,us,h,hx⟩
    rcases List.mem_cons.1 hj with e|hj
    ·rw [e,b] at h;cases h;exact .inr ⟨rfl,hx⟩
    ·exact .inl ⟨j,hj,us,h,hx⟩
theorem FH {n:Nat} {l:List Nat} (a:l.Nodup) (h:∀ i,i ∈ l↔i<n):l.length=n:=by
 have:=(List.perm_ext_iff_of_nodup a Xx2).2 (fun i=>by rw [h,List.mem_range]);rw [this.length_eq,Xjm]
inductive Ac (us:Cl→List Cl) (ok:Cl→Bool) (fr:List Cl):Cl→Prop
 |base {x:Cl}:x ∈ fr→ok x=true→Ac us ok fr x
 |step {x y:Cl}:Ac us ok fr x→y ∈ us x→ok y=true→Ac us ok fr y
theorem Ac.ok {us:Cl→List Cl} {ok:Cl→Bool} {fr:List Cl} {x:Cl} (h:Ac us ok fr x):ok x=true:=by
 cases h<;>assumption
theorem Ac.mono {us a:Cl→List Cl} {ok:Cl→Bool} {fr:List Cl} (b:∀ x y,ok x=true→ok y=true→y ∈ us x→y ∈ a x) {x:Cl} (h:Ac us ok fr x):Ac a ok fr x:=by
 induction h with
 |base h1 h2=>exact .base h1 h2
 |step h1 h2 h3 ih=>exact .step ih (b _ _ h1.ok h3 h2) h3
theorem Ac.trans {us:Cl→List Cl} {ok:Cl→Bool} {fr l:List Cl} (a:∀ y ∈ l,ok y=true→Ac us ok fr y) {x:Cl} (h:Ac us ok l x):Ac us ok fr x:=by
 induction h with
 |base h1 h2=>exact a _ h1 h2
 |step h1 h2 h3 ih=>exact .step ih h2 h3
structure Vis (us:Cl→List Cl) (ok:Cl→Bool) (seen:List Cl) (fr res:List Cl):Prop where
 sub:∀ y ∈ seen,y ∈ res
 all:∀ y ∈ fr,ok y=true→y ∈ res
 clo:∀ y ∈ res,y ∉ seen→∀ z ∈ us y,ok z=true→z ∈ res
 src:∀ y ∈ res,y ∈ seen∨Ac us ok fr y
theorem Vis.two {us:Cl→List Cl} {ok:Cl→Bool} {f a b fr:List Cl} {x:Cl} (j:Vis us ok f [x] a) (i:Vis us ok a fr b):Vis us ok f (x::fr) b:=by
 refine ⟨fun y c=>i.sub y (j.sub y c),fun y c d=> ?_,fun y c k z g d=> ?_,fun y c=> ?_⟩
 ·rcases List.mem_cons.1 c with e|c
  ·exact i.sub y (j.all y (by simp [e]) d)
  ·exact i.all y c d
 ·by_cases ha:y ∈ a
  ·exact i.sub z (j.clo y ha k z g d)
  ·exact i.clo y c ha z g d
 ·rcases i.src y c with h|h
  ·rcases j.src y h with h|h
   ·exact .inl h
   ·exact .inr (h.trans fun z g d=> .base (by simp at g;simp [g]) d)
  ·exact .inr (h.trans fun z g d=> .base (Xql _ g) d)
theorem Eg {us:Cl→List Cl} {ok:Cl→Bool} {C:List Cl} {n:Nat} (b:∀ seen x,jJ C seen<n→Vis us ok seen [x] (kX us ok n seen x)):∀ (r sn:List Cl),jJ C sn<n→Vis us ok sn r (r.foldl (kX us ok n) sn)
 | [],sn,h=> ⟨fun y a=>a,(fun y a=>by cases a),fun y a d=>absurd a d,fun y a=> .inl a⟩
 |y::r,sn,h=>by
  rw [Xqy];have c:=b sn y h;exact c.two (Eg b r _ (Xje (yJ C c.sub) h))
theorem KD {us:Cl→List Cl} {ok:Cl→Bool} {C:List Cl} (k:∀ x,ok x=true→x ∈ C):∀ (n:Nat) (a:List Cl) (x:Cl),jJ C a<n→Vis us ok a [x] (kX us ok n a x)
 |0,a,x,h=>absurd h (Xwx _)
 | n +1,a,x,h=>by
  unfold kX;by_cases hx:x ∈ a
  ·rw [if_pos hx];exact ⟨fun y b=>b,(fun y b _=>(by simp at b;rw [b];exact hx)),fun y b d=>absurd b d,fun y b=> .inl b⟩
  ·rw [if_neg hx];cases g:ok x with
   |false=>
    rw [if_neg (by simp)];exact ⟨fun y b=>b,(fun y b h=>(by simp at b;rw [b,g] at h;cases h)),fun y b d=>absurd b d,fun y b=> .inl b⟩
   | true=>
    rw [if_pos rfl];have f:=Eg (us:=us) (fun a x=>KD k n a x) (us x) (a++ [x]) (by have:=FZ (k x g) hx;omega);have j:x ∈ (us x).foldl (kX us ok n) (a++ [x]):=f.sub x (by simp);refine ⟨fun y b=>f.sub y (by simp [b]),(fun y b _=>(by simp at b;rw [b];exact j)),fun y b d z i c=> ?_,fun y b=> ?_⟩
    ·by_cases e:y=x
     ·subst e;exact f.all z i c
     ·exact f.clo y b (by simp [d,e]) z i c
    ·rcases f.src y b with h|h
     ·rcases List.mem_append.1 h with h|h
      ·exact .inl h
      ·simp at h;subst h;exact .inr (.base (by simp) g)
     ·exact .inr (h.trans fun z i c=> .step (.base (by simp) g) i c)
theorem PN {us:Cl→List Cl} {ok:Cl→Bool} {C:List Cl} (d:∀ x,ok x=true→x ∈ C) (fr:List Cl) (n:Nat) (e:C.length<n) (x:Cl):x ∈ fr.foldl (kX us ok n) []↔Ac us ok fr x:=by
 have c:jJ C []<n:=Xje (Xxr _ _) e;have h:=Eg (fun a x=>KD (us:=us) d n a x) fr [] c;constructor
 ·intro b;rcases h.src x b with h|h
  ·cases h
  ·exact h
 ·intro b
  induction b with
  |base h1 h2=>exact h.all _ h1 h2
  |step h1 h2 h3 ih=>exact h.clo _ ih (by simp) _ h2 h3
def gI (L:Lw) (s:Int) (u:Cl):List Cl:=(ax s L.ps.length).filter fun c=>decide (u ∈ lh L s c)
open Classical in
noncomputable def cO (L:Lw) (s:Int) (fr:List Cl):List Cl:=(ax s L.ps.length).filter fun c=>decide (Ac (gI L s) (aH s L.ps.length) fr c)
theorem PO {L:Lw} {s:Int} {l:List Cl} {i:Nat} {y:Cl} {us:List Cl}:(dM L s l)[i]? =some (y,us)↔l[i]? =some y∧us=lh L s y:=by
 unfold dM;rw [List.getElem?_map];cases h:l[i]? with
 |none=>simp
 |some x=>
  simp only [Xqr,Option.some.injEq,Prod.mk.injEq];constructor
  ·rintro ⟨rfl,rfl⟩;exact ⟨rfl,rfl⟩
  ·rintro ⟨rfl,rfl⟩;exact ⟨rfl,rfl⟩
theorem Ec {L:Lw} {s:Int} {lb:Nat} {done:List Nat} (b:∀ x ∈ dM L s (ax s L.ps.length),x.2.length≤lb) (f:∀ i,i ∈ done↔i<(dM L s (ax s L.ps.length)).length) (x y:Cl):y ∈ dn (dK (dM L s (ax s L.ps.length)) done) x↔y ∈ gI L s x:=by
 rw [(uf _ lb b x done).2 y];unfold gI;rw [Xxa];constructor
 ·rintro ⟨i,_,us,h,hx⟩
  obtain ⟨c,d⟩:=PO.1 h;subst d;exact ⟨Γ c,by simpa using hx⟩
 ·rintro ⟨c,d⟩
  obtain ⟨i,e⟩:=List.getElem?_of_mem c;have a:=(PO (L:=L) (s:=s)).2 ⟨e,rfl⟩;exact ⟨i,(f i).2 (List.getElem?_eq_some_iff.1 a).1,_,a,by simpa using d⟩
theorem QR {L:Lw} {s:Int} {lb:Nat} {done:List Nat} (a:∀ x ∈ dM L s (ax s L.ps.length),x.2.length≤lb) (b:∀ i,i ∈ done↔i<(dM L s (ax s L.ps.length)).length) (fr:List Cl) (n:Nat) (e:(ax s L.ps.length).length<n):
  (ax s L.ps.length).filter (fun c=>decide (c ∈ fr.foldl (kX (dn (dK (dM L s (ax s L.ps.length)) done)) (aH s L.ps.length) n) []))=cO L s fr:=by
 classical
 unfold cO;refine Xzn fun c f=> ?_
 rw [decide_eq_decide,PN (C:=ax s L.ps.length) (fun x d=>dY.2 d) fr n e];exact ⟨fun h=>h.mono fun x y _ _ h=>(Ec a b x y).1 h,fun h=>h.mono fun x y _ _ h=>(Ec a b x y).2 h⟩
theorem ajU {nt:Nat} (e:60≤nt) (L:Lw) (a b c:Bool) (s:Int) (fr:List Cl) (d:Bool):af prog ap [] nt (aU [0] (ae f22)) (dO .dead [.agg [.sl L.fx L.fn a,.sl L.sx L.sn b,.sl (bJ L.ps) L.ps.length c],ω s,.sl (cL fr) fr.length d] []) .normal (aat (.sl (cL fr) fr.length d) [.sl L.fx L.fn a,.sl L.sx L.sn b,.sl (bJ L.ps) L.ps.length c] [ω s]):=by
 exact pN 22 [] 0 0 .nil (.nil) e
theorem ajV {nt:Nat} (f:60≤nt) (L:Lw) (a b c:Bool) (s:Int) (fr:List Cl) (d:Bool) (ks vs:List AV) (e:ah prog ap 47 [.agg [.sl L.fx L.fn a,.sl L.sx L.sn b,.sl (bJ L.ps) L.ps.length c],ω s] [] (.ret (.mr 0 0)) [⟨[.agg ks,.agg vs],0,false,0,4611686018427387904,true⟩]):af prog ap [] nt (aU [1,0] (ae f22)) (aat (.sl (cL fr) fr.length d) [.sl L.fx L.fn a,.sl L.sx L.sn b,.sl (bJ L.ps) L.ps.length c] [ω s]) .normal (aau (.sl (cL fr) fr.length d) [.sl L.fx L.fn a,.sl L.sx L.sn b,.sl (bJ L.ps) L.ps.length c] [ω s] [.agg ks,.agg vs]):=by
 exact pN 22 [] 0 0 (.n 4 .nil) (.c e .nil) f
theorem ajW {nt:Nat} (e:60≤nt) (L:Lw) (a b c:Bool) (s:Int) (fr:List Cl) (d:Bool) (ks vs:List AV):af prog ap [] nt (aU [1,1,0] (ae f22)) (aau (.sl (cL fr) fr.length d) [.sl L.fx L.fn a,.sl L.sx L.sn b,.sl (bJ L.ps) L.ps.length c] [ω s] [.agg ks,.agg vs]) .normal ⟨[(2,.sl (cL fr) fr.length d),(3,.ptr 0 0 0),(4,.ptr 1 0 0),(7,.mr 2 0),(8,.ptr 3 0 0)],[(0,⟨[.sl L.fx L.fn a,.sl L.sx L.sn b,.sl (bJ L.ps) L.ps.length c],0,false,0,0,true⟩),(1,⟨[ω s],0,false,0,0,true⟩),(2,⟨[.agg ks,.agg vs],0,false,0,4611686018427387904,true⟩),(3,⟨[.mr 4 0],0,false,0,0,false⟩),(4,⟨[.agg [],.agg []],0,false,0,4611686018427387904,true⟩)],.dead,[]⟩:=by
 exact pN 22 [] 0 0 (.n 1 .nil) (.nil) e
def XI (L:Lw) (a b c:Bool) (s:Int) (fr:List Cl) (nf:Bool) (uk uv:List AV) (k:Nat) (ks vs:List AV):St:=⟨[(3,.ptr 0 0 0),(4,.ptr 1 0 0),(8,.ptr 2 0 0),(13,.ptr 3 0 0),(14,.ptr 4 0 0),(45,.sl (cL fr) fr.length nf),(46,ω (fr.length:Int)),(47,ω (k:Int))],[(0,⟨[.sl L.fx L.fn a,.sl L.sx L.sn b,.sl (bJ L.ps) L.ps.length c],0,false,0,0,true⟩),(1,⟨[ω s],0,false,0,0,true⟩),(2,⟨[.mr 5 0],0,false,0,0,false⟩),(3,⟨[.mr 6 0],0,false,0,0,false⟩),(4,⟨[.fn 56 [] [.ptr 3 0 0,.ptr 0 0 0,.ptr 1 0 0,.ptr 2 0 0,.ptr 4 0 0]],0,false,0,0,false⟩),(5,⟨[.agg uk,.agg uv],0,false,0,4611686018427387904,true⟩),(6,⟨[.agg ks,.agg vs],0,false,0,4611686018427387904,true⟩)],.dead,[]⟩
def rlE (L:Lw) (a b c:Bool) (s:Int) (uk uv:List AV) (ks vs:List AV):St:=(Vo [.sl L.fx L.fn a,.sl L.sx L.sn b,.sl (bJ L.ps) L.ps.length c] [ω s] [.agg ks,.agg vs])
theorem ae1 {nt:Nat} (o:60≤nt) (L:Lw) (a b c:Bool) (s:Int) (fr:List Cl) (l:Bool) (e g ks vs k2 v2:List AV) (p r:List Cl) (x:Cl) (d:fr=p++x::r) (t:fr.length<2^40) (j:ah prog ap 56 [cA x,.ptr 0 0 0,.ptr 1 0 0,.ptr 2 0 0,.ptr 3 0 0,.ptr 4 0 0] (qB L a b c s e g ks vs) (.ret (.tup [])) (qB L a b c s e g k2 v2)):
  af prog ap [] nt (aj 4 (ae f22)) (XI L a b c s fr l e g p.length ks vs) .normal (XI L a b c s fr l e g (p.length+1) k2 v2):=by
 have i:=dS (f:=cC) (n:=2) (fun _=>rfl) d;change θ _ (cL fr)=cC x++cL r at i;have h:p.length<fr.length:=nT d;have q:p.length<2^62:=by omega
 have m:(decide ((p.length:Int)<(fr.length:Int)))=true:=kl h;unfold XI;unfold qB at j;clear d;generalize p.length=k at*
 exact pN 22 [] 1 1 (.k 7 m (.c (ak m) .nil)) (.v 54 (.eq (wpS q)) (.c j (.v 49 (.ppt i) .nil))) o
theorem ae0 {nt:Nat} (h:60≤nt) (L:Lw) (a b c:Bool) (s:Int) (fr:List Cl) (g:Bool) (d e ks vs:List AV):
  af prog ap [] nt (aj 4 (ae f22)) (XI L a b c s fr g d e fr.length ks vs) (.exit 4) (rlE L a b c s d e ks vs):=by
 have f:(decide ((fr.length:Int)<(fr.length:Int)))=false:=kn (ε _);exact pN 22 [] 1 0 (.c (au f) .nil) .nil h
theorem Hz {nt:Nat} (e:60≤nt) (L:Lw) (a b c:Bool) (s:Int) (fr:List Cl) (d:Bool) (U:Ut) (g:∀ x,(dn U x).length<2^40) (n:Nat) (h:fr.length<2^40):∀ (r p sn:List Cl),fr=p++r→jJ (ax s L.ps.length) sn<n→
  aP prog ap [] nt (aj 4 (ae f22)) (fun _=> .exit 4) (fun q:Nat × List Cl=>XI L a b c s fr d (U.map fun x=>cA x.1) (yM U) q.1 (q.2.map cA) (zN q.2)) (fun sn:List Cl=>rlE L a b c s (U.map fun x=>cA x.1) (yM U) (sn.map cA) (zN sn)) (p.length,sn) (r.foldl (kX (dn U) (aH s L.ps.length) n) sn)
 | [],p,sn,hp,hs=>by
  rw [υ] at hp;rw [Xwa,← hp];exact .done (ae0 e L a b c s fr d _ _ _ _)
 |y::r,p,sn,hp,hs=>by
  rw [Xqy];have j:=VN L a b c s U g n sn y hs;obtain ⟨t,k⟩:=Ef (dn U) (aH s L.ps.length) n sn y;have i:=ae1 e L a b c s fr d _ _ _ _ _ _ p r y hp h j;have f:=Hz e L a b c s fr d U g n h r (p++ [y]) (kX (dn U) (aH s L.ps.length) n sn y) (by rw [hp];simp) (Xje (yJ _ (fun z l=>by rw [k];simp [l])) hs);rw [show (p++ [y]).length=p.length+1 by simp] at f;exact .next (a':=(p.length+1,_)) i f
theorem abq (ks vs:List AV):ah prog ap 100 [.nilS,.fn 58 [] [.ptr 0 0 0]] [⟨[.mr 1 0],0,false,0,0,false⟩,⟨[.agg ks,.agg vs],0,false,0,4611686018427387904,true⟩] (.ret (ω (-1))) [⟨[.mr 1 0],0,false,0,0,false⟩,⟨[.agg ks,.agg vs],0,false,0,4611686018427387904,true⟩]:=by
 exact pK [] 1 0 (.n 1 .nil) (.nil)
theorem Wu (ks vs:List AV):ah prog ap 57 [.nilS,.fn 58 [] [.ptr 0 0 0]] [⟨[.mr 1 0],0,false,0,0,false⟩,⟨[.agg ks,.agg vs],0,false,0,4611686018427387904,true⟩] (.ret .nilS) [⟨[.mr 1 0],0,false,0,0,false⟩,⟨[.agg ks,.agg vs],0,false,0,4611686018427387904,true⟩]:=by
 have a:=abq ks vs;exact pK [] 1 1 (.n 1 .nil) (.c a .nil)
theorem ajY {nt:Nat} (i:60≤nt) (L:Lw) (a b c:Bool) (s:Int) (fr:List Cl) (e:Bool) (g h ks vs:List AV) (l:List Cl) (q:Nat) (C2:List AV) (d:CO 49 [.agg [.sl L.fx L.fn a,.sl L.sx L.sn b,.sl (bJ L.ps) L.ps.length c],ω s] (.ret (.own (cL l) l.length 2))) (f:ah prog ap 57 [.ref 0 0 0 l.length,.fn 58 [] [.ptr 1 0 0]] [⟨(cL l),0,false,0,2,true⟩,⟨[.mr 2 0],0,false,0,0,false⟩,⟨[.agg ks,.agg vs],0,false,0,4611686018427387904,true⟩] (.ret (.ref 0 0 0 q)) [⟨C2,0,false,0,2,true⟩,⟨[.mr 2 0],0,false,0,0,false⟩,⟨[.agg ks,.agg vs],0,false,0,4611686018427387904,true⟩])
  (l1:LB 60 4 f22 (aav (.sl (cL fr) fr.length e) (.sl (cL fr) fr.length e) fr.length [.sl L.fx L.fn a,.sl L.sx L.sn b,.sl (bJ L.ps) L.ps.length c] [ω s] [.agg g,.agg h]) (.normal) (Vo [.sl L.fx L.fn a,.sl L.sx L.sn b,.sl (bJ L.ps) L.ps.length c] [ω s] [.agg ks,.agg vs])):af prog ap [] nt (aU [1,1,1,1] (ae f22)) (aaw (.sl (cL fr) fr.length e) [.agg g,.agg h] [.sl L.fx L.fn a,.sl L.sx L.sn b,.sl (bJ L.ps) L.ps.length c] [ω s]) .ret ⟨[(6,.ref 0 0 0 q)],[(0,⟨C2,0,false,0,2,true⟩)],.dead,[]⟩:=by
 exact pN 22 [4] 0 0 (.n 6 .nil) (.c f (.c d (.l l1 .nil))) i
theorem ajX {nt:Nat} (i:60≤nt) (L:Lw) (a b c:Bool) (s:Int) (fr:List Cl) (e:Bool) (g h ks vs:List AV) (d:CO 49 [.agg [.sl L.fx L.fn a,.sl L.sx L.sn b,.sl (bJ L.ps) L.ps.length c],ω s] (.ret .nilS)) (f:ah prog ap 57 [.nilS,.fn 58 [] [.ptr 0 0 0]] [⟨[.mr 1 0],0,false,0,0,false⟩,⟨[.agg ks,.agg vs],0,false,0,4611686018427387904,true⟩] (.ret .nilS) [⟨[.mr 1 0],0,false,0,0,false⟩,⟨[.agg ks,.agg vs],0,false,0,4611686018427387904,true⟩])
  (l1:LB 60 4 f22 (aav (.sl (cL fr) fr.length e) (.sl (cL fr) fr.length e) fr.length [.sl L.fx L.fn a,.sl L.sx L.sn b,.sl (bJ L.ps) L.ps.length c] [ω s] [.agg g,.agg h]) (.normal) (Vo [.sl L.fx L.fn a,.sl L.sx L.sn b,.sl (bJ L.ps) L.ps.length c] [ω s] [.agg ks,.agg vs])):af prog ap [] nt (aU [1,1,1,1] (ae f22)) (aaw (.sl (cL fr) fr.length e) [.agg g,.agg h] [.sl L.fx L.fn a,.sl L.sx L.sn b,.sl (bJ L.ps) L.ps.length c] [ω s]) .ret (Ku (.nilS)):=by
 exact pN 22 [4] 0 0 (.n 6 .nil) (.c f (.c d (.l l1 .nil))) i
theorem aa3:ae f22= .seq (aU [0] (ae f22)) (.seq (aU [1,0] (ae f22)) (.seq (aU [1,1,0] (ae f22)) (.seq (aU [1,1,1,0] (ae f22)) (aU [1,1,1,1] (ae f22))))):=by kernel_rfl
theorem Bg:∀ (r A:List Cl) (z:Cl),(pI A z r).length≤A.length+r.length
 | [],A,z=>by simp [pI]
 |y::r,A,z=>by
  unfold pI;split
  ·have:=Bg r A y;simp;omega
  ·have:=Bg r (A++ [y]) y;simp at this ⊢;omega
theorem yK {L:Lw} (a:vZ L) (s:Int) (w:Cl):(lh L s w).length≤12:=by
 unfold lh;split
 ·have b:(jw (lD L s w ((L.ps[w.2.toNat]?.map Pv.body).getD []))).length≤12:=by
   rw [(vK _).length_eq];cases h:L.ps[w.2.toNat]? with
   |none=>simp [lD]
   |some p=>exact (a.2 p (Γ h)).2 s w
  generalize jw (lD L s w ((L.ps[w.2.toNat]?.map Pv.body).getD []))=l at*
  cases l with
  |nil=>simp [di]
  |cons x l=>
   have:=Bg l [x] x;simp only [di];simp at this b ⊢;omega
 ·simp
theorem jo (s:Int) (n:Nat):(ax s n).length≤n+n:=by
 have a:∀ q,(n_ s n q).length≤n:=fun q=>by
  unfold n_;rw [Xzy];have:∀ l:List Nat,(l.map fun k=>(if aH s n (((q:Nat):Int),((k:Nat):Int)) then [((((q:Nat):Int),((k:Nat):Int)):Cl)] else []).length).sum≤l.length:=by
   intro l
   induction l with
   |nil=>simp
   |cons x l ih=>simp only [χ,Xvg,Θ];split<;>simp<;>omega
  have:=this (Xqf n);rwa [Xjm] at this
 unfold ax;rw [ο];exact Nat.add_le_add (a 0) (a 1)
theorem Ux (L:Lw) (a b c:Bool) (s:Int) (fr:List Cl) (g:Bool) (l:vZ L) (t:L.ps.length<2^34) (r:fr.length<2^40) {e:aV} {d:St} (f:d.md= .dead)
  (tail:∀ done:List Nat,done.Nodup→(∀ i,i ∈ done↔i<(dM L s (ax s L.ps.length)).length)→∀ nt,60≤nt→af prog ap [] nt (aU [1,1,1,1] (ae f22)) (VC (dK (dM L s (ax s L.ps.length)) done) (L.c a b c) s fr g) e d) (nt:Nat) (hn:60≤nt):
  af prog ap [] nt (ae f22) (dO .dead [.agg [.sl L.fx L.fn a,.sl L.sx L.sn b,.sl (bJ L.ps) L.ps.length c],ω s,.sl (cL fr) fr.length g] []) e d:=by
 have k:=XV L a b c s l (by omega);have o:∀ x ∈ dM L s (ax s L.ps.length),x.2.length≤12:=fun x m=>by
  unfold dM at m;obtain ⟨y,_,rfl⟩:=List.mem_map.1 m;exact yK l s y
 have n:(dM L s (ax s L.ps.length)).length≤L.ps.length+L.ps.length:=by
  unfold dM;rw [Xqv];exact jo s _
 have q:=VD acN hn (dM L s (ax s L.ps.length)) (L.c a b c) rfl s fr g 12 (by omega) o;have hrest:af prog ap [] nt (.seq (aU [1,1,1,0] (ae f22)) (aU [1,1,1,1] (ae f22))) (sF (dM L s (ax s L.ps.length)) (L.c a b c) s fr g) e d:=by
  refine (iH.seq (Post:=fun j s1=>j=e∧s1=d) q (fun s1 ⟨_,done,h1,h2,h3⟩=> ?_) (fun e s1 ⟨h,_⟩ hne=>absurd h hne) (fun j s1 h=>h.2 ▸ f)).one;subst h3;exact (tail done h1 h2 nt hn).any ⟨rfl,rfl⟩ (fun j s1 h=>h.2 ▸ f)
 rw [aa3];refine (ajU hn L a b c s fr g).seq ((ajV hn L a b c s fr g _ _ k).seq ((ajW hn L a b c s fr g _ _).seq ?_));have p:(ax s L.ps.length).map cA=(dM L s (ax s L.ps.length)).map fun x=>cA x.1:=by
  unfold dM;rw [Xz4];rfl
 rw [p];exact hrest
theorem XC (L:Lw) (a b c:Bool) (s:Int) (fr:List Cl) (d:Bool) (C2:List AV) (q:Nat) (h:∀ nt,60≤nt→af prog ap [] nt (ae f22) (dO .dead [.agg [.sl L.fx L.fn a,.sl L.sx L.sn b,.sl (bJ L.ps) L.ps.length c],ω s,.sl (cL fr) fr.length d] []) .ret ⟨[(6,.ref 0 0 0 q)],[(0,⟨C2,0,false,0,2,true⟩)],.dead,[]⟩):CO 22 [.agg [.sl L.fx L.fn a,.sl L.sx L.sn b,.sl (bJ L.ps) L.ps.length c],ω s,.sl (cL fr) fr.length d] (.ret (.own (C2.take (q*2)) q 2)):=
 jm jW 0 (F:=⟨f22,[0,1,2,3,4,6,7,8,9,10,12,13,14,16,22,24,28,29,30,31,45,46,47,48],true⟩) rfl rfl h rfl (Xqp _) rfl
theorem Uw (L:Lw) (a b c:Bool) (s:Int) (fr:List Cl) (d:Bool) (h:∀ nt,60≤nt→af prog ap [] nt (ae f22) (dO .dead [.agg [.sl L.fx L.fn a,.sl L.sx L.sn b,.sl (bJ L.ps) L.ps.length c],ω s,.sl (cL fr) fr.length d] []) .ret (Ku (.nilS))):CO 22 [.agg [.sl L.fx L.fn a,.sl L.sx L.sn b,.sl (bJ L.ps) L.ps.length c],ω s,.sl (cL fr) fr.length d] (.ret .nilS):=
 jm jW 0 (F:=⟨f22,[0,1,2,3,4,6,7,8,9,10,12,13,14,16,22,24,28,29,30,31,45,46,47,48],true⟩) rfl rfl h rfl (Xqp _) rfl
theorem tY (L:Lw) (a b c:Bool) (s:Int) (fr:List Cl) (j:Bool) (C:vZ L) (H:L.ps.length<2^34) (D:fr.length<2^40) (o:Cl) (os:List Cl) (A:ax s L.ps.length=o::os):CO 22 [.agg (L.c a b c),ω s,.sl (cL fr) fr.length j] (.ret (.own (cL (cO L s fr)) (cO L s fr).length 2)):=by
 have t:∀ x ∈ dM L s (ax s L.ps.length),x.2.length≤12:=fun x u=>by
  unfold dM at u;obtain ⟨y,_,rfl⟩:=List.mem_map.1 u;exact yK C s y
 have z:(dM L s (ax s L.ps.length)).length≤L.ps.length+L.ps.length:=by
  unfold dM;rw [Xqv];exact jo s _
 have G:=jo s L.ps.length;have n:∀ done:List Nat,done.Nodup→(∀ i,i ∈ done↔i<(dM L s (ax s L.ps.length)).length)→∀ d,fr.foldl (kX (dn (dK (dM L s (ax s L.ps.length)) done)) (aH s L.ps.length) ((ax s L.ps.length).length+1)) []=d→LB 60 4 f22 (XI L a b c s fr j ((dK (dM L s (ax s L.ps.length)) done).map fun x=>cA x.1) (yM (dK (dM L s (ax s L.ps.length)) done)) 0 [] []) .normal (rlE L a b c s ((dK (dM L s (ax s L.ps.length)) done).map fun x=>cA x.1) (yM (dK (dM L s (ax s L.ps.length)) done)) (d.map cA) (zN d)):=fun done g m d e=>by
  have F:∀ x,(dn (dK (dM L s (ax s L.ps.length)) done) x).length<2^40:=fun x=>by
   have E:=(uf _ 12 t x done).1;rw [FH g m] at E;omega
  have:=aP.blk (id:=4) (e':= .normal) (fun nt (r:60≤nt)=>Hz r L a b c s fr j (dK (dM L s (ax s L.ps.length)) done) F ((ax s L.ps.length).length+1) D fr [] [] rfl (Xvp (Xxr _ _))) (by simp) rfl (aJ.refl _) (aJ.refl _);rw [e] at this;exact this
 have k:=Bf L a b c s (by omega);have l:XE (ax s L.ps.length)= .own (cL (ax s L.ps.length)) (ax s L.ps.length).length 2:=by rw [A];rfl
 rw [l] at k;clear l A;have p:(cL (cO L s fr)++Ip ((ax s L.ps.length).length - (cO L s fr).length)).take ((cO L s fr).length*2)=cL (cO L s fr):=Xq8 (b_ _);refine ah.out (out:= .ret (.own ((cL (cO L s fr)++Ip ((ax s L.ps.length).length - (cO L s fr).length)).take ((cO L s fr).length*2)) (cO L s fr).length 2)) (by rw [p];exact ⟨fun _=>rfl,fun _ _ _ _ h=>h⟩) ?_;refine XC L a b c s fr j _ _ (Ux L a b c s fr j C H D rfl fun done g m nt r=> ?_);obtain ⟨d,e⟩:∃ d,fr.foldl (kX (dn (dK (dM L s (ax s L.ps.length)) done)) (aH s L.ps.length) ((ax s L.ps.length).length+1)) []=d:=⟨_,rfl⟩
 have v:=n done g m d e;have B:=QR t m fr ((ax s L.ps.length).length+1) (Xwo _);rw [e] at B;have f:=aa_ (d.map cA) (zN d) (fun c=>decide (c ∈ d)) (fun x=>aeU d x) (ax s L.ps.length) (by omega);rw [B] at f;unfold XI rlE at v;exact ajY r L a b c s fr j _ _ (d.map cA) (zN d) (ax s L.ps.length) (cO L s fr).length _ k f (fun nt q=>(v nt q).weak (aJ.of ⟨rfl,rfl,rfl,rfl,rfl,rfl,rfl,rfl,trivial⟩) (aJ.refl _))
theorem JI (L:Lw) (a b c:Bool) (s:Int) (fr:List Cl) (f:Bool) (j:vZ L) (v:L.ps.length<2^34) (p:fr.length<2^40):CO 22 [.agg (L.c a b c),ω s,.sl (cL fr) fr.length f] (.ret (.sl (cL (cO L s fr)) (cO L s fr).length false)):=by
 have z:∀ x ∈ dM L s (ax s L.ps.length),x.2.length≤12:=fun x r=>by
  unfold dM at r;obtain ⟨y,_,rfl⟩:=List.mem_map.1 r;exact yK j s y
 have u:(dM L s (ax s L.ps.length)).length≤L.ps.length+L.ps.length:=by
  unfold dM;rw [Xqv];exact jo s _
 have A:=jo s L.ps.length;have k:∀ done:List Nat,done.Nodup→(∀ i,i ∈ done↔i<(dM L s (ax s L.ps.length)).length)→∀ d,fr.foldl (kX (dn (dK (dM L s (ax s L.ps.length)) done)) (aH s L.ps.length) ((ax s L.ps.length).length+1)) []=d→LB 60 4 f22 (XI L a b c s fr f ((dK (dM L s (ax s L.ps.length)) done).map fun x=>cA x.1) (yM (dK (dM L s (ax s L.ps.length)) done)) 0 [] []) .normal (rlE L a b c s ((dK (dM L s (ax s L.ps.length)) done).map fun x=>cA x.1) (yM (dK (dM L s (ax s L.ps.length)) done)) (d.map cA) (zN d)):=fun done g q d e=>by
  have C:∀ x,(dn (dK (dM L s (ax s L.ps.length)) done) x).length<2^40:=fun x=>by
   have B:=(uf _ 12 z x done).1;rw [FH g q] at B;omega
  have:=aP.blk (id:=4) (e':= .normal) (fun nt (m:60≤nt)=>Hz m L a b c s fr f (dK (dM L s (ax s L.ps.length)) done) C ((ax s L.ps.length).length+1) p fr [] [] rfl (Xvp (Xxr _ _))) (by simp) rfl (aJ.refl _) (aJ.refl _);rw [e] at this;exact this
 have h:=Bf L a b c s (by omega);cases n:ax s L.ps.length with
 |nil=>
  have D:cO L s fr= []:=by unfold cO;rw [n];rfl
  rw [D];rw [n] at h;refine (Uw L a b c s fr f (Ux L a b c s fr f j v p rfl fun done g q nt m=> ?_)).out (iP.ret rfl rfl (bF.nilS false rfl));obtain ⟨d,e⟩:∃ d,fr.foldl (kX (dn (dK (dM L s (ax s L.ps.length)) done)) (aH s L.ps.length) ((ax s L.ps.length).length+1)) []=d:=⟨_,rfl⟩
  have t:=k done g q d e;unfold XI rlE at t;exact ajX m L a b c s fr f _ _ (d.map cA) (zN d) h (Wu _ _) (fun nt l=>(t nt l).weak (aJ.of ⟨rfl,rfl,rfl,rfl,rfl,rfl,rfl,rfl,trivial⟩) (aJ.refl _))
 |cons o os=>
  exact xR (cO L s fr) (cL (cO L s fr)) (by rw [← b_,List.take_length]) (tY L a b c s fr f j v p o os n)
theorem yD (L:Lw) (s:Int) (fr:List Cl):cO L s fr=(ax s L.ps.length).filter fun c=>decide (c ∈ fr.foldl (kX (gI L s) (aH s L.ps.length) ((ax s L.ps.length).length+1)) []):=by
 classical
 unfold cO;refine Xzn fun c b=> ?_
 rw [decide_eq_decide,PN (C:=ax s L.ps.length) (fun x a=>dY.2 a) fr _ (Xwo _)]
end Go.Proofs.Tryz
