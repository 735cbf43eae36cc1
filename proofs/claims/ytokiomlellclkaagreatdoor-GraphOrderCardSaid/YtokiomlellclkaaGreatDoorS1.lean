/- The law GraphOrder returns true for every input: each cell is in one step; what it uses is in its step, if this is circular, or in one before it; of all steps that could come next, that with the least first cell comes. No conditions beyond the given row's. -/
import Derived.Test.YtokiomlellclkaaGreatDoorC3
import Derived.Test.YtokiomlellclkaaGreatDoorC4
set_option linter.unusedSimpArgs false
set_option linter.unusedVariables false
set_option maxRecDepth 100000
set_option linter.unusedVariables false
open Go AM
open List renaming all→Xqd,drop→κ,getD_eq_getElem?_getD→γ,getElem?_eq_getElem→δ,append_nil→μ,mem_cons_of_mem→Θ,length_append→η,length_singleton→Xxw,flatMap_cons→Xqa
open Int renaming toNat→θ
open Option renaming getD→Xqc,isSome→Xvc
open Go.IntKind renaming wrap→ν
open Nat renaming le_refl→ζ
open Decidable renaming byContradiction→Xjn
namespace Go.Proofs.Tryz
def orA (L:Lw) (cc:Bool) (s:Int) (out:List aT) (ks vs:List AV) (y:Nat) (k:Nat):St:=⟨[(5,.bool true),(6,.ptr 0 0 0),(7,.int .i64 s),(8,.sl (sL out) out.length false),(9,.mr 1 0),(10,.int .i64 (y:Int)),(11,.int .i64 (k:Int))],[(0,⟨[.sl L.fx L.fn true,.sl L.sx L.sn true,.sl (f_ L.ps) L.ps.length cc],0,false,0,0,true⟩),(1,⟨[.agg ks,.agg vs],0,false,0,4611686018427387904,true⟩)],.dead,[]⟩
def abY (L:Lw) (cc:Bool) (s:Int) (out:List aT) (ks vs:List AV) (y:Nat):St:=⟨[(5,.bool true),(6,.ptr 0 0 0),(7,.int .i64 s),(8,.sl (sL out) out.length false),(9,.mr 1 0),(10,.int .i64 (y:Int))],[(0,⟨[.sl L.fx L.fn true,.sl L.sx L.sn true,.sl (f_ L.ps) L.ps.length cc],0,false,0,0,true⟩),(1,⟨[.agg ks,.agg vs],0,false,0,4611686018427387904,true⟩)],.dead,[]⟩
def orB (L:Lw) (cc:Bool) (s:Int) (out:List aT) (ks vs:List AV) (y:Nat) (k j:Nat):St:=⟨[(5,.bool true),(6,.ptr 0 0 0),(7,.int .i64 s),(8,.sl (sL out) out.length false),(9,.mr 1 0),(10,.int .i64 (y:Int)),(11,.int .i64 (k:Int)),(12,.int .i64 (j:Int))],[(0,⟨[.sl L.fx L.fn true,.sl L.sx L.sn true,.sl (f_ L.ps) L.ps.length cc],0,false,0,0,true⟩),(1,⟨[.agg ks,.agg vs],0,false,0,4611686018427387904,true⟩)],.dead,[]⟩
def orP (L:Lw) (cc:Bool) (s:Int) (out:List aT) (ks vs:List AV) (y:Nat) (k:Nat):St:=⟨[(5,.bool true),(6,.ptr 0 0 0),(7,.int .i64 s),(8,.sl (sL out) out.length false),(9,.mr 1 0),(10,.int .i64 (y:Int)),(16,.int .i64 (k:Int))],[(0,⟨[.sl L.fx L.fn true,.sl L.sx L.sn true,.sl (f_ L.ps) L.ps.length cc],0,false,0,0,true⟩),(1,⟨[.agg ks,.agg vs],0,false,0,4611686018427387904,true⟩)],.dead,[]⟩
def ab2 (L:Lw) (cc:Bool) (s:Int) (out:List aT) (y:Nat):St:=⟨[(5,.bool true),(6,.ptr 0 0 0),(7,.int .i64 s),(10,.int .i64 (y:Int))],[(0,⟨[.sl L.fx L.fn true,.sl L.sx L.sn true,.sl (f_ L.ps) L.ps.length cc],0,false,0,0,true⟩)],.dead,[]⟩
def orC (L:Lw) (cc:Bool) (s:Int) (out:List aT) (ks vs:List AV) (y:Nat) (k:Nat) (z:aT) (n j:Nat):St:=⟨[(5,.bool true),(6,.ptr 0 0 0),(7,.int .i64 s),(8,.sl (sL out) out.length false),(9,.mr 1 0),(10,.int .i64 (y:Int)),(16,.int .i64 (k:Int)),(17,.int .i64 ((n:Int) - ((1:Nat):Int))),(143,.sl (cL z.1) z.1.length false),(144,.int .i64 (z.1.length:Int)),(145,.int .i64 (j:Int))],[(0,⟨[.sl L.fx L.fn true,.sl L.sx L.sn true,.sl (f_ L.ps) L.ps.length cc],0,false,0,0,true⟩),(1,⟨[.agg ks,.agg vs],0,false,0,4611686018427387904,true⟩)],.dead,[]⟩
def ab8 (L:Lw) (cc:Bool) (s:Int) (out:List aT) (ks vs:List AV) (y:Nat) (k n:Nat):St:=⟨[(5,.bool true),(6,.ptr 0 0 0),(7,.int .i64 s),(8,.sl (sL out) out.length false),(9,.mr 1 0),(10,.int .i64 (y:Int)),(16,.int .i64 (k:Int)),(17,.int .i64 ((n:Int) - ((1:Nat):Int)))],[(0,⟨[.sl L.fx L.fn true,.sl L.sx L.sn true,.sl (f_ L.ps) L.ps.length cc],0,false,0,0,true⟩),(1,⟨[.agg ks,.agg vs],0,false,0,4611686018427387904,true⟩)],.dead,[]⟩
def orD (L:Lw) (cc:Bool) (s:Int) (out:List aT) (ks vs:List AV) (y:Nat) (k:Nat) (z:aT) (n j:Nat) (us:List Cl) (i:Nat):St:=⟨[(5,.bool true),(6,.ptr 0 0 0),(7,.int .i64 s),(8,.sl (sL out) out.length false),(9,.mr 1 0),(10,.int .i64 (y:Int)),(16,.int .i64 (k:Int)),(17,.int .i64 ((n:Int) - ((1:Nat):Int))),(143,.sl (cL z.1) z.1.length false),(144,.int .i64 (z.1.length:Int)),(145,.int .i64 (j:Int)),(152,.sl (cL us) us.length false),(153,.int .i64 (us.length:Int)),(154,.int .i64 (i:Int))],[(0,⟨[.sl L.fx L.fn true,.sl L.sx L.sn true,.sl (f_ L.ps) L.ps.length cc],0,false,0,0,true⟩),(1,⟨[.agg ks,.agg vs],0,false,0,4611686018427387904,true⟩)],.dead,[]⟩
def orE (L:Lw) (cc:Bool) (s:Int) (out:List aT) (ks vs:List AV) (y:Nat) (k n:Nat):St:=⟨[(5,.bool true),(6,.ptr 0 0 0),(7,.int .i64 s),(8,.sl (sL out) out.length false),(9,.mr 1 0),(10,.int .i64 (y:Int)),(16,.int .i64 (k:Int)),(22,.int .i64 (n:Int))],[(0,⟨[.sl L.fx L.fn true,.sl L.sx L.sn true,.sl (f_ L.ps) L.ps.length cc],0,false,0,0,true⟩),(1,⟨[.agg ks,.agg vs],0,false,0,4611686018427387904,true⟩)],.dead,[]⟩
theorem agZ {nt:Nat} (q:223≤nt) (L:Lw) (i:Bool) (s:Int) (out:List aT) (ks vs:List AV) (y:Nat) (k:Nat) (z:aT) (c:Cl) (t r:List AV) (m:k<out.length) (j:0<z.1.length) (d:y<2^62) (g:Xqd ks (iU 25)=true) (l:(κ ((θ (k:Int))*2) (sL out))=sC z++t) (o:(κ ((θ ((0:Nat):Int))*2) (cL z.1))=cC c++r) (e:AV.tup [Xqc (bu ks vs (cA c)) (.int .i64 0),.bool (Xvc (bu ks vs (cA c)))]= .tup [.int .i64 0,.bool false]) (u:(decide (c.1<((0:Nat):Int)))=false) (v:(decide (s≤c.1))=false) (v3:(decide (c.2<((0:Nat):Int)))=false) (v4:(decide ((L.ps.length:Int)≤c.2))=false):ag prog ap [] nt (ah 2 (af f7)) (orB L i s out ks vs y k 0) .normal (orB L i s out (gB ks (cA c)) (eH ks vs (cA c) (nI k)) (y+1) k 1):=by
 have f:(0:Nat)<2^62:=by omega
 have n:(decide (((0:Nat):Int)<(z.1.length:Int)))=true:=kl j;have p:(decide (((0:Nat):Int)<((0:Nat):Int)))=false:=decide_eq_false (by omega);have b:(Xqd ks (iU 25))=true:=g;have h:(decide (((0:Nat):Int)<(z.1.length:Int)))=true:=(kl j)
 have a:(decide ((k:Int)<(out.length:Int)))=true:=(kl m)
 exact pN 7 [] 8 1 (.k 1 b (.k 3 (aX p) (.c (aX v4) (.k 2 (aX v3) (.k 1 (aX v) (.k 1 (aX u) (.k 3 b (.k 6 h (.k 2 a (.c (aQ n) (.k 2 a .nil))))))))))) (.v 70 (.eq (wpS f)) (.v 132 (.eq (wpS d)) (.v 82 (.eq e) (.v 77 (.ppt o) (.v 73 (.ppt l) (.v 64 (.ppt l) .nil)))))) q
theorem ahD {nt:Nat} (B:223≤nt) (L:Lw) (p:Bool) (s:Int) (out:List aT) (ks vs:List AV) (y:Nat) (k a:Nat) (z:aT) (c b:Cl) (C r rb:List AV) (t:k<out.length) (q:(a+1)<z.1.length) (v:z.1.length<2^40) (f:y<2^62) (m:Xqd ks (iU 25)=true) (o:(κ ((θ (k:Int))*2) (sL out))=sC z++C) (w:(κ ((θ (((a+1):Nat):Int))*2) (cL z.1))=cC c++r) (A:(κ ((θ (a:Int))*2) (cL z.1))=cC b++rb) (j:CO 28 [cA b,cA c] (.ret (.bool true))) (h:AV.tup [Xqc (bu ks vs (cA c)) (.int .i64 0),.bool (Xvc (bu ks vs (cA c)))]= .tup [.int .i64 0,.bool false]) (D:(decide (c.1<((0:Nat):Int)))=false) (E:(decide (s≤c.1))=false) (v3:(decide (c.2<((0:Nat):Int)))=false) (v4:(decide ((L.ps.length:Int)≤c.2))=false):ag prog ap [] nt (ah 2 (af f7)) (orB L p s out ks vs y k (a+1)) .normal (orB L p s out (gB ks (cA c)) (eH ks vs (cA c) (nI k)) (y+1) k (a+1+1)):=by
 have l:a+1<2^62:=by omega
 have i:AV.int .i64 (ν .i64 ((((a+1):Nat):Int) - ((1:Nat):Int)))= .int .i64 (a:Int):=by rw [xO (by omega) (by omega),Nat.add_sub_cancel]
 have u:(decide ((((a+1):Nat):Int)<(z.1.length:Int)))=true:=kl q;have x:(decide (((0:Nat):Int)<(((a+1):Nat):Int)))=true:=decide_eq_true (by omega);have e:(Xqd ks (iU 25))=true:=m;have n:(decide ((a:Int)<(z.1.length:Int)))=true:=(kl (by omega))
 have d:(decide ((k:Int)<(out.length:Int)))=true:=(kl t)
 have g:(decide ((((a+1):Nat):Int)<(z.1.length:Int)))=true:=(kl q)
 exact pN 7 [] 8 65 (.k 1 e (.k 8 n (.k 2 d (.c (aQ x) (.c (aX v4) (.k 2 (aX v3) (.k 1 (aX E) (.k 1 (aX D) (.k 3 e (.k 6 g (.k 2 d (.c (aQ u) (.k 2 d .nil))))))))))))) (.v 70 (.eq (wpS l)) (.v 132 (.eq (wpS f)) (.c j (.v 121 (.ppt A) (.v 120 (.eq i) (.v 116 (.ppt o) (.v 82 (.eq h) (.v 77 (.ppt w) (.v 73 (.ppt o) (.v 64 (.ppt o) .nil)))))))))) B
theorem ahE {nt:Nat} (d:223≤nt) (L:Lw) (b:Bool) (s:Int) (out:List aT) (ks vs:List AV) (y:Nat) (k:Nat) (z:aT) (e:List AV) (c:k<out.length) (g:(κ ((θ (k:Int))*2) (sL out))=sC z++e):ag prog ap [] nt (ah 2 (af f7)) (orB L b s out ks vs y k z.1.length) (.exit 2) (orA L b s out ks vs y k):=by
 have f:(decide ((z.1.length:Int)<(z.1.length:Int)))=false:=kn (ζ _);have a:(decide ((k:Int)<(out.length:Int)))=true:=(kl c)
 exact pN 7 [] 1 0 (.c (aX f) (.k 2 a .nil)) (.v 64 (.ppt g) .nil) d
theorem aej {nt:Nat} (n:223≤nt) (L:Lw) (d:Bool) (s:Int) (out:List aT) (ks vs:List AV) (y:Nat) (k:Nat) (z:aT) (o:List AV) (c b:List AV) (i:Nat) (g:k<out.length) (q:out.length<2^40) (f:(κ ((θ (k:Int))*2) (sL out))=sC z++o) (m:1<z.1.length) (p:z.2=true) (h:LB 223 2 f7 (orB L d s out ks vs y k 0) .normal (orA L d s out c b i k)):ψ nt f7 (orA L d s out ks vs y k) .normal (orA L d s out c b i (k+1)):=by
 have e:k<2^62:=by omega
 unfold orB orA at h;have j:(decide ((k:Int)<(out.length:Int)))=true:=kl g;have l:((z.1.length:Int)==((0:Nat):Int))=false:=beq_eq_false_iff_ne.2 (by omega);have r:(decide (((1:Nat):Int)<(z.1.length:Int)))=true:=decide_eq_true (by omega);have a:(decide ((k:Int)<(out.length:Int)))=true:=(kl g)
 exact pN 7 [2] 4 5 (.c (fZ p) (.k 2 a (.c (aQ r) (.k 2 a (.c (aX l) (.k 2 a (.c (aQ j) .nil))))))) (.v 36 (.eq (wpS e)) (.k [5,6,7,8,9,10,11,12] h (.v 55 (.ppt f) (.v 47 (.ppt f) (.v 39 (.ppt f) .nil))))) n
theorem aes {nt:Nat} (n:223≤nt) (L:Lw) (d:Bool) (s:Int) (out:List aT) (ks vs:List AV) (y:Nat) (k:Nat) (z:aT) (o:List AV) (c a:List AV) (h:Nat) (f:k<out.length) (p:out.length<2^40) (i:(κ ((θ (k:Int))*2) (sL out))=sC z++o) (m:z.1.length=1) (g:LB 223 2 f7 (orB L d s out ks vs y k 0) .normal (orA L d s out c a h k)):ψ nt f7 (orA L d s out ks vs y k) .normal (orA L d s out c a h (k+1)):=by
 have e:k<2^62:=by omega
 unfold orB orA at g;have j:(decide ((k:Int)<(out.length:Int)))=true:=kl f;have l:((z.1.length:Int)==((0:Nat):Int))=false:=beq_eq_false_iff_ne.2 (by omega);have q:(decide (((1:Nat):Int)<(z.1.length:Int)))=false:=decide_eq_false (by omega);have b:(decide ((k:Int)<(out.length:Int)))=true:=(kl f)
 exact pN 7 [2] 4 1 (.k 1 (aX q) (.k 2 b (.c (aX l) (.k 2 b (.c (aQ j) .nil))))) (.v 36 (.eq (wpS e)) (.k [5,6,7,8,9,10,11,12] g (.v 47 (.ppt i) (.v 39 (.ppt i) .nil)))) n
theorem af1 {nt:Nat} (c:223≤nt) (L:Lw) (a:Bool) (s:Int) (out:List aT) (ks vs:List AV) (y:Nat):ψ nt f7 (orA L a s out ks vs y out.length) (.exit 0) (abY L a s out ks vs y):=by
 have b:(decide ((out.length:Int)<(out.length:Int)))=false:=kn (ζ _);exact pN 7 [] 1 0 (.c (aX b) .nil) .nil c
theorem acY {nt:Nat} (u:223≤nt) (L:Lw) (l:Bool) (s:Int) (out:List aT) (ks vs:List AV) (y:Nat) (k:Nat) (z:aT) (n j:Nat) (us:List Cl) (i:Nat) (d:Cl) (r v:List AV) (h:i<us.length) (w:us.length<2^40) (o:k<out.length) (A:(κ ((θ (k:Int))*2) (sL out))=sC z++v) (x:z.2=true) (f:Xqd ks (iU 25)=true) (e:Xqc (bu ks vs (cA d)) (.int .i64 0)=nI k) (q:(κ ((θ (i:Int))*2) (cL us))=cC d++r):ag prog ap [] nt (ah 8 (af f7)) (orD L l s out ks vs y k z n j us i) .normal (orD L l s out ks vs y k z n j us (i+1)):=by
 have c:i<2^62:=by omega
 have p:(decide ((i:Int)<(us.length:Int)))=true:=kl h;have t:(decide ((k:Int)<(k:Int)))=false:=kn (by omega);have m:((k:Int)==(k:Int))=true:=beq_self_eq_true _;have a:(Xqd ks (iU 25))=true:=f;have g:(decide ((k:Int)<(out.length:Int)))=true:=(kl o)
 have b:(decide ((i:Int)<(us.length:Int)))=true:=(kl h)
 exact pN 7 [] 5 5 (.c (fZ m) (.k 1 a (.k 2 (fZ x) (.k 2 g (.c (aQ m) (.k 1 a (.k 2 (aX t) (.k 1 a (.k 6 b (.c (aQ p) .nil)))))))))) (.v 188 (.eq (wpS c)) (.v 180 (.eq e) (.v 172 (.ppt A) (.v 166 (.eq e) (.v 160 (.eq e) (.v 156 (.ppt q) .nil)))))) u
theorem adT {nt:Nat} (u:223≤nt) (L:Lw) (m:Bool) (s:Int) (out:List aT) (ks vs:List AV) (y:Nat) (k:Nat) (z:aT) (n j:Nat) (us:List Cl) (i w h:Nat) (d:Cl) (r:List AV) (l:i<us.length) (v:us.length<2^40) (x:w<k) (e:Xqd ks (iU 25)=true) (b:Xqc (bu ks vs (cA d)) (.int .i64 0)=nI w) (q:(κ ((θ (i:Int))*2) (cL us))=cC d++r) (g:AV.int .i64 (if (w:Int)>((n:Int) - ((1:Nat):Int)) then (w:Int) else ((n:Int) - ((1:Nat):Int)))= .int .i64 ((h:Int) - ((1:Nat):Int))):ag prog ap [] nt (ah 8 (af f7)) (orD L m s out ks vs y k z n j us i) .normal (orD L m s out ks vs y k z h j us (i+1)):=by
 have c:i<2^62:=by omega
 have p:(decide ((i:Int)<(us.length:Int)))=true:=kl l;have t:(decide ((k:Int)<(w:Int)))=false:=kn (by omega);have o:((w:Int)==(k:Int))=false:=beq_eq_false_iff_ne.2 (by omega);have a:(Xqd ks (iU 25))=true:=e;have f:(decide ((i:Int)<(us.length:Int)))=true:=(kl l)
 exact pN 7 [] 5 17 (.k 1 a (.k 2 (nK o) (.k 1 a (.k 3 (aX o) (.k 1 a (.k 2 (aX t) (.k 1 a (.k 6 f (.c (aQ p) .nil))))))))) (.v 188 (.eq (wpS c)) (.v 187 (.eq g) (.v 186 (.eq b) (.v 180 (.eq b) (.v 166 (.eq b) (.v 160 (.eq b) (.v 156 (.ppt q) .nil))))))) u
theorem ahJ {nt:Nat} (c:223≤nt) (L:Lw) (a:Bool) (s:Int) (out:List aT) (ks vs:List AV) (y:Nat) (k:Nat) (z:aT) (n j:Nat) (us:List Cl):ag prog ap [] nt (ah 8 (af f7)) (orD L a s out ks vs y k z n j us us.length) (.exit 8) (orC L a s out ks vs y k z n j):=by
 have b:(decide ((us.length:Int)<(us.length:Int)))=false:=kn (ζ _);exact pN 7 [] 1 0 (.c (aX b) .nil) .nil c
theorem ahI {nt:Nat} (o:223≤nt) (L:Lw) (a:Bool) (s:Int) (out:List aT) (ks vs:List AV) (y:Nat) (k:Nat) (z:aT) (n e j:Nat) (us:List Cl) (c:Cl) (r:List AV) (g:j<z.1.length) (i:z.1.length<2^40) (l:(κ ((θ (j:Int))*2) (cL z.1))=cC c++r) (m:CO 16 [.agg [.sl L.fx L.fn true,.sl L.sx L.sn true,.sl (f_ L.ps) L.ps.length a],.int .i64 s,.agg [.int .i64 c.1,.int .i64 c.2]] (.ret (.sl (cL us) us.length false))) (f:LB 223 8 f7 (orD L a s out ks vs y k z n j us 0) .normal (orC L a s out ks vs y k z e j)):ag prog ap [] nt (ah 6 (af f7)) (orC L a s out ks vs y k z n j) .normal (orC L a s out ks vs y k z e (j+1)):=by
 have d:j<2^62:=by omega
 unfold orD orC at f;have h:(decide ((j:Int)<(z.1.length:Int)))=true:=kl g;have b:(decide ((j:Int)<(z.1.length:Int)))=true:=(kl g)
 exact pN 7 [8] 1 1 (.k 9 b (.c (aQ h) .nil)) (.v 189 (.eq (wpS d)) (.k [5,6,7,8,9,10,16,17,143,144,145,152,153,154] f (.c m (.v 147 (.ppt l) .nil)))) o
theorem ahH {nt:Nat} (c:223≤nt) (L:Lw) (a:Bool) (s:Int) (out:List aT) (ks vs:List AV) (y:Nat) (k:Nat) (z:aT) (n:Nat):ag prog ap [] nt (ah 6 (af f7)) (orC L a s out ks vs y k z n z.1.length) (.exit 6) (ab8 L a s out ks vs y k n):=by
 have b:(decide ((z.1.length:Int)<(z.1.length:Int)))=false:=kn (ζ _);exact pN 7 [] 1 0 (.c (aX b) .nil) .nil c
theorem acX {nt:Nat} (v:223≤nt) (L:Lw) (m:Bool) (s:Int) (out:List aT) (ks vs:List AV) (y:Nat) (k n:Nat) (z u:aT) (a b:Cl) (w x p rb:List AV) (o:k<out.length) (i:n<k) (C:out.length<2^40) (B:(κ ((θ (k:Int))*2) (sL out))=sC z++w) (r:(κ ((θ (n:Int))*2) (sL out))=sC u++x) (A:κ 0 (cL u.1)=cC a++p) (t:κ 0 (cL z.1)=cC b++rb) (j:0<u.1.length) (d:0<z.1.length) (e:CO 28 [cA a,cA b] (.ret (.bool true))):ag prog ap [] nt (ah 10 (af f7)) (orE L m s out ks vs y k n) .normal (orE L m s out ks vs y k (n+1)):=by
 have h:n<2^62:=by omega
 have q:(decide ((n:Int)<(k:Int)))=true:=kl i;have g:(decide (((0:Nat):Int)<(z.1.length:Int)))=true:=(kl d)
 have l:(decide ((k:Int)<(out.length:Int)))=true:=(kl o)
 have c:(decide (((0:Nat):Int)<(u.1.length:Int)))=true:=(kl j)
 have f:(decide ((n:Int)<(out.length:Int)))=true:=(kl (by omega))
 exact pN 7 [] 2 1 (.k 4 g (.k 2 l (.k 3 c (.k 2 f (.c (aQ q) .nil))))) (.v 196 (.eq (wpS h)) (.c e (.v 209 (.ppt t) (.v 206 (.ppt B) (.v 202 (.ppt A) (.v 199 (.ppt r) .nil)))))) v
theorem acN {nt:Nat} (c:223≤nt) (L:Lw) (a:Bool) (s:Int) (out:List aT) (ks vs:List AV) (y:Nat) (k:Nat):ag prog ap [] nt (ah 10 (af f7)) (orE L a s out ks vs y k k) (.exit 10) (orP L a s out ks vs y k):=by
 have b:(decide ((k:Int)<(k:Int)))=false:=kn (ζ _);exact pN 7 [] 1 0 (.c (aX b) .nil) .nil c
theorem ahG {nt:Nat} (i:223≤nt) (L:Lw) (a:Bool) (s:Int) (out:List aT) (ks vs:List AV) (y:Nat) (k n:Nat) (z:aT) (j:List AV) (f:k<out.length) (o:out.length<2^40) (m:(κ ((θ (k:Int))*2) (sL out))=sC z++j) (l:n≤k) (g:LB 223 6 f7 (orC L a s out ks vs y k z 0 0) .normal (ab8 L a s out ks vs y k n)) (b:LB 223 10 f7 (orE L a s out ks vs y k n) .normal (orP L a s out ks vs y k)):ag prog ap [] nt (ah 4 (af f7)) (orP L a s out ks vs y k) .normal (orP L a s out ks vs y (k+1)):=by
 have d:k<2^62:=by omega
 have e:AV.int .i64 (ν .i64 (((n:Int) - ((1:Nat):Int))+((1:Nat):Int)))= .int .i64 (n:Int):=by rw [Int.sub_add_cancel,jD (by omega) (by omega)]
 unfold orC ab8 at g;unfold orE orP at b;have h:(decide ((k:Int)<(out.length:Int)))=true:=kl f;have c:(decide ((k:Int)<(out.length:Int)))=true:=(kl f)
 exact pN 7 [6,10] 1 1 (.k 2 c (.c (aQ h) .nil)) (.v 138 (.eq (wpS d)) (.k [5,6,7,8,9,10,16,22] b (.v 191 (.eq e) (.k [5,6,7,8,9,10,16,17,143,144,145] g (.v 141 (.ppt m) .nil))))) i
theorem ahF {nt:Nat} (c:223≤nt) (L:Lw) (a:Bool) (s:Int) (out:List aT) (ks vs:List AV) (y:Nat):ag prog ap [] nt (ah 4 (af f7)) (orP L a s out ks vs y out.length) (.exit 4) (ab2 L a s out y):=by
 have b:(decide ((out.length:Int)<(out.length:Int)))=false:=kn (ζ _);exact pN 7 [] 1 0 (.c (aX b) .nil) .nil c
theorem ahS (l:List (List Int)) (d two:Bool) (L:Lw) (a:Bool) (out:List aT) (ks vs:List AV) (y:Nat) (f:two=true) (b:CO 13 [] (.ret (.bool true))) (hmade:CO 24 [.sl (kW l) l.length d] (.ret (.agg [.sl L.fx L.fn true,.sl L.sx L.sn true,.sl (f_ L.ps) L.ps.length a]))) (c:CO 19 [.agg [.sl L.fx L.fn true,.sl L.sx L.sn true,.sl (f_ L.ps) L.ps.length a],.int .i64 2] (.ret (.sl (sL out) out.length false))) (g:LB 223 0 f7 (orA L a 2 out [] [] 0 0) .normal (abY L a 2 out ks vs y)) (e:LB 223 4 f7 (orP L a 2 out ks vs y 0) .normal (ab2 L a 2 out y)):CO 7 [.sl (kW l) l.length d,.bool two] (.ret (.bool ((y:Int)==(ν .i64 (((2:Nat):Int)*(L.ps.length:Int)))))):=by
 exact pK [0,4] 2 3 (.k 5 (aQ f) (.n 1 .nil)) (.k [5,6,7,8,9,10,16] e (.k [5,6,7,8,9,10,11] g (.c c (.c hmade (.c b .nil)))))
theorem ahR (l:List (List Int)) (d two:Bool) (L:Lw) (a:Bool) (out:List aT) (ks vs:List AV) (y:Nat) (f:two=false) (b:CO 13 [] (.ret (.bool true))) (hmade:CO 24 [.sl (kW l) l.length d] (.ret (.agg [.sl L.fx L.fn true,.sl L.sx L.sn true,.sl (f_ L.ps) L.ps.length a]))) (c:CO 19 [.agg [.sl L.fx L.fn true,.sl L.sx L.sn true,.sl (f_ L.ps) L.ps.length a],.int .i64 1] (.ret (.sl (sL out) out.length false))) (g:LB 223 0 f7 (orA L a 1 out [] [] 0 0) .normal (abY L a 1 out ks vs y)) (e:LB 223 4 f7 (orP L a 1 out ks vs y 0) .normal (ab2 L a 1 out y)):CO 7 [.sl (kW l) l.length d,.bool two] (.ret (.bool ((y:Int)==(ν .i64 (((1:Nat):Int)*(L.ps.length:Int)))))):=by
 exact pK [0,4] 2 2 (.k 5 (aX f) (.n 1 .nil)) (.k [5,6,7,8,9,10,16] e (.k [5,6,7,8,9,10,11] g (.c c (.c hmade (.c b .nil)))))
end Go.Proofs.Tryz
set_option maxRecDepth 100000
set_option linter.unusedVariables false
open Go AM
namespace Go.Proofs.Tryz
theorem ahO (x y:Cl) (a:(decide (x.1<y.1))=true):CO 28 [cA x,cA y] (.ret (.bool true)):=pK [] 1 1 (.c (aQ a) (.n 2 .nil)) .nil
theorem ahQ (x y:Cl) (a:(decide (x.1<y.1))=false) (b:(x.1==y.1)=true):CO 28 [cA x,cA y] (.ret (.bool (decide (x.2<y.2)))):=pK [] 2 2 (.n 2 (.c (aQ b) (.n 2 (.c (aX a) (.n 2 .nil))))) .nil
theorem ab_ {x y:Cl} (h:Am x y=true):CO 28 [cA x,cA y] (.ret (.bool true)):=by
 rw [Ap] at h;by_cases c:x.1<y.1
 ·exact ahO x y (decide_eq_true c)
 ·have a:=ahQ x y (decide_eq_false c) (beq_iff_eq.2 (by omega));rw [decide_eq_true (by omega)] at a;exact a
theorem abM {K:List (Cl × Nat)} {c:Cl} (h:c ∉ K.map (·.1)):bu (kO K) (vO K) (cA c)=none:=by
 rw [Nr,List.find?_eq_none.2 fun p hp=> ?_]
 ·rfl
 ·intro e;have e:p.1=c:=by simpa using e
  exact h (List.mem_map.2 ⟨p,hp,e⟩)
theorem ahL {K:List (Cl × Nat)} {c:Cl} {k:Nat} (h:c ∉ K.map (·.1)):gB (kO K) (cA c)=kO (K++ [(c,k)])∧eH (kO K) (vO K) (cA c) (nI k)=vO (K++ [(c,k)]):=
 ⟨by unfold kO;rw [xw h];simp,by unfold kO;rw [lY (vO K) (nI k) h (by simp [vO])];simp [vO]⟩
section
variable {L:Lw} {s:Int} {out:List aT}
theorem ab3 (S:xR (ak s L.ps.length) (fC L s) out) {k:Nat} (a:k<out.length) {c d:Cl} (b:c ∈ (iG out k).1) (f:d ∈ fC L s c):G6 out d≤k∧d ∈ (iG out (G6 out d)).1∧(G6 out d=k→(iG out k).2=true):=by
 have l:out[k]? =some (iG out k):=by unfold iG;rw [γ,δ a];rfl
 rcases S.rdy k _ l c b d f with h|⟨j,n,o,i,g⟩
 ·rw [Oa S.nd a h];exact ⟨ζ _,h,fun _=>(S.circ _ (Hz a)).2 ⟨c,b,d,h,f⟩⟩
 ·obtain ⟨m,rfl⟩:=abE i;rw [Oa S.nd m g];exact ⟨by omega,g,fun e=>by omega⟩
theorem abU (S:xR (ak s L.ps.length) (fC L s) out) {z:aT} (a:z ∈ out) (h:1<z.1.length):z.2=true:=by
 match hz1:z.1,h with
 | x::y::r,_=>
  have b:x ∈ z.1:=by rw [hz1];simp
  have i:y ∈ z.1:=by rw [hz1];simp
  have c:Am x y=true:=by
   have:=S.srt z a;rw [hz1] at this;exact (List.pairwise_cons.1 this).1 y (by simp)
  obtain ⟨g,k⟩:=(S.scc z a x b y).1 i;rcases g.head with e|⟨d,f,j⟩
  ·rw [e,Ap] at c;omega
  ·exact (S.circ z a).2 ⟨x,b,d,(S.scc z a x b d).2 ⟨Rt.one f,j.trans k⟩,f⟩
theorem abX (S:xR (ak s L.ps.length) (fC L s) out) {j k:Nat} (m:j<k) (g:k<out.length) (h:∀ c ∈ (iG out k).1,∀ d ∈ fC L s c,G6 out d=k∨G6 out d<j) {a b:Cl} {w rb:List Cl} (u:(iG out j).1=a::w) (q:(iG out k).1=b::rb):Am a b=true:=by
 have p:∀ i,i<out.length→out[i]? =some (iG out i):=fun i v=>by unfold iG;rw [γ,δ v];rfl
 have f:=S.lst j k _ _ m (p j (by omega)) (p k g) fun x r y t=>by
  obtain ⟨A,l,_⟩:=ab3 S g r t;rcases h x r y t with e|e
  ·rw [e] at l;exact .inl l
  ·exact .inr ⟨_,_,e,p _ (by omega),l⟩
 unfold jY at f;rw [u,q] at f;simp only [List.headD_cons] at f;rw [kX] at f;rw [Ap];refine Xjn fun B=> ?_
 have e:a=b:=Prod.ext (by omega) (by omega);have o:a ∈ (iG out j).1:=by rw [u];simp
 have n:a ∈ (iG out k).1:=by rw [q,e];simp
 have C:=Oa S.nd (by omega:j<out.length) o;have z:=Oa S.nd g n;omega
end
section
variable (L:Lw) (cc:Bool) (s:Int) (out:List aT)
theorem zAt {out:List aT} {k:Nat} (a:k<out.length):∃ rz,(κ ((θ (k:Int))*2) (sL out))=sC (iG out k)++rz:=
 ⟨_,XN (f:=sC) (n:=2) (fun _=>rfl) (by unfold iG;rw [γ,δ a];rfl)⟩
theorem aaH {nt:Nat} (t:223≤nt) (S:xR (ak s L.ps.length) (fC L s) out) {k:Nat} (i:k<out.length) (K:List (Cl × Nat)) (y:Nat) (J:y<2^60) (o:(iG out k).1.length<2^40):∀ (r pc:List Cl),(iG out k).1=pc++r→(∀ c ∈ r,c ∉ K.map (·.1))→aN prog ap [] nt (ah 2 (af f7)) (fun _:St=> .exit 2) (id:St→St) id (orB L cc s out (kO (K++pc.map fun c=>(c,k))) (vO (K++pc.map fun c=>(c,k))) (y+pc.length) k pc.length) (orA L cc s out (kO (K++(iG out k).1.map fun c=>(c,k))) (vO (K++(iG out k).1.map fun c=>(c,k))) (y+(iG out k).1.length) k)
 | [],pc,h,hK=>by
  rw [μ] at h;rw [← h];obtain ⟨u,w⟩:=zAt i;exact .done (ahE t L cc s out _ _ _ k (iG out k) u i w)
 | c::r,pc,h,hK=>by
  obtain ⟨u,w⟩:=zAt i;have v:=aaH t S i K y J o r (pc++ [c]) (by rw [h];simp) (fun x l=>hK x (Θ _ l));have D:c ∈ (iG out k).1:=by rw [h];simp
  have p:=Hz i;have d:=S.srt _ p;rw [h] at d;have z:(pc++c::r).Nodup:=d.imp fun {x y} hxy e=>by rw [e,Ap] at hxy;omega
  have m:c ∉ (K++pc.map fun c=>(c,k)).map (·.1):=by
   rw [List.map_append,List.map_map];intro hm;rcases List.mem_append.1 hm with hm|hm
   ·exact hK c (by simp) hm
   ·have:c ∈ pc:=by simpa using hm
    exact (List.nodup_append.1 z).2.2 c this c (by simp) rfl
  have B:aC s L.ps.length c=true:=gq.1 ((S.all c).2 ⟨_,p,D⟩);unfold aC at B;simp only [Bool.and_eq_true,Bool.or_eq_true,decide_eq_true_eq,beq_iff_eq] at B;obtain ⟨_,N,P,M,O⟩:=B;obtain ⟨F,I⟩:=ahL (k:=k) m;have A:=abM m;have q:Xqd (kO (K++pc.map fun c=>(c,k))) (iU 25)=true:=dM _;have j:pc.length<(iG out k).1.length:=jm h;have l:=bI (f:=cC) (n:=2) (fun _=>rfl) h;change κ _ (cL (iG out k).1)=cC c++cL r at l;have G:K++(pc++ [c]).map (fun c=>(c,k))=(K++pc.map fun c=>(c,k))++ [(c,k)]:=by simp
  rw [G,← F,← I,η,Xxw,← Nat.add_assoc] at v;clear F I G;have g:AV.tup [Xqc (bu (kO (K++pc.map fun c=>(c,k))) (vO (K++pc.map fun c=>(c,k))) (cA c)) (.int .i64 0),.bool (Xvc (bu (kO (K++pc.map fun c=>(c,k))) (vO (K++pc.map fun c=>(c,k))) (cA c)))]= .tup [.int .i64 0,.bool false]:=by rw [A];rfl
  generalize kO (K++pc.map fun c=>(c,k))=ks at*
  generalize vO (K++pc.map fun c=>(c,k))=vs at*
  rcases List.eq_nil_or_concat pc with rfl|⟨a,b,rfl⟩
  ·refine .next ?_ v
   exact agZ t L cc s out ks vs (y+0) k (iG out k) c u (cL r) i j (by omega) q w l g (decide_eq_false (by omega)) (decide_eq_false (by omega)) (decide_eq_false (by omega)) (decide_eq_false (by omega))
  ·have C:(a++ [b]).length=a.length+1:=by simp
   have H:=bI (f:=cC) (n:=2) (fun _=>rfl) (show (iG out k).1=a++b::(c::r) by rw [h];simp);change κ _ (cL (iG out k).1)=cC b++cL (c::r) at H;have E:Am b c=true:=by
    have e:a.concat b++c::r=a++(b::c::r):=by simp
    rw [e] at d;exact (List.pairwise_cons.1 (List.pairwise_append.1 d).2.1).1 c (by simp)
   simp only [List.concat_eq_append] at*
   rw [C] at j l v ⊢;refine .next ?_ v
   exact ahD t L cc s out ks vs (y+(a.length+1)) k a.length (iG out k) c b u (cL r) (cL (c::r)) i j o (by omega) q w l H (ab_ E) g (decide_eq_false (by omega)) (decide_eq_false (by omega)) (decide_eq_false (by omega)) (decide_eq_false (by omega))
theorem aaF {nt:Nat} (b:223≤nt) (S:xR (ak s L.ps.length) (fC L s) out) (k:(out.flatMap (·.1)).length<2^38) (w:out.length<2^38):∀ (r p:List aT),out=p++r→aN prog ap [] nt (ah 0 (af f7)) (fun _:St=> .exit 0) (id:St→St) id (orA L cc s out (kO (uO p 0)) (vO (uO p 0)) (p.flatMap (·.1)).length p.length) (abY L cc s out (kO (uO out 0)) (vO (uO out 0)) (out.flatMap (·.1)).length)
 | [],p,h=>by
  rw [μ] at h;rw [← h];exact .done (af1 b L cc s out _ _ _)
 | z::r,p,h=>by
  have g:p.length<out.length:=jm h;have i:iG out p.length=z:=by unfold iG;rw [h,γ];simp
  have n:=aaF b S k w r (p++ [z]) (by rw [h];simp);have q:uO (p++ [z]) 0=uO p 0++z.1.map fun c=>(c,p.length):=by rw [N_,Nat.zero_add];simp [uO]
  have t:((p++ [z]).flatMap (·.1)).length=(p.flatMap (·.1)).length+z.1.length:=by simp
  rw [q,t,η,Xxw] at n;have e:z ∈ out:=by rw [h];simp
  have f:=S.nd;rw [h,List.flatMap_append,Xqa] at f;have v:(p.flatMap (·.1)).length≤(out.flatMap (·.1)).length:=by rw [h];simp
  have u:z.1.length≤(out.flatMap (·.1)).length:=by rw [h];simp;omega
  obtain ⟨l,a⟩:=zAt g;have d:∀ nt,223≤nt→_:=fun nt (b:223≤nt)=>aaH L cc s out b S g (uO p 0) (p.flatMap (·.1)).length (by omega) (by rw [i];omega) (iG out p.length).1 [] rfl (fun c m hm=>by
   rw [Jv] at hm;rw [i] at m;exact (List.nodup_append.1 f).2.2 c hm c (by simp [m]) rfl)
  rw [i] at d a;have j:=aN.blk (id:=2) (e':= .normal) d (by simp) rfl (aH.refl _) (aH.refl _);simp only [id,List.map_nil,μ,List.length_nil,Nat.add_zero] at j;refine .next ?_ n
  by_cases hb:1<z.1.length
  ·exact aej b L cc s out _ _ _ p.length z l _ _ _ g (by omega) a hb (abU S e hb) j
  ·have o:=List.length_pos_iff.2 (S.ne z e);exact aes b L cc s out _ _ _ p.length z l _ _ _ g (by omega) a (by omega) j
abbrev LO8 (a b:St):Prop:=∀ nt,223≤nt→aN prog ap [] nt (ah 8 (af f7)) (fun _:St=> .exit 8) (id:St→St) id a b
abbrev LO6 (a b:St):Prop:=∀ nt,223≤nt→aN prog ap [] nt (ah 6 (af f7)) (fun _:St=> .exit 6) (id:St→St) id a b
abbrev ahN (a b:St):Prop:=∀ nt,223≤nt→aN prog ap [] nt (ah 10 (af f7)) (fun _:St=> .exit 10) (id:St→St) id a b
abbrev LO4 (a b:St):Prop:=∀ nt,223≤nt→aN prog ap [] nt (ah 4 (af f7)) (fun _:St=> .exit 4) (id:St→St) id a b
theorem aat (S:xR (ak s L.ps.length) (fC L s) out) {k:Nat} (o:k<out.length) (y j:Nat) (c:Cl) (v:c ∈ (iG out k).1) (b:(fC L s c).length<2^40):∀ (r p:List Cl) (n:Nat),fC L s c=p++r→n≤k→∃ g,n≤g∧g≤k∧(∀ d ∈ r,G6 out d=k∨G6 out d<g)∧LO8 (orD L cc s out (kO (uO out 0)) (vO (uO out 0)) y k (iG out k) n j (fC L s c) p.length) (orC L cc s out (kO (uO out 0)) (vO (uO out 0)) y k (iG out k) g j)
 | [],p,n,h,hnk=>by
  rw [μ] at h;refine ⟨n,ζ _,hnk,(by simp),fun nt i=> .done ?_⟩;have:=ahJ i L cc s out (kO (uO out 0)) (vO (uO out 0)) y k (iG out k) n j (fC L s c);rw [h] at this ⊢;exact this
 | d::r,p,n,h,hnk=>by
  have E:d ∈ fC L s c:=by rw [h];simp
  obtain ⟨H,G,D⟩:=ab3 S o v E;have a:=bI (f:=cC) (n:=2) (fun _=>rfl) h;change κ _ (cL (fC L s c))=cC d++cL r at a;have A:p.length<(fC L s c).length:=jm h;have t:=TB out d;have l:Xqd (kO (uO out 0)) (iU 25)=true:=dM _;have q:(p++ [d]).length=p.length+1:=by simp
  by_cases e:G6 out d=k
  ·obtain ⟨g,B,z,u,m⟩:=aat S o y j c v b r (p++ [d]) n (by rw [h];simp) hnk;rw [q] at m;obtain ⟨C,F⟩:=zAt o;rw [e] at t;refine ⟨g,B,z,fun x a=> ?_,fun nt i=> .next ?_ (m nt i)⟩
   ·rcases List.mem_cons.1 a with rfl|a
    ·exact .inl e
    ·exact u x a
   ·exact acY i L cc s out _ _ y k (iG out k) n j _ p.length d (cL r) C A b o F (D e) l t a
  ·have w:G6 out d<k:=by omega
   obtain ⟨g,B,z,u,m⟩:=aat S o y j c v b r (p++ [d]) (max n (G6 out d+1)) (by rw [h];simp) (by omega);rw [q] at m;refine ⟨g,by omega,z,fun x a=> ?_,fun nt i=> .next ?_ (m nt i)⟩
   ·rcases List.mem_cons.1 a with rfl|a
    ·exact .inr (by omega)
    ·exact u x a
   ·refine adT i L cc s out _ _ y k (iG out k) n j _ p.length (G6 out d) (max n (G6 out d+1)) d (cL r) A b w l t a ?_;congr 1;split<;>omega
theorem aaT (j:vZ L) (S:xR (ak s L.ps.length) (fC L s) out) {k:Nat} (m:k<out.length) (y:Nat) (e:(iG out k).1.length<2^40):∀ (r p:List Cl) (n:Nat),(iG out k).1=p++r→n≤k→∃ a,n≤a∧a≤k∧(∀ c ∈ r,∀ d ∈ fC L s c,G6 out d=k∨G6 out d<a)∧LO6 (orC L cc s out (kO (uO out 0)) (vO (uO out 0)) y k (iG out k) n p.length) (ab8 L cc s out (kO (uO out 0)) (vO (uO out 0)) y k a)
 | [],p,n,h,hnk=>by
  rw [μ] at h;refine ⟨n,ζ _,hnk,(by simp),fun nt g=> .done ?_⟩;rw [← h];exact ahH g L cc s out _ _ y k (iG out k) n
 | c::r,p,n,h,hnk=>by
  have w:c ∈ (iG out k).1:=by rw [h];simp
  have q:=OV L true true cc s c j;have A:=lu j s c;have i:(p++ [c]).length=p.length+1:=by simp
  have b:=bI (f:=cC) (n:=2) (fun _=>rfl) h;change κ _ (cL (iG out k).1)=cC c++cL r at b;obtain ⟨o,E,B,v,u⟩:=aat L cc s out S m y p.length c w (by omega) (fC L s c) [] n rfl hnk;obtain ⟨a,F,D,t,l⟩:=aaT j S m y e r (p++ [c]) o (by rw [h];simp) B;rw [i] at l;have C:=aN.blk (id:=8) (e':= .normal) u (by simp) rfl (aH.refl _) (aH.refl _);refine ⟨a,by omega,D,fun x b=> ?_,fun nt g=> .next ?_ (l nt g)⟩
  ·rcases List.mem_cons.1 b with rfl|b
   ·exact fun d z=>(v d z).imp id fun h=>by omega
   ·exact t x b
  ·exact ahI g L cc s out _ _ y k (iG out k) n o p.length _ c (cL r) (jm h) e b q C
theorem aav (S:xR (ak s L.ps.length) (fC L s) out) {k:Nat} (g:k<out.length) (j:out.length<2^40) (y N:Nat) (h:∀ c ∈ (iG out k).1,∀ d ∈ fC L s c,G6 out d=k∨G6 out d<N):∀ (f n:Nat),n+f=k→N≤n→ahN (orE L cc s out (kO (uO out 0)) (vO (uO out 0)) y k n) (orP L cc s out (kO (uO out 0)) (vO (uO out 0)) y k)
 |0,n,e,hN=>by
  have e:n=k:=by omega
  subst e;exact fun nt m=> .done (acN m L cc s out _ _ y n)
 | f+1,n,e,hN=>by
  have v:=aav S g j y N h f (n+1) (by omega) (by omega);have i:n<k:=by omega
  obtain ⟨r,x⟩:=zAt g;obtain ⟨w,q⟩:=zAt (show n<out.length by omega);refine fun nt m=> .next ?_ (v nt m)
  cases o:(iG out n).1 with
  |nil=>exact absurd o (S.ne _ (Hz (by omega)))
  | cons a ra=>
   cases l:(iG out k).1 with
   |nil=>exact absurd l (S.ne _ (Hz g))
   |cons b rb=>
    have p:=abX S i g (fun c t d u=>(h c t d u).imp id fun h=>by omega) o l;exact acX m L cc s out _ _ y k n (iG out k) (iG out n) a b r w (cL ra) (cL rb) g i j x q (by rw [o];rfl) (by rw [l];rfl) (by rw [o];simp) (by rw [l];simp) (ab_ p)
theorem aaL (h:vZ L) (S:xR (ak s L.ps.length) (fC L s) out) (a:out.length<2^40) (c:∀ z ∈ out,z.1.length<2^40) (y:Nat):∀ (f k:Nat),k+f=out.length→LO4 (orP L cc s out (kO (uO out 0)) (vO (uO out 0)) y k) (ab2 L cc s out y)
 |0,k,e=>by
  have e:k=out.length:=by omega
  subst e;exact fun nt d=> .done (ahF d L cc s out _ _ y)
 |f+1,k,e=>by
  have b:k<out.length:=by omega
  have m:=aaL h S a c y f (k+1) (by omega);obtain ⟨i,q⟩:=zAt b;obtain ⟨n,r,o,l,j⟩:=aaT L cc s out h S b y (c _ (Hz b)) (iG out k).1 [] 0 rfl (Nat.zero_le _);have p:=aN.blk (id:=6) (e':= .normal) j (by simp) rfl (aH.refl _) (aH.refl _);have g:=aN.blk (id:=10) (e':= .normal) (aav L cc s out S b a y n l (k - n) n (by omega) (ζ _)) (by simp) rfl (aH.refl _) (aH.refl _);exact fun nt d=> .next (ahG d L cc s out _ _ y k n (iG out k) i b a q o p g) (m nt d)
end
theorem aau {s:Int} {n q:Nat} (h:∀ k,k<n→aC s n ((q:Int),((k:Nat):Int))=true):(qg s n q).length=n:=by
 unfold qg;have key:∀ l:List Nat,(∀ k ∈ l,k<n)→(l.flatMap fun k=>if aC s n ((q:Int),((k:Nat):Int)) then [(((q:Int),((k:Nat):Int)):Cl)] else []).length=l.length:=by
  intro l
  induction l with
  |nil=>intro _;rfl
  |cons x l ih=>
   intro b;rw [Xqa,η,ih fun k a=>b k (Θ _ a),if_pos (h x (b x (by simp)))];simp;omega
 rw [key _ fun k a=>List.mem_range.1 a,List.length_range]
theorem abS {s:Int} {n q:Nat} (h:∀ k,k<n→aC s n ((q:Int),((k:Nat):Int))=false):(qg s n q).length=0:=by
 unfold qg;rw [List.length_eq_zero_iff,List.flatMap_eq_nil_iff];intro k a;rw [h k (List.mem_range.1 a)];rfl
theorem abk (n:Nat):(ak 2 n).length=n+n∧(ak 1 n).length=n:=by
 have v:∀ (s:Int) (q k:Nat),aC s n (((q:Nat):Int),((k:Nat):Int))=(((s==1)||(s==2)) && (decide (0≤((q:Nat):Int)) && (decide (((q:Nat):Int)<s) && (decide (0≤((k:Nat):Int)) && decide (((k:Nat):Int)<(n:Int)))))):=fun s q k=>rfl
 unfold ak;rw [η,η];refine ⟨?_, ?_⟩
 ·rw [aau fun k a=>by rw [v];simp;omega,aau fun k a=>by rw [v];simp;omega]
 ·rw [aau fun k a=>by rw [v];simp;omega,abS fun k a=>by rw [v];simp];rfl
theorem abT {L:Lw} {s:Int} {out:List aT} (S:xR (ak s L.ps.length) (fC L s) out):(out.flatMap (·.1)).length=(ak s L.ps.length).length:=by
 have hp:=(List.perm_ext_iff_of_nodup S.nd (Gf s L.ps.length)).2 fun x=>by
  rw [S.all x,List.mem_flatMap]
 exact hp.length_eq
theorem abR (d:CO 13 [] (.ret (.bool true))) (l:List (List Int)) (f two:Bool):CO 7 [.sl (kW l) l.length f,.bool two] (.ret (.bool true)):=by
 obtain ⟨L,c,u,o,hmade⟩:=WB l f;have k:L.ps.length≤8:=by omega
 have j:=WC k o;have run:∀ s:Int,∃ out,(out.flatMap (·.1)).length=(ak s L.ps.length).length∧CO 19 [.agg (L.c true true c),.int .i64 s] (.ret (.sl (sL out) out.length false))∧LB 223 0 f7 (orA L c s out [] [] 0 0) .normal (abY L c s out (kO (uO out 0)) (vO (uO out 0)) (out.flatMap (·.1)).length)∧LB 223 4 f7 (orP L c s out (kO (uO out 0)) (vO (uO out 0)) (out.flatMap (·.1)).length 0) .normal (ab2 L c s out (out.flatMap (·.1)).length):=fun s=>by
  obtain ⟨out,S,b⟩:=U1 L true true c s j (by omega);obtain ⟨t,p⟩:=Ql S;have a:=abT S;have n:=fE s L.ps.length;refine ⟨out,a,U0 b, ?_, ?_⟩
  ·exact aN.blk (id:=0) (e':= .normal) (fun nt (hn:223≤nt)=>aaF L c s out hn S (by omega) (by omega) out [] rfl) (by simp) rfl (aH.refl _) (aH.refl _)
  ·exact aN.blk (id:=4) (e':= .normal) (aaL L c s out j S (by omega) (fun z q=>by have:=p z q;omega) _ out.length 0 (by omega)) (by simp) rfl (aH.refl _) (aH.refl _)
 obtain ⟨m,r⟩:=abk L.ps.length;cases two with
 | true=>
  obtain ⟨out,a,b,i,g⟩:=run 2;have h:=ahS l f true L c out _ _ _ rfl d hmade b i g;rw [a,m] at h;have e:(((L.ps.length+L.ps.length:Nat):Int)==(ν .i64 (((2:Nat):Int)*(L.ps.length:Int))))=true:=by
   rw [beq_iff_eq,Xz (by omega)];omega
  rw [e] at h;exact h
 | false=>
  obtain ⟨out,a,b,i,g⟩:=run 1;have h:=ahR l f false L c out _ _ _ rfl d hmade b i g;rw [a,r] at h;have e:((L.ps.length:Int)==(ν .i64 (((1:Nat):Int)*(L.ps.length:Int))))=true:=by
   rw [beq_iff_eq,Xz (by omega)];omega
  rw [e] at h;exact h
end Go.Proofs.Tryz
set_option maxRecDepth 100000
open Go AM Go.ChangeShapes Go.WideShapes Go.ChangeAt Go.RowKit
namespace Go.Proofs.YtokiomlellclkaaGreatDoor.orders
open Go.Proofs.Tryz
theorem abW (os:Os):laidMet Tryz.prog Rows.graphOrderRow.laid ((ab1 os).forCall (fun _ _=>0) ⟨#[],#[.slice none 0 0,.bool false],[]⟩).memory:=
 laidMet_of_run' 8 (by kernel_rfl) (by kernel_rfl)
theorem ahM (os:Os) {H:Type} (enc:TypeId × Value→H):∃ places,DataW.whole enc Tryz.prog ((ab1 os).forCall (fun _ _=>0) ⟨#[],#[.slice none 0 0,.bool false],[]⟩).memory Tryz.f7.params.toList Rows.graphOrderSpec.vars false [.slice none 0 0,.bool false] 8=some ([.nil,.lit (.bool false)],[],places):=
 ⟨[],by kernel_rfl⟩
theorem aam {a b:Bool} (h:a=true) (c:b=true):(a && b)=true:=by rw [h,c];rfl
theorem lk:true=Tryz.prog.looks []:=by kernel_rfl
theorem k0:Rows.graphOrderRow.wf (OpenSpec.ofChange (OpenSpec.ofChange Rows.graphOrderSpec).bare)=true:=by kernel_rfl
theorem k1:laidOutB Tryz.prog=true:=by kernel_rfl
theorem k2:mapsRowed Tryz.prog=true:=by kernel_rfl
theorem k3:Tryz.f7.params.all (Tryz.prog.readableRec ·)=true:=by kernel_rfl
theorem k4:namedTie Tryz.prog Rows.graphOrderRow.named (OpenSpec.ofChange Rows.graphOrderSpec).bare.vars=true:=by kernel_rfl
theorem k5:(Rows.graphOrderRow.stops== [])=true:=by kernel_rfl
theorem k6:(Tryz.prog.stops== [])=true:=by kernel_rfl
theorem k7:(Rows.graphOrderRow.knobs== [])=true:=by kernel_rfl
theorem k8:(Tryz.prog.stopKnobs== [])=true:=by kernel_rfl
theorem k9:(Rows.graphOrderRow.inPlace==Tryz.prog.inPlace 7)=true:=by kernel_rfl
theorem k10:(Rows.graphOrderRow.unfollowed==Tryz.prog.unfollowed 7)=true:=by kernel_rfl
theorem k11:(Rows.graphOrderRow.recurses==Tryz.prog.recurses 7)=true:=by kernel_rfl
theorem k12:(Rows.graphOrderRow.named==Tryz.prog.varsNamed 7)=true:=by kernel_rfl
theorem k13:(Rows.graphOrderRow.maps==(Tryz.f7.params.toList++(OpenSpec.ofChange Rows.graphOrderSpec).bare.plain.varTypes Tryz.prog).any (Tryz.prog.mapsRec ·))=true:=by kernel_rfl
theorem k14:(Rows.graphOrderRow.ifaces==(Tryz.f7.params.toList++(OpenSpec.ofChange Rows.graphOrderSpec).bare.plain.varTypes Tryz.prog).any (Tryz.prog.ifacesRec ·))=true:=by kernel_rfl
theorem k15:(Rows.graphOrderRow.mapsOut==Tryz.prog.mapsAmong Tryz.f7.resultTypes.toList)=true:=by kernel_rfl
theorem k16:(Rows.graphOrderRow.loops==(Tryz.f7.params.toList++(OpenSpec.ofChange Rows.graphOrderSpec).bare.plain.varTypes Tryz.prog).any (Tryz.prog.loopsFrom ·))=true:=by kernel_rfl
theorem k17:(Rows.graphOrderRow.wideKeys==(Tryz.f7.params.toList++(OpenSpec.ofChange Rows.graphOrderSpec).bare.plain.varTypes Tryz.prog++Tryz.f7.resultTypes.toList).any (Tryz.prog.wideKeysFrom ·))=true:=by kernel_rfl
theorem k18:(OpenSpec.ofChange Rows.graphOrderSpec).bare.vars.all (Tryz.prog.varReadable ·)=true:=by kernel_rfl
theorem k19:Tryz.f7.resultTypes.all (fun t=>Tryz.prog.readableRec t && decide (t<Tryz.prog.types.size))=true:=by kernel_rfl
theorem k20:(Rows.graphOrderRow.ifacesOut==Tryz.f7.resultTypes.toList.any (Tryz.prog.ifacesRec ·))=true:=by kernel_rfl
theorem k21:(Rows.graphOrderRow.loopsOut==Tryz.f7.resultTypes.toList.any (Tryz.prog.loopsFrom ·))=true:=by kernel_rfl
theorem k22:(Rows.graphOrderRow.plainKeys==Tryz.prog.plainKeys)=true:=by kernel_rfl
theorem k23:Rows.graphOrderRow.shortTexts.isNone=true:=by kernel_rfl
theorem k24:Tryz.prog.stopsHeard=true:=by kernel_rfl
theorem k25:Tryz.prog.mayEnter=true:=by kernel_rfl
theorem k26:(Rows.graphOrderRow.lifted==Tryz.prog.liftsFinal)=true:=by kernel_rfl
theorem k27:(Tryz.prog.make==some Rows.graphOrderRow.make)=true:=by kernel_rfl
theorem k28:(Rows.graphOrderRow.kinds==(if Rows.graphOrderRow.domain.isEmpty then [] else Tryz.f7.params.toList.map fun t=>match Tryz.prog.underlying t with|some (.int k)=>some k|_=>none))=true:=by kernel_rfl
theorem k29:(Rows.graphOrderRow.pinned==Rows.graphOrderRow.pinnedBy)=true:=by kernel_rfl
theorem k30:(Rows.graphOrderRow.veiled==(Tryz.f7.params.toList++(OpenSpec.ofChange Rows.graphOrderSpec).bare.plain.varTypes Tryz.prog++Tryz.f7.resultTypes.toList).any (Tryz.prog.veiledRec ·))=true:=by kernel_rfl
theorem k31:Rows.graphOrderRow.veiledFits Tryz.prog Tryz.f7.params.toList (Tryz.f7.params.toList++(OpenSpec.ofChange Rows.graphOrderSpec).bare.plain.varTypes Tryz.prog++Tryz.f7.resultTypes.toList)=true:=by kernel_rfl
theorem aea:joinedFacts Tryz.prog 7 Tryz.f7 (OpenSpec.ofChange Rows.graphOrderSpec).bare Rows.graphOrderRow=true:=(aam (aam (aam (aam (aam (aam (aam (aam (aam (aam (aam (aam (aam (aam (aam (aam (aam (aam (aam (aam (aam (aam (aam (aam (aam (aam (aam (aam (aam (aam (aam k0 k1) k2) k3) k4) k5) k6) k7) k8) k9) k10) k11) k12) k13) k14) k15) k16) k17) k18) k19) k20) k21) k22) k23) k24) k25) k26) k27) k28) k29) k30) k31)
theorem abV (H:Type) (enc:TypeId × Value→H) (W:World) (base:Nat) (args:Array Value) (i p:List (DataW H)) (before:List MemPlace)
  (hval:∀ (j:Nat) t v,Tryz.f7.params[j]? =some t→args[j]? =some v→Value.okWide Tryz.prog W .any base t v)
  (hW:DataW.Whole enc Tryz.prog Tryz.f7.params.toList Rows.graphOrderSpec.vars false W args.toList i p before) (hL:laidMetH Tryz.prog Rows.graphOrderRow.laid W):
  Calls Tryz.prog 7 args W fun e W'=> ∃ v,e= .returned v∧Rows.graphOrderSpec.post enc Tryz.prog Tryz.f7 false true false false W args v W':=by
 have c:=hW;obtain ⟨pp,y,a,w,rfl,o,n⟩:=hW;have h:DataW.TrodAll enc Tryz.prog W 0 (fun _=>true) true Tryz.f7.params.toList args.toList i pp:=a;obtain ⟨D⟩:=args;simp only at h c hval ⊢;rw [Tryz.params7] at h hval;obtain ⟨v0,x,B,m,G,F,rfl,rfl,rfl,h0,a⟩:=trodAll_cons h;obtain ⟨k,q,C,u,z,A,rfl,rfl,rfl,E,d⟩:=trodAll_cons a;obtain ⟨rfl,rfl,rfl⟩:=trodAll_nil d;obtain ⟨rfl,rfl⟩:=trodVars_none w;obtain ⟨l,f⟩:=ahP (hval 0 22 v0 rfl rfl) h0;obtain ⟨b,g⟩:=ab5 (hval 1 4 k rfl rfl);have r:a_ (iF W) [.sl (kW l) l.length false,.bool b] [v0,k]:=by
  simp only [a_,and_true];exact ⟨f,g⟩
 refine (aad (abR ab7 l false b) (acZ hL) r).mono fun e W' ⟨he,hb⟩=> ?_
 subst he;exact ⟨_,rfl,ad7 ahK (by kernel_rfl) c rfl (tb:=4) rfl (by kernel_rfl) rfl hb⟩
theorem lifted (os:Os) (started:os.Started) (H:Type) (enc:TypeId × Value→H) (F:Stop.Interp):
  ReturnsInHanded {} Tryz.checked os 7 .any ((OpenSpec.ofChange Rows.graphOrderSpec).preRow enc Tryz.prog Tryz.f7 Rows.graphOrderRow.domain false Rows.graphOrderRow.laid) (((OpenSpec.ofChange Rows.graphOrderSpec).at F).post enc Tryz.prog Tryz.f7 false true false false):=by
 obtain ⟨places,f⟩:=ahM os enc;refine returnsInHanded_of_row (C:=Tryz.checked) (s:=OpenSpec.ofChange Rows.graphOrderSpec) own started (by kernel_rfl) Tryz.func7
  (witness_row_at (enc:=enc) (C:=Tryz.checked) false (ab1 os) #[.slice none 0 0,.bool false] rfl (by kernel_rfl) (by kernel_rfl) (by kernel_rfl)
   (OpenSpec.preRow_of_cond 8 f (by kernel_rfl) (fun k d=>by cases d) (by kernel_rfl) (abW os))) ?_
 intro W base args e b before a c _ _ _ g _ _;exact abV H enc W base args e b before a c g
theorem acb:Tryz.prog.funcNamed Rows.graphOrderRow.func=some 7:=by kernel_rfl
theorem ahT:Rows.GraphOrderSaid:=
 OpenClaim.holds_of_cond 7 Tryz.f7 rfl rfl rfl rfl rfl rfl rfl ⟨rfl,rfl,rfl,rfl,rfl⟩ rfl rfl rfl rfl rfl acb Tryz.func7 aea
  (of_decide_eq_true (by kernel_rfl)) (by unfold Func.isWrapper;first|(rw [if_pos (by decide+kernel)];kernel_rfl)|(rw [if_neg (by decide+kernel)];exact ⟨rfl,rfl⟩))
  (fun os started H enc _ F=>by rw [OpenClaim.pre_eq_preRow];exact lifted os started H enc F)
theorem plain (f:FuncId) (b:Func) (d:Tryz.pinned.checked.prog.funcNamed Rows.graphOrderRow.func=some f) (c:Tryz.pinned.checked.prog.funcs[f]? =some b):
  true=Tryz.pinned.checked.prog.looks []∧∀ (j:Nat) t,b.params[j]? =some t→Tryz.pinned.checked.prog.wantsStandIn t=false:=by
 obtain rfl:f=7:=Option.some.inj (acb.symm.trans d)|>.symm
 obtain rfl:b=Tryz.f7:=(Option.some.inj (Tryz.func7.symm.trans c)).symm;refine ⟨lk,fun j t e=> ?_⟩;have a:Tryz.f7.params.toList.all (fun t=> !Tryz.prog.wantsStandIn t)=true:=by kernel_rfl
 have:=List.all_eq_true.1 a t (by simpa using Array.mem_of_getElem? e);show Tryz.prog.wantsStandIn t=false;simpa using this
theorem wft:Rows.graphOrderRow.wfByText (OpenSpec.ofChange Rows.graphOrderSpec)=true:=by kernel_rfl
theorem mn:Tryz.prog.mainIs=some (Rows.graphOrderCard.stood.harness.1,Rows.graphOrderCard.stood.harness.2.toList):=by kernel_rfl
theorem gby:false=Rows.graphOrderRow.goesBy Tryz.prog:=by kernel_rfl
theorem card:Rows.GraphOrderCardSaid:=
 Claim7.holds_tied_plain_at .later [] _ _ _ _ ahT (fun _ h=>by cases h) wft (fun _ h=>by cases h) graphOrder_row_tie rfl ⟨rfl,rfl⟩ mn rfl plain gby
end Go.Proofs.YtokiomlellclkaaGreatDoor.orders
