/- Contracts of functions that the law reaches, each by its own hypotheses; joined by a program of mine. -/
import Derived.Test.YtokiomlellclkaaGreatDoorC1
import Derived.Test.YtokiomlellclkaaGreatDoorM5
set_option linter.unusedSimpArgs false
set_option linter.unusedVariables false
set_option maxRecDepth 100000
set_option linter.unusedVariables false
open Go AM
open List renaming take→μ,take_of_length_le→τ,flatMap_append→Xql,drop→ε,length→κ,length_append→ξ,headD→Xqm,countP_append→Xxq,length_cons→Γ,append_nil→ο,append_assoc→Δ,getD_eq_getElem?_getD→Xqj,getElem?_eq_getElem→ν,getElem?_append_left→Xqc,nil_append→θ,dropWhile_cons→Xjg,foldl_cons→Xqw,range→Xqd,getElem?_eq_none→Xxo,map_congr_left→Xj1,dropWhile_sublist→Xwe,getD→Xwj,length_singleton→Xjs,take_length→Xvn,length_nil→Xqh,take_append_drop→Xxn,getD_cons_zero→Xwx,countP_le_length→Xjt,countP_singleton→Xzd,tail→Xqx,flatMap_cons→Xqa,drop_append→Xjj,drop_of_length_le→Xj8,take_append→Xj0,take_zero→Xzb,mem_cons_of_mem→Xqk
open Go.IntKind renaming wrap→η
open Int renaming toNat→γ,fdiv→Xxc
open Nat renaming ble→Ψ,ble_eq_true_of_le→Xqb,le_refl→ζ,add_comm→Xq5,add_assoc→Xxm,zero_mul→Xj3,zero_le→Xqr,le_trans→Xqg,eq_zero_or_pos→Xq1,pow_succ→Xkr,mul_comm→Xvf,mul_assoc→Xw1,add_mul→Xx5,zero_add→Θ,mul_le_mul_right→Xx8,lt_of_lt_of_le→Xqf,pow_le_pow_right→Xqy,div_eq_of_lt→Xwa,div_lt_iff_lt_mul→Xwh,two_pow_pos→Xjr,pow_add→Xz5,mod_eq_of_lt→Xjl,add_mul_div_right→Xwi,pow_mul→Xzn,div_add_mod→Xvx,mod_lt→Xw7,gcd→Xx6,lt_of_le_of_lt→Xx3,add_zero→Xqo,lt_or_ge→Xvg,lt_trichotomy→Xxx,one_mul→Xvy,lt_irrefl→Xjh,div_le_self→Xwk,gcd_comm→Xkt,gcd_zero_left→Xw9,gcd_le_right→Xwb,gcd_pos_of_pos_right→Xzz,div_pos→Xk1,div_self→Xku,mul_pos→Xvz,beq→υ,le_of_ble_eq_true→Xqv
open UInt8 renaming ofNat→π,toNat_ofNat'→Xw2,toNat→Xzo
open Bool renaming eq_iff_iff→Xq2,and_true→Xj4,false_eq_true→Xqe,not_false→Xwu
namespace Go.Proofs.Tryz
abbrev zcc2_0 : List UInt8 := [116,104,114,101,115,104,111,108,100]
abbrev zcc2_1 : List UInt8 := [114,101,108,105,101,102]
abbrev zcc2_2 : List UInt8 := [99,114,101,100,105,116]
abbrev zcc2_3 : List UInt8 := [116,111,116,97,108]
abbrev zcc2_4 : List UInt8 := [98,97,115,105,99]
abbrev zcc2_5 : List AV := [.bool false,.str [],.str [1],.bool false,.str [1],.str [5],.bool false,.str [5],.str [1],.bool false,.str [2],.str [5]]
abbrev zcc2_6 : List AV := [.bool false,.str [],.str [1],.bool false,.str [1],.str [5],.bool false,.str [5],.str [1],.bool true,.str [1],.str [5]]
def jT (l:List (List Int)):List AV:=l.map fun x=> .sl (iL x) x.length false
def iG (x:Pv):List AV:= [.str x.nm,.bool x.tr,ω x.tm,ω x.td,.sl (bT x.body) x.body.length true,.bool x.ch,.bool x.sn,.str x.sa,.str x.sd,.bool x.cn,.str x.ca,.str x.cd]
def dD (l:List Pv):List AV:=l.flatMap iG
theorem Zf {a:List Nd} {b:Nat} (h:a.length=b) (x:List Nd):μ (b*5) (bT a)++bT x=bT (a++x):=by
 have e:(bT a).length=b*5:=by rw [← h];exact dY nd5 a
 rw [τ (by omega)];unfold bT;rw [Xql]
theorem QY {a:List Nd} {b:Nat} (h:a.length=b):(bT a).length=b*5:=by rw [← h];exact dY nd5 a
theorem w1p {k:Nat} (h:k<2^62):ω (η .i64 (((1:Nat):Int)+(k:Int)))= ω ((k+1:Nat):Int):=by
 have e:η .i64 (((1:Nat):Int)+(k:Int))=((k+1:Nat):Int):=by rw [dP]<;>omega
 rw [e]
def fo (r:Nat):Int:=match r with|0=>9|1=>13|_=>14
theorem P7 {r:Nat} (h:r<3):∃ rest,ε ((0+(γ (r:Int)))*1) [ω 9,ω 13,ω 14]= [ω (fo r)]++rest:=by
 rw [aS]
 match r,h with
 |0,_=>exact ⟨_,rfl⟩
 |1,_=>exact ⟨_,rfl⟩
 |2,_=>exact ⟨_,rfl⟩
def mxn (l:List (List Int)) (nl:Bool) (mn k tm:Nat) (SX:List AV) (nm0:List UInt8) (s1:Bool) (s2 s3:List UInt8) (c1:Bool) (c2 c3:List UInt8) (xs:List Int) (nx:Bool) (p:Nat × Nat × List Nd):St:=⟨[(0,.sl (jT l) l.length nl),(2,.ptr 0 0 0),(3,.ptr 1 0 0),(4,.ptr 2 0 0),(6,ω (mn:Int)),(7,ω (k:Int)),(8,.ptr 3 0 0),(9,.ptr 4 0 0)],[(0,⟨[.nilS,.nilS,.nilS],0,false,0,0,true⟩),(1,⟨[.bool false,ω 1,ω 0],0,false,0,0,true⟩),(2,⟨[.ref 5 0 0 1,.ref 6 0 0 1,.nilS],0,false,0,0,false⟩),(3,⟨[.sl (iL xs) xs.length nx,ω (p.1:Int)],0,false,0,0,true⟩),(4,⟨[.str nm0,.bool false,ω 1,ω 0,.ref 7 0 0 p.2.1,.bool false,.bool s1,.str s2,.str s3,.bool c1,.str c2,.str c3],0,false,0,0,false⟩),(5,⟨[.str [120],.bool false,ω 1,ω 0],0,false,0,4,true⟩),(6,⟨SX,0,false,0,4,true⟩),(7,⟨(bT p.2.2),0,false,0,5,true⟩)],.dead,[]⟩
def mxc (l:List (List Int)) (nl:Bool) (mn k tm:Nat) (SX:List AV) (kp:Nat) (ps:List Pv) (nm0:List UInt8) (s1:Bool) (s2 s3:List UInt8) (c1:Bool) (c2 c3:List UInt8) (xs:List Int) (nx:Bool) (p:Nat × Nat × List Nd):St:=⟨[(0,.sl (jT l) l.length nl),(2,.ptr 0 0 0),(3,.ptr 1 0 0),(4,.ptr 2 0 0),(6,ω (mn:Int)),(7,ω (k:Int)),(8,.ptr 3 0 0),(9,.ptr 4 0 0)],[(0,⟨[.nilS,.nilS,.nilS],0,false,0,0,true⟩),(1,⟨[.bool false,ω 1,ω 0],0,false,0,0,true⟩),(2,⟨[.ref 5 0 0 1,.ref 6 0 0 1,.ref 7 0 0 kp],0,false,0,0,false⟩),(3,⟨[.sl (iL xs) xs.length nx,ω (p.1:Int)],0,false,0,0,true⟩),(4,⟨[.str nm0,.bool false,ω 1,ω 0,.ref 8 0 0 p.2.1,.bool false,.bool s1,.str s2,.str s3,.bool c1,.str c2,.str c3],0,false,0,0,false⟩),(5,⟨[.str [120],.bool false,ω 1,ω 0],0,false,0,4,true⟩),(6,⟨SX,0,false,0,4,true⟩),(7,⟨(dD ps),0,false,0,12,true⟩),(8,⟨(bT p.2.2),0,false,0,5,true⟩)],.dead,[]⟩
structure Mp where
 l:List (List Int)
 nl:Bool
 mn:Nat
 k:Nat
 tm:Nat
 SX:List AV
 nm0:List UInt8
 s1:Bool
 s2:List UInt8
 s3:List UInt8
 c1:Bool
 c2:List UInt8
 c3:List UInt8
 xs:List Int
 nx:Bool
abbrev Mo:=Option (Nat × List Pv)
def mx (o:Mo) (p:Mp) (x:Nat × Nat × List Nd):St:=match o with
 |none=>mxn p.l p.nl p.mn p.k p.tm p.SX p.nm0 p.s1 p.s2 p.s3 p.c1 p.c2 p.c3 p.xs p.nx x
 |some q=>mxc p.l p.nl p.mn p.k p.tm p.SX q.1 q.2 p.nm0 p.s1 p.s2 p.s3 p.c1 p.c2 p.c3 p.xs p.nx x
def mi (o:Mo) (p:Mp) (x:Nat × Nat × List Nd × Nat):St:=⟨(mx o p (x.1,x.2.1,x.2.2.1)).env++ [(11,ω (p.tm:Int)),(12,ω (x.2.2.2:Int))],(mx o p (x.1,x.2.1,x.2.2.1)).hp,.dead,[]⟩
abbrev NX (p:Mp) (n k r k':Nat):Prop:=af prog ap 63 [.ptr 0 0 0,ω (n:Int)] [dB p.xs p.nx k] (.ret (ω (r:Int))) [dB p.xs p.nx k']
def MH (q:Bool):Int:=cond q 8 6
theorem UK {b q:Bool} (h:b=q):lit q b=true:=by subst h;cases b<;>rfl
theorem tV {b:List Nd} {a:Nat} (h:b.length=a) (x:List Nd):∃ b1,b++x=b1∧μ (a*5) (bT b)++bT x=bT b1∧b1.length=a+x.length∧(Ψ (a*5) (κ (bT b)))=true:=
 ⟨_,rfl,Zf h x,by rw [ξ,h],Xqb (by rw [QY h];exact ζ _)⟩
abbrev TU (nt:Nat) (o:Mo) (p:Mp) (kk nb:Nat) (bd:List Nd) (j kz:Nat) (x:List Nd):Prop:=ak prog ap [] nt (au 2 (ag f24)) (mi o p (kk,nb,bd,j)) .normal (mi o p (kz,nb+x.length,bd++x,j+1))
theorem ag0 {nt:Nat} (f:140≤nt) (o:Mo) (p:Mp) (q:Bool) {m a j:Nat} {g:List Nd} {l r s k1 k2 k3:Nat} {b:List UInt8} (A:g.length=a) (G:a<2^30) (d:j<p.tm) (y:p.tm<2^30) (t:((l:Int)==((0:Nat):Int))=q) (F:((s:Int)==((0:Nat):Int))=true) (k:NX p 3 m l k1) (c:NX p p.mn k1 r k2) (e:CO 62 [ω (r:Int)] (.ret (.str b))) (h:NX p 12 k2 s k3):TU nt o p m a g j k3 (⟨MH q,false,[],[],b⟩::[⟨10,false,[],[],[]⟩]):=by
 have w:j<2^62:=by omega
 have B:(decide ((j:Int)<(p.tm:Int)))=true:=kl d;obtain ⟨K,E,v,u,C⟩:=tV A [⟨MH q,false,[],[],b⟩];obtain ⟨D,H,x,J,z⟩:=tV u [⟨10,false,[],[],[]⟩];have i:g++(⟨MH q,false,[],[],b⟩::[⟨10,false,[],[],[]⟩])=D:=by rw [← H,← E];simp
 unfold TU;rw [i]
 let n:=cond q 7 5
 rcases o with _|⟨I,ps⟩<;>cases q<;>exact pN 24 [] 3 n (.k 2 (Xqb (by omega:a+1+1≤1099511627776)) (.c z (.k 2 (ai F) (.k 2 (Xqb (by omega:a+1≤1099511627776)) (.c C (.k 2 (UK t) (.c (ai B) .nil))))))) (.v 71 (.eq (wpS w)) (.b 94 x (.c h (.b 84 v (.c e (.c c (.c k .nil))))))) f
theorem abT {nt:Nat} (m:140≤nt) (o:Mo) (p:Mp) (q:Bool) {z c j:Nat} {r:List Nd} {y C b a k1 k2 k3 k4:Nat} {f:List UInt8} {hs:Bool} {d e A:List UInt8} (O:r.length=c) (X:c<2^30) (h:j<p.tm) (K:p.tm<2^30) (u:b<2^62) (W:a<3) (D:((y:Int)==((0:Nat):Int))=q) (V:((b:Int)==((0:Nat):Int))=false) (L:(decide ((b:Int)<((4:Nat):Int)))=true) (N:((b:Int)==((4:Nat):Int))=false) (x:NX p 3 z y k1) (g:NX p p.mn k1 C k2) (k:CO 62 [ω (C:Int)] (.ret (.str f))) (t:NX p 12 k2 b k3) (l:CO 25 [ω 1] (.ret (Ω false [1] [1]))) (s:CO 25 [ω (((b+1):Nat):Int)] (.ret (Ω false A [1]))) (i:CO 64 [Ω false [1] [1],Ω false A [1]] (.ret (.tup [Ω hs d e,.bool true]))) (w:NX p 3 k3 a k4):TU nt o p z c r j k4 (⟨MH q,false,[],[],f⟩::[⟨3,hs,d,e,[]⟩,⟨11,false,[],[],[]⟩,⟨fo a,false,[],[],[]⟩]):=by
 have I:j<2^62:=by omega
 have P:(decide ((j:Int)<(p.tm:Int)))=true:=kl h;obtain ⟨Z,B⟩:=P7 W;obtain ⟨b1,U,H,F,S⟩:=tV O [⟨MH q,false,[],[],f⟩];obtain ⟨b2,Y,J,Q,M⟩:=tV F [⟨3,hs,d,e,[]⟩,⟨11,false,[],[],[]⟩];obtain ⟨T,E,G,h3,R⟩:=tV Q [⟨fo a,false,[],[],[]⟩];have v:r++(⟨MH q,false,[],[],f⟩::[⟨3,hs,d,e,[]⟩,⟨11,false,[],[],[]⟩,⟨fo a,false,[],[],[]⟩])=T:=by rw [← E,← Y,← U];simp
 unfold TU;rw [v]
 let n:=cond q 11 9
 rcases o with _|⟨kp,ps⟩<;>cases q<;>exact pN 24 [] 5 n (.k 2 (Xqb (by omega:c+1+2+1≤1099511627776)) (.c R (.k 1 (by rw [B];rfl:(chk (.int .i64) (Xqm (ε ((0+(γ (a:Int)))*1) [ω 9,ω 13,ω 14]) .dead))=true) (.k 1 (kl (by omega):(decide ((a:Int)<((3:Nat):Int)))=true) (.k 1 (aj N) (.k 2 (Xqb (by omega:c+1+2≤1099511627776)) (.c M (.k 6 (ai L) (.c (aj V) (.k 2 (Xqb (by omega:c+1≤1099511627776)) (.c S (.k 2 (UK D) (.c (ai P) .nil))))))))))))) (.v 71 (.eq (wpS I)) (.b 131 G (.v 128 (.rd1 (.int .i64) B rfl) (.c w (.b 112 J (.c i (.c s (.v 101 (.eq (w1p u)) (.c l (.c t (.b 84 H (.c k (.c g (.c x .nil)))))))))))))) m
theorem ag1 {nt:Nat} (h:140≤nt) (o:Mo) (p:Mp) (q:Bool) {t b j:Nat} {i:List Nd} {s v c a k1 k2 k3 k4:Nat} {d:List UInt8} (H:i.length=b) (Q:b<2^30) (f:j<p.tm) (D:p.tm<2^30) (P:a<3) (w:((s:Int)==((0:Nat):Int))=q) (O:((c:Int)==((0:Nat):Int))=false) (E:(decide ((c:Int)<((4:Nat):Int)))=false) (G:((c:Int)==((4:Nat):Int))=true) (r:NX p 3 t s k1) (e:NX p p.mn k1 v k2) (g:CO 62 [ω (v:Int)] (.ret (.str d))) (k:NX p 12 k2 c k3) (m:NX p 3 k3 a k4):TU nt o p t b i j k4 (⟨MH q,false,[],[],d⟩::[⟨24,false,[],[],[115]⟩,⟨fo a,false,[],[],[]⟩]):=by
 have B:j<2^62:=by omega
 have I:(decide ((j:Int)<(p.tm:Int)))=true:=kl f;obtain ⟨S,u⟩:=P7 P;obtain ⟨W,N,A,y,L⟩:=tV H [⟨MH q,false,[],[],d⟩];obtain ⟨V,R,C,J,F⟩:=tV y [⟨24,false,[],[],[115]⟩];obtain ⟨M,x,z,U,K⟩:=tV J [⟨fo a,false,[],[],[]⟩];have l:i++(⟨MH q,false,[],[],d⟩::[⟨24,false,[],[],[115]⟩,⟨fo a,false,[],[],[]⟩])=M:=by rw [← x,← R,← N];simp
 unfold TU;rw [l]
 let n:=cond q 19 17
 rcases o with _|⟨T,ps⟩<;>cases q<;>exact pN 24 [] 5 n (.k 2 (Xqb (by omega:b+1+1+1≤1099511627776)) (.c K (.k 1 (by rw [u];rfl:(chk (.int .i64) (Xqm (ε ((0+(γ (a:Int)))*1) [ω 9,ω 13,ω 14]) .dead))=true) (.k 1 (kl (by omega):(decide ((a:Int)<((3:Nat):Int)))=true) (.k 3 (Xqb (by omega:b+1+1≤1099511627776)) (.c F (.k 2 (ai G) (.c (aj E) (.c (aj O) (.k 2 (Xqb (by omega:b+1≤1099511627776)) (.c L (.k 2 (UK w) (.c (ai I) .nil))))))))))))) (.v 71 (.eq (wpS B)) (.b 131 z (.v 128 (.rd1 (.int .i64) u rfl) (.c m (.b 120 C (.c k (.b 84 A (.c g (.c e (.c r .nil)))))))))) h
theorem abS {nt:Nat} (h:140≤nt) (o:Mo) (p:Mp) (q:Bool) {t b j:Nat} {i:List Nd} {s v c a k1 k2 k3 k4:Nat} {d:List UInt8} (F:i.length=b) (M:b<2^30) (f:j<p.tm) (B:p.tm<2^30) (L:a<3) (w:((s:Int)==((0:Nat):Int))=q) (K:((c:Int)==((0:Nat):Int))=false) (C:(decide ((c:Int)<((4:Nat):Int)))=false) (E:((c:Int)==((4:Nat):Int))=false) (r:NX p 3 t s k1) (e:NX p p.mn k1 v k2) (g:CO 62 [ω (v:Int)] (.ret (.str d))) (k:NX p 12 k2 c k3) (m:NX p 3 k3 a k4):TU nt o p t b i j k4 (⟨MH q,false,[],[],d⟩::[⟨fo a,false,[],[],[]⟩]):=by
 have z:j<2^62:=by omega
 have G:(decide ((j:Int)<(p.tm:Int)))=true:=kl f;obtain ⟨O,u⟩:=P7 L;obtain ⟨R,J,y,x,H⟩:=tV F [⟨MH q,false,[],[],d⟩];obtain ⟨I,N,A,Q,D⟩:=tV x [⟨fo a,false,[],[],[]⟩];have l:i++(⟨MH q,false,[],[],d⟩::[⟨fo a,false,[],[],[]⟩])=I:=by rw [← N,← J];simp
 unfold TU;rw [l]
 let n:=cond q 3 1
 rcases o with _|⟨P,ps⟩<;>cases q<;>exact pN 24 [] 5 n (.k 2 (Xqb (by omega:b+1+1≤1099511627776)) (.c D (.k 1 (by rw [u];rfl:(chk (.int .i64) (Xqm (ε ((0+(γ (a:Int)))*1) [ω 9,ω 13,ω 14]) .dead))=true) (.k 1 (kl (by omega):(decide ((a:Int)<((3:Nat):Int)))=true) (.k 1 (aj E) (.c (aj C) (.c (aj K) (.k 2 (Xqb (by omega:b+1≤1099511627776)) (.c H (.k 2 (UK w) (.c (ai G) .nil))))))))))) (.v 71 (.eq (wpS z)) (.b 131 A (.v 128 (.rd1 (.int .i64) u rfl) (.c m (.c k (.b 84 y (.c g (.c e (.c r .nil))))))))) h
theorem abR {nt:Nat} (a:140≤nt) (o:Mo) (p:Mp) (x:Nat × Nat × List Nd):ak prog ap [] nt (au 2 (ag f24)) (mi o p (x.1,x.2.1,x.2.2,p.tm)) (.exit 2) (mx o p x):=by
 have b:(decide ((p.tm:Int)<(p.tm:Int)))=false:=kn (ζ _);rcases o with _|⟨c,ps⟩<;>exact pN 24 [] 1 0 (.c (aj b) .nil) .nil a
theorem fo6 (r:Nat):(fo r==6)=false:=by unfold fo;split<;>rfl
theorem fo8 (r:Nat):(fo r==8)=false:=by unfold fo;split<;>rfl
def CZ (x:Nd):Bool:=x.op==6||x.op==8
structure lK (mn n:Nat) (e:List Nd):Prop where
 cnt:e.countP CZ≤n
 len:e.length≤5*n
 nms:∀ x ∈ e,CZ x=true→∃ r,r<mn∧x.name= [π (97+r)]
theorem lK.app {mn n k:Nat} {e f:List Nd} (h:lK mn n e) (b:lK mn k f):lK mn (n+k) (e++f):=
 ⟨by rw [Xxq];have:=h.cnt;have:=b.cnt;omega,by rw [ξ];have:=h.len;have:=b.len;omega,fun x a c=>by
  rcases List.mem_append.1 a with a|a
  ·exact h.nms x a c
  ·exact b.nms x a c⟩
theorem JU:CO 25 [ω 1] (.ret (Ω false [1] [1])):=MF 0 (by decide)
theorem UB (r:Nat) (h0:0<r) (a:r<4):∃ (hs:Bool) (hn hd:List UInt8),CO 64 [Ω false [1] [1],.agg [.bool false,.str [π (r+1)],.str [1]]] (.ret (.tup [Ω hs hn hd,.bool true])):=by
 match r,h0,a with
 |1,_,_=>exact ⟨_,_,_,YS⟩
 |2,_,_=>exact ⟨_,_,_,YT⟩
 |3,_,_=>exact ⟨_,_,_,YU⟩
theorem nmQ (q:Bool) (a:Bool) (b c d:List UInt8):CZ ⟨MH q,a,b,c,d⟩=true:=by cases q<;>rfl
theorem Gn {mn r:Nat} (q:Bool) {e:List Nd} (d:r<mn) (f:e.length≤4) (c:e.all (fun x=> !CZ x)=true):lK mn 1 (⟨MH q,false,[],[],[π (97+r)]⟩::e):=by
 have b:∀ x ∈ e,CZ x=false:=fun x a=>by have:=List.all_eq_true.1 c x a;simpa using this
 refine ⟨?_,by simp only [Γ];omega,fun x a h=> ?_⟩
 ·rw [List.countP_cons,List.countP_eq_zero.2 (fun x a=>by rw [b x a];exact Bool.false_ne_true),if_pos (nmQ ..)];exact ζ _
 ·rcases List.mem_cons.1 a with rfl|a
  ·exact ⟨r,d,rfl⟩
  ·rw [b x a] at h;cases h
theorem QR (o:Mo) (p:Mp) (w:0<p.mn) (z:p.mn≤8) (s v j:Nat) (y:List Nd) (I:s<2^50) (t:y.length=v) (i:v<2^30) (c:j<p.tm) (d:p.tm<2^30):
  ∃ (e:List Nd) (k2:Nat),lK p.mn 1 e∧k2≤s+4∧∀ nt,140≤nt→TU nt o p s v y j k2 e:=by
 obtain ⟨C,k1,B,H,k⟩:=aQ p.xs p.nx s 3 (by omega) (by omega) (by omega);obtain ⟨G,k2,g,F,b⟩:=aQ p.xs p.nx k1 p.mn (by omega) w (by omega);have f:=L9 G (by omega);obtain ⟨l,k3,D,J,h⟩:=aQ p.xs p.nx k2 12 (by omega) (by omega) (by omega);obtain ⟨K,k4,x,E,m⟩:=aQ p.xs p.nx k3 3 (by omega) (by omega) (by omega);obtain ⟨q,r⟩:∃ q,((C:Int)==((0:Nat):Int))=q:=⟨_,rfl⟩
 rcases tf ((l:Int)==((0:Nat):Int)) with d2|d2
 ·exact ⟨_,k3,Gn q g (by simp) (by simp [CZ]),by omega,fun nt a=>ag0 a o p q t i c d r d2 k b f h⟩
 ·have h0:0<l:=by simp at d2;omega
  rcases tf (decide ((l:Int)<((4:Nat):Int))) with d3|d3
  ·have u:l<4:=by simp at d3;omega
   have n:((l:Int)==((4:Nat):Int))=false:=by simp;omega
   obtain ⟨hs,L,M,A⟩:=UB l h0 u;exact ⟨_,k4,Gn q g (by simp) (by simp [CZ,fo6,fo8]),by omega,fun nt a=>abT a o p q t i c d (by omega) x r d2 d3 n k b f h JU (MF l (by omega)) A m⟩
  ·rcases tf ((l:Int)==((4:Nat):Int)) with n|n
   ·exact ⟨_,k4,Gn q g (by simp) (by simp [CZ,fo6,fo8]),by omega,fun nt a=>ag1 a o p q t i c d x r d2 d3 n k b f h m⟩
   ·exact ⟨_,k4,Gn q g (by simp) (by simp [CZ,fo6,fo8]),by omega,fun nt a=>abS a o p q t i c d x r d2 d3 n k b f h m⟩
theorem vT (o:Mo) (p:Mp) (c:0<p.mn) (b:p.mn≤8) (f:p.tm<2^20):∀ (rem kk nb j:Nat) (bd:List Nd),j+rem=p.tm→kk+4*rem<2^50→bd.length=nb→nb+5*rem<2^30→
  ∃ (e:List Nd) (k2:Nat),lK p.mn rem e∧k2≤kk+4*rem∧∀ nt,140≤nt→aJ prog ap [] nt (au 2 (ag f24)) (fun _=> .exit 2) (mi o p) (mx o p) (kk,nb,bd,j) (k2,nb+e.length,bd++e)
 |0,kk,nb,j,bd,d,hkk,hb,hnb=>by
  refine ⟨[],kk,⟨by simp,by simp,(fun x n=>by cases n)⟩,(by omega),fun nt a=> ?_⟩;have d:j=p.tm:=by omega
  have h:=abR a o p (kk,nb,bd);rw [ο,d];exact .done h
 |rem+1,kk,nb,j,bd,d,hkk,hb,hnb=>by
  obtain ⟨e,k2,g,q,k⟩:=QR o p c b kk nb j bd (by omega) hb (by omega) (by omega) (by omega);have s:=g.len;obtain ⟨i,k3,m,r,l⟩:=vT o p c b f rem k2 (nb+e.length) (j+1) (bd++e) (by omega) (by omega) (by rw [ξ,hb]) (by omega);refine ⟨e++i,k3,by rw [Xq5];exact g.app m,(by omega),fun nt a=> ?_⟩;have:=l nt a;rw [Δ,Xxm,← ξ] at this;exact .next (a':=(k2,nb+e.length,bd++e,j+1)) (k nt a) this
theorem Rh {ps:List Pv} {a:Nat} (h:ps.length=a) (x:Pv):μ (a*12) (dD ps)++iG x=dD (ps++ [x]):=by
 have e:(dD ps).length=a*12:=by rw [← h];exact dY (f:=iG) (n:=12) (fun _=>rfl) ps
 rw [τ (by omega)];unfold dD;rw [Xql];simp
theorem FZ {ps:List Pv} {a:Nat} (h:ps.length=a):(dD ps).length=a*12:=by rw [← h];exact dY (f:=iG) (n:=12) (fun _=>rfl) ps
theorem H_ {l:List (List Int)} {i:Nat} (h:i<l.length):∃ rx,ε ((γ (i:Int))*1) (jT l)= [AV.sl (iL (l.getD i [])) (l.getD i []).length false]++rx:=by
 unfold jT;rw [aS,Nat.mul_one,← List.map_drop,List.drop_eq_getElem_cons h,Xqj,ν h];exact ⟨_,rfl⟩
def WE (l:List (List Int)) (nl:Bool) (mn:Nat) (SX:List AV) (p:Nat × List Pv):St:=match p.2 with
 | []=>(Nz (.sl (jT l) l.length nl) mn p.1 SX)
 |q::r=>(Gi (.sl (jT l) l.length nl) mn p.1 [.ref 3 0 0 1,.ref 4 0 0 1,.ref 5 0 0 (q::r).length] SX (dD (q::r)))
def moX (SX:List AV) (ps:List Pv):St:=match ps with
 | []=>(NC SX)
 |q::r=>(ND [.ref 2 0 0 1,.ref 3 0 0 1,.ref 4 0 0 (q::r).length] SX (dD (q::r)))
theorem Ze {nt:Nat} (g:140≤nt) (l:List (List Int)) (e:Bool) (mn:Nat) (SX:List AV) (k:Nat) (b:List UInt8) (d:List UInt8) (a:List Int) (t:List AV) (n:List Nd) (c i p k1 k2 k3 q nz:Nat) (m:k<mn) (j:k<l.length) (o:mn≤8) (v:(ε ((γ (k:Int))*1) (jT l))= [AV.sl (iL a) a.length false]++t) (s:n.length=nz) (r:(decide (((0:Nat):Int)<(c:Int)))=true) (h:i<2^62)
  (ca1:CO 62 [ω (k:Int)] (.ret (.str b))) (cn1:af prog ap 63 [.ptr 0 0 0,ω 4] [⟨[.sl (iL a) a.length false,ω 0],0,false,0,0,true⟩] (.ret (ω (c:Int))) [⟨[.sl (iL a) a.length false,ω (k1:Int)],0,false,0,0,true⟩]) (cf1:CO 25 [ω 1] (.ret (Ω false [1] [1]))) (cn2:af prog ap 63 [.ptr 0 0 0,ω 40] [⟨[.sl (iL a) a.length false,ω (k1:Int)],0,false,0,0,true⟩] (.ret (ω (i:Int))) [⟨[.sl (iL a) a.length false,ω (k2:Int)],0,false,0,0,true⟩]) (cf2:CO 25 [ω (((i+1):Nat):Int)] (.ret (Ω false d [1]))) (cn3:af prog ap 63 [.ptr 0 0 0,ω 4] [⟨[.sl (iL a) a.length false,ω (k2:Int)],0,false,0,0,true⟩] (.ret (ω (p:Int))) [⟨[.sl (iL a) a.length false,ω (k3:Int)],0,false,0,0,true⟩])
  (l1:LB 140 2 f24 (Yf (.sl (jT l) l.length e) mn k (decide (((0:Nat):Int)<(c:Int))) p (decide ((k:Int)<(mn:Int))) (decide (((0:Nat):Int)<(c:Int))) [.sl (iL a) a.length false,ω (k3:Int)] [.str b,.bool false,ω 1,ω 0,.ref 7 0 0 1,.bool false,.bool false,.str [1],.str [1],.bool false,.str d,.str [1]] SX) (.normal) (SY (.sl (jT l) l.length e) mn k [.sl (iL a) a.length false,ω (q:Int)] [.str b,.bool false,ω 1,ω 0,.sl (bT n) nz true,.bool false,.bool false,.str [1],.str [1],.bool false,.str d,.str [1]] SX)):
  ψ nt f24 (Nz (.sl (jT l) l.length e) mn k SX) .normal (Gi (.sl (jT l) l.length e) mn (k+1) [.ref 3 0 0 1,.ref 4 0 0 1,.ref 5 0 0 1] SX [.str b,.bool false,ω 1,ω 0,.sl (bT n) nz true,.bool false,.bool false,.str [1],.str [1],.bool false,.str d,.str [1]]):=by
 have w:k<2^62:=by omega
 have u:(decide ((k:Int)<(mn:Int)))=true:=kl m;have f:(decide ((k:Int)<(l.length:Int)))=true:=(kl j)
 exact pN 24 [2] 3 3 (.k 19 (ai r) (.k 6 f (.c (ai u) .nil))) (.v 41 (.eq (wpS w)) (.l l1 (.c cn3 (.c cf2 (.v 62 (.eq (w1p h)) (.c cn2 (.c cf1 (.c cn1 (.c ca1 (.v 44 (.ppt v) .nil)))))))))) g
theorem Zd {nt:Nat} (f:140≤nt) (l:List (List Int)) (d:Bool) (mn:Nat) (SX:List AV) (k:Nat) (b:List UInt8) (a:List Int) (q:List AV) (i:List Nd) (c m k1 k2 n nz:Nat) (h:k<mn) (g:k<l.length) (j:mn≤8) (s:(ε ((γ (k:Int))*1) (jT l))= [AV.sl (iL a) a.length false]++q) (p:i.length=nz) (o:(decide (((0:Nat):Int)<(c:Int)))=false)
  (ca1:CO 62 [ω (k:Int)] (.ret (.str b))) (cn1:af prog ap 63 [.ptr 0 0 0,ω 4] [⟨[.sl (iL a) a.length false,ω 0],0,false,0,0,true⟩] (.ret (ω (c:Int))) [⟨[.sl (iL a) a.length false,ω (k1:Int)],0,false,0,0,true⟩]) (cn2:af prog ap 63 [.ptr 0 0 0,ω 4] [⟨[.sl (iL a) a.length false,ω (k1:Int)],0,false,0,0,true⟩] (.ret (ω (m:Int))) [⟨[.sl (iL a) a.length false,ω (k2:Int)],0,false,0,0,true⟩])
  (l1:LB 140 2 f24 (Yf (.sl (jT l) l.length d) mn k (decide (((0:Nat):Int)<(c:Int))) m (decide ((k:Int)<(mn:Int))) (decide (((0:Nat):Int)<(c:Int))) [.sl (iL a) a.length false,ω (k2:Int)] [.str b,.bool false,ω 1,ω 0,.ref 7 0 0 1,.bool false,.bool false,.str [],.str [],.bool false,.str [],.str []] SX) (.normal) (SY (.sl (jT l) l.length d) mn k [.sl (iL a) a.length false,ω (n:Int)] [.str b,.bool false,ω 1,ω 0,.sl (bT i) nz true,.bool false,.bool false,.str [],.str [],.bool false,.str [],.str []] SX)):
  ψ nt f24 (Nz (.sl (jT l) l.length d) mn k SX) .normal (Gi (.sl (jT l) l.length d) mn (k+1) [.ref 3 0 0 1,.ref 4 0 0 1,.ref 5 0 0 1] SX [.str b,.bool false,ω 1,ω 0,.sl (bT i) nz true,.bool false,.bool false,.str [],.str [],.bool false,.str [],.str []]):=by
 have t:k<2^62:=by omega
 have r:(decide ((k:Int)<(mn:Int)))=true:=kl h;have e:(decide ((k:Int)<(l.length:Int)))=true:=(kl g)
 exact pN 24 [2] 3 1 (.k 17 (aj o) (.k 6 e (.c (ai r) .nil))) (.v 41 (.eq (wpS t)) (.l l1 (.c cn2 (.c cn1 (.c ca1 (.v 44 (.ppt s) .nil)))))) f
theorem UR {nt:Nat} (a:140≤nt) (l:List (List Int)) (c:Bool) (mn:Nat) (SX:List AV):ψ nt f24 (Nz (.sl (jT l) l.length c) mn mn SX) (.exit 0) (NC SX):=by
 have b:(decide ((mn:Int)<(mn:Int)))=false:=kn (ζ _);exact pN 24 [2] 1 0 (.c (aj b) .nil) .nil a
theorem Zc {nt:Nat} (o:140≤nt) (l:List (List Int)) (j:Bool) (mn:Nat) (SX:List AV) (k:Nat) (c:Nat) (ps:List Pv) (b:List UInt8) (d:List UInt8) (a:List Int) (C:List AV) (h:List Nd) (i r x k1 k2 k3 A nz:Nat) (t:k<mn) (s:k<l.length) (v:mn≤8) (E:(ε ((γ (k:Int))*1) (jT l))= [AV.sl (iL a) a.length false]++C) (f:ps.length=c) (y:c<2^20) (e:h.length=nz) (B:(decide (((0:Nat):Int)<(i:Int)))=true) (p:r<2^62)
  (ca1:CO 62 [ω (k:Int)] (.ret (.str b))) (cn1:af prog ap 63 [.ptr 0 0 0,ω 4] [⟨[.sl (iL a) a.length false,ω 0],0,false,0,0,true⟩] (.ret (ω (i:Int))) [⟨[.sl (iL a) a.length false,ω (k1:Int)],0,false,0,0,true⟩]) (cf1:CO 25 [ω 1] (.ret (Ω false [1] [1]))) (cn2:af prog ap 63 [.ptr 0 0 0,ω 40] [⟨[.sl (iL a) a.length false,ω (k1:Int)],0,false,0,0,true⟩] (.ret (ω (r:Int))) [⟨[.sl (iL a) a.length false,ω (k2:Int)],0,false,0,0,true⟩]) (cf2:CO 25 [ω (((r+1):Nat):Int)] (.ret (Ω false d [1]))) (cn3:af prog ap 63 [.ptr 0 0 0,ω 4] [⟨[.sl (iL a) a.length false,ω (k2:Int)],0,false,0,0,true⟩] (.ret (ω (x:Int))) [⟨[.sl (iL a) a.length false,ω (k3:Int)],0,false,0,0,true⟩])
  (l1:LB 140 2 f24 (Yg (.sl (jT l) l.length j) mn k (decide (((0:Nat):Int)<(i:Int))) x (decide ((k:Int)<(mn:Int))) (decide (((0:Nat):Int)<(i:Int))) [.ref 5 0 0 1,.ref 6 0 0 1,.ref 7 0 0 c] [.sl (iL a) a.length false,ω (k3:Int)] [.str b,.bool false,ω 1,ω 0,.ref 8 0 0 1,.bool false,.bool false,.str [1],.str [1],.bool false,.str d,.str [1]] SX (dD ps)) (.normal) (S9 (.sl (jT l) l.length j) mn k [.ref 5 0 0 1,.ref 6 0 0 1,.ref 7 0 0 c] [.sl (iL a) a.length false,ω (A:Int)] [.str b,.bool false,ω 1,ω 0,.sl (bT h) nz true,.bool false,.bool false,.str [1],.str [1],.bool false,.str d,.str [1]] SX (dD ps))):
  ψ nt f24 (Gi (.sl (jT l) l.length j) mn k [.ref 3 0 0 1,.ref 4 0 0 1,.ref 5 0 0 c] SX (dD ps)) .normal (Gi (.sl (jT l) l.length j) mn (k+1) [.ref 3 0 0 1,.ref 4 0 0 1,.ref 5 0 0 (c+1)] SX (dD (ps++ [⟨b,false,1,0,h,false,false,[1],[1],false,d,[1]⟩]))):=by
 have F:k<2^62:=by omega
 have D:(decide ((k:Int)<(mn:Int)))=true:=kl t;obtain ⟨w,g⟩:∃ z:Pv,z=⟨b,false,1,0,h,false,false,[1],[1],false,d,[1]⟩:=⟨_,rfl⟩
 rw [← g];have m:=Rh f w;have m:μ (c*12) (dD ps)++ [AV.str b,.bool false,ω 1,ω 0,.sl (bT h) nz true,.bool false,.bool false,.str [1],.str [1],.bool false,.str d,.str [1]]=dD (ps++ [w]):=by rw [← m,g,← e];rfl
 subst e;have q:(Ψ (c+1) 549755813888)=true:=(Xqb (by omega))
 have n:(Ψ (c*12) (κ (dD ps)))=true:=(Xqb (by rw [FZ f];exact ζ _))
 have u:(decide ((k:Int)<(l.length:Int)))=true:=(kl s)
 exact pN 24 [2] 2 3 (.k 2 q (.c n (.k 16 (ai B) (.k 6 u (.c (ai D) .nil))))) (.v 41 (.eq (wpS F)) (.b 137 m (.l l1 (.c cn3 (.c cf2 (.v 62 (.eq (w1p p)) (.c cn2 (.c cf1 (.c cn1 (.c ca1 (.v 44 (.ppt E) .nil))))))))))) o
theorem Zb {nt:Nat} (n:140≤nt) (l:List (List Int)) (i:Bool) (mn:Nat) (SX:List AV) (k:Nat) (c:Nat) (ps:List Pv) (b:List UInt8) (a:List Int) (y:List AV) (g:List Nd) (h t k1 k2 w nz:Nat) (q:k<mn) (p:k<l.length) (s:mn≤8) (B:(ε ((γ (k:Int))*1) (jT l))= [AV.sl (iL a) a.length false]++y) (e:ps.length=c) (v:c<2^20) (d:g.length=nz) (x:(decide (((0:Nat):Int)<(h:Int)))=false)
  (ca1:CO 62 [ω (k:Int)] (.ret (.str b))) (cn1:af prog ap 63 [.ptr 0 0 0,ω 4] [⟨[.sl (iL a) a.length false,ω 0],0,false,0,0,true⟩] (.ret (ω (h:Int))) [⟨[.sl (iL a) a.length false,ω (k1:Int)],0,false,0,0,true⟩]) (cn2:af prog ap 63 [.ptr 0 0 0,ω 4] [⟨[.sl (iL a) a.length false,ω (k1:Int)],0,false,0,0,true⟩] (.ret (ω (t:Int))) [⟨[.sl (iL a) a.length false,ω (k2:Int)],0,false,0,0,true⟩])
  (l1:LB 140 2 f24 (Yg (.sl (jT l) l.length i) mn k (decide (((0:Nat):Int)<(h:Int))) t (decide ((k:Int)<(mn:Int))) (decide (((0:Nat):Int)<(h:Int))) [.ref 5 0 0 1,.ref 6 0 0 1,.ref 7 0 0 c] [.sl (iL a) a.length false,ω (k2:Int)] [.str b,.bool false,ω 1,ω 0,.ref 8 0 0 1,.bool false,.bool false,.str [],.str [],.bool false,.str [],.str []] SX (dD ps)) (.normal) (S9 (.sl (jT l) l.length i) mn k [.ref 5 0 0 1,.ref 6 0 0 1,.ref 7 0 0 c] [.sl (iL a) a.length false,ω (w:Int)] [.str b,.bool false,ω 1,ω 0,.sl (bT g) nz true,.bool false,.bool false,.str [],.str [],.bool false,.str [],.str []] SX (dD ps))):
  ψ nt f24 (Gi (.sl (jT l) l.length i) mn k [.ref 3 0 0 1,.ref 4 0 0 1,.ref 5 0 0 c] SX (dD ps)) .normal (Gi (.sl (jT l) l.length i) mn (k+1) [.ref 3 0 0 1,.ref 4 0 0 1,.ref 5 0 0 (c+1)] SX (dD (ps++ [⟨b,false,1,0,g,false,false,[],[],false,[],[]⟩]))):=by
 have C:k<2^62:=by omega
 have A:(decide ((k:Int)<(mn:Int)))=true:=kl q;obtain ⟨u,f⟩:∃ z:Pv,z=⟨b,false,1,0,g,false,false,[],[],false,[],[]⟩:=⟨_,rfl⟩
 rw [← f];have j:=Rh e u;have j:μ (c*12) (dD ps)++ [AV.str b,.bool false,ω 1,ω 0,.sl (bT g) nz true,.bool false,.bool false,.str [],.str [],.bool false,.str [],.str []]=dD (ps++ [u]):=by rw [← j,f,← d];rfl
 subst d;have o:(Ψ (c+1) 549755813888)=true:=(Xqb (by omega))
 have m:(Ψ (c*12) (κ (dD ps)))=true:=(Xqb (by rw [FZ e];exact ζ _))
 have r:(decide ((k:Int)<(l.length:Int)))=true:=(kl p)
 exact pN 24 [2] 2 1 (.k 2 o (.c m (.k 14 (aj x) (.k 6 r (.c (ai A) .nil))))) (.v 41 (.eq (wpS C)) (.b 137 j (.l l1 (.c cn2 (.c cn1 (.c ca1 (.v 44 (.ppt B) .nil))))))) n
theorem UQ {nt:Nat} (a:140≤nt) (l:List (List Int)) (d:Bool) (mn:Nat) (SX:List AV) (b:Nat) (ps:List Pv):ψ nt f24 (Gi (.sl (jT l) l.length d) mn mn [.ref 3 0 0 1,.ref 4 0 0 1,.ref 5 0 0 b] SX (dD ps)) (.exit 0) (ND [.ref 2 0 0 1,.ref 3 0 0 1,.ref 4 0 0 b] SX (dD ps)):=by
 have c:(decide ((mn:Int)<(mn:Int)))=false:=kn (ζ _);exact pN 24 [2] 1 0 (.c (aj c) .nil) .nil a
theorem KZ {a:List Nd} {nz:Nat} (h:a.length=nz):((bT a).drop (0*5)).take (nz*5)=bT a:=by
 rw [Xj3,List.drop_zero,τ (by rw [QY h];exact ζ _)]
structure Yn (mn k:Nat) (p:Pv):Prop where
 nm:p.nm= [π (97+k)]
 body:∃ e,p.body=⟨5,false,[],[],[120]⟩::e∧lK mn 3 e
theorem L6 (l:List (List Int)) (o:Bool) (mn k tm:Nat) (SX:List AV) (b:List UInt8) (p:Bool) (q j:List UInt8) (r:Bool) (t m:List UInt8) (e:List Int) (f:Bool) {a:Code} {s:St} {n:Nat} (g nz:Nat) (c:List Nd) (u:c.length=nz) (h:bg prog ap [] n a s .normal (mxn l o mn k tm SX b p q j r t m e f (g,nz,c))):bg prog ap [] n a s .normal (SY (.sl (jT l) l.length o) mn k [.sl (iL e) e.length f,ω (g:Int)] [.str b,.bool false,ω 1,ω 0,.sl (bT c) nz true,.bool false,.bool p,.str q,.str j,.bool r,.str t,.str m] SX):=fun nt d=>by
 have i:=h nt d;unfold mxn at i;exact ak.forget 7 ⟨bT c,0,false,0,5,true⟩ i (by intro v h;cases h) (Xqr _) rfl ⟨Fz.same rfl,Fz.same rfl,Fz.same rfl,Fz.same rfl,Fz.same rfl,Fz.same rfl,Fz.same rfl,Fz.same rfl,trivial⟩ ⟨rfl,Dx.same rfl,by decide,rfl,Dx.same rfl,by decide,rfl,⟨rfl,rfl,rfl,rfl,.inr ⟨.cons (.same rfl) (.cons (.same rfl) (.cons (.same rfl) .nil)),fun h=>by cases h⟩⟩,by decide,rfl,Dx.same rfl,by decide,rfl,⟨rfl,rfl,rfl,rfl,.inr ⟨.cons (.same rfl) (.cons (.same rfl) (.cons (.same rfl) (.cons (.same rfl) (.cons (.fit .ref (bF.eq (by rw [KZ u]))) (.cons (.same rfl) (.cons (.same rfl) (.cons (.same rfl) (.cons (.same rfl) (.cons (.same rfl) (.cons (.same rfl) (.cons (.same rfl) .nil))))))))))),fun _=>rfl⟩⟩,by decide,rfl,Dx.same rfl,by decide,rfl,Dx.same rfl,by decide,rfl⟩
theorem LZ (l:List (List Int)) (p:Bool) (mn k tm:Nat) (SX:List AV) (j:Nat) (ps:List Pv) (b:List UInt8) (q:Bool) (r m:List UInt8) (t:Bool) (u o:List UInt8) (e:List Int) (f:Bool) {a:Code} {s:St} {n:Nat} (g nz:Nat) (c:List Nd) (w:c.length=nz) (h:bg prog ap [] n a s .normal (mxc l p mn k tm SX j ps b q r m t u o e f (g,nz,c))):bg prog ap [] n a s .normal (S9 (.sl (jT l) l.length p) mn k [.ref 5 0 0 1,.ref 6 0 0 1,.ref 7 0 0 j] [.sl (iL e) e.length f,ω (g:Int)] [.str b,.bool false,ω 1,ω 0,.sl (bT c) nz true,.bool false,.bool q,.str r,.str m,.bool t,.str u,.str o] SX (dD ps)):=fun nt d=>by
 have i:=h nt d;unfold mxc at i;exact ak.forget 8 ⟨bT c,0,false,0,5,true⟩ i (by intro v h;cases h) (Xqr _) rfl ⟨Fz.same rfl,Fz.same rfl,Fz.same rfl,Fz.same rfl,Fz.same rfl,Fz.same rfl,Fz.same rfl,Fz.same rfl,trivial⟩ ⟨rfl,Dx.same rfl,by decide,rfl,Dx.same rfl,by decide,rfl,⟨rfl,rfl,rfl,rfl,.inr ⟨.cons (.same rfl) (.cons (.same rfl) (.cons (.same rfl) .nil)),fun h=>by cases h⟩⟩,by decide,rfl,Dx.same rfl,by decide,rfl,⟨rfl,rfl,rfl,rfl,.inr ⟨.cons (.same rfl) (.cons (.same rfl) (.cons (.same rfl) (.cons (.same rfl) (.cons (.fit .ref (bF.eq (by rw [KZ w]))) (.cons (.same rfl) (.cons (.same rfl) (.cons (.same rfl) (.cons (.same rfl) (.cons (.same rfl) (.cons (.same rfl) (.cons (.same rfl) .nil))))))))))),fun _=>rfl⟩⟩,by decide,rfl,Dx.same rfl,by decide,rfl,Dx.same rfl,by decide,rfl,Dx.same rfl,by decide,rfl⟩
theorem vU (l:List (List Int)) (a:Bool) (mn:Nat) (SX:List AV) (k:Nat) {ps:List Pv} (h:ps ≠ []):WE l a mn SX (k,ps)=(Gi (.sl (jT l) l.length a) mn k [.ref 3 0 0 1,.ref 4 0 0 1,.ref 5 0 0 ps.length] SX (dD ps)):=by
 cases ps with
 |nil=>exact absurd rfl h
 |cons q r=>rfl
theorem QT (l:List (List Int)) (c:Bool) (mn:Nat) (SX:List AV) (q:0<mn) (a:mn≤8) (F:mn≤l.length) (k:Nat) (ps:List Pv) (B:k<mn) (n:ps.length=k):
  ∃ p:Pv,Yn mn k p∧∀ nt,140≤nt→ψ nt f24 (WE l c mn SX (k,ps)) .normal (WE l c mn SX (k+1,ps++ [p])):=by
 have m:k<l.length:=by omega
 obtain ⟨z,A⟩:=H_ m;generalize l.getD k []=xs at*
 have o:=L9 k (by omega);obtain ⟨w,k1,E,H,r⟩:=aQ xs false 0 4 (by omega) (by omega) (by omega);rcases tf (decide (((0:Nat):Int)<(w:Int))) with hc|hc
 ·obtain ⟨b,k2,C,D,i⟩:=aQ xs false k1 40 (by omega) (by omega) (by omega);obtain ⟨s,k3,G,I,y⟩:=aQ xs false k2 4 (by omega) (by omega) (by omega);by_cases hne:ps= []
  ·subst hne;obtain ⟨e,j,d,u,h⟩:=vT none ⟨l,c,mn,k,s,SX,[π (97+k)],false,[1],[1],false,[π (b+1)],[1],xs,false⟩ q a (by dsimp only;omega) s k3 1 0 [⟨5,false,[],[],[120]⟩] (by dsimp only;omega) (by omega) rfl (by omega);have t:=aJ.blk (id:=2) (e':= .normal) (fun nt (hn:140≤nt)=>h nt hn) (by simp) rfl (aI.refl _) (aI.refl _);have v:=L6 l c mn k s SX [π (97+k)] false [1] [1] false [π (b+1)] [1] xs false j _ _ (by simp [Xq5]) t;refine ⟨⟨[π (97+k)],false,1,0,⟨5,false,[],[],[120]⟩::e,false,false,[1],[1],false,[π (b+1)],[1]⟩,⟨rfl,e,rfl,⟨Xqg d.cnt (by omega),Xqg d.len (by omega),d.nms⟩⟩,fun nt g=> ?_⟩;have x:=Ze g l c mn SX k [π (97+k)] [π (b+1)] xs z (⟨5,false,[],[],[120]⟩::e) w b s k1 k2 k3 j (1+e.length) B m a A (by simp [Xq5]) hc (by omega) o r JU i (MF b (by omega)) y (fun nt f=>(v nt f).weak (aI.of ⟨rfl,rfl,rfl,rfl,rfl,rfl,rfl,rfl,rfl,rfl,trivial⟩) (aI.refl _));rw [show 1+e.length=((⟨5,false,[],[],[120]⟩:Nd)::e).length by simp [Xq5]] at x;exact x
  ·obtain ⟨e,j,d,u,h⟩:=vT (some (k,ps)) ⟨l,c,mn,k,s,SX,[π (97+k)],false,[1],[1],false,[π (b+1)],[1],xs,false⟩ q a (by dsimp only;omega) s k3 1 0 [⟨5,false,[],[],[120]⟩] (by dsimp only;omega) (by omega) rfl (by omega);have t:=aJ.blk (id:=2) (e':= .normal) (fun nt (hn:140≤nt)=>h nt hn) (by simp) rfl (aI.refl _) (aI.refl _);have v:=LZ l c mn k s SX k ps [π (97+k)] false [1] [1] false [π (b+1)] [1] xs false j _ _ (by simp [Xq5]) t;refine ⟨⟨[π (97+k)],false,1,0,⟨5,false,[],[],[120]⟩::e,false,false,[1],[1],false,[π (b+1)],[1]⟩,⟨rfl,e,rfl,⟨Xqg d.cnt (by omega),Xqg d.len (by omega),d.nms⟩⟩,fun nt g=> ?_⟩;rw [vU l c mn SX k hne,vU l c mn SX (k+1) (by simp),ξ,n];exact Zc g l c mn SX k k ps [π (97+k)] [π (b+1)] xs z (⟨5,false,[],[],[120]⟩::e) w b s k1 k2 k3 j (1+e.length) B m a A n (by omega) (by simp [Xq5]) hc (by omega) o r JU i (MF b (by omega)) y (fun nt f=>(v nt f).weak (aI.of ⟨rfl,rfl,rfl,rfl,rfl,rfl,rfl,rfl,rfl,rfl,trivial⟩) (aI.refl _))
 ·obtain ⟨b,k2,C,D,i⟩:=aQ xs false k1 4 (by omega) (by omega) (by omega);by_cases hne:ps= []
  ·subst hne;obtain ⟨e,j,d,u,h⟩:=vT none ⟨l,c,mn,k,b,SX,[π (97+k)],false,[],[],false,[],[],xs,false⟩ q a (by dsimp only;omega) b k2 1 0 [⟨5,false,[],[],[120]⟩] (by dsimp only;omega) (by omega) rfl (by omega);have t:=aJ.blk (id:=2) (e':= .normal) (fun nt (hn:140≤nt)=>h nt hn) (by simp) rfl (aI.refl _) (aI.refl _);have v:=L6 l c mn k b SX [π (97+k)] false [] [] false [] [] xs false j _ _ (by simp [Xq5]) t;refine ⟨⟨[π (97+k)],false,1,0,⟨5,false,[],[],[120]⟩::e,false,false,[],[],false,[],[]⟩,⟨rfl,e,rfl,⟨Xqg d.cnt (by omega),Xqg d.len (by omega),d.nms⟩⟩,fun nt g=> ?_⟩;have x:=Zd g l c mn SX k [π (97+k)] xs z (⟨5,false,[],[],[120]⟩::e) w b k1 k2 j (1+e.length) B m a A (by simp [Xq5]) hc o r i (fun nt f=>(v nt f).weak (aI.of ⟨rfl,rfl,rfl,rfl,rfl,rfl,rfl,rfl,rfl,rfl,trivial⟩) (aI.refl _));rw [show 1+e.length=((⟨5,false,[],[],[120]⟩:Nd)::e).length by simp [Xq5]] at x;exact x
  ·obtain ⟨e,j,d,u,h⟩:=vT (some (k,ps)) ⟨l,c,mn,k,b,SX,[π (97+k)],false,[],[],false,[],[],xs,false⟩ q a (by dsimp only;omega) b k2 1 0 [⟨5,false,[],[],[120]⟩] (by dsimp only;omega) (by omega) rfl (by omega);have t:=aJ.blk (id:=2) (e':= .normal) (fun nt (hn:140≤nt)=>h nt hn) (by simp) rfl (aI.refl _) (aI.refl _);have v:=LZ l c mn k b SX k ps [π (97+k)] false [] [] false [] [] xs false j _ _ (by simp [Xq5]) t;refine ⟨⟨[π (97+k)],false,1,0,⟨5,false,[],[],[120]⟩::e,false,false,[],[],false,[],[]⟩,⟨rfl,e,rfl,⟨Xqg d.cnt (by omega),Xqg d.len (by omega),d.nms⟩⟩,fun nt g=> ?_⟩;rw [vU l c mn SX k hne,vU l c mn SX (k+1) (by simp),ξ,n];exact Zb g l c mn SX k k ps [π (97+k)] xs z (⟨5,false,[],[],[120]⟩::e) w b k1 k2 j (1+e.length) B m a A n (by omega) (by simp [Xq5]) hc o r i (fun nt f=>(v nt f).weak (aI.of ⟨rfl,rfl,rfl,rfl,rfl,rfl,rfl,rfl,rfl,rfl,trivial⟩) (aI.refl _))
def xJ (mn:Nat) (ps:List Pv):Prop:=∀ (k:Nat) (p:Pv),ps[k]? =some p→Yn mn k p
theorem xJ.snoc {mn k:Nat} {ps:List Pv} {p:Pv} (h:xJ mn ps) (hp:Yn mn k p) (b:ps.length=k):xJ mn (ps++ [p]):=fun i q a=>by
 by_cases hl:i<ps.length
 ·rw [Xqc hl] at a;exact h i q a
 ·have e:i=ps.length:=by
   have:=(List.getElem?_eq_some_iff.1 a).1;simp at this;omega
  subst e;simp at a;subst a;rw [b];exact hp
theorem QS {nt:Nat} (a:140≤nt) (l:List (List Int)) (b:Bool) (mn:Nat) (SX:List AV) (ps:List Pv):ψ nt f24 (WE l b mn SX (mn,ps)) (.exit 0) (moX SX ps):=by
 cases ps with
 |nil=>exact UR a l b mn SX
 |cons q r=>exact UQ a l b mn SX (q::r).length (q::r)
theorem LW (l:List (List Int)) (f:Bool) (mn:Nat) (SX:List AV) (d:0<mn) (b:mn≤8) (c:mn≤l.length):∀ (rem k:Nat) (ps:List Pv),k+rem=mn→ps.length=k→xJ mn ps→
  ∃ a:List Pv,a.length=mn∧xJ mn a∧∀ nt,140≤nt→aJ prog ap [] nt (au 0 (ag f24)) (fun _=> .exit 0) (WE l f mn SX) (moX SX) (k,ps) a
 |0,k,ps,g,hps,hok=>by
  have g:k=mn:=by omega
  subst g;exact ⟨ps,hps,hok,fun nt e=> .done (QS e l f k SX ps)⟩
 |rem+1,k,ps,g,hps,hok=>by
  obtain ⟨p,h,j⟩:=QT l f mn SX d b c k ps (by omega) hps;obtain ⟨a,n,m,i⟩:=LW l f mn SX d b c rem (k+1) (ps++ [p]) (by omega) (by simp [hps]) (hok.snoc h hps);exact ⟨a,n,m,fun nt e=> .next (a':=(k+1,ps++ [p])) (j nt e) (i nt e)⟩
theorem BK:∀ ps:List Pv,O6 (dD ps) (bQ ps)
 | []=> .nil
 |_::ps=> .same (.same (.same (.same (.sl (.same (.same (.same (.same (.same (.same (.same (BK ps))))))))))))
theorem QM (l:List (List Int)) (b:Bool) (mn:Nat) (a:ω (if ((8:Nat):Int)<(l.length:Int) then ((8:Nat):Int) else (l.length:Int))= ω (mn:Int)) (c:CO 61 [ω (l.length:Int),ω 2] (.ret (ω 0)))
  (l1:LB 140 0 f24 (OW (.sl (jT l) l.length b) mn [.str [115],ω 1,ω 0,.sl zcc2_6 2 true] [.str [115],ω 1,ω 0,.sl zcc2_6 2 true]) (.normal) (NC [.str [115],ω 1,ω 0,.sl zcc2_6 2 true])):CO 24 [.sl (jT l) l.length b] (.ret (.agg [.sl [.str [120],.bool false,ω 1,ω 0] 1 true,.sl [.str [115],ω 1,ω 0,.sl zcc2_6 2 true] 1 true,.nilS])):=by
 exact pK [0] 0 0 (.n 19 .nil) (.l l1 (.v 36 (.eq a) (.c XW (.c c (.c vW .nil)))))
theorem QL (l:List (List Int)) (c:Bool) (mn:Nat) (a:Nat) (ps:List Pv) (e:ps.length=a) (b:ω (if ((8:Nat):Int)<(l.length:Int) then ((8:Nat):Int) else (l.length:Int))= ω (mn:Int)) (d:CO 61 [ω (l.length:Int),ω 2] (.ret (ω 0)))
  (l1:LB 140 0 f24 (OW (.sl (jT l) l.length c) mn [.str [115],ω 1,ω 0,.sl zcc2_6 2 true] [.str [115],ω 1,ω 0,.sl zcc2_6 2 true]) (.normal) (ND [.ref 2 0 0 1,.ref 3 0 0 1,.ref 4 0 0 a] [.str [115],ω 1,ω 0,.sl zcc2_6 2 true] (dD ps))):CO 24 [.sl (jT l) l.length c] (.ret (.agg [.sl [.str [120],.bool false,ω 1,ω 0] 1 true,.sl [.str [115],ω 1,ω 0,.sl zcc2_6 2 true] 1 true,.sl (μ (a*12) (dD ps)) a true])):=by
 exact pK [0] 0 0 (.n 19 .nil) (.l l1 (.v 36 (.eq b) (.c XW (.c d (.c vW .nil)))))
theorem LX (l:List (List Int)) (a:Bool) (mn:Nat):AM.norm 0 [0,2,3,4,6,7] (OW (.sl (jT l) l.length a) mn [.str [115],ω 1,ω 0,.sl zcc2_6 2 true] [.str [115],ω 1,ω 0,.sl zcc2_6 2 true])=WE l a mn [.str [115],ω 1,ω 0,.sl zcc2_6 2 true] (0,[]):=by kernel_rfl
theorem QO (l:List (List Int)) (b:Bool) (mn:Nat) (a:ω (if ((8:Nat):Int)<(l.length:Int) then ((8:Nat):Int) else (l.length:Int))= ω (mn:Int)) (c:CO 61 [ω (l.length:Int),ω 2] (.ret (ω 1)))
  (l1:LB 140 0 f24 (OW (.sl (jT l) l.length b) mn [.str [115],ω 1,ω 0,.sl zcc2_5 2 true] [.str [115],ω 1,ω 0,.sl zcc2_5 2 true]) (.normal) (NC [.str [115],ω 1,ω 0,.sl zcc2_5 2 true])):CO 24 [.sl (jT l) l.length b] (.ret (.agg [.sl [.str [120],.bool false,ω 1,ω 0] 1 true,.sl [.str [115],ω 1,ω 0,.sl zcc2_5 2 true] 1 true,.nilS])):=by
 exact pK [0] 0 0 (.n 19 .nil) (.l l1 (.v 36 (.eq a) (.c XX (.c c (.c vW .nil)))))
theorem QN (l:List (List Int)) (c:Bool) (mn:Nat) (a:Nat) (ps:List Pv) (e:ps.length=a) (b:ω (if ((8:Nat):Int)<(l.length:Int) then ((8:Nat):Int) else (l.length:Int))= ω (mn:Int)) (d:CO 61 [ω (l.length:Int),ω 2] (.ret (ω 1)))
  (l1:LB 140 0 f24 (OW (.sl (jT l) l.length c) mn [.str [115],ω 1,ω 0,.sl zcc2_5 2 true] [.str [115],ω 1,ω 0,.sl zcc2_5 2 true]) (.normal) (ND [.ref 2 0 0 1,.ref 3 0 0 1,.ref 4 0 0 a] [.str [115],ω 1,ω 0,.sl zcc2_5 2 true] (dD ps))):CO 24 [.sl (jT l) l.length c] (.ret (.agg [.sl [.str [120],.bool false,ω 1,ω 0] 1 true,.sl [.str [115],ω 1,ω 0,.sl zcc2_5 2 true] 1 true,.sl (μ (a*12) (dD ps)) a true])):=by
 exact pK [0] 0 0 (.n 19 .nil) (.l l1 (.v 36 (.eq b) (.c XX (.c d (.c vW .nil)))))
theorem LY (l:List (List Int)) (a:Bool) (mn:Nat):AM.norm 0 [0,2,3,4,6,7] (OW (.sl (jT l) l.length a) mn [.str [115],ω 1,ω 0,.sl zcc2_5 2 true] [.str [115],ω 1,ω 0,.sl zcc2_5 2 true])=WE l a mn [.str [115],ω 1,ω 0,.sl zcc2_5 2 true] (0,[]):=by kernel_rfl
def fxQ:List AV:= [.str [120],.bool false,ω 1,ω 0]
theorem UN (l:List (List Int)) (b:Bool):∃ (L:Lw) (cc:Bool),L.ps.length=Min.min 8 l.length∧xJ (Min.min 8 l.length) L.ps∧CO 24 [.sl (jT l) l.length b] (.ret (.agg (L.c true true cc))):=by
 obtain ⟨mn,j⟩:∃ mn,mn=Min.min 8 l.length:=⟨_,rfl⟩
 have c:ω (if ((8:Nat):Int)<(l.length:Int) then ((8:Nat):Int) else (l.length:Int))= ω ((mn:Nat):Int):=by
  congr 1;split<;>omega
 obtain ⟨q,o,m⟩:=UT (l.length:Int) 2 (by omega) (by omega);rw [← j];have d:∀ SX,∃ ps2:List Pv,ps2.length=mn∧xJ mn ps2∧∀ nt,140≤nt→aJ prog ap [] nt (au 0 (ag f24)) (fun _=> .exit 0) (WE l b mn SX) (moX SX) (0,[]) ps2:=fun SX=>by
  rcases Xq1 mn with h0|h0
  ·subst h0;exact ⟨[],rfl,(fun k p h=>by simp at h),fun nt i=> .done (QS i l b 0 SX [])⟩
  ·exact LW l b mn SX h0 (by omega) (by omega) mn 0 [] (by omega) rfl (fun k p h=>by simp at h)
 match q,o with
 | 0,_=>
  obtain ⟨ps,e,g,n⟩:=d [.str [115],ω 1,ω 0,.sl zcc2_6 2 true];have f:=aJ.blk (id:=0) (e':= .normal) (fun nt (i:140≤nt)=>n nt i) (by simp) rfl (aI.refl _) (aI.refl _);cases ps with
  |nil=>
   refine ⟨⟨fxQ,1,[.str [115],ω 1,ω 0,.sl zcc2_6 2 true],1,[]⟩,false,e,g, ?_⟩;have h:=QM l b mn c m (fun nt a=>(f nt a).tidy [0,2,3,4,6,7] (LX l b mn) rfl);exact h.out (je.ret rfl rfl (bF.agg (.cons (bF.eq rfl) (.cons (bF.eq rfl) (.cons (bF.nilS false rfl) .nil)))))
  |cons p ps=>
   refine ⟨⟨fxQ,1,[.str [115],ω 1,ω 0,.sl zcc2_6 2 true],1,p::ps⟩,true,e,g, ?_⟩;have h:=QL l b mn (p::ps).length (p::ps) rfl c m (fun nt a=>(f nt a).tidy [0,2,3,4,6,7] (LX l b mn) rfl);rw [τ (by rw [FZ rfl];exact ζ _)] at h;exact h.out (je.ret rfl rfl (bF.agg (.cons (bF.eq rfl) (.cons (bF.eq rfl) (.cons (bF.slP (BK (p::ps))) .nil)))))
 | 1,_=>
  obtain ⟨ps,e,g,n⟩:=d [.str [115],ω 1,ω 0,.sl zcc2_5 2 true];have f:=aJ.blk (id:=0) (e':= .normal) (fun nt (i:140≤nt)=>n nt i) (by simp) rfl (aI.refl _) (aI.refl _);cases ps with
  |nil=>
   refine ⟨⟨fxQ,1,[.str [115],ω 1,ω 0,.sl zcc2_5 2 true],1,[]⟩,false,e,g, ?_⟩;have h:=QO l b mn c m (fun nt a=>(f nt a).tidy [0,2,3,4,6,7] (LY l b mn) rfl);exact h.out (je.ret rfl rfl (bF.agg (.cons (bF.eq rfl) (.cons (bF.eq rfl) (.cons (bF.nilS false rfl) .nil)))))
  |cons p ps=>
   refine ⟨⟨fxQ,1,[.str [115],ω 1,ω 0,.sl zcc2_5 2 true],1,p::ps⟩,true,e,g, ?_⟩;have h:=QN l b mn (p::ps).length (p::ps) rfl c m (fun nt a=>(f nt a).tidy [0,2,3,4,6,7] (LY l b mn) rfl);rw [τ (by rw [FZ rfl];exact ζ _)] at h;exact h.out (je.ret rfl rfl (bF.agg (.cons (bF.eq rfl) (.cons (bF.eq rfl) (.cons (bF.slP (BK (p::ps))) .nil)))))
def Um (x c:Cl):Bool:=((x.1==c.1) && ((x.2==c.2) && true))
theorem yV {x c:Cl}:Um x c=decide (x=c):=by
 unfold Um;rw [Xq2];simp only [Xj4,Bool.and_eq_true,beq_iff_eq,decide_eq_true_eq];exact ⟨fun h=>Prod.ext h.1 h.2,fun h=>h ▸ ⟨rfl,rfl⟩⟩
def YQ (a b:List Cl) (na nb:Bool) (k:Nat):St:=⟨[(0,.sl (cL a) a.length na),(1,.sl (cL b) b.length nb),(5,ω (k:Int))],[],.dead,[]⟩
theorem afU {nt:Nat} (u:26≤nt) (a b p r j q:List Cl) (s t:Bool) (x y:Cl) (d:a=p++x::r) (g:b=j++y::q) (c:j.length=p.length) (v:a.length<2^40) (o:Um x y=false):ψ nt f15 (YQ a b s t p.length) .ret (Cm (.bool false)):=by
 have m:=eH (f:=cC) (n:=2) (fun _=>rfl) d;change ε _ (cL a)=cC x++cL r at m;have h:=eH (f:=cC) (n:=2) (fun _=>rfl) g;change ε _ (cL b)=cC y++cL q at h;rw [c] at h;have e:p.length<a.length:=mP d;have w:p.length<b.length:=c ▸ mP g;have z:p.length<2^62:=by omega
 have l:(decide ((p.length:Int)<(a.length:Int)))=true:=kl e;clear d g c;generalize p.length=k at*
 have i:(decide ((k:Int)<(b.length:Int)))=true:=(kl (by omega))
 exact pN 15 [] 2 3 (.c (fK o) (.k 3 i (.k 3 l (.c (ai l) .nil)))) (.v 23 (.ppt h) (.v 19 (.ppt m) .nil)) u
theorem afV {nt:Nat} (v:26≤nt) (a b p r j q:List Cl) (l m:Bool) (x y:Cl) (d:a=p++x::r) (g:b=j++y::q) (c:j.length=p.length) (w:a.length<2^40) (t:Um x y=true):ψ nt f15 (YQ a b l m p.length) .normal (YQ a b l m (p.length+1)):=by
 have s:=eH (f:=cC) (n:=2) (fun _=>rfl) d;change ε _ (cL a)=cC x++cL r at s;have h:=eH (f:=cC) (n:=2) (fun _=>rfl) g;change ε _ (cL b)=cC y++cL q at h;rw [c] at h;have e:p.length<a.length:=mP d;have z:p.length<b.length:=c ▸ mP g;have u:p.length<2^62:=by omega
 have o:(decide ((p.length:Int)<(a.length:Int)))=true:=kl e;clear d g c;generalize p.length=k at*
 have i:(decide ((k:Int)<(b.length:Int)))=true:=(kl (by omega))
 exact pN 15 [] 2 1 (.c (dM t) (.k 3 i (.k 3 o (.c (ai o) .nil)))) (.v 16 (.eq (wpS u)) (.v 23 (.ppt h) (.v 19 (.ppt s) .nil))) v
theorem afT {nt:Nat} (c:26≤nt) (a b:List Cl) (d e:Bool):ψ nt f15 (YQ a b d e a.length) (.exit 0) I5:=by
 have f:(decide ((a.length:Int)<(a.length:Int)))=false:=kn (ζ _);exact pN 15 [] 1 0 (.c (aj f) .nil) .nil c
theorem KU {nt:Nat} (i:26≤nt) (a b:List Cl) (f g:Bool) (d:a.length<2^40):∀ (r p p2 q:List Cl),a=p++r→b=p2++q→p2.length=p.length→q.length=r.length→aJ prog ap [] nt (au 0 (ag f15)) (fun b:Bool=>if b then .exit 0 else .ret) (YQ a b f g) (fun b:Bool=>if b then I5 else (Cm (.bool false))) p.length (decide (r=q))
 | [],p,p2,[],ha,hb,hp,_=>by
  rw [ο] at ha;subst ha;exact .done (afT i a b f g)
 | x::r,p,p2,y::q,ha,hb,hp,hq=>by
  cases c:Um x y with
  |false=>
   have e:decide (x::r=y::q)=false:=by rw [yV] at c;simp at c;simp only [List.cons.injEq,decide_eq_false_iff_not];exact fun h=>c h.1
   rw [e];exact .done (afU i a b p r p2 q f g x y ha hb hp d c)
  |true=>
   have j:x=y:=by rw [yV] at c;simpa using c
   have e:decide (x::r=y::q)=decide (r=q):=by subst j;simp
   rw [e];have k:=KU i a b f g d r (p++ [x]) (p2++ [y]) q (by rw [ha];simp) (by rw [hb];simp) (by simp [hp]) (by simpa using hq);rw [show (p++ [x]).length=p.length+1 by simp] at k;exact .next (a':=p.length+1) (afV i a b p r p2 q f g x y ha hb hp d c) k
 | [],_,_,_::_,_,_,_,hq=>by simp at hq
 |_::_,_,_,[],_,_,_,hq=>by simp at hq
theorem PV (a b:List Cl) (j k:Bool) (l:a.length<2^40):CO 15 [.sl (cL a) a.length j,.sl (cL b) b.length k] (.ret (.bool (decide (a=b)))):=by
 by_cases hlen:a.length=b.length
 ·have g:=fun nt (hn:26≤nt)=>KU hn a b j k l a [] [] b rfl rfl rfl hlen.symm
  have i:((a.length:Int)==(b.length:Int))=true:=by simp [hlen]
  cases f:decide (a=b) with
  |false=>
   rw [f] at g;have d:=aJ.blk (id:=0) (e':= .ret) g (by simp) rfl (aI.refl _) (aI.refl _);unfold YQ at d;have m:LB 26 0 f15 ⟨[(0,.sl (cL a) a.length j),(1,.sl (cL b) b.length k),(4,.bool false),(5,ω 0),(10,.bool (!((a.length:Int)==(b.length:Int)))),(14,.dead),(25,.dead)],[],.dead,[]⟩ (.ret) (Cm (.bool false)):=(fun nt c=>(d nt c).weak (aI.of ⟨rfl,rfl,rfl,trivial⟩) (aI.refl _))
   exact pK [0] 1 0 (.c (dM i) .nil) (.l m .nil)
  |true=>
   rw [f] at g;have d:=aJ.blk (id:=0) (e':= .normal) g (by simp) rfl (aI.refl _) (aI.refl _);unfold YQ at d;have m:LB 26 0 f15 ⟨[(0,.sl (cL a) a.length j),(1,.sl (cL b) b.length k),(4,.bool false),(5,ω 0),(10,.bool (!((a.length:Int)==(b.length:Int)))),(14,.dead),(25,.dead)],[],.dead,[]⟩ (.normal) I5:=(fun nt c=>(d nt c).weak (aI.of ⟨rfl,rfl,rfl,trivial⟩) (aI.refl _))
   exact pK [0] 1 0 (.c (dM i) .nil) (.l m .nil)
 ·have i:((a.length:Int)==(b.length:Int))=false:=by simp;omega
  have e:decide (a=b)=false:=by simp;exact fun h=>hlen (by rw [h])
  rw [e];exact pK [0] 1 1 (.c (fK i) .nil) (.nil)
def afn (l:List Nat):List AV:=l.map fun (d:Nat)=>AV.int .u32 (d:Int)
theorem fV (l:List Nat):(afn l).length=l.length:=by simp [afn]
def ED (l:List Nat):List Nat:=(l.reverse.dropWhile (· ==0)).reverse
theorem Ky (l:List Nat) (d:Nat):ED (l++ [d])=if d=0 then ED l else l++ [d]:=by
 unfold ED;rw [List.reverse_append];simp only [List.reverse_cons,List.reverse_nil,θ,List.singleton_append,Xjg];by_cases h:d=0
 ·subst h;simp
 ·simp [h]
def ax (s:List UInt8):Nat:=s.foldl (fun a b=>a*256+b.toNat) 0
theorem Og (s:List UInt8):∀ a,s.foldl (fun a b=>a*256+b.toNat) a=a*256^s.length+ax s:=by
 induction s with
 |nil=>intro a;simp [ax]
 | cons b r ih=>
  intro a;simp only [Xqw,ax,Γ,Xkr];rw [ih,ih (0*256+b.toNat)];have:a*(256^r.length*256)=a*256*256^r.length:=by
   rw [Xvf (256^r.length) 256,Xw1]
  rw [this];simp only [Xx5,Xj3,Θ];omega
theorem jM (b:UInt8) (r:List UInt8):ax (b::r)=b.toNat*256^r.length+ax r:=by
 show (b::r).foldl _ 0=_;rw [Xqw,Og];simp
theorem Gp (s:List UInt8):ax s<256^s.length:=by
 induction s with
 |nil=>simp [ax]
 |cons b r ih=>
  rw [jM,Γ,Xkr];have:=b.toNat_lt;have h:b.toNat*256^r.length≤255*256^r.length:=Xx8 _ (by omega);omega
def Dp (m n:Nat):List Nat:=(Xqd m).map fun i=>n / 2^(32*i) % 2^32
theorem mf (m n:Nat):(Dp m n).length=m:=by simp [Dp]
theorem Q7 {m n i:Nat} (h:i<m):(Dp m n)[i]? =some (n / 2^(32*i) % 2^32):=by simp [Dp,h]
def qE (n:Nat):List Nat:=ED (Dp n n)
theorem tN (n:Nat):n<2^(32*n):=by
 have a:n<2^n:=Nat.lt_two_pow_self;exact Xqf a (Xqy (by omega) (by omega))
theorem Q8 (m n:Nat):Dp (m+1) n=Dp m n++ [n / 2^(32*m) % 2^32]:=by
 unfold Dp;rw [List.range_succ,List.map_append];rfl
theorem PP (n:Nat):∀ (k:Nat),(qE n).getD k 0=n / 2^(32*k) % 2^32:=by
 have key:∀ (m k:Nat),(ED (Dp m n)).getD k 0=if k<m then n / 2^(32*k) % 2^32 else 0:=by
  intro m
  induction m with
  |zero=>intro k;simp [Dp,ED]
  | succ m ih=>
   intro k;rw [Q8,Ky];by_cases hd:n / 2^(32*m) % 2^32=0
   ·rw [if_pos hd,ih];by_cases hk:k<m
    ·rw [if_pos hk,if_pos (by omega)]
    ·rw [if_neg hk];by_cases hkm:k=m
     ·subst hkm;rw [if_pos (by omega),hd]
     ·rw [if_neg (by omega)]
   ·rw [if_neg hd,Xqj];by_cases hk:k<m
    ·rw [Xqc (by rw [mf];exact hk),Q7 hk,if_pos (by omega)];rfl
    ·by_cases hkm:k=m
     ·subst hkm;rw [List.getElem?_append_right (by rw [mf];exact ζ _),mf,Nat.sub_self,if_pos (by omega)];rfl
     ·rw [Xxo (by rw [ξ,mf];simp;omega),if_neg (by omega)];rfl
 intro k;unfold qE;rw [key];by_cases hk:k<n
 ·rw [if_pos hk]
 ·rw [if_neg hk];have:n<2^(32*k):=Xqf (tN n) (Xqy (by omega) (by omega));rw [Xwa this]
theorem Bd {n m:Nat} (h:(qE n).length≤m):n<2^(32*m):=by
 have key:∀ d,n<2^(32*(m+d))→n<2^(32*m):=by
  intro d
  induction d with
  |zero=>exact fun h=>h
  | succ d ih=>
   intro b;refine ih ?_;have c:=PP n (m+d);rw [Xqj,Xxo (by omega)] at c;have e:n / 2^(32*(m+d))<2^32:=by
    rw [Xwh (Xjr _),← Xz5,show 32+32*(m+d)=32*(m+(d+1)) by omega];exact b
   have a:n / 2^(32*(m+d)) % 2^32=0:=c.symm;rw [Xjl e] at a;rcases Nat.div_eq_zero_iff.1 a with h2|h2
   ·have:=Xjr (32*(m+d));omega
   ·exact h2
 refine key n ?_;exact Xqf (tN n) (Xqy (by omega) (by omega))
def XZ (x y:Nat):Int:=if x<y then -1 else if y<x then 1 else 0
def u8L (l:List Nat):List AV:=l.map fun (d:Nat)=>AV.int .u8 (d:Int)
theorem gY (l:List Nat):(u8L l).length=l.length:=by simp [u8L]
def jB (m x:Nat):List UInt8:=(Xqd m).map fun i=>π (x / 2^(8*(m - 1 - i)) % 256)
def ae (x:Nat):List UInt8:=(jB (4*(qE x).length) x).dropWhile (· ==0)
theorem ou (m x:Nat):jB (m+1) x=π (x / 2^(8*m) % 256)::jB m x:=by
 unfold jB;rw [List.range_succ_eq_map,List.map_cons,List.map_map];congr 1;apply Xj1;intro i a;simp only [Function.comp];have:=List.mem_range.1 a;rw [show m+1 - 1 - (i+1)=m - 1 - i by omega]
theorem DR:∀ (m:Nat) (b x:Nat),jB m (b*2^(8*m)+x)=jB m x:=by
 intro m b x;unfold jB;apply Xj1;intro i a;have a:=List.mem_range.1 a;have e:8*m=(8*m - 8*(m - 1 - i) - 8)+8+8*(m - 1 - i):=by omega
 congr 1
 conv=>lhs;rw [e]
 rw [Xz5,Xz5,← Xw1,← Xw1,Xq5,Xwi _ _ (Xjr _)];exact Nat.add_mul_mod_self_right _ _ 256
theorem DT:∀ (s:List UInt8),jB s.length (ax s)=s
 | []=>rfl
 |b::r=>by
  rw [Γ,ou,jM,show (256:Nat)^r.length=2^(8*r.length) by rw [Xzn],DR,DT r];have h:=Gp r;rw [show (256:Nat)^r.length=2^(8*r.length) by rw [Xzn]] at h;have a:=b.toNat_lt;rw [Xq5,Xwi _ _ (Xjr _),Xwa h,Θ,Xjl (by omega)];congr 1;exact UInt8.ofNat_toNat
theorem ul (x:Nat):∀ (d m:Nat),x<2^(8*m)→(jB (m+d) x).dropWhile (· ==0)=(jB m x).dropWhile (· ==0)
 |0,_,_=>rfl
 |d+1,m,h=>by
  rw [show m+(d+1)=(m+d)+1 by omega,ou];have a:x<2^(8*(m+d)):=Xqf h (Xqy (by omega) (by omega));rw [Xwa a,Xjg,if_pos (by rfl)];exact ul x d m h
theorem L_ {m x:Nat} (h:x<2^(8*m)):(jB m x).dropWhile (· ==0)=ae x:=by
 unfold ae;have a:x<2^(8*(4*(qE x).length)):=by
  have:=Bd (n:=x) (ζ _);rwa [show 8*(4*(qE x).length)=32*(qE x).length by omega]
 rcases Nat.le_total m (4*(qE x).length) with hm|hm
 ·have:=ul x (4*(qE x).length - m) m h;rw [show m+(4*(qE x).length - m)=4*(qE x).length by omega] at this;exact this.symm
 ·have:=ul x (m - 4*(qE x).length) (4*(qE x).length) a;rw [show 4*(qE x).length+(m - 4*(qE x).length)=m by omega] at this;exact this
theorem Bv (s:List UInt8):ae (ax s)=s.dropWhile (· ==0):=by
 have h:=Gp s;rw [show (256:Nat)^s.length=2^(8*s.length) by rw [Xzn]] at h;rw [← L_ h,DT]
theorem I_:∀ (s:List UInt8),ax (s.dropWhile (· ==0))=ax s
 | []=>rfl
 | b::r=>by
  rw [Xjg];by_cases hb:b=0
  ·subst hb;rw [if_pos (by rfl),I_ r,jM];simp
  ·rw [if_neg (by simpa using hb)]
theorem EH:∀ (m x:Nat),x<2^(8*m)→ax (jB m x)=x
 |0,x,h=>by simp at h;subst h;rfl
 | m+1,x,h=>by
  rw [ou,jM];have b:(jB m x).length=m:=by simp [jB]
  have a:x / 2^(8*m)<256:=by
   rw [Xwh (Xjr _)];have e:(2:Nat)^(8*(m+1))=256*2^(8*m):=by rw [show 8*(m+1)=8+8*m by omega,Xz5]
   rw [← e];exact h
  have hm:ax (jB m x)=x % 2^(8*m):=by
   have e:x=x / 2^(8*m)*2^(8*m)+x % 2^(8*m):=by
    have:=Xvx x (2^(8*m));rw [Xvf] at this;omega
   conv=>lhs;rw [e]
   rw [DR];exact EH m _ (Xw7 _ (Xjr _))
  rw [b,hm,Xjl a];have c:(π (x / 2^(8*m))).toNat=x / 2^(8*m):=by
   rw [Xw2];exact Xjl a
  rw [c,show (256:Nat)^m=2^(8*m) by rw [Xzn]];have:=Xvx x (2^(8*m));rw [Xvf] at this;exact this
theorem bu (x:Nat):ax (ae x)=x:=by
 unfold ae;rw [I_];refine EH _ _ ?_;have:=Bd (n:=x) (ζ _);rwa [show 8*(4*(qE x).length)=32*(qE x).length by omega]
def nR (s:List UInt8):Bool:=match s with| []=>true|c::_=> !(c==0)
def D_ (neg:Bool) (n d:List UInt8):Bool:=nR n && nR d && decide (0<ax d) && decide (Xx6 (ax n) (ax d)=1) && (!neg||decide (0<ax n))
theorem g_:ae 0= []:=Bv []
theorem iD {x k:Nat} (h:x<2^(8*k)):(ae x).length≤k:=by
 rw [← L_ h];have b:=(Xwe (· ==0) (l:=jB k x)).length_le;have a:(jB k x).length=k:=by
  have:∀ m,(jB m x).length=m:=by
   intro m
   induction m with
   |zero=>rfl
   |succ m ih=>rw [ou,Γ,ih]
  exact this k
 omega
theorem jw (s:List UInt8):ax s<2^(8*s.length):=by
 have h:=Gp s;rwa [show (256:Nat)=2^8 from rfl,← Xzn] at h
theorem oO {x:Nat} {s:List UInt8} (h:x≤ax s):(ae x).length≤s.length:=iD (Xx3 h (jw s))
theorem l_ {x:Nat}:ae x= []↔x=0:=by
 constructor
 ·intro h;have:=bu x;rw [h] at this;exact this.symm
 ·intro h;subst h;exact g_
theorem QW {x y:Nat} (h:ae x=ae y):x=y:=by rw [← bu x,h,bu]
theorem Bl (s:List UInt8):nR s=true↔ae (ax s)=s:=by
 rw [Bv];cases s with
 |nil=>simp [nR]
 | cons c r=>
  simp only [nR,Xjg];by_cases h:c=0
  ·subst h;simp only [beq_self_eq_true,Bool.not_true,Xqe,if_true,false_iff];intro a;have:=(Xwe (· ==(0:UInt8)) (l:=r)).length_le;rw [a] at this;simp at this;omega
  ·simp [h]
abbrev aco (neg:Bool) (n d:Nat):AV:= .agg [.bool neg,.str (ae n),.str (ae d)]
theorem rP {a:Bool} {n d:List UInt8}:D_ a n d=true↔nR n=true∧nR d=true∧0<ax d∧Xx6 (ax n) (ax d)=1∧(a=true→0<ax n):=by
 unfold D_;cases a<;>simp [and_assoc]
theorem aaj {nt:Nat} (b:19≤nt) (s:List UInt8) (k:Nat) (h0:lit true (((Xzo (Xwj s (γ (k:Int)) 0):Nat):Int)==((0:Nat):Int))=true) (a:(decide (((0:Nat):Int)≤(k:Int)))=true) (c:(decide ((k:Int)<(((κ s):Nat):Int)))=true) (d:lit true (decide ((k:Int)<(((κ s):Nat):Int)))=true):ψ nt f105 (IZ s (k:Int)) (.normal) (IZ s (η .i64 ((k:Int)+((1:Nat):Int)))):=pJ 105 [] 2 3 (.c h0 (.c a (.c c (.c d .nil)))) (.nil) b
theorem aak {nt:Nat} (b:19≤nt) (s:List UInt8) (k:Nat) (h0:lit false (((Xzo (Xwj s (γ (k:Int)) 0):Nat):Int)==((0:Nat):Int))=true) (a:(decide (((0:Nat):Int)≤(k:Int)))=true) (c:(decide ((k:Int)<(((κ s):Nat):Int)))=true) (d:lit true (decide ((k:Int)<(((κ s):Nat):Int)))=true):ψ nt f105 (IZ s (k:Int)) (.exit 0) (IZ s (k:Int)):=pJ 105 [] 2 1 (.c h0 (.c a (.c c (.c d .nil)))) (.nil) b
theorem aal {nt:Nat} (a:19≤nt) (s:List UInt8) (k:Nat) (h0:lit false (decide ((k:Int)<(((κ s):Nat):Int)))=true):ψ nt f105 (IZ s (k:Int)) (.exit 0) (IZ s (k:Int)):=pJ 105 [] 2 0 (.k 1 h0 .nil) (.nil) a
theorem YC (s:List UInt8) (k:Nat) (h0:(decide (((0:Nat):Int)≤(k:Int)))=true) (a:(decide ((k:Int)≤(((κ s):Nat):Int)))=true) (c:(decide ((((κ s):Nat):Int)≤(((κ s):Nat):Int)))=true) (b:LB 19 0 f105 ⟨[(0,.str s),(2,.str []),(3,ω 0),(13,.dead)],[],.dead,[]⟩ (.normal) (IZ s (k:Int))):CO 105 [.str s] (.ret (.str (ε (γ (k:Int)) (μ (γ (((κ s):Nat):Int)) s)))):=pK [0] 0 0 (.c h0 (.c a (.c c .nil))) (.l b .nil)
def nz:List UInt8→Nat
 | []=>0
 |c::r=>if c=0 then nz r+1 else 0
theorem Uj (s:List UInt8):s.drop (nz s)=s.dropWhile (· ==0):=by
 induction s with
 |nil=>rfl
 |cons c r ih=>
  simp only [nz,Xjg];by_cases h:c=0
  ·subst h;simpa using ih
  ·simp [h]
theorem ab4 (s:List UInt8):nz s≤s.length:=by
 induction s with
 |nil=>exact ζ _
 |cons c r ih=>simp only [nz,Γ];split<;>omega
def VV (s:List UInt8) (k:Nat):St:=(IZ s (k:Int))
theorem Vu {p r:List UInt8} {c:UInt8} {k:Nat} (h:k=p.length):(p++c::r).getD k 0=c:=by subst h;simp
theorem VD (c:UInt8):(c.toNat=0)=(c=0):=by
 apply propext;constructor
 ·intro h;apply UInt8.toNat_inj.1;simpa using h
 ·intro h;subst h;rfl
theorem PE {nt:Nat} (b:19≤nt) (s:List UInt8) (hs:s.length<2^40):∀ (r p:List UInt8),p++r=s→aJ prog ap [] nt (au 0 (ag f105)) (fun _=> .exit 0) (VV s) (VV s) p.length (p.length+nz r):=by
 intro r
 induction r with
 |nil=>
  intro p h;have hp:p.length=s.length:=by rw [← h];simp
  refine .done (aal b s p.length ?_);rw [hp,yK];simp [lit]
 | cons c r ih=>
  intro p h;have f:p.length+(r.length+1)=s.length:=by rw [← h];simp
  have e:s.getD p.length 0=c:=by rw [← h];exact Vu rfl
  by_cases hc:c=0
  ·have hnext:=ih (p++ [c]) (by simp [h]);rw [ξ,Xjs] at hnext;simp only [nz,if_pos hc];rw [show p.length+(nz r+1)=p.length+1+nz r by omega];refine .next ?_ hnext
   have a:=aaj b s p.length;have d:c.toNat=0:=by subst hc;rfl
   simp (disch:=first|omega|(simp [fV,gY]<;>omega)) only [aS,e,d,NT,decide_true,H9,Ug,GY,yK,VU,sJ] at a;apply a<;>first|exact True.intro|omega|assumption|exact rfl
  ·simp only [nz,if_neg hc,Xqo];refine .done ?_;have a:=aak b s p.length;have d:¬ c.toNat=0:=by rw [VD];exact hc
   simp (disch:=first|omega|(simp [fV,gY]<;>omega)) only [aS,e,NT,H8,MC,KO,Ug,GY,yK,H9] at a;apply a<;>first|exact True.intro|omega|assumption|exact rfl
theorem jg (s:List UInt8) (hs:s.length<2^40):CO 105 [.str s] (.ret (.str (ae (ax s)))):=by
 have b:=ab4 s;have h:=YC s (nz s);simp (disch:=first|omega|(simp [fV,gY]<;>omega)) only [Ug,GY,aS,Xvn,Uj] at h;rw [Bv];apply h<;>first|exact True.intro|omega|assumption|exact rfl|skip
 ·refine aJ.blk (fun nt a=>PE a s hs s [] rfl) (by simp) rfl (aI.of ⟨rfl,rfl,trivial⟩) ?_;rw [Xqh,Θ];exact aI.refl _
theorem Zq (x:Nat) (h0:lit true (decide (((0:Nat):Int)<(x:Int)))=true) (a:CO 105 [.str [π (γ (η .u8 (Xxc (x:Int) (2^(min 56 64))))),π (γ (η .u8 (Xxc (x:Int) (2^(min 48 64))))),π (γ (η .u8 (Xxc (x:Int) (2^(min 40 64))))),π (γ (η .u8 (Xxc (x:Int) (2^(min 32 64))))),π (γ (η .u8 (Xxc (x:Int) (2^(min 24 64))))),π (γ (η .u8 (Xxc (x:Int) (2^(min 16 64))))),π (γ (η .u8 (Xxc (x:Int) (2^(min 8 64))))),π (γ (η .u8 (Xxc (x:Int) (2^(min 0 64)))))]] (.ret (.str (ae (ax [π (γ (η .u8 (Xxc (x:Int) (2^(min 56 64))))),π (γ (η .u8 (Xxc (x:Int) (2^(min 48 64))))),π (γ (η .u8 (Xxc (x:Int) (2^(min 40 64))))),π (γ (η .u8 (Xxc (x:Int) (2^(min 32 64))))),π (γ (η .u8 (Xxc (x:Int) (2^(min 24 64))))),π (γ (η .u8 (Xxc (x:Int) (2^(min 16 64))))),π (γ (η .u8 (Xxc (x:Int) (2^(min 8 64))))),π (γ (η .u8 (Xxc (x:Int) (2^(min 0 64)))))]))))):CO 65 [ω (x:Int)] (.ret (.str (ae (ax [π (γ (η .u8 (Xxc (x:Int) (2^(min 56 64))))),π (γ (η .u8 (Xxc (x:Int) (2^(min 48 64))))),π (γ (η .u8 (Xxc (x:Int) (2^(min 40 64))))),π (γ (η .u8 (Xxc (x:Int) (2^(min 32 64))))),π (γ (η .u8 (Xxc (x:Int) (2^(min 24 64))))),π (γ (η .u8 (Xxc (x:Int) (2^(min 16 64))))),π (γ (η .u8 (Xxc (x:Int) (2^(min 8 64))))),π (γ (η .u8 (Xxc (x:Int) (2^(min 0 64)))))])))):=pK [] 19 131067 (.k 9 h0 (.k 6 h0 (.k 6 h0 (.k 6 h0 (.k 6 h0 (.k 6 h0 (.k 6 h0 (.k 5 h0 (.n 1 .nil))))))))) (.c a .nil)
theorem Zr (x:Nat) (h0:lit false (decide (((0:Nat):Int)<(x:Int)))=true) (a:CO 105 [.str []] (.ret (.str (ae (ax []))))):CO 65 [ω (x:Int)] (.ret (.str (ae (ax [])))):=pK [] 2 1 (.k 2 h0 (.n 1 .nil)) (.c a .nil)
theorem Zn {nt:Nat} (b:35≤nt) (s:List UInt8) (n k:Nat) (h0:(decide (((0:Nat):Int)≤(k:Int)))=true) (a:(decide ((k:Int)<(((κ s):Nat):Int)))=true) (c:lit true (decide ((k:Int)<(((κ s):Nat):Int)))=true):ψ nt f147 (Vq s (n:Int) (k:Int)) (.normal) (Vq s (η .i64 ((η .i64 ((n:Int)*2^(min 8 64)))+(η .i64 ((Xzo (Xwj s (γ (k:Int)) 0):Nat):Int)))) (η .i64 ((k:Int)+((1:Nat):Int)))):=pJ 147 [] 1 1 (.c h0 (.c a (.k 1 c .nil))) (.nil) b
theorem Zo {nt:Nat} (a:35≤nt) (s:List UInt8) (n k:Nat) (h0:lit false (decide ((k:Int)<(((κ s):Nat):Int)))=true):ψ nt f147 (Vq s (n:Int) (k:Int)) (.exit 0) (Cm (ω (n:Int))):=pJ 147 [] 1 0 (.c h0 .nil) (.nil) a
theorem Vb (s:List UInt8) (n:Nat) (h0:lit false (decide (((127:Nat):Int)<((Xzo (Xwj (ae (ax s)) 0 0):Nat):Int)))=true) (a:(decide (((0:Nat):Int)<(((κ (ae (ax s))):Nat):Int)))=true) (c:lit true ((((κ (ae (ax s))):Nat):Int)==((8:Nat):Int))=true) (e:lit false (decide (((8:Nat):Int)<(((κ (ae (ax s))):Nat):Int)))=true) (d:CO 105 [.str s] (.ret (.str (ae (ax s))))) (b:LB 35 0 f147 (X3 (ae (ax s)) (decide (((127:Nat):Int)<((Xzo (Xwj (ae (ax s)) 0 0):Nat):Int)))) (.normal) (Cm (ω (n:Int)))):CO 147 [.str s] (.ret (.tup [ω (n:Int),.bool true])):=pK [0] 3 2 (.c h0 (.k 1 a (.c c (.c e .nil)))) (.l b (.c d .nil))
theorem Vd (s:List UInt8) (n:Nat) (h0:lit false ((((κ (ae (ax s))):Nat):Int)==((8:Nat):Int))=true) (a:lit false (decide (((8:Nat):Int)<(((κ (ae (ax s))):Nat):Int)))=true) (c:CO 105 [.str s] (.ret (.str (ae (ax s))))) (b:LB 35 0 f147 (X3 (ae (ax s)) false) (.normal) (Cm (ω (n:Int)))):CO 147 [.str s] (.ret (.tup [ω (n:Int),.bool true])):=pK [0] 3 0 (.k 1 h0 (.c a .nil)) (.l b (.c c .nil))
theorem aeW (s:List UInt8) (n b:Nat) (h0:lit false (decide ((b:Int)<(((κ (ae (ax s))):Nat):Int)))=true) (c:CO 105 [.str s] (.ret (.str (ae (ax s))))) (a:CO 147 [.str s] (.ret (.tup [ω (n:Int),.bool true]))):CO 106 [.str s,ω (b:Int)] (.ret (.tup [ω (n:Int),.bool true])):=pK [] 1 0 (.c h0 .nil) (.c a (.c c .nil))
theorem acy (s:List UInt8) (h0:lit true ((((κ s):Nat):Int)==((0:Nat):Int))=true):CO 160 [.str s] (.ret (.bool true)):=pK [] 1 1 (.c h0 .nil) (.nil)
theorem acz (s:List UInt8) (h0:(decide (((0:Nat):Int)<(((κ s):Nat):Int)))=true) (a:lit false ((((κ s):Nat):Int)==((0:Nat):Int))=true):CO 160 [.str s] (.ret (.bool (!(((Xzo (Xwj s 0 0):Nat):Int)==((0:Nat):Int))))):=pK [] 1 0 (.k 1 h0 (.c a .nil)) (.nil)
theorem U5 (s t:List UInt8) (h0:lit true (decide ((((κ (ae (ax s))):Nat):Int)<(((κ (ae (ax t))):Nat):Int)))=true) (a:lit true (!((((κ (ae (ax s))):Nat):Int)==(((κ (ae (ax t))):Nat):Int)))=true) (c:CO 105 [.str s] (.ret (.str (ae (ax s))))) (b:CO 105 [.str t] (.ret (.str (ae (ax t))))):CO 143 [.str s,.str t] (.ret (ω (-1))):=pK [] 2 3 (.c h0 (.c a .nil)) (.c b (.c c .nil))
theorem U6 (s t:List UInt8) (h0:lit false (decide ((((κ (ae (ax s))):Nat):Int)<(((κ (ae (ax t))):Nat):Int)))=true) (a:lit true (!((((κ (ae (ax s))):Nat):Int)==(((κ (ae (ax t))):Nat):Int)))=true) (c:CO 105 [.str s] (.ret (.str (ae (ax s))))) (b:CO 105 [.str t] (.ret (.str (ae (ax t))))):CO 143 [.str s,.str t] (.ret (ω 1)):=pK [] 2 1 (.c h0 (.c a .nil)) (.c b (.c c .nil))
theorem U7 (s t:List UInt8) (h0:lit true (fH (ae (ax s)) (ae (ax t)))=true) (a:lit false (!((((κ (ae (ax s))):Nat):Int)==(((κ (ae (ax t))):Nat):Int)))=true) (c:CO 105 [.str s] (.ret (.str (ae (ax s))))) (b:CO 105 [.str t] (.ret (.str (ae (ax t))))):CO 143 [.str s,.str t] (.ret (ω (-1))):=pK [] 2 2 (.c h0 (.c a .nil)) (.c b (.c c .nil))
theorem U8 (s t:List UInt8) (h0:lit true (!(fH (ae (ax s)) (ae (ax t))||(ae (ax s))==(ae (ax t))))=true) (a:lit false (fH (ae (ax s)) (ae (ax t)))=true) (b:lit false (!((((κ (ae (ax s))):Nat):Int)==(((κ (ae (ax t))):Nat):Int)))=true) (d:CO 105 [.str s] (.ret (.str (ae (ax s))))) (c:CO 105 [.str t] (.ret (.str (ae (ax t))))):CO 143 [.str s,.str t] (.ret (ω 1)):=pK [] 3 4 (.c h0 (.c a (.c b .nil))) (.c c (.c d .nil))
theorem U9 (s t:List UInt8) (h0:lit false (!(fH (ae (ax s)) (ae (ax t))||(ae (ax s))==(ae (ax t))))=true) (a:lit false (fH (ae (ax s)) (ae (ax t)))=true) (b:lit false (!((((κ (ae (ax s))):Nat):Int)==(((κ (ae (ax t))):Nat):Int)))=true) (d:CO 105 [.str s] (.ret (.str (ae (ax s))))) (c:CO 105 [.str t] (.ret (.str (ae (ax t))))):CO 143 [.str s,.str t] (.ret (ω 0)):=pK [] 3 0 (.c h0 (.c a (.c b .nil))) (.c c (.c d .nil))
theorem EG (l:List UInt8) (c:UInt8):ax (l++ [c])=ax l*256+c.toNat:=by
 unfold ax;rw [List.foldl_append];rfl
theorem I9 {x:Nat} (h:x<256):(π x).toNat=x:=by
 rw [Xw2];exact Xjl h
theorem lu (x:Nat) (c:x<9223372036854775808):CO 65 [ω (x:Int)] (.ret (.str (ae x))):=by
 rcases Xq1 x with rfl|h0
 ·exact Zr 0 rfl (jg [] (by simp))
 ·have h:=Zq x;have e:∀ k,γ (η .u8 (Xxc (x:Int) (2^k)))=x / 2^k % 256:=by
   intro k;rw [aai,w8u,aS]
  simp only [show min 56 64=56 from rfl,show min 48 64=48 from rfl,show min 40 64=40 from rfl,show min 32 64=32 from rfl,show min 24 64=24 from rfl,show min 16 64=16 from rfl,show min 8 64=8 from rfl,show min 0 64=0 from rfl,e] at h;have a:=jg [π (x / 2^56 % 256),π (x / 2^48 % 256),π (x / 2^40 % 256),π (x / 2^32 % 256),π (x / 2^24 % 256),π (x / 2^16 % 256),π (x / 2^8 % 256),π (x / 2^0 % 256)] (by simp);have b:ax [π (x / 2^56 % 256),π (x / 2^48 % 256),π (x / 2^40 % 256),π (x / 2^32 % 256),π (x / 2^24 % 256),π (x / 2^16 % 256),π (x / 2^8 % 256),π (x / 2^0 % 256)]=x:=by
   have t:∀ y,(π (y % 256)).toNat=y % 256:=fun y=>I9 (Xw7 _ (by omega))
   simp only [ax,Xqw,List.foldl_nil,t];omega
  rw [b] at a h;apply h
  ·rw [yK];exact Yq0 h0
  ·exact a
def Wv (s:List UInt8) (k:Nat):St:=(Vq s ((ax (s.take k):Nat):Int) (k:Int))
def JH (s:List UInt8) (k:Nat):St:=(Cm (ω ((ax (s.take k):Nat):Int)))
theorem CQ {s:List UInt8} {k:Nat} (h:k<s.length):ax (s.take (k+1))=ax (s.take k)*256+(s.getD k 0).toNat:=by
 rw [List.take_add_one,ν h,Xqj,ν h];exact EG _ _
theorem Gq (s:List UInt8) (k:Nat):ax (s.take k)≤ax s:=by
 rcases Xvg k s.length with h|h
 ·have e:s=s.take k++s.drop k:=(Xxn k s).symm;have:∀ (b a:List UInt8),ax a≤ax (a++b):=by
   intro b
   induction b with
   |nil=>intro a;simp
   |cons c r ih=>
    intro a;have d:=ih (a++ [c]);rw [EG,Δ] at d;simp only [List.cons_append,θ] at d;omega
  calc ax (s.take k)≤ax (s.take k++s.drop k):=this _ _
   _=ax s:=by rw [← e]
 ·rw [τ h];exact ζ _
theorem Qx {nt:Nat} (g:35≤nt) (s:List UInt8) (hs:s.length<2^40) (n:ax s<9223372036854775808):∀ (d k:Nat),k+d=s.length→aJ prog ap [] nt (au 0 (ag f147)) (fun _=> .exit 0) (Wv s) (JH s) k s.length:=by
 intro d
 induction d with
 |zero=>
  intro k i;have b:k=s.length:=by omega
  subst b;exact .done (Zo g s _ _ (by rw [yK];simp [lit]))
 | succ d ih=>
  intro k i;have e:k<s.length:=by omega
  refine .next ?_ (ih (k+1) (by omega))
  have a:=Zn g s (ax (s.take k)) k;rw [aS] at a;have h:=Gq s (k+1);have f:=CQ e;have o:(s.getD k 0).toNat<256:=UInt8.toNat_lt _;unfold Wv;rw [f];rw [f] at h;generalize (s.getD k 0).toNat=c at*
  generalize ax (s.take k)=v at*
  have l:η .i64 ((v:Int)*2^(min 8 64))=((v*256:Nat):Int):=by
   rw [show min 8 64=8 from rfl,dP]<;>omega
  have m:(((v*256:Nat):Int))+(c:Int)=((v*256+c:Nat):Int):=by omega
  have j:η .i64 (c:Int)=(c:Int):=sJ (by omega);rw [j,l,m,sJ (by omega)] at a;simp (disch:=first|omega|(simp [fV,gY]<;>omega)) only [Ug,GY,yK,H9,VU,sJ] at a;apply a<;>first|exact True.intro|omega|assumption|exact rfl
theorem vV {x k:Nat}:(ae x).length≤k↔x<2^(8*k):=by
 constructor
 ·intro h;have a:=jw (ae x);rw [bu] at a;exact Xqf a (Xqy (by omega) (by omega))
 ·exact iD
theorem YY (s:List UInt8) (hs:s.length<2^40) (h:ax s<9223372036854775808):CO 147 [.str s] (.ret (.tup [ω ((ax s:Nat):Int),.bool true])):=by
 have k:=jg s hs;have a:=bu (ax s);have j:(ae (ax s)).length≤8:=iD (Xqf h (by decide));have hloop:=fun nt (e:35≤nt)=>Qx e (ae (ax s)) (by omega) (by rw [a];exact h) (ae (ax s)).length 0 (by omega)
 have hless:aI (Cm (ω ((ax s:Nat):Int))) (JH (ae (ax s)) (ae (ax s)).length):=by
  unfold JH;rw [Xvn,a];exact aI.refl _
 have f:=Vb s (ax s);have i:=Vd s (ax s);have d:(ae (ax s)).length=8→((ae (ax s)).getD 0 0).toNat≤127:=by
  intro b;cases e:ae (ax s) with
  |nil=>rw [e] at b;cases b
  |cons c r=>
   rw [e] at b a;rw [jM] at a;have:r.length=7:=by simpa using b
   rw [this,show 256^7=72057594037927936 from rfl] at a;simp only [Xwx];omega
 generalize ae (ax s)=t at*
 by_cases b:t.length=8
 ·have g:=d b;simp (disch:=first|omega|(simp [fV,gY]<;>omega)) only [yK,H8,MC,KO,b,GY,NT,decide_true,H9] at f;apply f<;>first|exact True.intro|omega|assumption|exact rfl|skip
  exact aJ.blk hloop (by simp) rfl (aI.of ⟨rfl,rfl,rfl,trivial⟩) hless
 ·simp (disch:=first|omega|(simp [fV,gY]<;>omega)) only [NT,b,decide_false,H8,Xwu,yK,MC,KO] at i;apply i<;>first|exact True.intro|omega|assumption|exact rfl|skip
  exact aJ.blk hloop (by simp) rfl (aI.of ⟨rfl,rfl,rfl,trivial⟩) hless
theorem nY (s:List UInt8) (b:Nat) (hs:s.length<2^40) (e:b≤7) (c:ax s<2^(8*b)):CO 106 [.str s,ω (b:Int)] (.ret (.tup [ω ((ax s:Nat):Int),.bool true])):=by
 have h:=aeW s (ax s) b;have a:ax s<9223372036854775808:=Xqf c (Xqg (Xqy (by omega) (show 8*b≤63 by omega)) (by decide));have d:=vV.2 c;simp (disch:=first|omega|(simp [fV,gY]<;>omega)) only [yK,H8,MC,KO] at h;exact h (by omega) (jg s hs) (YY s hs a)
theorem Rt (s:List UInt8):CO 160 [.str s] (.ret (.bool (nR s))):=by
 cases s with
 |nil=>exact acy [] rfl
 | cons c r=>
  have h:=acz (c::r);have e:(!((((c::r).getD 0 0).toNat:Int)==((0:Nat):Int)))=nR (c::r):=by
   simp only [Xwx,nR];by_cases hc:c=0
   ·subst hc;rfl
   ·have:c.toNat ≠ 0:=fun h=>hc (by apply UInt8.toNat_inj.1;simpa using h)
    have a:((c.toNat:Int)==((0:Nat):Int))=false:=by simp;omega
    rw [a];simp [hc]
  rw [e] at h;apply h
  ·simp
  ·simp [lit];omega
theorem xN:∀ (a b:List UInt8),a.length=b.length→fH a b=decide (ax a<ax b)
 | [],[],_=>rfl
 | [],_::_,h=>by simp at h
 |_::_,[],h=>by simp at h
 | x::a,y::b,h=>by
  have c:a.length=b.length:=by simpa using h
  have g:=xN a b c;have i:=jw a;have k:=jw b;simp only [fH,g];rw [jM,jM,c,show (256:Nat)=2^8 from rfl,← Xzn];rw [c] at i;have f:decide (x<y)=decide (x.toNat<y.toNat):=by simp [UInt8.lt_iff_toNat_lt]
  have e:(x==y)=decide (x.toNat=y.toNat):=by
   by_cases h:x=y
   ·subst h;simp
   ·have:x.toNat ≠ y.toNat:=fun j=>h (UInt8.toNat_inj.1 j)
    simp [h,this]
  rw [f,e];generalize 2^(8*b.length)=M at*
  generalize ax a=u at*
  generalize ax b=v at*
  generalize x.toNat=p at*
  generalize y.toNat=q at*
  rcases Xxx p q with h3|h3|h3
  ·have d:(p+1)*M≤q*M:=Xx8 _ h3;rw [Xx5,Xvy] at d;rw [Yq0 h3,Yq0 (show p*M+u<q*M+v by omega)];rfl
  ·subst h3;rw [Yq1 (Xjh _),Yq0 rfl];simp
  ·have d:(q+1)*M≤p*M:=Xx8 _ h3;rw [Xx5,Xvy] at d;rw [Yq1 (show ¬ p<q by omega),Yq1 (show ¬ p=q by omega),Yq1 (show ¬ p*M+u<q*M+v by omega)];rfl
theorem yl {x y:Nat} (h:(ae x).length<(ae y).length):x<y:=by
 rcases Xvg x y with h1|h1
 ·exact h1
 ·have a:y≤ax (ae x):=by rw [bu];exact h1
  have:=oO a;omega
theorem Rk (s t:List UInt8) (hs:s.length<2^40) (g:t.length<2^40):CO 143 [.str s,.str t] (.ret (ω (XZ (ax s) (ax t)))):=by
 have d:=jg s hs;have c:=jg t g;have i:=bu (ax s);have j:=bu (ax t);unfold XZ;by_cases hl:(ae (ax s)).length=(ae (ax t)).length
 ·have b:=xN _ _ hl;rw [i,j] at b;have f:(ae (ax s)==ae (ax t))=decide (ax s=ax t):=by
   by_cases h:ax s=ax t
   ·rw [h];simp
   ·have:ae (ax s) ≠ ae (ax t):=fun k=>h (QW k)
    simp [h,this]
  have a:lit false (!((((ae (ax s)).length:Nat):Int)==(((ae (ax t)).length:Nat):Int)))=true:=by rw [hl];simp [lit]
  by_cases h1:ax s<ax t
  ·rw [if_pos h1];exact U7 s t (by rw [b,Yq0 h1];rfl) a d c
  ·rw [if_neg h1];by_cases e:ax t<ax s
   ·rw [if_pos e];exact U8 s t (by rw [b,f,Yq1 h1,Yq1 (show ¬ ax s=ax t by omega)];rfl) (by rw [b,Yq1 h1];rfl) a d c
   ·rw [if_neg e];exact U9 s t (by rw [b,f,Yq1 h1,Yq0 (show ax s=ax t by omega)];rfl) (by rw [b,Yq1 h1];rfl) a d c
 ·have a:lit true (!((((ae (ax s)).length:Nat):Int)==(((ae (ax t)).length:Nat):Int)))=true:=by rw [NT,Yq1 hl];rfl
  by_cases h1:(ae (ax s)).length<(ae (ax t)).length
  ·rw [if_pos (yl h1)];exact U5 s t (by rw [yK,Yq0 h1];rfl) a d c
  ·have e:=yl (show (ae (ax t)).length<(ae (ax s)).length by omega);rw [if_neg (by omega),if_pos e];exact U6 s t (by rw [yK,Yq1 h1];rfl) a d c
theorem ag_ (s t:List UInt8) (x y q r:Nat) (h0:(!((y:Int)==((0:Nat):Int)))=true) (c:lit false ((((κ (ae (ax t))):Nat):Int)==((0:Nat):Int))=true) (f:CO 105 [.str t] (.ret (.str (ae (ax t))))) (e:CO 106 [.str s,ω 7] (.ret (.tup [ω (x:Int),.bool true]))) (a:CO 106 [.str (ae (ax t)),ω 7] (.ret (.tup [ω (y:Int),.bool true]))) (d:CO 65 [ω (η .i64 (Int.tdiv (x:Int) (y:Int)))] (.ret (.str (ae q)))) (b:CO 65 [ω (Int.tmod (x:Int) (y:Int))] (.ret (.str (ae r)))):CO 146 [.str s,.str t] (.ret (.tup [.str (ae q),.str (ae r),.bool true])):=pK [0] 3 6 (.c h0 (.c h0 (.k 2 c .nil))) (.c b (.c d (.c a (.c e (.c f .nil)))))
theorem F9 (s t:List UInt8) (hs:s.length≤7) (q:t.length≤7) (h0:0<ax t):CO 146 [.str s,.str t] (.ret (.tup [.str (ae (ax s / ax t)),.str (ae (ax s % ax t)),.bool true])):=by
 have m:=jg t (by omega);have a:=bu (ax t);have l:(ae (ax t)).length≤t.length:=oO (ζ _);have f:ae (ax t) ≠ []:=fun h=>by have:=l_.1 h;omega
 have c:((ae (ax t)).length=0)=False:=by simp;exact f
 have e:ax s<2^(8*7):=Xqf (jw s) (Xqy (by omega) (by omega));have d:ax t<2^(8*7):=Xqf (jw t) (Xqy (by omega) (by omega));have k:=nY s 7 (by omega) (by omega) e;have b:=nY (ae (ax t)) 7 (by omega) (by omega) (by rw [a];exact d);rw [a] at b;have i:ax s<9223372036854775808:=Xqf e (by decide);have j:ax t<9223372036854775808:=Xqf d (by decide);have p:=Xwk (ax s) (ax t);have r:=Nat.mod_le (ax s) (ax t);have n:=lu (ax s / ax t) (by omega);have o:=lu (ax s % ax t) (by omega);have h:=ag_ s t (ax s) (ax t) (ax s / ax t) (ax s % ax t);have g:(ax t=0)=False:=by simp;omega
 clear e d hs;simp (disch:=first|omega|(simp [fV,gY]<;>omega)) only [NT,g,decide_false,Xwu,c,H8,Yz,sJ,YA] at h;apply h<;>first|exact True.intro|omega|assumption|exact rfl
theorem acu {nt:Nat} (a:25≤nt) (s t q r:List UInt8) (h0:lit true (decide (((0:Nat):Int)<(((κ t):Nat):Int)))=true) (b:CO 146 [.str s,.str t] (.ret (.tup [.str q,.str r,.bool true]))):ψ nt f145 (Vr s t) (.normal) (Vr t r):=pJ 145 [] 1 1 (.c h0 .nil) (.c b .nil) a
theorem acv {nt:Nat} (a:25≤nt) (s t q r:List UInt8) (h0:lit false (decide (((0:Nat):Int)<(((κ t):Nat):Int)))=true):ψ nt f145 (Vr s t) (.exit 0) ⟨[(0,.str s)],[],.dead,[]⟩:=pJ 145 [] 1 0 (.c h0 .nil) (.nil) a
theorem acr (s t g:List UInt8) (c:CO 105 [.str s] (.ret (.str (ae (ax s))))) (b:CO 105 [.str t] (.ret (.str (ae (ax t))))) (a:LB 25 0 f145 ⟨[(0,.str (ae (ax s))),(1,.str (ae (ax t))),(4,.str []),(6,.dead),(14,.dead)],[],.dead,[]⟩ (.normal) ⟨[(0,.str g)],[],.dead,[]⟩):CO 145 [.str s,.str t] (.ret (.str g)):=pK [0] 0 0 .nil (.l a (.c b (.c c .nil)))
def acs (p:Nat × Nat):St:=(Vr (ae p.1) (ae p.2))
def WI (x:Nat):St:=⟨[(0,.str (ae x))],[],.dead,[]⟩
theorem OM {nt:Nat} (d:25≤nt):∀ (n y x:Nat),y<n→(ae x).length≤7→(ae y).length≤7→aJ prog ap [] nt (au 0 (ag f145)) (fun _=> .exit 0) acs WI (x,y) (Xx6 x y):=by
 intro n
 induction n with
 |zero=>intro y x h;omega
 | succ n ih=>
  intro y x h g e;rcases Xq1 y with rfl|h0
  ·rw [Nat.gcd_zero_right];refine .done ?_;unfold acs WI;rw [g_];exact acv d (ae x) [] [] [] rfl
  ·have hm:=Xw7 x h0;have f:(ae (x % y)).length≤7:=by
    have:x % y≤ax (ae y):=by rw [bu];omega
    have:=oO this;omega
   have hnext:=ih (x % y) y (by omega) e f;rw [show Xx6 y (x % y)=Xx6 x y by rw [Xkt y,← Nat.gcd_rec,Xkt]] at hnext;refine .next ?_ hnext
   have b:=F9 (ae x) (ae y) g e (by rw [bu];exact h0);rw [bu,bu] at b;have c:ae y ≠ []:=fun h=>by have:=l_.1 h;omega
   have a:0<(ae y).length:=by
    cases b:ae y with
    |nil=>exact absurd b c
    |cons _ _=>simp
   exact acu d (ae x) (ae y) _ _ (by rw [yK,H9];exact Yq0 a) b
theorem MX (s t:List UInt8) (hs:s.length≤7) (d:t.length≤7):CO 145 [.str s,.str t] (.ret (.str (ae (Xx6 (ax s) (ax t))))):=by
 have c:(ae (ax s)).length≤s.length:=oO (ζ _);have b:(ae (ax t)).length≤t.length:=oO (ζ _);exact acr s t _ (jg s (by omega)) (jg t (by omega)) (aJ.blk (fun nt a=>OM a (ax t+1) (ax t) (ax s) (by omega) (by omega) (by omega)) (by simp) rfl (aI.of ⟨rfl,rfl,trivial⟩) (aI.of ⟨rfl,trivial⟩))
theorem acb (a:Bool) (n d:List UInt8) (g:Nat) (h0:lit true (!(nR n))=true) (c:CO 160 [.str n] (.ret (.bool (nR n)))) (b:CO 160 [.str d] (.ret (.bool (nR d)))):CO 114 [Ω a n d] (.ret (.bool false)):=pK [] 3 7 (.k 2 h0 (.n 2 .nil)) (.c b (.c c .nil))
theorem acd (a:Bool) (n d:List UInt8) (g:Nat) (h0:lit true (!(nR d))=true) (b:lit false (!(nR n))=true) (e:CO 160 [.str n] (.ret (.bool (nR n)))) (c:CO 160 [.str d] (.ret (.bool (nR d)))):CO 114 [Ω a n d] (.ret (.bool false)):=pK [] 3 6 (.k 1 h0 (.c b (.n 2 .nil))) (.c c (.c e .nil))
theorem ace (a:Bool) (n d:List UInt8) (g:Nat) (h0:lit true (d== [])=true) (b:lit false (!(nR d))=true) (c:lit false (!(nR n))=true) (f:CO 160 [.str n] (.ret (.bool (nR n)))) (e:CO 160 [.str d] (.ret (.bool (nR d)))):CO 114 [Ω a n d] (.ret (.bool false)):=pK [] 3 4 (.c h0 (.k 1 b (.c c (.n 2 .nil)))) (.c e (.c f .nil))
theorem acf (a:Bool) (n d:List UInt8) (g:Nat) (h0:lit true (!a)=true) (c:lit true (n== [])=true) (f:lit false (d== [])=true) (k:lit false (!(nR d))=true) (h:lit false (!(nR n))=true) (j:CO 160 [.str n] (.ret (.bool (nR n)))) (i:CO 160 [.str d] (.ret (.bool (nR d)))) (b:CO 65 [ω 1] (.ret (.str (ae 1)))) (e:CO 143 [.str d,.str (ae 1)] (.ret (ω (XZ (ax d) (ax (ae 1)))))):CO 114 [Ω a n d] (.ret (.bool ((XZ (ax d) (ax (ae 1)))==((0:Nat):Int)))):=pK [] 5 24 (.k 1 h0 (.k 1 c (.k 1 f (.k 1 k (.c h (.n 2 .nil)))))) (.c e (.c b (.c i (.c j .nil))))
theorem acg (a:Bool) (n d:List UInt8) (g:Nat) (h0:lit false (!a)=true) (b:lit true (n== [])=true) (c:lit false (d== [])=true) (i:lit false (!(nR d))=true) (e:lit false (!(nR n))=true) (h:CO 160 [.str n] (.ret (.bool (nR n)))) (f:CO 160 [.str d] (.ret (.bool (nR d)))):CO 114 [Ω a n d] (.ret (.bool false)):=pK [] 5 8 (.c h0 (.k 1 b (.k 1 c (.k 1 i (.c e (.n 2 .nil)))))) (.c f (.c h .nil))
theorem ach (a:Bool) (n d:List UInt8) (g:Nat) (h0:lit false (n== [])=true) (e:lit false (d== [])=true) (h:lit false (!(nR d))=true) (k:lit false (!(nR n))=true) (j:CO 160 [.str n] (.ret (.bool (nR n)))) (i:CO 160 [.str d] (.ret (.bool (nR d)))) (b:CO 145 [.str n,.str d] (.ret (.str (ae g)))) (f:CO 65 [ω 1] (.ret (.str (ae 1)))) (c:CO 143 [.str (ae g),.str (ae 1)] (.ret (ω (XZ (ax (ae g)) (ax (ae 1)))))):CO 114 [Ω a n d] (.ret (.bool ((XZ (ax (ae g)) (ax (ae 1)))==((0:Nat):Int)))):=pK [] 4 0 (.k 2 h0 (.k 1 e (.k 1 h (.c k (.n 2 .nil))))) (.c c (.c f (.c b (.c i (.c j .nil)))))
theorem ab8 (a:Bool) (n d:List UInt8) (g:Nat) (h0:lit true (n== [])=true) (b:CO 65 [ω 1] (.ret (.str (ae 1)))):CO 103 [.bool a,.str n,.str d] (.ret (Ω false [] (ae 1))):=pK [] 1 1 (.k 4 h0 .nil) (.c b .nil)
theorem ab9 (a:Bool) (n d:List UInt8) (g:Nat) (h0:lit false (n== [])=true) (e:CO 145 [.str n,.str d] (.ret (.str (ae g)))) (c:CO 146 [.str n,.str (ae g)] (.ret (.tup [.str (ae (ax n / g)),.str (ae (ax n % g)),.bool true]))) (b:CO 146 [.str d,.str (ae g)] (.ret (.tup [.str (ae (ax d / g)),.str (ae (ax d % g)),.bool true]))):CO 103 [.bool a,.str n,.str d] (.ret (Ω a (ae (ax n / g)) (ae (ax d / g)))):=pK [] 1 0 (.k 4 h0 .nil) (.c b (.c c (.c e .nil)))
theorem aci (a:Bool) (n d:List UInt8) (h0:lit true (!(D_ a n d))=true) (c:CO 114 [Ω a n d] (.ret (.bool (D_ a n d)))) (b:CO 65 [ω 1] (.ret (.str (ae 1)))):CO 102 [Ω a n d] (.ret (Ω false [] (ae 1))):=pK [] 1 1 (.k 4 h0 (.n 3 .nil)) (.c b (.c c .nil))
theorem acj (a:Bool) (n d:List UInt8) (h0:lit false (!(D_ a n d))=true) (b:CO 114 [Ω a n d] (.ret (.bool (D_ a n d)))):CO 102 [Ω a n d] (.ret (Ω a n d)):=pK [] 1 0 (.k 7 h0 (.n 3 .nil)) (.c b .nil)
theorem ab_ (v:Int) (x z:Nat) (h0:lit true (decide (((0:Nat):Int)≤v))=true) (b:CO 65 [ω v] (.ret (.str (ae z)))) (a:CO 65 [ω 1] (.ret (.str (ae 1)))):CO 25 [ω v] (.ret (Ω false (ae z) (ae 1))):=pK [] 1 1 (.k 4 h0 .nil) (.c a (.c b .nil))
theorem Zw (s t:List UInt8) (x y z:Nat) (c:CO 106 [.str s,ω 3] (.ret (.tup [ω (x:Int),.bool true]))) (b:CO 106 [.str t,ω 4] (.ret (.tup [ω (y:Int),.bool true]))) (a:CO 65 [ω (η .i64 ((x:Int)*(y:Int)))] (.ret (.str (ae z)))):CO 104 [.str s,.str t] (.ret (.str (ae z))):=pK [] 2 3 (.n 2 .nil) (.c a (.c b (.c c .nil)))
theorem Nr {x:Nat}:((XZ x (ax (ae 1)))==((0:Nat):Int))=decide (x=1):=by
 rw [bu];unfold XZ;rcases Xxx x 1 with h|h|h
 ·rw [if_pos h,Yq1 (by omega)];rfl
 ·rw [if_neg (by omega),if_neg (by omega),Yq0 h];rfl
 ·rw [if_neg (by omega),if_pos h,Yq1 (by omega)];rfl
theorem J3 (a:Bool) (n d:List UInt8) (x:n.length≤7) (y:d.length≤7):CO 114 [Ω a n d] (.ret (.bool (D_ a n d))):=by
 have i:=Rt n;have j:=Rt d;have r:=lu 1 (by omega);have t:(ae 1).length≤1:=iD (by omega);have u:=Rk d (ae 1) (by omega) (by omega);have v:=MX n d x y;have p:=@Nr (ax d);cases b:nR n with
 |false=>
  have e:D_ a n d=false:=by unfold D_;rw [b];rfl
  rw [e];exact acb a n d 0 (by rw [b];rfl) i j
 | true=>
  cases c:nR d with
  |false=>
   have e:D_ a n d=false:=by unfold D_;rw [c];simp
   rw [e];exact acd a n d 0 (by rw [c];rfl) (by rw [b];rfl) i j
  | true=>
   have q:=(Bl n).1 b;have s:=(Bl d).1 c;by_cases hd0:d= []
   ·have e:D_ a n d=false:=by
     subst hd0;unfold D_;simp [show ax []=0 from rfl]
    rw [e];exact ace a n d 0 (by rw [hd0];rfl) (by rw [c];rfl) (by rw [b];rfl) i j
   ·have k:0<ax d:=by
     rcases Xq1 (ax d) with h|h
     ·rw [h,g_] at s;exact absurd s.symm hd0
     ·exact h
    have g:(d== [])=false:=by simpa using hd0
    by_cases hn0:n= []
    ·have f:(n== [])=true:=by simpa using hn0
     have m:ax n=0:=by rw [hn0];rfl
     cases a with
     | false=>
      have h:=acf false n d 0 rfl (by rw [f];rfl) (by rw [g];rfl) (by rw [c];rfl) (by rw [b];rfl) i j r u;rw [p] at h;have e:D_ false n d=decide (ax d=1):=by
       rw [Xq2,rP,m,Xw9];simp [b,c];omega
      rw [e];exact h
     | true=>
      have h:=acg true n d 0 rfl (by rw [f];rfl) (by rw [g];rfl) (by rw [c];rfl) (by rw [b];rfl) i j;have e:D_ true n d=false:=by
       rw [Bool.eq_false_iff];intro h;have:=(rP.1 h).2.2.2.2 rfl;omega
      rw [e];exact h
    ·have f:(n== [])=false:=by simpa using hn0
     have l:0<ax n:=by
      rcases Xq1 (ax n) with h|h
      ·rw [h,g_] at q;exact absurd q.symm hn0
      ·exact h
     have w:(ae (Xx6 (ax n) (ax d))).length≤d.length:=oO (Xwb _ k);have o:=Rk (ae (Xx6 (ax n) (ax d))) (ae 1) (by omega) (by omega);have h:=ach a n d (Xx6 (ax n) (ax d)) (by rw [f];rfl) (by rw [g];rfl) (by rw [c];rfl) (by rw [b];rfl) i j v r o;rw [Nr,bu] at h;have e:D_ a n d=decide (Xx6 (ax n) (ax d)=1):=by
      rw [Xq2,rP];simp [b,c,k,l]
     rw [e];exact h
structure RQ where
 neg:Bool
 n:Nat
 d:Nat
def RQ.ok (q:RQ):Prop:=0<q.d∧Xx6 q.n q.d=1∧(q.neg=true→0<q.n)
def qA (q:RQ):AV:= .agg [.bool q.neg,.str (ae q.n),.str (ae q.d)]
def q0:RQ:=⟨false,0,1⟩
def FK (neg:Bool) (n d:Nat):RQ:=⟨neg && decide (0<n),n / Xx6 n d,d / Xx6 n d⟩
def vQ (neg:Bool) (n d:List UInt8):RQ:=if D_ neg n d=true then ⟨neg,ax n,ax d⟩ else q0
theorem ab7:q0.ok:=⟨by decide,by decide,by simp [q0]⟩
theorem UH {a:Bool} {n d:List UInt8} (h:D_ a n d=true):Ω a n d=qA ⟨a,ax n,ax d⟩:=by
 obtain ⟨c,b,_⟩:=rP.1 h;unfold qA;rw [(Bl n).1 c,(Bl d).1 b]
theorem TB (a:Bool) (n d:List UInt8):(vQ a n d).ok:=by
 unfold vQ;split
 ·rename_i h;obtain ⟨_,_,e,c,b⟩:=rP.1 h;exact ⟨e,c,b⟩
 ·exact ab7
theorem UM {a:Bool} {n d:Nat} (h:0<d):(FK a n d).ok:=by
 have b:0<Xx6 n d:=Xzz _ h;refine ⟨Xk1 (Xwb _ h) b, ?_, ?_⟩
 ·show Xx6 (n / Xx6 n d) (d / Xx6 n d)=1;rw [Nat.gcd_div (Nat.gcd_dvd_left _ _) (Nat.gcd_dvd_right _ _),Xku b]
 ·intro c;have:0<n:=by simp [FK] at c;exact c.2
  exact Xk1 (Nat.gcd_le_left _ this) b
theorem v_ (a:Bool) (n d:List UInt8) (e:n.length≤7) (f:d.length≤7):CO 102 [Ω a n d] (.ret (qA (vQ a n d))):=by
 have c:=J3 a n d e f;unfold vQ;cases b:D_ a n d with
 |false=>
  have h:=aci a n d (by rw [b];rfl) c (lu 1 (by omega));rw [if_neg (by simp)];unfold qA q0;rw [g_];exact h
 |true=>
  have h:=acj a n d (by rw [b];rfl) c;rw [if_pos rfl,← UH b];exact h
theorem Il (a:Bool) (n d:Nat) (f:(ae n).length≤7) (g:(ae d).length≤7) (h0:0<d):CO 103 [.bool a,.str (ae n),.str (ae d)] (.ret (qA (FK a n d))):=by
 have i:=MX (ae n) (ae d) f g;rw [bu,bu] at i;have b:0<Xx6 n d:=Xzz _ h0;have k:(ae (Xx6 n d)).length≤(ae d).length:=oO (by rw [bu];exact Xwb _ h0);have e:=F9 (ae n) (ae (Xx6 n d)) f (by omega) (by rw [bu];exact b);have j:=F9 (ae d) (ae (Xx6 n d)) g (by omega) (by rw [bu];exact b);simp only [bu] at e j;rcases Xq1 n with rfl|hp
 ·have h:=ab8 a (ae 0) (ae d) 0 (by rw [g_];rfl) (lu 1 (by omega));unfold qA FK;simp only [Xjh,decide_false,Bool.and_false,Xw9,Nat.zero_div,Xku h0,g_];rw [g_] at h;exact h
 ·have c:ae n ≠ []:=fun h=>by have:=l_.1 h;omega
  have h:=ab9 a (ae n) (ae d) (Xx6 n d) (by simp [lit,c]);simp only [bu] at h;unfold qA FK;simp only [hp,decide_true,Xj4];exact h i e j
theorem ag9 (a:Nat) (b:a<9223372036854775808):CO 25 [ω (a:Int)] (.ret (aco false a 1)):=
 ab_ (a:Int) 0 a (by simp [lit]) (lu a b) (lu 1 (by omega))
theorem QU (s t:List UInt8) (hs:s.length≤3) (f:t.length≤4):CO 104 [.str s,.str t] (.ret (.str (ae (ax s*ax t)))):=by
 have e:ax s<2^(8*3):=Xqf (jw s) (Xqy (by omega) (by omega));have c:ax t<2^(8*4):=Xqf (jw t) (Xqy (by omega) (by omega));have b:=nY s 3 (by omega) (by omega) e;have d:=nY t 4 (by omega) (by omega) c;have hm:ax s*ax t<9223372036854775808:=Xx3 (Nat.mul_le_mul (show ax s≤16777215 by omega) (show ax t≤4294967295 by omega)) (by omega);have a:=lu (ax s*ax t) hm;rw [← VI hm] at a;exact Zw s t _ _ _ b d a
theorem acl (s0 c:Bool) (f e n1 d:List UInt8) (a b r:RQ) (i:((ae b.n)== [])=false) (l:CO 102 [Ω s0 f e] (.ret (.agg [.bool a.neg,.str (ae a.n),.str (ae a.d)]))) (k:CO 102 [Ω c n1 d] (.ret (.agg [.bool b.neg,.str (ae b.n),.str (ae b.d)]))) (g:CO 104 [.str (ae a.n),.str (ae b.d)] (.ret (.str (ae (a.n*b.d))))) (j:CO 104 [.str (ae a.d),.str (ae b.n)] (.ret (.str (ae (a.d*b.n))))) (h:CO 103 [.bool (!(a.neg==b.neg)),.str (ae (a.n*b.d)),.str (ae (a.d*b.n))] (.ret (.agg [.bool r.neg,.str (ae r.n),.str (ae r.d)]))):CO 64 [Ω s0 f e,Ω c n1 d] (.ret (.tup [.agg [.bool r.neg,.str (ae r.n),.str (ae r.d)],.bool true])):=pK [] 1 0 (.k 10 (aj i) (.n 9 .nil)) (.c h (.c j (.c g (.c k (.c l .nil)))))
def abU (a b:RQ):RQ:=FK (!(a.neg==b.neg)) (a.n*b.n) (a.d*b.d)
def acm (a b:RQ):RQ:=FK (!(a.neg==b.neg)) (a.n*b.d) (a.d*b.n)
theorem QH (x:Nat):x<2^(8*(ae x).length):=vV.1 (ζ _)
theorem yZ (x y:Nat):(ae (x*y)).length≤(ae x).length+(ae y).length:=by
 refine iD ?_;rw [Nat.mul_add,Xz5];exact Nat.mul_lt_mul'' (QH x) (QH y)
theorem WB (s:List UInt8):(ae (ax s)).length≤s.length:=iD (jw s)
theorem FC (s:Bool) (n d:List UInt8):(ae (vQ s n d).n).length≤n.length∧(ae (vQ s n d).d).length≤d.length+1:=by
 unfold vQ;split
 ·exact ⟨WB n,Nat.le_succ_of_le (WB d)⟩
 ·refine ⟨by show (ae 0).length≤_;rw [g_];simp, ?_⟩;show (ae 1).length≤_;have:(ae 1).length≤1:=iD (by decide);omega
theorem MN (x y:Nat) (b:(ae x).length≤3) (a:(ae y).length≤4):CO 104 [.str (ae x),.str (ae y)] (.ret (.str (ae (x*y)))):=by
 have h:=QU (ae x) (ae y) (by omega) (by omega);rw [bu,bu] at h;exact h
theorem U4 (s0 f:Bool) (d e n1 c:List UInt8) (l:d.length≤3) (n:e.length≤2) (q:n1.length≤3) (t:c.length≤2) (h0:0<(vQ f n1 c).n):CO 64 [Ω s0 d e,Ω f n1 c] (.ret (.tup [qA (acm (vQ s0 d e) (vQ f n1 c)),.bool true])):=by
 have g:=v_ s0 d e (by omega) (by omega);have j:=v_ f n1 c (by omega) (by omega);obtain ⟨k,p⟩:=FC s0 d e;obtain ⟨m,r⟩:=FC f n1 c;have i:=TB s0 d e;generalize vQ s0 d e=a at*
 generalize vQ f n1 c=b at*
 have s:=yZ a.n b.d;have o:=yZ a.d b.n;exact acl s0 f d e n1 c a b (acm a b) (by rw [Yq2];intro h;rw [l_] at h;omega) g j (MN a.n b.d (by omega) (by omega)) (MN a.d b.n (by omega) (by omega)) (Il _ _ _ (by omega) (by omega) (Xvz i.1 h0))
inductive Oq where
 |err (e:Int)
 |val (q:RQ)
theorem ack (s0 c:Bool) (f e n1 d:List UInt8) (a b r:RQ) (k:CO 102 [Ω s0 f e] (.ret (.agg [.bool a.neg,.str (ae a.n),.str (ae a.d)]))) (j:CO 102 [Ω c n1 d] (.ret (.agg [.bool b.neg,.str (ae b.n),.str (ae b.d)]))) (g:CO 104 [.str (ae a.n),.str (ae b.n)] (.ret (.str (ae (a.n*b.n))))) (i:CO 104 [.str (ae a.d),.str (ae b.d)] (.ret (.str (ae (a.d*b.d))))) (h:CO 103 [.bool (!(a.neg==b.neg)),.str (ae (a.n*b.n)),.str (ae (a.d*b.d))] (.ret (.agg [.bool r.neg,.str (ae r.n),.str (ae r.d)]))):CO 131 [Ω s0 f e,Ω c n1 d] (.ret (.agg [.bool r.neg,.str (ae r.n),.str (ae r.d)])):=pK [] 0 0 (.n 18 .nil) (.c h (.c i (.c g (.c j (.c k .nil)))))
theorem Ri (s0 f:Bool) (d e n1 c:List UInt8) (l:d.length≤3) (n:e.length≤2) (q:n1.length≤3) (t:c.length≤2):CO 131 [Ω s0 d e,Ω f n1 c] (.ret (qA (abU (vQ s0 d e) (vQ f n1 c)))):=by
 have g:=v_ s0 d e (by omega) (by omega);have i:=v_ f n1 c (by omega) (by omega);obtain ⟨k,p⟩:=FC s0 d e;obtain ⟨m,r⟩:=FC f n1 c;have h:=TB s0 d e;have j:=TB f n1 c;generalize vQ s0 d e=a at*
 generalize vQ f n1 c=b at*
 have s:=yZ a.n b.n;have o:=yZ a.d b.d;exact ack s0 f d e n1 c a b (abU a b) g i (MN a.n b.n (by omega) (by omega)) (MN a.d b.d (by omega) (by omega)) (Il _ _ _ (by omega) (by omega) (Xvz h.1 j.1))
structure Ty where
 tr:Bool
 m:Int
 d:Int
def EE (t:Ty):List AV:= [.bool t.tr,ω t.m,ω t.d]
def qW (m d:Int):Bool:=decide (-3≤m∧m≤3∧ -3≤d∧d≤3)
def kC (t:Ty):Bool:=cond t.tr ((t.m==0) && (t.d==0)) (qW t.m t.d)
theorem Rx (t:Ty):CO 171 [.agg [ω t.m,ω t.d]] (.ret (.bool (qW t.m t.d))):=by
 rcases tf (decide ((-3:Int)≤t.m)) with b0|b0
 ·rcases tf (decide (t.m≤((3:Nat):Int))) with b1|b1
  ·rcases tf (decide ((-3:Int)≤t.d)) with b2|b2
   ·have e:qW t.m t.d=(decide (t.d≤((3:Nat):Int))):=by
     unfold qW;simp only [decide_eq_true_eq,decide_eq_false_iff_not,beq_iff_eq,Yq2] at*
     first|omega|(split at b0<;>omega)|(rw [Xq2];simp only [decide_eq_true_eq];first|omega|(split at b0<;>split<;>omega))
    rw [e];exact pK [] 3 7 (.k 1 (ai b2) (.k 1 (ai b1) (.k 1 (ai b0) (.n 1 .nil)))) (.nil)
   ·have e:qW t.m t.d=false:=by
     unfold qW;simp only [decide_eq_true_eq,decide_eq_false_iff_not,beq_iff_eq,Yq2] at*
     first|omega|(split at b0<;>omega)|(rw [Xq2];simp only [decide_eq_true_eq];first|omega|(split at b0<;>split<;>omega))
    rw [e];exact pK [] 3 3 (.c (aj b2) (.k 1 (ai b1) (.k 1 (ai b0) (.n 1 .nil)))) (.nil)
  ·have e:qW t.m t.d=false:=by
    unfold qW;simp only [decide_eq_true_eq,decide_eq_false_iff_not,beq_iff_eq,Yq2] at*
    first|omega|(split at b0<;>omega)|(rw [Xq2];simp only [decide_eq_true_eq];first|omega|(split at b0<;>split<;>omega))
   rw [e];exact pK [] 3 1 (.k 1 (aj b1) (.k 1 (ai b0) (.n 1 .nil))) (.nil)
 ·have e:qW t.m t.d=false:=by
   unfold qW;simp only [decide_eq_true_eq,decide_eq_false_iff_not,beq_iff_eq,Yq2] at*
   first|omega|(split at b0<;>omega)|(rw [Xq2];simp only [decide_eq_true_eq];first|omega|(split at b0<;>split<;>omega))
  rw [e];exact pK [] 3 0 (.k 2 (aj b0) (.n 1 .nil)) (.nil)
theorem o_ (t:Ty):CO 170 [.agg (EE t)] (.ret (.bool (kC t))):=by
 rcases tf ((t.tr==true) && ((t.m==((0:Nat):Int)) && ((t.d==((0:Nat):Int)) && true))) with b0|b0
 ·have e:kC t=true:=by first|(simp only [kC,b0]<;>rfl)|(unfold kC;cases a:t.tr<;>simp_all)
  rw [e];exact pK [] 1 1 (.c (ai b0) (.n 3 .nil)) (.nil)
 ·rcases tf t.tr with b1|b1
  ·have e:kC t=false:=by first|(simp only [kC,b0,b1]<;>rfl)|(unfold kC;cases a:t.tr<;>simp_all)
   rw [e];exact pK [] 2 0 (.c (dM b1) (.k 1 (aj b0) (.n 3 .nil))) (.nil)
  ·have e:kC t=(qW t.m t.d):=by first|(simp only [kC,b0,b1]<;>rfl)|(unfold kC;cases a:t.tr<;>simp_all)
   rw [e];exact pK [] 2 2 (.k 2 (fK b1) (.k 1 (aj b0) (.n 3 .nil))) (.c (Rx t) .nil)
theorem wk1 {i:Nat} (h:i<2^62):ω (η .i64 ((i:Int)+((1:Nat):Int)))= ω ((i+1:Nat):Int):=by rw [dP]<;>first|rfl|omega
def FO (op:Int):Bool:=decide ((5≤op∧op≤8)∨op=24)
structure Sg where
 op:Int
 name:List UInt8
 ty:Ty
def IV (s:Sg):List AV:= [ω s.op,.str s.name,.bool s.ty.tr,ω s.ty.m,ω s.ty.d]
def iq (l:List Sg):List AV:=l.flatMap IV
theorem Ci (x:Sg) (r:List Sg):iq (x::r)=IV x++iq r:=rfl
theorem Vk (a b:List Sg):iq (a++b)=iq a++iq b:=by unfold iq;rw [Xql]
theorem mD (l:List Sg):(iq l).length=l.length*5:=by
 induction l with
 |nil=>rfl
 |cons x r ih=>rw [Ci,ξ,ih,Γ];simp [IV];omega
theorem zf {p r:List Sg} {x:Sg} {k:Nat} (h:k=p.length):ε (γ (k:Int)*5) (iq (p++x::r))=IV x++iq r:=by
 subst h;rw [aS,Vk,Ci,← mD,List.drop_left]
def nM (s:Sg) (op:Int) (nm:List UInt8):Bool:=(s.op==op) && ((s.name==nm) && (FO op && (kC s.ty && (!(op==((24:Nat):Int))|| !s.ty.tr))))
def Ag (l:List Sg) (op:Int) (nm:List UInt8):Option Ty:=(l.find? fun s=>nM s op nm).map (·.ty)
def zT:Ty:=⟨false,0,0⟩
def Nl (hit:Sg→Bool) (_:Unit) (s:Sg):Unit ⊕ Option Ty:=if hit s then .inr (some s.ty) else .inl ()
theorem Vj (hit:Sg→Bool) (l:List Sg):goL (Nl hit) (fun _=>none) l ()=(l.find? hit).map (·.ty):=by
 induction l with
 |nil=>rfl
 |cons s r ih=>
  simp only [goL,Nl,List.find?_cons];cases h:hit s with
  |true=>simp
  |false=>simpa using ih
def fiE:Option Ty→aY
 |none=> .exit 0
 |some _=> .ret
theorem nU (op:Int):CO 263 [ω op] (.ret (.bool (FO op))):=by
 rcases tf (decide (((5:Nat):Int)≤op)) with b0|b0
 ·rcases tf (decide (op≤((8:Nat):Int))) with b1|b1
  ·have e:FO op=true:=by
    simp only [decide_eq_true_eq,decide_eq_false_iff_not,beq_iff_eq,Yq2] at*
    unfold FO;first|(rw [decide_eq_true_eq];omega)|(rw [Xq2];simp only [decide_eq_true_eq,beq_iff_eq];omega)
   rw [e];exact pK [] 2 3 (.c (ai b1) (.c (ai b0) .nil)) (.nil)
  ·have e:FO op=(op==((24:Nat):Int)):=by
    simp only [decide_eq_true_eq,decide_eq_false_iff_not,beq_iff_eq,Yq2] at*
    unfold FO;first|(rw [decide_eq_true_eq];omega)|(rw [Xq2];simp only [decide_eq_true_eq,beq_iff_eq];omega)
   rw [e];exact pK [] 2 1 (.c (aj b1) (.c (ai b0) .nil)) (.nil)
 ·have e:FO op=(op==((24:Nat):Int)):=by
   simp only [decide_eq_true_eq,decide_eq_false_iff_not,beq_iff_eq,Yq2] at*
   unfold FO;first|(rw [decide_eq_true_eq];omega)|(rw [Xq2];simp only [decide_eq_true_eq,beq_iff_eq];omega)
  rw [e];exact pK [] 2 0 (.k 1 (aj b0) .nil) (.nil)
def Oe (l:List Sg) (nn:Bool) (op:Int) (nm:List UInt8) (p:Nat × Unit):St:=⟨[(0,.sl (iq l) l.length nn),(1,ω op),(2,.str nm),(6,.ptr 0 0 0),(8,ω (p.1:Int))],[(0,⟨[.bool false,ω 0,ω 0],0,false,0,0,true⟩)],.dead,[]⟩
def KX:Option Ty→St
 |none=>X4
 |some t=> ⟨[(6,.ptr 0 0 0),(7,.bool true)],[(0,⟨[.bool t.tr,.int .i64 t.m,.int .i64 t.d],0,false,0,0,true⟩)],.dead,[]⟩
theorem Uu {nt:Nat} (e:52≤nt) (l:List Sg) (i:Bool) (op:Int) (b:List UInt8) (n:l.length<2^40):aJ prog ap [] nt (au 0 (ag f235)) fiE (Oe l i op b) (KX) (0,()) ((l.find? fun s=>nM s op b).map (·.ty)):=by
 rw [← Vj];refine aJ.goL (Nl fun s=>nM s op b) (fun _=>none) l (fun _ _=>True) ?_ ?_ l [] () rfl trivial
 ·intro p s r _ j _;have key:match nM s op b with
   |true=>ψ nt f235 (Oe l i op b (p.length,())) .ret (KX (some s.ty))
   |false=>ψ nt f235 (Oe l i op b (p.length,())) .normal (Oe l i op b (p.length+1,())):=by
   have c:ε (γ (p.length:Int)*5) (iq l)=IV s++iq r:=by rw [j];exact zf rfl
   have m:p.length+(r.length+1)=l.length:=by rw [j];simp
   generalize p.length=k at*
   have g:k<2^62:=by omega
   have h0:decide (((0:Nat):Int)≤(k:Int))=true:=Yq0 (by omega);have d:decide ((k:Int)<(l.length:Int))=true:=Yq0 (by omega);have f:=d;rcases tf (s.op==op) with a|a
   ·rcases tf (s.name==b) with b1|b1
    ·rcases tf (FO op) with b2|b2
     ·rcases tf (kC s.ty) with b3|b3
      ·rcases tf (op==((24:Nat):Int)) with b4|b4
       ·rcases tf s.ty.tr with b5|b5
        ·rw [show nM s op b=false by simp only [nM,a,b1,b2,b3,b4,b5]<;>rfl];exact pN 235 [] 7 31 (.c (dM b5) (.k 1 (dM b4) (.c (ai b3) (.k 3 (ai b2) (.c (ai b1) (.k 1 (ai a) (.k 7 h0 (.c d (.c (ai f) .nil))))))))) (.v 15 (.eq (wk1 g)) (.c (o_ s.ty) (.c (nU op) (.v 18 (.ppt c) .nil)))) e
        ·rw [show nM s op b=true by simp only [nM,a,b1,b2,b3,b4,b5]<;>rfl];exact pN 235 [] 7 95 (.k 4 (fK b5) (.k 1 (dM b4) (.c (ai b3) (.k 3 (ai b2) (.c (ai b1) (.k 1 (ai a) (.k 7 h0 (.c d (.c (ai f) .nil))))))))) (.c (o_ s.ty) (.c (nU op) (.v 18 (.ppt c) .nil))) e
       ·rw [show nM s op b=true by simp only [nM,a,b1,b2,b3,b4]<;>rfl];exact pN 235 [] 7 127 (.k 5 (fK b4) (.c (ai b3) (.k 3 (ai b2) (.c (ai b1) (.k 1 (ai a) (.k 7 h0 (.c d (.c (ai f) .nil)))))))) (.c (o_ s.ty) (.c (nU op) (.v 18 (.ppt c) .nil))) e
      ·rw [show nM s op b=false by simp only [nM,a,b1,b2,b3]<;>rfl];exact pN 235 [] 6 15 (.k 1 (aj b3) (.k 3 (ai b2) (.c (ai b1) (.k 1 (ai a) (.k 7 h0 (.c d (.c (ai f) .nil))))))) (.v 15 (.eq (wk1 g)) (.c (o_ s.ty) (.c (nU op) (.v 18 (.ppt c) .nil)))) e
     ·rw [show nM s op b=false by simp only [nM,a,b1,b2]<;>rfl];exact pN 235 [] 6 7 (.k 2 (aj b2) (.c (ai b1) (.k 1 (ai a) (.k 7 h0 (.c d (.c (ai f) .nil)))))) (.v 15 (.eq (wk1 g)) (.c (nU op) (.v 18 (.ppt c) .nil))) e
    ·rw [show nM s op b=false by simp only [nM,a,b1]<;>rfl];exact pN 235 [] 6 3 (.k 3 (aj b1) (.k 1 (ai a) (.k 7 h0 (.c d (.c (ai f) .nil))))) (.v 15 (.eq (wk1 g)) (.v 18 (.ppt c) .nil)) e
   ·rw [show nM s op b=false by simp only [nM,a]<;>rfl];exact pN 235 [] 6 1 (.k 4 (aj a) (.k 7 h0 (.c d (.c (ai f) .nil)))) (.v 15 (.eq (wk1 g)) (.v 18 (.ppt c) .nil)) e
  unfold Nl;cases h:nM s op b with
  |true=>rw [h] at key;simp only [h,if_true];exact key
  |false=>rw [h] at key;simp only [h,Xqe,if_false];exact ⟨key,trivial⟩
 ·intro _ _;have a:decide ((l.length:Int)<(l.length:Int))=false:=Yq1 (by omega);exact pN 235 [] 1 0 (.c (aj a) .nil) (.nil) e
theorem aaD (l:List Sg) (a:Bool) (op:Int) (b:List UInt8) (c:LB 52 0 f235 (X5 (.sl (iq l) l.length a) op b) (.normal) X4):CO 235 [.sl (iq l) l.length a,ω op,.str b] (.ret (.tup [.agg [.bool false,ω 0,ω 0],.bool false])):=pK [0] 0 0 (.n 4 .nil) (.l c .nil)
theorem aaE (l:List Sg) (a:Bool) (op:Int) (b:List UInt8) (t:Ty) (c:LB 52 0 f235 (X5 (.sl (iq l) l.length a) op b) (.ret) ⟨[(6,.ptr 0 0 0),(7,.bool true)],[(0,⟨[.bool t.tr,ω t.m,ω t.d],0,false,0,0,true⟩)],.dead,[]⟩):CO 235 [.sl (iq l) l.length a,ω op,.str b] (.ret (.tup [.agg [.bool t.tr,ω t.m,ω t.d],.bool true])):=pK [0] 0 0 (.n 3 .nil) (.l c .nil)
theorem G9 (l:List Sg) (c:Bool) (op:Int) (a:List UInt8) (d:l.length<2^40):CO 235 [.sl (iq l) l.length c,ω op,.str a] (.ret (.tup [.agg (EE ((Ag l op a).getD zT)),.bool (Ag l op a).isSome])):=by
 have hloop:=fun nt (hn:52≤nt)=>Uu hn l c op a d
 unfold Ag;cases f:(l.find? fun s=>nM s op a).map (·.ty) with
 |none=>
  rw [f] at hloop;have e:=aJ.blk (id:=0) (e':= .normal) (s:=Oe l c op a (0,())) (s':=KX none) hloop (by simp [fiE]) rfl (aI.refl _) (aI.refl _);exact aaD l c op a (fun nt b=>(e nt b).weak (aI.of ⟨rfl,rfl,rfl,rfl,rfl,trivial⟩) (aI.refl _))
 |some t=>
  rw [f] at hloop;have e:=aJ.blk (id:=0) (e':= .ret) (s:=Oe l c op a (0,())) (s':=KX (some t)) hloop (by simp [fiE]) rfl (aI.refl _) (aI.refl _);exact aaE l c op a t (fun nt b=>(e nt b).weak (aI.of ⟨rfl,rfl,rfl,rfl,rfl,trivial⟩) (aI.refl _))
theorem L8 (x:Nat):nR (ae x)=true:=(Bl _).2 (by rw [bu])
theorem aca (v:Int) (x z:Nat) (h0:lit false (decide (((0:Nat):Int)≤v))=true) (d:CO 65 [ω (η .i64 (0 - (η .i64 (v+((1:Nat):Int)))))] (.ret (.str (ae z)))) (c:CO 65 [ω 1] (.ret (.str (ae 1)))) (a:CO 66 [.str (ae z),.str (ae 1)] (.ret (.str (ae x)))) (b:CO 65 [ω 1] (.ret (.str (ae 1)))):CO 25 [ω v] (.ret (Ω true (ae x) (ae 1))):=pK [] 1 0 (.k 4 h0 .nil) (.c b (.c a (.c c (.c d .nil))))
theorem Zv (s t:List UInt8) (x y z:Nat) (c:CO 106 [.str s,ω 7] (.ret (.tup [ω (x:Int),.bool true]))) (b:CO 106 [.str t,ω 7] (.ret (.tup [ω (y:Int),.bool true]))) (a:CO 65 [ω (η .i64 ((x:Int)+(y:Int)))] (.ret (.str (ae z)))):CO 66 [.str s,.str t] (.ret (.str (ae z))):=pK [] 2 3 (.n 2 .nil) (.c a (.c b (.c c .nil)))
theorem YZ (q:RQ) (h:q.ok):D_ q.neg (ae q.n) (ae q.d)=true:=by
 rw [rP,bu,bu];exact ⟨L8 _,L8 _,h⟩
theorem UG {a:Bool} {n:Nat} (h:a=true→0<n):(⟨a,n,1⟩:RQ).ok:=⟨by simp,by simp,h⟩
theorem VG {a:Bool} {n d:Nat} (h:(⟨a,n,d⟩:RQ).ok):vQ a (ae n) (ae d)=⟨a,n,d⟩:=by
 unfold vQ;rw [if_pos (YZ ⟨a,n,d⟩ h),bu,bu]
theorem Ve (x:Nat) (m:x<1000000):CO 25 [ω (-((x:Int)+1))] (.ret (aco true (x+1) 1)):=by
 have a:x<9223372036854775808:=by omega
 have g:=lu x a;have f:=lu 1 (by omega);have l:(ae x).length≤7:=iD (by omega);have k:(ae 1).length≤7:=iD (by omega);have c:=nY (ae x) 7 (by omega) (by omega) (by rw [bu];omega);have d:=nY (ae 1) 7 (by omega) (by omega) (by rw [bu];omega);rw [bu] at c d;have e:=Zv (ae x) (ae 1) x 1 (x+1);rw [VH (by omega)] at e;have b:=e c d (lu (x+1) (by omega));have h:=aca (-((x:Int)+1)) (x+1) x;have i:η .i64 (-((x:Int)+1)+((1:Nat):Int))= -(x:Int):=by rw [dP]<;>omega
 have j:η .i64 (0 - -(x:Int))=(x:Int):=by rw [dP]<;>omega
 rw [i,j] at h;exact h (by simp only [lit,Bool.not_eq_true'];exact Yq1 (by omega)) g f b f
def uH (v:Int):RQ:=⟨decide (v<0),v.natAbs,1⟩
theorem jl (v:Int) (h: -1000000≤v) (a:v≤1000000):CO 25 [ω v] (.ret (qA (uH v))):=by
 by_cases h0:0≤v
 ·obtain ⟨x,rfl⟩:∃ x:Nat,v=(x:Int):=⟨v.toNat,by omega⟩
  have:=ag9 x (by omega);unfold uH;rw [Yq1 (by omega),Int.natAbs_natCast];exact this
 ·obtain ⟨x,rfl⟩:∃ x:Nat,v= -((x:Int)+1):=⟨(-v - 1).toNat,by omega⟩
  have:=Ve x (by omega);unfold uH;rw [Yq0 (by omega),show (-((x:Int)+1)).natAbs=x+1 by omega];exact this
theorem Y7 (a:Bool) (n d:Nat):(FK a n d).n≤n∧(FK a n d).d≤d:=⟨Xwk _ _,Xwk _ _⟩
theorem QX (x:Nd) (r:List Nd):bT (x::r)=OA x++bT r:=rfl
theorem Mc (a b:List Nd):bT (a++b)=bT a++bT b:=by unfold bT;rw [Xql]
theorem aT (l:List Nd):(bT l).length=l.length*5:=by
 induction l with
 |nil=>rfl
 |cons x r ih=>rw [QX,ξ,ih,Γ];simp [OA];omega
theorem JR {n:Nat} (a b:List Nd) (h:n=a.length):μ (n*5) (bT a)++bT b=bT (a++b):=by
 rw [τ (by rw [aT];omega),Mc]
theorem FP {n:Nat} (a:List Nd) (x:Nd) (h:n=a.length):μ (n*5) (bT a)++ [ω x.op,.bool x.neg,.str x.num,.str x.den,.str x.name]=bT (a++ [x]):=by
 rw [τ (by rw [aT];omega),Mc];rfl
theorem Z8 (x:Nd) (a:List Nd) (h0:(Ψ (a.length+1) 1099511627776)=true) (b:(Ψ (a.length*5) (κ (bT a)))=true) (c:(υ (κ (bT a)) (a.length*5))=true) (e:(Ψ a.length 1099511627776)=true) (d:lit false (υ a.length 0)=true):CO 176 [.agg [ω x.op,.bool x.neg,.str x.num,.str x.den,.str x.name],.sl [.sl (bT a) a.length true] 1 true] (.ret (.own (μ ((a.length+1)*5) (bT (a++ [x]))) (a.length+1) 5)):=pK [] 3 1 (.k 1 h0 (.c b (.k 7 c (.c e (.c d (.n 4 .nil)))))) (.b 22 (FP a x rfl) (.b 18 (Eq.refl (bT a)) .nil))
theorem Yr (x:Nd) (a:List Nd) (d:a ≠ []) (c:a.length<1000):CO 176 [.agg (OA x),.sl [.sl (bT a) a.length true] 1 true] (.ret (.own (bT (a++ [x])) (a++ [x]).length 5)):=by
 have hp:0<a.length:=by cases a with|nil=>exact absurd rfl d|cons _ _=>simp
 have b:υ a.length 0=false:=by cases c:a.length with|zero=>omega|succ n=>rfl
 have h:=Z8 x a (by first|(simp [aT];done)|(simp [aT];omega)|omega) (by first|(simp [aT];done)|(simp [aT];omega)|omega) (by first|(simp [aT];done)|(simp [aT];omega)|omega) (by first|(simp [aT];done)|(simp [aT];omega)|omega) (aj b);rw [τ (by rw [aT];first|(simp;done)|(simp;omega))] at h;rw [show (a++ [x]).length=a.length+1 by simp [Xxm]];exact h
theorem Z9 (x:Nd) (a b:List Nd) (h0:(Ψ ((a.length+b.length)+1) 1099511627776)=true) (d:(Ψ ((a.length+b.length)*5) (κ (bT (a++b))))=true) (f:(υ (κ (bT b)) (b.length*5))=true) (i:(Ψ (a.length+b.length) 1099511627776)=true) (g:(Ψ (a.length*5) (κ (bT a)))=true) (e:(υ (κ (bT a)) (a.length*5))=true) (h:(Ψ a.length 1099511627776)=true) (c:lit false (υ a.length 0)=true):CO 176 [.agg [ω x.op,.bool x.neg,.str x.num,.str x.den,.str x.name],.sl [.sl (bT a) a.length true,.sl (bT b) b.length true] 2 true] (.ret (.own (μ (((a.length+b.length)+1)*5) (bT (a++b++ [x]))) ((a.length+b.length)+1) 5)):=pK [] 4 5 (.k 1 h0 (.c d (.k 7 f (.c i (.c g (.k 5 e (.c h (.c c (.n 4 .nil))))))))) (.b 22 (FP (a++b) x List.length_append.symm) (.b 18 (JR a b rfl) (.b 18 (Eq.refl (bT a)) .nil)))
theorem Yt (x:Nd) (a b:List Nd) (d:a ≠ []) (e:a.length<1000) (c:b.length<1000):CO 176 [.agg (OA x),.sl [.sl (bT a) a.length true,.sl (bT b) b.length true] 2 true] (.ret (.own (bT (a++b++ [x])) (a++b++ [x]).length 5)):=by
 have hp:0<a.length:=by cases a with|nil=>exact absurd rfl d|cons _ _=>simp
 have c:υ a.length 0=false:=by cases e:a.length with|zero=>omega|succ n=>rfl
 have h:=Z9 x a b (by first|(simp [aT];done)|(simp [aT];omega)|omega) (by first|(simp [aT];done)|(simp [aT];omega)|omega) (by first|(simp [aT];done)|(simp [aT];omega)|omega) (by first|(simp [aT];done)|(simp [aT];omega)|omega) (by first|(simp [aT];done)|(simp [aT];omega)|omega) (by first|(simp [aT];done)|(simp [aT];omega)|omega) (by first|(simp [aT];done)|(simp [aT];omega)|omega) (aj c);rw [τ (by rw [aT];first|(simp;done)|(simp;omega))] at h;rw [show (a++b++ [x]).length=a.length+b.length+1 by simp [Xxm]];exact h
theorem Z_ (x:Nd) (a b c:List Nd) (h0:(Ψ (((a.length+b.length)+c.length)+1) 1099511627776)=true) (f:(Ψ (((a.length+b.length)+c.length)*5) (κ (bT (a++b++c))))=true) (i:(υ (κ (bT c)) (c.length*5))=true) (m:(Ψ ((a.length+b.length)+c.length) 1099511627776)=true) (j:(Ψ ((a.length+b.length)*5) (κ (bT (a++b))))=true) (h:(υ (κ (bT b)) (b.length*5))=true) (l:(Ψ (a.length+b.length) 1099511627776)=true) (e:(Ψ (a.length*5) (κ (bT a)))=true) (g:(υ (κ (bT a)) (a.length*5))=true) (k:(Ψ a.length 1099511627776)=true) (d:lit false (υ a.length 0)=true):CO 176 [.agg [ω x.op,.bool x.neg,.str x.num,.str x.den,.str x.name],.sl [.sl (bT a) a.length true,.sl (bT b) b.length true,.sl (bT c) c.length true] 3 true] (.ret (.own (μ ((((a.length+b.length)+c.length)+1)*5) (bT (a++b++c++ [x]))) (((a.length+b.length)+c.length)+1) 5)):=pK [] 5 13 (.k 1 h0 (.c f (.k 7 i (.c m (.c j (.k 5 h (.c l (.c e (.k 5 g (.c k (.c d (.n 4 .nil)))))))))))) (.b 22 (FP (a++b++c) x (by rw [ξ,ξ])) (.b 18 (JR (a++b) c List.length_append.symm) (.b 18 (JR a b rfl) (.b 18 (Eq.refl (bT a)) .nil))))
theorem Yu (x:Nd) (a b c:List Nd) (e:a ≠ []) (f:a.length<1000) (d:b.length<1000) (g:c.length<1000):CO 176 [.agg (OA x),.sl [.sl (bT a) a.length true,.sl (bT b) b.length true,.sl (bT c) c.length true] 3 true] (.ret (.own (bT (a++b++c++ [x])) (a++b++c++ [x]).length 5)):=by
 have hp:0<a.length:=by cases a with|nil=>exact absurd rfl e|cons _ _=>simp
 have d:υ a.length 0=false:=by cases f:a.length with|zero=>omega|succ n=>rfl
 have h:=Z_ x a b c (by first|(simp [aT];done)|(simp [aT];omega)|omega) (by first|(simp [aT];done)|(simp [aT];omega)|omega) (by first|(simp [aT];done)|(simp [aT];omega)|omega) (by first|(simp [aT];done)|(simp [aT];omega)|omega) (by first|(simp [aT];done)|(simp [aT];omega)|omega) (by first|(simp [aT];done)|(simp [aT];omega)|omega) (by first|(simp [aT];done)|(simp [aT];omega)|omega) (by first|(simp [aT];done)|(simp [aT];omega)|omega) (by first|(simp [aT];done)|(simp [aT];omega)|omega) (by first|(simp [aT];done)|(simp [aT];omega)|omega) (aj d);rw [τ (by rw [aT];first|(simp;done)|(simp;omega))] at h;rw [show (a++b++c++ [x]).length=a.length+b.length+c.length+1 by simp [Xxm]];exact h
theorem FT (v:Int):(uH v).ok:=UG (fun h=>by simp only [decide_eq_true_eq] at h;omega)
theorem qL {x:Nat} (h:x<65536):(ae x).length≤2:=iD (k:=2) (by omega)
theorem TC {q:RQ} (h:q.ok):vQ q.neg (ae q.n) (ae q.d)=q:=by cases q;exact VG h
theorem Io (n d:Int) (k: -60000≤n) (o:n≤60000) (m:0<d) (g:d≤60000):∃ w:RQ,w.ok∧w.n≤n.natAbs∧w.d≤d.natAbs∧CO 64 [qA (uH n),qA (uH d)] (.ret (.tup [qA w,.bool true])):=by
 have f:=TC (FT n);have b:=TC (FT d);have j:(uH n).n=n.natAbs:=rfl;have p:(uH d).n=d.natAbs:=rfl;have l:(ae (uH n).n).length≤2:=qL (by omega);have c:(ae (uH n).d).length≤2:=qL (show 1<65536 by decide);have i:(ae (uH d).n).length≤2:=qL (by omega);have e:(ae (uH d).d).length≤2:=qL (show 1<65536 by decide);have h:=U4 (uH n).neg (uH d).neg (ae (uH n).n) (ae (uH n).d) (ae (uH d).n) (ae (uH d).d) (by omega) c (by omega) e (by rw [b];omega);rw [f,b] at h;have a:=Y7 (!((uH n).neg==(uH d).neg)) ((uH n).n*(uH d).d) ((uH n).d*(uH d).n);refine ⟨_,UM (Xvz (FT n).1 (show 0<d.natAbs by omega)),Xqg a.1 (by show n.natAbs*1≤_;omega),Xqg a.2 (by show 1*d.natAbs≤_;omega),h⟩
theorem abV (w:RQ) (n:Int) (c:w.ok) (a:w.n<65536) (b:w.d<65536) (e: -60000≤n) (d:n≤60000):∃ q:RQ,CO 131 [qA w,qA (uH n)] (.ret (qA q)):=by
 have h:=Ri w.neg (uH n).neg (ae w.n) (ae w.d) (ae (uH n).n) (ae (uH n).d) (Xqg (qL a) (by decide)) (qL b) (Xqg (qL (show n.natAbs<65536 by omega)) (by decide)) (qL (show 1<65536 by decide));exact ⟨_,h⟩
theorem eX (n d:Int) (f: -60000≤n) (i:n≤60000) (g:0<d) (e:d≤60000):∃ w:RQ,w.ok∧w.n≤n.natAbs∧w.d≤d.natAbs∧CO 85 [ω n,ω d] (.ret (qA w)):=by
 obtain ⟨w,a,b,c,h⟩:=Io n d f i g e;have k:=jl n (by omega) (by omega);have j:=jl d (by omega) (by omega);exact ⟨w,a,b,c,pK [] 0 0 (.n 8 .nil) (.c h (.c j (.c k .nil)))⟩
def Dr (f:Nat) (args:List AV) (xs:List Int) (nn:Bool) (k D:Nat) (out:AV):Prop:=∃ k2,k2≤k+D∧af prog ap f args [dB xs nn k] (.ret out) [dB xs nn k2]
theorem Iq (i:List Int) (j:Bool) (k:Nat) (a:Int) (p:k<2^61) (q: -8≤a) (r:a≤1):∃ w:RQ,Dr 177 [.ptr 0 0 0,ω a] i j k 2 (qA w):=by
 obtain ⟨c,k1,m,l,f⟩:=aQ i j k 40 (by omega) (by omega) (by omega);obtain ⟨n,k2,g,o,n1⟩:=aQ i j k1 4 (by omega) (by omega) (by omega);have e:η .i64 (a+(c:Int))=a+(c:Int):=dP (by omega) (by omega);have d:=jl (a+(c:Int)) (by omega) (by omega);rw [← e] at d
 match n,g,n1 with
 |0,_,n1=>
  obtain ⟨w,_,_,_,h⟩:=Io (a+(c:Int)) 1 (by omega) (by omega) (by omega) (by omega);rw [← e] at h;have b:=jl 1 (by omega) (by omega);exact ⟨w,k2,(by omega),pK [] 0 0 (.n 11 .nil) (.c h (.c b (.c n1 (.c d (.c f .nil)))))⟩
 |1,_,n1=>
  obtain ⟨w,_,_,_,h⟩:=Io (a+(c:Int)) 1 (by omega) (by omega) (by omega) (by omega);rw [← e] at h;have b:=jl 1 (by omega) (by omega);exact ⟨w,k2,(by omega),pK [] 0 0 (.n 11 .nil) (.c h (.c b (.c n1 (.c d (.c f .nil)))))⟩
 |2,_,n1=>
  obtain ⟨w,_,_,_,h⟩:=Io (a+(c:Int)) 2 (by omega) (by omega) (by omega) (by omega);rw [← e] at h;have b:=jl 2 (by omega) (by omega);exact ⟨w,k2,(by omega),pK [] 0 0 (.n 11 .nil) (.c h (.c b (.c n1 (.c d (.c f .nil)))))⟩
 |3,_,n1=>
  obtain ⟨w,_,_,_,h⟩:=Io (a+(c:Int)) 10 (by omega) (by omega) (by omega) (by omega);rw [← e] at h;have b:=jl 10 (by omega) (by omega);exact ⟨w,k2,(by omega),pK [] 0 0 (.n 11 .nil) (.c h (.c b (.c n1 (.c d (.c f .nil)))))⟩
def qN (op:Int) (q:RQ):Nd:=⟨op,q.neg,ae q.n,ae q.d,[]⟩
def C9 (b:Nat) (e:List Nd):Prop:=e ≠ []∧e.length+1≤2*b∧e.countP CZ≤b
theorem Q3 {x:Nd} (h:9≤x.op):CZ x=false:=by unfold CZ;simp;omega
theorem C9.one (x:Nd):C9 1 [x]:=⟨by simp,by simp,by simpa using Xjt (l:= [x]) (p:=CZ)⟩
theorem C9.n1 {b:Nat} {e:List Nd} {x:Nd} (h:C9 b e) (a:9≤x.op):C9 (3*b) (e++ [x]):=by
 obtain ⟨c,d,f⟩:=h;refine ⟨by simp,by simp;omega, ?_⟩;rw [Xxq,Xzd,Q3 a];simp;omega
theorem C9.n2 {b:Nat} {e f:List Nd} {x:Nd} (h:C9 b e) (a:C9 b f) (c:9≤x.op):C9 (3*b) (e++f++ [x]):=by
 obtain ⟨d,i,l⟩:=h;obtain ⟨k,j,g⟩:=a;refine ⟨by simp,by simp;omega, ?_⟩;rw [Xxq,Xxq,Xzd,Q3 c];simp;omega
theorem C9.n3 {b:Nat} {e f g:List Nd} {x:Nd} (h:C9 b e) (c:C9 b f) (a:C9 b g) (d:9≤x.op):C9 (3*b) (e++f++g++ [x]):=by
 obtain ⟨i,n,q⟩:=h;obtain ⟨p,o,l⟩:=c;obtain ⟨m,j,k⟩:=a;refine ⟨by simp,by simp;omega, ?_⟩;rw [Xxq,Xxq,Xxq,Xzd,Q3 d];simp;omega
def tM:Ty:=⟨false,1,0⟩
def tD:Ty:=⟨false,0,1⟩
def tP:Ty:=⟨false,0,0⟩
def tT:Ty:=⟨true,0,0⟩
def UY (t:Ty):Prop:=t=tM∨t=tD∨t=tP
def Ed (f:Nat) (args:List AV) (xs:List Int) (nn:Bool) (b k D:Nat):Prop:=∃ e:List Nd,C9 b e∧Dr f args xs nn k D (.own (bT e) e.length 5)
theorem GV (t:Ty) (f:UY t) (c:List Int) (d:Bool) (k:Nat) (e:k<2^61):Ed 236 [.ptr 0 0 0,.agg (EE t)] c d 1 k 2:=by
 obtain ⟨w,k2,a,b⟩:=Iq c d k (-8) e (by omega) (by omega);rcases f with rfl|rfl|rfl
 ·exact ⟨[qN 1 w],.one _,k2,a,pK [] 1 1 (.n 7 .nil) (.c b .nil)⟩
 ·exact ⟨[qN 2 w],.one _,k2,a,pK [] 2 2 (.n 8 .nil) (.c b .nil)⟩
 ·exact ⟨[qN 3 w],.one _,k2,a,pK [] 4 0 (.n 12 .nil) (.c b .nil)⟩
def lfS (l:List Sg) (nl:Bool) (t:Ty) (xs:List Int) (nn:Bool) (k:Nat) (p:Nat × Bool × Nat × List Nd):St:=⟨[(0,.sl (iq l) l.length nl),(1,.ptr 0 0 0),(5,.ptr 1 0 0),(7,cond p.2.1 (.ref 2 0 0 p.2.2.1) .nilS),(8,ω (p.1:Int))],(0,⟨[.sl (iL xs) xs.length nn,ω (k:Int)],0,false,0,0,true⟩)::(1,⟨[.bool t.tr,ω t.m,ω t.d],0,false,0,0,true⟩)::cond p.2.1 [(2,⟨bT p.2.2.2,0,false,0,5,true⟩)] [],.dead,[]⟩
def lfX (l:List Sg) (nl:Bool) (t:Ty) (xs:List Int) (nn:Bool) (k:Nat) (p:Bool × Nat × List Nd):St:=⟨[(1,.ptr 0 0 0),(5,.ptr 1 0 0),(7,cond p.1 (.ref 2 0 0 p.2.1) .nilS)],(0,⟨[.sl (iL xs) xs.length nn,ω (k:Int)],0,false,0,0,true⟩)::(1,⟨[.bool t.tr,ω t.m,ω t.d],0,false,0,0,true⟩)::cond p.1 [(2,⟨bT p.2.2,0,false,0,5,true⟩)] [],.dead,[]⟩
theorem QI (l:List Sg) (q:Bool) (t:Ty) (o:List Int) (p:Bool) (k:Nat) (w:l.length≤100) (i:Nat) (c:Bool) (n:Nat) (g:List Nd) (x:Sg) (u:List Sg) (d:g.length=n) (y:n≤i) (j:c=false→g= []) (r:i<l.length) (b:(ε ((γ (i:Int))*5) (iq l))=IV x++iq u):
  ∃ (c2:Bool) (n2:Nat) (o2:List Nd),o2.length=n2∧n2≤i+1∧(c2=false→o2= [])∧∀ nt,85≤nt→ak prog ap [dB o p k] nt (au 0 (ag f175)) (lfS l q t o p k (i,c,n,g)) .normal (lfS l q t o p k (i+1,c2,n2,o2)):=by
 have a:(decide ((i:Int)<(l.length:Int)))=true:=kl r;have h:i<2^62:=by omega
 have f:=G9 l q x.op x.name (by omega);generalize (Ag l x.op x.name).getD zT=tf_ at f;generalize (Ag l x.op x.name).isSome=fb_ at f;have s:(Ψ (n+1) 1099511627776)=true:=(dw (by omega))
 have m:(Ψ (n*5) (κ (bT g)))=true:=(dw (by rw [aT,d];exact ζ _))
 rcases tf fb_ with b0|b0
 ·rcases tf (x.op==((24:Nat):Int)) with b1|b1
  ·refine ⟨c,n,g,d,by omega,j,fun nt e=> ?_⟩;cases c with
   |false=>exact pN 175 [] 4 3 (.k 1 (dM b1) (.k 1 (k0 i) (.c a (.c (ai b0) (.k 2 (k0 i) (.c a (.k 1 (k0 i) (.c a (.c (ai a) .nil))))))))) (.v 17 (.eq (wpS h)) (.v 37 (.ppt b) (.c f (.v 27 (.ppt b) (.v 22 (.ppt b) .nil))))) e
   |true=>exact pN 175 [] 4 3 (.k 1 (dM b1) (.k 1 (k0 i) (.c a (.c (ai b0) (.k 2 (k0 i) (.c a (.k 1 (k0 i) (.c a (.c (ai a) .nil))))))))) (.v 17 (.eq (wpS h)) (.v 37 (.ppt b) (.c f (.v 27 (.ppt b) (.v 22 (.ppt b) .nil))))) e
  ·rcases tf ((tf_.tr==t.tr) && ((tf_.m==t.m) && ((tf_.d==t.d) && true))) with b2|b2
   ·refine ⟨true,n+1,g++ [⟨x.op,false,[],[],x.name⟩],by simp [d],(by omega),(by simp),fun nt e=> ?_⟩;cases c with
    |false=>have v:=j rfl;subst v;subst d;exact pN 175 [] 5 15 (.k 4 (k0 i) (.c a (.k 1 (k0 i) (.c a (.c (ai b2) (.k 6 (fK b1) (.k 1 (k0 i) (.c a (.c (ai b0) (.k 2 (k0 i) (.c a (.k 1 (k0 i) (.c a (.c (ai a) .nil)))))))))))))) (.v 17 (.eq (wpS h)) (.v 55 (.ppt b) (.v 50 (.ppt b) (.v 37 (.ppt b) (.c f (.v 27 (.ppt b) (.v 22 (.ppt b) .nil))))))) e
    |true=>exact pN 175 [] 4 15 (.k 1 s (.c m (.k 2 (k0 i) (.c a (.k 1 (k0 i) (.c a (.c (ai b2) (.k 6 (fK b1) (.k 1 (k0 i) (.c a (.c (ai b0) (.k 2 (k0 i) (.c a (.k 1 (k0 i) (.c a (.c (ai a) .nil)))))))))))))))) (.v 17 (.eq (wpS h)) (.b 60 (FP g ⟨x.op,false,[],[],x.name⟩ d.symm) (.v 55 (.ppt b) (.v 50 (.ppt b) (.v 37 (.ppt b) (.c f (.v 27 (.ppt b) (.v 22 (.ppt b) .nil)))))))) e
   ·refine ⟨c,n,g,d,by omega,j,fun nt e=> ?_⟩;cases c with
    |false=>exact pN 175 [] 4 7 (.c (aj b2) (.k 6 (fK b1) (.k 1 (k0 i) (.c a (.c (ai b0) (.k 2 (k0 i) (.c a (.k 1 (k0 i) (.c a (.c (ai a) .nil)))))))))) (.v 17 (.eq (wpS h)) (.v 37 (.ppt b) (.c f (.v 27 (.ppt b) (.v 22 (.ppt b) .nil))))) e
    |true=>exact pN 175 [] 4 7 (.c (aj b2) (.k 6 (fK b1) (.k 1 (k0 i) (.c a (.c (ai b0) (.k 2 (k0 i) (.c a (.k 1 (k0 i) (.c a (.c (ai a) .nil)))))))))) (.v 17 (.eq (wpS h)) (.v 37 (.ppt b) (.c f (.v 27 (.ppt b) (.v 22 (.ppt b) .nil))))) e
 ·refine ⟨c,n,g,d,by omega,j,fun nt e=> ?_⟩;cases c with
  |false=>exact pN 175 [] 4 1 (.k 2 (aj b0) (.k 2 (k0 i) (.c a (.k 1 (k0 i) (.c a (.c (ai a) .nil)))))) (.v 17 (.eq (wpS h)) (.c f (.v 27 (.ppt b) (.v 22 (.ppt b) .nil)))) e
  |true=>exact pN 175 [] 4 1 (.k 2 (aj b0) (.k 2 (k0 i) (.c a (.k 1 (k0 i) (.c a (.c (ai a) .nil)))))) (.v 17 (.eq (wpS h)) (.c f (.v 27 (.ppt b) (.v 22 (.ppt b) .nil)))) e
theorem LP (l:List Sg) (h:Bool) (t:Ty) (b:List Int) (d:Bool) (k:Nat) (i:l.length≤100):∀ (rx p:List Sg) (c:Bool) (n:Nat) (os:List Nd),l=p++rx→os.length=n→n≤p.length→(c=false→os= [])→
  ∃ (g:Bool) (n2:Nat) (a:List Nd),a.length=n2∧n2≤l.length∧(g=false→a= [])∧∀ nt,85≤nt→aJ prog ap [dB b d k] nt (au 0 (ag f175)) (fun _=> .exit 0) (lfS l h t b d k) (lfX l h t b d k) (p.length,c,n,os) (g,n2,a)
 | [],p,c,n,os,hp,hn0,ho,hc=>by
  rw [ο] at hp;subst hp;have f:(decide ((l.length:Int)<(l.length:Int)))=false:=kn (ζ _);refine ⟨c,n,os,hn0,ho,hc,fun nt e=> .done ?_⟩;cases c with
  |false=>exact pN 175 [] 1 0 (.c (aj f) .nil) .nil e
  |true=>exact pN 175 [] 1 0 (.c (aj f) .nil) .nil e
 |x::rx,p,c,n,os,hp,hn0,ho,hc=>by
  obtain ⟨o,n1,r,h0,m,f,s⟩:=QI l h t b d k i p.length c n os x rx hn0 ho hc (mP hp) (by rw [hp];exact zf rfl);obtain ⟨g,n2,a,j,v,q,u⟩:=LP l h t b d k i rx (p++ [x]) o n1 r (by simp [hp]) h0 (by simpa using m) f;refine ⟨g,n2,a,j,v,q,fun nt e=> .next (s nt e) ?_⟩;have:=u nt e;rw [ξ] at this;exact this
theorem FB (l:List Sg) (u:Bool) (M:l.length≤100) (t:Ty) (g:UY t∨t=tT) (b:List Int) (d:Bool) (k:Nat) (P:k<2^60):Ed 175 [.sl (iq l) l.length u,.ptr 0 0 0,.agg (EE t)] b d 1 k 3:=by
 obtain ⟨c,n,f,E,O,L,K⟩:=LP l u t b d k M l [] false 0 [] rfl rfl (ζ _) (fun _=>rfl);have r:=aJ.blk (id:=0) (e':= .normal) (fun nt (hn:85≤nt)=>K nt hn) (by simp) rfl (aI.refl _) (aI.refl _);cases c with
 | false=>
  have N:=L rfl;subst N;subst E;obtain ⟨a,k1,x,J,m⟩:=aQ b d k 2 (by omega) (by omega) (by omega);have i:(decide ((a:Int)<((0:Nat):Int)))=false:=Yq1 (by omega);rcases g with g|g
  ·have o:t.tr=false:=by rcases g with rfl|rfl|rfl<;>rfl
   obtain ⟨e,v,k2,q,p⟩:=GV t g b d k1 (by omega);have h:af prog ap 175 [.sl (iq l) l.length u,.ptr 0 0 0,.agg (EE t)] [dB b d k] (.ret (.own (μ (e.length*5) (bT e)) e.length 5)) [dB b d k2]:=pK [0] 2 0 (.k 3 (aj o) (.k 1 (aj i) .nil)) (.c p (.c m (.k [0,1,5,7,8] r .nil)));rw [τ (by rw [aT];exact ζ _)] at h;exact ⟨e,v,k2,(by omega),h⟩
  ·obtain ⟨s,k2,w,q,n1⟩:=aQ b d k1 2 (by omega) (by omega) (by omega);have o:t.tr=true:=by rw [g];rfl
   have p:=jl (s:Int) (by omega) (by omega);exact ⟨[qN 4 (uH (s:Int))],.one _,k2,(by omega),pK [0] 2 2 (.c (ai o) (.k 1 (aj i) .nil)) (.c p (.c n1 (.c m (.k [0,1,5,7,8] r .nil))))⟩
 | true=>
  obtain ⟨a,k1,x,J,m⟩:=aQ b d k (n+2) (by omega) (by omega) (by omega);have e:η .i64 ((n:Int)+((2:Nat):Int))=((n+2:Nat):Int):=by rw [dP]<;>omega
  rw [← e] at m;rcases tf (decide ((a:Int)<(n:Int))) with i|i
  ·have A:a<f.length:=by simp only [decide_eq_true_eq] at i;omega
   obtain ⟨y,z⟩:∃ y,f[a]? =some y:=⟨_,ν A⟩
   have j:=Lc nd5 z;rw [show γ (a:Int)*5=(0+γ (a:Int))*5 by rw [Θ]] at j;change ε _ (bT f)=_ at j;have F:(chk (.int .i64) (Xqm (ε ((0+(γ (a:Int)))*5) (bT f)) .dead))=true:=(by rw [j];rfl)
   have G:(chk .bool (Xqm (Xqx (ε ((0+(γ (a:Int)))*5) (bT f))) .dead))=true:=(by rw [j];rfl)
   have H:(chk .str (Xqm (Xqx (Xqx (ε ((0+(γ (a:Int)))*5) (bT f)))) .dead))=true:=(by rw [j];rfl)
   have B:(chk .str (Xqm (Xqx (Xqx (Xqx (ε ((0+(γ (a:Int)))*5) (bT f))))) .dead))=true:=(by rw [j];rfl)
   have C:(chk .str (Xqm (Xqx (Xqx (Xqx (Xqx (ε ((0+(γ (a:Int)))*5) (bT f)))))) .dead))=true:=(by rw [j];rfl)
   have D:(decide (((0:Nat):Int)≤(a:Int)))=true:=(k0 a)
   have I:(decide ((a:Int)<(n:Int)))=true:=i;have h:af prog ap 175 [.sl (iq l) l.length u,.ptr 0 0 0,.agg (EE t)] [dB b d k] (.ret (.own [ω (AV.toInt (Xqm (ε ((0+(γ (a:Int)))*5) (bT f)) .dead)),.bool (AV.toBool (Xqm (Xqx (ε ((0+(γ (a:Int)))*5) (bT f))) .dead)),.str (AV.toStr (Xqm (Xqx (Xqx (ε ((0+(γ (a:Int)))*5) (bT f)))) .dead)),.str (AV.toStr (Xqm (Xqx (Xqx (Xqx (ε ((0+(γ (a:Int)))*5) (bT f))))) .dead)),.str (AV.toStr (Xqm (Xqx (Xqx (Xqx (Xqx (ε ((0+(γ (a:Int)))*5) (bT f)))))) .dead))] 1 5)) [dB b d k1]:=pK [0] 1 1 (.c F (.c G (.c H (.c B (.c C (.c D (.c I (.c (ai i) .nil)))))))) (.c m (.k [0,1,5,7,8] r .nil));rw [j] at h;exact ⟨[y],.one y,k1,(by omega),h⟩
  ·skip
   rcases g with g|g
   ·have o:t.tr=false:=by rcases g with rfl|rfl|rfl<;>rfl
    obtain ⟨e,v,k2,q,p⟩:=GV t g b d k1 (by omega);have h:af prog ap 175 [.sl (iq l) l.length u,.ptr 0 0 0,.agg (EE t)] [dB b d k] (.ret (.own (μ (e.length*5) (bT e)) e.length 5)) [dB b d k2]:=pK [0] 2 0 (.k 3 (aj o) (.k 1 (aj i) .nil)) (.c p (.c m (.k [0,1,5,7,8] r .nil)));rw [τ (by rw [aT];exact ζ _)] at h;exact ⟨e,v,k2,(by omega),h⟩
   ·obtain ⟨s,k2,w,q,n1⟩:=aQ b d k1 2 (by omega) (by omega) (by omega);have o:t.tr=true:=by rw [g];rfl
    have p:=jl (s:Int) (by omega) (by omega);exact ⟨[qN 4 (uH (s:Int))],.one _,k2,(by omega),pK [0] 2 2 (.c (ai o) (.k 1 (aj i) .nil)) (.c p (.c n1 (.c m (.k [0,1,5,7,8] r .nil))))⟩
def X0 (l:List (List UInt8)):List AV:=l.flatMap fun s=> [.str s]
theorem Vp (l:List (List UInt8)):(X0 l).length=l.length*1:=by induction l with|nil=>rfl|cons x r ih=>simp only [X0,Xqa,ξ,Γ,Xqh] at*;omega
def rtS (l:List Sg) (nl:Bool) (t:Ty) (xs:List Int) (nn:Bool) (k:Nat) (p:Nat × Bool × Nat × List (List UInt8)):St:=⟨[(0,.sl (iq l) l.length nl),(1,.ptr 0 0 0),(5,.ptr 1 0 0),(8,cond p.2.1 (.ref 2 0 0 p.2.2.1) .nilS),(9,ω (p.1:Int))],(0,⟨[.sl (iL xs) xs.length nn,ω (k:Int)],0,false,0,0,true⟩)::(1,⟨[.bool t.tr,ω t.m,ω t.d],0,false,0,0,true⟩)::cond p.2.1 [(2,⟨X0 p.2.2.2,0,false,0,1,true⟩)] [],.dead,[]⟩
def rtX (l:List Sg) (nl:Bool) (t:Ty) (xs:List Int) (nn:Bool) (k:Nat) (p:Bool × Nat × List (List UInt8)):St:=⟨[(1,.ptr 0 0 0),(5,.ptr 1 0 0),(8,cond p.1 (.ref 2 0 0 p.2.1) .nilS)],(0,⟨[.sl (iL xs) xs.length nn,ω (k:Int)],0,false,0,0,true⟩)::(1,⟨[.bool t.tr,ω t.m,ω t.d],0,false,0,0,true⟩)::cond p.1 [(2,⟨X0 p.2.2,0,false,0,1,true⟩)] [],.dead,[]⟩
theorem Rw (l:List Sg) (r:Bool) (t:Ty) (p:List Int) (q:Bool) (k:Nat) (z:l.length≤100) (i:Nat) (c:Bool) (n:Nat) (h:List (List UInt8)) (x:Sg) (w:List Sg) (d:h.length=n) (A:n≤i) (m:c=false→h= []) (u:i<l.length) (b:(ε ((γ (i:Int))*5) (iq l))=IV x++iq w):
  ∃ (c2:Bool) (n2:Nat) (o2:List (List UInt8)),o2.length=n2∧n2≤i+1∧(c2=false→o2= [])∧∀ nt,60≤nt→ak prog ap [dB p q k] nt (au 0 (ag f178)) (rtS l r t p q k (i,c,n,h)) .normal (rtS l r t p q k (i+1,c2,n2,o2)):=by
 have a:(decide ((i:Int)<(l.length:Int)))=true:=kl u;have j:i<2^62:=by omega
 have g:=G9 l r 24 x.name (by omega);generalize (Ag l 24 x.name).getD zT=tf_ at g;generalize (Ag l 24 x.name).isSome=fb_ at g;have v:(Ψ (n+1) 1099511627776)=true:=(dw (by omega))
 have o:(Ψ (n*1) (κ (X0 h)))=true:=(dw (by rw [Vp,d];exact ζ _))
 rcases tf fb_ with b0|b0
 ·rcases tf (x.op==((24:Nat):Int)) with b1|b1
  ·rcases tf ((tf_.tr==t.tr) && ((tf_.m==t.m) && ((tf_.d==t.d) && true))) with b2|b2
   ·refine ⟨true,n+1,h++ [x.name],by simp [d],(by omega),(by simp),fun nt e=> ?_⟩;cases c with
    |false=>have y:=m rfl;subst y;subst d;exact pN 178 [] 5 15 (.k 4 (k0 i) (.c a (.c (ai b2) (.k 6 (ai b1) (.k 1 (k0 i) (.c a (.c (ai b0) (.k 2 (k0 i) (.c a (.c (ai a) .nil)))))))))) (.v 17 (.eq (wpS j)) (.v 45 (.ppt b) (.v 32 (.ppt b) (.c g (.v 22 (.ppt b) .nil))))) e
    |true=>exact pN 178 [] 4 15 (.k 1 v (.c o (.k 2 (k0 i) (.c a (.c (ai b2) (.k 6 (ai b1) (.k 1 (k0 i) (.c a (.c (ai b0) (.k 2 (k0 i) (.c a (.c (ai a) .nil)))))))))))) (.v 17 (.eq (wpS j)) (.b 49 (eP (f:=fun s=> [AV.str s]) (n:=1) (fun _=>rfl) h x.name d) (.v 45 (.ppt b) (.v 32 (.ppt b) (.c g (.v 22 (.ppt b) .nil)))))) e
   ·refine ⟨c,n,h,d,by omega,m,fun nt e=> ?_⟩;cases c with
    |false=>exact pN 178 [] 4 7 (.c (aj b2) (.k 6 (ai b1) (.k 1 (k0 i) (.c a (.c (ai b0) (.k 2 (k0 i) (.c a (.c (ai a) .nil)))))))) (.v 17 (.eq (wpS j)) (.v 32 (.ppt b) (.c g (.v 22 (.ppt b) .nil)))) e
    |true=>exact pN 178 [] 4 7 (.c (aj b2) (.k 6 (ai b1) (.k 1 (k0 i) (.c a (.c (ai b0) (.k 2 (k0 i) (.c a (.c (ai a) .nil)))))))) (.v 17 (.eq (wpS j)) (.v 32 (.ppt b) (.c g (.v 22 (.ppt b) .nil)))) e
  ·refine ⟨c,n,h,d,by omega,m,fun nt e=> ?_⟩;cases c with
   |false=>exact pN 178 [] 4 3 (.k 1 (aj b1) (.k 1 (k0 i) (.c a (.c (ai b0) (.k 2 (k0 i) (.c a (.c (ai a) .nil))))))) (.v 17 (.eq (wpS j)) (.v 32 (.ppt b) (.c g (.v 22 (.ppt b) .nil)))) e
   |true=>exact pN 178 [] 4 3 (.k 1 (aj b1) (.k 1 (k0 i) (.c a (.c (ai b0) (.k 2 (k0 i) (.c a (.c (ai a) .nil))))))) (.v 17 (.eq (wpS j)) (.v 32 (.ppt b) (.c g (.v 22 (.ppt b) .nil)))) e
 ·refine ⟨c,n,h,d,by omega,m,fun nt e=> ?_⟩;cases c with
  |false=>exact pN 178 [] 4 1 (.k 2 (aj b0) (.k 2 (k0 i) (.c a (.c (ai a) .nil)))) (.v 17 (.eq (wpS j)) (.c g (.v 22 (.ppt b) .nil))) e
  |true=>exact pN 178 [] 4 1 (.k 2 (aj b0) (.k 2 (k0 i) (.c a (.c (ai a) .nil)))) (.v 17 (.eq (wpS j)) (.c g (.v 22 (.ppt b) .nil))) e
theorem Na (l:List Sg) (h:Bool) (t:Ty) (b:List Int) (d:Bool) (k:Nat) (i:l.length≤100):∀ (rx p:List Sg) (c:Bool) (n:Nat) (os:List (List UInt8)),l=p++rx→os.length=n→n≤p.length→(c=false→os= [])→
  ∃ (g:Bool) (n2:Nat) (a:List (List UInt8)),a.length=n2∧n2≤l.length∧(g=false→a= [])∧∀ nt,60≤nt→aJ prog ap [dB b d k] nt (au 0 (ag f178)) (fun _=> .exit 0) (rtS l h t b d k) (rtX l h t b d k) (p.length,c,n,os) (g,n2,a)
 | [],p,c,n,os,hp,hn0,ho,hc=>by
  rw [ο] at hp;subst hp;have f:(decide ((l.length:Int)<(l.length:Int)))=false:=kn (ζ _);refine ⟨c,n,os,hn0,ho,hc,fun nt e=> .done ?_⟩;cases c with
  |false=>exact pN 178 [] 1 0 (.c (aj f) .nil) .nil e
  |true=>exact pN 178 [] 1 0 (.c (aj f) .nil) .nil e
 |x::rx,p,c,n,os,hp,hn0,ho,hc=>by
  obtain ⟨o,n1,r,h0,m,f,s⟩:=Rw l h t b d k i p.length c n os x rx hn0 ho hc (mP hp) (by rw [hp];exact zf rfl);obtain ⟨g,n2,a,j,v,q,u⟩:=Na l h t b d k i rx (p++ [x]) o n1 r (by simp [hp]) h0 (by simpa using m) f;refine ⟨g,n2,a,j,v,q,fun nt e=> .next (s nt e) ?_⟩;have:=u nt e;rw [ξ] at this;exact this
theorem Rj (l:List Sg) (q:Bool) (A:l.length≤100) (t:Ty) (b:List Int) (d:Bool) (k:Nat) (E:k<2^60):∃ (nm:List UInt8) (ok:Bool),Dr 178 [.sl (iq l) l.length q,.ptr 0 0 0,.agg (EE t)] b d k 1 (.tup [.str nm,.bool ok]):=by
 obtain ⟨c,n,e,B,D,v,u⟩:=Na l q t b d k A l [] false 0 [] rfl rfl (ζ _) (fun _=>rfl);have g:=aJ.blk (id:=0) (e':= .normal) (fun nt (hn:60≤nt)=>u nt hn) (by simp) rfl (aI.refl _) (aI.refl _);cases c with
 |false=>
  have C:=v rfl;subst C;exact ⟨[],false,k,(by omega),pK [0] 1 1 (.n 1 .nil) (.k [0,1,5,8,9] g .nil)⟩
 | true=>
  rcases tf ((n:Int)==((0:Nat):Int)) with hr|hr
  ·exact ⟨[],false,k,(by omega),pK [0] 1 1 (.c (ai hr) .nil) (.k [0,1,5,8,9] g .nil)⟩
  ·have h0:0<n:=by simp only [Yq2] at hr;omega
   obtain ⟨a,k1,z,x,w⟩:=aQ b d k n (by omega) h0 (by omega);have o:a<e.length:=by omega
   obtain ⟨y,m⟩:∃ y,e[a]? =some y:=⟨_,ν o⟩
   have p:=Lc (f:=fun s=> [AV.str s]) (n:=1) (fun _=>rfl) m;rw [show γ (a:Int)*1=(0+γ (a:Int))*1 by rw [Θ]] at p;change ε _ (X0 e)=_ at p;have r:(chk .str (Xqm (ε ((0+(γ (a:Int)))*1) (X0 e)) .dead))=true:=(by rw [p];rfl)
   have i:(decide (((0:Nat):Int)≤(a:Int)))=true:=(k0 a)
   have j:(decide ((a:Int)<(n:Int)))=true:=(kl (by omega))
   have h:af prog ap 178 [.sl (iq l) l.length q,.ptr 0 0 0,.agg (EE t)] [dB b d k] (.ret (.tup [.str (AV.toStr (Xqm (ε ((0+(γ (a:Int)))*1) (X0 e)) .dead)),.bool true])) [dB b d k1]:=pK [0] 1 0 (.c r (.c i (.c j (.c (aj hr) .nil)))) (.c w (.k [0,1,5,8,9] g .nil));exact ⟨_,true,k1,(by omega),h⟩
theorem O5 {i:Nat} (h:i<2^62):ω (η .i64 (((i+1:Nat):Int) - ((1:Nat):Int)))= ω (i:Int):=by rw [dP]<;>first|(congr 1;omega)|omega
theorem OB (a:List Nd):μ (a.length*5) (bT a)=bT a:=τ (by rw [aT];omega)
theorem C9.mono {b c:Nat} {e:List Nd} (h:C9 b e) (a:b≤c):C9 c e:=⟨h.1,by have:=h.2.1;omega,Xqg h.2.2 a⟩
theorem iQ {f:Nat} {args:List AV} {a:List Int} {b:Bool} {k k2:Nat} {e:List Nd} (h:af prog ap f args [dB a b k] (.ret (.own (μ (e.length*5) (bT e)) e.length 5)) [dB a b k2]):af prog ap f args [dB a b k] (.ret (.own (bT e) e.length 5)) [dB a b k2]:=by rw [OB] at h;exact h
theorem n59:CO 59 [ω 0,ω 0] (.ret (.agg (EE tP))):=cD [] .nil
theorem n80:CO 80 [] (.ret (.agg (EE tT))):=cD [] .nil
theorem WA (u:Nat) (a:u<3):∃ t,UY t∧CO 87 [ω (u:Int)] (.ret (.agg (EE t))):=by
 match u,a with
 |0,_=>exact ⟨tM,.inl rfl,cD [] .nil⟩
 |1,_=>exact ⟨tD,.inr (.inl rfl),cD [] .nil⟩
 |2,_=>exact ⟨tP,.inr (.inr rfl),cD [] .nil⟩
theorem Yq (x:Nd) (a:List Nd) (c:a ≠ []) (b:a.length<1000):CO 176 [.agg (OA x),.sl [.sl (μ (a.length*5) (bT a)) a.length true] 1 true] (.ret (.own (bT (a++ [x])) (a++ [x]).length 5)):=by
 simp only [OB];exact Yr x a c b
theorem Jj (x:Nd) (a b:List Nd) (c:a ≠ []) (d:a.length<1000) (e:b.length<1000):CO 176 [.agg (OA x),.sl [.sl (μ (a.length*5) (bT a)) a.length true,.sl (μ (b.length*5) (bT b)) b.length true] 2 true] (.ret (.own (bT (a++b++ [x])) (a++b++ [x]).length 5)):=by
 simp only [OB];exact Yt x a b c d e
theorem aab (x:Nd) (a b c:List Nd) (d:a ≠ []) (e:a.length<1000) (g:b.length<1000) (f:c.length<1000):CO 176 [.agg (OA x),.sl [.sl (μ (a.length*5) (bT a)) a.length true,.sl (μ (b.length*5) (bT b)) b.length true,.sl (μ (c.length*5) (bT c)) c.length true] 3 true] (.ret (.own (bT (a++b++c++ [x])) (a++b++c++ [x]).length 5)):=by
 simp only [OB];exact Yu x a b c d e g f
theorem U0 (a r:Nat) (b:9≤a) (h:a+r<1000):9≤η .i64 ((a:Int)+(r:Int)):=by rw [dP]<;>omega
def plT (t:Ty):Prop:=UY t∨t=tT
theorem Ei (l:List Sg) (H:Bool) (S:l.length≤100) (r:List Int) (o:Bool) (I b D B:Nat) (f:I<100) (hb1:1≤b) (hb:b≤30) (hD:3≤D) (X:D≤20) (hB:B+100≤2^60)
  (ih:∀ t,plT t→∀ k,k<B+100→Ed 129 [.sl (iq l) l.length H,.ptr 0 0 0,.agg (EE t),ω (I:Int)] r o b k D)
  (t:Ty) (ht:plT t) (k:Nat) (hk:k<B):Ed 129 [.sl (iq l) l.length H,.ptr 0 0 0,.agg (EE t),ω ((I+1:Nat):Int)] r o (3*b) k (3*D+5):=by
 have f:I<2^62:=by omega
 have z:(decide ((((I+1):Nat):Int)≤((0:Nat):Int)))=false:=Yq1 (by omega);obtain ⟨r0,k1,hr0,Z,A⟩:=aQ r o k 5 (by omega) (by omega) (by omega);rcases tf ((r0:Int)==((0:Nat):Int)) with v|v
 ·obtain ⟨e,Q,k2,K,N⟩:=FB l H S t ht r o k1 (by omega);exact ⟨e,Q.mono (by omega),k2,(by omega),iQ (pK [] 2 2 (.k 3 (ai v) (.c (aj z) .nil)) (.c N (.c A .nil)))⟩
 ·rcases tf t.tr with u|u
  ·have Y:t=tT:=by rcases ht with (rfl|rfl|rfl)|h;all_goals first|exact h|cases u
   obtain ⟨L,k2,F,K,n1⟩:=aQ r o k1 5 (by omega) (by omega) (by omega)
   match L,F,n1 with
   |0,_,n1=>
    obtain ⟨d,k3,y,n,n2⟩:=aQ r o k2 3 (by omega) (by omega) (by omega);obtain ⟨G,C,ck⟩:=WA d y;obtain ⟨E,k4,M,m,n3⟩:=aQ r o k3 2 (by omega) (by omega) (by omega);obtain ⟨j,a,k5,s,i⟩:=ih G (.inl C) k4 (by omega);obtain ⟨q,g,k6,O,p⟩:=ih G (.inl C) k5 (by omega);have c:=Jj (⟨η .i64 (((16:Nat):Int)+(E:Int)),false,[],[],[]⟩) j q a.1 (by have:=a.2.1;omega) (by have:=g.2.1;omega);exact ⟨_,.n2 (x:=⟨η .i64 (((16:Nat):Int)+(E:Int)),false,[],[],[]⟩) a g (U0 16 E (by omega) (by omega)),k6,(by omega),iQ (pK [] 5 28 (.k 9 (ai u) (.k 1 (aj v) (.c (aj z) .nil))) (.c c (.c p (.c i (.c n3 (.c ck (.c n2 (.c n1 (.v 27 (.eq (O5 f)) (.c A .nil))))))))))⟩
   |1,_,n1=>
    obtain ⟨d,k3,y,n,n2⟩:=aQ r o k2 3 (by omega) (by omega) (by omega);obtain ⟨G,C,ck⟩:=WA d y;obtain ⟨E,k4,M,m,n3⟩:=aQ r o k3 2 (by omega) (by omega) (by omega);obtain ⟨j,a,k5,s,i⟩:=ih G (.inl C) k4 (by omega);obtain ⟨q,g,k6,O,p⟩:=ih G (.inl C) k5 (by omega);have c:=Jj (⟨η .i64 (((16:Nat):Int)+(E:Int)),false,[],[],[]⟩) j q a.1 (by have:=a.2.1;omega) (by have:=g.2.1;omega);exact ⟨_,.n2 (x:=⟨η .i64 (((16:Nat):Int)+(E:Int)),false,[],[],[]⟩) a g (U0 16 E (by omega) (by omega)),k6,(by omega),iQ (pK [] 5 20 (.k 9 (ai u) (.k 1 (aj v) (.c (aj z) .nil))) (.c c (.c p (.c i (.c n3 (.c ck (.c n2 (.c n1 (.v 27 (.eq (O5 f)) (.c A .nil))))))))))⟩
   |2,_,n1=>
    obtain ⟨j,a,k3,n,i⟩:=ih t ht k2 (by omega);have c:=Yq (⟨20,false,[],[],[]⟩) j a.1 (by have:=a.2.1;omega);exact ⟨_,.n1 (x:=⟨20,false,[],[],[]⟩) a (by decide),k3,(by omega),iQ (pK [] 6 36 (.k 6 (ai u) (.k 1 (aj v) (.c (aj z) .nil))) (.c c (.c i (.c n1 (.v 27 (.eq (O5 f)) (.c A .nil))))))⟩
   |3,_,n1=>
    obtain ⟨j,a,k3,n,i⟩:=ih t ht k2 (by omega);obtain ⟨q,g,k4,m,p⟩:=ih t ht k3 (by omega);obtain ⟨R,J,k5,s,U⟩:=ih t ht k4 (by omega);have c:=aab (⟨15,false,[],[],[]⟩) j q R a.1 (by have:=a.2.1;omega) (by have:=g.2.1;omega) (by have:=J.2.1;omega);exact ⟨_,.n3 (x:=⟨15,false,[],[],[]⟩) a g J (by decide),k5,(by omega),iQ (pK [] 7 68 (.k 13 (ai u) (.k 1 (aj v) (.c (aj z) .nil))) (.c c (.c U (.c p (.c i (.c n1 (.v 27 (.eq (O5 f)) (.c A .nil))))))))⟩
   |4,_,n1=>
    obtain ⟨d,k3,y,n,n2⟩:=aQ r o k2 2 (by omega) (by omega) (by omega);obtain ⟨j,a,k4,m,i⟩:=ih t ht k3 (by omega);obtain ⟨q,g,k5,s,p⟩:=ih t ht k4 (by omega);have c:=Jj (⟨η .i64 (((18:Nat):Int)+(d:Int)),false,[],[],[]⟩) j q a.1 (by have:=a.2.1;omega) (by have:=g.2.1;omega);exact ⟨_,.n2 (x:=⟨η .i64 (((18:Nat):Int)+(d:Int)),false,[],[],[]⟩) a g (U0 18 d (by omega) (by omega)),k5,(by omega),iQ (pK [] 7 4 (.k 10 (ai u) (.k 1 (aj v) (.c (aj z) .nil))) (.c c (.c p (.c i (.c n2 (.c n1 (.v 27 (.eq (O5 f)) (.c A .nil))))))))⟩
  ·obtain ⟨L,k2,F,K,n1⟩:=aQ r o k1 7 (by omega) (by omega) (by omega)
   match L,F,n1 with
   |0,_,n1=>
    obtain ⟨d,k3,y,n,n2⟩:=aQ r o k2 4 (by omega) (by omega) (by omega);obtain ⟨j,a,k4,m,i⟩:=ih t ht k3 (by omega);obtain ⟨q,g,k5,s,p⟩:=ih t ht k4 (by omega);have c:=Jj (⟨([9,10,13,14]:List Int).getD d 0,false,[],[],[]⟩) j q a.1 (by have:=a.2.1;omega) (by have:=g.2.1;omega);have T:=C9.n2 (x:=⟨([9,10,13,14]:List Int).getD d 0,false,[],[],[]⟩) a g (by rcases (show d=0∨d=1∨d=2∨d=3 by omega) with rfl|rfl|rfl|rfl<;>decide);rcases (show d=0∨d=1∨d=2∨d=3 by omega) with rfl|rfl|rfl|rfl<;>exact ⟨_,T,k5,(by omega),iQ (pK [] 5 24 (.k 11 (aj u) (.k 1 (aj v) (.c (aj z) .nil))) (.c c (.c p (.c i (.c n2 (.c n1 (.v 27 (.eq (O5 f)) (.c A .nil))))))))⟩
   |1,_,n1=>
    obtain ⟨d,k3,y,n,n2⟩:=aQ r o k2 4 (by omega) (by omega) (by omega);obtain ⟨j,a,k4,m,i⟩:=ih t ht k3 (by omega);obtain ⟨q,g,k5,s,p⟩:=ih t ht k4 (by omega);have c:=Jj (⟨([9,10,13,14]:List Int).getD d 0,false,[],[],[]⟩) j q a.1 (by have:=a.2.1;omega) (by have:=g.2.1;omega);have T:=C9.n2 (x:=⟨([9,10,13,14]:List Int).getD d 0,false,[],[],[]⟩) a g (by rcases (show d=0∨d=1∨d=2∨d=3 by omega) with rfl|rfl|rfl|rfl<;>decide);rcases (show d=0∨d=1∨d=2∨d=3 by omega) with rfl|rfl|rfl|rfl<;>exact ⟨_,T,k5,(by omega),iQ (pK [] 5 16 (.k 11 (aj u) (.k 1 (aj v) (.c (aj z) .nil))) (.c c (.c p (.c i (.c n2 (.c n1 (.v 27 (.eq (O5 f)) (.c A .nil))))))))⟩
   |2,_,n1=>
    obtain ⟨j,a,k3,n,i⟩:=ih t ht k2 (by omega);obtain ⟨q,g,k4,m,p⟩:=ih tP (.inl (.inr (.inr rfl))) k3 (by omega);have c:=Jj (⟨11,false,[],[],[]⟩) j q a.1 (by have:=a.2.1;omega) (by have:=g.2.1;omega);exact ⟨_,.n2 (x:=⟨11,false,[],[],[]⟩) a g (by decide),k4,(by omega),iQ (pK [] 6 32 (.k 6 (aj u) (.k 1 (aj v) (.c (aj z) .nil))) (.c c (.c p (.c n59 (.c i (.c n1 (.v 27 (.eq (O5 f)) (.c A .nil))))))))⟩
   |3,_,n1=>
    obtain ⟨j,a,k3,n,i⟩:=ih t ht k2 (by omega);obtain ⟨q,g,k4,m,p⟩:=ih tP (.inl (.inr (.inr rfl))) k3 (by omega);have c:=Jj (⟨12,false,[],[],[]⟩) j q a.1 (by have:=a.2.1;omega) (by have:=g.2.1;omega);exact ⟨_,.n2 (x:=⟨12,false,[],[],[]⟩) a g (by decide),k4,(by omega),iQ (pK [] 7 64 (.k 7 (aj u) (.k 1 (aj v) (.c (aj z) .nil))) (.c c (.c p (.c n59 (.c i (.c n1 (.v 27 (.eq (O5 f)) (.c A .nil))))))))⟩
   |4,_,n1=>
    obtain ⟨j,a,k3,n,i⟩:=ih tT (.inr rfl) k2 (by omega);obtain ⟨q,g,k4,m,p⟩:=ih t ht k3 (by omega);obtain ⟨R,J,k5,s,U⟩:=ih t ht k4 (by omega);have c:=aab (⟨15,false,[],[],[]⟩) j q R a.1 (by have:=a.2.1;omega) (by have:=g.2.1;omega) (by have:=J.2.1;omega);exact ⟨_,.n3 (x:=⟨15,false,[],[],[]⟩) a g J (by decide),k5,(by omega),iQ (pK [] 8 128 (.k 11 (aj u) (.k 1 (aj v) (.c (aj z) .nil))) (.c c (.c U (.c p (.c i (.c n80 (.c n1 (.v 27 (.eq (O5 f)) (.c A .nil)))))))))⟩
   |5,_,n1=>
    obtain ⟨d,k3,y,n,n2⟩:=aQ r o k2 3 (by omega) (by omega) (by omega);obtain ⟨w,k4,m,cw⟩:=Iq r o k3 1 (by omega) (by omega) (by omega);obtain ⟨j,a,k5,s,i⟩:=ih t ht k4 (by omega);have c:=Yq (⟨η .i64 (((21:Nat):Int)+(d:Int)),w.neg,ae w.n,ae w.d,[]⟩) j a.1 (by have:=a.2.1;omega);exact ⟨_,.n1 (x:=⟨η .i64 (((21:Nat):Int)+(d:Int)),w.neg,ae w.n,ae w.d,[]⟩) a (U0 21 d (by omega) (by omega)),k5,(by omega),iQ (pK [] 9 256 (.k 9 (aj u) (.k 1 (aj v) (.c (aj z) .nil))) (.c c (.c i (.c cw (.c n2 (.c n1 (.v 27 (.eq (O5 f)) (.c A .nil))))))))⟩
   | 6,_,n1=>
    obtain ⟨W,P,k3,n,V⟩:=Rj l H S t r o k2 (by omega);rcases tf P with zr|zr
    ·skip
     obtain ⟨j,a,k4,m,i⟩:=ih t ht k3 (by omega);have c:=Yq (⟨24,false,[],[],W⟩) j a.1 (by have:=a.2.1;omega);exact ⟨_,.n1 (x:=⟨24,false,[],[],W⟩) a (show (9:Int)≤24 by decide),k4,(by omega),iQ (pK [] 10 0 (.k 3 (dM zr) (.k 9 (aj u) (.k 1 (aj v) (.c (aj z) .nil)))) (.c c (.c i (.c V (.c n1 (.v 27 (.eq (O5 f)) (.c A .nil)))))))⟩
    ·obtain ⟨e,Q,k4,m,N⟩:=FB l H S t ht r o k3 (by omega);exact ⟨e,Q.mono (by omega),k4,(by omega),iQ (pK [] 10 512 (.k 3 (fK zr) (.k 9 (aj u) (.k 1 (aj v) (.c (aj z) .nil)))) (.c N (.c V (.c n1 (.v 27 (.eq (O5 f)) (.c A .nil))))))⟩
theorem Y9 (l:List Sg) (d:Bool) (g:l.length≤100) (b:List Int) (c:Bool) (t:Ty) (i:plT t) (k:Nat) (h:k<2^60):Ed 129 [.sl (iq l) l.length d,.ptr 0 0 0,.agg (EE t),ω ((0:Nat):Int)] b c 1 k 3:=by
 obtain ⟨e,f,k2,a,j⟩:=FB l d g t i b c k h;exact ⟨e,f,k2,a,iQ (pK [] 2 3 (.n 5 .nil) (.c j .nil))⟩
theorem Y_ (l:List Sg) (d:Bool) (e:l.length≤100) (b:List Int) (c:Bool) (t:Ty) (a:plT t):Ed 129 [.sl (iq l) l.length d,.ptr 0 0 0,.agg (EE t),ω ((2:Nat):Int)] b c 9 0 47:=
 Ei l d e b c 1 3 14 1000 (by omega) (by omega) (by omega) (by omega) (by omega) (by decide) (fun t a k f=>Ei l d e b c 0 1 3 1100 (by omega) (by omega) (by omega) (by omega) (by omega) (by decide) (fun t a k f=>Y9 l d e b c t a k (Nat.lt_trans f (by decide))) t a k f) t a 0 (by omega)
theorem Y3:CO 87 [ω 0] (.ret (.agg (EE tM))):=cD [] .nil
theorem QK (l:List Sg) (c:Bool) (j:l.length≤100) (t:Ty) (g:t=tM∨t=tT) (a:List Int) (b:Bool):∃ e:List Nd,C9 9 e∧CO 82 [.sl (iq l) l.length c,.agg (EE t),.sl (iL a) a.length b] (.ret (.sl (bT e) e.length true)):=by
 obtain ⟨e,i,k2,_,d⟩:=Y_ l c j a b t (by rcases g with rfl|rfl;exact .inl (.inl rfl);exact .inr rfl);refine ⟨e,i, ?_⟩;have h:CO 82 [.sl (iq l) l.length c,.agg (EE t),.sl (iL a) a.length b] (.ret (.own (μ (e.length*5) (bT e)) e.length 5)):=by
  rcases g with rfl|rfl
  ·exact pK [] 4 1 (.n 11 .nil) (.c d (.c (Y3) .nil))
  ·exact pK [] 4 0 (.n 8 .nil) (.c d .nil)
 rw [OB] at h;have f:=h.thaw (by simp);simp only [qg,thaw,OB] at f;exact f
theorem MO (a:List UInt8):∃ r:Nat,r≤6∧CO 130 [.str a] (.ret (ω (r:Int))):=by
 rcases tf ([98,97,115,101]==a) with b0|b0
 ·exact ⟨0,by omega,pK [] 2 3 (.c (ai b0) (.n 5 .nil)) .nil⟩
 ·rcases tf (zcc2_1==a) with b1|b1
  ·exact ⟨1,by omega,pK [] 4 13 (.c (ai b1) (.k 4 (aj b0) (.n 5 .nil))) .nil⟩
  ·rcases tf (zcc2_2==a) with b2|b2
   ·exact ⟨2,by omega,pK [] 6 53 (.c (ai b2) (.k 4 (aj b1) (.k 4 (aj b0) (.n 5 .nil)))) .nil⟩
   ·rcases tf (zcc2_0==a) with b3|b3
    ·exact ⟨3,by omega,pK [] 8 213 (.c (ai b3) (.k 4 (aj b2) (.k 4 (aj b1) (.k 4 (aj b0) (.n 5 .nil))))) .nil⟩
    ·rcases tf ([116,97,120]==a) with b4|b4
     ·exact ⟨4,by omega,pK [] 10 853 (.c (ai b4) (.k 4 (aj b3) (.k 4 (aj b2) (.k 4 (aj b1) (.k 4 (aj b0) (.n 5 .nil)))))) .nil⟩
     ·rcases tf (zcc2_3==a) with b5|b5
      ·exact ⟨5,by omega,pK [] 12 3413 (.c (ai b5) (.k 4 (aj b4) (.k 4 (aj b3) (.k 4 (aj b2) (.k 4 (aj b1) (.k 4 (aj b0) (.n 5 .nil))))))) .nil⟩
      ·exact ⟨6,by omega,pK [] 13 1365 (.k 1 (aj b5) (.k 4 (aj b4) (.k 4 (aj b3) (.k 4 (aj b2) (.k 4 (aj b1) (.k 4 (aj b0) (.n 5 .nil))))))) .nil⟩
def bfS (l:List Sg) (nl:Bool) (nm:List UInt8) (fr:Bool) (p:Nat × Bool × Nat × List Sg):St:=⟨[(0,.sl (iq l) l.length nl),(1,.str nm),(2,.bool fr),(7,cond p.2.1 (.ref 0 0 0 p.2.2.1) .nilS),(8,ω (p.1:Int))],cond p.2.1 [(0,⟨iq p.2.2.2,0,false,0,5,true⟩)] [],.dead,[]⟩
def bfX (l:List Sg) (nl:Bool) (nm:List UInt8) (fr:Bool) (p:Bool × Nat × List Sg):St:=⟨[(7,cond p.1 (.ref 0 0 0 p.2.1) .nilS)],cond p.1 [(0,⟨iq p.2.2,0,false,0,5,true⟩)] [],.dead,[]⟩
theorem Px (l:List Sg) (u:Bool) (r:List UInt8) (fr:Bool) (w:l.length≤100) (i:Nat) (c:Bool) (n:Nat) (g:List Sg) (x:Sg) (v:List Sg) (d:g.length=n) (y:n≤i) (q:c=false→g= []) (s:i<l.length) (b:(ε ((γ (i:Int))*5) (iq l))=IV x++iq v):
  ∃ (c2:Bool) (n2:Nat) (o2:List Sg),o2.length=n2∧n2≤i+1∧(c2=false→o2= [])∧∀ nt,54≤nt→ψ nt f83 (bfS l u r fr (i,c,n,g)) .normal (bfS l u r fr (i+1,c2,n2,o2)):=by
 have a:(decide ((i:Int)<(l.length:Int)))=true:=kl s;have h:i<2^62:=by omega
 obtain ⟨t,_,o⟩:=MO x.name;obtain ⟨rb,_,m⟩:=MO r;have k:(Ψ (n+1) 1099511627776)=true:=(dw (by omega))
 have j:(Ψ (n*5) (κ (iq g)))=true:=(dw (by rw [mD,d];exact ζ _))
 rcases tf (x.op==((6:Nat):Int)) with b0|b0
 ·rcases tf fr with b1|b1
  ·refine ⟨true,n+1,g++ [x],by simp [d],(by omega),(by simp),fun nt e=> ?_⟩;cases c with
   |false=>have p:=q rfl;subst p;subst d;exact pN 83 [] 6 31 (.k 8 (k0 i) (.c a (.k 1 (ai b1) (.k 1 (k0 i) (.c a (.k 1 (ai b0) (.k 1 (k0 i) (.c a (.c (ai a) .nil))))))))) (.v 15 (.eq (wpS h)) (.v 49 (.ppt b) (.c m (.c o (.v 33 (.ppt b) (.v 18 (.ppt b) .nil)))))) e
   |true=>exact pN 83 [] 5 31 (.k 1 k (.c j (.k 6 (k0 i) (.c a (.k 1 (ai b1) (.k 1 (k0 i) (.c a (.k 1 (ai b0) (.k 1 (k0 i) (.c a (.c (ai a) .nil))))))))))) (.v 15 (.eq (wpS h)) (.b 52 (eP (f:=IV) (n:=5) (fun _=>rfl) g x d) (.v 49 (.ppt b) (.c m (.c o (.v 33 (.ppt b) (.v 18 (.ppt b) .nil))))))) e
  ·rcases tf (decide ((rb:Int)≤(t:Int))) with b2|b2
   ·refine ⟨c,n,g,d,by omega,q,fun nt e=> ?_⟩;cases c with
    |false=>exact pN 83 [] 5 7 (.c (dM b2) (.c (aj b1) (.k 1 (k0 i) (.c a (.k 1 (ai b0) (.k 1 (k0 i) (.c a (.c (ai a) .nil)))))))) (.v 15 (.eq (wpS h)) (.c m (.c o (.v 33 (.ppt b) (.v 18 (.ppt b) .nil))))) e
    |true=>exact pN 83 [] 5 7 (.c (dM b2) (.c (aj b1) (.k 1 (k0 i) (.c a (.k 1 (ai b0) (.k 1 (k0 i) (.c a (.c (ai a) .nil)))))))) (.v 15 (.eq (wpS h)) (.c m (.c o (.v 33 (.ppt b) (.v 18 (.ppt b) .nil))))) e
   ·refine ⟨true,n+1,g++ [x],by simp [d],(by omega),(by simp),fun nt e=> ?_⟩;cases c with
    |false=>have p:=q rfl;subst p;subst d;exact pN 83 [] 6 23 (.k 8 (k0 i) (.c a (.c (fK b2) (.c (aj b1) (.k 1 (k0 i) (.c a (.k 1 (ai b0) (.k 1 (k0 i) (.c a (.c (ai a) .nil)))))))))) (.v 15 (.eq (wpS h)) (.v 49 (.ppt b) (.c m (.c o (.v 33 (.ppt b) (.v 18 (.ppt b) .nil)))))) e
    |true=>exact pN 83 [] 5 23 (.k 1 k (.c j (.k 6 (k0 i) (.c a (.c (fK b2) (.c (aj b1) (.k 1 (k0 i) (.c a (.k 1 (ai b0) (.k 1 (k0 i) (.c a (.c (ai a) .nil)))))))))))) (.v 15 (.eq (wpS h)) (.b 52 (eP (f:=IV) (n:=5) (fun _=>rfl) g x d) (.v 49 (.ppt b) (.c m (.c o (.v 33 (.ppt b) (.v 18 (.ppt b) .nil))))))) e
 ·rcases tf (x.op==((8:Nat):Int)) with b1|b1
  ·rcases tf fr with b2|b2
   ·refine ⟨true,n+1,g++ [x],by simp [d],(by omega),(by simp),fun nt e=> ?_⟩;cases c with
    |false=>have p:=q rfl;subst p;subst d;exact pN 83 [] 6 29 (.k 8 (k0 i) (.c a (.k 1 (ai b2) (.k 1 (k0 i) (.c a (.c (ai b1) (.k 1 (k0 i) (.c a (.c (aj b0) (.k 1 (k0 i) (.c a (.c (ai a) .nil)))))))))))) (.v 15 (.eq (wpS h)) (.v 49 (.ppt b) (.c m (.c o (.v 33 (.ppt b) (.v 25 (.ppt b) (.v 18 (.ppt b) .nil))))))) e
    |true=>exact pN 83 [] 5 29 (.k 1 k (.c j (.k 6 (k0 i) (.c a (.k 1 (ai b2) (.k 1 (k0 i) (.c a (.c (ai b1) (.k 1 (k0 i) (.c a (.c (aj b0) (.k 1 (k0 i) (.c a (.c (ai a) .nil)))))))))))))) (.v 15 (.eq (wpS h)) (.b 52 (eP (f:=IV) (n:=5) (fun _=>rfl) g x d) (.v 49 (.ppt b) (.c m (.c o (.v 33 (.ppt b) (.v 25 (.ppt b) (.v 18 (.ppt b) .nil)))))))) e
   ·rcases tf (decide ((rb:Int)≤(t:Int))) with b3|b3
    ·refine ⟨c,n,g,d,by omega,q,fun nt e=> ?_⟩;cases c with
     |false=>exact pN 83 [] 5 5 (.c (dM b3) (.c (aj b2) (.k 1 (k0 i) (.c a (.c (ai b1) (.k 1 (k0 i) (.c a (.c (aj b0) (.k 1 (k0 i) (.c a (.c (ai a) .nil))))))))))) (.v 15 (.eq (wpS h)) (.c m (.c o (.v 33 (.ppt b) (.v 25 (.ppt b) (.v 18 (.ppt b) .nil)))))) e
     |true=>exact pN 83 [] 5 5 (.c (dM b3) (.c (aj b2) (.k 1 (k0 i) (.c a (.c (ai b1) (.k 1 (k0 i) (.c a (.c (aj b0) (.k 1 (k0 i) (.c a (.c (ai a) .nil))))))))))) (.v 15 (.eq (wpS h)) (.c m (.c o (.v 33 (.ppt b) (.v 25 (.ppt b) (.v 18 (.ppt b) .nil)))))) e
    ·refine ⟨true,n+1,g++ [x],by simp [d],(by omega),(by simp),fun nt e=> ?_⟩;cases c with
     |false=>have p:=q rfl;subst p;subst d;exact pN 83 [] 6 21 (.k 8 (k0 i) (.c a (.c (fK b3) (.c (aj b2) (.k 1 (k0 i) (.c a (.c (ai b1) (.k 1 (k0 i) (.c a (.c (aj b0) (.k 1 (k0 i) (.c a (.c (ai a) .nil))))))))))))) (.v 15 (.eq (wpS h)) (.v 49 (.ppt b) (.c m (.c o (.v 33 (.ppt b) (.v 25 (.ppt b) (.v 18 (.ppt b) .nil))))))) e
     |true=>exact pN 83 [] 5 21 (.k 1 k (.c j (.k 6 (k0 i) (.c a (.c (fK b3) (.c (aj b2) (.k 1 (k0 i) (.c a (.c (ai b1) (.k 1 (k0 i) (.c a (.c (aj b0) (.k 1 (k0 i) (.c a (.c (ai a) .nil))))))))))))))) (.v 15 (.eq (wpS h)) (.b 52 (eP (f:=IV) (n:=5) (fun _=>rfl) g x d) (.v 49 (.ppt b) (.c m (.c o (.v 33 (.ppt b) (.v 25 (.ppt b) (.v 18 (.ppt b) .nil)))))))) e
  ·rcases tf fr with b2|b2
   ·refine ⟨true,n+1,g++ [x],by simp [d],(by omega),(by simp),fun nt e=> ?_⟩;cases c with
    |false=>have p:=q rfl;subst p;subst d;exact pN 83 [] 6 25 (.k 8 (k0 i) (.c a (.k 1 (ai b2) (.c (aj b1) (.k 1 (k0 i) (.c a (.c (aj b0) (.k 1 (k0 i) (.c a (.c (ai a) .nil)))))))))) (.v 15 (.eq (wpS h)) (.v 49 (.ppt b) (.v 25 (.ppt b) (.v 18 (.ppt b) .nil)))) e
    |true=>exact pN 83 [] 5 25 (.k 1 k (.c j (.k 6 (k0 i) (.c a (.k 1 (ai b2) (.c (aj b1) (.k 1 (k0 i) (.c a (.c (aj b0) (.k 1 (k0 i) (.c a (.c (ai a) .nil)))))))))))) (.v 15 (.eq (wpS h)) (.b 52 (eP (f:=IV) (n:=5) (fun _=>rfl) g x d) (.v 49 (.ppt b) (.v 25 (.ppt b) (.v 18 (.ppt b) .nil))))) e
   ·refine ⟨true,n+1,g++ [x],by simp [d],(by omega),(by simp),fun nt e=> ?_⟩;cases c with
    |false=>have p:=q rfl;subst p;subst d;exact pN 83 [] 6 17 (.k 8 (k0 i) (.c a (.k 1 (aj b2) (.c (aj b1) (.k 1 (k0 i) (.c a (.c (aj b0) (.k 1 (k0 i) (.c a (.c (ai a) .nil)))))))))) (.v 15 (.eq (wpS h)) (.v 49 (.ppt b) (.v 25 (.ppt b) (.v 18 (.ppt b) .nil)))) e
    |true=>exact pN 83 [] 5 17 (.k 1 k (.c j (.k 6 (k0 i) (.c a (.k 1 (aj b2) (.c (aj b1) (.k 1 (k0 i) (.c a (.c (aj b0) (.k 1 (k0 i) (.c a (.c (ai a) .nil)))))))))))) (.v 15 (.eq (wpS h)) (.b 52 (eP (f:=IV) (n:=5) (fun _=>rfl) g x d) (.v 49 (.ppt b) (.v 25 (.ppt b) (.v 18 (.ppt b) .nil))))) e
theorem KG (l:List Sg) (g:Bool) (e:List UInt8) (fr:Bool) (h:l.length≤100):∀ (rx p:List Sg) (c:Bool) (n:Nat) (os:List Sg),l=p++rx→os.length=n→n≤p.length→(c=false→os= [])→
  ∃ (f:Bool) (n2:Nat) (a:List Sg),a.length=n2∧n2≤l.length∧(f=false→a= [])∧∀ nt,54≤nt→aJ prog ap [] nt (au 0 (ag f83)) (fun _=> .exit 0) (bfS l g e fr) (bfX l g e fr) (p.length,c,n,os) (f,n2,a)
 | [],p,c,n,os,hp,hn0,ho,hc=>by
  rw [ο] at hp;subst hp;have d:(decide ((l.length:Int)<(l.length:Int)))=false:=kn (ζ _);refine ⟨c,n,os,hn0,ho,hc,fun nt b=> .done ?_⟩;cases c with
  |false=>exact pN 83 [] 1 0 (.c (aj d) .nil) .nil b
  |true=>exact pN 83 [] 1 0 (.c (aj d) .nil) .nil b
 |x::rx,p,c,n,os,hp,hn0,ho,hc=>by
  obtain ⟨k,n1,o,h0,j,d,q⟩:=Px l g e fr h p.length c n os x rx hn0 ho hc (mP hp) (by rw [hp];exact zf rfl);obtain ⟨f,n2,a,i,s,m,r⟩:=KG l g e fr h rx (p++ [x]) k n1 o (by simp [hp]) h0 (by simpa using j) d;refine ⟨f,n2,a,i,s,m,fun nt b=> .next (q nt b) ?_⟩;have:=r nt b;rw [ξ] at this;exact this
theorem NV (l:List Sg) (b:Bool) (k:l.length≤100) (d:List UInt8) (fr:Bool):∃ o:List Sg,o.length≤l.length∧CO 83 [.sl (iq l) l.length b,.str d,.bool fr] (.ret (.sl (iq o) o.length false)):=by
 obtain ⟨c,n,a,f,q,m,j⟩:=KG l b d fr k l [] false 0 [] rfl rfl (ζ _) (fun _=>rfl);have i:=aJ.blk (id:=0) (e':= .normal) (fun nt (hn:54≤nt)=>j nt hn) (by simp) rfl (aI.refl _) (aI.refl _);refine ⟨a,by omega, ?_⟩;cases c with
 |false=>
  have p:=m rfl;subst p;have h:CO 83 [.sl (iq l) l.length b,.str d,.bool fr] (.ret .nilS):=pK [0] 0 0 .nil (.k [0,1,2,7,8] i .nil);exact h.out (je.ret rfl rfl (bF.nilS false rfl))
 |true=>
  have h:CO 83 [.sl (iq l) l.length b,.str d,.bool fr] (.ret (.own (μ (n*5) (iq a)) n 5)):=pK [0] 0 0 .nil (.k [0,1,2,7,8] i .nil);have g:=h.thaw (by simp);have e:μ (n*5) (iq a)=iq a:=τ (by rw [mD];omega);simp only [qg,thaw,e] at g;subst f;exact g.out (je.ret rfl rfl (bF.sl _ _ _))
def sgP (q:Nat) (x:Pv):Sg:=⟨(q:Int),x.nm,⟨x.tr,x.tm,x.td⟩⟩
def sgS (F1 S1:List AV) (fN sN:Nat) (ps:List Pv) (np:Bool) (q:Nat) (p:Nat × Nat × List Sg):St:=⟨[(1,.ptr 0 0 0),(3,.ref 1 0 0 p.2.1),(5,ω (q:Int)),(6,ω (p.1:Int))],[(0,⟨[.sl F1 fN true,.sl S1 sN true,.sl (bQ ps) ps.length np],0,false,0,0,true⟩),(1,⟨iq p.2.2,0,false,0,5,true⟩)],.dead,[]⟩
def sgX (F1 S1:List AV) (fN sN:Nat) (ps:List Pv) (np:Bool) (q:Nat) (p:Nat × List Sg):St:=(Yi p.1 q [.sl F1 fN true,.sl S1 sN true,.sl (bQ ps) ps.length np] (iq p.2))
theorem Nq (F1 S1:List AV) (fN sN:Nat) (ps:List Pv) (e:Bool) (q:Nat) (hp:ps.length≤20):∀ (rx p:List Pv) (n:Nat) (os:List Sg),ps=p++rx→os.length=n→n≤40+p.length→
  ∃ (n2:Nat) (b:List Sg),b.length=n2∧n2≤n+rx.length∧∀ nt,84≤nt→aJ prog ap [] nt (au 4 (ag f81)) (fun _=> .exit 4) (sgS F1 S1 fN sN ps e q) (sgX F1 S1 fN sN ps e q) (p.length,n,os) (n2,b)
 | [],p,n,os,hp,hn0,ho=>by
  rw [ο] at hp;subst hp;have a:(decide ((ps.length:Int)<(ps.length:Int)))=false:=kn (ζ _);exact ⟨n,os,hn0,by simp,fun nt c=> .done (pN 81 [] 1 0 (.c (aj a) (.n 1 .nil)) .nil c)⟩
 |x::rx,p,n,os,hp,hn0,ho=>by
  have j:(ε ((γ (p.length:Int))*12) (bQ ps))=vZ x++bQ rx:=eH Rf hp;have g:=mP hp;obtain ⟨n2,b,m,o,l⟩:=Nq F1 S1 fN sN ps e q (by assumption) rx (p++ [x]) (n+1) (os++ [sgP q x]) (by simp [hp]) (by simp [hn0]) (by simp;omega);refine ⟨n2,b,m,by simp;omega,fun nt c=> ?_⟩;have:=l nt c;rw [ξ] at this;refine .next ?_ this
  generalize p.length=i at*
  have a:(decide ((i:Int)<(ps.length:Int)))=true:=kl g;have k:i<2^62:=by omega
  have h:(Ψ (n+1) 1099511627776)=true:=(dw (by omega))
  have d:(Ψ (n*5) (κ (iq os)))=true:=(dw (by rw [mD,hn0];exact ζ _))
  exact pN 81 [] 1 1 (.k 1 h (.c d (.k 4 (k0 i) (.c a (.k 2 (k0 i) (.c a (.k 1 (ai a) (.n 1 .nil)))))))) (.v 41 (.eq (wpS k)) (.b 58 (eP (f:=IV) (n:=5) (fun _=>rfl) os (sgP q x) hn0) (.v 53 (.ppt j) (.v 47 (.ppt j) .nil)))) c
def sgR (F1 S1:List AV) (fN sN:Nat) (ps:List Pv) (np:Bool) (p:Nat × Nat × List Sg):St:=(Yi p.2.1 p.1 [.sl F1 fN true,.sl S1 sN true,.sl (bQ ps) ps.length np] (iq p.2.2))
def sgY (F1 S1:List AV) (fN sN:Nat) (ps:List Pv) (np:Bool) (p:Nat × List Sg):St:=⟨[(1,.ptr 0 0 0),(3,.ref 1 0 0 p.1)],[(0,⟨[.sl F1 fN true,.sl S1 sN true,.sl (bQ ps) ps.length np],0,false,0,0,true⟩),(1,⟨iq p.2,0,false,0,5,true⟩)],.dead,[]⟩
theorem Ez (F1 S1:List AV) (fN sN:Nat) (ps:List Pv) (c:Bool) (hp:ps.length≤10):∀ (rem q n:Nat) (os:List Sg),q+rem=9→os.length=n→n+10*rem≤33→
  ∃ (n2:Nat) (b:List Sg),b.length=n2∧n2≤33∧∀ nt,84≤nt→aJ prog ap [] nt (au 2 (ag f81)) (fun _=> .exit 2) (sgR F1 S1 fN sN ps c) (sgY F1 S1 fN sN ps c) (q,n,os) (n2,b)
 |0,q,n,os,hq,hn0,ho=>by
  have d:(decide ((q:Int)≤((8:Nat):Int)))=false:=Yq1 (by omega);exact ⟨n,os,hn0,ho,fun nt a=> .done (pN 81 [4] 1 0 (.c (aj d) .nil) .nil a)⟩
 |rem+1,q,n,os,hq,hn0,ho=>by
  obtain ⟨n2,b,l,m,h⟩:=Nq F1 S1 fN sN ps c q (by omega) ps [] n os rfl hn0 (by simp;omega);have f:=aJ.blk (id:=4) (e':= .normal) (fun nt (a:84≤nt)=>h nt a) (by simp) rfl (aI.refl _) (aI.refl _);obtain ⟨n3,i,j,g,k⟩:=Ez F1 S1 fN sN ps c hp rem (q+1) n2 b (by omega) l (by omega);have d:(decide ((q:Int)≤((8:Nat):Int)))=true:=Yq0 (by omega);have e:q<2^62:=by omega
  exact ⟨n3,i,j,g,fun nt a=> .next (pN 81 [4] 1 1 (.c (ai d) .nil) (.v 34 (.eq (wpS e)) (.k [1,3,5,6] f .nil)) a) (k nt a)⟩
def fZ (r:Bool):List AV:=cond r [.str [97,103,101],.bool false,ω 0,ω 0,.str [114,101,110,116],.bool false,ω 1,ω 0,.str [119,97,103,101],.bool false,ω 1,ω 0] [.str [97,103,101],.bool false,ω 0,ω 0,.str [119,97,103,101],.bool false,ω 1,ω 0]
def gq (x:Bool) (b1 b2:List AV) (n1 n2:Nat):List AV:=cond x [.str zcc2_4,ω 1,ω 0,.sl b1 n1 true,.str [101,120,116,114,97],ω 1,ω 0,.sl b2 n2 true] [.str zcc2_4,ω 1,ω 0,.sl b1 n1 true]
def sgF (r:Bool):List Sg:=cond r [⟨5,[97,103,101],⟨false,0,0⟩⟩,⟨5,[114,101,110,116],⟨false,1,0⟩⟩,⟨5,[119,97,103,101],⟨false,1,0⟩⟩] [⟨5,[97,103,101],⟨false,0,0⟩⟩,⟨5,[119,97,103,101],⟨false,1,0⟩⟩]
def sgB:Sg:=⟨24,zcc2_4,⟨false,1,0⟩⟩
def sgE:Sg:=⟨24,[101,120,116,114,97],⟨false,1,0⟩⟩
theorem Oz:CO 128 [.agg [ω 1,ω 0]] (.ret (.agg [.bool false,ω 1,ω 0])):=cD [] .nil
theorem XY {f:Nat} {args:List AV} {n:Nat} {o:List Sg} (a:o.length=n) (h:CO f args (.ret (.own (μ (n*5) (iq o)) n 5))):CO f args (.ret (.own (iq o) o.length 5)):=by
 subst a;have e:μ (o.length*5) (iq o)=iq o:=τ (by rw [mD];omega);rw [e] at h;exact h
theorem Vl (r x:Bool) (o l:List AV) (n1 n2:Nat) (ps:List Pv) (p:Bool) (hp:ps.length≤10):∃ sg:List Sg,sg.length≤100∧CO 81 [.agg [.sl (fZ r) (cond r 3 2) true,.sl (gq x o l n1 n2) (cond x 2 1) true,.sl (bQ ps) ps.length p]] (.ret (.own (iq sg) sg.length 5)):=by
 obtain ⟨a,b,c,s,q⟩:=Ez (fZ r) (gq x o l n1 n2) (cond r 3 2) (cond x 2 1) ps p hp 3 6 (cond r 3 2) (sgF r) rfl (by cases r<;>rfl) (by cases r<;>simp);have h:=aJ.blk (id:=2) (e':= .normal) (fun nt (hn:84≤nt)=>q nt hn) (by simp) rfl (aI.refl _) (aI.refl _);have d:=eP (f:=IV) (n:=5) (fun _=>rfl) b sgB c;have m:=eP (f:=IV) (n:=5) (fun _=>rfl) (b++ [sgB]) sgE (k:=a+1) (by simp [c]);have e:Ψ (a+1) 1099511627776=true:=dw (by omega);have g:Ψ (a*5) (κ (iq b))=true:=dw (by rw [mD,c];exact ζ _);have j:Ψ ((a+1)+1) 1099511627776=true:=dw (by omega);have i:Ψ ((a+1)*5) (κ (iq (b++ [sgB])))=true:=dw (by rw [mD];simp [c]);cases x with
 |false=>
  refine ⟨b++ [sgB],by simp;omega,XY (n:=a+1) (by simp [c]) ?_⟩;cases r with
  |false=>exact pK [2] 6 21 (.k 3 e (.c g (.n 45 .nil))) (.b 82 d (.c Oz (.k [1,3,5] h .nil)))
  |true=>exact pK [2] 7 45 (.k 3 e (.c g (.n 61 .nil))) (.b 82 d (.c Oz (.k [1,3,5] h .nil)))
 |true=>
  refine ⟨b++ [sgB]++ [sgE],by simp;omega,XY (n:=a+1+1) (by simp [c]) ?_⟩;cases r with
  |false=>exact pK [2] 7 53 (.k 3 j (.c i (.k 13 e (.c g (.n 45 .nil))))) (.b 82 m (.c Oz (.b 82 d (.c Oz (.k [1,3,5] h .nil)))))
  |true=>exact pK [2] 8 109 (.k 3 j (.c i (.k 13 e (.c g (.n 61 .nil))))) (.b 82 m (.c Oz (.b 82 d (.c Oz (.k [1,3,5] h .nil)))))
theorem fD {a b:Nat} (h:a+b<2^62):ω (η .i64 ((a:Int)+(b:Int)))= ω ((a+b:Nat):Int):=by rw [dP]<;>first|rfl|omega
theorem EK {a:Int} {b:Nat} (h: -100≤a) (c:a≤100) (d:b<2^60):ω (η .i64 (a+(b:Int)))= ω (a+(b:Int)):=by rw [dP]<;>first|rfl|omega
theorem xM (g:Bool) (c:List Int) (d:Bool) (k:Nat) (hk:k<2^60):∃ (W:List AV) (n k2:Nat),W.length=n*6∧n≤3∧k2≤k+12∧af prog ap 79 [.ptr 0 0 0,.bool g] [dB c d k] (.ret (.sl W n true)) [dB c d k2]:=by
 have own:∀ {W:List AV} {n k2:Nat},W.length=n*6→af prog ap 79 [.ptr 0 0 0,.bool g] [dB c d k] (.ret (.own W n 6)) [dB c d k2]→af prog ap 79 [.ptr 0 0 0,.bool g] [dB c d k] (.ret (.sl W n true)) [dB c d k2]:=fun {W n k2} hW h=>by
  have F:=h.thaw (by intro B I;simp only [List.mem_singleton] at I;subst I;rfl);simp only [qg,thaw,τ (Nat.le_of_eq hW)] at F;exact F
 obtain ⟨r0,k1,O,X,r⟩:=aQ c d k 5 (by omega) (by omega) (by omega);obtain ⟨w0,_,_,_,A⟩:=eX (r0:Int) 10 (by omega) (by omega) (by omega) (by omega);obtain ⟨p,k2,N,V,x⟩:=aQ c d k1 2 (by omega) (by omega) (by omega);obtain ⟨e,k3,S,hk3,w⟩:=aQ c d k2 100 (by omega) (by omega) (by omega);obtain ⟨i,k4,U,T,t⟩:=aQ c d k3 6 (by omega) (by omega) (by omega);obtain ⟨o,k5,hr4,P,u⟩:=aQ c d k4 2 (by omega) (by omega) (by omega);obtain ⟨v,k6,Y,Z,G⟩:=aQ c d k5 100 (by omega) (by omega) (by omega);obtain ⟨z,k7,hr6,Q,L⟩:=aQ c d k6 6 (by omega) (by omega) (by omega);obtain ⟨E,k8,R,M,H⟩:=aQ c d k7 2 (by omega) (by omega) (by omega);have s:(decide (((0:Nat):Int)<((1+p:Nat):Int)))=true:=Yq0 (by omega);have J:(decide (((2:Nat):Int)<((1+E:Nat):Int)))=false:=Yq1 (by omega);obtain ⟨q0,C⟩:∃ q:RQ,CO 25 [ω 0] (.ret (qA q)):=⟨_,jl 0 (by omega) (by omega)⟩
 obtain ⟨f,y⟩:∃ q:RQ,CO 25 [ω ((1+e:Nat):Int)] (.ret (qA q)):=⟨_,jl ((1+e:Nat):Int) (by omega) (by omega)⟩
 obtain ⟨m,K⟩:∃ q:RQ,CO 25 [ω ((1+e+1+v:Nat):Int)] (.ret (qA q)):=⟨_,jl ((1+e+1+v:Nat):Int) (by omega) (by omega)⟩
 rcases tf (decide (((1:Nat):Int)<((1+o:Nat):Int))) with z1|z1
 ·cases g with
  |true=>
   obtain ⟨w1,_,_,_,l⟩:=eX (((0:Nat):Int)+(i:Int)) 10 (by omega) (by omega) (by omega) (by omega);obtain ⟨j,_,_,_,D⟩:=eX (((0:Nat):Int)+(z:Int)) 10 (by omega) (by omega) (by omega) (by omega);have h:af prog ap 79 [.ptr 0 0 0,.bool true] [dB c d k] (.ret (.own [.bool q0.neg,.str (ae q0.n),.str (ae q0.d),.bool w0.neg,.str (ae w0.n),.str (ae w0.d),.bool f.neg,.str (ae f.n),.str (ae f.d),.bool w1.neg,.str (ae w1.n),.str (ae w1.d),.bool m.neg,.str (ae m.n),.str (ae m.d),.bool j.neg,.str (ae j.n),.str (ae j.d)] 3 6)) [dB c d k8]:=pK [] 4 6 (.c (aj J) (.k 4 (ai z1) (.k 4 (ai s) (.n 1 .nil)))) (.v 20 (.eq (fD (a:=1) (b:=E) (by omega))) (.c H (.c D (.v 35 (.eq (EK (a:=((0:Nat):Int)) (b:=z) (by omega) (by omega) (by omega))) (.c L (.c K (.v 28 (.eq (fD (a:=1+e+1) (b:=v) (by omega))) (.c G (.v 25 (.eq (fD (a:=1+e) (b:=1) (by omega))) (.v 20 (.eq (fD (a:=1) (b:=o) (by omega))) (.c u (.c l (.v 35 (.eq (EK (a:=((0:Nat):Int)) (b:=i) (by omega) (by omega) (by omega))) (.c t (.c y (.v 28 (.eq (fD (a:=1) (b:=e) (by omega))) (.c w (.v 20 (.eq (fD (a:=1) (b:=p) (by omega))) (.c x (.c A (.c r (.c C .nil))))))))))))))))))))));refine ⟨_,3,k8, ?_,by omega,by omega,own ?_ h⟩<;>rfl
  |false=>
   obtain ⟨w1,_,_,_,l⟩:=eX ((-2)+(i:Int)) 10 (by omega) (by omega) (by omega) (by omega);obtain ⟨j,_,_,_,D⟩:=eX ((-2)+(z:Int)) 10 (by omega) (by omega) (by omega) (by omega);have h:af prog ap 79 [.ptr 0 0 0,.bool false] [dB c d k] (.ret (.own [.bool q0.neg,.str (ae q0.n),.str (ae q0.d),.bool w0.neg,.str (ae w0.n),.str (ae w0.d),.bool f.neg,.str (ae f.n),.str (ae f.d),.bool w1.neg,.str (ae w1.n),.str (ae w1.d),.bool m.neg,.str (ae m.n),.str (ae m.d),.bool j.neg,.str (ae j.n),.str (ae j.d)] 3 6)) [dB c d k8]:=pK [] 4 7 (.c (aj J) (.k 4 (ai z1) (.k 4 (ai s) (.n 1 .nil)))) (.v 20 (.eq (fD (a:=1) (b:=E) (by omega))) (.c H (.c D (.v 35 (.eq (EK (a:=(-2)) (b:=z) (by omega) (by omega) (by omega))) (.c L (.c K (.v 28 (.eq (fD (a:=1+e+1) (b:=v) (by omega))) (.c G (.v 25 (.eq (fD (a:=1+e) (b:=1) (by omega))) (.v 20 (.eq (fD (a:=1) (b:=o) (by omega))) (.c u (.c l (.v 35 (.eq (EK (a:=(-2)) (b:=i) (by omega) (by omega) (by omega))) (.c t (.c y (.v 28 (.eq (fD (a:=1) (b:=e) (by omega))) (.c w (.v 20 (.eq (fD (a:=1) (b:=p) (by omega))) (.c x (.c A (.c r (.c C .nil))))))))))))))))))))));refine ⟨_,3,k8, ?_,by omega,by omega,own ?_ h⟩<;>rfl
 ·cases g with
  |true=>
   obtain ⟨w1,_,_,_,l⟩:=eX (((0:Nat):Int)+(i:Int)) 10 (by omega) (by omega) (by omega) (by omega);have h:af prog ap 79 [.ptr 0 0 0,.bool true] [dB c d k] (.ret (.own [.bool q0.neg,.str (ae q0.n),.str (ae q0.d),.bool w0.neg,.str (ae w0.n),.str (ae w0.d),.bool f.neg,.str (ae f.n),.str (ae f.d),.bool w1.neg,.str (ae w1.n),.str (ae w1.d)] 2 6)) [dB c d k5]:=pK [] 3 2 (.c (aj z1) (.k 4 (ai s) (.n 1 .nil))) (.v 20 (.eq (fD (a:=1) (b:=o) (by omega))) (.c u (.c l (.v 35 (.eq (EK (a:=((0:Nat):Int)) (b:=i) (by omega) (by omega) (by omega))) (.c t (.c y (.v 28 (.eq (fD (a:=1) (b:=e) (by omega))) (.c w (.v 20 (.eq (fD (a:=1) (b:=p) (by omega))) (.c x (.c A (.c r (.c C .nil)))))))))))));refine ⟨_,2,k5, ?_,by omega,by omega,own ?_ h⟩<;>rfl
  |false=>
   obtain ⟨w1,_,_,_,l⟩:=eX ((-2)+(i:Int)) 10 (by omega) (by omega) (by omega) (by omega);have h:af prog ap 79 [.ptr 0 0 0,.bool false] [dB c d k] (.ret (.own [.bool q0.neg,.str (ae q0.n),.str (ae q0.d),.bool w0.neg,.str (ae w0.n),.str (ae w0.d),.bool f.neg,.str (ae f.n),.str (ae f.d),.bool w1.neg,.str (ae w1.n),.str (ae w1.d)] 2 6)) [dB c d k5]:=pK [] 3 3 (.c (aj z1) (.k 4 (ai s) (.n 1 .nil))) (.v 20 (.eq (fD (a:=1) (b:=o) (by omega))) (.c u (.c l (.v 35 (.eq (EK (a:=(-2)) (b:=i) (by omega) (by omega) (by omega))) (.c t (.c y (.v 28 (.eq (fD (a:=1) (b:=e) (by omega))) (.c w (.v 20 (.eq (fD (a:=1) (b:=p) (by omega))) (.c x (.c A (.c r (.c C .nil)))))))))))));refine ⟨_,2,k5, ?_,by omega,by omega,own ?_ h⟩<;>rfl
theorem afw (a b c:RQ) (r:Nat) (d:r<3) (e:a.ok∧a.n<65536∧a.d<65536) (g:b.ok∧b.n<65536∧b.d<65536) (f:c.ok∧c.n<65536∧c.d<65536):∃ (ws:RQ) (rx:List AV),(ws.ok∧ws.n<65536∧ws.d<65536)∧
  ε ((γ (r:Int))*3) [AV.bool a.neg,.str (ae a.n),.str (ae a.d),.bool b.neg,.str (ae b.n),.str (ae b.d),.bool c.neg,.str (ae c.n),.str (ae c.d)]= [.bool ws.neg,.str (ae ws.n),.str (ae ws.d)]++rx:=by
 match r,d with
 |0,_=>exact ⟨a,_,e,rfl⟩
 |1,_=>exact ⟨b,_,g,rfl⟩
 |2,_=>exact ⟨c,_,f,rfl⟩
theorem wL (p:Pv) (X:List AV) (n:Nat) (bx:Bool) (y:List UInt8) (t:List Int) (s:Bool) (k:Nat) (hk:k<2^60):∃ (p2:Pv) (k2:Nat),p2.body.length≤6∧p2.nm=p.nm∧k2≤k+8∧af prog ap 84 [.ptr 0 0 0,.agg [.str p.nm,.bool p.tr,ω p.tm,ω p.td,.sl X n bx,.bool p.ch,.bool p.sn,.str p.sa,.str p.sd,.bool p.cn,.str p.ca,.str p.cd],.str y] [dB t s k] (.ret (.agg (iG p2))) [dB t s k2]:=by
 obtain ⟨r0,k1,hr0,Z,H⟩:=aQ t s k 3 (by omega) (by omega) (by omega);obtain ⟨w,k2,hr1,hk2,M⟩:=aQ t s k1 4 (by omega) (by omega) (by omega);obtain ⟨z,k3,hr2,hk3,L⟩:=aQ t s k2 3 (by omega) (by omega) (by omega);obtain ⟨r3,k4,Y,hk4,E⟩:=aQ t s k3 40 (by omega) (by omega) (by omega);obtain ⟨T,k5,hr4,U,J⟩:=aQ t s k4 2 (by omega) (by omega) (by omega);obtain ⟨R,k6,hr5,hk6,B⟩:=aQ t s k5 2 (by omega) (by omega) (by omega);obtain ⟨v,k7,O,V,N⟩:=aQ t s k6 3 (by omega) (by omega) (by omega);obtain ⟨r,k8,hr7,hk8,C⟩:=aQ t s k7 30 (by omega) (by omega) (by omega);have A:=jl ((1+r:Nat):Int) (by omega) (by omega);obtain ⟨w0,_,_,_,G⟩:=eX ((1+w:Nat):Int) ((2+z:Nat):Int) (by omega) (by omega) (by omega) (by omega);obtain ⟨w1,_,_,_,F⟩:=eX (r3:Int) 4 (by omega) (by omega) (by omega) (by omega);obtain ⟨q,_,_,_,Q⟩:=eX 1 4 (by omega) (by omega) (by omega) (by omega);obtain ⟨d,W,a2,a3,I⟩:=eX 1 1 (by omega) (by omega) (by omega) (by omega);obtain ⟨wb,o,m,b3,D⟩:=eX 1 2 (by omega) (by omega) (by omega) (by omega);obtain ⟨e,e1,e2,e3,K⟩:=eX 5 1 (by omega) (by omega) (by omega) (by omega);obtain ⟨c,rx,S,P⟩:=afw d wb e v O ⟨W,by omega,by omega⟩ ⟨o,by omega,by omega⟩ ⟨e1,by omega,by omega⟩;obtain ⟨u,x⟩:=abV c ((1+r:Nat):Int) S.1 S.2.1 S.2.2 (by omega) (by omega);generalize uH ((1+r:Nat):Int)=q0 at A x;have g:AV.agg [.bool (AV.toBool (Xqm (ε ((γ (v:Int))*3) [.bool d.neg,.str (ae d.n),.str (ae d.d),.bool wb.neg,.str (ae wb.n),.str (ae wb.d),.bool e.neg,.str (ae e.n),.str (ae e.d)]) .dead)),.str (AV.toStr (Xqm (Xqx (ε ((γ (v:Int))*3) [.bool d.neg,.str (ae d.n),.str (ae d.d),.bool wb.neg,.str (ae wb.n),.str (ae wb.d),.bool e.neg,.str (ae e.n),.str (ae e.d)])) .dead)),.str (AV.toStr (Xqm (Xqx (Xqx (ε ((γ (v:Int))*3) [.bool d.neg,.str (ae d.n),.str (ae d.d),.bool wb.neg,.str (ae wb.n),.str (ae wb.d),.bool e.neg,.str (ae e.n),.str (ae e.d)]))) .dead))]= .agg [.bool c.neg,.str (ae c.n),.str (ae c.d)]:=by rw [P];rfl
 have f:(decide (((0:Nat):Int)≤(v:Int)))=true:=(k0 v)
 have i:(decide ((v:Int)<((3:Nat):Int)))=true:=(kl O)
 have j:(chk .bool (Xqm (ε ((γ (v:Int))*3) [.bool d.neg,.str (ae d.n),.str (ae d.d),.bool wb.neg,.str (ae wb.n),.str (ae wb.d),.bool e.neg,.str (ae e.n),.str (ae e.d)]) .dead))=true:=(by rw [P];rfl)
 have l:(chk .str (Xqm (Xqx (ε ((γ (v:Int))*3) [.bool d.neg,.str (ae d.n),.str (ae d.d),.bool wb.neg,.str (ae wb.n),.str (ae wb.d),.bool e.neg,.str (ae e.n),.str (ae e.d)])) .dead))=true:=(by rw [P];rfl)
 have h:(chk .str (Xqm (Xqx (Xqx (ε ((γ (v:Int))*3) [.bool d.neg,.str (ae d.n),.str (ae d.d),.bool wb.neg,.str (ae wb.n),.str (ae wb.d),.bool e.neg,.str (ae e.n),.str (ae e.d)]))) .dead))=true:=(by rw [P];rfl)
 rcases tf ((r0:Int)==((0:Nat):Int)) with b0|b0
 ·rcases tf ((T:Int)==((0:Nat):Int)) with o|o
  ·rcases tf ((R:Int)==((0:Nat):Int)) with m|m
   ·exact ⟨⟨p.nm,p.tr,p.tm,p.td,[⟨5,false,[],[],[119,97,103,101]⟩,⟨3,w0.neg,ae w0.n,ae w0.d,[]⟩,⟨8,false,[],[],y⟩,⟨11,false,[],[],[]⟩,⟨9,false,[],[],[]⟩,⟨21,q.neg,ae q.n,ae q.d,[]⟩],p.ch,c.neg,ae c.n,ae c.d,u.neg,ae u.n,ae u.d⟩,k8,Xqv rfl,rfl,(by omega),pK [] 3 7 (.k 30 f (.c i (.c j (.c l (.c h (.k 6 (ai m) (.k 12 (ai o) (.k 2 (ai b0) .nil)))))))) (.c x (.c A (.v 60 (.eq (fD (a:=1) (b:=r) (by omega))) (.c C (.v 54 (.eq g) (.c N (.c K (.c D (.c I (.c Q (.c B (.c J (.c F (.c E (.c G (.v 18 (.eq (fD (a:=2) (b:=z) (by omega))) (.c L (.v 15 (.eq (fD (a:=1) (b:=w) (by omega))) (.c M (.c H .nil))))))))))))))))))))⟩
   ·exact ⟨⟨p.nm,p.tr,p.tm,p.td,[⟨5,false,[],[],[119,97,103,101]⟩,⟨3,w0.neg,ae w0.n,ae w0.d,[]⟩,⟨8,false,[],[],y⟩,⟨11,false,[],[],[]⟩,⟨9,false,[],[],[]⟩],p.ch,c.neg,ae c.n,ae c.d,u.neg,ae u.n,ae u.d⟩,k8,Xqv rfl,rfl,(by omega),pK [] 3 3 (.k 30 f (.c i (.c j (.c l (.c h (.c (aj m) (.k 12 (ai o) (.k 2 (ai b0) .nil)))))))) (.c x (.c A (.v 60 (.eq (fD (a:=1) (b:=r) (by omega))) (.c C (.v 54 (.eq g) (.c N (.c K (.c D (.c I (.c B (.c J (.c F (.c E (.c G (.v 18 (.eq (fD (a:=2) (b:=z) (by omega))) (.c L (.v 15 (.eq (fD (a:=1) (b:=w) (by omega))) (.c M (.c H .nil)))))))))))))))))))⟩
  ·rcases tf ((R:Int)==((0:Nat):Int)) with m|m
   ·exact ⟨⟨p.nm,p.tr,p.tm,p.td,[⟨1,w1.neg,ae w1.n,ae w1.d,[]⟩,⟨3,w0.neg,ae w0.n,ae w0.d,[]⟩,⟨8,false,[],[],y⟩,⟨11,false,[],[],[]⟩,⟨9,false,[],[],[]⟩,⟨21,q.neg,ae q.n,ae q.d,[]⟩],p.ch,c.neg,ae c.n,ae c.d,u.neg,ae u.n,ae u.d⟩,k8,Xqv rfl,rfl,(by omega),pK [] 3 5 (.k 30 f (.c i (.c j (.c l (.c h (.k 6 (ai m) (.k 11 (aj o) (.k 2 (ai b0) .nil)))))))) (.c x (.c A (.v 60 (.eq (fD (a:=1) (b:=r) (by omega))) (.c C (.v 54 (.eq g) (.c N (.c K (.c D (.c I (.c Q (.c B (.c J (.c F (.c E (.c G (.v 18 (.eq (fD (a:=2) (b:=z) (by omega))) (.c L (.v 15 (.eq (fD (a:=1) (b:=w) (by omega))) (.c M (.c H .nil))))))))))))))))))))⟩
   ·exact ⟨⟨p.nm,p.tr,p.tm,p.td,[⟨1,w1.neg,ae w1.n,ae w1.d,[]⟩,⟨3,w0.neg,ae w0.n,ae w0.d,[]⟩,⟨8,false,[],[],y⟩,⟨11,false,[],[],[]⟩,⟨9,false,[],[],[]⟩],p.ch,c.neg,ae c.n,ae c.d,u.neg,ae u.n,ae u.d⟩,k8,Xqv rfl,rfl,(by omega),pK [] 3 1 (.k 30 f (.c i (.c j (.c l (.c h (.c (aj m) (.k 11 (aj o) (.k 2 (ai b0) .nil)))))))) (.c x (.c A (.v 60 (.eq (fD (a:=1) (b:=r) (by omega))) (.c C (.v 54 (.eq g) (.c N (.c K (.c D (.c I (.c B (.c J (.c F (.c E (.c G (.v 18 (.eq (fD (a:=2) (b:=z) (by omega))) (.c L (.v 15 (.eq (fD (a:=1) (b:=w) (by omega))) (.c M (.c H .nil)))))))))))))))))))⟩
 ·rcases tf ((T:Int)==((0:Nat):Int)) with o|o
  ·rcases tf ((R:Int)==((0:Nat):Int)) with m|m
   ·exact ⟨⟨p.nm,p.tr,p.tm,p.td,[⟨5,false,[],[],[119,97,103,101]⟩,⟨3,w0.neg,ae w0.n,ae w0.d,[]⟩,⟨6,false,[],[],y⟩,⟨11,false,[],[],[]⟩,⟨9,false,[],[],[]⟩,⟨21,q.neg,ae q.n,ae q.d,[]⟩],p.ch,c.neg,ae c.n,ae c.d,u.neg,ae u.n,ae u.d⟩,k8,Xqv rfl,rfl,(by omega),pK [] 3 6 (.k 30 f (.c i (.c j (.c l (.c h (.k 6 (ai m) (.k 12 (ai o) (.k 2 (aj b0) .nil)))))))) (.c x (.c A (.v 60 (.eq (fD (a:=1) (b:=r) (by omega))) (.c C (.v 54 (.eq g) (.c N (.c K (.c D (.c I (.c Q (.c B (.c J (.c F (.c E (.c G (.v 18 (.eq (fD (a:=2) (b:=z) (by omega))) (.c L (.v 15 (.eq (fD (a:=1) (b:=w) (by omega))) (.c M (.c H .nil))))))))))))))))))))⟩
   ·exact ⟨⟨p.nm,p.tr,p.tm,p.td,[⟨5,false,[],[],[119,97,103,101]⟩,⟨3,w0.neg,ae w0.n,ae w0.d,[]⟩,⟨6,false,[],[],y⟩,⟨11,false,[],[],[]⟩,⟨9,false,[],[],[]⟩],p.ch,c.neg,ae c.n,ae c.d,u.neg,ae u.n,ae u.d⟩,k8,Xqv rfl,rfl,(by omega),pK [] 3 2 (.k 30 f (.c i (.c j (.c l (.c h (.c (aj m) (.k 12 (ai o) (.k 2 (aj b0) .nil)))))))) (.c x (.c A (.v 60 (.eq (fD (a:=1) (b:=r) (by omega))) (.c C (.v 54 (.eq g) (.c N (.c K (.c D (.c I (.c B (.c J (.c F (.c E (.c G (.v 18 (.eq (fD (a:=2) (b:=z) (by omega))) (.c L (.v 15 (.eq (fD (a:=1) (b:=w) (by omega))) (.c M (.c H .nil)))))))))))))))))))⟩
  ·rcases tf ((R:Int)==((0:Nat):Int)) with m|m
   ·exact ⟨⟨p.nm,p.tr,p.tm,p.td,[⟨1,w1.neg,ae w1.n,ae w1.d,[]⟩,⟨3,w0.neg,ae w0.n,ae w0.d,[]⟩,⟨6,false,[],[],y⟩,⟨11,false,[],[],[]⟩,⟨9,false,[],[],[]⟩,⟨21,q.neg,ae q.n,ae q.d,[]⟩],p.ch,c.neg,ae c.n,ae c.d,u.neg,ae u.n,ae u.d⟩,k8,Xqv rfl,rfl,(by omega),pK [] 3 4 (.k 30 f (.c i (.c j (.c l (.c h (.k 6 (ai m) (.k 11 (aj o) (.k 2 (aj b0) .nil)))))))) (.c x (.c A (.v 60 (.eq (fD (a:=1) (b:=r) (by omega))) (.c C (.v 54 (.eq g) (.c N (.c K (.c D (.c I (.c Q (.c B (.c J (.c F (.c E (.c G (.v 18 (.eq (fD (a:=2) (b:=z) (by omega))) (.c L (.v 15 (.eq (fD (a:=1) (b:=w) (by omega))) (.c M (.c H .nil))))))))))))))))))))⟩
   ·exact ⟨⟨p.nm,p.tr,p.tm,p.td,[⟨1,w1.neg,ae w1.n,ae w1.d,[]⟩,⟨3,w0.neg,ae w0.n,ae w0.d,[]⟩,⟨6,false,[],[],y⟩,⟨11,false,[],[],[]⟩,⟨9,false,[],[],[]⟩],p.ch,c.neg,ae c.n,ae c.d,u.neg,ae u.n,ae u.d⟩,k8,Xqv rfl,rfl,(by omega),pK [] 3 0 (.k 30 f (.c i (.c j (.c l (.c h (.c (aj m) (.k 11 (aj o) (.k 2 (aj b0) .nil)))))))) (.c x (.c A (.v 60 (.eq (fD (a:=1) (b:=r) (by omega))) (.c C (.v 54 (.eq g) (.c N (.c K (.c D (.c I (.c B (.c J (.c F (.c E (.c G (.v 18 (.eq (fD (a:=2) (b:=z) (by omega))) (.c L (.v 15 (.eq (fD (a:=1) (b:=w) (by omega))) (.c M (.c H .nil)))))))))))))))))))⟩
def TN (x:Pv):List AV:= [.str x.nm,.bool x.tr,ω x.tm,ω x.td,.nilS,.bool x.ch,.bool x.sn,.str x.sa,.str x.sd,.bool x.cn,.str x.ca,.str x.cd]
def OI (l:List Pv):List AV:=l.flatMap TN
theorem MJ (l:List Pv):(OI l).length=l.length*12:=dY (f:=TN) (n:=12) (fun _=>rfl) l
def Dn (i:Nat):List UInt8:=([[98,97,115,101],zcc2_2,zcc2_1,[116,97,120],zcc2_0,zcc2_3]:List (List UInt8)).getD i []
def pT (p:Pv):Ty:=⟨p.tr,p.tm,p.td⟩
def UZ (p:Pv):Prop:=(pT p=tM∨pT p=tT)∧p.body= []
def pS (ll:List (List Int)) (nl:Bool) (xs:List Int) (nx:Bool) (F1 S1:List AV) (fN sN:Nat) (p:Nat × Bool × Nat × List Pv × Nat):St:=⟨[(0,.sl (jT ll) ll.length nl),(2,.ptr 0 0 0),(3,.ptr 1 0 0),(4,.ptr 2 0 0),(5,.ptr 3 0 0),(6,.ptr 4 0 0),(7,ω (p.1:Int))],[(0,⟨[.nilS,.nilS,.nilS],0,false,0,0,true⟩),(1,⟨[.sl (iL xs) xs.length nx,ω (p.2.2.2.2:Int)],0,false,0,0,true⟩),(2,⟨[.bool false,ω 1,ω 0],0,false,0,0,true⟩),(3,⟨[.ref 5 0 0 fN,.ref 6 0 0 sN,cond p.2.1 (.ref 7 0 0 p.2.2.1) .nilS],0,false,0,0,false⟩),(4,⟨[.str [98,97,115,101],.str zcc2_2,.str zcc2_1,.str [116,97,120],.str zcc2_0,.str zcc2_3],0,false,0,0,true⟩),(5,⟨F1,0,false,0,4,true⟩),(6,⟨S1,0,false,0,4,true⟩)]++cond p.2.1 [(7,⟨OI p.2.2.2.1,0,false,0,12,true⟩)] [],.dead,[]⟩
theorem qM {ps:List Pv} {q:Pv} (h:∀ p ∈ ps,UZ p) (a:UZ q):∀ p ∈ ps++ [q],UZ p:=fun p hp=>by
 rcases List.mem_append.1 hp with hp|hp
 ·exact h p hp
 ·rw [List.mem_singleton.1 hp];exact a
theorem OH (A:List (List Int)) (z:Bool) (t:List Int) (s:Bool) (F1 S1:List AV) (fN sN:Nat) (i:Nat) (C:i<6) (c:Bool) (n:Nat) (ps:List Pv) (k:Nat) (D:k<2^60) (a:ps.length=n) (B:n≤i) (j:c=false→ps= []) (q:c=true→1≤n) (l:∀ p ∈ ps,UZ p):
  ∃ (c2:Bool) (n2:Nat) (ps2:List Pv) (k2:Nat),ps2.length=n2∧n2≤i+1∧(c2=false→ps2= [])∧(c2=true→1≤n2)∧(i=3∨c=true→c2=true)∧(∀ p ∈ ps2,UZ p)∧k2≤k+2∧
  ∀ nt,239≤nt→ψ nt f36 (pS A z t s F1 S1 fN sN (i,c,n,ps,k)) .normal (pS A z t s F1 S1 fN sN (i+1,c2,n2,ps2,k2)):=by
 have e:(Ψ (n+1) 549755813888)=true:=(dw (by omega))
 have g:(Ψ (n*12) (κ (OI ps)))=true:=(dw (by rw [MJ,a];exact ζ _))
 rcases (show i<3∨i=3∨i=4∨i=5 by omega) with h3|rfl|rfl|rfl
 ·obtain ⟨r,k1,u,v,m0⟩:=aQ t s k 5 (by omega) (by omega) (by omega);rcases tf (decide (((0:Nat):Int)<(r:Int))) with g0|g0
  ·skip
   refine ⟨true,n+1,ps++ [⟨Dn i,false,1,0,[],false,false,[],[],false,[],[]⟩],k1,by simp [a],by omega,by simp,fun _=>by omega,fun _=>rfl,qM l ⟨.inl rfl,rfl⟩,by omega,fun nt b=> ?_⟩;cases c with
   |false=>have m:=j rfl;subst m;subst a;rcases (show i=0∨i=1∨i=2 by omega) with rfl|rfl|rfl<;>exact pN 36 [] 8 65 (.k 17 (ai g0) (.n 22 .nil)) (.c m0 .nil) b
   |true=>have o:=eP (f:=TN) (n:=12) (fun _=>rfl) ps (⟨Dn i,false,1,0,[],false,false,[],[],false,[],[]⟩) a;rcases (show i=0∨i=1∨i=2 by omega) with rfl|rfl|rfl<;>exact pN 36 [] 7 65 (.k 2 e (.c g (.k 14 (ai g0) (.n 22 .nil)))) (.b 109 o (.c m0 .nil)) b
  ·skip
   refine ⟨c,n,ps,k1,a,by omega,j,q,fun h=>h.elim (fun h=>absurd h (by omega)) id,l,by omega,fun nt b=> ?_⟩;cases c with
   |false=>rcases (show i=0∨i=1∨i=2 by omega) with rfl|rfl|rfl<;>exact pN 36 [] 7 1 (.c (aj g0) (.n 22 .nil)) (.c m0 .nil) b
   |true=>rcases (show i=0∨i=1∨i=2 by omega) with rfl|rfl|rfl<;>exact pN 36 [] 7 1 (.c (aj g0) (.n 22 .nil)) (.c m0 .nil) b
 ·obtain ⟨r,k1,u,v,m0⟩:=aQ t s k 3 (by omega) (by omega) (by omega);refine ⟨true,n+1,ps++ [⟨Dn 3,false,1,0,[],(decide (((0:Nat):Int)<(r:Int))),false,[],[],false,[],[]⟩],k1,by simp [a],by omega,by simp,fun _=>by omega,fun _=>rfl,qM l ⟨.inl rfl,rfl⟩,by omega,fun nt b=> ?_⟩;cases c with
  |false=>have m:=j rfl;subst m;subst a;exact pN 36 [] 8 121 (.n 38 .nil) (.c m0 .nil) b
  |true=>have o:=eP (f:=TN) (n:=12) (fun _=>rfl) ps (⟨Dn 3,false,1,0,[],(decide (((0:Nat):Int)<(r:Int))),false,[],[],false,[],[]⟩) a;exact pN 36 [] 7 121 (.k 2 e (.c g (.n 35 .nil))) (.b 109 o (.c m0 .nil)) b
 ·obtain ⟨r,k1,u,v,m0⟩:=aQ t s k 2 (by omega) (by omega) (by omega);obtain ⟨w,k2,x,y,d⟩:=aQ t s k1 5 (by omega) (by omega) (by omega);rcases tf ((r:Int)==((0:Nat):Int)) with e0|e0
  ·rcases tf (decide (((0:Nat):Int)<(w:Int))) with g1|g1
   ·skip
    refine ⟨true,n+1,ps++ [⟨Dn 4,true,0,0,[],false,false,[],[],false,[],[]⟩],k2,by simp [a],by omega,by simp,fun _=>by omega,fun _=>rfl,qM l ⟨.inr rfl,rfl⟩,by omega,fun nt b=> ?_⟩;cases c with
    |false=>have m:=j rfl;subst m;subst a;exact pN 36 [] 8 71 (.k 17 (ai g1) (.k 10 (ai e0) (.n 12 .nil))) (.c d (.c n80 (.c m0 .nil))) b
    |true=>have o:=eP (f:=TN) (n:=12) (fun _=>rfl) ps (⟨Dn 4,true,0,0,[],false,false,[],[],false,[],[]⟩) a;exact pN 36 [] 7 71 (.k 2 e (.c g (.k 14 (ai g1) (.k 10 (ai e0) (.n 12 .nil))))) (.b 109 o (.c d (.c n80 (.c m0 .nil)))) b
   ·skip
    refine ⟨c,n,ps,k2,a,by omega,j,q,fun h=>h.elim (fun h=>absurd h (by omega)) id,l,by omega,fun nt b=> ?_⟩;cases c with
    |false=>exact pN 36 [] 7 7 (.c (aj g1) (.k 10 (ai e0) (.n 12 .nil))) (.c d (.c n80 (.c m0 .nil))) b
    |true=>exact pN 36 [] 7 7 (.c (aj g1) (.k 10 (ai e0) (.n 12 .nil))) (.c d (.c n80 (.c m0 .nil))) b
  ·rcases tf (decide (((0:Nat):Int)<(w:Int))) with g1|g1
   ·skip
    refine ⟨true,n+1,ps++ [⟨Dn 4,false,1,0,[],false,false,[],[],false,[],[]⟩],k2,by simp [a],by omega,by simp,fun _=>by omega,fun _=>rfl,qM l ⟨.inl rfl,rfl⟩,by omega,fun nt b=> ?_⟩;cases c with
    |false=>have m:=j rfl;subst m;subst a;exact pN 36 [] 8 67 (.k 17 (ai g1) (.k 9 (aj e0) (.n 12 .nil))) (.c d (.c m0 .nil)) b
    |true=>have o:=eP (f:=TN) (n:=12) (fun _=>rfl) ps (⟨Dn 4,false,1,0,[],false,false,[],[],false,[],[]⟩) a;exact pN 36 [] 7 67 (.k 2 e (.c g (.k 14 (ai g1) (.k 9 (aj e0) (.n 12 .nil))))) (.b 109 o (.c d (.c m0 .nil))) b
   ·skip
    refine ⟨c,n,ps,k2,a,by omega,j,q,fun h=>h.elim (fun h=>absurd h (by omega)) id,l,by omega,fun nt b=> ?_⟩;cases c with
    |false=>exact pN 36 [] 7 3 (.c (aj g1) (.k 9 (aj e0) (.n 12 .nil))) (.c d (.c m0 .nil)) b
    |true=>exact pN 36 [] 7 3 (.c (aj g1) (.k 9 (aj e0) (.n 12 .nil))) (.c d (.c m0 .nil)) b
 ·obtain ⟨r,k1,u,v,m0⟩:=aQ t s k 3 (by omega) (by omega) (by omega);obtain ⟨w,k2,x,y,d⟩:=aQ t s k1 5 (by omega) (by omega) (by omega);rcases tf (decide (((0:Nat):Int)<(w:Int))) with g1|g1
  ·skip
   refine ⟨true,n+1,ps++ [⟨Dn 5,false,1,0,[],(decide (((0:Nat):Int)<(r:Int))),false,[],[],false,[],[]⟩],k2,by simp [a],by omega,by simp,fun _=>by omega,fun _=>rfl,qM l ⟨.inl rfl,rfl⟩,by omega,fun nt b=> ?_⟩;cases c with
   |false=>have m:=j rfl;subst m;subst a;exact pN 36 [] 8 81 (.k 17 (ai g1) (.n 23 .nil)) (.c d (.c m0 .nil)) b
   |true=>have o:=eP (f:=TN) (n:=12) (fun _=>rfl) ps (⟨Dn 5,false,1,0,[],(decide (((0:Nat):Int)<(r:Int))),false,[],[],false,[],[]⟩) a;exact pN 36 [] 7 81 (.k 2 e (.c g (.k 14 (ai g1) (.n 23 .nil)))) (.b 109 o (.c d (.c m0 .nil))) b
  ·skip
   refine ⟨c,n,ps,k2,a,by omega,j,q,fun h=>h.elim (fun h=>absurd h (by omega)) id,l,by omega,fun nt b=> ?_⟩;cases c with
   |false=>exact pN 36 [] 7 17 (.c (aj g1) (.n 23 .nil)) (.c d (.c m0 .nil)) b
   |true=>exact pN 36 [] 7 17 (.c (aj g1) (.n 23 .nil)) (.c d (.c m0 .nil)) b
def pX (ll:List (List Int)) (nl:Bool) (xs:List Int) (nx:Bool) (F1 S1:List AV) (fN sN:Nat) (p:Bool × Nat × List Pv × Nat):St:=⟨[(0,.sl (jT ll) ll.length nl),(2,.ptr 0 0 0),(3,.ptr 1 0 0),(4,.ptr 2 0 0),(5,.ptr 3 0 0)],[(0,⟨[.nilS,.nilS,.nilS],0,false,0,0,true⟩),(1,⟨[.sl (iL xs) xs.length nx,ω (p.2.2.2:Int)],0,false,0,0,true⟩),(2,⟨[.bool false,ω 1,ω 0],0,false,0,0,true⟩),(3,⟨[.ref 4 0 0 fN,.ref 5 0 0 sN,.ref 6 0 0 p.2.1],0,false,0,0,false⟩),(4,⟨F1,0,false,0,4,true⟩),(5,⟨S1,0,false,0,4,true⟩),(6,⟨OI p.2.2.1,0,false,0,12,true⟩)],.dead,[]⟩
theorem Ij (g:List (List Int)) (j:Bool) (e:List Int) (d:Bool) (F1 S1:List AV) (fN sN:Nat):∀ (rem i:Nat) (c:Bool) (n:Nat) (ps:List Pv) (k:Nat),i+rem=6→k+2*rem<2^60→ps.length=n→n≤i→(c=false→ps= [])→(c=true→1≤n)→(3<i→c=true)→(∀ p ∈ ps,UZ p)→
  ∃ (n2:Nat) (a:List Pv) (k2:Nat),a.length=n2∧1≤n2∧n2≤6∧(∀ p ∈ a,UZ p)∧k2≤k+2*rem∧∀ nt,239≤nt→aJ prog ap [] nt (au 0 (ag f36)) (fun _=> .exit 0) (pS g j e d F1 S1 fN sN) (pX g j e d F1 S1 fN sN) (i,c,n,ps,k) (true,n2,a,k2)
 |0,i,c,n,ps,k,l,hk,hps,hn0,hc,hc1,b,hT=>by
  have l:i=6:=by omega
  subst l;have b:=b (by omega);subst b;exact ⟨n,ps,k,hps,hc1 rfl,hn0,hT,by omega,fun nt f=> .done (pN 36 [] 1 0 (.n 1 .nil) (.nil) f)⟩
 |rem+1,i,c,n,ps,k,l,hk,hps,hn0,hc,hc1,b,hT=>by
  obtain ⟨v,n1,m,k1,o,x,q,s,z,t,C,u⟩:=OH g j e d F1 S1 fN sN i (by omega) c n ps k (by omega) hps hn0 hc hc1 hT;obtain ⟨n2,a,k2,A,r,y,w,D,B⟩:=Ij g j e d F1 S1 fN sN rem (i+1) v n1 m k1 (by omega) (by omega) o x q s (fun h=>z (by rcases Xvg 3 i with h|h;exact .inr (b h);exact .inl (by omega))) t;exact ⟨n2,a,k2,A,r,y,w,by omega,fun nt f=> .next (u nt f) (B nt f)⟩
theorem LQ (a:List (List Int)) (b:Bool) (i:Nat):∃ (ys:List Int) (nz:Bool),CO 78 [.sl (jT a) a.length b,ω (i:Int)] (.ret (.sl (iL ys) ys.length nz)):=by
 rcases tf (decide ((i:Int)<(a.length:Int))) with h|h
 ·have d:i<a.length:=by simp only [decide_eq_true_eq] at h;omega
  obtain ⟨f,c⟩:=H_ (l:=a) d;generalize a.getD i []=xi at c;exact ⟨xi,false,pK [] 1 1 (.k 1 (k0 i) (.c h (.c (ai h) .nil))) (.v 11 (.ppt c) .nil)⟩
 ·have e:CO 78 [.sl (jT a) a.length b,ω (i:Int)] (.ret .nilS):=pK [] 1 0 (.c (aj h) .nil) (.nil);exact ⟨[],false,e.out (je.ret rfl rfl (bF.nilS false rfl))⟩
def U2 (x:Pv × Bool):List AV:= [.str x.1.nm,.bool x.1.tr,ω x.1.tm,ω x.1.td,cond x.2 (.sl (bT x.1.body) x.1.body.length true) .nilS,.bool x.1.ch,.bool x.1.sn,.str x.1.sa,.str x.1.sd,.bool x.1.cn,.str x.1.ca,.str x.1.cd]
def rY (l:List (Pv × Bool)):List AV:=l.flatMap U2
theorem JY (l:List (Pv × Bool)):(rY l).length=l.length*12:=dY (f:=U2) (n:=12) (fun _=>rfl) l
theorem JZ (p r:List (Pv × Bool)) (x:Pv × Bool):rY (p++x::r)=rY p++(U2 x++rY r):=by unfold rY;rw [Xql,Xqa]
theorem F5 (p r:List (Pv × Bool)) (x:Pv × Bool) (i j:Nat) (a:p.length=i) (b:j≤12):ε (((0+(γ (i:Int)))*12)+j) (rY (p++x::r))=ε j (U2 x)++rY r:=by
 rw [aS,Θ,JZ,← a,← JY,Xjj,Xj8 (by omega),θ,show (rY p).length+j - (rY p).length=j by omega,Xjj,show j - (U2 x).length=0 by show j - 12=0;omega];rfl
theorem U3 (p r:List (Pv × Bool)) (x:Pv × Bool) (i j:Nat) (a:p.length=i) (b:j≤12):μ (((0+(γ (i:Int)))*12)+j) (rY (p++x::r))=rY p++μ j (U2 x):=by
 rw [aS,Θ,JZ,← a,← JY,Xj0,τ (by omega),show (rY p).length+j - (rY p).length=j by omega,Xj0,show j - (U2 x).length=0 by show j - 12=0;omega,Xzb,ο]
def okB (y:Pv × Bool):Prop:=y.1.body.length≤17∧y.1.body.countP CZ≤9∧y.2=true
def bC (ll:List (List Int)) (nl:Bool) (xs:List Int) (nx:Bool) (F1 S1:List AV) (fN sN n k kd:Nat) (sg:List Sg) (i:Nat) (C:List AV):St:=⟨[(0,.sl (jT ll) ll.length nl),(2,.ptr 0 0 0),(3,.ptr 1 0 0),(5,.ptr 2 0 0),(9,ω (kd:Int)),(10,.sl (iq sg) sg.length true),(11,ω (i:Int))],[(0,⟨[.nilS,.nilS,.nilS],0,false,0,0,true⟩),(1,⟨[.sl (iL xs) xs.length nx,ω (k:Int)],0,false,0,0,true⟩),(2,⟨[.ref 3 0 0 fN,.ref 4 0 0 sN,.ref 5 0 0 n],0,false,0,0,false⟩),(3,⟨F1,0,false,0,4,true⟩),(4,⟨S1,0,false,0,4,true⟩),(5,⟨C,0,false,0,12,true⟩)],.dead,[]⟩
def bX (ll:List (List Int)) (nl:Bool) (xs:List Int) (nx:Bool) (F1 S1:List AV) (fN sN n k kd:Nat) (sg:List Sg) (p:List (Pv × Bool)):St:=⟨[(2,.ptr 0 0 0),(3,.ptr 1 0 0),(5,.ptr 2 0 0),(9,ω (kd:Int))],[(0,⟨[.nilS,.nilS,.nilS],0,false,0,0,true⟩),(1,⟨[.sl (iL xs) xs.length nx,ω (k:Int)],0,false,0,0,true⟩),(2,⟨[.ref 3 0 0 fN,.ref 4 0 0 sN,.ref 5 0 0 n],0,false,0,0,false⟩),(3,⟨F1,0,false,0,4,true⟩),(4,⟨S1,0,false,0,4,true⟩),(5,⟨rY p,0,false,0,12,true⟩)],.dead,[]⟩
theorem KE (s:List (List Int)) (j:Bool) (v:List Int) (t:Bool) (F1 S1:List AV) (fN sN n k r:Nat) (d:List Sg) (A:d.length≤100) (D:n≤6):∀ (rx p:List (Pv × Bool)),p.length+rx.length=n→(∀ y ∈ rx,UZ y.1)→(∀ y ∈ p,okB y)→
  ∃ q:List (Pv × Bool),q.length=n∧(∀ y ∈ q,okB y)∧∀ nt,239≤nt→aJ prog ap [] nt (au 2 (ag f36)) (fun _=> .exit 2) (fun a:Nat × List (Pv × Bool)=>bC s j v t F1 S1 fN sN n k r d a.1 (rY a.2)) (bX s j v t F1 S1 fN sN n k r d) (p.length,p++rx) q
 | [],p,hn0,h1,h3=>by
  have m:(decide ((p.length:Int)<(n:Int)))=false:=kn (by simp at hn0;omega);refine ⟨p,by simpa using hn0,h3,fun nt B=> ?_⟩;rw [ο];exact .done (pN 36 [] 1 0 (.c (aj m) (.n 1 .nil)) (.nil) B)
 | x::rx,p,hn0,h1,h3=>by
  obtain ⟨i,l⟩:∃ i,p.length=i:=⟨_,rfl⟩
  obtain ⟨b,c⟩:∃ b,b=p++x::rx:=⟨_,rfl⟩
  have E:i<n:=by simp only [Γ] at hn0;omega
  have S:b.length=n:=by rw [c,← hn0,ξ]
  obtain ⟨T,nz,cl⟩:=LQ s j (i+1);obtain ⟨o,W,R⟩:=NV d true A x.1.nm ((r:Int)==((0:Nat):Int));obtain ⟨e,K,Q⟩:=QK o false (by omega) (pT x.1) (h1 x (List.mem_cons_self ..)).1 T nz;obtain ⟨w,z⟩:∃ w:Pv × Bool,w=(⟨x.1.nm,x.1.tr,x.1.tm,x.1.td,e,x.1.ch,x.1.sn,x.1.sa,x.1.sd,x.1.cn,x.1.ca,x.1.cd⟩,true):=⟨_,rfl⟩
  obtain ⟨q,U,V,P⟩:=KE s j v t F1 S1 fN sN n k r d A D rx (p++ [w]) (by simp only [ξ,Γ,Xqh] at*;omega) (fun y g=>h1 y (Xqk _ g)) (fun y g=>by
   rcases List.mem_append.1 g with g|g
   ·exact h3 y g
   ·rw [List.mem_singleton.1 g,z];exact ⟨by have:=K.2.1;show e.length≤17;omega,K.2.2,rfl⟩)
  refine ⟨q,U,V,fun nt B=> .next (a':=(i+1,p++w::rx)) ?_ ?_⟩
  ·have C:=F5 p rx x i 0 l (by decide);have u:=F5 p rx x i 1 l (by decide);have N:=F5 p rx x i 5 l (by decide);have M:=U3 p rx x i 4 l (by decide);rw [← c] at C u N M;have O:(μ (((0+(γ ((i:Nat):Int)))*12)+4) (rY b)++ [.sl (bT e) e.length true]++ε ((((0+(γ ((i:Nat):Int)))*12)+4)+1) (rY b))=rY (p++w::rx):=by
    rw [M,show ((((0+(γ ((i:Nat):Int)))*12)+4)+1)=((0+(γ ((i:Nat):Int)))*12)+5 by omega,N,JZ,z,Δ,Δ];rfl
   have m:(decide (((i:Nat):Int)<(n:Int)))=true:=kl E;have L:i<2^62:=by omega
   have H:(Ψ ((((0+(γ ((i:Nat):Int)))*12)+4)+1) (κ (rY b)))=true:=(dw (by rw [JY];omega))
   have f:(decide (((0:Nat):Int)≤((i:Nat):Int)))=true:=(k0 i)
   have I:(chk .bool (Xqm (ε (((0+(γ ((i:Nat):Int)))*12)+1) (rY b)) .dead))=true:=(by rw [u];rfl)
   have J:(chk (.int .i64) (Xqm (Xqx (ε (((0+(γ ((i:Nat):Int)))*12)+1) (rY b))) .dead))=true:=(by rw [u];rfl)
   have F:(chk (.int .i64) (Xqm (Xqx (Xqx (ε (((0+(γ ((i:Nat):Int)))*12)+1) (rY b)))) .dead))=true:=(by rw [u];rfl)
   have G:(chk .str (Xqm (ε (((0+(γ ((i:Nat):Int)))*12)+0) (rY b)) .dead))=true:=(by rw [C];rfl)
   have hv140:(.agg [.bool (AV.toBool (Xqm (ε (((0+(γ ((i:Nat):Int)))*12)+1) (rY b)) .dead)),ω (AV.toInt (Xqm (Xqx (ε (((0+(γ ((i:Nat):Int)))*12)+1) (rY b))) .dead)),ω (AV.toInt (Xqm (Xqx (Xqx (ε (((0+(γ ((i:Nat):Int)))*12)+1) (rY b)))) .dead))]:AV)= .agg [.bool x.1.tr,ω x.1.tm,ω x.1.td]:=by rw [u];rfl
   have hv131:(.str (AV.toStr (Xqm (ε (((0+(γ ((i:Nat):Int)))*12)+0) (rY b)) .dead)):AV)= .str x.1.nm:=by rw [C];rfl
   have h:ak prog ap [] nt (au 2 (ag f36)) (bC s j v t F1 S1 fN sN n k r d i (rY b)) .normal (bC s j v t F1 S1 fN sN n k r d (i+1) ((μ (((0+(γ ((i:Nat):Int)))*12)+4) (rY b)++ [.sl (bT e) e.length true]++ε ((((0+(γ ((i:Nat):Int)))*12)+4)+1) (rY b)))):=pN 36 [] 1 1 (.c H (.c f (.c m (.c I (.c J (.c F (.c f (.c m (.k 1 G (.c f (.c m (.k 2 (ai m) (.n 1 .nil))))))))))))) (.v 121 (.eq (wpS L)) (.c Q (.c cl (.v 143 (.eq (wpS L)) (.v 140 (.eq hv140) (.c R (.v 131 (.eq hv131) .nil))))))) B;rw [O] at h;rw [← c,l];exact h
  ·have:=P nt B;rw [ξ,Δ,Xjs,l] at this;exact this
def f1S (L:Lw) (a b c:Bool) (nm:List UInt8) (p:Nat × Nat):St:=⟨[(1,.str nm),(2,.ptr 0 0 0),(6,ω (p.1:Int))],[(0,⟨L.c a b c,0,false,0,0,true⟩)],.dead,[]⟩
def f1X:Option Nat→St
 |none=>I5
 |some k=> ⟨[(4,.int .i64 (k:Int)),(5,.bool true)],[],.dead,[]⟩
theorem Un {nt:Nat} (f:23≤nt) (L:Lw) (a b c:Bool) (e:List UInt8) (h:L.ps.length<2^40):aJ prog ap [] nt (au 0 (ag f45)) Uo (f1S L a b c e) f1X (0,0) (PY L.ps e):=by
 refine aJ.goD (Ur e) (fun _=>none) L.ps (fun p s=>s=p.length) ?_ ?_ 0 rfl
 ·rintro p x rs s hL hp
  have g:(ε ((γ (p.length:Int))*12) (bQ L.ps))=vZ x++bQ rs:=eH Rf hL;have d:(decide ((p.length:Int)<(L.ps.length:Int)))=true:=kl (mP hL);have i:p.length<2^62:=by have:=mP hL;omega
  subst hp;show (∃ s',_∧ak _ _ _ _ _ (f1S L a b c e (p.length,_)) _ _∧_)∨∃ q,_∧ak _ _ _ _ _ (f1S L a b c e (p.length,_)) _ _;have hp:(p++ [x]).length=p.length+1:=by simp
  generalize p.length=k at*
  clear hL;rcases tf (x.nm==e) with b0|b0
  ·exact .inr ⟨some k,by simp only [Ur,b0,if_true],pN 45 [] 2 3 (.c (ai b0) (.k 1 (k0 k) (.c d (.k 1 (ai d) (.n 1 .nil))))) (.v 17 (.ppt g) .nil) f⟩
  ·exact .inl ⟨k+1,by simp only [Ur,b0,Xqe,if_false],pN 45 [] 2 1 (.c (aj b0) (.k 1 (k0 k) (.c d (.k 1 (ai d) (.n 1 .nil))))) (.v 13 (.eq (wpS i)) (.v 17 (.ppt g) .nil)) f,by simp [hp]⟩
 ·intro _ _;have d:(decide ((L.ps.length:Int)<(L.ps.length:Int)))=false:=kn (ζ _);exact pN 45 [] 1 0 (.c (aj d) (.n 1 .nil)) .nil f
theorem DZ (L:Lw) (a b c:Bool) (d:List UInt8) (e:L.ps.length<2^40):CO 45 [.agg (L.c a b c),.str d] (.ret (.tup [ω ((CX L.ps d:Nat):Int),.bool (O8 L.ps d)])):=by
 have hloop:=fun nt (hn:23≤nt)=>Un hn L a b c d e
 unfold CX O8;cases g:PY L.ps d with
 |none=>
  rw [g] at hloop;have f:=aJ.blk (id:=0) (e':= .normal) (s:=f1S L a b c d (0,0)) (s':=f1X none) hloop (by simp [Uo]) rfl (aI.refl _) (aI.refl _);exact pK [0] 0 0 .nil (.k [1,2,6] f .nil)
 |some k=>
  rw [g] at hloop;have f:=aJ.blk (id:=0) (e':= .ret) (s:=f1S L a b c d (0,0)) (s':=f1X (some k)) hloop (by simp [Uo]) rfl (aI.refl _) (aI.refl _);exact pK [0] 0 0 .nil (.k [1,2,6] f .nil)
def rC (xs:List Int) (nx:Bool) (F1 S1:List AV) (fN sN n kd ia ib:Nat) (fa fb:Bool) (k:Nat) (C:List AV):St:=⟨[(2,.ptr 0 0 0),(3,.ptr 1 0 0),(5,.ptr 2 0 0),(9,ω (kd:Int)),(12,ω (ia:Int)),(13,.bool fa),(14,ω (ib:Int)),(15,.bool fb)],[(0,⟨[.nilS,.nilS,.nilS],0,false,0,0,true⟩),(1,⟨[.sl (iL xs) xs.length nx,ω (k:Int)],0,false,0,0,true⟩),(2,⟨[.ref 3 0 0 fN,.ref 4 0 0 sN,.ref 5 0 0 n],0,false,0,0,false⟩),(3,⟨F1,0,false,0,4,true⟩),(4,⟨S1,0,false,0,4,true⟩),(5,⟨C,0,false,0,12,true⟩)],.dead,[]⟩
theorem fJ {α:Type} {f:α→List AV} {m:Nat} (a:∀ x,(f x).length=m) (p r:List α) (x:α) (i j:Nat) (b:p.length=i) (d:j≤m):ε (((0+(γ (i:Int)))*m)+j) ((p++x::r).flatMap f)=ε j (f x)++r.flatMap f:=by
 have c:(p.flatMap f).length=p.length*m:=dY a p;rw [aS,Θ,Xql,Xqa,← b,← c,Xjj,Xj8 (by omega),θ,show (p.flatMap f).length+j - (p.flatMap f).length=j by omega,Xjj,show j - (f x).length=0 by rw [a];omega];rfl
theorem oJ {α:Type} {f:α→List AV} {m:Nat} (a:∀ x,(f x).length=m) (p r:List α) (x:α) (i j:Nat) (b:p.length=i) (d:j≤m):μ (((0+(γ (i:Int)))*m)+j) ((p++x::r).flatMap f)=p.flatMap f++μ j (f x):=by
 have c:(p.flatMap f).length=p.length*m:=dY a p;rw [aS,Θ,Xql,Xqa,← b,← c,Xj0,τ (by omega),show (p.flatMap f).length+j - (p.flatMap f).length=j by omega,Xj0,show j - (f x).length=0 by rw [a];omega,Xzb,ο]
theorem gu {α:Type} (l:List α) (i:Nat) (h:i<l.length):∃ p x r,l=p++x::r∧p.length=i:=⟨l.take i,l[i],l.drop (i+1),by rw [List.getElem_cons_drop,Xxn],by rw [List.length_take];omega⟩
def BD (p:Pv):Prop:=p.body.length≤17∧p.body.countP CZ≤9
theorem ku {p r:List Pv} {x y:Pv} (h:∀ z ∈ p++x::r,BD z) (b:BD y):∀ z ∈ p++y::r,BD z:=fun z a=>by
 rcases List.mem_append.1 a with a|a
 ·exact h z (List.mem_append_left _ a)
 ·rcases List.mem_cons.1 a with rfl|a
  ·exact b
  ·exact h z (List.mem_append_right _ (Xqk _ a))
theorem MP (e:List Int) (c:Bool) (F1 S1:List AV) (fN sN n q b j:Nat) (o l:Bool) (k:Nat) (qs:List Pv) (I:k<2^60) (B:qs.length=n) (t:b<n) (F:n≤6) (E:∀ z ∈ qs,BD z):∃ (q2:List Pv) (k2:Nat),q2.length=n∧(∀ z ∈ q2,BD z)∧k2≤k+8∧∀ nt,239≤nt→ak prog ap [] nt (f_ 30 (ag f36)) (rC e c F1 S1 fN sN n q b j o l k (dD qs)) .normal (rC e c F1 S1 fN sN n q b j o l k2 (dD q2)):=by
 obtain ⟨p,x,r,hs,y⟩:=gu qs b (by omega);obtain ⟨a,k2,L,K,J,H⟩:=wL x (bT x.body) x.body.length false zcc2_1 e c k I;have u:a.body.countP CZ≤9:=Xqg Xjt (by omega);refine ⟨p++a::r,k2,by rw [← B,hs];simp,ku (by rw [← hs];exact E) ⟨by omega,u⟩,J,fun nt s=> ?_⟩;have v:(dD qs).length=n*12:=by rw [← B];exact dY (f:=iG) (n:=12) (fun _=>rfl) qs
 have d:=fJ (f:=iG) (m:=12) (fun _=>rfl) p r x b 0 y (by decide);have C:=fJ (f:=iG) (m:=12) (fun _=>rfl) p r x b 12 y (by decide);have A:=oJ (f:=iG) (m:=12) (fun _=>rfl) p r x b 0 y (by decide);rw [← hs] at d C A;rw [Xqo] at d A;have D:(μ ((0+(γ (b:Int)))*12) (dD qs)++ [.str a.nm,.bool a.tr,ω a.tm,ω a.td,.sl (bT a.body) a.body.length true,.bool a.ch,.bool a.sn,.str a.sa,.str a.sd,.bool a.cn,.str a.ca,.str a.cd]++ε (((0+(γ (b:Int)))*12)+12) (dD qs))=dD (p++a::r):=by
  unfold dD;rw [A,C,Xql,Xqa,Δ,Δ];rfl
 change ε _ (dD qs)=iG x++dD r at d;have G:AV.agg (jU true [.str,.bool,.int .i64,.int .i64,.sl,.bool,.bool,.str,.str,.bool,.str,.str] (dD qs) ((0+(γ (b:Int)))*12))= .agg [.str x.nm,.bool x.tr,ω x.tm,ω x.td,.sl (bT x.body) x.body.length false,.bool x.ch,.bool x.sn,.str x.sa,.str x.sd,.bool x.cn,.str x.ca,.str x.cd]:=by unfold jU;rw [d];rfl
 have w:(Ψ (((0+(γ (b:Int)))*12)+12) (κ (dD qs)))=true:=(dw (by rw [v];omega))
 have g:(decide (((0:Nat):Int)≤(b:Int)))=true:=(k0 b)
 have i:(decide ((b:Int)<(n:Int)))=true:=(kl t)
 have h:ak prog ap [] nt (f_ 30 (ag f36)) (rC e c F1 S1 fN sN n q b j o l k (dD qs)) .normal (rC e c F1 S1 fN sN n q b j o l k2 ((μ ((0+(γ (b:Int)))*12) (dD qs)++ [.str a.nm,.bool a.tr,ω a.tm,ω a.td,.sl (bT a.body) a.body.length true,.bool a.ch,.bool a.sn,.str a.sa,.str a.sd,.bool a.cn,.str a.ca,.str a.cd]++ε (((0+(γ (b:Int)))*12)+12) (dD qs)))):=pN 36 [] 0 0 (.c w (.c g (.c i (.a (bP [.str,.bool,.int .i64,.int .i64,.sl,.bool,.bool,.str,.str,.bool,.str,.str] d rfl) (.c g (.c i (.n 2 .nil))))))) (.c H (.v 178 (.eq G) .nil)) s;rw [D] at h;exact h
theorem MQ (e:List Int) (c:Bool) (F1 S1:List AV) (fN sN n q o b:Nat) (l j:Bool) (k:Nat) (qs:List Pv) (I:k<2^60) (B:qs.length=n) (t:b<n) (F:n≤6) (E:∀ z ∈ qs,BD z):∃ (q2:List Pv) (k2:Nat),q2.length=n∧(∀ z ∈ q2,BD z)∧k2≤k+8∧∀ nt,239≤nt→ak prog ap [] nt (f_ 31 (ag f36)) (rC e c F1 S1 fN sN n q o b l j k (dD qs)) .normal (rC e c F1 S1 fN sN n q o b l j k2 (dD q2)):=by
 obtain ⟨p,x,r,hs,y⟩:=gu qs b (by omega);obtain ⟨a,k2,L,K,J,H⟩:=wL x (bT x.body) x.body.length false zcc2_2 e c k I;have u:a.body.countP CZ≤9:=Xqg Xjt (by omega);refine ⟨p++a::r,k2,by rw [← B,hs];simp,ku (by rw [← hs];exact E) ⟨by omega,u⟩,J,fun nt s=> ?_⟩;have v:(dD qs).length=n*12:=by rw [← B];exact dY (f:=iG) (n:=12) (fun _=>rfl) qs
 have d:=fJ (f:=iG) (m:=12) (fun _=>rfl) p r x b 0 y (by decide);have C:=fJ (f:=iG) (m:=12) (fun _=>rfl) p r x b 12 y (by decide);have A:=oJ (f:=iG) (m:=12) (fun _=>rfl) p r x b 0 y (by decide);rw [← hs] at d C A;rw [Xqo] at d A;have D:(μ ((0+(γ (b:Int)))*12) (dD qs)++ [.str a.nm,.bool a.tr,ω a.tm,ω a.td,.sl (bT a.body) a.body.length true,.bool a.ch,.bool a.sn,.str a.sa,.str a.sd,.bool a.cn,.str a.ca,.str a.cd]++ε (((0+(γ (b:Int)))*12)+12) (dD qs))=dD (p++a::r):=by
  unfold dD;rw [A,C,Xql,Xqa,Δ,Δ];rfl
 change ε _ (dD qs)=iG x++dD r at d;have G:AV.agg (jU true [.str,.bool,.int .i64,.int .i64,.sl,.bool,.bool,.str,.str,.bool,.str,.str] (dD qs) ((0+(γ (b:Int)))*12))= .agg [.str x.nm,.bool x.tr,ω x.tm,ω x.td,.sl (bT x.body) x.body.length false,.bool x.ch,.bool x.sn,.str x.sa,.str x.sd,.bool x.cn,.str x.ca,.str x.cd]:=by unfold jU;rw [d];rfl
 have w:(Ψ (((0+(γ (b:Int)))*12)+12) (κ (dD qs)))=true:=(dw (by rw [v];omega))
 have g:(decide (((0:Nat):Int)≤(b:Int)))=true:=(k0 b)
 have i:(decide ((b:Int)<(n:Int)))=true:=(kl t)
 have h:ak prog ap [] nt (f_ 31 (ag f36)) (rC e c F1 S1 fN sN n q o b l j k (dD qs)) .normal (rC e c F1 S1 fN sN n q o b l j k2 ((μ ((0+(γ (b:Int)))*12) (dD qs)++ [.str a.nm,.bool a.tr,ω a.tm,ω a.td,.sl (bT a.body) a.body.length true,.bool a.ch,.bool a.sn,.str a.sa,.str a.sd,.bool a.cn,.str a.ca,.str a.cd]++ε (((0+(γ (b:Int)))*12)+12) (dD qs)))):=pN 36 [] 0 0 (.c w (.c g (.c i (.a (bP [.str,.bool,.int .i64,.int .i64,.sl,.bool,.bool,.str,.str,.bool,.str,.str] d rfl) (.c g (.c i (.n 2 .nil))))))) (.c H (.v 189 (.eq G) .nil)) s;rw [D] at h;exact h
theorem MR (e:List Int) (c:Bool) (F1 S1:List AV) (fN sN n q b j:Nat) (o l:Bool) (k:Nat) (qs:List Pv) (I:k<2^60) (B:qs.length=n) (t:b<n) (F:n≤6) (E:∀ z ∈ qs,BD z):∃ (q2:List Pv) (k2:Nat),q2.length=n∧(∀ z ∈ q2,BD z)∧k2≤k+8∧∀ nt,239≤nt→ak prog ap [] nt (f_ 33 (ag f36)) (rC e c F1 S1 fN sN n q b j o l k (dD qs)) .normal (rC e c F1 S1 fN sN n q b j o l k2 (dD q2)):=by
 obtain ⟨p,x,r,hs,y⟩:=gu qs b (by omega);obtain ⟨a,k2,L,K,J,H⟩:=wL x (bT x.body) x.body.length false zcc2_2 e c k I;have u:a.body.countP CZ≤9:=Xqg Xjt (by omega);refine ⟨p++a::r,k2,by rw [← B,hs];simp,ku (by rw [← hs];exact E) ⟨by omega,u⟩,J,fun nt s=> ?_⟩;have v:(dD qs).length=n*12:=by rw [← B];exact dY (f:=iG) (n:=12) (fun _=>rfl) qs
 have d:=fJ (f:=iG) (m:=12) (fun _=>rfl) p r x b 0 y (by decide);have C:=fJ (f:=iG) (m:=12) (fun _=>rfl) p r x b 12 y (by decide);have A:=oJ (f:=iG) (m:=12) (fun _=>rfl) p r x b 0 y (by decide);rw [← hs] at d C A;rw [Xqo] at d A;have D:(μ ((0+(γ (b:Int)))*12) (dD qs)++ [.str a.nm,.bool a.tr,ω a.tm,ω a.td,.sl (bT a.body) a.body.length true,.bool a.ch,.bool a.sn,.str a.sa,.str a.sd,.bool a.cn,.str a.ca,.str a.cd]++ε (((0+(γ (b:Int)))*12)+12) (dD qs))=dD (p++a::r):=by
  unfold dD;rw [A,C,Xql,Xqa,Δ,Δ];rfl
 change ε _ (dD qs)=iG x++dD r at d;have G:AV.agg (jU true [.str,.bool,.int .i64,.int .i64,.sl,.bool,.bool,.str,.str,.bool,.str,.str] (dD qs) ((0+(γ (b:Int)))*12))= .agg [.str x.nm,.bool x.tr,ω x.tm,ω x.td,.sl (bT x.body) x.body.length false,.bool x.ch,.bool x.sn,.str x.sa,.str x.sd,.bool x.cn,.str x.ca,.str x.cd]:=by unfold jU;rw [d];rfl
 have w:(Ψ (((0+(γ (b:Int)))*12)+12) (κ (dD qs)))=true:=(dw (by rw [v];omega))
 have g:(decide (((0:Nat):Int)≤(b:Int)))=true:=(k0 b)
 have i:(decide ((b:Int)<(n:Int)))=true:=(kl t)
 have h:ak prog ap [] nt (f_ 33 (ag f36)) (rC e c F1 S1 fN sN n q b j o l k (dD qs)) .normal (rC e c F1 S1 fN sN n q b j o l k2 ((μ ((0+(γ (b:Int)))*12) (dD qs)++ [.str a.nm,.bool a.tr,ω a.tm,ω a.td,.sl (bT a.body) a.body.length true,.bool a.ch,.bool a.sn,.str a.sa,.str a.sd,.bool a.cn,.str a.ca,.str a.cd]++ε (((0+(γ (b:Int)))*12)+12) (dD qs)))):=pN 36 [] 0 0 (.c w (.c g (.c i (.a (bP [.str,.bool,.int .i64,.int .i64,.sl,.bool,.bool,.str,.str,.bool,.str,.str] d rfl) (.c g (.c i (.n 2 .nil))))))) (.c H (.v 205 (.eq G) .nil)) s;rw [D] at h;exact h
def rD (xs:List Int) (nx:Bool) (F1 S1:List AV) (fN sN n ic:Nat) (k:Nat) (C:List AV):St:=⟨[(2,.ptr 0 0 0),(3,.ptr 1 0 0),(5,.ptr 2 0 0),(16,ω (ic:Int))],[(0,⟨[.nilS,.nilS,.nilS],0,false,0,0,true⟩),(1,⟨[.sl (iL xs) xs.length nx,ω (k:Int)],0,false,0,0,true⟩),(2,⟨[.ref 3 0 0 fN,.ref 4 0 0 sN,.ref 5 0 0 n],0,false,0,0,false⟩),(3,⟨F1,0,false,0,4,true⟩),(4,⟨S1,0,false,0,4,true⟩),(5,⟨C,0,false,0,12,true⟩)],.dead,[]⟩
theorem MS (c:List Int) (b:Bool) (F1 S1:List AV) (fN sN n a:Nat) (k:Nat) (qs:List Pv) (C:k<2^60) (s:qs.length=n) (i:a<n) (y:n≤6) (q:∀ z ∈ qs,BD z):∃ (q2:List Pv) (k2:Nat),q2.length=n∧(∀ z ∈ q2,BD z)∧k2≤k+1∧∀ nt,239≤nt→ak prog ap [] nt (f_ 37 (ag f36)) (rD c b F1 S1 fN sN n a k (dD qs)) .normal (rD c b F1 S1 fN sN n a k2 (dD q2)):=by
 obtain ⟨p,x,r,hs,o⟩:=gu qs a (by omega);obtain ⟨w,_,_,_,A⟩:=eX 1 2 (by omega) (by omega) (by omega) (by omega);have B:BD x:=q x (by rw [hs];simp);refine ⟨p++⟨x.nm,x.tr,x.tm,x.td,x.body,x.ch,w.neg,ae w.n,ae w.d,x.cn,x.ca,x.cd⟩::r,k,by rw [← s,hs];simp,ku (by rw [← hs];exact q) B,by omega,fun nt g=> ?_⟩;have j:(dD qs).length=n*12:=by rw [← s];exact dY (f:=iG) (n:=12) (fun _=>rfl) qs
 have t:=fJ (f:=iG) (m:=12) (fun _=>rfl) p r x a 9 o (by decide);have u:=oJ (f:=iG) (m:=12) (fun _=>rfl) p r x a 6 o (by decide);rw [← hs] at t u;have v:(μ (((0+(γ (a:Int)))*12)+6) (dD qs)++ [.bool w.neg,.str (ae w.n),.str (ae w.d)]++ε ((((0+(γ (a:Int)))*12)+6)+3) (dD qs))=dD (p++(⟨x.nm,x.tr,x.tm,x.td,x.body,x.ch,w.neg,ae w.n,ae w.d,x.cn,x.ca,x.cd⟩:Pv)::r):=by
  unfold dD;rw [u,show (((0+(γ (a:Int)))*12)+6)+3=((0+(γ (a:Int)))*12)+9 by omega,t,Xql,Xqa,Δ,Δ];rfl
 have l:(Ψ ((((0+(γ (a:Int)))*12)+6)+3) (κ (dD qs)))=true:=(dw (by rw [j];omega))
 have d:(decide (((0:Nat):Int)≤(a:Int)))=true:=(k0 a)
 have e:(decide ((a:Int)<(n:Int)))=true:=(kl i)
 have h:ak prog ap [] nt (f_ 37 (ag f36)) (rD c b F1 S1 fN sN n a k (dD qs)) .normal (rD c b F1 S1 fN sN n a k ((μ (((0+(γ (a:Int)))*12)+6) (dD qs)++ [.bool w.neg,.str (ae w.n),.str (ae w.d)]++ε ((((0+(γ (a:Int)))*12)+6)+3) (dD qs)))):=pN 36 [] 0 0 (.c l (.c d (.c e (.n 1 .nil)))) (.c A .nil) g;rw [v] at h;exact h
theorem MV (e:List Int) (d:Bool) (F1 S1:List AV) (fN sN n c:Nat) (k:Nat) (qs:List Pv) (J:k<2^60) (v:qs.length=n) (i:c<n) (D:n≤6) (u:∀ z ∈ qs,BD z):∃ (q2:List Pv) (k2:Nat),q2.length=n∧(∀ z ∈ q2,BD z)∧k2≤k+1∧∀ nt,239≤nt→ak prog ap [] nt (f_ 38 (ag f36)) (rD e d F1 S1 fN sN n c k (dD qs)) .normal (rD e d F1 S1 fN sN n c k2 (dD q2)):=by
 obtain ⟨p,x,r,hs,y⟩:=gu qs c (by omega);obtain ⟨t,k1,E,H,G⟩:=aQ e d k 100 (by omega) (by omega) (by omega);obtain ⟨w,I⟩:∃ q:RQ,CO 25 [ω ((1+t:Nat):Int)] (.ret (qA q)):=⟨_,jl ((1+t:Nat):Int) (by omega) (by omega)⟩
 have F:BD x:=u x (by rw [hs];simp);refine ⟨p++⟨x.nm,x.tr,x.tm,x.td,x.body,x.ch,x.sn,x.sa,x.sd,w.neg,ae w.n,ae w.d⟩::r,k1,by rw [← v,hs];simp,ku (by rw [← hs];exact u) F,by omega,fun nt g=> ?_⟩;have j:(dD qs).length=n*12:=by rw [← v];exact dY (f:=iG) (n:=12) (fun _=>rfl) qs
 have A:=fJ (f:=iG) (m:=12) (fun _=>rfl) p r x c 12 y (by decide);have B:=oJ (f:=iG) (m:=12) (fun _=>rfl) p r x c 9 y (by decide);rw [← hs] at A B;have C:(μ (((0+(γ (c:Int)))*12)+9) (dD qs)++ [.bool w.neg,.str (ae w.n),.str (ae w.d)]++ε ((((0+(γ (c:Int)))*12)+9)+3) (dD qs))=dD (p++(⟨x.nm,x.tr,x.tm,x.td,x.body,x.ch,x.sn,x.sa,x.sd,w.neg,ae w.n,ae w.d⟩:Pv)::r):=by
  unfold dD;rw [B,show (((0+(γ (c:Int)))*12)+9)+3=((0+(γ (c:Int)))*12)+12 by omega,A,Xql,Xqa,Δ,Δ];rfl
 have l:(Ψ ((((0+(γ (c:Int)))*12)+9)+3) (κ (dD qs)))=true:=(dw (by rw [j];omega))
 have o:(decide (((0:Nat):Int)≤(c:Int)))=true:=(k0 c)
 have s:(decide ((c:Int)<(n:Int)))=true:=(kl i)
 have h:ak prog ap [] nt (f_ 38 (ag f36)) (rD e d F1 S1 fN sN n c k (dD qs)) .normal (rD e d F1 S1 fN sN n c k1 ((μ (((0+(γ (c:Int)))*12)+9) (dD qs)++ [.bool w.neg,.str (ae w.n),.str (ae w.d)]++ε ((((0+(γ (c:Int)))*12)+9)+3) (dD qs)))):=pN 36 [] 0 0 (.c l (.c o (.c s (.n 1 .nil)))) (.c I (.v 234 (.eq (fD (a:=1) (b:=t) (by omega))) (.c G .nil))) g;rw [C] at h;exact h
end Go.Proofs.Tryz
