/- Contracts of functions that the law reaches, each by its own hypotheses; joined by a program of mine. -/
import Derived.Test.YtokiomlellclkaaGreatDoorC1
import Derived.Test.YtokiomlellclkaaGreatDoorM5
import Derived.Test.YtokiomlellclkaaGreatDoorAp
import Derived.Shelf.SlSortCmp.NoneTotal
import Derived.Ground.SlsfProg
import Derived.Shelf.SlicesG.Cmp
import Derived.Ground.SlgcProg
import Derived.WalkKit
import Derived.Handy
import Derived.Deep.RegionHeld3
import Derived.Sort.OwnSortedInts
set_option linter.unusedSimpArgs false
set_option linter.unusedVariables false
set_option maxRecDepth 100000
set_option linter.unusedVariables false
open Go AM
open List renaming take→Xqk,take_of_length_le→Xqr,flatMap_append→Xxt,drop→κ,length→Xqb,length_append→η,headD→Xz1,length_cons→τ,countP_cons→Xwm,append_nil→μ,append_assoc→Xqi,drop_eq_getElem_cons→Xxn,getD_eq_getElem?_getD→γ,getElem?_eq_getElem→δ,drop_zero→Xzq,getElem?_append_left→υ,mem_cons→Xqo,mem_filter→Xq7,getElem?_of_mem→Xq1,length_filter_le→Xqp,length_map→Xxa,flatMap_cons→Xqa,take_length→Xjj,idxOf_lt_length_of_mem→Xqs,getElem_idxOf→Xzf,idxOf_append→Xzn,idxOf_cons_self→Xzw,nodup_append→Xq6,mem_append_left→Xx0,mem_singleton→χ,mem_append_right→Xjl,mem_cons_of_mem→Θ,flatMap_nil→Xj7,getElem?_append_right→Xq2,length_pos_of_mem→Xjg,filter_filter→Xjv,filter_congr→Xxv,foldl_cons→Xqw,map_cons→Γ,idxOf_cons→Xwv,getElem?_map→φ,ext_getElem?→Xq8,getElem?_set→Xxd,nil_append→Xqj,all→Xqd,take_append_drop→Xq4,drop_left→Xjt,mem_of_mem_drop→Xja,length_drop→Xxb,nodup_cons→Xxo,length_take→Xqm,length_singleton→Xxw,getElem?_take_of_lt→Xxi,take_left→Xz9,getElem?_set_ne→Xx1,getElem?_set_self→Xx4,filter_cons_of_pos→Xzi,filter_cons_of_neg→Xzj,take_append_of_le_length→Xq3,getElem_cons_drop→Xwq,getElem_mem→Xxq
open Go.IntKind renaming wrap→ν
open Int renaming toNat→θ,le_refl→Xw2,tdiv→Xvx
open Nat renaming ble→Xqq,ble_eq_true_of_le→ξ,le_refl→ζ,add_comm→Xxk,zero_mul→Xjp,zero_le→Xqn,le_trans→Xqg,beq→Δ,min_eq_left→Xz3,min_eq_right→Xvm,lt_of_le_of_ne→Xw6,zero_add→Φ,lt_of_le_of_lt→Xjk,strongRecOn→Xww
open UInt8 renaming ofNat→Xql
open Bool renaming eq_iff_iff→Xj0,and_true→Xzy,and_eq_true→ε,or_eq_true→Xq9
open Prod renaming ext→Xwx
open Option renaming getD→Xqc,getD_some→Xqt
open Decidable renaming byContradiction→Xjn
namespace Go.Proofs.Tryz
abbrev zcc2_0 : List AV := [.bool false,.str [],.str [1],.bool false,.str [1],.str [5],.bool false,.str [5],.str [1],.bool false,.str [2],.str [5]]
abbrev zcc2_1 : List AV := [.bool false,.str [],.str [1],.bool false,.str [1],.str [5],.bool false,.str [5],.str [1],.bool true,.str [1],.str [5]]
def kW (l:List (List Int)):List AV:=l.map fun x=> .sl (iL x) x.length false
def WW (x:Pv):List AV:= [.str x.nm,.bool x.tr,ω x.tm,ω x.td,.sl (oU x.body) x.body.length true,.bool x.ch,.bool x.sn,.str x.sa,.str x.sd,.bool x.cn,.str x.ca,.str x.cd]
def vN (l:List Pv):List AV:=l.flatMap WW
theorem aa1 {a:List Nd} {b:Nat} (h:a.length=b) (x:List Nd):Xqk (b*5) (oU a)++oU x=oU (a++x):=by
 have e:(oU a).length=b*5:=by rw [← h];exact rO nd5 a
 rw [Xqr (by omega)];unfold oU;rw [Xxt]
theorem Tu {a:List Nd} {b:Nat} (h:a.length=b):(oU a).length=b*5:=by rw [← h];exact rO nd5 a
theorem w1p {k:Nat} (h:k<2^62):ω (ν .i64 (((1:Nat):Int)+(k:Int)))= ω ((k+1:Nat):Int):=by
 have e:ν .i64 (((1:Nat):Int)+(k:Int))=((k+1:Nat):Int):=by rw [jD]<;>omega
 rw [e]
def fo (r:Nat):Int:=match r with|0=>9|1=>13|_=>14
theorem Rn {r:Nat} (h:r<3):∃ rest,κ ((0+(θ (r:Int)))*1) [ω 9,ω 13,ω 14]= [ω (fo r)]++rest:=by
 rw [iy]
 match r,h with
 |0,_=>exact ⟨_,rfl⟩
 |1,_=>exact ⟨_,rfl⟩
 |2,_=>exact ⟨_,rfl⟩
def mxn (l:List (List Int)) (nl:Bool) (mn k tm:Nat) (SX:List AV) (nm0:List UInt8) (s1:Bool) (s2 s3:List UInt8) (c1:Bool) (c2 c3:List UInt8) (xs:List Int) (nx:Bool) (p:Nat × Nat × List Nd):St:=⟨[(0,.sl (kW l) l.length nl),(2,.ptr 0 0 0),(3,.ptr 1 0 0),(4,.ptr 2 0 0),(6,ω (mn:Int)),(7,ω (k:Int)),(8,.ptr 3 0 0),(9,.ptr 4 0 0)],[(0,⟨[.nilS,.nilS,.nilS],0,false,0,0,true⟩),(1,⟨[.bool false,ω 1,ω 0],0,false,0,0,true⟩),(2,⟨[.ref 5 0 0 1,.ref 6 0 0 1,.nilS],0,false,0,0,false⟩),(3,⟨[.sl (iL xs) xs.length nx,ω (p.1:Int)],0,false,0,0,true⟩),(4,⟨[.str nm0,.bool false,ω 1,ω 0,.ref 7 0 0 p.2.1,.bool false,.bool s1,.str s2,.str s3,.bool c1,.str c2,.str c3],0,false,0,0,false⟩),(5,⟨[.str [120],.bool false,ω 1,ω 0],0,false,0,4,true⟩),(6,⟨SX,0,false,0,4,true⟩),(7,⟨(oU p.2.2),0,false,0,5,true⟩)],.dead,[]⟩
def mxc (l:List (List Int)) (nl:Bool) (mn k tm:Nat) (SX:List AV) (kp:Nat) (ps:List Pv) (nm0:List UInt8) (s1:Bool) (s2 s3:List UInt8) (c1:Bool) (c2 c3:List UInt8) (xs:List Int) (nx:Bool) (p:Nat × Nat × List Nd):St:=⟨[(0,.sl (kW l) l.length nl),(2,.ptr 0 0 0),(3,.ptr 1 0 0),(4,.ptr 2 0 0),(6,ω (mn:Int)),(7,ω (k:Int)),(8,.ptr 3 0 0),(9,.ptr 4 0 0)],[(0,⟨[.nilS,.nilS,.nilS],0,false,0,0,true⟩),(1,⟨[.bool false,ω 1,ω 0],0,false,0,0,true⟩),(2,⟨[.ref 5 0 0 1,.ref 6 0 0 1,.ref 7 0 0 kp],0,false,0,0,false⟩),(3,⟨[.sl (iL xs) xs.length nx,ω (p.1:Int)],0,false,0,0,true⟩),(4,⟨[.str nm0,.bool false,ω 1,ω 0,.ref 8 0 0 p.2.1,.bool false,.bool s1,.str s2,.str s3,.bool c1,.str c2,.str c3],0,false,0,0,false⟩),(5,⟨[.str [120],.bool false,ω 1,ω 0],0,false,0,4,true⟩),(6,⟨SX,0,false,0,4,true⟩),(7,⟨(vN ps),0,false,0,12,true⟩),(8,⟨(oU p.2.2),0,false,0,5,true⟩)],.dead,[]⟩
structure Mp where
 l:List (List Int)
 nl:Bool
 mn:Nat
 k:Nat
 tm:Nat
 SX:List AV
 nm0:List UInt8
 s1:Bool
 s2:List UInt8
 s3:List UInt8
 c1:Bool
 c2:List UInt8
 c3:List UInt8
 xs:List Int
 nx:Bool
abbrev Mo:=Option (Nat × List Pv)
def mx (o:Mo) (p:Mp) (x:Nat × Nat × List Nd):St:=match o with
 |none=>mxn p.l p.nl p.mn p.k p.tm p.SX p.nm0 p.s1 p.s2 p.s3 p.c1 p.c2 p.c3 p.xs p.nx x
 |some q=>mxc p.l p.nl p.mn p.k p.tm p.SX q.1 q.2 p.nm0 p.s1 p.s2 p.s3 p.c1 p.c2 p.c3 p.xs p.nx x
def mi (o:Mo) (p:Mp) (x:Nat × Nat × List Nd × Nat):St:=⟨(mx o p (x.1,x.2.1,x.2.2.1)).env++ [(11,ω (p.tm:Int)),(12,ω (x.2.2.2:Int))],(mx o p (x.1,x.2.1,x.2.2.1)).hp,.dead,[]⟩
abbrev NX (p:Mp) (n k r k':Nat):Prop:=ae prog ap 63 [.ptr 0 0 0,ω (n:Int)] [dB p.xs p.nx k] (.ret (ω (r:Int))) [dB p.xs p.nx k']
def Oi (q:Bool):Int:=cond q 8 6
theorem Wu {b q:Bool} (h:b=q):lit q b=true:=by subst h;cases b<;>rfl
theorem uM {b:List Nd} {a:Nat} (h:b.length=a) (x:List Nd):∃ b1,b++x=b1∧Xqk (a*5) (oU b)++oU x=oU b1∧b1.length=a+x.length∧(Xqq (a*5) (Xqb (oU b)))=true:=
 ⟨_,rfl,aa1 h x,by rw [η,h],ξ (by rw [Tu h];exact ζ _)⟩
abbrev Vz (nt:Nat) (o:Mo) (p:Mp) (kk nb:Nat) (bd:List Nd) (j kz:Nat) (x:List Nd):Prop:=ag prog ap [] nt (ah 2 (af f24)) (mi o p (kk,nb,bd,j)) .normal (mi o p (kz,nb+x.length,bd++x,j+1))
theorem ajq {nt:Nat} (e:140≤nt) (o:Mo) (p:Mp) (q:Bool) {t a j:Nat} {d:List Nd} {s r u k1 k2 k3:Nat} {b:List UInt8} (G:d.length=a) (L:a<2^30) (i:j<p.tm) (M:p.tm<2^30) (D:((s:Int)==((0:Nat):Int))=q) (J:((u:Int)==((0:Nat):Int))=true) (h:NX p 3 t s k1) (f:NX p p.mn k1 r k2) (l:CO 62 [ω (r:Int)] (.ret (.str b))) (m:NX p 12 k2 u k3):Vz nt o p t a d j k3 (⟨Oi q,false,[],[],b⟩::[⟨10,false,[],[],[]⟩]):=by
 have F:j<2^62:=by omega
 have x:(decide ((j:Int)<(p.tm:Int)))=true:=kl i;obtain ⟨N,z,H,E,I⟩:=uM G [⟨Oi q,false,[],[],b⟩];obtain ⟨K,A,B,P,y⟩:=uM E [⟨10,false,[],[],[]⟩];have k:d++(⟨Oi q,false,[],[],b⟩::[⟨10,false,[],[],[]⟩])=K:=by rw [← A,← z];simp
 unfold Vz;rw [k]
 let n:=cond q 7 5
 rcases o with _|⟨Q,ps⟩<;>cases q<;>exact pN 24 [] 3 n (.k 2 (ξ (by omega:a+1+1≤1099511627776)) (.c y (.k 2 (aQ J) (.k 2 (ξ (by omega:a+1≤1099511627776)) (.c I (.k 2 (Wu D) (.c (aQ x) .nil))))))) (.v 71 (.eq (wpS F)) (.b 94 B (.c m (.b 84 H (.c l (.c f (.c h .nil))))))) e
theorem aed {nt:Nat} (l:140≤nt) (o:Mo) (p:Mp) (q:Bool) {G b j:Nat} {k:List Nd} {F D d a k1 k2 k3 k4:Nat} {f:List UInt8} {hs:Bool} {e h H:List UInt8} (X:k.length=b) (hnb:b<2^30) (u:j<p.tm) (htm:p.tm<2^30) (B:d<2^62) (K:a<3) (M:((F:Int)==((0:Nat):Int))=q) (d2:((d:Int)==((0:Nat):Int))=false) (T:(decide ((d:Int)<((4:Nat):Int)))=true) (R:((d:Int)==((4:Nat):Int))=false) (t:NX p 3 G F k1) (s:NX p p.mn k1 D k2) (z:CO 62 [ω (D:Int)] (.ret (.str f))) (A:NX p 12 k2 d k3) (x:CO 25 [ω 1] (.ret (Ω false [1] [1]))) (i:CO 25 [ω (((d+1):Nat):Int)] (.ret (Ω false H [1]))) (m:CO 64 [Ω false [1] [1],Ω false H [1]] (.ret (.tup [Ω hs e h,.bool true]))) (r:NX p 3 k3 a k4):Vz nt o p G b k j k4 (⟨Oi q,false,[],[],f⟩::[⟨3,hs,e,h,[]⟩,⟨11,false,[],[],[]⟩,⟨fo a,false,[],[],[]⟩]):=by
 have U:j<2^62:=by omega
 have I:(decide ((j:Int)<(p.tm:Int)))=true:=kl u;obtain ⟨rf,E⟩:=Rn K;obtain ⟨b1,L,Y,Q,Z⟩:=uM X [⟨Oi q,false,[],[],f⟩];obtain ⟨b2,N,P,h2,J⟩:=uM Q [⟨3,hs,e,h,[]⟩,⟨11,false,[],[],[]⟩];obtain ⟨b3,q3,W,h3,S⟩:=uM h2 [⟨fo a,false,[],[],[]⟩];have y:k++(⟨Oi q,false,[],[],f⟩::[⟨3,hs,e,h,[]⟩,⟨11,false,[],[],[]⟩,⟨fo a,false,[],[],[]⟩])=b3:=by rw [← q3,← N,← L];simp
 unfold Vz;rw [y]
 let n:=cond q 11 9
 rcases o with _|⟨kp,ps⟩<;>cases q<;>exact pN 24 [] 5 n (.k 2 (ξ (by omega:b+1+2+1≤1099511627776)) (.c S (.k 1 (by rw [E];rfl:(chk (.int .i64) (Xz1 (κ ((0+(θ (a:Int)))*1) [ω 9,ω 13,ω 14]) .dead))=true) (.k 1 (kl (by omega):(decide ((a:Int)<((3:Nat):Int)))=true) (.k 1 (aX R) (.k 2 (ξ (by omega:b+1+2≤1099511627776)) (.c J (.k 6 (aQ T) (.c (aX d2) (.k 2 (ξ (by omega:b+1≤1099511627776)) (.c Z (.k 2 (Wu M) (.c (aQ I) .nil))))))))))))) (.v 71 (.eq (wpS U)) (.b 131 W (.v 128 (.rd1 (.int .i64) E rfl) (.c r (.b 112 P (.c m (.c i (.v 101 (.eq (w1p B)) (.c x (.c A (.b 84 Y (.c z (.c s (.c t .nil)))))))))))))) l
theorem ajr {nt:Nat} (h:140≤nt) (o:Mo) (p:Mp) (q:Bool) {z b j:Nat} {f:List Nd} {y u e a k1 k2 k3 k4:Nat} {d:List UInt8} (P:f.length=b) (U:b<2^30) (m:j<p.tm) (X:p.tm<2^30) (D:a<3) (G:((y:Int)==((0:Nat):Int))=q) (T:((e:Int)==((0:Nat):Int))=false) (M:(decide ((e:Int)<((4:Nat):Int)))=false) (J:((e:Int)==((4:Nat):Int))=true) (l:NX p 3 z y k1) (k:NX p p.mn k1 u k2) (s:CO 62 [ω (u:Int)] (.ret (.str d))) (t:NX p 12 k2 e k3) (i:NX p 3 k3 a k4):Vz nt o p z b f j k4 (⟨Oi q,false,[],[],d⟩::[⟨24,false,[],[],[115]⟩,⟨fo a,false,[],[],[]⟩]):=by
 have N:j<2^62:=by omega
 have A:(decide ((j:Int)<(p.tm:Int)))=true:=kl m;obtain ⟨Z,x⟩:=Rn D;obtain ⟨b1,E,Q,I,R⟩:=uM P [⟨Oi q,false,[],[],d⟩];obtain ⟨b2,F,H,W,B⟩:=uM I [⟨24,false,[],[],[115]⟩];obtain ⟨Y,S,L,h3,K⟩:=uM W [⟨fo a,false,[],[],[]⟩];have r:f++(⟨Oi q,false,[],[],d⟩::[⟨24,false,[],[],[115]⟩,⟨fo a,false,[],[],[]⟩])=Y:=by rw [← S,← F,← E];simp
 unfold Vz;rw [r]
 let n:=cond q 19 17
 rcases o with _|⟨kp,ps⟩<;>cases q<;>exact pN 24 [] 5 n (.k 2 (ξ (by omega:b+1+1+1≤1099511627776)) (.c K (.k 1 (by rw [x];rfl:(chk (.int .i64) (Xz1 (κ ((0+(θ (a:Int)))*1) [ω 9,ω 13,ω 14]) .dead))=true) (.k 1 (kl (by omega):(decide ((a:Int)<((3:Nat):Int)))=true) (.k 3 (ξ (by omega:b+1+1≤1099511627776)) (.c B (.k 2 (aQ J) (.c (aX M) (.c (aX T) (.k 2 (ξ (by omega:b+1≤1099511627776)) (.c R (.k 2 (Wu G) (.c (aQ A) .nil))))))))))))) (.v 71 (.eq (wpS N)) (.b 131 L (.v 128 (.rd1 (.int .i64) x rfl) (.c i (.b 120 H (.c t (.b 84 Q (.c s (.c k (.c l .nil)))))))))) h
theorem aec {nt:Nat} (h:140≤nt) (o:Mo) (p:Mp) (q:Bool) {z b j:Nat} {f:List Nd} {y u e a k1 k2 k3 k4:Nat} {d:List UInt8} (M:f.length=b) (S:b<2^30) (m:j<p.tm) (T:p.tm<2^30) (D:a<3) (G:((y:Int)==((0:Nat):Int))=q) (Q:((e:Int)==((0:Nat):Int))=false) (K:(decide ((e:Int)<((4:Nat):Int)))=false) (J:((e:Int)==((4:Nat):Int))=false) (l:NX p 3 z y k1) (k:NX p p.mn k1 u k2) (s:CO 62 [ω (u:Int)] (.ret (.str d))) (t:NX p 12 k2 e k3) (i:NX p 3 k3 a k4):Vz nt o p z b f j k4 (⟨Oi q,false,[],[],d⟩::[⟨fo a,false,[],[],[]⟩]):=by
 have L:j<2^62:=by omega
 have A:(decide ((j:Int)<(p.tm:Int)))=true:=kl m;obtain ⟨U,x⟩:=Rn D;obtain ⟨W,E,N,I,P⟩:=uM M [⟨Oi q,false,[],[],d⟩];obtain ⟨R,F,H,X,B⟩:=uM I [⟨fo a,false,[],[],[]⟩];have r:f++(⟨Oi q,false,[],[],d⟩::[⟨fo a,false,[],[],[]⟩])=R:=by rw [← F,← E];simp
 unfold Vz;rw [r]
 let n:=cond q 3 1
 rcases o with _|⟨Y,ps⟩<;>cases q<;>exact pN 24 [] 5 n (.k 2 (ξ (by omega:b+1+1≤1099511627776)) (.c B (.k 1 (by rw [x];rfl:(chk (.int .i64) (Xz1 (κ ((0+(θ (a:Int)))*1) [ω 9,ω 13,ω 14]) .dead))=true) (.k 1 (kl (by omega):(decide ((a:Int)<((3:Nat):Int)))=true) (.k 1 (aX J) (.c (aX K) (.c (aX Q) (.k 2 (ξ (by omega:b+1≤1099511627776)) (.c P (.k 2 (Wu G) (.c (aQ A) .nil))))))))))) (.v 71 (.eq (wpS L)) (.b 131 H (.v 128 (.rd1 (.int .i64) x rfl) (.c i (.c t (.b 84 N (.c s (.c k (.c l .nil))))))))) h
theorem aeb {nt:Nat} (a:140≤nt) (o:Mo) (p:Mp) (x:Nat × Nat × List Nd):ag prog ap [] nt (ah 2 (af f24)) (mi o p (x.1,x.2.1,x.2.2,p.tm)) (.exit 2) (mx o p x):=by
 have b:(decide ((p.tm:Int)<(p.tm:Int)))=false:=kn (ζ _);rcases o with _|⟨d,ps⟩<;>exact pN 24 [] 1 0 (.c (aX b) .nil) .nil a
theorem fo6 (r:Nat):(fo r==6)=false:=by unfold fo;split<;>rfl
theorem fo8 (r:Nat):(fo r==8)=false:=by unfold fo;split<;>rfl
def PY (x:Nd):Bool:=x.op==6||x.op==8
structure mY (mn n:Nat) (e:List Nd):Prop where
 cnt:e.countP PY≤n
 len:e.length≤5*n
 nms:∀ x ∈ e,PY x=true→∃ r,r<mn∧x.name= [Xql (97+r)]
theorem mY.app {mn n k:Nat} {e f:List Nd} (h:mY mn n e) (b:mY mn k f):mY mn (n+k) (e++f):=
 ⟨by rw [List.countP_append];have:=h.cnt;have:=b.cnt;omega,by rw [η];have:=h.len;have:=b.len;omega,fun x a d=>by
  rcases List.mem_append.1 a with a|a
  ·exact h.nms x a d
  ·exact b.nms x a d⟩
theorem Lr:CO 25 [ω 1] (.ret (Ω false [1] [1])):=Oe 0 (by decide)
theorem We (r:Nat) (h0:0<r) (a:r<4):∃ (hs:Bool) (hn hd:List UInt8),CO 64 [Ω false [1] [1],.agg [.bool false,.str [Xql (r+1)],.str [1]]] (.ret (.tup [Ω hs hn hd,.bool true])):=by
 match r,h0,a with
 |1,_,_=>exact ⟨_,_,_,aaA⟩
 |2,_,_=>exact ⟨_,_,_,aaB⟩
 |3,_,_=>exact ⟨_,_,_,aaC⟩
theorem nmQ (q:Bool) (a:Bool) (b c d:List UInt8):PY ⟨Oi q,a,b,c,d⟩=true:=by cases q<;>rfl
theorem H_ {mn r:Nat} (q:Bool) {e:List Nd} (f:r<mn) (i:e.length≤4) (d:e.all (fun x=> !PY x)=true):mY mn 1 (⟨Oi q,false,[],[],[Xql (97+r)]⟩::e):=by
 have b:∀ x ∈ e,PY x=false:=fun x a=>by have:=List.all_eq_true.1 d x a;simpa using this
 refine ⟨?_,by simp only [τ];omega,fun x a h=> ?_⟩
 ·rw [Xwm,List.countP_eq_zero.2 (fun x a=>by rw [b x a];exact Bool.false_ne_true),if_pos (nmQ ..)];exact ζ _
 ·rcases List.mem_cons.1 a with rfl|a
  ·exact ⟨r,f,rfl⟩
  ·rw [b x a] at h;cases h
theorem Tf (o:Mo) (p:Mp) (z:0<p.mn) (E:p.mn≤8) (u B j:Nat) (D:List Nd) (M:u<2^50) (x:D.length=B) (l:B<2^30) (f:j<p.tm) (m:p.tm<2^30):
  ∃ (e:List Nd) (k2:Nat),mY p.mn 1 e∧k2≤u+4∧∀ nt,140≤nt→Vz nt o p u B D j k2 e:=by
 obtain ⟨L,k1,F,K,d⟩:=nM p.xs p.nx u 3 (by omega) (by omega) (by omega);obtain ⟨H,k2,h,J,b⟩:=nM p.xs p.nx k1 p.mn (by omega) z (by omega);have i:=N7 H (by omega);obtain ⟨n,k3,P,I,k⟩:=nM p.xs p.nx k2 12 (by omega) (by omega) (by omega);obtain ⟨Q,k4,y,N,r⟩:=nM p.xs p.nx k3 3 (by omega) (by omega) (by omega);obtain ⟨q,t⟩:∃ q,((L:Int)==((0:Nat):Int))=q:=⟨_,rfl⟩
 rcases tf ((n:Int)==((0:Nat):Int)) with d2|d2
 ·exact ⟨_,k3,H_ q h (by simp) (by simp [PY]),by omega,fun nt a=>ajq a o p q x l f m t d2 d b i k⟩
 ·have h0:0<n:=by simp at d2;omega
  rcases tf (decide ((n:Int)<((4:Nat):Int))) with d3|d3
  ·have A:n<4:=by simp at d3;omega
   have s:((n:Int)==((4:Nat):Int))=false:=by simp;omega
   obtain ⟨hs,R,S,G⟩:=We n h0 A;exact ⟨_,k4,H_ q h (by simp) (by simp [PY,fo6,fo8]),by omega,fun nt a=>aed a o p q x l f m (by omega) y t d2 d3 s d b i k Lr (Oe n (by omega)) G r⟩
  ·rcases tf ((n:Int)==((4:Nat):Int)) with s|s
   ·exact ⟨_,k4,H_ q h (by simp) (by simp [PY,fo6,fo8]),by omega,fun nt a=>ajr a o p q x l f m y t d2 d3 s d b i k r⟩
   ·exact ⟨_,k4,H_ q h (by simp) (by simp [PY,fo6,fo8]),by omega,fun nt a=>aec a o p q x l f m y t d2 d3 s d b i k r⟩
theorem xf (o:Mo) (p:Mp) (d:0<p.mn) (b:p.mn≤8) (f:p.tm<2^20):∀ (rem kk nb j:Nat) (bd:List Nd),j+rem=p.tm→kk+4*rem<2^50→bd.length=nb→nb+5*rem<2^30→
  ∃ (e:List Nd) (k2:Nat),mY p.mn rem e∧k2≤kk+4*rem∧∀ nt,140≤nt→aN prog ap [] nt (ah 2 (af f24)) (fun _=> .exit 2) (mi o p) (mx o p) (kk,nb,bd,j) (k2,nb+e.length,bd++e)
 |0,kk,nb,j,bd,i,hkk,hb,hnb=>by
  refine ⟨[],kk,⟨by simp,by simp,(fun x n=>by cases n)⟩,(by omega),fun nt a=> ?_⟩;have i:j=p.tm:=by omega
  have h:=aeb a o p (kk,nb,bd);rw [μ,i];exact .done h
 |rem+1,kk,nb,j,bd,i,hkk,hb,hnb=>by
  obtain ⟨e,k2,k,t,q⟩:=Tf o p d b kk nb j bd (by omega) hb (by omega) (by omega) (by omega);have u:=k.len;obtain ⟨l,k3,r,s,m⟩:=xf o p d b f rem k2 (nb+e.length) (j+1) (bd++e) (by omega) (by omega) (by rw [η,hb]) (by omega);refine ⟨e++l,k3,by rw [Xxk];exact k.app r,(by omega),fun nt a=> ?_⟩;have:=m nt a;rw [Xqi,Nat.add_assoc,← η] at this;exact .next (a':=(k2,nb+e.length,bd++e,j+1)) (q nt a) this
theorem TP {ps:List Pv} {a:Nat} (h:ps.length=a) (x:Pv):Xqk (a*12) (vN ps)++WW x=vN (ps++ [x]):=by
 have e:(vN ps).length=a*12:=by rw [← h];exact rO (f:=WW) (n:=12) (fun _=>rfl) ps
 rw [Xqr (by omega)];unfold vN;rw [Xxt];simp
theorem He {ps:List Pv} {a:Nat} (h:ps.length=a):(vN ps).length=a*12:=by rw [← h];exact rO (f:=WW) (n:=12) (fun _=>rfl) ps
theorem SI {l:List (List Int)} {i:Nat} (h:i<l.length):∃ rx,κ ((θ (i:Int))*1) (kW l)= [AV.sl (iL (l.getD i [])) (l.getD i []).length false]++rx:=by
 unfold kW;rw [iy,Nat.mul_one,← List.map_drop,Xxn h,γ,δ h];exact ⟨_,rfl⟩
def Yg (l:List (List Int)) (nl:Bool) (mn:Nat) (SX:List AV) (p:Nat × List Pv):St:=match p.2 with
 | []=>(Xl (.sl (kW l) l.length nl) mn p.1 SX)
 |q::r=>(H5 (.sl (kW l) l.length nl) mn p.1 [.ref 3 0 0 1,.ref 4 0 0 1,.ref 5 0 0 (q::r).length] SX (vN (q::r)))
def moX (SX:List AV) (ps:List Pv):St:=match ps with
 | []=>(OH SX)
 |q::r=>(OI [.ref 2 0 0 1,.ref 3 0 0 1,.ref 4 0 0 (q::r).length] SX (vN (q::r)))
theorem aaY {nt:Nat} (i:140≤nt) (l:List (List Int)) (e:Bool) (mn:Nat) (SX:List AV) (k:Nat) (b:List UInt8) (f:List UInt8) (a:List Int) (B:List AV) (h:List Nd) (d j s k1 k2 k3 y o:Nat) (q:k<mn) (p:k<l.length) (r:mn≤8) (z:(κ ((θ (k:Int))*1) (kW l))= [AV.sl (iL a) a.length false]++B) (t:h.length=o) (A:(decide (((0:Nat):Int)<(d:Int)))=true) (m:j<2^62)
  (ca1:CO 62 [ω (k:Int)] (.ret (.str b))) (cn1:ae prog ap 63 [.ptr 0 0 0,ω 4] [⟨[.sl (iL a) a.length false,ω 0],0,false,0,0,true⟩] (.ret (ω (d:Int))) [⟨[.sl (iL a) a.length false,ω (k1:Int)],0,false,0,0,true⟩]) (cf1:CO 25 [ω 1] (.ret (Ω false [1] [1]))) (cn2:ae prog ap 63 [.ptr 0 0 0,ω 40] [⟨[.sl (iL a) a.length false,ω (k1:Int)],0,false,0,0,true⟩] (.ret (ω (j:Int))) [⟨[.sl (iL a) a.length false,ω (k2:Int)],0,false,0,0,true⟩]) (cf2:CO 25 [ω (((j+1):Nat):Int)] (.ret (Ω false f [1]))) (cn3:ae prog ap 63 [.ptr 0 0 0,ω 4] [⟨[.sl (iL a) a.length false,ω (k2:Int)],0,false,0,0,true⟩] (.ret (ω (s:Int))) [⟨[.sl (iL a) a.length false,ω (k3:Int)],0,false,0,0,true⟩])
  (l1:LB 140 2 f24 (ZK (.sl (kW l) l.length e) mn k (decide (((0:Nat):Int)<(d:Int))) s (decide ((k:Int)<(mn:Int))) (decide (((0:Nat):Int)<(d:Int))) [.sl (iL a) a.length false,ω (k3:Int)] [.str b,.bool false,ω 1,ω 0,.ref 7 0 0 1,.bool false,.bool false,.str [1],.str [1],.bool false,.str f,.str [1]] SX) (.normal) (UX (.sl (kW l) l.length e) mn k [.sl (iL a) a.length false,ω (y:Int)] [.str b,.bool false,ω 1,ω 0,.sl (oU h) o true,.bool false,.bool false,.str [1],.str [1],.bool false,.str f,.str [1]] SX)):
  ψ nt f24 (Xl (.sl (kW l) l.length e) mn k SX) .normal (H5 (.sl (kW l) l.length e) mn (k+1) [.ref 3 0 0 1,.ref 4 0 0 1,.ref 5 0 0 1] SX [.str b,.bool false,ω 1,ω 0,.sl (oU h) o true,.bool false,.bool false,.str [1],.str [1],.bool false,.str f,.str [1]]):=by
 have x:k<2^62:=by omega
 have u:(decide ((k:Int)<(mn:Int)))=true:=kl q;have n:(decide ((k:Int)<(l.length:Int)))=true:=(kl p)
 exact pN 24 [2] 3 3 (.k 19 (aQ A) (.k 6 n (.c (aQ u) .nil))) (.v 41 (.eq (wpS x)) (.l l1 (.c cn3 (.c cf2 (.v 62 (.eq (w1p m)) (.c cn2 (.c cf1 (.c cn1 (.c ca1 (.v 44 (.ppt z) .nil)))))))))) i
theorem aaX {nt:Nat} (h:140≤nt) (l:List (List Int)) (e:Bool) (mn:Nat) (SX:List AV) (k:Nat) (b:List UInt8) (a:List Int) (y:List AV) (f:List Nd) (d o k1 k2 t j:Nat) (n:k<mn) (m:k<l.length) (p:mn≤8) (u:(κ ((θ (k:Int))*1) (kW l))= [AV.sl (iL a) a.length false]++y) (q:f.length=j) (x:(decide (((0:Nat):Int)<(d:Int)))=false)
  (ca1:CO 62 [ω (k:Int)] (.ret (.str b))) (cn1:ae prog ap 63 [.ptr 0 0 0,ω 4] [⟨[.sl (iL a) a.length false,ω 0],0,false,0,0,true⟩] (.ret (ω (d:Int))) [⟨[.sl (iL a) a.length false,ω (k1:Int)],0,false,0,0,true⟩]) (cn2:ae prog ap 63 [.ptr 0 0 0,ω 4] [⟨[.sl (iL a) a.length false,ω (k1:Int)],0,false,0,0,true⟩] (.ret (ω (o:Int))) [⟨[.sl (iL a) a.length false,ω (k2:Int)],0,false,0,0,true⟩])
  (l1:LB 140 2 f24 (ZK (.sl (kW l) l.length e) mn k (decide (((0:Nat):Int)<(d:Int))) o (decide ((k:Int)<(mn:Int))) (decide (((0:Nat):Int)<(d:Int))) [.sl (iL a) a.length false,ω (k2:Int)] [.str b,.bool false,ω 1,ω 0,.ref 7 0 0 1,.bool false,.bool false,.str [],.str [],.bool false,.str [],.str []] SX) (.normal) (UX (.sl (kW l) l.length e) mn k [.sl (iL a) a.length false,ω (t:Int)] [.str b,.bool false,ω 1,ω 0,.sl (oU f) j true,.bool false,.bool false,.str [],.str [],.bool false,.str [],.str []] SX)):
  ψ nt f24 (Xl (.sl (kW l) l.length e) mn k SX) .normal (H5 (.sl (kW l) l.length e) mn (k+1) [.ref 3 0 0 1,.ref 4 0 0 1,.ref 5 0 0 1] SX [.str b,.bool false,ω 1,ω 0,.sl (oU f) j true,.bool false,.bool false,.str [],.str [],.bool false,.str [],.str []]):=by
 have s:k<2^62:=by omega
 have r:(decide ((k:Int)<(mn:Int)))=true:=kl n;have i:(decide ((k:Int)<(l.length:Int)))=true:=(kl m)
 exact pN 24 [2] 3 1 (.k 17 (aX x) (.k 6 i (.c (aQ r) .nil))) (.v 41 (.eq (wpS s)) (.l l1 (.c cn2 (.c cn1 (.c ca1 (.v 44 (.ppt u) .nil)))))) h
theorem WG {nt:Nat} (a:140≤nt) (l:List (List Int)) (d:Bool) (mn:Nat) (SX:List AV):ψ nt f24 (Xl (.sl (kW l) l.length d) mn mn SX) (.exit 0) (OH SX):=by
 have b:(decide ((mn:Int)<(mn:Int)))=false:=kn (ζ _);exact pN 24 [2] 1 0 (.c (aX b) .nil) .nil a
theorem aaW {nt:Nat} (o:140≤nt) (l:List (List Int)) (n:Bool) (mn:Nat) (SX:List AV) (k:Nat) (d:Nat) (ps:List Pv) (b:List UInt8) (e:List UInt8) (a:List Int) (K:List AV) (f:List Nd) (m q E k1 k2 k3 H x:Nat) (A:k<mn) (y:k<l.length) (D:mn≤8) (I:(κ ((θ (k:Int))*1) (kW l))= [AV.sl (iL a) a.length false]++K) (i:ps.length=d) (L:d<2^20) (h:f.length=x) (J:(decide (((0:Nat):Int)<(m:Int)))=true) (s:q<2^62)
  (ca1:CO 62 [ω (k:Int)] (.ret (.str b))) (cn1:ae prog ap 63 [.ptr 0 0 0,ω 4] [⟨[.sl (iL a) a.length false,ω 0],0,false,0,0,true⟩] (.ret (ω (m:Int))) [⟨[.sl (iL a) a.length false,ω (k1:Int)],0,false,0,0,true⟩]) (cf1:CO 25 [ω 1] (.ret (Ω false [1] [1]))) (cn2:ae prog ap 63 [.ptr 0 0 0,ω 40] [⟨[.sl (iL a) a.length false,ω (k1:Int)],0,false,0,0,true⟩] (.ret (ω (q:Int))) [⟨[.sl (iL a) a.length false,ω (k2:Int)],0,false,0,0,true⟩]) (cf2:CO 25 [ω (((q+1):Nat):Int)] (.ret (Ω false e [1]))) (cn3:ae prog ap 63 [.ptr 0 0 0,ω 4] [⟨[.sl (iL a) a.length false,ω (k2:Int)],0,false,0,0,true⟩] (.ret (ω (E:Int))) [⟨[.sl (iL a) a.length false,ω (k3:Int)],0,false,0,0,true⟩])
  (l1:LB 140 2 f24 (ZL (.sl (kW l) l.length n) mn k (decide (((0:Nat):Int)<(m:Int))) E (decide ((k:Int)<(mn:Int))) (decide (((0:Nat):Int)<(m:Int))) [.ref 5 0 0 1,.ref 6 0 0 1,.ref 7 0 0 d] [.sl (iL a) a.length false,ω (k3:Int)] [.str b,.bool false,ω 1,ω 0,.ref 8 0 0 1,.bool false,.bool false,.str [1],.str [1],.bool false,.str e,.str [1]] SX (vN ps)) (.normal) (UY (.sl (kW l) l.length n) mn k [.ref 5 0 0 1,.ref 6 0 0 1,.ref 7 0 0 d] [.sl (iL a) a.length false,ω (H:Int)] [.str b,.bool false,ω 1,ω 0,.sl (oU f) x true,.bool false,.bool false,.str [1],.str [1],.bool false,.str e,.str [1]] SX (vN ps))):
  ψ nt f24 (H5 (.sl (kW l) l.length n) mn k [.ref 3 0 0 1,.ref 4 0 0 1,.ref 5 0 0 d] SX (vN ps)) .normal (H5 (.sl (kW l) l.length n) mn (k+1) [.ref 3 0 0 1,.ref 4 0 0 1,.ref 5 0 0 (d+1)] SX (vN (ps++ [⟨b,false,1,0,f,false,false,[1],[1],false,e,[1]⟩]))):=by
 have G:k<2^62:=by omega
 have F:(decide ((k:Int)<(mn:Int)))=true:=kl A;obtain ⟨B,j⟩:∃ z:Pv,z=⟨b,false,1,0,f,false,false,[1],[1],false,e,[1]⟩:=⟨_,rfl⟩
 rw [← j];have r:=TP i B;have r:Xqk (d*12) (vN ps)++ [AV.str b,.bool false,ω 1,ω 0,.sl (oU f) x true,.bool false,.bool false,.str [1],.str [1],.bool false,.str e,.str [1]]=vN (ps++ [B]):=by rw [← r,j,← h];rfl
 subst h;have t:(Xqq (d+1) 549755813888)=true:=(ξ (by omega))
 have u:(Xqq (d*12) (Xqb (vN ps)))=true:=(ξ (by rw [He i];exact ζ _))
 have p:(decide ((k:Int)<(l.length:Int)))=true:=(kl y)
 exact pN 24 [2] 2 3 (.k 2 t (.c u (.k 16 (aQ J) (.k 6 p (.c (aQ F) .nil))))) (.v 41 (.eq (wpS G)) (.b 137 r (.l l1 (.c cn3 (.c cf2 (.v 62 (.eq (w1p s)) (.c cn2 (.c cf1 (.c cn1 (.c ca1 (.v 44 (.ppt I) .nil))))))))))) o
theorem aaV {nt:Nat} (n:140≤nt) (l:List (List Int)) (m:Bool) (mn:Nat) (SX:List AV) (k:Nat) (d:Nat) (ps:List Pv) (b:List UInt8) (a:List Int) (H:List AV) (e:List Nd) (j y k1 k2 E s:Nat) (u:k<mn) (t:k<l.length) (A:mn≤8) (F:(κ ((θ (k:Int))*1) (kW l))= [AV.sl (iL a) a.length false]++H) (h:ps.length=d) (I:d<2^20) (f:e.length=s) (G:(decide (((0:Nat):Int)<(j:Int)))=false)
  (ca1:CO 62 [ω (k:Int)] (.ret (.str b))) (cn1:ae prog ap 63 [.ptr 0 0 0,ω 4] [⟨[.sl (iL a) a.length false,ω 0],0,false,0,0,true⟩] (.ret (ω (j:Int))) [⟨[.sl (iL a) a.length false,ω (k1:Int)],0,false,0,0,true⟩]) (cn2:ae prog ap 63 [.ptr 0 0 0,ω 4] [⟨[.sl (iL a) a.length false,ω (k1:Int)],0,false,0,0,true⟩] (.ret (ω (y:Int))) [⟨[.sl (iL a) a.length false,ω (k2:Int)],0,false,0,0,true⟩])
  (l1:LB 140 2 f24 (ZL (.sl (kW l) l.length m) mn k (decide (((0:Nat):Int)<(j:Int))) y (decide ((k:Int)<(mn:Int))) (decide (((0:Nat):Int)<(j:Int))) [.ref 5 0 0 1,.ref 6 0 0 1,.ref 7 0 0 d] [.sl (iL a) a.length false,ω (k2:Int)] [.str b,.bool false,ω 1,ω 0,.ref 8 0 0 1,.bool false,.bool false,.str [],.str [],.bool false,.str [],.str []] SX (vN ps)) (.normal) (UY (.sl (kW l) l.length m) mn k [.ref 5 0 0 1,.ref 6 0 0 1,.ref 7 0 0 d] [.sl (iL a) a.length false,ω (E:Int)] [.str b,.bool false,ω 1,ω 0,.sl (oU e) s true,.bool false,.bool false,.str [],.str [],.bool false,.str [],.str []] SX (vN ps))):
  ψ nt f24 (H5 (.sl (kW l) l.length m) mn k [.ref 3 0 0 1,.ref 4 0 0 1,.ref 5 0 0 d] SX (vN ps)) .normal (H5 (.sl (kW l) l.length m) mn (k+1) [.ref 3 0 0 1,.ref 4 0 0 1,.ref 5 0 0 (d+1)] SX (vN (ps++ [⟨b,false,1,0,e,false,false,[],[],false,[],[]⟩]))):=by
 have D:k<2^62:=by omega
 have B:(decide ((k:Int)<(mn:Int)))=true:=kl u;obtain ⟨x,i⟩:∃ z:Pv,z=⟨b,false,1,0,e,false,false,[],[],false,[],[]⟩:=⟨_,rfl⟩
 rw [← i];have p:=TP h x;have p:Xqk (d*12) (vN ps)++ [AV.str b,.bool false,ω 1,ω 0,.sl (oU e) s true,.bool false,.bool false,.str [],.str [],.bool false,.str [],.str []]=vN (ps++ [x]):=by rw [← p,i,← f];rfl
 subst f;have q:(Xqq (d+1) 549755813888)=true:=(ξ (by omega))
 have r:(Xqq (d*12) (Xqb (vN ps)))=true:=(ξ (by rw [He h];exact ζ _))
 have o:(decide ((k:Int)<(l.length:Int)))=true:=(kl t)
 exact pN 24 [2] 2 1 (.k 2 q (.c r (.k 14 (aX G) (.k 6 o (.c (aQ B) .nil))))) (.v 41 (.eq (wpS D)) (.b 137 p (.l l1 (.c cn2 (.c cn1 (.c ca1 (.v 44 (.ppt F) .nil))))))) n
theorem WF {nt:Nat} (a:140≤nt) (l:List (List Int)) (e:Bool) (mn:Nat) (SX:List AV) (b:Nat) (ps:List Pv):ψ nt f24 (H5 (.sl (kW l) l.length e) mn mn [.ref 3 0 0 1,.ref 4 0 0 1,.ref 5 0 0 b] SX (vN ps)) (.exit 0) (OI [.ref 2 0 0 1,.ref 3 0 0 1,.ref 4 0 0 b] SX (vN ps)):=by
 have d:(decide ((mn:Int)<(mn:Int)))=false:=kn (ζ _);exact pN 24 [2] 1 0 (.c (aX d) .nil) .nil a
theorem Nw {a:List Nd} {b:Nat} (h:a.length=b):((oU a).drop (0*5)).take (b*5)=oU a:=by
 rw [Xjp,Xzq,Xqr (by rw [Tu h];exact ζ _)]
structure ZY (mn k:Nat) (p:Pv):Prop where
 nm:p.nm= [Xql (97+k)]
 body:∃ e,p.body=⟨5,false,[],[],[120]⟩::e∧mY mn 3 e
theorem NY (l:List (List Int)) (r:Bool) (mn k tm:Nat) (SX:List AV) (b:List UInt8) (s1:Bool) (s2 m:List UInt8) (q:Bool) (j t:List UInt8) (e:List Int) (nx:Bool) {a:Code} {s:St} {n:Nat} (o f:Nat) (d:List Nd) (u:d.length=f) (h:bG prog ap [] n a s .normal (mxn l r mn k tm SX b s1 s2 m q j t e nx (o,f,d))):bG prog ap [] n a s .normal (UX (.sl (kW l) l.length r) mn k [.sl (iL e) e.length nx,ω (o:Int)] [.str b,.bool false,ω 1,ω 0,.sl (oU d) f true,.bool false,.bool s1,.str s2,.str m,.bool q,.str j,.str t] SX):=fun nt i=>by
 have p:=h nt i;unfold mxn at p;exact ag.forget 7 ⟨oU d,0,false,0,5,true⟩ p (by intro v h;cases h) (Xqn _) rfl ⟨Fz.same rfl,Fz.same rfl,Fz.same rfl,Fz.same rfl,Fz.same rfl,Fz.same rfl,Fz.same rfl,Fz.same rfl,trivial⟩ ⟨rfl,Ee.same rfl,by decide,rfl,Ee.same rfl,by decide,rfl,⟨rfl,rfl,rfl,rfl,.inr ⟨.cons (.same rfl) (.cons (.same rfl) (.cons (.same rfl) .nil)),fun h=>by cases h⟩⟩,by decide,rfl,Ee.same rfl,by decide,rfl,⟨rfl,rfl,rfl,rfl,.inr ⟨.cons (.same rfl) (.cons (.same rfl) (.cons (.same rfl) (.cons (.same rfl) (.cons (.fit .ref (bF.eq (by rw [Nw u]))) (.cons (.same rfl) (.cons (.same rfl) (.cons (.same rfl) (.cons (.same rfl) (.cons (.same rfl) (.cons (.same rfl) (.cons (.same rfl) .nil))))))))))),fun _=>rfl⟩⟩,by decide,rfl,Ee.same rfl,by decide,rfl,Ee.same rfl,by decide,rfl⟩
theorem NW (l:List (List Int)) (r:Bool) (mn k tm:Nat) (SX:List AV) (u:Nat) (ps:List Pv) (b:List UInt8) (s1:Bool) (s2 m:List UInt8) (q:Bool) (j t:List UInt8) (e:List Int) (nx:Bool) {a:Code} {s:St} {n:Nat} (o f:Nat) (d:List Nd) (x:d.length=f) (h:bG prog ap [] n a s .normal (mxc l r mn k tm SX u ps b s1 s2 m q j t e nx (o,f,d))):bG prog ap [] n a s .normal (UY (.sl (kW l) l.length r) mn k [.ref 5 0 0 1,.ref 6 0 0 1,.ref 7 0 0 u] [.sl (iL e) e.length nx,ω (o:Int)] [.str b,.bool false,ω 1,ω 0,.sl (oU d) f true,.bool false,.bool s1,.str s2,.str m,.bool q,.str j,.str t] SX (vN ps)):=fun nt i=>by
 have p:=h nt i;unfold mxc at p;exact ag.forget 8 ⟨oU d,0,false,0,5,true⟩ p (by intro v h;cases h) (Xqn _) rfl ⟨Fz.same rfl,Fz.same rfl,Fz.same rfl,Fz.same rfl,Fz.same rfl,Fz.same rfl,Fz.same rfl,Fz.same rfl,trivial⟩ ⟨rfl,Ee.same rfl,by decide,rfl,Ee.same rfl,by decide,rfl,⟨rfl,rfl,rfl,rfl,.inr ⟨.cons (.same rfl) (.cons (.same rfl) (.cons (.same rfl) .nil)),fun h=>by cases h⟩⟩,by decide,rfl,Ee.same rfl,by decide,rfl,⟨rfl,rfl,rfl,rfl,.inr ⟨.cons (.same rfl) (.cons (.same rfl) (.cons (.same rfl) (.cons (.same rfl) (.cons (.fit .ref (bF.eq (by rw [Nw x]))) (.cons (.same rfl) (.cons (.same rfl) (.cons (.same rfl) (.cons (.same rfl) (.cons (.same rfl) (.cons (.same rfl) (.cons (.same rfl) .nil))))))))))),fun _=>rfl⟩⟩,by decide,rfl,Ee.same rfl,by decide,rfl,Ee.same rfl,by decide,rfl,Ee.same rfl,by decide,rfl⟩
theorem xg (l:List (List Int)) (a:Bool) (mn:Nat) (SX:List AV) (k:Nat) {ps:List Pv} (h:ps ≠ []):Yg l a mn SX (k,ps)=(H5 (.sl (kW l) l.length a) mn k [.ref 3 0 0 1,.ref 4 0 0 1,.ref 5 0 0 ps.length] SX (vN ps)):=by
 cases ps with
 |nil=>exact absurd rfl h
 |cons q r=>rfl
theorem Tj (l:List (List Int)) (d:Bool) (mn:Nat) (SX:List AV) (q:0<mn) (a:mn≤8) (M:mn≤l.length) (k:Nat) (ps:List Pv) (E:k<mn) (t:ps.length=k):
  ∃ p:Pv,ZY mn k p∧∀ nt,140≤nt→ψ nt f24 (Yg l d mn SX (k,ps)) .normal (Yg l d mn SX (k+1,ps++ [p])):=by
 have o:k<l.length:=by omega
 obtain ⟨G,F⟩:=SI o;generalize l.getD k []=xs at*
 have s:=N7 k (by omega);obtain ⟨A,k1,J,L,r⟩:=nM xs false 0 4 (by omega) (by omega) (by omega);rcases tf (decide (((0:Nat):Int)<(A:Int))) with hc|hc
 ·obtain ⟨b,k2,I,H,m⟩:=nM xs false k1 40 (by omega) (by omega) (by omega);obtain ⟨u,k3,N,K,B⟩:=nM xs false k2 4 (by omega) (by omega) (by omega);by_cases hne:ps= []
  ·subst hne;obtain ⟨e,n,i,x,h⟩:=xf none ⟨l,d,mn,k,u,SX,[Xql (97+k)],false,[1],[1],false,[Xql (b+1)],[1],xs,false⟩ q a (by dsimp only;omega) u k3 1 0 [⟨5,false,[],[],[120]⟩] (by dsimp only;omega) (by omega) rfl (by omega);have y:=aN.blk (id:=2) (e':= .normal) (fun nt (hn:140≤nt)=>h nt hn) (by simp) rfl (aH.refl _) (aH.refl _);have z:=NY l d mn k u SX [Xql (97+k)] false [1] [1] false [Xql (b+1)] [1] xs false n _ _ (by simp [Xxk]) y;refine ⟨⟨[Xql (97+k)],false,1,0,⟨5,false,[],[],[120]⟩::e,false,false,[1],[1],false,[Xql (b+1)],[1]⟩,⟨rfl,e,rfl,⟨Xqg i.cnt (by omega),Xqg i.len (by omega),i.nms⟩⟩,fun nt f=> ?_⟩;have D:=aaY f l d mn SX k [Xql (97+k)] [Xql (b+1)] xs G (⟨5,false,[],[],[120]⟩::e) A b u k1 k2 k3 n (1+e.length) E o a F (by simp [Xxk]) hc (by omega) s r Lr m (Oe b (by omega)) B (fun nt j=>(z nt j).weak (aH.of ⟨rfl,rfl,rfl,rfl,rfl,rfl,rfl,rfl,rfl,rfl,trivial⟩) (aH.refl _));rw [show 1+e.length=((⟨5,false,[],[],[120]⟩:Nd)::e).length by simp [Xxk]] at D;exact D
  ·obtain ⟨e,n,i,x,h⟩:=xf (some (k,ps)) ⟨l,d,mn,k,u,SX,[Xql (97+k)],false,[1],[1],false,[Xql (b+1)],[1],xs,false⟩ q a (by dsimp only;omega) u k3 1 0 [⟨5,false,[],[],[120]⟩] (by dsimp only;omega) (by omega) rfl (by omega);have y:=aN.blk (id:=2) (e':= .normal) (fun nt (hn:140≤nt)=>h nt hn) (by simp) rfl (aH.refl _) (aH.refl _);have z:=NW l d mn k u SX k ps [Xql (97+k)] false [1] [1] false [Xql (b+1)] [1] xs false n _ _ (by simp [Xxk]) y;refine ⟨⟨[Xql (97+k)],false,1,0,⟨5,false,[],[],[120]⟩::e,false,false,[1],[1],false,[Xql (b+1)],[1]⟩,⟨rfl,e,rfl,⟨Xqg i.cnt (by omega),Xqg i.len (by omega),i.nms⟩⟩,fun nt f=> ?_⟩;rw [xg l d mn SX k hne,xg l d mn SX (k+1) (by simp),η,t];exact aaW f l d mn SX k k ps [Xql (97+k)] [Xql (b+1)] xs G (⟨5,false,[],[],[120]⟩::e) A b u k1 k2 k3 n (1+e.length) E o a F t (by omega) (by simp [Xxk]) hc (by omega) s r Lr m (Oe b (by omega)) B (fun nt j=>(z nt j).weak (aH.of ⟨rfl,rfl,rfl,rfl,rfl,rfl,rfl,rfl,rfl,rfl,trivial⟩) (aH.refl _))
 ·obtain ⟨b,k2,I,H,m⟩:=nM xs false k1 4 (by omega) (by omega) (by omega);by_cases hne:ps= []
  ·subst hne;obtain ⟨e,n,i,x,h⟩:=xf none ⟨l,d,mn,k,b,SX,[Xql (97+k)],false,[],[],false,[],[],xs,false⟩ q a (by dsimp only;omega) b k2 1 0 [⟨5,false,[],[],[120]⟩] (by dsimp only;omega) (by omega) rfl (by omega);have y:=aN.blk (id:=2) (e':= .normal) (fun nt (hn:140≤nt)=>h nt hn) (by simp) rfl (aH.refl _) (aH.refl _);have z:=NY l d mn k b SX [Xql (97+k)] false [] [] false [] [] xs false n _ _ (by simp [Xxk]) y;refine ⟨⟨[Xql (97+k)],false,1,0,⟨5,false,[],[],[120]⟩::e,false,false,[],[],false,[],[]⟩,⟨rfl,e,rfl,⟨Xqg i.cnt (by omega),Xqg i.len (by omega),i.nms⟩⟩,fun nt f=> ?_⟩;have D:=aaX f l d mn SX k [Xql (97+k)] xs G (⟨5,false,[],[],[120]⟩::e) A b k1 k2 n (1+e.length) E o a F (by simp [Xxk]) hc s r m (fun nt j=>(z nt j).weak (aH.of ⟨rfl,rfl,rfl,rfl,rfl,rfl,rfl,rfl,rfl,rfl,trivial⟩) (aH.refl _));rw [show 1+e.length=((⟨5,false,[],[],[120]⟩:Nd)::e).length by simp [Xxk]] at D;exact D
  ·obtain ⟨e,n,i,x,h⟩:=xf (some (k,ps)) ⟨l,d,mn,k,b,SX,[Xql (97+k)],false,[],[],false,[],[],xs,false⟩ q a (by dsimp only;omega) b k2 1 0 [⟨5,false,[],[],[120]⟩] (by dsimp only;omega) (by omega) rfl (by omega);have y:=aN.blk (id:=2) (e':= .normal) (fun nt (hn:140≤nt)=>h nt hn) (by simp) rfl (aH.refl _) (aH.refl _);have z:=NW l d mn k b SX k ps [Xql (97+k)] false [] [] false [] [] xs false n _ _ (by simp [Xxk]) y;refine ⟨⟨[Xql (97+k)],false,1,0,⟨5,false,[],[],[120]⟩::e,false,false,[],[],false,[],[]⟩,⟨rfl,e,rfl,⟨Xqg i.cnt (by omega),Xqg i.len (by omega),i.nms⟩⟩,fun nt f=> ?_⟩;rw [xg l d mn SX k hne,xg l d mn SX (k+1) (by simp),η,t];exact aaV f l d mn SX k k ps [Xql (97+k)] xs G (⟨5,false,[],[],[120]⟩::e) A b k1 k2 n (1+e.length) E o a F t (by omega) (by simp [Xxk]) hc s r m (fun nt j=>(z nt j).weak (aH.of ⟨rfl,rfl,rfl,rfl,rfl,rfl,rfl,rfl,rfl,rfl,trivial⟩) (aH.refl _))
def yZ (mn:Nat) (ps:List Pv):Prop:=∀ (k:Nat) (p:Pv),ps[k]? =some p→ZY mn k p
theorem yZ.snoc {mn k:Nat} {ps:List Pv} {p:Pv} (h:yZ mn ps) (hp:ZY mn k p) (b:ps.length=k):yZ mn (ps++ [p]):=fun i q a=>by
 by_cases hl:i<ps.length
 ·rw [υ hl] at a;exact h i q a
 ·have e:i=ps.length:=by
   have:=(List.getElem?_eq_some_iff.1 a).1;simp at this;omega
  subst e;simp at a;subst a;rw [b];exact hp
theorem Ti {nt:Nat} (a:140≤nt) (l:List (List Int)) (b:Bool) (mn:Nat) (SX:List AV) (ps:List Pv):ψ nt f24 (Yg l b mn SX (mn,ps)) (.exit 0) (moX SX ps):=by
 cases ps with
 |nil=>exact WG a l b mn SX
 |cons q r=>exact WF a l b mn SX (q::r).length (q::r)
theorem NT (l:List (List Int)) (h:Bool) (mn:Nat) (SX:List AV) (d:0<mn) (b:mn≤8) (e:mn≤l.length):∀ (rem k:Nat) (ps:List Pv),k+rem=mn→ps.length=k→yZ mn ps→
  ∃ a:List Pv,a.length=mn∧yZ mn a∧∀ nt,140≤nt→aN prog ap [] nt (ah 0 (af f24)) (fun _=> .exit 0) (Yg l h mn SX) (moX SX) (k,ps) a
 |0,k,ps,i,hps,hok=>by
  have i:k=mn:=by omega
  subst i;exact ⟨ps,hps,hok,fun nt f=> .done (Ti f l h k SX ps)⟩
 |rem+1,k,ps,i,hps,hok=>by
  obtain ⟨p,j,m⟩:=Tj l h mn SX d b e k ps (by omega) hps;obtain ⟨a,n,q,o⟩:=NT l h mn SX d b e rem (k+1) (ps++ [p]) (by omega) (by simp [hps]) (hok.snoc j hps);exact ⟨a,n,q,fun nt f=> .next (a':=(k+1,ps++ [p])) (m nt f) (o nt f)⟩
theorem Lt:∀ ps:List Pv,QF (vN ps) (f_ ps)
 | []=> .nil
 |_::ps=> .same (.same (.same (.same (.sl (.same (.same (.same (.same (.same (.same (.same (Lt ps))))))))))))
theorem S9 (l:List (List Int)) (b:Bool) (mn:Nat) (a:ω (if ((8:Nat):Int)<(l.length:Int) then ((8:Nat):Int) else (l.length:Int))= ω (mn:Int)) (d:CO 61 [ω (l.length:Int),ω 2] (.ret (ω 0)))
  (l1:LB 140 0 f24 (Qk (.sl (kW l) l.length b) mn [.str [115],ω 1,ω 0,.sl zcc2_1 2 true] [.str [115],ω 1,ω 0,.sl zcc2_1 2 true]) (.normal) (OH [.str [115],ω 1,ω 0,.sl zcc2_1 2 true])):CO 24 [.sl (kW l) l.length b] (.ret (.agg [.sl [.str [120],.bool false,ω 1,ω 0] 1 true,.sl [.str [115],ω 1,ω 0,.sl zcc2_1 2 true] 1 true,.nilS])):=by
 exact pK [0] 0 0 (.n 19 .nil) (.l l1 (.v 36 (.eq a) (.c Zv (.c d (.c Au .nil)))))
theorem SY (l:List (List Int)) (d:Bool) (mn:Nat) (a:Nat) (ps:List Pv) (f:ps.length=a) (b:ω (if ((8:Nat):Int)<(l.length:Int) then ((8:Nat):Int) else (l.length:Int))= ω (mn:Int)) (e:CO 61 [ω (l.length:Int),ω 2] (.ret (ω 0)))
  (l1:LB 140 0 f24 (Qk (.sl (kW l) l.length d) mn [.str [115],ω 1,ω 0,.sl zcc2_1 2 true] [.str [115],ω 1,ω 0,.sl zcc2_1 2 true]) (.normal) (OI [.ref 2 0 0 1,.ref 3 0 0 1,.ref 4 0 0 a] [.str [115],ω 1,ω 0,.sl zcc2_1 2 true] (vN ps))):CO 24 [.sl (kW l) l.length d] (.ret (.agg [.sl [.str [120],.bool false,ω 1,ω 0] 1 true,.sl [.str [115],ω 1,ω 0,.sl zcc2_1 2 true] 1 true,.sl (Xqk (a*12) (vN ps)) a true])):=by
 exact pK [0] 0 0 (.n 19 .nil) (.l l1 (.v 36 (.eq b) (.c Zv (.c e (.c Au .nil)))))
theorem NU (l:List (List Int)) (a:Bool) (mn:Nat):AM.norm 0 [0,2,3,4,6,7] (Qk (.sl (kW l) l.length a) mn [.str [115],ω 1,ω 0,.sl zcc2_1 2 true] [.str [115],ω 1,ω 0,.sl zcc2_1 2 true])=Yg l a mn [.str [115],ω 1,ω 0,.sl zcc2_1 2 true] (0,[]):=by kernel_rfl
theorem Tc (l:List (List Int)) (b:Bool) (mn:Nat) (a:ω (if ((8:Nat):Int)<(l.length:Int) then ((8:Nat):Int) else (l.length:Int))= ω (mn:Int)) (d:CO 61 [ω (l.length:Int),ω 2] (.ret (ω 1)))
  (l1:LB 140 0 f24 (Qk (.sl (kW l) l.length b) mn [.str [115],ω 1,ω 0,.sl zcc2_0 2 true] [.str [115],ω 1,ω 0,.sl zcc2_0 2 true]) (.normal) (OH [.str [115],ω 1,ω 0,.sl zcc2_0 2 true])):CO 24 [.sl (kW l) l.length b] (.ret (.agg [.sl [.str [120],.bool false,ω 1,ω 0] 1 true,.sl [.str [115],ω 1,ω 0,.sl zcc2_0 2 true] 1 true,.nilS])):=by
 exact pK [0] 0 0 (.n 19 .nil) (.l l1 (.v 36 (.eq a) (.c Zw (.c d (.c Au .nil)))))
theorem S_ (l:List (List Int)) (d:Bool) (mn:Nat) (a:Nat) (ps:List Pv) (f:ps.length=a) (b:ω (if ((8:Nat):Int)<(l.length:Int) then ((8:Nat):Int) else (l.length:Int))= ω (mn:Int)) (e:CO 61 [ω (l.length:Int),ω 2] (.ret (ω 1)))
  (l1:LB 140 0 f24 (Qk (.sl (kW l) l.length d) mn [.str [115],ω 1,ω 0,.sl zcc2_0 2 true] [.str [115],ω 1,ω 0,.sl zcc2_0 2 true]) (.normal) (OI [.ref 2 0 0 1,.ref 3 0 0 1,.ref 4 0 0 a] [.str [115],ω 1,ω 0,.sl zcc2_0 2 true] (vN ps))):CO 24 [.sl (kW l) l.length d] (.ret (.agg [.sl [.str [120],.bool false,ω 1,ω 0] 1 true,.sl [.str [115],ω 1,ω 0,.sl zcc2_0 2 true] 1 true,.sl (Xqk (a*12) (vN ps)) a true])):=by
 exact pK [0] 0 0 (.n 19 .nil) (.l l1 (.v 36 (.eq b) (.c Zw (.c e (.c Au .nil)))))
theorem NV (l:List (List Int)) (a:Bool) (mn:Nat):AM.norm 0 [0,2,3,4,6,7] (Qk (.sl (kW l) l.length a) mn [.str [115],ω 1,ω 0,.sl zcc2_0 2 true] [.str [115],ω 1,ω 0,.sl zcc2_0 2 true])=Yg l a mn [.str [115],ω 1,ω 0,.sl zcc2_0 2 true] (0,[]):=by kernel_rfl
def fxQ:List AV:= [.str [120],.bool false,ω 1,ω 0]
theorem WB (l:List (List Int)) (b:Bool):∃ (L:Lw) (cc:Bool),L.ps.length=Min.min 8 l.length∧yZ (Min.min 8 l.length) L.ps∧CO 24 [.sl (kW l) l.length b] (.ret (.agg (L.c true true cc))):=by
 obtain ⟨mn,m⟩:∃ mn,mn=Min.min 8 l.length:=⟨_,rfl⟩
 have d:ω (if ((8:Nat):Int)<(l.length:Int) then ((8:Nat):Int) else (l.length:Int))= ω ((mn:Nat):Int):=by
  congr 1;split<;>omega
 obtain ⟨q,o,n⟩:=WH (l.length:Int) 2 (by omega) (by omega);rw [← m];have loop:∀ SX,∃ ps2:List Pv,ps2.length=mn∧yZ mn ps2∧∀ nt,140≤nt→aN prog ap [] nt (ah 0 (af f24)) (fun _=> .exit 0) (Yg l b mn SX) (moX SX) (0,[]) ps2:=fun SX=>by
  rcases Nat.eq_zero_or_pos mn with h0|h0
  ·subst h0;exact ⟨[],rfl,(fun k p h=>by simp at h),fun nt e=> .done (Ti e l b 0 SX [])⟩
  ·exact NT l b mn SX h0 (by omega) (by omega) mn 0 [] (by omega) rfl (fun k p h=>by simp at h)
 match q,o with
 | 0,_=>
  obtain ⟨ps,i,j,r⟩:=loop [.str [115],ω 1,ω 0,.sl zcc2_1 2 true];have f:=aN.blk (id:=0) (e':= .normal) (fun nt (e:140≤nt)=>r nt e) (by simp) rfl (aH.refl _) (aH.refl _);cases ps with
  |nil=>
   refine ⟨⟨fxQ,1,[.str [115],ω 1,ω 0,.sl zcc2_1 2 true],1,[]⟩,false,i,j, ?_⟩;have h:=S9 l b mn d n (fun nt a=>(f nt a).tidy [0,2,3,4,6,7] (NU l b mn) rfl);exact h.out (kK.ret rfl rfl (bF.agg (.cons (bF.eq rfl) (.cons (bF.eq rfl) (.cons (bF.nilS false rfl) .nil)))))
  |cons p ps=>
   refine ⟨⟨fxQ,1,[.str [115],ω 1,ω 0,.sl zcc2_1 2 true],1,p::ps⟩,true,i,j, ?_⟩;have h:=SY l b mn (p::ps).length (p::ps) rfl d n (fun nt a=>(f nt a).tidy [0,2,3,4,6,7] (NU l b mn) rfl);rw [Xqr (by rw [He rfl];exact ζ _)] at h;exact h.out (kK.ret rfl rfl (bF.agg (.cons (bF.eq rfl) (.cons (bF.eq rfl) (.cons (bF.slP (Lt (p::ps))) .nil)))))
 | 1,_=>
  obtain ⟨ps,i,j,r⟩:=loop [.str [115],ω 1,ω 0,.sl zcc2_0 2 true];have f:=aN.blk (id:=0) (e':= .normal) (fun nt (e:140≤nt)=>r nt e) (by simp) rfl (aH.refl _) (aH.refl _);cases ps with
  |nil=>
   refine ⟨⟨fxQ,1,[.str [115],ω 1,ω 0,.sl zcc2_0 2 true],1,[]⟩,false,i,j, ?_⟩;have h:=Tc l b mn d n (fun nt a=>(f nt a).tidy [0,2,3,4,6,7] (NV l b mn) rfl);exact h.out (kK.ret rfl rfl (bF.agg (.cons (bF.eq rfl) (.cons (bF.eq rfl) (.cons (bF.nilS false rfl) .nil)))))
  |cons p ps=>
   refine ⟨⟨fxQ,1,[.str [115],ω 1,ω 0,.sl zcc2_0 2 true],1,p::ps⟩,true,i,j, ?_⟩;have h:=S_ l b mn (p::ps).length (p::ps) rfl d n (fun nt a=>(f nt a).tidy [0,2,3,4,6,7] (NV l b mn) rfl);rw [Xqr (by rw [He rfl];exact ζ _)] at h;exact h.out (kK.ret rfl rfl (bF.agg (.cons (bF.eq rfl) (.cons (bF.eq rfl) (.cons (bF.slP (Lt (p::ps))) .nil)))))
def eqD (x c:Cl):Bool:=((x.1==c.1) && ((x.2==c.2) && true))
theorem Np {x c:Cl}:eqD x c=decide (x=c):=by
 unfold eqD;rw [Xj0];simp only [Xzy,ε,beq_iff_eq,decide_eq_true_eq];exact ⟨fun h=>Xwx h.1 h.2,fun h=>h ▸ ⟨rfl,rfl⟩⟩
def hsS (l:List Cl) (nn:Bool) (c:Cl) (k:Nat):St:=⟨[(0,.sl (cL l) l.length nn),(3,.ptr 0 0 0),(5,ω (k:Int))],[(0,⟨[ω c.1,ω c.2],0,false,0,0,true⟩)],.dead,[]⟩
theorem ajc {nt:Nat} (j:18≤nt) (l p r:List Cl) (nn:Bool) (c x:Cl) (b:l=p++x::r) (i:l.length<2^40) (h:eqD x c=true):ψ nt f29 (hsS l nn c p.length) .ret (J4 (.bool true)):=by
 have e:=bI (f:=cC) (n:=2) (fun _=>rfl) b;change κ _ (cL l)=cC x++cL r at e;have a:p.length<l.length:=jm b;have m:p.length<2^62:=by omega
 have d:(decide ((p.length:Int)<(l.length:Int)))=true:=kl a;clear b;generalize p.length=k at*
 exact pN 29 [] 2 3 (.c (aQ h) (.k 5 d (.c (aQ d) .nil))) (.v 14 (.ppt e) .nil) j
theorem ajb {nt:Nat} (m:18≤nt) (l p r:List Cl) (nn:Bool) (c x:Cl) (b:l=p++x::r) (j:l.length<2^40) (i:eqD x c=false):ψ nt f29 (hsS l nn c p.length) .normal (hsS l nn c (p.length+1)):=by
 have e:=bI (f:=cC) (n:=2) (fun _=>rfl) b;change κ _ (cL l)=cC x++cL r at e;have a:p.length<l.length:=jm b;have h:p.length<2^62:=by omega
 have d:(decide ((p.length:Int)<(l.length:Int)))=true:=kl a;clear b;generalize p.length=k at*
 exact pN 29 [] 2 1 (.c (aX i) (.k 5 d (.c (aQ d) .nil))) (.v 11 (.eq (wpS h)) (.v 14 (.ppt e) .nil)) m
theorem aja {nt:Nat} (b:18≤nt) (l:List Cl) (nn:Bool) (c:Cl):ψ nt f29 (hsS l nn c l.length) (.exit 0) HY:=by
 have a:(decide ((l.length:Int)<(l.length:Int)))=false:=kn (ζ _);exact pN 29 [] 1 0 (.c (aX a) .nil) .nil b
theorem NI {nt:Nat} (f:18≤nt) (l:List Cl) (nn:Bool) (c:Cl) (d:l.length<2^40):∀ (r p:List Cl),l=p++r→aN prog ap [] nt (ah 0 (af f29)) (fun b:Bool=>if b then .ret else .exit 0) (hsS l nn c) (fun b:Bool=>if b then (J4 (.bool true)) else HY) p.length (decide (c ∈ r))
 | [],p,h=>by
  rw [μ] at h;subst h;exact .done (aja f l nn c)
 | x::r,p,h=>by
  cases a:eqD x c with
  |true=>
   have e:decide (c ∈ x::r)=true:=by rw [Np] at a;simp at a;simp [a]
   rw [e];exact .done (ajc f l p r nn c x h d a)
  | false=>
   have e:decide (c ∈ x::r)=decide (c ∈ r):=by
    rw [Np] at a;simp only [decide_eq_false_iff_not] at a;rw [decide_eq_decide,Xqo];exact ⟨fun h=>h.resolve_left fun h=>a h.symm,.inr⟩
   rw [e];have i:=NI f l nn c d r (p++ [x]) (by rw [h];simp);rw [show (p++ [x]).length=p.length+1 by simp] at i;exact .next (a':=p.length+1) (ajb f l p r nn c x h d a) i
theorem KW (l:List Cl) (nn:Bool) (c:Cl) (f:l.length<2^40):CO 29 [.sl (cL l) l.length nn,cA c] (.ret (.bool (decide (c ∈ l)))):=by
 have d:=fun nt (hn:18≤nt)=>NI hn l nn c f l [] rfl
 cases h:decide (c ∈ l) with
 |true=>
  rw [h] at d;have b:=aN.blk (id:=0) (e':= .ret) d (by simp) rfl (aH.refl _) (aH.refl _);unfold hsS at b;have e:LB 18 0 f29 (ZJ (.sl (cL l) l.length nn) (.agg [ω c.1,ω c.2]) [ω c.1,ω c.2]) (.ret) (J4 (.bool true)):=(fun nt a=>(b nt a).weak (aH.of ⟨rfl,rfl,rfl,trivial⟩) (aH.refl _))
  exact pK [0] 0 0 .nil (.l e .nil)
 |false=>
  rw [h] at d;have b:=aN.blk (id:=0) (e':= .normal) d (by simp) rfl (aH.refl _) (aH.refl _);unfold hsS at b;have e:LB 18 0 f29 (ZJ (.sl (cL l) l.length nn) (.agg [ω c.1,ω c.2]) [ω c.1,ω c.2]) (.normal) HY:=(fun nt a=>(b nt a).weak (aH.of ⟨rfl,rfl,rfl,trivial⟩) (aH.refl _))
  exact pK [0] 0 0 .nil (.l e .nil)
theorem abh {L:Lw} {s:Int} {fr:List Cl} {c:Cl}:c ∈ bW L s fr↔aC s L.ps.length c=true∧FV (ku L s) (aC s L.ps.length) fr c:=by
 classical
 unfold bW;rw [Xq7,gq,decide_eq_true_eq]
theorem Vj {L:Lw} {s:Int} {c d:Cl}:c ∈ ku L s d↔aC s L.ps.length c=true∧d ∈ fC L s c:=by
 unfold ku;rw [Xq7,gq,decide_eq_true_eq]
theorem JA (L:Lw) (s:Int) (w:Cl):∀ bd:List Nd,(r_ L s w bd).length≤bd.countP PY
 | []=>by simp [r_]
 | x ::bd=>by
  have d:=JA L s w bd;unfold r_ at d ⊢;rw [List.filterMap_cons,Xwm];cases a:rD L s w x with
  |none=>simp only;omega
  | some y=>
   have b:PY x=true:=by
    unfold rD at a;unfold PY;by_cases h6:(x.op==((6:Nat):Int))=true
    ·have:(x.op==6)=true:=h6;simp [this]
    ·by_cases h8:(x.op==((8:Nat):Int))=true
     ·have:(x.op==8)=true:=h8;simp [this]
     ·rw [if_neg h6,if_neg h8] at a;simp at a
   simp only [τ,b,if_true];omega
theorem WC {L:Lw} {mn:Nat} (f:L.ps.length≤8) (h:yZ mn L.ps):vZ L:=by
 refine ⟨by omega,fun p hp=> ?_⟩;obtain ⟨k,b⟩:=Xq1 hp;obtain ⟨e,d,a⟩:=(h k p b).body;rw [d];refine ⟨?_,fun s w=>Xqg (JA L s w _) ?_⟩
 ·have:=a.len;simp only [τ];omega
 ·have:=a.cnt;rw [Xwm];have:PY ⟨5,false,[],[],[120]⟩=false:=rfl;rw [this];simp;omega
theorem abg (L:Lw) (s:Int) (fr:List Cl):(bW L s fr).length≤L.ps.length+L.ps.length:=by
 unfold bW;exact Xqg (Xqp _ _) (fE _ _)
theorem P8 (L:Lw) (a b c:Bool) (s:Int) (fr:List Cl) (h:Bool) (t:vZ L) (E:L.ps.length<2^34) (o:fr.length<2^40) (A:ak s L.ps.length= []):CO 22 [.agg (L.c a b c),ω s,.sl (cL fr) fr.length h] (.ret .nilS):=by
 have z:∀ x ∈ dw L s (ak s L.ps.length),x.2.length≤12:=fun x r=>by
  unfold dw at r;obtain ⟨y,_,rfl⟩:=List.mem_map.1 r;exact lu t s y
 have q:(dw L s (ak s L.ps.length)).length≤L.ps.length+L.ps.length:=by
  unfold dw;rw [Xxa];exact fE s _
 have B:=fE s L.ps.length;have m:∀ done:List Nat,done.Nodup→(∀ i,i ∈ done↔i<(dw L s (ak s L.ps.length)).length)→∀ d,fr.foldl (kJ (dh (dO (dw L s (ak s L.ps.length)) done)) (aC s L.ps.length) ((ak s L.ps.length).length+1)) []=d→LB 60 4 f22 (W9 L a b c s fr h ((dO (dw L s (ak s L.ps.length)) done).map fun x=>cA x.1) (xP (dO (dw L s (ak s L.ps.length)) done)) 0 [] []) .normal (rlE L a b c s ((dO (dw L s (ak s L.ps.length)) done).map fun x=>cA x.1) (xP (dO (dw L s (ak s L.ps.length)) done)) (d.map cA) (zS d)):=fun done e l d f=>by
  have u:∀ x,(dh (dO (dw L s (ak s L.ps.length)) done) x).length<2^40:=fun x=>by
   have D:=(tY _ 12 z x done).1;rw [yG e l] at D;omega
  have:=aN.blk (id:=4) (e':= .normal) (fun nt (k:60≤nt)=>Hm k L a b c s fr h (dO (dw L s (ak s L.ps.length)) done) u ((ak s L.ps.length).length+1) o fr [] [] rfl (Nat.lt_succ_of_le (Xqp _ _))) (by simp) rfl (aH.refl _) (aH.refl _);rw [f] at this;exact this
 have j:=BC L a b c s (by omega);rw [A] at j;refine (TU L a b c s fr h (TV L a b c s fr h t E o rfl fun done e l nt k=> ?_));obtain ⟨d,f⟩:∃ d,fr.foldl (kJ (dh (dO (dw L s (ak s L.ps.length)) done)) (aC s L.ps.length) ((ak s L.ps.length).length+1)) []=d:=⟨_,rfl⟩
 have p:=m done e l d f;unfold W9 rlE at p;exact ajT k L a b c s fr h _ _ (d.map cA) (zS d) j (VQ _ _) (fun nt n=>(p nt n).weak (aH.of ⟨rfl,rfl,rfl,rfl,rfl,rfl,rfl,rfl,trivial⟩) (aH.refl _))
theorem MZ:∀ l:List Cl,(cL l).all AM.bare=true
 | []=>rfl
 |x::l=>by
  have h:=MZ l;unfold cL at h ⊢;rw [Xqa,List.all_append,h];rfl
theorem LC (L:Lw) (a b c:Bool) (s:Int) (fr:List Cl) (j:vZ L) (l:L.ps.length<2^34) (f:fr.length<2^40) (C:List AV) (n:Nat) (q:C=cL fr) (m:n=fr.length):ae prog ap 22 [.agg (L.c a b c),ω s,.ref 0 0 0 n] [⟨C,0,false,0,2,true⟩] (.ret (.sl (cL (bW L s fr)) (bW L s fr).length false)) [⟨C,0,false,0,2,true⟩]:=by
 subst q m;have k:fP (frz (ax [⟨cL fr,0,false,0,2,true⟩]) 6) [.agg (L.c a b c),ω s,.ref 0 0 0 fr.length]=some [.agg (L.c a b c),ω s,.sl (cL fr) fr.length true]:=by
  have e:((cL fr).drop (0*2)).take (fr.length*2)=cL fr:=by rw [Xjp,Xzq,Xqr (by rw [dF];exact ζ _)]
  have h:fP (frz (ax [⟨cL fr,0,false,0,2,true⟩]) 6) [.agg (L.c a b c),ω s,.ref 0 0 0 fr.length]=some [.agg (L.c a b c),ω s,.sl (((cL fr).drop (0*2)).take (fr.length*2)) fr.length true]:=rfl;rw [e] at h;exact h
 cases d:ak s L.ps.length with
 |nil=>
  have p:bW L s fr= []:=by unfold bW;rw [d];rfl
  rw [p];have h:=ae.lend k rfl (P8 L a b c s fr true j l f d);exact h.out (kK.ret rfl rfl (bF.nilS false rfl))
 |cons o os=>
  have h:=ae.lend k (by show ((cL (bW L s fr)).all AM.bare && !(Δ 2 dJ))=true;rw [MZ];rfl) (tN L a b c s fr true j l f o os d);have i:=h.thaw (by simp);have e:(cL (bW L s fr)).take ((bW L s fr).length*2)=cL (bW L s fr):=by rw [← dF,Xjj]
  simp only [uQ,thaw,e] at i;exact i.out (kK.ret rfl rfl (bF.sl _ _ _))
end Go.Proofs.Tryz
set_option maxRecDepth 100000
set_option linter.unusedVariables false
set_option linter.unusedSectionVars false
namespace Go.Proofs.Tryz
section
variable {α:Type} [DecidableEq α]
inductive Rt (w:α→List α):α→α→Prop
 |refl (x:α):Rt w x x
 |tail {x y z:α}:Rt w x y→z ∈ w y→Rt w x z
theorem Rt.trans {w:α→List α} {x y z:α} (h:Rt w x y) (a:Rt w y z):Rt w x z:=by
 induction a with
 |refl=>exact h
 |tail _ h3 ih=>exact ih.tail h3
theorem Rt.one {w:α→List α} {x y:α} (h:y ∈ w x):Rt w x y:=(Rt.refl x).tail h
theorem Rt.head {w:α→List α} {x z:α} (h:Rt w x z):x=z∨∃ y,y ∈ w x∧Rt w y z:=by
 induction h with
 |refl=>exact .inl rfl
 |@tail y z h1 h2 ih=>
  rcases ih with e|⟨u,a,b⟩
  ·subst e;exact .inr ⟨_,h2,.refl _⟩
  ·exact .inr ⟨u,a,b.tail h2⟩
structure TS (α:Type) where
 ord:List α
 low:List Nat
 stack:List α
 out:List (List α × Bool)
def bV (s:TS α) (x:α):Nat:=s.ord.idxOf x+1
def bY (s:TS α) (x:α):Nat:=s.low.getD (s.ord.idxOf x) 0
def iY (s:TS α) (c:α) (v:Nat):TS α:={s with low:=s.low.set (s.ord.idxOf c) v}
def bK (c:α) (s:TS α):TS α:=⟨s.ord++ [c],s.low++ [s.ord.length+1],s.stack++ [c],s.out⟩
def bM (v:α→TS α→TS α) (c:α) (s:TS α) (d:α):TS α:=
 if d ∈ s.ord then (if d ∈ s.stack then iY s c (min (bY s c) (bV s d)) else s)
 else iY (v d s) c (min (bY (v d s) c) (bY (v d s) d))
def dL (w:α→List α) (srt:List α→List α) (c:α) (s:TS α):TS α:=
 if bY s c=bV s c then {s with stack:=s.stack.take (s.stack.idxOf c),out:=s.out++ [(srt (s.stack.drop (s.stack.idxOf c)),decide (1<(s.stack.drop (s.stack.idxOf c)).length)||decide (c ∈ w c))]}
 else s
def aK (w:α→List α) (srt:List α→List α):Nat→α→TS α→TS α
 |0,_,s=>s
 |f+1,c,s=>dL w srt c ((w c).foldl (bM (aK w srt f) c) (bK c s))
structure iR (w:α→List α) (s:TS α) (g:List α):Prop where
 nd:s.ord.Nodup
 ll:s.low.length=s.ord.length
 sub:s.stack.Sublist s.ord
 gs:∀ x ∈ g,x ∈ s.stack
 blk:∀ x ∈ s.ord,x ∉ g→∀ y ∈ w x,y ∈ s.ord
 up:∀ x ∈ s.stack,∃ y ∈ g,bV s y≤bV s x∧Rt w x y
 dn:∀ x ∈ g,∀ y ∈ s.stack,bV s x≤bV s y→Rt w x y
 outs:∀ x,(x ∈ s.ord∧x ∉ s.stack)↔∃ C ∈ s.out,x ∈ C.1
 ond:(s.out.flatMap (·.1)).Nodup
 scc:∀ C ∈ s.out,∀ x ∈ C.1,∀ y,y ∈ C.1↔(Rt w x y∧Rt w y x)
 top:∀ (i:Nat) (C:List α × Bool),s.out[i]? =some C→∀ x ∈ C.1,∀ y ∈ w x,∃ (j:Nat) (D:List α × Bool),j≤i∧s.out[j]? =some D∧y ∈ D.1
 circ:∀ C ∈ s.out,C.2=true↔∃ x ∈ C.1,∃ y ∈ C.1,y ∈ w x
 ne:∀ C ∈ s.out,C.1 ≠ []
theorem iR.low {w:α→List α} {s:TS α} {g:List α} (h:iR w s g) (c:α) (v:Nat):iR w (iY s c v) g:=
 ⟨h.nd,by simp [iY,h.ll],h.sub,h.gs,h.blk,h.up,h.dn,h.outs,h.ond,h.scc,h.top,h.circ,h.ne⟩
theorem Jn {s:TS α} {c:α} (b:s.low.length=s.ord.length) (a:c ∈ s.ord) (v:Nat):bY (iY s c v) c=v:=by
 unfold bY iY;have:s.ord.idxOf c<s.low.length:=by rw [b];exact Xqs a
 simp [γ,this]
theorem Wp {l:List α} {x y:α} (a:x ∈ l) (h:l.idxOf x=l.idxOf y):x=y:=by
 have b:=Xqs a;have e:l[l.idxOf x]=x:=Xzf b;have d:l.idxOf y<l.length:=by omega
 have f:l[l.idxOf y]=y:=Xzf d;rw [← e,← f];simp only [h]
theorem NR {s:TS α} {c x:α} (a:x ∈ s.ord) (b:x ≠ c) (v:Nat):bY (iY s c v) x=bY s x:=by
 unfold bY iY;have:s.ord.idxOf c ≠ s.ord.idxOf x:=fun e=>b (Wp a e.symm)
 simp [γ,this]
theorem wX {l t:List α} {x:α} (h:x ∈ l):(l++t).idxOf x=l.idxOf x:=by rw [Xzn,if_pos h]
theorem wY {l t:List α} {x:α} (h:x ∉ l):(l++x::t).idxOf x=l.length:=by rw [Xzn,if_neg h,Xzw];simp
theorem abG {o A B:List α} {x c:α} (j:o.Nodup) (h:(A++c::B).Sublist o) (f:x ∈ A):o.idxOf x<o.idxOf c:=by
 obtain ⟨e,l,rfl,i,k⟩:=List.append_sublist_iff.1 h;have a:x ∈ e:=i.mem f;have b:c ∈ l:=k.mem List.mem_cons_self;have d:c ∉ e:=fun h=>(List.nodup_append.1 j).2.2 c h c b rfl
 rw [wX a,Xzn,if_neg d];have:=Xqs a;omega
theorem U4 {o A B:List α} {x c:α} (b:o.Nodup) (h:(A++c::B).Sublist o) (a:x ∈ B):o.idxOf c<o.idxOf x:=by
 obtain ⟨B1,B2,rfl⟩:=List.append_of_mem a;have:(A++c::(B1++x::B2))=((A++c::B1)++x::B2):=by simp
 rw [this] at h;exact abG b h (by simp)
structure qW (w:α→List α) (g:List α) (c:α) (s s':TS α):Prop where
 inv:iR w s' g
 ordE:∃ t,s'.ord=s.ord++c::t
 stE:∃ u,s'.stack=s.stack++u∧∀ x ∈ u,∀ y ∈ w x,y ∈ s.stack→bY s' c≤bV s y
 lowE:∀ x ∈ s.ord,bY s' x=bY s x
 lc:bY s' c≤s.ord.length+1
 lx:bY s' c=s.ord.length+1∨∃ y ∈ s.stack,bV s y=bY s' c∧Rt w c y
structure wu (w:α→List α) (g:List α) (c:α) (s0 s:TS α) (done:List α):Prop where
 inv:iR w s (g++ [c])
 ordE:∃ t,s.ord=s0.ord++c::t
 stE:∃ u,s.stack=s0.stack++c::u∧∀ x ∈ u,∀ y ∈ w x,y ∈ s0.stack→bY s c≤bV s0 y
 lowE:∀ x ∈ s0.ord,bY s x=bY s0 x
 lc:bY s c≤s0.ord.length+1
 lx:bY s c=s0.ord.length+1∨∃ y ∈ s0.stack,bV s0 y=bY s c∧Rt w c y
 dn:∀ d ∈ done,d ∈ s.ord∧(d ∈ s0.stack→bY s c≤bV s0 d)
theorem Dj {w:α→List α} {g:List α} {c:α} {s:TS α} (h:iR w s g) (l:c ∉ s.ord) (q:∀ x ∈ g,Rt w x c):wu w g c s (bK c s) []:=by
 have r:c ∉ s.stack:=fun hm=>l (h.sub.mem hm)
 have k:bY (bK c s) c=s.ord.length+1:=by
  unfold bY bK;rw [wY l,← h.ll];simp
 have d:∀ x ∈ s.ord,bV (bK c s) x=bV s x:=fun x a=>by unfold bV bK;rw [wX a]
 have j:bV (bK c s) c=s.ord.length+1:=by unfold bV bK;rw [wY l]
 have m:∀ x ∈ s.ord,bV s x<s.ord.length+1:=fun x a=>by unfold bV;have:=Xqs a;omega
 refine ⟨⟨?_,by simp [bK,h.ll],h.sub.append (List.Sublist.refl _), ?_, ?_, ?_, ?_, ?_,h.ond,h.scc,h.top,h.circ,h.ne⟩,⟨[],rfl⟩,⟨[],rfl,by simp⟩, ?_,by omega,.inl k,by simp⟩
 ·show (s.ord++ [c]).Nodup;rw [Xq6];exact ⟨h.nd,by simp,fun x a y b e=>by simp at b;subst b;subst e;exact l a⟩
 ·intro x a;show x ∈ s.stack++ [c]
  simp at a ⊢;rcases a with a|a
  ·exact .inl (h.gs x a)
  ·exact .inr a
 ·intro x a o y b;show y ∈ s.ord++ [c]
  have a:x ∈ s.ord++ [c]:=a;simp at a o ⊢;rcases a with a|a
  ·exact .inl (h.blk x a o.1 y b)
  ·exact absurd a o.2
 ·intro x a;have a:x ∈ s.stack++ [c]:=a;rcases List.mem_append.1 a with a|a
  ·obtain ⟨y,f,n,p⟩:=h.up x a;exact ⟨y,Xx0 _ f,by rw [d y (h.sub.mem (h.gs y f)),d x (h.sub.mem a)];exact n,p⟩
  ·rw [χ] at a;subst a;exact ⟨x,by simp,ζ _,.refl _⟩
 ·intro x a y b i;have b:y ∈ s.stack++ [c]:=b;rcases List.mem_append.1 a with hxg|a
  ·rcases List.mem_append.1 b with b|b
   ·rw [d y (h.sub.mem b),d x (h.sub.mem (h.gs x hxg))] at i;exact h.dn x hxg y b i
   ·rw [χ] at b;exact b ▸ q x hxg
  ·rw [χ] at a;subst a;rcases List.mem_append.1 b with b|b
   ·rw [d y (h.sub.mem b),j] at i;have:=m y (h.sub.mem b);omega
   ·rw [χ] at b;subst b;exact .refl _
 ·intro x;show (x ∈ s.ord++ [c]∧x ∉ s.stack++ [c])↔∃ C ∈ s.out,x ∈ C.1;rw [← h.outs];simp;constructor
  ·rintro ⟨f|f,n,p⟩
   ·exact ⟨f,n⟩
   ·exact absurd f p
  ·rintro ⟨f,n⟩
   exact ⟨.inl f,n,fun e=>l (e ▸ f)⟩
 ·intro x a;unfold bY bK;have:s.ord.idxOf x<s.low.length:=by rw [h.ll];exact Xqs a
  rw [wX a];simp only [γ,υ this]
theorem DX {w:α→List α} {g:List α} {c:α} {s0 s:TS α} {done:List α} {v:α→TS α→TS α} (h0:iR w s0 g) (F:c ∉ s0.ord) (h:wu w g c s0 s done) (R:∀ x ∈ g,Rt w x c) {d:α} (J:d ∈ w c)
  (hv:d ∉ s.ord→qW w (g++ [c]) d s (v d s)):wu w g c s0 (bM v c s d) (done++ [d]):=by
 obtain ⟨t,n⟩:=h.ordE;obtain ⟨u,z,q⟩:=h.stE;have r:c ∈ s.ord:=by rw [n];simp
 have i:∀ x ∈ s0.ord,bV s x=bV s0 x:=fun x b=>by unfold bV;rw [n,wX b]
 have K:bV s c=s0.ord.length+1:=by unfold bV;rw [n,wY F]
 have p:∀ x ∈ s0.stack,x ∈ s.stack:=fun x b=>by rw [z];simp [b]
 have o:∀ y ∈ s.stack,bV s y<s0.ord.length+1→y ∈ s0.stack:=fun y f T=>by
  rw [z] at f;rcases List.mem_append.1 f with f|f
  ·exact f
  ·have hs:=h.inv.sub;rw [z] at hs;rcases List.mem_cons.1 f with e|f
   ·subst e;omega
   ·have:=U4 h.inv.nd hs f;have e:bV s c=s.ord.idxOf c+1:=rfl;have S:bV s y=s.ord.idxOf y+1:=rfl;omega
 unfold bM;by_cases hdo:d ∈ s.ord
 ·rw [if_pos hdo];by_cases hds:d ∈ s.stack
  ·rw [if_pos hds];have m:bY (iY s c (min (bY s c) (bV s d))) c=min (bY s c) (bV s d):=Jn h.inv.ll r _;refine ⟨h.inv.low _ _,⟨t,n⟩,⟨u,z,fun x b y f k=> ?_⟩,fun x b=> ?_, ?_, ?_,fun e a=> ?_⟩
   ·rw [m];have:=q x b y f k;omega
   ·rw [NR (x:=x) (c:=c) (by rw [n];simp [b]) (fun e=>F (e ▸ b))];exact h.lowE x b
   ·rw [m];have:=h.lc;omega
   ·rw [m];by_cases hm:bY s c≤bV s d
    ·rw [Xz3 hm];exact h.lx
    ·rw [Xvm (by omega)];refine .inr ⟨d,o d hds (by have:=h.lc;omega), ?_,.one J⟩;exact (i d (h0.sub.mem (o d hds (by have:=h.lc;omega)))).symm
   ·rw [m];rcases List.mem_append.1 a with a|a
    ·exact ⟨(h.dn e a).1,fun l=>by have:=(h.dn e a).2 l;omega⟩
    ·rw [χ] at a;subst a;exact ⟨hdo,fun l=>by rw [i e (h0.sub.mem l)];omega⟩
  ·rw [if_neg hds];refine ⟨h.inv,⟨t,n⟩,⟨u,z,q⟩,h.lowE,h.lc,h.lx,fun e a=> ?_⟩;rcases List.mem_append.1 a with a|a
   ·exact h.dn e a
   ·rw [χ] at a;subst a;exact ⟨hdo,fun l=>absurd (p e l) hds⟩
 ·rw [if_neg hdo];have hp:=hv hdo;generalize v d s=s1 at hp ⊢;obtain ⟨P,j⟩:=hp.ordE;obtain ⟨M,I,D⟩:=hp.stE;have H:c ∈ s1.ord:=by rw [j];simp [r]
  have E:d ∈ s1.ord:=by rw [j];simp
  have G:bY s1 c=bY s c:=hp.lowE c r;have m:bY (iY s1 c (min (bY s1 c) (bY s1 d))) c=min (bY s c) (bY s1 d):=by rw [Jn hp.inv.ll H,G]
  have L:s0.ord.length+1≤s.ord.length:=by rw [n];simp
  refine ⟨hp.inv.low _ _,⟨t++d::P,by show s1.ord=_;rw [j,n];simp⟩,⟨u++M,by show s1.stack=_;rw [I,z];simp,fun x b y f k=> ?_⟩,fun x b=> ?_, ?_, ?_,fun e a=> ?_⟩
  ·rw [m];rcases List.mem_append.1 b with b|b
   ·have:=q x b y f k;omega
   ·have:=D x b y f (p y k);rw [i y (h0.sub.mem k)] at this;omega
  ·have A:x ∈ s.ord:=by rw [n];simp [b]
   rw [NR (x:=x) (c:=c) (by rw [j];simp [A]) (fun e=>F (e ▸ b)),hp.lowE x A];exact h.lowE x b
  ·rw [m];have:=h.lc;omega
  ·rw [m];by_cases hm:bY s c≤bY s1 d
   ·rw [Xz3 hm];exact h.lx
   ·rw [Xvm (by omega)];rcases hp.lx with e|⟨y,f,N,Q⟩
    ·have:=h.lc;omega
    ·have B:=o y f (by have:=h.lc;omega);exact .inr ⟨y,B,by rw [← i y (h0.sub.mem B)];exact N,(Rt.one J).trans Q⟩
  ·rw [m];rcases List.mem_append.1 a with a|a
   ·exact ⟨by show e ∈ s1.ord;rw [j];simp [(h.dn e a).1],fun l=>by have:=(h.dn e a).2 l;omega⟩
   ·rw [χ] at a;subst a;exact ⟨E,fun l=>absurd (h.inv.sub.mem (p e l)) hdo⟩
theorem Po {w:α→List α} {A:List α→List α} (H:∀ l,(A l).Perm l) {g:List α} {c:α} {s0 s:TS α} (h0:iR w s0 g) (hc:c ∉ s0.ord) (h:wu w g c s0 s (w c)) (hg:∀ x ∈ g,Rt w x c):qW w g c s0 (dL w A c s):=by
 obtain ⟨t,J⟩:=h.ordE;obtain ⟨u,o,Y⟩:=h.stE;have hco:c ∈ s.ord:=by rw [J];simp
 have p:∀ x ∈ s0.ord,bV s x=bV s0 x:=fun x a=>by unfold bV;rw [J,wX a]
 have hnc:bV s c=s0.ord.length+1:=by unfold bV;rw [J,wY hc]
 have Q:∀ x ∈ s0.ord,bV s0 x<s0.ord.length+1:=fun x a=>by unfold bV;have:=Xqs a;omega
 have h0s:∀ x ∈ s0.stack,x ∈ s.stack:=fun x a=>by rw [o];simp [a]
 have S:c ∉ s0.stack:=fun hm=>hc (h0.sub.mem hm)
 have q:=h.inv.sub;have B:s.stack.Nodup:=q.nodup h.inv.nd;have hge:∀ x ∈ c::u,bV s c≤bV s x:=fun x a=>by
  rcases List.mem_cons.1 a with e|a
  ·subst e;exact ζ _
  ·have hs:=q;rw [o] at hs;have:=U4 h.inv.nd hs a;unfold bV;omega
 have hgc:c ∈ g++ [c]:=by simp
 have hfrom:∀ x ∈ c::u,Rt w c x:=fun x a=>h.inv.dn c hgc x (by rw [o];exact Xjl _ a) (hge x a)
 have hedge:∀ x ∈ c::u,∀ y ∈ w x,y ∈ s.ord∧(y ∈ s0.stack→bY s c≤bV s0 y):=fun x a y b=>by
  rcases List.mem_cons.1 a with e|hxu
  ·subst e;exact h.dn y b
  ·have n:x ∈ s.stack:=by rw [o];simp [hxu]
   have R:x ∉ g++ [c]:=fun hm=>by
    rw [o] at B;have d:=List.nodup_append.1 B;rcases List.mem_append.1 hm with hm|hm
    ·exact d.2.2 x (h0.gs x hm) x (Θ _ hxu) rfl
    ·rw [χ] at hm;subst hm;exact (List.nodup_cons.1 d.2.1).1 hxu
   exact ⟨h.inv.blk x (q.mem n) R y b,Y x hxu y b⟩
 unfold dL;by_cases hl:bY s c=bV s c
 ·rw [if_pos hl];have P:s.stack.idxOf c=s0.stack.length:=by rw [o];exact wY S
  have hdr:s.stack.drop (s.stack.idxOf c)=c::u:=by rw [P,o];simp
  have htk:s.stack.take (s.stack.idxOf c)=s0.stack:=by rw [P,o];simp
  rw [hdr,htk];have hm:∀ x,x ∈ A (c::u)↔x ∈ c::u:=fun x=>(H _).mem_iff
  have T:∀ x ∈ c::u,∀ y ∈ w x,y ∉ s0.stack:=fun x a y b k=>by
   have d:=(hedge x a y b).2 k;have m:=Q y (h0.sub.mem k);omega
  have L:∀ x ∈ c::u,∀ y ∈ w x,y ∈ c::u∨∃ C ∈ s.out,y ∈ C.1:=fun x a y b=>by
   by_cases k:y ∈ s.stack
   ·rw [o] at k;rcases List.mem_append.1 k with k|k
    ·exact absurd k (T x a y b)
    ·exact .inl k
   ·exact .inr ((h.inv.outs y).1 ⟨(hedge x a y b).1,k⟩)
  have hback:∀ x ∈ c::u,Rt w x c:=fun x a=>by
   obtain ⟨z,d,m,r⟩:=h.inv.up x (by rw [o];exact Xjl _ a);rcases List.mem_append.1 d with d|d
   ·exact r.trans (hg z d)
   ·rw [χ] at d;subst d;exact r
  have I:∀ x y,Rt w x y→(∃ C ∈ s.out,x ∈ C.1)→∃ C ∈ s.out,y ∈ C.1:=fun x y hr a=>by
   induction hr with
   |refl=>exact a
   |tail d m ih=>
    obtain ⟨C,f,b⟩:=ih;obtain ⟨i,E⟩:=Xq1 f;obtain ⟨j,D,_,hD,hz⟩:=h.inv.top i C E _ b _ m;exact ⟨D,List.mem_of_getElem? hD,hz⟩
  have hreach:∀ x y,Rt w x y→x ∈ c::u→y ∈ c::u∨∃ C ∈ s.out,y ∈ C.1:=fun x y hr a=>by
   induction hr with
   |refl=>exact .inl a
   |tail d m ih=>
    rcases ih with b|b
    ·exact L _ b _ m
    ·exact .inr (I _ _ (.one m) b)
  have N:∀ x ∈ c::u,¬ ∃ C ∈ s.out,x ∈ C.1:=fun x a f=>((h.inv.outs x).2 f).2 (by rw [o];exact Xjl _ a)
  have G:∀ x ∈ c::u,∀ y,y ∈ c::u↔(Rt w x y∧Rt w y x):=fun x a y=>by
   constructor
   ·exact fun b=> ⟨(hback x a).trans (hfrom y b),(hback y b).trans (hfrom x a)⟩
   ·rintro ⟨d,m⟩
    rcases hreach x y d a with b|b
    ·exact b
    ·exact absurd (I y x m b) (N x a)
  refine ⟨⟨h.inv.nd,h.inv.ll, ?_,h0.gs, ?_, ?_, ?_, ?_, ?_, ?_, ?_, ?_, ?_⟩,⟨t,J⟩,⟨[],by simp,by simp⟩,h.lowE,h.lc,.inl (hl.trans hnc)⟩
  ·show s0.stack.Sublist s.ord;rw [J];exact h0.sub.trans (List.sublist_append_left _ _)
  ·intro x a X y b;have a:x ∈ s.ord:=a;by_cases e:x=c
   ·subst e;exact (h.dn y b).1
   ·exact h.inv.blk x a (by simp [X,e]) y b
  ·intro x a;have a:x ∈ s0.stack:=a;obtain ⟨y,d,m,r⟩:=h0.up x a;refine ⟨y,d, ?_,r⟩;show bV s y≤bV s x;rw [p y (h0.sub.mem (h0.gs y d)),p x (h0.sub.mem a)];exact m
  ·intro x a y b F;have b:y ∈ s0.stack:=b;have F:bV s x≤bV s y:=F;rw [p y (h0.sub.mem b),p x (h0.sub.mem (h0.gs x a))] at F;exact h0.dn x a y b F
  ·intro x;show (x ∈ s.ord∧x ∉ s0.stack)↔∃ C ∈ s.out++ [_],x ∈ C.1;have hns:(s0.stack++c::u).Nodup:=o ▸ B;constructor
   ·rintro ⟨d,m⟩
    by_cases n:x ∈ s.stack
    ·rw [o] at n;rcases List.mem_append.1 n with n|n
     ·exact absurd n m
     ·exact ⟨_,Xjl _ (List.mem_singleton.2 rfl),(hm x).2 n⟩
    ·obtain ⟨C,f,a⟩:=(h.inv.outs x).1 ⟨d,n⟩;exact ⟨C,Xx0 _ f,a⟩
   ·rintro ⟨C,f,a⟩
    rcases List.mem_append.1 f with f|f
    ·obtain ⟨d,m⟩:=(h.inv.outs x).2 ⟨C,f,a⟩;exact ⟨d,fun r=>m (h0s x r)⟩
    ·rw [χ] at f;subst f;have a:=(hm x).1 a;exact ⟨q.mem (by rw [o];exact Xjl _ a),fun r=>(List.nodup_append.1 hns).2.2 x r x a rfl⟩
  ·show ((s.out++ [(A (c::u),decide (1<(c::u).length)||decide (c ∈ w c))]).flatMap (·.1)).Nodup;rw [Xxt,Xq6];refine ⟨h.inv.ond, ?_,fun x a y b e=> ?_⟩
   ·simp only [Xqa,Xj7,μ];rw [(H _).nodup_iff];exact (List.nodup_append.1 (o ▸ B)).2.1
   ·simp only [Xqa,Xj7,μ] at b;subst e;obtain ⟨C,f,a⟩:=List.mem_flatMap.1 a;exact N x ((hm x).1 b) ⟨C,f,a⟩
  ·intro C f x a y;rcases List.mem_append.1 f with f|f
   ·exact h.inv.scc C f x a y
   ·rw [χ] at f;subst f;rw [hm];exact G x ((hm x).1 a) y
  ·intro i C E x a y b;have E:(s.out++ [_])[i]? =some C:=E;by_cases M:i<s.out.length
   ·rw [υ M] at E;obtain ⟨j,D,d,m,r⟩:=h.inv.top i C E x a y b;refine ⟨j,D,d, ?_,r⟩;show (s.out++ [_])[j]? =some D;rw [υ (by omega)];exact m
   ·have Z:=(List.getElem?_eq_some_iff.1 E).1;simp at Z;have e:i=s.out.length:=by omega
    subst e;rw [Xq2 (ζ _)] at E;simp at E;subst E;rcases L x ((hm x).1 a) y b with d|⟨D,hD,d⟩
    ·refine ⟨s.out.length,(A (c::u),decide (1<(c::u).length)||decide (c ∈ w c)),ζ _, ?_,(hm y).2 d⟩;show (s.out++ [_])[s.out.length]? =_;rw [Xq2 (ζ _)];simp
    ·obtain ⟨j,hj⟩:=Xq1 hD;have hjl:=(List.getElem?_eq_some_iff.1 hj).1;refine ⟨j,D,by omega, ?_,d⟩;show (s.out++ [_])[j]? =some D;rw [υ hjl];exact hj
  ·intro C f;rcases List.mem_append.1 f with f|f
   ·exact h.inv.circ C f
   ·rw [χ] at f;subst f;simp only [Xq9,decide_eq_true_eq,τ];constructor
    ·rintro (d|d)
     ·match u,d with
      | [],d=>simp at d
      | z::u,_=>
       have hz:=hfrom z (by simp);rcases hz.head with e|⟨y,m,r⟩
       ·exfalso;rw [o] at B;have:=(List.nodup_append.1 B).2.1;rw [← e] at this;simp at this
       ·refine ⟨c,(hm c).2 (by simp),y,(hm y).2 ((G c (by simp) y).2 ⟨.one m,r.trans (hback z (by simp))⟩),m⟩
     ·exact ⟨c,(hm c).2 (by simp),c,(hm c).2 (by simp),d⟩
    ·rintro ⟨x,a,y,b,d⟩
     rw [hm] at a b
     match u,a,b with
     | [],a,b=>
      rw [χ] at a b;subst a;subst b;exact .inr d
     |z::u,_,_=>exact .inl (by simp)
  ·intro C f;rcases List.mem_append.1 f with f|f
   ·exact h.inv.ne C f
   ·rw [χ] at f;subst f;intro e;have:=(hm c).2 (by simp);have e:A (c::u)= []:=e;rw [e] at this;simp at this
 ·rw [if_neg hl];have M:bY s c<s0.ord.length+1:=by have:=h.lc;omega
  obtain ⟨y0,W,hy1,U⟩:∃ y ∈ s0.stack,bV s0 y=bY s c∧Rt w c y:=by
   rcases h.lx with e|e
   ·omega
   ·exact e
  obtain ⟨z0,K,hz1,hz2⟩:=h0.up y0 W;refine ⟨⟨h.inv.nd,h.inv.ll,q,fun x a=>h.inv.gs x (Xx0 _ a), ?_, ?_,fun x a=>h.inv.dn x (Xx0 _ a),h.inv.outs,h.inv.ond,h.inv.scc,h.inv.top,h.inv.circ,h.inv.ne⟩,⟨t,J⟩,⟨c::u,o,fun x a y b=>(hedge x a y b).2⟩,h.lowE,h.lc,h.lx⟩
  ·intro x a X y b;by_cases e:x=c
   ·subst e;exact (h.dn y b).1
   ·exact h.inv.blk x a (by simp [X,e]) y b
  ·intro x a;obtain ⟨z,d,m,r⟩:=h.inv.up x a;rcases List.mem_append.1 d with d|d
   ·exact ⟨z,d,m,r⟩
   ·rw [χ] at d;subst d;refine ⟨z0,K, ?_,(r.trans U).trans hz2⟩;rw [p z0 (h0.sub.mem (h0.gs z0 K))];omega
theorem xe {w:α→List α} {g:List α} {c:α} {s0:TS α} {v:α→TS α→TS α} (h0:iR w s0 g) (b:c ∉ s0.ord) (a:∀ x ∈ g,Rt w x c)
  (hv:∀ s d,d ∈ w c→iR w s (g++ [c])→(∃ t,s.ord=s0.ord++c::t)→d ∉ s.ord→qW w (g++ [c]) d s (v d s)):∀ (r done:List α) (s:TS α),done++r=w c→wu w g c s0 s done→wu w g c s0 (r.foldl (bM v c) s) (w c)
 | [],done,s,e,h=>by rw [μ] at e;subst e;exact h
 |d::r,done,s,e,h=>by
  have f:d ∈ w c:=by rw [← e];simp
  exact xe h0 b a hv r (done++ [d]) (bM v c s d) (by simp [e]) (DX h0 b h a f fun i=>hv s d f h.inv h.ordE i)
theorem yV {w:α→List α} {i:List α→List α} (a:∀ l,(i l).Perm l) {V:List α} (k:∀ x ∈ V,∀ y ∈ w x,y ∈ V):∀ (f:Nat) (g:List α) (c:α) (s:TS α),c ∈ V→iR w s g→c ∉ s.ord→(∀ x ∈ g,Rt w x c)→(V.filter fun x=>decide (x ∉ s.ord)).length≤f→qW w g c s (aK w i f c s)
 |0,g,c,s,hcV,h,hc,hg,hf=>by
  have:c ∈ V.filter fun x=>decide (x ∉ s.ord):=List.mem_filter.2 ⟨hcV,by simp [hc]⟩
  have:=Xjg this;omega
 | f +1,g,c,s,hcV,h,hc,hg,hf=>by
  unfold aK;refine Po a h hc (xe h hc hg (fun s1 d hd h1 ⟨t,ht⟩ hn=> ?_) (w c) [] _ rfl (Dj h hc hg)) hg;refine yV a k f (g++ [c]) d s1 (k c hcV d hd) h1 hn (fun x b=> ?_) ?_
  ·rcases List.mem_append.1 b with b|b
   ·exact (hg x b).tail hd
   ·rw [χ] at b;subst b;exact .one hd
  ·have n:(V.filter fun x=>decide (x ∉ s1.ord)).length<(V.filter fun x=>decide (x ∉ s.ord)).length:=by
    have e:(V.filter fun x=>decide (x ∉ s1.ord))=(V.filter fun x=>decide (x ∉ s.ord)).filter fun x=>decide (x ∉ s1.ord):=by
     rw [Xjv];refine Xxv fun x _=> ?_
     rw [ht];simp;intro h _ _;exact h
    rw [e];have j:∀ l:List α,c ∈ l→(l.filter fun x=>decide (x ∉ s1.ord)).length<l.length:=fun l m=>by
     refine Xw6 (Xqp _ _) fun e=> ?_
     have:=List.length_filter_eq_length_iff.1 e c m;rw [ht] at this;simp at this
    exact j _ (List.mem_filter.2 ⟨hcV,by simp [hc]⟩)
   omega
def aI:TS α:=⟨[],[],[],[]⟩
theorem yS (w:α→List α):iR w (aI:TS α) []:=
 ⟨List.nodup_nil,rfl,List.Sublist.refl _,by simp,by simp [aI],by simp [aI],by simp,by simp [aI],by simp [aI],by simp [aI],by simp [aI],by simp [aI],by simp [aI]⟩
def FY (w:α→List α) (srt:List α→List α) (f:Nat) (all:List α) (s:TS α):TS α:=all.foldl (fun s c=>if c ∈ s.ord then s else aK w srt f c s) s
theorem MM {w:α→List α} {a:List α→List α} (d:∀ l,(a l).Perm l) {V:List α} (k:∀ x ∈ V,∀ y ∈ w x,y ∈ V) {f:Nat} (i:V.length≤f):∀ (all:List α) (s:TS α),(∀ x ∈ all,x ∈ V)→iR w s []→iR w (FY w a f all s) []∧(∀ x ∈ s.ord,x ∈ (FY w a f all s).ord)∧∀ x ∈ all,x ∈ (FY w a f all s).ord
 | [],s,_,h=> ⟨h,fun _ b=>b,by simp⟩
 | c::all,s,ha,h=>by
  have key:∃ s',FY w a f (c::all) s=FY w a f all s'∧iR w s' []∧(∀ x ∈ s.ord,x ∈ s'.ord)∧c ∈ s'.ord:=by
   by_cases hc:c ∈ s.ord
   ·exact ⟨s,by unfold FY;rw [Xqw,if_pos hc],h,fun _ b=>b,hc⟩
   ·have hp:=yV d k f [] c s (ha c (by simp)) h hc (by simp) (Xqg (Xqp _ _) i);obtain ⟨t,m⟩:=hp.ordE;exact ⟨_,by unfold FY;rw [Xqw,if_neg hc],hp.inv,fun x b=>by rw [m];simp [b],by rw [m];simp⟩
  obtain ⟨s',e,p,q,r⟩:=key;obtain ⟨o,j,n⟩:=MM d k i all s' (fun x b=>ha x (Θ _ b)) p;rw [e];refine ⟨o,fun x b=>j x (q x b),fun x b=> ?_⟩;rcases List.mem_cons.1 b with e|b
  ·subst e;exact j x r
  ·exact n x b
end
theorem wO:∀ (l:List Cl) (vs:List AV) (x:Cl),vs.length=l.length→bu (l.map cA) vs (cA x)=if x ∈ l then vs[l.idxOf x]? else none
 | [],vs,x,_=>by cases vs<;>rfl
 |y::l,[],x,h=>by simp at h
 | y::l,v::vs,x,h=>by
  simp only [Γ,bu];cases b:uG (cA x) (cA y) with
  |true=>
   have:=(jP x y).1 b;subst this;simp
  |false=>
   have a:x ≠ y:=fun e=>by rw [(jP x y).2 e] at b;cases b
   have d:(y==x)=false:=by simp only [Yq2];exact fun e=>a e.symm
   rw [wO l vs x (by simpa using h),Xwv,d];simp [a]
theorem Dp {l:List Cl} {x:Cl} (h:x ∈ l):gB (l.map cA) (cA x)=l.map cA:=by
 unfold gB;rw [QO.2 h]
theorem Dq:∀ {l:List Cl} {x:Cl} (vs:List AV) (v:AV),x ∈ l→vs.length=l.length→eH (l.map cA) vs (cA x) v=vs.set (l.idxOf x) v
 | [],x,vs,v,h,_=>by cases h
 |y::l,x,[],v,_,h=>by simp at h
 | y::l,x,u::vs,v,h,hl=>by
  simp only [Γ,eH];cases b:uG (cA x) (cA y) with
  |true=>
   have:=(jP x y).1 b;subst this;simp
  | false=>
   have a:x ≠ y:=fun e=>by rw [(jP x y).2 e] at b;cases b
   have f:(y==x)=false:=by simp only [Yq2];exact fun e=>a e.symm
   have d:x ∈ l:=by
    rcases List.mem_cons.1 h with e|e
    ·exact absurd e a
    ·exact e
   rw [Xwv,f];simp only [cond_false,List.set_cons_succ];rw [Dq vs v d (by simpa using hl)]
def WR (n:Nat):List AV:=(List.range n).map fun i=> ω (((i+1:Nat)):Int)
def Vs (l:List Nat):List AV:=l.map fun i=> ω ((i:Nat):Int)
def Ij (o S:List Cl):List AV:=o.map fun x=> .bool (decide (x ∈ S))
theorem N9 (n:Nat):(WR n).length=n:=by simp [WR]
theorem GM (l:List Nat):(Vs l).length=l.length:=by simp [Vs]
theorem Hw (o S:List Cl):(Ij o S).length=o.length:=by simp [Ij]
theorem TA (n:Nat):WR (n+1)=WR n++ [ω (((n+1:Nat)):Int)]:=by simp [WR,List.range_succ]
theorem xk {o:List Cl} {x:Cl}:Xqc (bu (o.map cA) (WR o.length) (cA x)) (ω 0)= ω (((if x ∈ o then o.idxOf x+1 else 0:Nat)):Int):=by
 rw [wO _ _ _ (N9 _)];by_cases h:x ∈ o
 ·rw [if_pos h,if_pos h];have:=Xqs h;simp [WR,φ,List.getElem?_range this]
 ·rw [if_neg h,if_neg h];rfl
theorem WA {o:List Cl} {a:List Nat} {x:Cl} (b:a.length=o.length) (h:x ∈ o):Xqc (bu (o.map cA) (Vs a) (cA x)) (ω 0)= ω ((a.getD (o.idxOf x) 0:Nat):Int):=by
 rw [wO _ _ _ (by rw [GM,b]),if_pos h];have:=Xqs h;rw [← b] at this;simp [Vs,φ,δ this,γ]
theorem Xn {o S:List Cl} {x:Cl} (b:∀ y ∈ S,y ∈ o):Xqc (bu (o.map cA) (Ij o S) (cA x)) (.bool false)= .bool (decide (x ∈ S)):=by
 rw [wO _ _ _ (Hw _ _)];by_cases h:x ∈ o
 ·rw [if_pos h];have a:=Xqs h;have e:o[o.idxOf x]=x:=Xzf a;simp [Ij,φ,δ a,e]
 ·rw [if_neg h];have:x ∉ S:=fun hs=>h (b x hs)
  simp [this]
theorem UL {o S:List Cl} {x:Cl} (h:x ∉ o):Ij (o++ [x]) (S++ [x])=Ij o S++ [.bool true]:=by
 unfold Ij;rw [List.map_append];congr 1
 ·refine List.map_congr_left fun y a=> ?_
  have:y ≠ x:=fun e=>h (e ▸ a)
  simp [this]
 ·simp
theorem Xg {o S:List Cl} {x:Cl} (b:o.Nodup):(Ij o S).set (o.idxOf x) (.bool false)=Ij o (S.filter fun y=>decide (y ≠ x)):=by
 refine Xq8 fun i=> ?_
 unfold Ij;rw [Xxd,φ,Xxa];by_cases hi:o.idxOf x=i
 ·rw [if_pos hi];by_cases hl:o.idxOf x<o.length
  ·rw [if_pos hl];have j:x ∈ o:=List.idxOf_lt_length_iff.1 hl;have e:o[o.idxOf x]=x:=Xzf hl;rw [← hi,φ,δ hl,e];simp
  ·rw [if_neg hl,φ,List.getElem?_eq_none (by omega)];rfl
 ·rw [if_neg hi,φ];cases h:o[i]? with
  |none=>rfl
  | some y=>
   have d:y ≠ x:=fun e=>by
    subst e;obtain ⟨a,f⟩:=List.getElem?_eq_some_iff.1 h;exact hi (by rw [← f];exact b.idxOf_getElem _ a)
   simp [d]
def eqE (x c:Cl):Bool:=((c.1==x.1) && ((c.2==x.2) && true))
theorem VX {x c:Cl}:eqE x c=decide (x=c):=by
 unfold eqE;rw [Xj0];simp only [Xzy,ε,beq_iff_eq,decide_eq_true_eq];exact ⟨fun h=>Xwx h.1.symm h.2.symm,fun h=>h ▸ ⟨rfl,rfl⟩⟩
def idS (l:List Cl) (nn:Bool) (c:Cl) (k:Nat):St:=⟨[(0,.sl (cL l) l.length nn),(3,.ptr 0 0 0),(7,ω (l.length:Int)),(8,ω (k:Int))],[(0,⟨[ω c.1,ω c.2],0,false,0,0,true⟩)],.dead,[]⟩
def idX:Option Nat→St|some k=>(J4 (ω (k:Int)))|none=>HY
def idE:Option Nat→aJ|some _=> .ret|none=> .exit 0
def idQ (c:Cl):List Cl→Nat→Option Nat| [],_=>none|x::r,k=>if eqE x c then some k else idQ c r (k+1)
theorem aji {nt:Nat} (j:19≤nt) (l p r:List Cl) (nn:Bool) (c x:Cl) (b:l=p++x::r) (i:l.length<2^40) (h:eqE x c=true):ψ nt f95 (idS l nn c p.length) .ret (J4 (ω (p.length:Int))):=by
 have e:=bI (f:=cC) (n:=2) (fun _=>rfl) b;change κ _ (cL l)=cC x++cL r at e;have a:p.length<l.length:=jm b;have m:p.length<2^62:=by omega
 have d:(decide ((p.length:Int)<(l.length:Int)))=true:=kl a;clear b;generalize p.length=k at*
 exact pN 95 [] 2 3 (.c (aQ h) (.k 3 d (.k 2 (aQ d) .nil))) (.v 14 (.ppt e) .nil) j
theorem ajh {nt:Nat} (m:19≤nt) (l p r:List Cl) (nn:Bool) (c x:Cl) (b:l=p++x::r) (j:l.length<2^40) (i:eqE x c=false):ψ nt f95 (idS l nn c p.length) .normal (idS l nn c (p.length+1)):=by
 have e:=bI (f:=cC) (n:=2) (fun _=>rfl) b;change κ _ (cL l)=cC x++cL r at e;have a:p.length<l.length:=jm b;have h:p.length<2^62:=by omega
 have d:(decide ((p.length:Int)<(l.length:Int)))=true:=kl a;clear b;generalize p.length=k at*
 exact pN 95 [] 2 1 (.c (aX i) (.k 3 d (.k 2 (aQ d) .nil))) (.v 18 (.eq (wpS h)) (.v 14 (.ppt e) .nil)) m
theorem ajg {nt:Nat} (b:19≤nt) (l:List Cl) (nn:Bool) (c:Cl):ψ nt f95 (idS l nn c l.length) (.exit 0) HY:=by
 have a:(decide ((l.length:Int)<(l.length:Int)))=false:=kn (ζ _);exact pN 95 [] 1 0 (.c (aX a) .nil) .nil b
theorem NJ {nt:Nat} (b:19≤nt) (l:List Cl) (nn:Bool) (c:Cl) (a:l.length<2^40):∀ (r p:List Cl),l=p++r→aN prog ap [] nt (ah 0 (af f95)) idE (idS l nn c) idX p.length (idQ c r p.length)
 | [],p,h=>by
  rw [μ] at h;subst h;exact .done (ajg b l nn c)
 | x::r,p,h=>by
  unfold idQ;cases d:eqE x c with
  |true=>exact .done (aji b l p r nn c x h a d)
  |false=>
   have e:=NJ b l nn c a r (p++ [x]) (by rw [h];simp);rw [show (p++ [x]).length=p.length+1 by simp] at e;exact .next (a':=p.length+1) (ajh b l p r nn c x h a d) e
theorem Sm (c:Cl):∀ (r:List Cl) (k:Nat),idQ c r k=if c ∈ r then some (k+r.idxOf c) else none
 | [],k=>by simp [idQ]
 | x::r,k=>by
  unfold idQ;rw [VX];by_cases h:x=c
  ·subst h;simp
  ·have b:(x==c)=false:=by simpa using h
   have a:¬ c=x:=fun e=>h e.symm
   rw [if_neg (by simpa using h),Sm c r (k+1),Xwv,b];simp only [Xqo,a,false_or,cond_false];by_cases hm:c ∈ r
   ·rw [if_pos hm,if_pos hm];congr 1;omega
   ·rw [if_neg hm,if_neg hm]
def ixI (l:List Cl) (c:Cl):Int:=if c ∈ l then ((l.idxOf c:Nat):Int) else -1
theorem Jd (l:List Cl) (nn:Bool) (c:Cl) (h:l.length<2^40):CO 95 [.sl (cL l) l.length nn,cA c] (.ret (ω (ixI l c))):=by
 have e:=fun nt (hn:19≤nt)=>NJ hn l nn c h l [] rfl
 unfold ixI;have d:=Sm c l 0;by_cases hd:c ∈ l
 ·rw [if_pos hd] at d ⊢;rw [show ([]:List Cl).length=0 from rfl,d,Φ] at e;generalize l.idxOf c=k at*
  have b:=aN.blk (id:=0) (e':= .ret) e (by simp [idE]) rfl (aH.refl _) (aH.refl _);unfold idS idX at b;have f:LB 19 0 f95 (ZM (.sl (cL l) l.length nn) (.agg [ω c.1,ω c.2]) l.length [ω c.1,ω c.2]) (.ret) (J4 (ω (k:Int))):=(fun nt a=>(b nt a).weak (aH.of ⟨rfl,rfl,rfl,rfl,trivial⟩) (aH.refl _))
  exact pK [0] 0 0 .nil (.l f .nil)
 ·rw [if_neg hd] at d ⊢;rw [show ([]:List Cl).length=0 from rfl,d] at e;have b:=aN.blk (id:=0) (e':= .normal) e (by simp [idE]) rfl (aH.refl _) (aH.refl _);unfold idS idX at b;have f:LB 19 0 f95 (ZM (.sl (cL l) l.length nn) (.agg [ω c.1,ω c.2]) l.length [ω c.1,ω c.2]) (.normal) HY:=(fun nt a=>(b nt a).weak (aH.of ⟨rfl,rfl,rfl,rfl,trivial⟩) (aH.refl _))
  exact pK [0] 0 0 .nil (.l f .nil)
theorem aal (l:List Cl) (nn:Bool) (c:Cl) (i:Int) (a:CO 95 [.sl (cL l) l.length nn,cA c] (.ret (ω i))):CO 97 [.sl (cL l) l.length nn,cA c] (.ret (.bool (decide (((0:Nat):Int)≤i)))):=pK [] 0 0 (.n 2 .nil) (.c a .nil)
theorem IG (l:List Cl) (nn:Bool) (c:Cl) (a:l.length<2^40):CO 97 [.sl (cL l) l.length nn,cA c] (.ret (.bool (decide (c ∈ l)))):=by
 have h:=aal l nn c _ (Jd l nn c a);have e:((decide (((0:Nat):Int)≤(ixI l c))))=decide (c ∈ l):=by
  unfold ixI;rw [decide_eq_decide];by_cases hd:c ∈ l
  ·rw [if_pos hd];simp [hd]
  ·rw [if_neg hd];simp [hd]
 rw [e] at h;exact h
theorem pV (L:List Nat) (f:Nat) (d:List Nat) (n k:Nat) {nt nt0:Nat} {ans:List (gV × List az)} {b:qQ} {hs:List mJ} {bs:List Bool} {ps:List Prop} {a:Code} {s s':St} {h0:List az} {e:aJ} (h:jE bs) (hp:PS prog ap ps ans b hs) (i:nt0≤nt) (j:FI h0 L=true)
  (hne:Yj e=true:=by rfl) (he:vR L (vM prog ap h0 f nt0 d a s b (qB n k) ans hs s'.env)= .ok ((e,s'),[]) ⟨false,[],bs,ps,[],[]⟩:=by kernel_rfl):ag prog ap h0 nt a s e s':=pv good L f d n k h hp i j hne he
def gsN (ks nv lv sv uk uv:List AV):List az:= [⟨[.mr 7 0],0,false,0,0,false⟩,⟨[.mr 8 0],0,false,0,0,false⟩,⟨[.nilS],0,false,0,0,true⟩,⟨[.mr 9 0],0,false,0,0,false⟩,⟨[.mr 10 0],0,false,0,0,false⟩,⟨[.fn 94 [] [.ptr 0 0 0,.ptr 1 0 0,.ptr 2 0 0,.ptr 3 0 0,.ptr 4 0 0,.ptr 5 0 0,.ptr 6 0 0]],0,false,0,0,false⟩,⟨[.nilS],0,false,0,0,true⟩,⟨[.agg ks,.agg nv],0,false,0,4611686018427387904,true⟩,⟨[.agg ks,.agg lv],0,false,0,4611686018427387904,true⟩,⟨[.agg ks,.agg sv],0,false,0,4611686018427387904,true⟩,⟨[.agg uk,.agg uv],0,false,0,4611686018427387904,true⟩]
def gsS (vs:Nat) (ks nv lv sv uk uv:List AV) (C:List AV) (n:Nat):List az:= [⟨[.mr 7 0],0,false,0,0,false⟩,⟨[.mr 8 0],0,false,0,0,false⟩,⟨[.ref 9 vs 0 n],0,false,0,0,false⟩,⟨[.mr 10 0],0,false,0,0,false⟩,⟨[.mr 11 0],0,false,0,0,false⟩,⟨[.fn 94 [] [.ptr 0 0 0,.ptr 1 0 0,.ptr 2 0 0,.ptr 3 0 0,.ptr 4 0 0,.ptr 5 0 0,.ptr 6 0 0]],0,false,0,0,false⟩,⟨[.nilS],0,false,0,0,true⟩,⟨[.agg ks,.agg nv],0,false,0,4611686018427387904,true⟩,⟨[.agg ks,.agg lv],0,false,0,4611686018427387904,true⟩,⟨C,vs,false,0,2,true⟩,⟨[.agg ks,.agg sv],0,false,0,4611686018427387904,true⟩,⟨[.agg uk,.agg uv],0,false,0,4611686018427387904,true⟩]
def gsO (vs vo:Nat) (ks nv lv sv uk uv:List AV) (C:List AV) (n:Nat) (OT:List AV) (q:Nat):List az:= [⟨[.mr 7 0],0,false,0,0,false⟩,⟨[.mr 8 0],0,false,0,0,false⟩,⟨[.ref 9 vs 0 n],0,false,0,0,false⟩,⟨[.mr 10 0],0,false,0,0,false⟩,⟨[.mr 11 0],0,false,0,0,false⟩,⟨[.fn 94 [] [.ptr 0 0 0,.ptr 1 0 0,.ptr 2 0 0,.ptr 3 0 0,.ptr 4 0 0,.ptr 5 0 0,.ptr 6 0 0]],0,false,0,0,false⟩,⟨[.ref 12 vo 0 q],0,false,0,0,false⟩,⟨[.agg ks,.agg nv],0,false,0,4611686018427387904,true⟩,⟨[.agg ks,.agg lv],0,false,0,4611686018427387904,true⟩,⟨C,vs,false,0,2,true⟩,⟨[.agg ks,.agg sv],0,false,0,4611686018427387904,true⟩,⟨[.agg uk,.agg uv],0,false,0,4611686018427387904,true⟩,⟨OT,vo,false,0,2,true⟩]
def gsX (ks nv lv sv uk uv:List AV) (C:List AV) (n:Nat) (OT:List AV) (q:Nat):List az:= [⟨[.mr 7 0],0,false,0,0,false⟩,⟨[.mr 8 0],0,false,0,0,false⟩,⟨[.ref 11 0 0 n],0,false,0,0,false⟩,⟨[.mr 9 0],0,false,0,0,false⟩,⟨[.mr 10 0],0,false,0,0,false⟩,⟨[.fn 94 [] [.ptr 0 0 0,.ptr 1 0 0,.ptr 2 0 0,.ptr 3 0 0,.ptr 4 0 0,.ptr 5 0 0,.ptr 6 0 0]],0,false,0,0,false⟩,⟨[.ref 12 0 0 q],0,false,0,0,false⟩,⟨[.agg ks,.agg nv],0,false,0,4611686018427387904,true⟩,⟨[.agg ks,.agg lv],0,false,0,4611686018427387904,true⟩,⟨[.agg ks,.agg sv],0,false,0,4611686018427387904,true⟩,⟨[.agg uk,.agg uv],0,false,0,4611686018427387904,true⟩,⟨C,0,false,0,2,true⟩,⟨OT,0,false,0,2,true⟩]
theorem WY {b v ki n m:Nat} (h:n - ki=m):AV.ref b v (0+(θ (ki:Int))) ((θ (n:Int)) - (θ (ki:Int)))= .ref b v ki m:=by simp [h]
theorem T_ {b v ki:Nat}:AV.ref b v 0 ((θ (ki:Int)) - 0)= .ref b v 0 ki:=by simp
theorem VL (C:List AV) (i m:Nat) (a:(Δ (Xqb (Xqk (m*2) (κ (i*2) C))) (m*2))=true) (b:(Xqq (0+m) 1099511627776)=true):ae prog ap 96 [.ref 0 0 i m] [⟨C,0,false,0,2,true⟩] (.ret (.own (Xqk ((0+m)*2) ([]++(Xqk (m*2) (κ (i*2) C)))) (0+m) 2)) [⟨C,0,false,0,2,true⟩]:=pK [] 1 0 (.c a (.c b (.n 3 .nil))) .nil
theorem QX (C:List AV) (i m:Nat) (l:List Cl) (a:Xqk (m*2) (κ (i*2) C)=cL l) (hm:l.length=m) (b:m<2^40):ae prog ap 96 [.ref 0 0 i m] [⟨C,0,false,0,2,true⟩] (.ret (.own (cL l) m 2)) [⟨C,0,false,0,2,true⟩]:=by
 have h:=VL C i m (by rw [a,dF,hm];exact Nat.beq_refl _) (ξ (by omega));rw [a,Xqj,Φ,Xqr (by rw [dF,hm];exact ζ _)] at h;exact h
abbrev TC:=TS Cl
abbrev iM (s:TC):List AV:=s.ord.map cA
abbrev kC (s:TC):List AV:=WR s.ord.length
abbrev kH (s:TC):List AV:=Vs s.low
abbrev mG (s:TC):List AV:=Ij s.ord s.stack
def pU (s:TC) (C:List AV):Prop:=C.take (s.stack.length*2)=cL s.stack
def oL (o:List (List Cl × Bool)):List AV:=o.flatMap fun z=> [.bool z.2,.sl (cL z.1) z.1.length true]
def yH (s:TC) (O:List AV):Prop:=O.take (s.out.length*2)=oL s.out
abbrev QD (y:Cl):List AV:= [cA y,.ptr 0 0 0,.ptr 1 0 0,.ptr 2 0 0,.ptr 3 0 0,.ptr 4 0 0,.ptr 5 0 0,.ptr 6 0 0]
abbrev RO (h0:List az) (a:St) (e:aJ) (b:St):Prop:=∀ nt,117≤nt→ag prog ap h0 nt (ah 0 (af f94)) a e b
abbrev nI (n:Nat):AV:= ω (n:Int)
theorem MS:(instBEqOfDecidableEq:BEq Cl)=instBEqProd:=by
 have key:∀ a b:BEq Cl,(∀ x y,a.beq x y=b.beq x y)→a=b:=by
  intro a b h;cases a;cases b;congr;funext x y;exact h x y
 refine key _ _ fun x y=> ?_
 have d:(@BEq.beq Cl instBEqOfDecidableEq x y=true)↔x=y:=@beq_iff_eq Cl instBEqOfDecidableEq _ x y;have e:(@BEq.beq Cl instBEqProd x y=true)↔x=y:=@beq_iff_eq Cl instBEqProd _ x y;exact Bool.eq_iff_iff.2 (d.trans e.symm)
theorem GY (s:TC) (x:Cl):bV s x=s.ord.idxOf x+1:=by unfold bV;rw [MS]
theorem Wy (s:TC) (x:Cl):bY s x=s.low.getD (s.ord.idxOf x) 0:=by unfold bY;rw [MS]
theorem Qi (s:TC) (x:Cl) (v:Nat):iY s x v={s with low:=s.low.set (s.ord.idxOf x) v}:=by unfold iY;rw [MS]
abbrev cSS (uk uv:List AV) (d:Cl) (s s':TC) (C C':List AV):Prop:=ae prog ap 94 (QD d) (gsS 0 (iM s) (kC s) (kH s) (mG s) uk uv C s.stack.length) (.ret (.tup [])) (gsS 1 (iM s') (kC s') (kH s') (mG s') uk uv C' s'.stack.length)
abbrev cSO (uk uv:List AV) (d:Cl) (s s':TC) (C C' O':List AV):Prop:=ae prog ap 94 (QD d) (gsS 0 (iM s) (kC s) (kH s) (mG s) uk uv C s.stack.length) (.ret (.tup [])) (gsO 1 0 (iM s') (kC s') (kH s') (mG s') uk uv C' s'.stack.length O' s'.out.length)
abbrev cOO (uk uv:List AV) (d:Cl) (s s':TC) (C O C' O':List AV):Prop:=ae prog ap 94 (QD d) (gsO 0 0 (iM s) (kC s) (kH s) (mG s) uk uv C s.stack.length O s.out.length) (.ret (.tup [])) (gsO 1 1 (iM s') (kC s') (kH s') (mG s') uk uv C' s'.stack.length O' s'.out.length)
abbrev LG:Type:=List AV→List AV→List AV→List AV→List AV→List AV→Nat→List AV→Nat→List Cl→Cl→Nat→St
abbrev LX:Type:=List AV→List AV→List AV→List AV→List AV→Nat→List AV→Nat→Cl→St
abbrev qO (ks vs:List AV) (x:Cl):AV:=Xqc (bu ks vs (cA x)) (ω 0)
structure O8 (h0:List az) (lg:LG) (lx:LX):Prop where
 vb:∀ (ks nv lv sv C:List AV) (n:Nat) (O:List AV) (q:Nat) (us:List Cl) (x:Cl) (p r:List Cl) (y:Cl) (nd lc lm:Nat) (sd:Bool),us=p++y::r→us.length<2^40→Xqd ks (iU 25)=true→((nd:Int)==((0:Nat):Int))=false→sd=true→ω (if (nd:Int)<(lc:Int) then (nd:Int) else (lc:Int))=nI lm→qO ks nv y=nI nd→qO ks lv x=nI lc→Xqc (bu ks sv (cA y)) (.bool false)= .bool sd→RO h0 (lg ks ks nv lv sv C n O q us x p.length) .normal (lg (gB ks (cA x)) ks nv (eH ks lv (cA x) (nI lm)) sv C n O q us x (p.length+1))
 vc:∀ (ks nv lv sv C:List AV) (n:Nat) (O:List AV) (q:Nat) (us:List Cl) (x:Cl) (p r:List Cl) (y:Cl) (nd:Nat) (sd:Bool),us=p++y::r→us.length<2^40→Xqd ks (iU 25)=true→((nd:Int)==((0:Nat):Int))=false→sd=false→Xqc (bu ks sv (cA y)) (.bool false)= .bool sd→qO ks nv y=nI nd→RO h0 (lg ks ks nv lv sv C n O q us x p.length) .normal (lg ks ks nv lv sv C n O q us x (p.length+1))
 vx:∀ (ks nv lv sv C:List AV) (n:Nat) (O:List AV) (q:Nat) (us:List Cl) (x:Cl),RO h0 (lg ks ks nv lv sv C n O q us x us.length) (.exit 0) (lx ks nv lv sv C n O q x)
abbrev Kr (h0:List az) (g1 g2:List AV→List AV→List AV→List AV→List AV→Nat→List AV→Nat→List az) (lg lg2:LG):Prop:=
 ∀ (ks nv lv sv C:List AV) (n:Nat) (O:List AV) (q:Nat) (us:List Cl) (x:Cl) (p r:List Cl) (y:Cl) (ks2 nv2 lv2 sv2 C2:List AV) (n2:Nat) (O2:List AV) (q2:Nat) (nd lc ld lm:Nat),us=p++y::r→us.length<2^40→Xqd ks (iU 25)=true→((nd:Int)==((0:Nat):Int))=true→ω (if (ld:Int)<(lc:Int) then (ld:Int) else (lc:Int))=nI lm→qO ks2 lv2 y=nI ld→qO ks2 lv2 x=nI lc→qO ks nv y=nI nd→Xqd ks2 (iU 25)=true→ae prog ap 94 (QD y) (g1 ks nv lv sv C n O q) (.ret (.tup [])) (g2 ks2 nv2 lv2 sv2 C2 n2 O2 q2)→RO h0 (lg ks ks nv lv sv C n O q us x p.length) .normal (lg2 (gB ks2 (cA x)) ks2 nv2 (eH ks2 lv2 (cA x) (nI lm)) sv2 C2 n2 O2 q2 us x (p.length+1))
section
variable {w:Cl→List Cl} {g:List Cl} {c:Cl} {h0:List az}
theorem mI {a b:Nat}:ω (if (a:Int)<(b:Int) then (a:Int) else (b:Int))=nI (Min.min b a):=by
 congr 1;split<;>omega
theorem NS {s:TC} (a:s.low.length=s.ord.length) (b:c ∈ s.ord) (v:Nat):eH (iM s) (kH s) (cA c) (nI v)=kH (iY s c v):=by
 rw [Dq _ _ b (by rw [GM,a])];rw [Qi];show (Vs s.low).set _ _=Vs _;unfold Vs;rw [List.map_set]
abbrev SH (lg:LG) (s:TC) (C O:List AV) (us:List Cl) (x:Cl) (k:Nat):St:=lg (iM s) (iM s) (kC s) (kH s) (mG s) C s.stack.length O s.out.length us x k
abbrev lxS (lx:LX) (s:TC) (C O:List AV) (x:Cl):St:=lx (iM s) (kC s) (kH s) (mG s) C s.stack.length O s.out.length x
theorem SV {s:TC} {x:Cl} (a:s.low.length=s.ord.length) (h:x ∈ s.ord):qO (iM s) (kH s) x=nI (bY s x):=by
 rw [Wy];exact WA a h
theorem Kr.step {m l:List AV→List AV→List AV→List AV→List AV→Nat→List AV→Nat→List az} {n b:LG} (F:Kr h0 m l n b) {s s2:TC} {C O C2 O2:List AV} {us p r:List Cl} {d:Cl} (e:us=p++d::r) (j:us.length<2^40) (q:d ∉ s.ord) (k:s2.low.length=s2.ord.length) (f:d ∈ s2.ord) (a:c ∈ s2.ord)
  (hcall:ae prog ap 94 (QD d) (m (iM s) (kC s) (kH s) (mG s) C s.stack.length O s.out.length) (.ret (.tup [])) (l (iM s2) (kC s2) (kH s2) (mG s2) C2 s2.stack.length O2 s2.out.length)):
  RO h0 (SH n s C O us c p.length) .normal (SH b (iY s2 c (Min.min (bY s2 c) (bY s2 d))) C2 O2 us c (p.length+1)):=by
 have i:qO (iM s) (kC s) d=nI 0:=by
  have h:=xk (o:=s.ord) (x:=d);rw [if_neg q] at h;exact h
 have h:=F (iM s) (kC s) (kH s) (mG s) C s.stack.length O s.out.length us c p r d (iM s2) (kC s2) (kH s2) (mG s2) C2 s2.stack.length O2 s2.out.length 0 (bY s2 c) (bY s2 d) (Min.min (bY s2 c) (bY s2 d)) e j (dM _) rfl mI (SV k f) (SV k a) i (dM _) hcall;rw [Dp a,NS k a] at h;exact h
theorem O8.old {j:LG} {q:LX} (F:O8 h0 j q) {s:TC} {v:Cl→TC→TC} {C O:List AV} {us p r:List Cl} {d:Cl} (a:us=p++d::r) (e:us.length<2^40) (n:s.low.length=s.ord.length) (hs:∀ y ∈ s.stack,y ∈ s.ord) (l:d ∈ s.ord) (f:c ∈ s.ord):
  RO h0 (SH j s C O us c p.length) .normal (SH j (bM v c s d) C O us c (p.length+1)):=by
 have b:qO (iM s) (kC s) d=nI (bV s d):=by
  have h:=xk (o:=s.ord) (x:=d);rw [if_pos l,← GY] at h;exact h
 have m:(((bV s d:Nat):Int)==((0:Nat):Int))=false:=by
  unfold bV;rw [Yq2];omega
 have k:=Xn (x:=d) hs;unfold bM;rw [if_pos l];split
 ·rename_i i;have h:=F.vb (iM s) (kC s) (kH s) (mG s) C s.stack.length O s.out.length us c p r d (bV s d) (bY s c) (Min.min (bY s c) (bV s d)) _ a e (dM _) m (Yq0 i) mI b (SV n f) k;rw [Dp f,NS n f] at h;exact h
 ·rename_i i;exact F.vc (iM s) (kC s) (kH s) (mG s) C s.stack.length O s.out.length us c p r d (bV s d) _ a e (dM _) m (Yq1 i) k b
end
theorem gU {v:Cl→TC→TC} {c d:Cl} {s:TC} (h:d ∉ s.ord):bM v c s d=iY (v d s) c (Min.min (bY (v d s) c) (bY (v d s) d)):=by unfold bM;rw [if_neg h]
theorem Fq {v:Cl→TC→TC} {c d:Cl} {s:TC} (h:d ∈ s.ord):(bM v c s d).stack=s.stack∧(bM v c s d).out=s.out:=by
 unfold bM;rw [if_pos h];split<;>exact ⟨rfl,rfl⟩
abbrev gO (vs vo:Nat) (uk uv:List AV):List AV→List AV→List AV→List AV→List AV→Nat→List AV→Nat→List az:=fun ks nv lv sv C n O q=>gsO vs vo ks nv lv sv uk uv C n O q
abbrev gS (vs:Nat) (uk uv:List AV):List AV→List AV→List AV→List AV→List AV→Nat→List AV→Nat→List az:=fun ks nv lv sv C n _ _=>gsS vs ks nv lv sv uk uv C n
abbrev LR (h0:List az) (a b:St):Prop:=∀ nt,117≤nt→aN prog ap h0 nt (ah 0 (af f94)) (fun _:St=> .exit 0) (id:St→St) id a b
structure Ko (V:List Cl) (w:Cl→List Cl) (g:List Cl) (c:Cl) (s0:TC) (s:TC) (d:Cl):Prop where
 hV:∀ x ∈ s.ord,x ∈ V
 hd:d ∈ w c
 hi:iR w s (g++ [c])
 ht:∃ t,s.ord=s0.ord++c::t
 hn:d ∉ s.ord
section
variable {V:List Cl} {w:Cl→List Cl} {g:List Cl} {c:Cl} {h0:List az} {uk uv:List AV} {s0:TC} {v:Cl→TC→TC} {lg lg2:LG} {lx lx2:LX}
theorem wu.at {s:TC} {done:List Cl} {d:Cl} (h:wu w g c s0 s done) (b:∀ x ∈ s.ord,x ∈ V) (a:d ∈ w c) (e:d ∉ s.ord):Ko V w g c s0 s d:=⟨b,a,h.inv,h.ordE,e⟩
theorem qW.inO {s s':TC} {d:Cl} (h:qW w g d s s'):d ∈ s'.ord∧∀ x ∈ s.ord,x ∈ s'.ord:=by
 obtain ⟨t,b⟩:=h.ordE;rw [b];exact ⟨by simp,fun x a=>by simp [a]⟩
theorem wu.cO {s:TC} {done:List Cl} (h:wu w g c s0 s done):c ∈ s.ord:=by
 obtain ⟨t,a⟩:=h.ordE;rw [a];simp
theorem H7 {s:TC} {d:Cl} (a:∀ x ∈ s.ord,x ∈ V) (b:d ∉ s.ord→∀ x ∈ (v d s).ord,x ∈ V):∀ x ∈ (bM v c s d).ord,x ∈ V:=by
 by_cases hm:d ∈ s.ord
 ·unfold bM;rw [if_pos hm];split<;>exact a
 ·rw [gU hm];exact b hm
theorem Gw (a:∀ s d,d ∈ V→(∀ x ∈ s.ord,x ∈ V)→∀ x ∈ (v d s).ord,x ∈ V):∀ (r:List Cl) (s:TC),(∀ x ∈ r,x ∈ V)→(∀ x ∈ s.ord,x ∈ V)→∀ x ∈ (r.foldl (bM v c) s).ord,x ∈ V
 | [],s,_,h=>h
 |d::r,s,hr,h=>Gw a r (bM v c s d) (fun x b=>hr x (by simp [b])) (H7 h fun _=>a s d (hr d (by simp)) h)
theorem KH (a:List Cl→List Cl) (s:TC):(dL w a c s).ord=s.ord:=by unfold dL;split<;>rfl
theorem nS (b:List Cl→List Cl) (e:∀ x ∈ V,∀ y ∈ w x,y ∈ V):∀ (f:Nat) (s:TC) (d:Cl),d ∈ V→(∀ x ∈ s.ord,x ∈ V)→∀ x ∈ (aK w b f d s).ord,x ∈ V
 |0,s,d,_,h=>h
 | f+1,s,d,hd,h=>by
  unfold aK;rw [KH];refine Gw (nS b e f) (w d) _ (e d hd) fun x a=> ?_
  rcases List.mem_append.1 a with a|a
  ·exact h x a
  ·rw [χ] at a;exact a ▸ hd
theorem SQ (F:O8 h0 lg lx) (FA:Kr h0 (gO 0 0 uk uv) (gO 1 1 uk uv) lg lg) (t:iR w s0 g) (u:c ∉ s0.ord) (q:∀ x ∈ g,Rt w x c) (f:(w c).length<2^40) (m:∀ s d,Ko V w g c s0 s d→qW w (g++ [c]) d s (v d s)) (j:∀ s d,Ko V w g c s0 s d→∀ x ∈ (v d s).ord,x ∈ V)
  (hcall:∀ s d C O,Ko V w g c s0 s d→pU s C→yH s O→∃ C2 O2,pU (v d s) C2∧yH (v d s) O2∧cOO uk uv d s (v d s) C O C2 O2):
  ∀ (r done:List Cl) (s:TC) (C O:List AV),done++r=w c→wu w g c s0 s done→(∀ x ∈ s.ord,x ∈ V)→pU s C→yH s O→∃ C2 O2,pU (r.foldl (bM v c) s) C2∧yH (r.foldl (bM v c) s) O2∧LR h0 (SH lg s C O (w c) c done.length) (lxS lx (r.foldl (bM v c) s) C2 O2 c)
 | [],done,s,C,O,e,h,hV,hC,hO=>by
  rw [μ] at e;refine ⟨C,O,hC,hO,fun nt a=> .done ?_⟩;have:=F.vx (iM s) (kC s) (kH s) (mG s) C s.stack.length O s.out.length (w c) c nt a;rw [e];exact this
 | d::r,done,s,C,O,e,h,hV,hC,hO=>by
  have i:d ∈ w c:=by rw [← e];simp
  have hs:=DX t u h q i fun a=>m s d (h.at hV i a)
  have l:=SQ F FA t u q f m j hcall r (done++ [d]) (bM v c s d);rw [η] at l;have k:=H7 (c:=c) hV fun a=>j s d (h.at hV i a)
  by_cases hm:d ∈ s.ord
  ·have b:=F.old (C:=C) (O:=O) (v:=v) e.symm f h.inv.ll (fun y E=>h.inv.sub.mem E) hm h.cO;have z:=Fq (v:=v) (c:=c) hm;obtain ⟨C2,O2,o,n,p⟩:=l C O (by simp [e]) hs k (by unfold pU;rw [z.1];exact hC) (by unfold yH;rw [z.2];exact hO);exact ⟨C2,O2,o,n,fun nt a=> .next (b nt a) (p nt a)⟩
  ·obtain ⟨C1,O1,B,D,A⟩:=hcall s d C O (h.at hV i hm) hC hO;have hp:=m s d (h.at hV i hm);have b:=FA.step (C:=C) (O:=O) (C2:=C1) (O2:=O1) e.symm f hm hp.inv.ll hp.inO.1 (hp.inO.2 _ h.cO) A;rw [← gU hm] at b;obtain ⟨C2,O2,o,n,p⟩:=l C1 O1 (by simp [e]) hs k (by rw [gU hm];exact B) (by rw [gU hm];exact D);exact ⟨C2,O2,o,n,fun nt a=> .next (b nt a) (p nt a)⟩
theorem SS (F:O8 h0 lg lx) (FA:Kr h0 (gS 0 uk uv) (gS 1 uk uv) lg lg) (F2:O8 h0 lg2 lx2) (FO:Kr h0 (gS 0 uk uv) (gO 1 0 uk uv) lg lg2) (FA2:Kr h0 (gO 0 0 uk uv) (gO 1 1 uk uv) lg2 lg2) (q:iR w s0 g) (B:c ∉ s0.ord) (p:∀ x ∈ g,Rt w x c) (f:(w c).length<2^40) (o:∀ s d,Ko V w g c s0 s d→qW w (g++ [c]) d s (v d s)) (l:∀ s d,Ko V w g c s0 s d→∀ x ∈ (v d s).ord,x ∈ V)
  (hcS:∀ s d C,Ko V w g c s0 s d→pU s C→s.out= []→(∃ C2,pU (v d s) C2∧(v d s).out= []∧cSS uk uv d s (v d s) C C2)∨∃ C2 O2,pU (v d s) C2∧yH (v d s) O2∧cSO uk uv d s (v d s) C C2 O2)
  (hcall:∀ s d C O,Ko V w g c s0 s d→pU s C→yH s O→∃ C2 O2,pU (v d s) C2∧yH (v d s) O2∧cOO uk uv d s (v d s) C O C2 O2):
  ∀ (r done:List Cl) (s:TC) (C:List AV),done++r=w c→wu w g c s0 s done→(∀ x ∈ s.ord,x ∈ V)→pU s C→s.out= []→(∃ C2,pU (r.foldl (bM v c) s) C2∧(r.foldl (bM v c) s).out= []∧LR h0 (SH lg s C [] (w c) c done.length) (lxS lx (r.foldl (bM v c) s) C2 [] c))∨∃ C2 O2,pU (r.foldl (bM v c) s) C2∧yH (r.foldl (bM v c) s) O2∧LR h0 (SH lg s C [] (w c) c done.length) (lxS lx2 (r.foldl (bM v c) s) C2 O2 c)
 | [],done,s,C,e,h,hV,hC,hO=>by
  rw [μ] at e;refine .inl ⟨C,hC,hO,fun nt a=> .done ?_⟩;have:=F.vx (iM s) (kC s) (kH s) (mG s) C s.stack.length [] s.out.length (w c) c nt a;rw [e];exact this
 | d::r,done,s,C,e,h,hV,hC,hO=>by
  have n:d ∈ w c:=by rw [← e];simp
  have hs:=DX q B h p n fun a=>o s d (h.at hV n a)
  have t:=SS F FA F2 FO FA2 q B p f o l hcS hcall r (done++ [d]) (bM v c s d);rw [η] at t;have m:=H7 (c:=c) hV fun a=>l s d (h.at hV n a)
  by_cases hm:d ∈ s.ord
  ·have b:=F.old (C:=C) (O:= []) (v:=v) e.symm f h.inv.ll (fun y G=>h.inv.sub.mem G) hm h.cO;have E:=Fq (v:=v) (c:=c) hm;rcases t C (by simp [e]) hs m (by unfold pU;rw [E.1];exact hC) (by rw [E.2];exact hO) with ⟨C2,i,k,j⟩|⟨C2,O2,i,k,j⟩
   ·exact .inl ⟨C2,i,k,fun nt a=> .next (b nt a) (j nt a)⟩
   ·exact .inr ⟨C2,O2,i,k,fun nt a=> .next (b nt a) (j nt a)⟩
  ·have hp:=o s d (h.at hV n hm);rcases hcS s d C (h.at hV n hm) hC hO with ⟨C1,z,A,u⟩|⟨C1,O1,z,A,u⟩
   ·have b:=FA.step (C:=C) (O:= []) (C2:=C1) (O2:= []) e.symm f hm hp.inv.ll hp.inO.1 (hp.inO.2 _ h.cO) u;rw [← gU hm] at b;rcases t C1 (by simp [e]) hs m (by rw [gU hm];exact z) (by rw [gU hm];exact A) with ⟨C2,i,k,j⟩|⟨C2,O2,i,k,j⟩
    ·exact .inl ⟨C2,i,k,fun nt a=> .next (b nt a) (j nt a)⟩
    ·exact .inr ⟨C2,O2,i,k,fun nt a=> .next (b nt a) (j nt a)⟩
   ·have b:=FO.step (C:=C) (O:= []) (C2:=C1) (O2:=O1) e.symm f hm hp.inv.ll hp.inO.1 (hp.inO.2 _ h.cO) u;rw [← gU hm] at b;have D:=SQ F2 FA2 q B p f o l hcall r (done++ [d]) (bM v c s d) C1 O1 (by simp [e]) hs m (by rw [gU hm];exact z) (by rw [gU hm];exact A);rw [η] at D;obtain ⟨C2,O2,i,k,j⟩:=D;exact .inr ⟨C2,O2,i,k,fun nt a=> .next (b nt a) (j nt a)⟩
end
abbrev GF:Type:=List AV→List AV→List AV→List AV→List AV→Nat→List AV→Nat→List az
abbrev LP:Type:=List AV→List AV→List AV→List AV→List AV→List AV→Nat→List AV→Nat→Cl→Bool→List AV→Nat→Nat→St
abbrev LQ:Type:=List AV→List AV→List AV→List AV→List AV→Nat→List AV→Nat→Cl→Bool→List AV→Nat→St
abbrev Vy:Type:=List AV→List AV→List AV→List AV→List AV→Nat→List AV→Nat→Bool→List AV→Nat→St
abbrev LE2:Type:=List AV→List AV→List AV→List AV→List AV→Nat→List AV→Nat→St
structure O9 (h0:List az) (lp:LP) (lq:LQ):Prop where
 go:∀ (ks nv lv sv C:List AV) (n:Nat) (O:List AV) (q:Nat) (x:Cl) (ci:Bool) (CC r:List AV) (m k:Nat) (y:Cl),Xqd ks (iU 25)=true→(κ ((0+(θ (k:Int)))*2) CC)=cC y++r→k<2^62→(decide ((k:Int)<(m:Int)))=true→∀ nt,117≤nt→ag prog ap h0 nt (ah 3 (af f94)) (lp ks ks nv lv sv C n O q x ci CC m k) .normal (lp (gB ks (cA y)) ks nv lv (eH ks sv (cA y) (.bool false)) C n O q x ci CC m (k+1))
 en:∀ (ks nv lv sv C:List AV) (n:Nat) (O:List AV) (q:Nat) (x:Cl) (ci:Bool) (CC:List AV) (m:Nat),∀ nt,117≤nt→ag prog ap h0 nt (ah 3 (af f94)) (lp ks ks nv lv sv C n O q x ci CC m m) (.exit 3) (lq ks nv lv sv C n O q x ci CC m)
def unS (S l:List Cl):List Cl:=l.foldl (fun S x=>S.filter fun y=>decide (y ≠ x)) S
theorem Ve:∀ (l S:List Cl),unS S l=S.filter fun y=>decide (y ∉ l)
 | [],S=>by
  show S=_;rw [List.filter_eq_self.2];intro a _;simp
 |x::l,S=>by
  show unS (S.filter fun y=>decide (y ≠ x)) l=_;rw [Ve l,Xjv];refine Xxv fun y _=> ?_
  by_cases h1:y=x<;>by_cases h2:y ∈ l<;>simp [h1,h2]
theorem Vd {S:List Cl} (b:S.Nodup) (k:Nat):unS S (S.drop k)=S.take k:=by
 rw [Ve];have e:S.take k++S.drop k=S:=Xq4 k S;have d:∀ y ∈ S.take k,y ∉ S.drop k:=by
  rw [← e,Xq6] at b;intro y f h;exact b.2.2 y f y h rfl
 conv=>lhs;arg 2;rw [← e]
 rw [List.filter_append,List.filter_eq_self.2 fun y a=>Yq0 (d y a),List.filter_eq_nil_iff.2,μ];intro y a;simp [a]
theorem VV (p:List Cl) (y:Cl) (r:List Cl):(κ ((0+(θ (p.length:Int)))*2) (cL (p++y::r)))=cC y++cL r:=by
 have:∀ p:List Cl,(cL p).length=p.length*2:=fun p=>by
  induction p with
  |nil=>rfl
  |cons a p ih=>show (cC a++cL p).length=_;rw [η,ih];simp [cC];omega
 have e:cL (p++y::r)=cL p++(cC y++cL r):=by simp [cL]
 rw [e];have:(0+(θ (p.length:Int)))*2=(cL p).length:=by rw [this];simp
 rw [this,Xjt]
theorem O9.loop {h0:List az} {k:LP} {t:LQ} (F:O9 h0 k t) {o l:List Cl} (m:o.Nodup) (u:∀ y ∈ l,y ∈ o) (a:l.length<2^62) (f d C:List AV) (n:Nat) (O:List AV) (q:Nat) (x:Cl) (i:Bool) {nt:Nat} (b:117≤nt):∀ (r p S:List Cl),l=p++r→aN prog ap h0 nt (ah 3 (af f94)) (fun _:St=> .exit 3) (id:St→St) id (k (o.map cA) (o.map cA) f d (Ij o S) C n O q x i (cL l) l.length p.length) (t (o.map cA) f d (Ij o (unS S r)) C n O q x i (cL l) l.length)
 | [],p,S,e=>by
  rw [μ] at e;refine .done ?_;rw [← e];exact F.en _ _ _ _ _ _ _ _ _ _ _ _ nt b
 |y::r,p,S,e=>by
  have j:y ∈ o:=u y (by rw [e];simp);have h:=F.go (o.map cA) f d (Ij o S) C n O q x i (cL l) (cL r) l.length p.length y (dM _) (by rw [e];exact VV p y r) (by rw [e] at a;rw [η] at a;omega) (Yq0 (by rw [e,η,τ];omega)) nt b;rw [Dp j,Dq _ _ j (Hw o S),Xg m] at h;have s:=F.loop m u a f d C n O q x i b r (p++ [y]) (S.filter fun z=>decide (z ≠ y)) (by simp [e]);rw [η] at s;exact .next h s
theorem O9.ok {h0:List az} {i:LP} {f:LQ} (F:O9 h0 i f) {s:TC} (m:s.ord.Nodup) (hs:s.stack.Nodup) (j:∀ y ∈ s.stack,y ∈ s.ord) (p:s.stack.length<2^62) (k:Nat) (b a C:List AV) (n:Nat) (O:List AV) (q:Nat) (x:Cl) (e:Bool):
  bG prog ap h0 117 (.block 3 (.loop (ah 3 (af f94)))) (i (iM s) (iM s) b a (mG s) C n O q x e (cL (s.stack.drop k)) (s.stack.drop k).length 0) .normal (f (iM s) b a (Ij s.ord (s.stack.take k)) C n O q x e (cL (s.stack.drop k)) (s.stack.drop k).length):=by
 have h:=fun nt d=>F.loop (o:=s.ord) (l:=s.stack.drop k) m (fun y r=>j y (Xja r)) (by rw [Xxb];omega) b a C n O q x e (nt:=nt) d (s.stack.drop k) [] s.stack rfl
 rw [Vd hs] at h;exact aN.blk (id:=3) (e':= .normal) h (by simp) rfl (aH.refl _) (aH.refl _)
theorem K_ {C:List AV} {n:Nat} {l:List Cl} (c:Cl) (f:C.take (n*2)=cL l) (b:l.length=n) (a:l.length<2^40):ae prog ap 95 [.ref 0 0 0 n,cA c] [⟨C,0,false,0,2,true⟩] (.ret (ω (ixI l c))) [⟨C,0,false,0,2,true⟩]:=by
 have d:fP (frz (ax [⟨C,0,false,0,2,true⟩]) 6) [.ref 0 0 0 n,cA c]=some [.sl (cL l) n true,cA c]:=by
  have e:(C.drop (0*2)).take (n*2)=cL l:=by rw [Xjp,Xzq,f]
  have h:fP (frz (ax [⟨C,0,false,0,2,true⟩]) 6) [.ref 0 0 0 n,cA c]=some [.sl ((C.drop (0*2)).take (n*2)) n true,cA c]:=rfl;rw [e] at h;exact h
 have h:=Jd l true c a;rw [b] at h;exact ae.lend d rfl h
abbrev L0S (h0:List az) (lg:LG) (lx:LX) (ks nv lv sv C:List AV) (n:Nat) (O:List AV) (q:Nat) (us:List Cl) (x:Cl) (n1:Nat) (ks2 nv2 lv2 sv2 C2:List AV) (n2:Nat) (O2:List AV) (q2:Nat):Prop:=
 bG prog ap h0 117 (.block 0 (.loop (ah 0 (af f94)))) (lg (gB ks (cA x)) (gB ks (cA x)) (eH ks nv (cA x) (nI n1)) (eH ks lv (cA x) (nI n1)) (eH ks sv (cA x) (.bool true)) (Xqk (n*2) C++ [ω x.1,ω x.2]) (n+1) O q us x 0) .normal (lx ks2 nv2 lv2 sv2 C2 n2 O2 q2 x)
abbrev Gu (uk uv:List AV) (x:Cl) (us:List Cl):Prop:=bF (Xqc (bu uk uv (cA x)) (.nilS)) (.sl (cL us) us.length false)
abbrev NoT (uk uv:List AV) (gi go:GF) (lg:LG) (lx:LX):Prop:=∀ (ks nv lv sv ks2 nv2 lv2 sv2 C:List AV) (n:Nat) (O:List AV) (q:Nat) (C2:List AV) (n2:Nat) (O2:List AV) (q2:Nat) (us:List Cl) (x:Cl) (n1 lc nc:Nat),Xqd ks2 (iU 25)=true→Xqd ks (iU 25)=true→Xqq (n+1) 1099511627776=true→Xqq (n*2) (Xqb C)=true→Xqd (gB ks (cA x)) (iU 25)=true→((lc:Int)==(nc:Int))=false→qO ks2 nv2 x=nI nc→qO ks2 lv2 x=nI lc→Gu uk uv x us→qO (gB ks (cA x)) (eH ks nv (cA x) (nI n1)) x=nI n1→ω (ν .i64 ((((Xqb ks):Nat):Int)+((1:Nat):Int)))=nI n1→
 L0S (gi ks nv lv sv C n O q) lg lx ks nv lv sv C n O q us x n1 ks2 nv2 lv2 sv2 C2 n2 O2 q2→ae prog ap 94 (QD x) (gi ks nv lv sv C n O q) (.ret (.tup [])) (go ks2 nv2 lv2 sv2 C2 n2 O2 q2)
abbrev ZX (uk uv:List AV) (Q:List AV→Nat→Prop) (gi go:GF) (lg:LG) (lx:LX) (lp:LP) (lq:LQ) (lr:Vy) (le:LE2):Prop:=∀ (ks nv lv sv ks2 nv2 lv2 sv2 sv3 C:List AV) (n:Nat) (O:List AV) (q:Nat) (C2:List AV) (n2:Nat) (O2:List AV) (q2:Nat) (O3:List AV) (q3:Nat) (us:List Cl) (x:Cl) (n1 lc nc ki m:Nat) (g1 ct:Bool) (CC CS:List AV),Q C n→decide ((ki:Int)≤(n2:Int))=true→Xqd ks2 (iU 25)=true→Xqd ks (iU 25)=true→Xqq (n+1) 1099511627776=true→Xqq (n*2) (Xqb C)=true→Xqd (gB ks (cA x)) (iU 25)=true→((lc:Int)==(nc:Int))=true→AV.bool (decide (((1:Nat):Int)<(ν .i64 ((n2:Int) - (ki:Int)))))= .bool g1→n2 - ki=m→qO ks2 nv2 x=nI nc→qO ks2 lv2 x=nI lc→Gu uk uv x us→qO (gB ks (cA x)) (eH ks nv (cA x) (nI n1)) x=nI n1→ω (ν .i64 ((((Xqb ks):Nat):Int)+((1:Nat):Int)))=nI n1→
 ae prog ap 95 [.ref 0 0 0 n2,cA x] [⟨C2,0,false,0,2,true⟩] (.ret (nI ki)) [⟨C2,0,false,0,2,true⟩]→ae prog ap 96 [.ref 0 0 ki m] [⟨C2,0,false,0,2,true⟩] (.ret (.own CC m 2)) [⟨C2,0,false,0,2,true⟩]→CO 97 [.sl (cL us) us.length false,cA x] (.ret (.bool ct))→ae prog ap 40 [.ref 0 0 0 m,.fn 41 [] []] [⟨CC,0,false,0,2,true⟩] (.ret (.tup [])) [⟨CS,0,false,0,2,true⟩]→
 L0S (gi ks nv lv sv C n O q) lg lx ks nv lv sv C n O q us x n1 ks2 nv2 lv2 sv2 C2 n2 O2 q2→
 bG prog ap (gi ks nv lv sv C n O q) 117 (.block 3 (.loop (ah 3 (af f94)))) (lp ks2 ks2 nv2 lv2 sv2 C2 ki O2 q2 x (g1||ct) CC m 0) .normal (lq ks2 nv2 lv2 sv3 C2 ki O2 q2 x (g1||ct) CC m)→
 bG prog ap (gi ks nv lv sv C n O q) 117 (dI 23 (af f94)) (lr ks2 nv2 lv2 sv3 C2 ki O2 q2 (g1||ct) CS m) .normal (le ks2 nv2 lv2 sv3 C2 ki O3 q3)→
 ae prog ap 94 (QD x) (gi ks nv lv sv C n O q) (.ret (.tup [])) (go ks2 nv2 lv2 sv3 C2 ki O3 q3)
abbrev aca (own:Bool) (h0:List az) (lr:Vy) (le:LE2):Prop:=∀ (ks nv lv sv C:List AV) (n:Nat) (O:List AV) (q:Nat) (ci:Bool) (CS:List AV) (m:Nat) (l:List Cl),(own=false→O= []∧q=0)→CS.take (m*2)=cL l→Xqq (q+1) 1099511627776=true→Xqq (q*2) (Xqb O)=true→bG prog ap h0 117 (dI 23 (af f94)) (lr ks nv lv sv C n O q ci CS m) .normal (le ks nv lv sv C n (Xqk (q*2) O++ [.bool ci,.sl (cL l) m true]) (q+1))
section
variable {V:List Cl} {w:Cl→List Cl} {g:List Cl} {c:Cl} {uk uv:List AV} {s0 s1:TC} {lg:LG} {lx:LX} {lp:LP} {lq:LQ} {lr:Vy} {le:LE2} {gi go:GF}
structure wB (V:List Cl) (w:Cl→List Cl) (srt:List Cl→List Cl) (uk uv:List AV):Prop where
 cl:∀ x ∈ V,∀ y ∈ w x,y ∈ V
 few:V.length<2^32
 us:∀ x ∈ V,Gu uk uv x (w x)
 uk:Xqd uk (iU 25)=true
 ul:∀ x ∈ V,(w x).length<2^40
 perm:∀ l,(srt l).Perm l
 sort:∀ l:List Cl,(∀ x ∈ l,x ∈ V)→l ≠ []→l.length<2^32→ae prog ap 40 [.ref 0 0 0 l.length,.fn 41 [] []] [cB l] (.ret (.tup [])) [cB (srt l)]
theorem xH:∀ {o V:List Cl},o.Nodup→(∀ x ∈ o,x ∈ V)→o.length≤V.length
 | [],_,_,_=>Xqn _
 |x::o,V,hn,hs=>by
  rw [Xxo] at hn;have h:=xH (o:=o) (V:=V.erase x) hn.2 fun y d=>(List.mem_erase_of_ne (a:=y) (b:=x) (fun e=>hn.1 (by rw [← e];exact d))).2 (hs y (by simp [d]))
  have f:x ∈ V:=hs x (by simp);have i:=Xjg f;rw [List.length_erase_of_mem f] at h;rw [τ];omega
theorem iR.stN {s:TC} (h:iR w s g):s.stack.Nodup:=h.sub.nodup h.nd
theorem Ol:∀ (o:List (List Cl × Bool)),(∀ C ∈ o,C.1 ≠ [])→o.length≤(o.flatMap (·.1)).length
 | [],_=>ζ _
 |C::o,h=>by
  have b:=Ol o fun C a=>h C (Θ _ a)
  have d:=List.length_pos_iff.2 (h C (by simp));rw [Xqa,η,τ];omega
theorem iR.outF {s:TC} (h:iR w s g):s.out.length≤s.ord.length:=by
 refine Xqg (Ol _ h.ne) (xH h.ond fun x a=> ?_);obtain ⟨C,b,a⟩:=List.mem_flatMap.1 a;exact ((h.outs x).2 ⟨C,b,a⟩).1
theorem GZ:∀ o:List (List Cl × Bool),(oL o).length=o.length*2
 | []=>rfl
 |z::o=>by
  show (([.bool z.2,.sl (cL z.1) z.1.length true]:List AV)++oL o).length=_;rw [η,GZ o,τ];simp;omega
theorem TF {s:TC} {C:List AV} (h:pU s C):s.stack.length*2≤C.length:=by
 have a:=congrArg Xqb h;rw [dF,Xqm] at a;omega
theorem aa6 {s:TC} {O:List AV} (h:yH s O):s.out.length*2≤O.length:=by
 have a:=congrArg Xqb h;rw [GZ,Xqm] at a;omega
end
theorem F8 (l:List Cl) (k:Nat):(cL l).take (k*2)=cL (l.take k):=by
 induction l generalizing k with
 |nil=>simp [cL]
 | cons x l ih=>
  cases k with
  |zero=>simp [cL]
  |succ k=>
   have e:cL (x::l)=cC x++cL l:=rfl;have a:(k+1)*2=(cC x).length+k*2:=by simp [cC];omega
   rw [e,a,List.take_length_add_append,ih];rfl
theorem QQ (l:List Cl) (k:Nat):(cL l).drop (k*2)=cL (l.drop k):=by
 induction l generalizing k with
 |nil=>simp [cL]
 | cons x l ih=>
  cases k with
  |zero=>simp [cL]
  |succ k=>
   have e:cL (x::l)=cC x++cL l:=rfl;have a:(k+1)*2=(cC x).length+k*2:=by simp [cC];omega
   rw [e,a,List.drop_length_add_append,ih];rfl
abbrev WS (s:TC) (c:Cl) (C:List AV):List AV:=Xqk (s.stack.length*2) C++cC c
section
variable {V:List Cl} {w:Cl→List Cl} {srt:List Cl→List Cl} {g:List Cl} {c:Cl} {uk uv:List AV} {s0 s1:TC} {lg:LG} {lx:LX} {lp:LP} {lq:LQ} {lr:Vy} {le:LE2} {gi go:GF} {h0:List az} {C O C2 O2:List AV}
theorem TG (h:pU s0 C):pU (bK c s0) (WS s0 c C):=by
 have e:WS s0 c C=cL (s0.stack++ [c]):=by
  unfold WS;rw [h];simp [cL]
 unfold pU;rw [e];show (cL (s0.stack++ [c])).take ((s0.stack++ [c]).length*2)=_;rw [F8,Xjj];rfl
theorem Oh (a:c ∉ s0.ord):gB (iM s0) (cA c)=iM (bK c s0):=xw a
theorem Yp (a:c ∉ s0.ord):eH (iM s0) (kC s0) (cA c) (nI (s0.ord.length+1))=kC (bK c s0):=by
 rw [lY _ _ a (N9 _)];show _=WR (s0.ord++ [c]).length;rw [η,Xxw,TA]
theorem ael (a:s0.low.length=s0.ord.length) (b:c ∉ s0.ord):eH (iM s0) (kH s0) (cA c) (nI (s0.ord.length+1))=kH (bK c s0):=by
 rw [lY _ _ b (by rw [GM,a])];show _=Vs (s0.low++ [s0.ord.length+1]);simp [Vs]
theorem aem (a:c ∉ s0.ord):eH (iM s0) (mG s0) (cA c) (.bool true)=mG (bK c s0):=by
 rw [lY _ _ a (Hw _ _)];exact (UL a).symm
theorem Yn (b:iR w s0 g) (a:c ∉ s0.ord) (L:LR h0 (SH lg (bK c s0) (WS s0 c C) O (w c) c 0) (lxS lx s1 C2 O2 c)):L0S h0 lg lx (iM s0) (kC s0) (kH s0) (mG s0) C s0.stack.length O s0.out.length (w c) c (s0.ord.length+1) (iM s1) (kC s1) (kH s1) (mG s1) C2 s1.stack.length O2 s1.out.length:=by
 have h:=aN.blk (id:=0) (e':= .normal) L (by simp) rfl (aH.refl _) (aH.refl _);unfold SH lxS at h;rw [show (bK c s0).stack.length=s0.stack.length+1 from by show (s0.stack++ [c]).length=_;simp] at h;rw [← Oh a,← Yp a,← ael b.ll a,← aem a] at h;exact h
theorem Yo (a:c ∉ s0.ord):qO (gB (iM s0) (cA c)) (eH (iM s0) (kC s0) (cA c) (nI (s0.ord.length+1))) c=nI (s0.ord.length+1):=by
 rw [Oh a,Yp a];have h:=xk (o:=(bK c s0).ord) (x:=c);rw [if_pos (by show c ∈ s0.ord++ [c];simp)] at h;have e:(bK c s0).ord.idxOf c=s0.ord.length:=by
  show (s0.ord++ [c]).idxOf c=_;rw [Xzn,if_neg a,Xzw];simp
 rw [e] at h;exact h
theorem aa5 {s:TC} {x:Cl} (h:x ∈ s.ord):qO (iM s) (kC s) x=nI (bV s x):=by
 have a:=xk (o:=s.ord) (x:=x);rw [if_pos h,← GY] at a;exact a
theorem Az (W:wB V w srt uk uv) (b:iR w s0 g) (a:∀ x ∈ s0.ord,x ∈ V):s0.ord.length<2^32:=Xjk (xH b.nd a) W.few
theorem yR (W:wB V w srt uk uv) (b:iR w s0 g) (a:∀ x ∈ s0.ord,x ∈ V):s0.stack.length<2^32:=Xjk b.sub.length_le (Az W b a)
theorem Tz (W:wB V w srt uk uv) (N:NoT uk uv gi go lg lx) (e:iR w s0 g) (d:c ∉ s0.ord) (b:c ∈ V) (a:∀ x ∈ s0.ord,x ∈ V) (l:pU s0 C) (h:wu w g c s0 s1 (w c)) (j:bY s1 c ≠ bV s1 c)
  (L:LR (gi (iM s0) (kC s0) (kH s0) (mG s0) C s0.stack.length O s0.out.length) (SH lg (bK c s0) (WS s0 c C) O (w c) c 0) (lxS lx s1 C2 O2 c)):
  ae prog ap 94 (QD c) (gi (iM s0) (kC s0) (kH s0) (mG s0) C s0.stack.length O s0.out.length) (.ret (.tup [])) (go (iM s1) (kC s1) (kH s1) (mG s1) C2 s1.stack.length O2 s1.out.length):=by
 have k:=Az W e a;have i:=yR W e a;have f:ω (ν .i64 ((((Xqb (iM s0)):Nat):Int)+((1:Nat):Int)))=nI (s0.ord.length+1):=by
  rw [Xxa,xN (by omega)]
 exact N (iM s0) (kC s0) (kH s0) (mG s0) (iM s1) (kC s1) (kH s1) (mG s1) C s0.stack.length O s0.out.length C2 s1.stack.length O2 s1.out.length (w c) c (s0.ord.length+1) (bY s1 c) (bV s1 c) (dM _) (dM _) (ξ (by omega)) (ξ (TF l)) (by rw [Oh d];exact dM _)
  (by rw [Yq2];omega) (aa5 h.cO) (SV h.inv.ll h.cO) (W.us c b) (Yo d) f (Yn e d L)
end
section
variable {V:List Cl} {w:Cl→List Cl} {srt:List Cl→List Cl} {g:List Cl} {c:Cl} {uk uv:List AV} {s0 s1:TC} {lg:LG} {lx:LX} {lp:LP} {lq:LQ} {lr:Vy} {le:LE2} {gi go:GF} {h0:List az} {C O C2 O2:List AV}
theorem uZ {s:TC} (h:bY s c=bV s c):dL w srt c s={s with stack:=s.stack.take (s.stack.idxOf c),out:=s.out++ [(srt (s.stack.drop (s.stack.idxOf c)),decide (1<(s.stack.drop (s.stack.idxOf c)).length)||decide (c ∈ w c))]}:=by
 have d:@List.idxOf Cl instBEqOfDecidableEq c s.stack=s.stack.idxOf c:=by rw [MS]
 unfold dL;rw [if_pos h,d];have e:∀ a b:Decidable (c ∈ w c),@decide _ a=@decide _ b:=fun a b=>by rw [Subsingleton.elim a b]
 exact congrArg (fun b=>(⟨s.ord,s.low,s.stack.take (s.stack.idxOf c),s.out++ [(srt (s.stack.drop (s.stack.idxOf c)),decide (1<(s.stack.drop (s.stack.idxOf c)).length)||b)]⟩:TC)) (e _ _)
theorem xX {s:TC} (h:bY s c ≠ bV s c):dL w srt c s=s:=by
 unfold dL;rw [if_neg h]
abbrev WV (w:Cl→List Cl) (srt:List Cl→List Cl) (c:Cl) (s:TC) (O:List AV):List AV:=Xqk (s.out.length*2) O++ [.bool (decide (1<(s.stack.drop (s.stack.idxOf c)).length)||decide (c ∈ w c)),.sl (cL (srt (s.stack.drop (s.stack.idxOf c)))) (srt (s.stack.drop (s.stack.idxOf c))).length true]
theorem xq {s:TC} (h:bY s c=bV s c) (d:c ∈ s.stack) (a:pU s C):pU (dL w srt c s) C:=by
 rw [uZ h];have b:=Xqs d;unfold pU at a ⊢;show C.take ((s.stack.take (s.stack.idxOf c)).length*2)=cL (s.stack.take (s.stack.idxOf c));rw [Xqm,Xz3 (Nat.le_of_lt b),← F8,← a,List.take_take,Xz3 (by omega)]
theorem xu {s:TC} (h:bY s c=bV s c) (a:yH s O):yH (dL w srt c s) (WV w srt c s O):=by
 rw [uZ h];unfold WV;rw [a];generalize (decide (1<(s.stack.drop (s.stack.idxOf c)).length)||decide (c ∈ w c))=b;generalize srt (s.stack.drop (s.stack.idxOf c))=l;have e:oL s.out++ [.bool b,.sl (cL l) l.length true]=oL (s.out++ [(l,b)]):=by simp [oL]
 unfold yH;rw [e];show (oL (s.out++ [(l,b)])).take ((s.out++ [(l,b)]).length*2)=_;rw [← GZ,Xjj]
theorem xn {own:Bool} {Q:List AV→Nat→Prop} (W:wB V w srt uk uv) (F:Q C s0.stack.length) (P:ZX uk uv Q gi go lg lx lp lq lr le) (FP:O9 (gi (iM s0) (kC s0) (kH s0) (mG s0) C s0.stack.length O s0.out.length) lp lq) (E:aca own (gi (iM s0) (kC s0) (kH s0) (mG s0) C s0.stack.length O s0.out.length) lr le)
  (hi:iR w s0 g) (hc:c ∉ s0.ord) (hcV:c ∈ V) (hV0:∀ x ∈ s0.ord,x ∈ V) (hC:pU s0 C) (hl:wu w g c s0 s1 (w c)) (hV1:∀ x ∈ s1.ord,x ∈ V) (hC2:pU s1 C2) (hO2:yH s1 O2) (hown:own=false→O2= []∧s1.out.length=0) (heq:bY s1 c=bV s1 c)
  (L:LR (gi (iM s0) (kC s0) (kH s0) (mG s0) C s0.stack.length O s0.out.length) (SH lg (bK c s0) (WS s0 c C) O (w c) c 0) (lxS lx s1 C2 O2 c)):
  ae prog ap 94 (QD c) (gi (iM s0) (kC s0) (kH s0) (mG s0) C s0.stack.length O s0.out.length) (.ret (.tup [])) (go (iM (dL w srt c s1)) (kC (dL w srt c s1)) (kH (dL w srt c s1)) (mG (dL w srt c s1)) C2 (dL w srt c s1).stack.length (WV w srt c s1 O2) (dL w srt c s1).out.length):=by
 have H:=Az W hi hV0;have u:=yR W hi hV0;have z:=Az W hl.inv hV1;have hs32':=yR W hl.inv hV1;have A:=hl.inv.outF;have i:c ∈ s1.stack:=hl.inv.gs c (by simp);have I:=Xqs i;have n:ω (ν .i64 ((((Xqb (iM s0)):Nat):Int)+((1:Nat):Int)))=nI (s0.ord.length+1):=by
  rw [Xxa,xN (by omega)]
 have f:=K_ c hC2 rfl (by omega);have t:ixI s1.stack c=((s1.stack.idxOf c:Nat):Int):=by unfold ixI;rw [if_pos i]
 rw [t] at f;have m:∀ x ∈ s1.stack,x ∈ V:=fun x q=>hV1 x (hl.inv.sub.mem q)
 have o:s1.stack.drop (s1.stack.idxOf c) ≠ []:=fun e=>by have:=congrArg Xqb e;rw [Xxb] at this;simp at this;omega
 have d:=W.sort (s1.stack.drop (s1.stack.idxOf c)) (fun x q=>m x (Xja q)) o (by rw [Xxb];omega);have j:=(W.perm (s1.stack.drop (s1.stack.idxOf c))).length_eq;have a:(s1.stack.drop (s1.stack.idxOf c)).length=s1.stack.length - s1.stack.idxOf c:=Xxb ..;have r:Xqk ((s1.stack.length - s1.stack.idxOf c)*2) (κ (s1.stack.idxOf c*2) C2)=cL (s1.stack.drop (s1.stack.idxOf c)):=by
  rw [← QQ,← hC2,List.drop_take];congr 1;omega
 have k:=QX C2 (s1.stack.idxOf c) (s1.stack.length - s1.stack.idxOf c) (s1.stack.drop (s1.stack.idxOf c)) r a (by omega);have p:CO 97 [.sl (cL (w c)) (w c).length false,cA c] (.ret (.bool (decide (c ∈ w c)))):=IG (w c) false c (W.ul c hcV);have l:=FP.ok (s:=s1) hl.inv.nd hl.inv.stN (fun y G=>hl.inv.sub.mem G) (by omega) (s1.stack.idxOf c) (kC s1) (kH s1) C2 (s1.stack.idxOf c) O2 s1.out.length c (decide (1<(s1.stack.drop (s1.stack.idxOf c)).length)||decide (c ∈ w c));have b:=E (iM s1) (kC s1) (kH s1) (Ij s1.ord (s1.stack.take (s1.stack.idxOf c))) C2 (s1.stack.idxOf c) O2 s1.out.length (decide (1<(s1.stack.drop (s1.stack.idxOf c)).length)||decide (c ∈ w c)) (cL (srt (s1.stack.drop (s1.stack.idxOf c)))) (srt (s1.stack.drop (s1.stack.idxOf c))).length (srt (s1.stack.drop (s1.stack.idxOf c))) hown (by rw [F8,Xjj]) (ξ (by omega)) (ξ (aa6 hO2));rw [a] at d l;rw [j,a] at b;have h:=P (iM s0) (kC s0) (kH s0) (mG s0) (iM s1) (kC s1) (kH s1) (mG s1) (Ij s1.ord (s1.stack.take (s1.stack.idxOf c))) C s0.stack.length O s0.out.length C2 s1.stack.length O2 s1.out.length _ _ (w c) c (s0.ord.length+1) (bY s1 c) (bV s1 c) (s1.stack.idxOf c) (s1.stack.length - s1.stack.idxOf c) (decide (1<s1.stack.length - s1.stack.idxOf c)) (decide (c ∈ w c)) (cL (s1.stack.drop (s1.stack.idxOf c))) (cL (srt (s1.stack.drop (s1.stack.idxOf c))))
  F (Yq0 (by omega)) (dM _) (dM _) (ξ (by omega)) (ξ (TF hC)) (by rw [Oh hc];exact dM _) (by rw [beq_iff_eq];omega)
  (by rw [xO (by omega) (by omega)];congr 1;rw [decide_eq_decide];omega) rfl (aa5 hl.cO) (SV hl.inv.ll hl.cO) (W.us c hcV) (Yo hc) n f k p d (Yn hi hc L) l b
 have B:(s1.stack.take (s1.stack.idxOf c)).length=s1.stack.idxOf c:=by rw [Xqm];omega
 have D:=j.trans a;rw [uZ heq];unfold WV;rw [D];show ae prog ap 94 (QD c) _ _ (go (iM s1) (kC s1) (kH s1) (Ij s1.ord (s1.stack.take (s1.stack.idxOf c))) C2 (s1.stack.take (s1.stack.idxOf c)).length _ (s1.out++ [_]).length);rw [B,η,Xxw,a];exact h
end
abbrev gN (uk uv:List AV):GF:=fun ks nv lv sv _ _ _ _=>gsN ks nv lv sv uk uv
abbrev gX (uk uv:List AV):GF:=fun ks nv lv sv C n O q=>gsX ks nv lv sv uk uv C n O q
abbrev qN:List AV→Nat→Prop:=fun C n=>C= []∧n=0
abbrev qT:List AV→Nat→Prop:=fun _ _=>True
inductive Fv where
 |A|B|C|D|E
def uj:Fv→Option Nat
 | .A=>none
 | .C=>none
 | .E=>some 1
 |_=>some 0
def fvF:Fv→Bool
 | .A=>true
 | .B=>true
 |_=>false
def fvL:Fv→List Nat
 | .A=> []
 | .B=> []
 | .E=> [9,12]
 |_=> [9]
def Qx:Fv→Bool→Fv
 | .A,true=> .B
 | .C,true=> .D
 |v,_=>v
def Yi (b:Nat):az:=⟨[.mr b 0],0,false,0,0,false⟩
def Yh (k v:List AV):az:=⟨[.agg k,.agg v],0,false,0,4611686018427387904,true⟩
def L9 (C:List AV) (v:Nat):az:=⟨C,v,false,0,2,true⟩
def rfB (b v n:Nat):az:=⟨[.ref b v 0 n],0,false,0,0,false⟩
def oB (q:Nat):Option Nat→az
 |none=> ⟨[.nilS],0,false,0,0,true⟩
 |some v=>rfB 12 v q
def oT (O:List AV):Option Nat→Hp
 |none=> []
 |some v=> [(12,L9 O v)]
def nx:Option Nat→Nat
 |none=>12
 |some _=>13
section
variable (uk uv:List AV)
def KY (fr:Bool) (o:Option Nat) (kl kt ks nv lv sv C:List AV) (n:Nat) (O:List AV) (q:Nat) (r:Hp):Hp:=match fr with
 |true=> [(0,Yi 7),(1,Yi 8),(2,rfB 11 0 n),(3,Yi 9),(4,Yi 10),(5,⟨[.fn 94 [] [.ptr 0 0 0,.ptr 1 0 0,.ptr 2 0 0,.ptr 3 0 0,.ptr 4 0 0,.ptr 5 0 0,.ptr 6 0 0]],0,false,0,0,false⟩),(6,oB q o),(7,Yh ks nv),(8,Yh kl lv),(9,Yh kt sv),(10,Yh uk uv),(11,L9 C 0)]++(oT O o++r)
 |false=> [(0,Yi 7),(1,Yi 8),(2,rfB 9 1 n),(3,Yi 10),(4,Yi 11),(5,⟨[.fn 94 [] [.ptr 0 0 0,.ptr 1 0 0,.ptr 2 0 0,.ptr 3 0 0,.ptr 4 0 0,.ptr 5 0 0,.ptr 6 0 0]],0,false,0,0,false⟩),(6,oB q o),(7,Yh ks nv),(8,Yh kl lv),(9,L9 C 1),(10,Yh kt sv),(11,Yh uk uv)]++(oT O o++r)
def eF (o:Option Nat) (r:dG):dG:= [(1,.ptr 0 0 0),(2,.ptr 1 0 0),(3,.ptr 2 0 0),(4,.ptr 3 0 0),(5,.ptr 4 0 0),(6,.ptr 5 0 0),(7,.ptr 6 0 0),(8,.ptr (nx o) 0 0)]++r
def xBk (x:Cl):az:=⟨[ω x.1,ω x.2],0,false,0,0,true⟩
def lgF (v:Fv):LG:=fun kl ks nv lv sv C n O q us x k=> ⟨eF (uj v) [(33,.sl (cL us) us.length false),(34,nI us.length),(35,nI k)],KY uk uv (fvF v) (uj v) kl ks ks nv lv sv C n O q [(nx (uj v),xBk x)],.dead,[]⟩
def lxF (v:Fv):LX:=fun ks nv lv sv C n O q x=> ⟨eF (uj v) [],KY uk uv (fvF v) (uj v) ks ks ks nv lv sv C n O q [(nx (uj v),xBk x)],.dead,[]⟩
def kBk (ci:Bool) (b m:Nat):az:=⟨[.bool ci,.ref b 0 0 m],0,false,0,0,false⟩
def lpF (v:Fv):LP:=fun kl ks nv lv sv C n O q x ci CC m k=> ⟨eF (uj v) [(12,.ptr (nx (uj v)+1) 0 0),(101,.ref (nx (uj v)+2) 0 0 m),(102,nI m),(103,nI k)],KY uk uv (fvF v) (uj v) ks kl ks nv lv sv C n O q [(nx (uj v),xBk x),(nx (uj v)+1,kBk ci (nx (uj v)+2) m),(nx (uj v)+2,L9 CC 0)],.dead,[]⟩
def lqF (v:Fv):LQ:=fun ks nv lv sv C n O q x ci CC m=> ⟨eF (uj v) [(12,.ptr (nx (uj v)+1) 0 0)],KY uk uv (fvF v) (uj v) ks ks ks nv lv sv C n O q [(nx (uj v),xBk x),(nx (uj v)+1,kBk ci (nx (uj v)+2) m),(nx (uj v)+2,L9 CC 0)],.dead,[]⟩
def lrF (v:Fv):Vy:=fun ks nv lv sv C n O q ci CS m=> ⟨[(7,.ptr 6 0 0),(12,.ptr (nx (uj v)) 0 0)],KY uk uv (fvF v) (uj v) ks ks ks nv lv sv C n O q [(nx (uj v),kBk ci (nx (uj v)+1) m),(nx (uj v)+1,L9 CS 0)],.dead,[]⟩
def leF (v:Fv):LE2:=fun ks nv lv sv C n O q=> ⟨[],KY uk uv (fvF v) (some ((uj v).getD 0)) ks ks ks nv lv sv C n O q [],.dead,[]⟩
def gI:Fv→GF
 | .A=>gN uk uv
 | .B=>gN uk uv
 | .E=>gO 0 0 uk uv
 |_=>gS 0 uk uv
def gF (v:Fv):GF:=match (uj v) with
 |none=>gS 0 uk uv
 |some _=>gO 0 0 uk uv
def gE (v:Fv) (b:Bool):GF:=match (uj v),b with
 |none,false=>gS 1 uk uv
 |none,true=>gO 1 0 uk uv
 |some _,_=>gO 1 1 uk uv
theorem fb (v:Fv) (k0 F G s0 C0:List AV) (m0:Nat) (O0:List AV) (D:Nat):O8 (gI uk uv v k0 F G s0 C0 m0 O0 D) (lgF uk uv v) (lxF uk uv v) where
 vb:=fun ks A z B C n O q us x p r y H I J E i t a u hs s b o e nt l=>by
  have j:=bI (f:=cC) (n:=2) (fun _=>rfl) i;change κ _ (cL us)=cC y++cL r at j;have h:p.length<us.length:=jm i;have m:p.length<2^62:=by omega
  have d:(decide ((p.length:Int)<(us.length:Int)))=true:=kl h;clear i;generalize p.length=k at*
  cases v<;>exact pN 94 [] 3 5 (.k 1 a (.k 1 a (.k 4 a (.k 6 (aQ hs) (.k 1 a (.k 3 (aX u) (.k 1 a (.k 7 d (.c (aQ d) .nil))))))))) (.v 69 (.eq (wpS m)) (.v 68 (.eq s) (.v 67 (.eq b) (.v 64 (.eq o) (.v 59 (.eq e) (.v 42 (.eq b) (.v 37 (.ppt j) .nil))))))) l
 vc:=fun ks A z B C n O q us x p r y H E i t a u hs e b nt l=>by
  have j:=bI (f:=cC) (n:=2) (fun _=>rfl) i;change κ _ (cL us)=cC y++cL r at j;have h:p.length<us.length:=jm i;have m:p.length<2^62:=by omega
  have d:(decide ((p.length:Int)<(us.length:Int)))=true:=kl h;clear i;generalize p.length=k at*
  cases v<;>exact pN 94 [] 3 1 (.c (aX hs) (.k 1 a (.k 3 (aX u) (.k 1 a (.k 7 d (.c (aQ d) .nil)))))) (.v 69 (.eq (wpS m)) (.v 59 (.eq e) (.v 42 (.eq b) (.v 37 (.ppt j) .nil)))) l
 vx:=fun ks A z B C n O q us x nt l=>by
  have d:(decide ((us.length:Int)<(us.length:Int)))=false:=kn (ζ _);cases v<;>exact pN 94 [] 1 0 (.c (aX d) .nil) .nil l
theorem fa (v:Fv) (b:Bool) (k0 E D s0 C0:List AV) (m0:Nat) (O0:List AV) (A:Nat):Kr (gI uk uv v k0 E D s0 C0 m0 O0 A) (gF uk uv v) (gE uk uv v b) (lgF uk uv v) (lgF uk uv (Qx v b)):=fun ks S R U C n O q us x p r y J G F z C2 K O2 N T M Q P m H l I i e h d a u nt B=>by
  have s:=bI (f:=cC) (n:=2) (fun _=>rfl) m;change κ _ (cL us)=cC y++cL r at s;have j:p.length<us.length:=jm m;have t:p.length<2^62:=by omega
  have o:(decide ((p.length:Int)<(us.length:Int)))=true:=kl j;clear m;generalize p.length=k at*
  let L:=fvL v
  cases v<;>cases b<;>exact pV L 94 [] 2 3 (.k 1 a (.k 1 a (.k 4 a (.k 9 (aQ I) (.k 1 l (.k 7 o (.c (aQ o) .nil))))))) (.v 69 (.eq (wpS t)) (.v 55 (.eq i) (.v 54 (.eq e) (.v 51 (.eq h) (.c u (.v 42 (.eq d) (.v 37 (.ppt s) .nil))))))) B rfl
theorem fp (v:Fv) (k0 l o s0 C0:List AV) (m0:Nat) (O0:List AV) (i:Nat):O9 (gI uk uv v k0 l o s0 C0 m0 O0 i) (lpF uk uv v) (lqF uk uv v) where
 go:=fun ks p j h C n O q x s CC r m k y d e f a nt b=>by
  cases v<;>exact pN 94 [] 1 1 (.k 1 d (.n 4 (.a (bU [.int .i64,.int .i64] e rfl) (.k 1 a (.c (aQ a) .nil))))) (.v 109 (.eq (wpS f)) (.v 106 (.rd [.int .i64,.int .i64] e rfl) .nil)) b
 en:=fun ks p j h C n O q x s CC m nt b=>by
  have a:(decide (((m:Nat):Int)<((m:Nat):Int)))=false:=kn (ζ _);cases v<;>exact pN 94 [] 1 0 (.c (aX a) .nil) .nil b
abbrev fvW:Fv→Bool
 | .A=>false
 | .C=>false
 |_=>true
theorem fe (v:Fv) (k0 j k s0 C0:List AV) (m0:Nat) (O0:List AV) (r:Nat):aca (fvW v) (gI uk uv v k0 j k s0 C0 m0 O0 r) (lrF uk uv v) (leF uk uv v):=
 fun ks o i p C n O q e CS m l h0 s d a nt f=>by
  have b:AV.sl (Xqk (m*2) (κ (0*2) CS)) m true= .sl (cL l) m true:=by rw [Xjp,Xzq,s]
  have h:ag prog ap (gI uk uv v k0 j k s0 C0 m0 O0 r) nt (dI 23 (af f94)) ⟨[(7,.ptr 6 0 0),(12,.ptr (nx (uj v)) 0 0)],KY uk uv (fvF v) (uj v) ks ks ks o i p C n O q [(nx (uj v),⟨[.bool e,.sl (cL l) m true],0,false,0,0,true⟩)],.dead,[]⟩ .normal (leF uk uv v ks o i p C n (Xqk (q*2) O++ [.bool e,.sl (cL l) m true]) (q+1)):=by
   let L:=fvL v
   cases v<;>first
    |(obtain ⟨rfl,rfl⟩:=h0 rfl;exact pV L 94 [] 1 0 (.n 7 .nil) .nil f rfl)
    |exact pV L 94 [] 0 0 (.k 2 d (.c a (.n 4 .nil))) .nil f rfl
  let nz:=nx (uj v)+1
  cases v<;>refine ag.ahead nz (L9 CS 0) h (Nat.le_of_ble_eq_true rfl) rfl ⟨Fz.same rfl,Fz.same rfl,trivial⟩ ?_<;>repeat' first
   |exact rfl
   |exact Ee.same rfl
   |exact ⟨rfl,rfl,rfl,rfl,.inr ⟨.cons (.same rfl) .nil,fun h=>by cases h⟩⟩
   |exact ⟨rfl,rfl,rfl,rfl,.inr ⟨.cons (.same rfl) (.cons (.fit .ref (bF.eq b)) .nil),fun _=>rfl⟩⟩
   |decide
   |apply And.intro
theorem poN (b:Bool) (k:Xqd uk (iU 25)=true):ZX uk uv qN (gN uk uv) (gX uk uv) (lgF uk uv .A) (lxF uk uv (Qx .A b)) (lpF uk uv (Qx .A b)) (lqF uk uv (Qx .A b)) (lrF uk uv (Qx .A b)) (leF uk uv (Qx .A b)):=by
 intro ks Y U Z N L K H M C n O q C2 A O2 Q O3 W us x n1 P T ki m G S CC CS F e d a R X p D o hm l r j z u i f y h B E t;obtain ⟨rfl,rfl⟩:=F;have s:(decide ((A:Int)≤(A:Int)))=true:=Yq0 (Xw2 _);have I:true=true:=rfl;have J:false=false:=rfl;cases G
 ·cases b<;>exact pK [0,3,1023] 3 0 (.k 5 e (.k 5 k (.k 3 (aX J) (.k 2 e (.c s (.k 4 (fZ D) (.k 1 d (.k 4 d (.k 4 k (.k 4 a (.k 11 a (.k 1 p (.k 7 a (.n 4 .nil)))))))))))))) (.k [7,12] t (.c h (.k [1,2,3,4,5,6,7,8,12,101,102,103] E (.v 99 (.eq (T_ (b:=11) (v:=0) (ki:=ki))) (.c y (.v 92 j (.v 88 (.eq o) (.c f (.v 82 (.eq (WY (b:=11) (v:=0) hm)) (.c i (.v 75 (.eq l) (.v 72 (.eq r) (.k [1,2,3,4,5,6,7,8,33,34,35] B (.v 33 j (.v 24 (.eq z) (.v 19 (.eq u) .nil))))))))))))))))
 ·cases b<;>exact pK [0,3,1023] 3 4 (.k 5 e (.k 2 (aQ I) (.k 2 e (.c s (.k 4 (fZ D) (.k 1 d (.k 4 d (.k 4 k (.k 4 a (.k 11 a (.k 1 p (.k 7 a (.n 4 .nil))))))))))))) (.k [7,12] t (.c h (.k [1,2,3,4,5,6,7,8,12,101,102,103] E (.v 99 (.eq (T_ (b:=11) (v:=0) (ki:=ki))) (.v 88 (.eq o) (.c f (.v 82 (.eq (WY (b:=11) (v:=0) hm)) (.c i (.v 75 (.eq l) (.v 72 (.eq r) (.k [1,2,3,4,5,6,7,8,33,34,35] B (.v 33 j (.v 24 (.eq z) (.v 19 (.eq u) .nil))))))))))))))
theorem po (v:Fv) (G:v= .C∨v= .E) (b:Bool) (k:Xqd uk (iU 25)=true):ZX uk uv qT (gI uk uv v) (gE uk uv v true) (lgF uk uv v) (lxF uk uv (Qx v b)) (lpF uk uv (Qx v b)) (lqF uk uv (Qx v b)) (lrF uk uv (Qx v b)) (leF uk uv (Qx v b)):=by
 intro ks nv Y sv R P N J Q C n O q C2 D O2 T O3 Z us x n1 S X ki m I W CC CS U e d a z o r H p hm l s j B y i f A h F E u;have t:(decide ((D:Int)≤(D:Int)))=true:=Yq0 (Xw2 _);have K:true=true:=rfl;have M:false=false:=rfl
 let L:List Nat:=match v with| .E=> [9,12]|_=> []
 cases I
 ·rcases G with rfl|rfl<;>cases b<;>exact pK [0,3,1023] 2 0 (.k 5 e (.k 5 k (.k 3 (aX M) (.k 2 e (.c t (.k 4 (fZ H) (.k 1 d (.k 4 d (.k 4 k (.k 4 a (.k 2 z (.c o (.k 8 a (.k 1 r (.k 7 a (.n 4 .nil)))))))))))))))) (.k [7,12] u (.c h (.k [1,2,3,4,5,6,7,8,12,101,102,103] E (.v 99 (.eq (T_ (b:=9) (v:=1) (ki:=ki))) (.c A (.v 92 j (.v 88 (.eq p) (.c f (.v 82 (.eq (WY (b:=9) (v:=1) hm)) (.c i (.v 75 (.eq l) (.v 72 (.eq s) (.w L [1,2,3,4,5,6,7,8,33,34,35] F (.v 33 j (.v 24 (.eq B) (.v 19 (.eq y) .nil))))))))))))))))
 ·rcases G with rfl|rfl<;>cases b<;>exact pK [0,3,1023] 2 2 (.k 5 e (.k 2 (aQ K) (.k 2 e (.c t (.k 4 (fZ H) (.k 1 d (.k 4 d (.k 4 k (.k 4 a (.k 2 z (.c o (.k 8 a (.k 1 r (.k 7 a (.n 4 .nil))))))))))))))) (.k [7,12] u (.c h (.k [1,2,3,4,5,6,7,8,12,101,102,103] E (.v 99 (.eq (T_ (b:=9) (v:=1) (ki:=ki))) (.v 88 (.eq p) (.c f (.v 82 (.eq (WY (b:=9) (v:=1) hm)) (.c i (.v 75 (.eq l) (.v 72 (.eq s) (.w L [1,2,3,4,5,6,7,8,33,34,35] F (.v 33 j (.v 24 (.eq B) (.v 19 (.eq y) .nil))))))))))))))
theorem no (v:Fv) (s:v= .C∨v= .E) (b:Bool) (i:Xqd uk (iU 25)=true):NoT uk uv (gI uk uv v) (gE uk uv v b) (lgF uk uv v) (lxF uk uv (Qx v b)):=by
 intro ks G F H z u t p C n O q C2 A O2 D us x I B E d a m f j y e k h o l r
 let L:List Nat:=match v with| .E=> [9,12]|_=> []
 rcases s with rfl|rfl<;>cases b<;>exact pK [0,3,1023] 1 1 (.c (nK y) (.k 1 d (.k 4 d (.k 4 i (.k 4 a (.k 2 m (.c f (.k 8 a (.k 1 j (.k 7 a (.n 4 .nil))))))))))) (.v 75 (.eq e) (.v 72 (.eq k) (.w L [1,2,3,4,5,6,7,8,33,34,35] r (.v 33 h (.v 24 (.eq o) (.v 19 (.eq l) .nil))))))
end
section
variable {V:List Cl} {w:Cl→List Cl} {srt:List Cl→List Cl} {uk uv:List AV}
abbrev VD (uk uv:List AV) (c:Cl) (s s':TC) (C:List AV):Prop:=∀ O,yH s O→∃ C2 O2,pU s' C2∧yH s' O2∧cOO uk uv c s s' C O C2 O2
abbrev VE (uk uv:List AV) (c:Cl) (s s':TC) (C:List AV):Prop:=s.out= []→(∃ C2,pU s' C2∧s'.out= []∧cSS uk uv c s s' C C2)∨∃ C2 O2,pU s' C2∧yH s' O2∧cSO uk uv c s s' C C2 O2
theorem ER {c:Cl} {f:Nat} {s s1:TC} (b:c ∈ V) (i:c ∉ s.ord) (a:∃ t,s1.ord=s.ord++c::t) (m:(V.filter fun x=>decide (x ∉ s.ord)).length≤f+1):(V.filter fun x=>decide (x ∉ s1.ord)).length≤f:=by
 obtain ⟨t,a⟩:=a;have k:(V.filter fun x=>decide (x ∉ s1.ord)).length<(V.filter fun x=>decide (x ∉ s.ord)).length:=by
  have e:(V.filter fun x=>decide (x ∉ s1.ord))=(V.filter fun x=>decide (x ∉ s.ord)).filter fun x=>decide (x ∉ s1.ord):=by
   rw [Xjv];refine Xxv fun x _=> ?_
   rw [a];simp;intro h _ _;exact h
  rw [e];have d:∀ l:List Cl,c ∈ l→(l.filter fun x=>decide (x ∉ s1.ord)).length<l.length:=fun l j=>by
   refine Xw6 (Xqp _ _) fun e=> ?_
   have:=List.length_filter_eq_length_iff.1 e c j;rw [a] at this;simp at this
  exact d _ (List.mem_filter.2 ⟨b,by simp [i]⟩)
 omega
theorem jV (hp:∀ l,(srt l).Perm l) (e:∀ x ∈ V,∀ y ∈ w x,y ∈ V) (f:Nat) (g:List Cl) (c:Cl) (s:TC) (a:c ∈ V) (h:iR w s g) (d:c ∉ s.ord) (b:∀ x ∈ g,Rt w x c) (i:(V.filter fun x=>decide (x ∉ s.ord)).length≤f):qW w g c s (aK w srt f c s):=
 yV hp e f g c s a h d b (Xqg (Nat.le_of_eq (congrArg Xqb (Xxv fun x _=>decide_eq_decide.2 Iff.rfl))) i)
theorem Aw {s:TC} (h:s.out= []):yH s []:=by
 unfold yH;rw [h];rfl
theorem Ic (W:wB V w srt uk uv):∀ (f:Nat) (g:List Cl) (c:Cl) (s:TC) (C:List AV),c ∈ V→iR w s g→c ∉ s.ord→(∀ x ∈ g,Rt w x c)→(V.filter fun x=>decide (x ∉ s.ord)).length≤f→(∀ x ∈ s.ord,x ∈ V)→pU s C→VD uk uv c s (aK w srt f c s) C∧VE uk uv c s (aK w srt f c s) C
 |0,g,c,s,C,hcV,h,hc,hg,hf,hV,hC=>by
  have:c ∈ V.filter fun x=>decide (x ∉ s.ord):=List.mem_filter.2 ⟨hcV,by simp [hc]⟩
  have:=Xjg this;omega
 | f +1,g,c,s,C,hcV,h,hc,hg,hf,hV,hC=>by
  have m:∀ d,d ∈ w c→∀ x ∈ g++ [c],Rt w x d:=fun d q x i=>by
   rcases List.mem_append.1 i with i|i
   ·exact (hg x i).tail q
   ·rw [χ] at i;subst i;exact .one q
  have z:∀ s1 d,Ko V w g c s s1 d→qW w (g++ [c]) d s1 (aK w srt f d s1):=fun s1 d a=>jV W.perm W.cl f (g++ [c]) d s1 (W.cl c hcV d a.hd) a.hi a.hn (m d a.hd) (ER hcV hc a.ht hf)
  have r:∀ s1 d,Ko V w g c s s1 d→∀ x ∈ (aK w srt f d s1).ord,x ∈ V:=fun s1 d a=>nS srt W.cl f s1 d (W.cl c hcV d a.hd) a.hV
  have y:∀ s1 d C1,Ko V w g c s s1 d→pU s1 C1→VD uk uv d s1 (aK w srt f d s1) C1∧VE uk uv d s1 (aK w srt f d s1) C1:=fun s1 d C1 a b=>Ic W f (g++ [c]) d s1 C1 (W.cl c hcV d a.hd) a.hi a.hn (m d a.hd) (ER hcV hc a.ht hf) a.hV b
  have p:∀ s1 d C1 O1,Ko V w g c s s1 d→pU s1 C1→yH s1 O1→∃ C2 O2,pU (aK w srt f d s1) C2∧yH (aK w srt f d s1) O2∧cOO uk uv d s1 (aK w srt f d s1) C1 O1 C2 O2:=fun s1 d C1 O1 a b e=>(y s1 d C1 a b).1 O1 e
  have u:∀ s1 d C1,Ko V w g c s s1 d→pU s1 C1→s1.out= []→(∃ C2,pU (aK w srt f d s1) C2∧(aK w srt f d s1).out= []∧cSS uk uv d s1 (aK w srt f d s1) C1 C2)∨∃ C2 O2,pU (aK w srt f d s1) C2∧yH (aK w srt f d s1) O2∧cSO uk uv d s1 (aK w srt f d s1) C1 C2 O2:=fun s1 d C1 a b e=>(y s1 d C1 a b).2 e
  have l:=Dj h hc hg;have j:=xe (s0:=s) (v:=aK w srt f) h hc hg (fun s1 d q b E B=>jV W.perm W.cl f (g++ [c]) d s1 (W.cl c hcV d q) b B (m d q) (ER hcV hc E hf)) (w c) [] (bK c s) rfl l;have k:∀ x ∈ (bK c s).ord,x ∈ V:=fun x i=>by
   rcases List.mem_append.1 i with i|i
   ·exact hV x i
   ·rw [χ] at i;exact i ▸ hcV
  have n:∀ x ∈ ((w c).foldl (bM (aK w srt f) c) (bK c s)).ord,x ∈ V:=Gw (nS srt W.cl f) (w c) _ (W.cl c hcV) k;have o:=TG (c:=c) hC;show VD uk uv c s (dL w srt c ((w c).foldl (bM (aK w srt f) c) (bK c s))) C∧VE uk uv c s (dL w srt c ((w c).foldl (bM (aK w srt f) c) (bK c s))) C;constructor
  ·intro O A;obtain ⟨C2,O2,b,e,L⟩:=SQ (fb uk uv .E (iM s) (kC s) (kH s) (mG s) C s.stack.length O s.out.length) (fa uk uv .E false (iM s) (kC s) (kH s) (mG s) C s.stack.length O s.out.length) h hc hg (W.ul c hcV) z r p (w c) [] (bK c s) (WS s c C) O rfl l k o A;generalize (w c).foldl (bM (aK w srt f) c) (bK c s)=s1 at*
   by_cases he:bY s1 c=bV s1 c
   ·exact ⟨C2,_,xq he (j.inv.gs c (by simp)) b,xu he e,xn W trivial (po uk uv .E (.inr rfl) false W.uk) (fp uk uv .E _ _ _ _ _ _ _ _) (fe uk uv .E _ _ _ _ _ _ _ _) h hc hcV hV hC j n b e (by simp) he L⟩
   ·rw [xX he];exact ⟨C2,O2,b,e,Tz W (no uk uv .E (.inr rfl) false W.uk) h hc hcV hV hC j he L⟩
  ·intro D;have t:(bK c s).out= []:=D;rcases SS (fb uk uv .C (iM s) (kC s) (kH s) (mG s) C s.stack.length [] s.out.length) (fa uk uv .C false (iM s) (kC s) (kH s) (mG s) C s.stack.length [] s.out.length) (fb uk uv .D (iM s) (kC s) (kH s) (mG s) C s.stack.length [] s.out.length) (fa uk uv .C true (iM s) (kC s) (kH s) (mG s) C s.stack.length [] s.out.length) (fa uk uv .D false (iM s) (kC s) (kH s) (mG s) C s.stack.length [] s.out.length) h hc hg (W.ul c hcV) z r u p (w c) [] (bK c s) (WS s c C) rfl l k o t with ⟨C2,b,e,L⟩|⟨C2,O2,b,e,L⟩
   ·generalize (w c).foldl (bM (aK w srt f) c) (bK c s)=s1 at*
    by_cases he:bY s1 c=bV s1 c
    ·exact .inr ⟨C2,_,xq he (j.inv.gs c (by simp)) b,xu he (Aw e),xn (own:=false) (O:= []) W trivial (po uk uv .C (.inl rfl) false W.uk) (fp uk uv .C _ _ _ _ _ _ _ _) (fe uk uv .C _ _ _ _ _ _ _ _) h hc hcV hV hC j n b (Aw e) (fun _=> ⟨rfl,by rw [e];rfl⟩) he L⟩
    ·rw [xX he];exact .inl ⟨C2,b,e,Tz (O:= []) (O2:= []) W (no uk uv .C (.inl rfl) false W.uk) h hc hcV hV hC j he L⟩
   ·generalize (w c).foldl (bM (aK w srt f) c) (bK c s)=s1 at*
    by_cases he:bY s1 c=bV s1 c
    ·exact .inr ⟨C2,_,xq he (j.inv.gs c (by simp)) b,xu he e,xn (own:=true) (O:= []) W trivial (po uk uv .C (.inl rfl) true W.uk) (fp uk uv .D _ _ _ _ _ _ _ _) (fe uk uv .D _ _ _ _ _ _ _ _) h hc hcV hV hC j n b e (by simp) he L⟩
    ·rw [xX he];exact .inr ⟨C2,O2,b,e,Tz (O:= []) W (no uk uv .C (.inl rfl) true W.uk) h hc hcV hV hC j he L⟩
end
section
variable {V:List Cl} {w:Cl→List Cl} {srt:List Cl→List Cl} {uk uv:List AV}
theorem MH (W:wB V w srt uk uv) (f:Nat) (c:Cl) (b:c ∈ V) (F:V.length≤f+1):∃ C2 O2,pU (aK w srt (f+1) c aI) C2∧yH (aK w srt (f+1) c aI) O2∧ae prog ap 94 (QD c) (gsN [] [] [] [] uk uv) (.ret (.tup [])) (gsX (iM (aK w srt (f+1) c aI)) (kC (aK w srt (f+1) c aI)) (kH (aK w srt (f+1) c aI)) (mG (aK w srt (f+1) c aI)) uk uv C2 (aK w srt (f+1) c aI).stack.length O2 (aK w srt (f+1) c aI).out.length):=by
 have h:iR w (aI:TC) []:=yS w;have j:c ∉ (aI:TC).ord:=by simp [aI]
 have u:∀ x ∈ ([]:List Cl),Rt w x c:=by simp
 have B:∀ x ∈ (aI:TC).ord,x ∈ V:=by simp [aI]
 have z:pU (aI:TC) []:=rfl;have k:(V.filter fun x=>decide (x ∉ (aI:TC).ord)).length≤f+1:=Xqg (Xqp _ _) F;have l:∀ d,d ∈ w c→∀ x ∈ []++ [c],Rt w x d:=fun d s x i=>by
  rw [Xqj,χ] at i;subst i;exact .one s
 have J:∀ s1 d,Ko V w [] c aI s1 d→qW w ([]++ [c]) d s1 (aK w srt f d s1):=fun s1 d a=>jV W.perm W.cl f ([]++ [c]) d s1 (W.cl c b d a.hd) a.hi a.hn (l d a.hd) (ER b j a.ht k)
 have A:∀ s1 d,Ko V w [] c aI s1 d→∀ x ∈ (aK w srt f d s1).ord,x ∈ V:=fun s1 d a=>nS srt W.cl f s1 d (W.cl c b d a.hd) a.hV
 have E:∀ s1 d C1,Ko V w [] c aI s1 d→pU s1 C1→VD uk uv d s1 (aK w srt f d s1) C1∧VE uk uv d s1 (aK w srt f d s1) C1:=fun s1 d C1 a e=>Ic W f ([]++ [c]) d s1 C1 (W.cl c b d a.hd) a.hi a.hn (l d a.hd) (ER b j a.ht k) a.hV e
 have q:=Dj h j u;have o:=xe (s0:=aI) (v:=aK w srt f) h j u (fun s1 d s e D H=>jV W.perm W.cl f ([]++ [c]) d s1 (W.cl c b d s) e H (l d s) (ER b j D k)) (w c) [] (bK c aI) rfl q;have p:∀ x ∈ (bK c aI).ord,x ∈ V:=fun x i=>by
  rcases List.mem_append.1 i with i|i
  ·exact B x i
  ·rw [χ] at i;exact i ▸ b
 have r:∀ x ∈ ((w c).foldl (bM (aK w srt f) c) (bK c aI)).ord,x ∈ V:=Gw (nS srt W.cl f) (w c) _ (W.cl c b) p;have m:bY ((w c).foldl (bM (aK w srt f) c) (bK c aI)) c=bV ((w c).foldl (bM (aK w srt f) c) (bK c aI)) c:=by
  have I:bY ((w c).foldl (bM (aK w srt f) c) (bK c aI)) c=1:=by
   rcases o.lx with e|⟨y,G,_⟩
   ·exact e
   ·simp [aI] at G
  obtain ⟨t,D⟩:=o.ordE;rw [I,GY,D];show 1=(c::t).idxOf c+1;rw [Xzw]
 show ∃ C2 O2,pU (dL w srt c ((w c).foldl (bM (aK w srt f) c) (bK c aI))) C2∧yH (dL w srt c ((w c).foldl (bM (aK w srt f) c) (bK c aI))) O2∧ae prog ap 94 (QD c) (gsN [] [] [] [] uk uv) (.ret (.tup [])) (gsX (iM (dL w srt c ((w c).foldl (bM (aK w srt f) c) (bK c aI)))) (kC (dL w srt c ((w c).foldl (bM (aK w srt f) c) (bK c aI)))) (kH (dL w srt c ((w c).foldl (bM (aK w srt f) c) (bK c aI)))) (mG (dL w srt c ((w c).foldl (bM (aK w srt f) c) (bK c aI)))) uk uv C2 (dL w srt c ((w c).foldl (bM (aK w srt f) c) (bK c aI))).stack.length O2 (dL w srt c ((w c).foldl (bM (aK w srt f) c) (bK c aI))).out.length);rcases SS (fb uk uv .A [] [] [] [] [] 0 [] 0) (fa uk uv .A false [] [] [] [] [] 0 [] 0) (fb uk uv .B [] [] [] [] [] 0 [] 0) (fa uk uv .A true [] [] [] [] [] 0 [] 0) (fa uk uv .B false [] [] [] [] [] 0 [] 0) h j u (W.ul c b) J A (fun s1 d C1 a e=>(E s1 d C1 a e).2) (fun s1 d C1 O1 a e=>(E s1 d C1 a e).1 O1) (w c) [] (bK c aI) (WS aI c []) rfl q p (TG (c:=c) z) rfl with ⟨C2,e,n,L⟩|⟨C2,O2,e,n,L⟩
 ·generalize (w c).foldl (bM (aK w srt f) c) (bK c aI)=s1 at*
  exact ⟨C2,_,xq m (o.inv.gs c (by simp)) e,xu m (Aw n),xn (own:=false) (gi:=gN uk uv) (go:=gX uk uv) (s0:=aI) (C:= []) (O:= []) W ⟨rfl,rfl⟩ (poN uk uv false W.uk) (fp uk uv .A [] [] [] [] [] 0 [] 0) (fe uk uv .A [] [] [] [] [] 0 [] 0) h j b B z o r e (Aw n) (fun _=> ⟨rfl,by rw [n];rfl⟩) m L⟩
 ·generalize (w c).foldl (bM (aK w srt f) c) (bK c aI)=s1 at*
  exact ⟨C2,_,xq m (o.inv.gs c (by simp)) e,xu m n,xn (own:=true) (gi:=gN uk uv) (go:=gX uk uv) (s0:=aI) (C:= []) (O:= []) W ⟨rfl,rfl⟩ (poN uk uv true W.uk) (fp uk uv .B [] [] [] [] [] 0 [] 0) (fe uk uv .B [] [] [] [] [] 0 [] 0) h j b B z o r e n (by simp) m L⟩
end
def gaS (uk uv:List AV) (all:List Cl) (nn:Bool) (k:Nat):St:=⟨[(5,.ptr 1 0 0),(9,.ptr 2 0 0),(10,.ptr 3 0 0),(17,.sl (cL all) all.length nn),(18,ω (all.length:Int)),(19,ω (k:Int))],[(0,⟨[.agg uk,.agg uv],0,false,0,4611686018427387904,true⟩),(1,⟨[.mr 4 0],0,false,0,0,false⟩),(2,⟨[.nilS],0,false,0,0,true⟩),(3,⟨[.fn 94 [] [.ptr 1 0 0,.ptr 5 0 0,.ptr 6 0 0,.ptr 7 0 0,.ptr 8 0 0,.ptr 3 0 0,.ptr 2 0 0]],0,false,0,0,false⟩),(4,⟨[.agg [],.agg []],0,false,0,4611686018427387904,true⟩),(5,⟨[.mr 9 0],0,false,0,0,false⟩),(6,⟨[.nilS],0,false,0,0,true⟩),(7,⟨[.mr 10 0],0,false,0,0,false⟩),(8,⟨[.mr 0 0],0,false,0,0,false⟩),(9,⟨[.agg [],.agg []],0,false,0,4611686018427387904,true⟩),(10,⟨[.agg [],.agg []],0,false,0,4611686018427387904,true⟩)],.dead,[]⟩
def gbS (uk uv:List AV) (ks nv lv sv C:List AV) (n:Nat) (OT:List AV) (q:Nat) (all:List Cl) (nn:Bool) (k:Nat):St:=⟨[(5,.ptr 1 0 0),(9,.ptr 2 0 0),(10,.ptr 3 0 0),(17,.sl (cL all) all.length nn),(18,ω (all.length:Int)),(19,ω (k:Int))],[(0,⟨[.agg uk,.agg uv],0,false,0,4611686018427387904,true⟩),(1,⟨[.mr 4 0],0,false,0,0,false⟩),(2,⟨[.ref 5 0 0 q],0,false,0,0,false⟩),(3,⟨[.fn 94 [] [.ptr 1 0 0,.ptr 6 0 0,.ptr 7 0 0,.ptr 8 0 0,.ptr 9 0 0,.ptr 3 0 0,.ptr 2 0 0]],0,false,0,0,false⟩),(4,⟨[.agg ks,.agg nv],0,false,0,4611686018427387904,true⟩),(5,⟨OT,0,false,0,2,true⟩),(6,⟨[.mr 10 0],0,false,0,0,false⟩),(7,⟨[.ref 11 0 0 n],0,false,0,0,false⟩),(8,⟨[.mr 12 0],0,false,0,0,false⟩),(9,⟨[.mr 0 0],0,false,0,0,false⟩),(10,⟨[.agg ks,.agg lv],0,false,0,4611686018427387904,true⟩),(11,⟨C,0,false,0,2,true⟩),(12,⟨[.agg ks,.agg sv],0,false,0,4611686018427387904,true⟩)],.dead,[]⟩
def gcS (uk uv:List AV) (ks nv lv sv C:List AV) (n:Nat) (OT:List AV) (q:Nat):St:=⟨[(9,.ptr 1 0 0)],[(0,⟨[.agg uk,.agg uv],0,false,0,4611686018427387904,true⟩),(1,⟨[.ref 2 0 0 q],0,false,0,0,false⟩),(2,⟨OT,0,false,0,2,true⟩)],.dead,[]⟩
theorem ai7 {nt:Nat} (B:32≤nt) (z:az) (uk h:List AV) (all:List Cl) (nn:Bool) (p r:List Cl) (y:Cl) (e d b a C2:List AV) (q:Nat) (OT2:List AV) (s:Nat) (u:Nat) (m:all=p++y::r) (D:all.length<2^40) (E:((u:Int)==((0:Nat):Int))=true) (i:(Xqc (bu [] [] (.agg [ω y.1,ω y.2])) (ω 0))= ω (u:Int)) (A:ae prog ap 94 [cA y,.ptr 0 0 0,.ptr 1 0 0,.ptr 2 0 0,.ptr 3 0 0,.ptr 4 0 0,.ptr 5 0 0,.ptr 6 0 0] (gsN [] [] [] [] uk h) (.ret (.tup [])) (gsX e d b a uk h C2 q OT2 s)):ag prog ap [z] nt (ah 0 (af f48)) (gaS uk h all nn p.length) .normal (gbS uk h e d b a C2 q OT2 s all nn (p.length+1)):=by
 have t:=bI (f:=cC) (n:=2) (fun _=>rfl) m;change κ _ (cL all)=cC y++cL r at t;have l:p.length<all.length:=jm m;have x:p.length<2^62:=by omega
 have o:(decide ((p.length:Int)<(all.length:Int)))=true:=kl l;clear m;generalize p.length=k at*
 have j:(Xqd [] (iU 25))=true:=rfl;exact pN 48 [] 2 3 (.k 3 (aQ E) (.k 1 j (.k 7 o (.c (aQ o) .nil)))) (.v 30 (.eq (wpS x)) (.c A (.v 25 (.eq i) (.v 21 (.ppt t) .nil)))) B
theorem ai8 {nt:Nat} (H:32≤nt) (F:az) (uk h:List AV) (ks m A D C:List AV) (n:Nat) (OT:List AV) (q:Nat) (all:List Cl) (nn:Bool) (p r:List Cl) (y:Cl) (e d b a C2:List AV) (u:Nat) (OT2:List AV) (x:Nat) (B:Nat) (s:all=p++y::r) (I:all.length<2^40) (o:Xqd ks (iU 25)=true) (J:((B:Int)==((0:Nat):Int))=true) (i:(Xqc (bu ks m (.agg [ω y.1,ω y.2])) (ω 0))= ω (B:Int)) (G:ae prog ap 94 [cA y,.ptr 0 0 0,.ptr 1 0 0,.ptr 2 0 0,.ptr 3 0 0,.ptr 4 0 0,.ptr 5 0 0,.ptr 6 0 0] (gsO 0 0 ks m A D uk h C n OT q) (.ret (.tup [])) (gsO 1 1 e d b a uk h C2 u OT2 x)):ag prog ap [F] nt (ah 0 (af f48)) (gbS uk h ks m A D C n OT q all nn p.length) .normal (gbS uk h e d b a C2 u OT2 x all nn (p.length+1)):=by
 have z:=bI (f:=cC) (n:=2) (fun _=>rfl) s;change κ _ (cL all)=cC y++cL r at z;have l:p.length<all.length:=jm s;have E:p.length<2^62:=by omega
 have t:(decide ((p.length:Int)<(all.length:Int)))=true:=kl l;clear s;generalize p.length=k at*
 have j:(Xqd ks (iU 25))=true:=o;exact pN 48 [] 2 3 (.k 3 (aQ J) (.k 1 j (.k 7 t (.c (aQ t) .nil)))) (.v 30 (.eq (wpS E)) (.c G (.v 25 (.eq i) (.v 21 (.ppt z) .nil)))) H
theorem ai9 {nt:Nat} (z:32≤nt) (x:az) (uk l:List AV) (ks e o t C:List AV) (n:Nat) (OT:List AV) (q:Nat) (all:List Cl) (nn:Bool) (p r:List Cl) (y:Cl) (s:Nat) (i:all=p++y::r) (A:all.length<2^40) (h:Xqd ks (iU 25)=true) (B:((s:Int)==((0:Nat):Int))=false) (a:(Xqc (bu ks e (.agg [ω y.1,ω y.2])) (ω 0))= ω (s:Int)):ag prog ap [x] nt (ah 0 (af f48)) (gbS uk l ks e o t C n OT q all nn p.length) .normal (gbS uk l ks e o t C n OT q all nn (p.length+1)):=by
 have m:=bI (f:=cC) (n:=2) (fun _=>rfl) i;change κ _ (cL all)=cC y++cL r at m;have d:p.length<all.length:=jm i;have u:p.length<2^62:=by omega
 have j:(decide ((p.length:Int)<(all.length:Int)))=true:=kl d;clear i;generalize p.length=k at*
 have b:(Xqd ks (iU 25))=true:=h;exact pN 48 [] 2 1 (.c (aX B) (.k 1 b (.k 7 j (.c (aQ j) .nil)))) (.v 30 (.eq (wpS u)) (.v 25 (.eq a) (.v 21 (.ppt m) .nil))) z
theorem grX {nt:Nat} (h:32≤nt) (i:az) (uk e:List AV) (ks a b d C:List AV) (n:Nat) (OT:List AV) (q:Nat) (all:List Cl) (nn:Bool):ag prog ap [i] nt (ah 0 (af f48)) (gbS uk e ks a b d C n OT q all nn all.length) (.exit 0) (gcS uk e ks a b d C n OT q):=by
 have f:(decide ((all.length:Int)<(all.length:Int)))=false:=kn (ζ _);exact pN 48 [] 1 0 (.c (aX f) .nil) .nil h
theorem RU (uk a:List AV) (ks b d f C:List AV) (n:Nat) (OT:List AV) (q:Nat) (all:List Cl) (nn:Bool) (e:bG prog ap [⟨[.agg uk,.agg a],0,false,0,4611686018427387904,true⟩] 32 (.block 0 (.loop (ah 0 (af f48)))) (gaS uk a all nn 0) .normal (gcS uk a ks b d f C n OT q)):ae prog ap 48 [.mr 0 0,.sl (cL all) all.length nn] [⟨[.agg uk,.agg a],0,false,0,4611686018427387904,true⟩] (.ret (.own (Xqk (q*2) OT) q 2)) [⟨[.agg uk,.agg a],0,false,0,4611686018427387904,true⟩]:=by
 exact pK [0] 0 0 (.n 5 .nil) (.k [5,9,10,17,18,19] e .nil)
section
variable {V:List Cl} {w:Cl→List Cl} {srt:List Cl→List Cl} {uk uv:List AV}
abbrev mM (w:Cl→List Cl) (srt:List Cl→List Cl) (f:Nat):TC→Cl→TC:=fun s c=>if c ∈ s.ord then s else aK w srt f c s
abbrev gbT (uk uv:List AV) (s:TC) (C O:List AV) (all:List Cl) (nn:Bool) (k:Nat):St:=gbS uk uv (iM s) (kC s) (kH s) (mG s) C s.stack.length O s.out.length all nn k
abbrev gcT (uk uv:List AV) (s:TC) (C O:List AV):St:=gcS uk uv (iM s) (kC s) (kH s) (mG s) C s.stack.length O s.out.length
abbrev ZU (b0:az) (a b:St):Prop:=∀ nt,32≤nt→aN prog ap [b0] nt (ah 0 (af f48)) (fun _:St=> .exit 0) (id:St→St) id a b
theorem rP (W:wB V w srt uk uv) {f:Nat} (n:V.length≤f) {all:List Cl} {nn:Bool} (j:az) (a:∀ x ∈ all,x ∈ V) (b:all.length<2^40):∀ (r p:List Cl) (s:TC) (C O:List AV),all=p++r→iR w s []→(∀ x ∈ s.ord,x ∈ V)→pU s C→yH s O→∃ C2 O2,yH (r.foldl (mM w srt f) s) O2∧ZU j (gbT uk uv s C O all nn p.length) (gcT uk uv (r.foldl (mM w srt f) s) C2 O2)
 | [],p,s,C,O,e,h,hV,hC,hO=>by
  rw [μ] at e;subst e;exact ⟨C,O,hO,fun nt i=> .done (grX i j uk uv _ _ _ _ _ _ _ _ _ _)⟩
 | c::r,p,s,C,O,e,h,hV,hC,hO=>by
  have d:c ∈ V:=a c (by rw [e];simp);have u:all=(p++ [c])++r:=by rw [e];simp
  have k:(p++ [c]).length=p.length+1:=by simp
  show ∃ C2 O2,yH (r.foldl (mM w srt f) (mM w srt f s c)) O2∧ZU j (gbT uk uv s C O all nn p.length) (gcT uk uv (r.foldl (mM w srt f) (mM w srt f s c)) C2 O2);by_cases hc:c ∈ s.ord
  ·rw [show mM w srt f s c=s from if_pos hc];obtain ⟨C2,O2,t,l⟩:=rP W n (nn:=nn) j a b r (p++ [c]) s C O u h hV hC hO;rw [k] at l;refine ⟨C2,O2,t,fun nt i=> .next ?_ (l nt i)⟩;refine ai9 i j uk uv (iM s) (kC s) (kH s) (mG s) C s.stack.length O s.out.length all nn p r c (bV s c) e b (dM _) ?_ (aa5 hc);unfold bV;rw [Yq2];omega
  ·rw [show mM w srt f s c=aK w srt f c s from if_neg hc];have m:(V.filter fun x=>decide (x ∉ s.ord)).length≤f:=Xqg (Xqp _ _) n;have hp:=jV W.perm W.cl f [] c s d h hc (by simp) m;obtain ⟨C1,O1,A,y,z⟩:=(Ic W f [] c s C d h hc (by simp) m hV hC).1 O hO;obtain ⟨C2,O2,t,l⟩:=rP W n (nn:=nn) j a b r (p++ [c]) (aK w srt f c s) C1 O1 u hp.inv (nS srt W.cl f s c d hV) A y;rw [k] at l;refine ⟨C2,O2,t,fun nt i=> .next ?_ (l nt i)⟩;have q:qO (iM s) (kC s) c=nI 0:=by
    have h:=xk (o:=s.ord) (x:=c);rw [if_neg hc] at h;exact h
   exact ai8 i j uk uv (iM s) (kC s) (kH s) (mG s) C s.stack.length O s.out.length all nn p r c _ _ _ _ _ _ _ _ 0 e b (dM _) rfl q z
theorem PO (W:wB V w srt uk uv) {f:Nat} (i:V.length≤f+1) (c:Cl) (r:List Cl) (nn:Bool) (a:∀ x ∈ c::r,x ∈ V) (d:(c::r).length<2^40):ae prog ap 48 [.mr 0 0,.sl (cL (c::r)) (c::r).length nn] [⟨[.agg uk,.agg uv],0,false,0,4611686018427387904,true⟩] (.ret (.own (oL ((c::r).foldl (mM w srt (f+1)) aI).out) ((c::r).foldl (mM w srt (f+1)) aI).out.length 2)) [⟨[.agg uk,.agg uv],0,false,0,4611686018427387904,true⟩]:=by
 have b:=a c (by simp);obtain ⟨C1,O1,n,k,l⟩:=MH W f c b i;have hp:=jV W.perm W.cl (f+1) [] c (aI:TC) b (yS w) (by simp [aI]) (by simp) (Xqg (Xqp _ _) i);obtain ⟨C2,O2,o,m⟩:=rP W i (nn:=nn) (⟨[.agg uk,.agg uv],0,false,0,4611686018427387904,true⟩) a d r [c] (aK w srt (f+1) c aI) C1 O1 rfl hp.inv (nS srt W.cl (f+1) aI c b (by simp [aI])) n k;have e:(c::r).foldl (mM w srt (f+1)) aI=r.foldl (mM w srt (f+1)) (aK w srt (f+1) c aI):=by
  show r.foldl _ (mM w srt (f+1) aI c)=_;rw [show mM w srt (f+1) aI c=aK w srt (f+1) c aI from if_neg (by simp [aI])]
 rw [e];have p:ZU (⟨[.agg uk,.agg uv],0,false,0,4611686018427387904,true⟩) (gaS uk uv (c::r) nn 0) (gcT uk uv (r.foldl (mM w srt (f+1)) (aK w srt (f+1) c aI)) C2 O2):=fun nt j=> .next (ai7 j _ uk uv (c::r) nn [] r c _ _ _ _ _ _ _ _ 0 rfl d rfl rfl l) (m nt j)
 have h:=RU uk uv _ _ _ _ _ _ _ _ (c::r) nn (aN.blk (id:=0) (e':= .normal) (s':=gcT uk uv (r.foldl (mM w srt (f+1)) (aK w srt (f+1) c aI)) C2 O2) p (by simp) rfl (aH.refl _) (aH.refl _));rw [o] at h;exact h
end
end Go.Proofs.Tryz
namespace Go.Proofs.Tryz
open Go.Shelf
def Qu:Go.Shelf.Ren:=⟨fun|6=>40|15=>91|14=>90|28=>140|29=>141|20=>132|21=>133|22=>134|23=>135|24=>136|25=>137|26=>138|27=>139|46=>179|47=>180|48=>181|49=>182|50=>183|57=>237|n=>n,fun|22=>35|24=>25|25=>89|3=>3|39=>165|0=>0|53=>218|55=>220|4=>4|46=>212|45=>211|50=>67|5=>5|9=>9|66=>259|70=>263|76=>301|77=>302|n=>n,fun|n=>n⟩
theorem ahC:Go.Proofs.SlLaysF0.n6 prog Qu:={
 mixed:=by kernel_rfl
 f6:=⟨f40.name,by decide,Tryz.func40.trans (congrArg some (by kernel_rfl))⟩
 f14:=⟨f90.name,by decide,Tryz.func90.trans (congrArg some (by kernel_rfl))⟩
 f15:=Tryz.func91.trans (congrArg some (by kernel_rfl))
 f20:=⟨f132.name,by decide,Tryz.func132.trans (congrArg some (by kernel_rfl))⟩
 f21:=⟨f133.name,by decide,Tryz.func133.trans (congrArg some (by kernel_rfl))⟩
 f22:=⟨f134.name,by decide,Tryz.func134.trans (congrArg some (by kernel_rfl))⟩
 f23:=⟨f135.name,by decide,Tryz.func135.trans (congrArg some (by kernel_rfl))⟩
 f24:=⟨f136.name,by decide,Tryz.func136.trans (congrArg some (by kernel_rfl))⟩
 f25:=⟨f137.name,by decide,Tryz.func137.trans (congrArg some (by kernel_rfl))⟩
 f26:=⟨f138.name,by decide,Tryz.func138.trans (congrArg some (by kernel_rfl))⟩
 f27:=⟨f139.name,by decide,Tryz.func139.trans (congrArg some (by kernel_rfl))⟩
 f28:=Tryz.func140.trans (congrArg some (by kernel_rfl))
 f29:=Tryz.func141.trans (congrArg some (by kernel_rfl))
 f46:=⟨f179.name,by decide,Tryz.func179.trans (congrArg some (by kernel_rfl))⟩
 f47:=Tryz.func180.trans (congrArg some (by kernel_rfl))
 f48:=Tryz.func181.trans (congrArg some (by kernel_rfl))
 f49:=⟨f182.name,by decide,Tryz.func182.trans (congrArg some (by kernel_rfl))⟩
 f50:=⟨f183.name,by decide,Tryz.func183.trans (congrArg some (by kernel_rfl))⟩
 f57:=⟨f237.name,by decide,Tryz.func237.trans (congrArg some (by kernel_rfl))⟩
 t0:=Tryz.underlying0
 a0:=Tryz.isAgg0
 z0:=Tryz.sizeOf0
 v0:=Tryz.zeroValue0
 t3:=Tryz.underlying3
 a3:=Tryz.isAgg3
 z3:=Tryz.sizeOf3
 v3:=Tryz.zeroValue3
 t4:=Tryz.underlying4
 a4:=Tryz.isAgg4
 z4:=Tryz.sizeOf4
 v4:=Tryz.zeroValue4
 t5:=Tryz.underlying5
 a5:=Tryz.isAgg5
 z5:=Tryz.sizeOf5
 v5:=Tryz.zeroValue5
 t9:=Tryz.underlying9
 a9:=Tryz.isAgg9
 z9:=Tryz.sizeOf9
 v9:=Tryz.zeroValue9
 t22:=Tryz.underlying35
 a22:=Tryz.isAgg35
 z22:=Tryz.sizeOf35
 v22:=Tryz.zeroValue35
 t25:=Tryz.underlying89
 a25:=Tryz.isAgg89
 z25:=Tryz.sizeOf89
 v25:=Tryz.zeroValue89
 t39:=Tryz.underlying165
 a39:=Tryz.isAgg165
 z39:=Tryz.sizeOf165
 v39:=Tryz.zeroValue165
 t45:=Tryz.underlying211
 a45:=Tryz.isAgg211
 z45:=Tryz.sizeOf211
 v45:=Tryz.zeroValue211
 t46:=Tryz.underlying212
 a46:=Tryz.isAgg212
 z46:=Tryz.sizeOf212
 v46:=Tryz.zeroValue212
 t50:=Tryz.underlying67
 a50:=Tryz.isAgg67
 z50:=Tryz.sizeOf67
 v50:=Tryz.zeroValue67
 t53:=Tryz.underlying218
 a53:=Tryz.isAgg218
 z53:=Tryz.sizeOf218
 v53:=Tryz.zeroValue218
 t55:=Tryz.underlying220
 a55:=Tryz.isAgg220
 z55:=Tryz.sizeOf220
 v55:=Tryz.zeroValue220
 t66:=Tryz.underlying259
 a66:=Tryz.isAgg259
 z66:=Tryz.sizeOf259
 v66:=Tryz.zeroValue259
 t70:=Tryz.underlying263
 a70:=Tryz.isAgg263
 z70:=Tryz.sizeOf263
 v70:=Tryz.zeroValue263
 t76:=Tryz.underlying301
 a76:=Tryz.isAgg301
 z76:=Tryz.sizeOf301
 v76:=Tryz.zeroValue301
 t77:=Tryz.underlying302
 a77:=Tryz.isAgg302
 z77:=Tryz.sizeOf302
 v77:=Tryz.zeroValue302}
def Vo:Go.Shelf.Ren:=⟨fun|5=>93|7=>142|n=>n,fun|22=>3|3=>3|4=>4|n=>n,fun|n=>n⟩
theorem akl:Go.Proofs.SlLaysC2.n5 prog Vo:={
 mixed:=by kernel_rfl
 f5:=⟨f93.name,by decide,Tryz.func93.trans (congrArg some (by kernel_rfl))⟩
 f7:=⟨f142.name,by decide,Tryz.func142.trans (congrArg some (by kernel_rfl))⟩
 t3:=Tryz.underlying3
 a3:=Tryz.isAgg3
 z3:=Tryz.sizeOf3
 v3:=Tryz.zeroValue3
 t4:=Tryz.underlying4
 a4:=Tryz.isAgg4
 z4:=Tryz.sizeOf4
 v4:=Tryz.zeroValue4
 t22:=Tryz.underlying3
 a22:=Tryz.isAgg3
 z22:=Tryz.sizeOf3
 v22:=Tryz.zeroValue3}
end Go.Proofs.Tryz
namespace Go.Proofs.Tryz
open Go AM Go.Shelf Go.RowKit Go.Lib Go.Sort
set_option maxHeartbeats 1000000 in
theorem zOr (a b r:Int) (i:a ≠ 0→r=a) (d:a=0→r=b) (blk:Nat) (W:World) (h0:W.cell? ⟨blk,0,none⟩=some (.int .i64 a)) (k:W.cell? ⟨blk,1,none⟩=some (.int .i64 b)):
  Calls prog 92 #[.slice (some ⟨blk,0,none⟩) 2 2] W fun e w'=>e= .returned (.int .i64 r)∧w'=W:=by
 go_enter Tryz.func92,Tryz.ntmps92
 go_wp2
 go_rounds 3
 all_goals go_ret
 ·rename_i h;exact ⟨by rw [i (by simpa using h)];rfl,rfl⟩
 ·rename_i f _ _ h;have e:a=0:=by simpa using f
  exact ⟨by rw [d e];rfl,rfl⟩
 ·rename_i f h _ _;have e:a=0:=by simpa using f
  have j:b=0:=by simpa using h
  exact ⟨by rw [d e,j];rfl,rfl⟩
theorem ZR (W:World) (a b:Obj) (cs:Array Value) (t i:Nat) (v:Value) (h:cs[i]? =some v):(((W.alloc a).alloc b).alloc (.cells cs t)).drew.cell? ⟨W.heap.size+1+1,i,none⟩=some v:=by
 show (((W.alloc a).alloc b).alloc (.cells cs t)).cell? ⟨W.heap.size+1+1,i,none⟩=_;rw [World.cell?_alloc_at _ _ _ _ (by rw [World.size_alloc,World.size_alloc])];exact h
set_option maxHeartbeats 1000000 in
theorem ahB (x y:Int × Int) (i:0≤x.1∧x.1≤1) (j:0≤y.1∧y.1≤1) (r:Int) (f:x.1 - y.1 ≠ 0→r=x.1 - y.1) (b:x.1 - y.1=0→r=Lib.compareInt x.2 y.2) (W:World):Calls prog 41 #[.agg #[.int .i64 x.1,.int .i64 x.2],.agg #[.int .i64 y.1,.int .i64 y.2]] W fun e w'=>e= .returned (.int .i64 r)∧∃ q os',w'=grow (W.drewN q) os':=by
 have a:=fun W'=>AnyG.cmp_Compare_int akl x.2 y.2 W'
 change ∀ W',Calls prog 93 _ _ _ at a;generalize Lib.compareInt x.2 y.2=c at a b;have d:ν .i64 (x.1 - y.1)=x.1 - y.1:=jD (by omega) (by omega);have h:wrap64 (x.1 - y.1)=x.1 - y.1:=by unfold wrap64;omega
 go_enter Tryz.func41,Tryz.ntmps41
 go_wp2
 go_region_held3 (fun w'=>w'.cell? ⟨W.heap.size,0,none⟩=some (.int .i64 x.1)∧w'.cell? ⟨W.heap.size,1,none⟩=some (.int .i64 x.2)∧w'.cell? ⟨W.heap.size+1,0,none⟩=some (.int .i64 y.1)∧w'.cell? ⟨W.heap.size+1,1,none⟩=some (.int .i64 y.2)) (go_keep) (first|(go_at_call 93;refine (a _).mono ?_;rintro e w' ⟨rfl,rfl⟩)|(go_at_call 92;refine (zOr (x.1 - y.1) c r f b _ _ ?_ ?_).mono ?_;(exact ZR _ _ _ _ _ _ _ rfl);(exact ZR _ _ _ _ _ _ _ rfl);rintro e w' ⟨rfl,rfl⟩))
 go_wp2
 go_ret
 exact ⟨rfl,1,_,by rw [alloc_eq_grow,alloc_eq_grow,alloc_eq_grow,grow_grow,grow_grow];rfl⟩
end Go.Proofs.Tryz
set_option maxRecDepth 100000
set_option linter.unusedVariables false
namespace Go.Proofs.Tryz
open Go AM Go.Shelf Go.RowKit Go.Lib Go.Sort
abbrev Cs:Type:={x:Cl // gz x}
instance:Inhabited Cs:=⟨⟨(0,0),⟨Xw2 _,by decide⟩⟩⟩
def Gp (x:Cs):List Value:= [.int .i64 x.1.1,.int .i64 x.1.2]
def Qv (x y:Cs):Int:=if x.1.1 - y.1.1 ≠ 0 then x.1.1 - y.1.1 else Lib.compareInt x.1.2 y.1.2
theorem rW (x y:Cs):ltOf Qv x y=Am x.1 y.1:=by
 unfold ltOf Qv Lib.compareInt Am;rw [Xj0];simp only [decide_eq_true_eq,Xq9,ε,beq_iff_eq];split
 ·omega
 ·split
  ·omega
  ·split<;>omega
theorem Ap (x y:Cl):Am x y=true↔x.1<y.1∨(x.1=y.1∧x.2<y.2):=by
 unfold Am;simp only [decide_eq_true_eq,Xq9,ε,beq_iff_eq]
theorem kX (x y:Cl):Am x y=false↔¬ (x.1<y.1∨(x.1=y.1∧x.2<y.2)):=by rw [← Ap,Bool.not_eq_true]
theorem aj7:SWO (ltOf Qv):=⟨fun x=>by rw [rW,kX];omega,fun x y z a b=>by rw [rW,Ap] at*;omega,fun x y z a b=>by rw [rW,kX] at*;omega⟩
theorem aj_ (x y:Cs) (a:ltOf Qv x y=false) (b:ltOf Qv y x=false):x=y:=by
 rw [rW,kX] at a b;exact Subtype.ext (Xwx (by omega) (by omega))
theorem QY (blk a size:Nat) (w:World):CmpLays prog 41 #[] Gp 2 Qv blk a size w:=fun _ _ _ _ x y=>ahB x.1 y.1 x.2 y.2 (Qv x y) (fun h=>by unfold Qv;rw [if_pos h]) (fun h=>by unfold Qv;rw [if_neg (fun k=>k h)]) _
def vV (l:List Cl):List Cl:=l.mergeSort fun x y=> !Am y x
theorem yQ (l:List Cl):(vV l).Perm l:=List.mergeSort_perm _ _
def vC (x:Cl):List Value:= [.int .i64 x.1,.int .i64 x.2]
def vL (l:List Cl):List Value:=l.flatMap vC
theorem Rl {α:Type} {enc:α→List Value} {k:Nat} (a:∀ x,(enc x).length=k) (k0:0<k):∀ (l:List α) (t:Nat),(l.flatMap enc)[t]? =(l[t / k]?).bind fun x=>(enc x)[t % k]?
 | [],t=>by simp
 | x::l,t=>by
  rw [Xqa];by_cases h:t<k
  ·rw [υ (by rw [a];exact h),Nat.div_eq_of_lt h,Nat.mod_eq_of_lt h];rfl
  ·have b:t / k=(t - k) / k+1:=Nat.div_eq_sub_div k0 (by omega);have d:t % k=(t - k) % k:=Nat.mod_eq_sub_mod (by omega);rw [Xq2 (by rw [a];omega),a,Rl a k0 l (t - k),b,d];rfl
theorem zn {α:Type} [Inhabited α] {enc:α→List Value} {k:Nat} (hk:∀ x,(enc x).length=k) (k0:0<k) (d:Array α):(flatK enc k d).toList=d.toList.flatMap enc:=by
 refine Xq8 fun t=> ?_
 rw [Rl hk k0];by_cases h:t<d.size*k
 ·have b:t / k<d.size:=(Nat.div_lt_iff_lt_mul k0).2 h;have i:t % k<k:=Nat.mod_lt _ k0;have a:=get_flatK enc k d t h;have f:t<(flatK enc k d).size:=by rw [size_flatK];exact h
  rw [getElem!_pos _ t f] at a;rw [Array.getElem?_toList,Array.getElem?_eq_getElem f,a,Array.getElem?_toList,Array.getElem?_eq_getElem b,getElem!_pos d (t / k) b];show some ((enc d[t / k])[t % k]!)=(enc d[t / k])[t % k]?;have e:t % k<(enc d[t / k]).length:=by rw [hk];exact i
  rw [getElem!_pos (enc d[t / k]) (t % k) e,δ e]
 ·rw [Array.getElem?_toList,Array.getElem?_eq_none (by rw [size_flatK];omega),Array.getElem?_toList,Array.getElem?_eq_none (by
   have:=(Nat.le_div_iff_mul_le k0 (x:=d.size) (y:=t)).2 (by omega);exact this)]
  rfl
theorem aaD {w:World} {g:Nat} {cur:Array Value} {e:TypeId} {F:Array Value} (b:w.heap[g]? =some (.cells cur e (0,0))) (f:cur.toList.take F.size=F.toList):Holds id w g 0 F:=by
 intro j a;refine ⟨?_,by simp [World.frozen?,b]⟩;have d:(cur.toList.take F.size)[j]? =F.toList[j]? :=by rw [f]
 rw [Xxi a] at d;simp only [World.cell?,b,Φ];simp only [Option.isSome_none,Bool.false_eq_true,if_false];rw [← Array.getElem?_toList,d,Array.getElem?_toList,Array.getElem?_eq_getElem a,getElem!_pos F j a];rfl
theorem adW {w:World} {g n:Nat} {os:Array Obj} {cur:Array Value} {e:TypeId} {fr:Nat × Nat} (F:Array Value) (a:w.heap[g]? =some (.cells cur e fr)):(grow (putRow id (Sort.ahead w n) g 0 F) os).heap[g]? =some (.cells (putCells id 0 F cur) e fr):=by
 have b:g<w.heap.size:=(Array.getElem?_eq_some_iff.1 a).1;rw [heap_grow_old _ _ (by simpa using b)];simp [putRow,mapBlock,Sort.ahead,Array.getElem?_modify,a,onCells]
theorem RV {w:World} {g n k:Nat} {os:Array Obj} (F:Array Value) (b:k<w.heap.size) (a:g ≠ k):(grow (putRow id (Sort.ahead w n) g 0 F) os).heap[k]? =w.heap[k]? :=by
 rw [heap_grow_old _ _ (by simpa using b)];simp [putRow,mapBlock,Sort.ahead,Array.getElem?_modify,a]
theorem ajE {F cur:Array Value} (h:F.size≤cur.size):(putCells id 0 F cur).toList=F.toList++cur.toList.drop F.size:=by
 refine Xq8 fun t=> ?_
 unfold putCells;rw [Array.getElem?_toList,Array.getElem?_mapIdx];by_cases ht:t<F.size
 ·rw [υ (by simpa using ht),Array.getElem?_toList,Array.getElem?_eq_getElem ht,Array.getElem?_eq_getElem (by omega)];simp [ht]
 ·rw [Xq2 (by simp;omega),List.getElem?_drop];have e:F.size+(t - F.toList.length)=t:=by simp;omega
  rw [e,Array.getElem?_toList];cases cur[t]? with
  |none=>rfl
  |some x=>simp;omega
theorem EN (d:List Cs):d.flatMap Gp=vL (d.map Subtype.val):=by
 unfold vL;rw [List.flatMap_map];rfl
theorem MO (l:List Cl) (hs:∀ x ∈ l,gz x):(l.attachWith gz hs).map Subtype.val=l:=List.attachWith_map_subtype_val hs
theorem Mc (l:List Cl) (hs:∀ x ∈ l,gz x) (d:l.length<4611686018427387904) {w:World} {k cap:Nat} {cur:Array Value} {e:TypeId} (i:w.heap[k]? =some (.cells cur e (0,0))) (r:cur.toList.take (l.length*2)=vL l):
  Calls prog 40 #[.slice (some ⟨k,0,none⟩) l.length cap,.func (.func 41) #[] #[]] w fun e w'=>e= .returned (.tuple #[])∧∃ (n:Nat) (os:Array Obj) (F:Array Value),F.toList=vL (vV l)∧w'=grow (putRow id (Sort.ahead w n) k 0 F) os:=by
 have m:∀ args w,(callFunc 41 args).run prog w= .ok (.enter 41 args) w:=enters_of Tryz.func41 (by kernel_rfl) rfl;have f:(l.attachWith gz hs).toArray.size=l.length:=by simp
 have o:(flatK Gp 2 (l.attachWith gz hs).toArray).toList=vL l:=by
  rw [zn (enc:=Gp) (k:=2) (fun _=>rfl) (by decide),EN];show vL ((l.attachWith gz hs).map Subtype.val)=_;rw [MO]
 have t:HoldsK Gp 2 w k 0 (l.attachWith gz hs).toArray:=aaD i (by rw [size_flatK,f,o,r]);have h:=AnyQ.slices_SortFunc_total ahC 2 Tryz.isAgg25 Tryz.sizeOf25 Gp (fun _=>rfl) (fun x v j=>by simp [Gp] at j;rcases j with rfl|rfl<;>rfl) Qv aj7 41 #[] k 0 cap (l.attachWith gz hs).toArray w m (QY k 0 _ w) t (Array.getElem?_eq_some_iff.1 i).1 (by rw [f];exact d) aj_;rw [f] at h;refine Calls.mono h fun e w' h=> ?_
 obtain ⟨p,n,os,q⟩:=h;refine ⟨p,n,os,flatK Gp 2 ((l.attachWith gz hs).toArray.toList.mergeSort fun x y=> !(ltOf Qv) y x).toArray, ?_,q⟩;rw [zn (enc:=Gp) (k:=2) (fun _=>rfl) (by decide),EN];show vL (((l.attachWith gz hs).mergeSort fun x y=> !(ltOf Qv) y x).map Subtype.val)=_;rw [List.map_mergeSort (s:=fun x y=> !Am y x) (fun a _ b _=>by rw [rW]),MO];rfl
theorem Q8:oV prog 40:=fun args w=>(enters_of Tryz.func40 (by kernel_rfl) rfl) args w
theorem Vl {g:bD} {m:aB} {S:au}:∀ (l:List Cl) {vs:List Value},aS g m S (cL l) vs→vs=vL l
 | [],vs,h=>by
  cases vs with
  |nil=>rfl
  |cons v vs=>simp [cL,aS] at h
 | x::l,vs,h=>by
  have e:cL (x::l)= .int .i64 x.1::.int .i64 x.2::cL l:=rfl;rw [e] at h
  match vs,h with
  | [],h=>simp only [aS] at h
  | [_],h=>simp only [aS] at h;exact h.2.elim
  |v1::v2::r,h=>
   simp only [aS,VR] at h;obtain ⟨rfl,rfl,h⟩:=h;rw [Vl l h];rfl
theorem Ls {S:au}:∀ (l:List Cl),a_ S (cL l) (vL l)
 | []=>by simp [cL,vL,a_]
 |x::l=>by
  have e:cL (x::l)= .int .i64 x.1::.int .i64 x.2::cL l:=rfl;have a:vL (x::l)=Value.int .i64 x.1::Value.int .i64 x.2::vL l:=rfl;rw [e,a];simp only [a_,PR];exact ⟨trivial,trivial,Ls l⟩
theorem Ib (l:List Cl):(vL l).length=l.length*2:=by
 induction l with
 |nil=>rfl
 |cons x l ih=>
  have a:vL (x::l)=Value.int .i64 x.1::Value.int .i64 x.2::vL l:=rfl;rw [a];simp [ih];omega
theorem abL (l:List Cl):∀ u ∈ vL l,u.oneCell'=true:=by
 intro u a;obtain ⟨x,_,a⟩:=List.mem_flatMap.1 a;simp [vC] at a;rcases a with rfl|rfl<;>rfl
theorem UM (l:List Cl) (hl:l ≠ []) (hs:∀ x ∈ l,gz x) (T:l.length<4611686018427387904):ae prog ap 40 [.ref 0 0 0 l.length,.fn 41 [] []] [cB l] (.ret (.tup [])) [cB (vV l)]:=by
 refine ⟨ζ _,Q8, ?_⟩;intro m S w cargs z d;have hB:=z.blk 0 (cB l) rfl;obtain ⟨cur,e,vs,rest,s,k,hpr,P,hone,N⟩:=hB.lies;have Q:=s.cells (show (2:Nat) ≠ dJ by decide);have H:vs=vL l:=Vl l P;subst H
 match cargs,d with
 | [],d=>simp only [aS] at d
 | [_],d=>simp only [aS] at d;exact d.2.elim
 |_::_::_::_,d=>simp only [aS] at d;exact d.2.2.elim
 | [v1,v2],d=>
  simp only [aS,VR] at d;obtain ⟨⟨B,L,X,_,hq⟩,⟨Z,vc,rfl,R,M⟩,_⟩:=d;have J:B=cB l:=by simpa [ax] using L.symm
  subst J;obtain ⟨o,rfl,hle,ho,_,_⟩:=hq rfl;have hl0:0<l.length:=List.length_pos_iff.2 hl;have K:o=0:=by
   have:=ho (by omega);rw [this,Xjp]
  subst K;have A:Z= []:=by cases Z with|nil=>rfl|cons a r=>simp [aS] at R
  have y:vc= []:=by cases vc with|nil=>rfl|cons a r=>simp [aS] at M
  subst A y;have ht:cur.toList.take (l.length*2)=vL l:=by rw [k,← Ib,Xz9]
  refine (Mc l hs T (cap:=(m 0).2 - 0) Q ht).mono fun e' w' h=> ?_
  obtain ⟨rfl,n,os,F,hF,rfl⟩:=h;have G:F.size=l.length*2:=by
   rw [← Array.length_toList,hF,Ib,(yQ l).length_eq]
  have I:F.size≤cur.size:=by
   have u:=congrArg Xqb k;rw [η,Ib,Array.length_toList] at u;omega
  have p:=adW (n:=n) (os:=os) F Q;have D:(putCells id 0 F cur).toList=vL (vV l)++rest:=by
   rw [ajE I,hF,k,G,← Ib,Xjt]
  have hk:(m 0).1<w.heap.size:=(Array.getElem?_eq_some_iff.1 Q).1;have q:∀ j,j<w.heap.size→j ≠ (m 0).1→(grow (putRow id (Sort.ahead w n) (m 0).1 0 F) os).heap[j]? =w.heap[j]? :=fun j u W=>RV F u (Ne.symm W)
  have hb0:∀ (h:List az) (b:Nat) (B:az),ax [cB l] b=some B→b=0:=fun _ b B h=>by
   cases b with
   |zero=>rfl
   |succ b=>simp [ax] at h
  have i:∀ (b:Nat) (B:az),ax ([cB (vV l)]++h_ [cB (vV l)].length (.ret (.tup []))) b=some B→b=0∧B=cB (vV l):=fun b B h=>by
   cases b with
   |zero=>exact ⟨rfl,by simpa [ax,h_,iE] using h.symm⟩
   |succ b=>simp [ax,h_,iE,eQ] at h
  have t:(putCells id 0 F cur).size=cur.size:=by unfold putCells;simp
  refine ⟨m,S,⟨?_, ?_, ?_⟩⟩
  ·refine ⟨fun b b' B B' h h' _=>by rw [(i b B h).1,(i b' B' h').1],fun b B h=> ?_,fun j E v d=> ?_,fun b B h E v d=> ?_,z.glob⟩
   ·obtain ⟨rfl,rfl⟩:=i b B h;refine ⟨⟨putCells id 0 F cur,e,vL (vV l),rest,.of (show (2:Nat) ≠ dJ by decide) p,D,fun _=>Ls _,aV _ (Ls _),fun _=>abL _,fun u W=> ?_⟩,fun _=>rfl,Xqn _⟩;rw [t];exact N u W
   ·have f:j ≠ (m 0).1:=fun U=>by
     have:=(z.own 0 (cB l) rfl E v (U ▸ d)).1;cases this
    have Y:=z.sealed j E v d;rw [BB (q j (BA Y) f)];exact Y
   ·obtain ⟨rfl,rfl⟩:=i b B h;have:=(z.own 0 (cB l) rfl E v d).1;cases this
  ·refine ⟨fun b B h=> ?_,gK.refl S,rfl,rfl,rfl, ?_,fun j f hn=>q j f (fun U=>hn 0 (cB l) rfl U.symm),fun b B h=> .inr ⟨cB l,by rw [(i b B h).1];rfl,rfl⟩,fun _ _ _ h=> .inl h,fun b B h es clk f=> ?_⟩
   ·cases b with
    |zero=>
     have e2:B=cB l:=by simpa [ax] using h.symm
     subst e2;exact ⟨cB (vV l),rfl,rfl,.inl ⟨rfl,rfl⟩⟩
    |succ b=>simp [ax] at h
   ·simp [grow,putRow,mapBlock,Sort.ahead]
   ·obtain ⟨rfl,rfl⟩:=i b B h;rw [p] at f;cases f
  ·exact ⟨_,rfl,[],rfl,trivial⟩
theorem Rh:∀ (r:List Pv) (nm:List UInt8) (k j:Nat),AM.goL (fdF nm) (fun _=>none) r k=some j→k≤j∧j<k+r.length
 | [],nm,k,j,h=>by simp [AM.goL] at h
 | x::r,nm,k,j,h=>by
  unfold AM.goL fdF at h;by_cases hx:(x.nm==nm)=true
  ·rw [if_pos hx] at h;cases h;simp
  ·rw [if_neg hx] at h;have:=Rh r nm (k+1) j h;rw [τ];omega
theorem BF:∀ (r A:List Cl) (z y:Cl),y ∈ ui A z r→y ∈ A∨y ∈ r
 | [],A,z,y,h=> .inl h
 | u ::r,A,z,y,h=>by
  unfold ui at h;split at h
  ·exact (BF r A u y h).imp id fun h=>Θ _ h
  ·rcases BF r (A++ [u]) u y h with h|h
   ·rcases List.mem_append.1 h with h|h
    ·exact .inl h
    ·rw [χ] at h;exact .inr (by simp [h])
   ·exact .inr (Θ _ h)
theorem VN {l:List Cl} {y:Cl} (h:y ∈ dN l):y ∈ l:=by
 cases l with
 |nil=>exact h
 | cons x l=>
  rcases BF l [x] x y h with h|h
  ·rw [χ] at h;simp [h]
  ·exact Θ _ h
theorem Pz {L:Lw} {s:Int} {w y:Cl} {x:Nd} (b:aC s L.ps.length w=true) (h:rD L s w x=some y):aC s L.ps.length y=true:=by
 unfold rD at h;have j:fdB L.ps x.name=true→PI L.ps x.name<L.ps.length:=fun d=>by
  unfold fdB at d;unfold PI;cases e:VY L.ps x.name with
  |none=>rw [e] at d;cases d
  |some k=>
   have:=Rh L.ps x.name 0 k e;simp only [Xqt];omega
 split at h
 ·rename_i d;have i:=j d;generalize PI L.ps x.name=a at*
  unfold aC at b ⊢;simp only [ε,Xq9,decide_eq_true_eq,beq_iff_eq] at b ⊢;split at h
  ·cases h;exact ⟨b.1,b.2.1,b.2.2.1,by omega,by omega⟩
  ·split at h
   ·split at h
    ·rename_i f;cases h;have:s=2:=by simpa using f
     refine ⟨b.1, ?_, ?_,by omega,by omega⟩<;>omega
    ·cases h
   ·cases h
 ·cases h
theorem nR {L:Lw} {s:Int} {w y:Cl} (h:y ∈ fC L s w):aC s L.ps.length y=true:=by
 unfold fC at h;split at h
 ·rename_i d;have a:=(vF _).mem_iff.1 (VN h);unfold r_ at a;obtain ⟨x,_,b⟩:=List.mem_filterMap.1 a;exact Pz d b
 ·cases h
theorem J7 {s n:Int} {x:Cl} (h:aC s n x=true):gz x:=by
 unfold aC at h;simp only [ε,Xq9,decide_eq_true_eq,beq_iff_eq] at h;exact ⟨h.2.1,by omega⟩
theorem JH {L:Lw} {s:Int} {x:Cl}:∀ (l:List Cl),x ∈ l→dh (dw L s l) x=fC L s x
 | [],h=>by cases h
 | y::l,h=>by
  show (if y=x then fC L s y else dh (dw L s l) x)=_;by_cases e:y=x
  ·rw [if_pos e,e]
  ·rw [if_neg e];rcases List.mem_cons.1 h with h|h
   ·exact absurd h.symm e
   ·exact JH l h
theorem abO (L:Lw) (s:Int) (b:vZ L) (d:L.ps.length<2^30):wB (ak s L.ps.length) (fC L s) vV ((ak s L.ps.length).map cA) (xP (dw L s (ak s L.ps.length))) where
 cl x _ y hy:=gq.2 (nR hy)
 few:=by
  have:=fE s L.ps.length;omega
 us x a:=by
  have h:=KO (dw L s (ak s L.ps.length)) x;rw [JH _ a] at h;have e:(dw L s (ak s L.ps.length)).map (fun x=>cA x.1)=(ak s L.ps.length).map cA:=by
   unfold dw;rw [List.map_map];rfl
  rw [e] at h;exact h
 uk:=dM _
 ul x _:=by
  have:=lu b s x;omega
 perm:=yQ
 sort l hl2 hne h32:=UM l hne (fun x a=>J7 (gq.1 (hl2 x a))) (by omega)
abbrev aT:Type:=List Cl × Bool
def sC (z:aT):List AV:= [.bool z.2,.sl (cL z.1) z.1.length false]
def qH (n:Nat) (OT:List AV):List az:= [⟨[.ref 1 0 0 n,.ifc 101 (.agg [])],0,false,0,0,false⟩,⟨OT,0,false,0,2,true⟩]
theorem ack (n m:Bool) (x y:Cl) (a b:List Cl) (k:Int) (l:CO 41 [cA x,cA y] (.ret (ω k))):ae prog ap 352 [.agg [],.agg [.bool n,.sl (cL (x::a)) ((x::a)).length false],.agg [.bool m,.sl (cL (y::b)) ((y::b)).length false]] [] (.ret (.bool (decide (k<((0:Nat):Int))))) []:=by
 have e:(chk (.int .i64) (Xz1 (cL (y::b)) .dead))=true:=rfl;have i:(chk (.int .i64) (Xz1 (List.tail (cL (y::b))) .dead))=true:=rfl;have j:(decide (((0:Nat):Int)<((((y::b)).length:Nat):Int)))=true:=(Yq0 (by simp))
 have f:(chk (.int .i64) (Xz1 (cL (x::a)) .dead))=true:=rfl;have h:(chk (.int .i64) (Xz1 (List.tail (cL (x::a))) .dead))=true:=rfl;have d:(decide (((0:Nat):Int)<((((x::a)).length:Nat):Int)))=true:=(Yq0 (by simp))
 exact pK [] 0 0 (.c e (.c i (.k 1 j (.k 1 f (.c h (.k 1 d (.n 1 .nil))))))) (.c l .nil)
theorem Z_ (e d:Bool) (x y:Cl) (a b:List Cl) (f:gz x) (i:gz y):CO 352 [.agg [],.agg [.bool e,.sl (cL (x::a)) ((x::a)).length false],.agg [.bool d,.sl (cL (y::b)) ((y::b)).length false]] (.ret (.bool (Am x y))):=by
 obtain ⟨r,h,j⟩:=u_ x y f i;rw [← h];exact ack e d x y a b r j
theorem ad9 (n:Nat) (OT:List AV) (i j:Nat) (a b:aT) (o rb:List AV) (lt:Bool) (e:(decide ((i:Int)<(n:Int)))=true) (f:(decide ((j:Int)<(n:Int)))=true) (k:(κ ((0+(θ (i:Int)))*2) OT)=sC a++o) (l:(κ ((0+(θ (j:Int)))*2) OT)=sC b++rb) (m:CO 352 [.agg [],.agg (sC a),.agg (sC b)] (.ret (.bool lt))):ae prog ap 348 [.ptr 0 0 0,ω (i:Int),ω (j:Int)] (qH n OT) (.ret (.bool lt)) (qH n OT):=by
 have h:(decide ((j:Int)<(n:Int)))=true:=f;have d:(decide ((i:Int)<(n:Int)))=true:=e;exact pK [] 0 0 (.a (bU [.bool,.sl] l rfl) (.k 1 h (.n 1 (.a (bU [.bool,.sl] k rfl) (.k 1 d (.n 2 .nil)))))) (.c m (.v 24 (.rd [.bool,.sl] l rfl) (.v 17 (.rd [.bool,.sl] k rfl) .nil)))
theorem ag0 (n:Nat) (OT:List AV) (i j:Nat) (a b:aT) (r rb:List AV) (l:(decide ((i:Int)<(n:Int)))=true) (m:(decide ((j:Int)<(n:Int)))=true) (p:(κ ((0+(θ (i:Int)))*2) OT)=sC a++r) (q:(κ ((0+(θ (j:Int)))*2) OT)=sC b++rb) (f:(Xqq (((0+(θ (i:Int)))*2)+2) (Xqb OT))=true) (o:(Xqq (((0+(θ (j:Int)))*2)+2) (Xqb (Xqk ((0+(θ (i:Int)))*2) OT++sC b++κ (((0+(θ (i:Int)))*2)+2) OT)))=true):ae prog ap 351 [.ptr 0 0 0,ω (i:Int),ω (j:Int)] (qH n OT) (.ret (.tup [])) (qH n (Xqk ((0+(θ (j:Int)))*2) (Xqk ((0+(θ (i:Int)))*2) OT++sC b++κ (((0+(θ (i:Int)))*2)+2) OT)++sC a++κ (((0+(θ (j:Int)))*2)+2) (Xqk ((0+(θ (i:Int)))*2) OT++sC b++κ (((0+(θ (i:Int)))*2)+2) OT))):=by
 have h:(Xqq (((0+(θ (j:Int)))*2)+2) (Xqb (Xqk ((0+(θ (i:Int)))*2) OT++ [.bool b.2,.sl (cL b.1) b.1.length false]++κ (((0+(θ (i:Int)))*2)+2) OT)))=true:=o;have e:(decide ((j:Int)<(n:Int)))=true:=m;have k:(Xqq (((0+(θ (i:Int)))*2)+2) (Xqb OT))=true:=f;have d:(decide ((i:Int)<(n:Int)))=true:=l;exact pK [] 0 0 (.c h (.k 1 e (.c k (.k 1 d (.a (bU [.bool,.sl] p rfl) (.k 1 d (.n 1 (.a (bU [.bool,.sl] q rfl) (.k 1 e (.n 3 .nil)))))))))) (.v 29 (.rd [.bool,.sl] p rfl) (.v 22 (.rd [.bool,.sl] q rfl) .nil))
theorem E5 (n:Nat) (OT:List AV):ae prog ap 51 [.ptr 0 0 0] (qH n OT) (.ret (ω (n:Int))) (qH n OT):=by
 exact pK [] 0 0 (.n 1 .nil) (.nil)
def qN0:List az:= [⟨[.nilS,.ifc 101 (.agg [])],0,false,0,0,true⟩]
theorem ad8:ae prog ap 51 [.ptr 0 0 0] qN0 (.ret (ω 0)) qN0:=by
 exact pK [] 0 0 (.n 1 .nil) (.nil)
theorem aep (n:Nat) (OT:List AV) (x:aT) (e:(Xqq (n+1) 1099511627776)=true) (b:(Xqq (n*2) (Xqb OT))=true):ae prog ap 350 [.ptr 0 0 0,.ifc 66 (.agg [.bool x.2,.sl (cL x.1) x.1.length false])] (qH n OT) (.ret (.tup [])) [⟨[.ref 1 1 0 (n+1),.ifc 101 (.agg [])],0,false,0,0,false⟩,⟨(Xqk (n*2) OT)++sC x,1,false,0,2,true⟩]:=by
 have a:(Xqq (n+1) 1099511627776)=true:=e;have d:(Xqq (n*2) (Xqb OT))=true:=b;exact pK [] 0 0 (.k 2 a (.c d (.n 2 .nil))) (.nil)
theorem aeq (x:aT):ae prog ap 350 [.ptr 0 0 0,.ifc 66 (.agg [.bool x.2,.sl (cL x.1) x.1.length false])] qN0 (.ret (.tup [])) (qH 1 (sC x)):=by
 exact pK [] 1 0 (.n 5 .nil) (.nil)
theorem aeo (n:Nat) (OT:List AV) (k:Nat) (a:aT) (j:List AV) (i:(κ ((0+(θ (k:Int)))*2) OT)=sC a++j) (h:ω (ν .i64 ((n:Int) - ((1:Nat):Int)))= ω (k:Int)) (d:(decide ((k:Int)<(n:Int)))=true):ae prog ap 349 [.ptr 0 0 0] (qH n OT) (.ret (.ifc 66 (.agg [.bool a.2,.sl (cL a.1) a.1.length false]))) (qH k OT):=by
 have f:(decide ((k:Int)≤(n:Int)))=true:=(Yq0 (Int.le_of_lt (of_decide_eq_true d)))
 have e:(decide ((k:Int)<(n:Int)))=true:=d;exact pK [] 0 0 (.k 5 f (.n 3 (.a (bU [.bool,.sl] i rfl) (.k 1 e (.n 2 .nil))))) (.v 27 (.eq (T_ (b:=1) (v:=0) (ki:=k))) (.v 26 (.eq h) (.v 15 (.rd [.bool,.sl] i rfl) (.v 13 (.eq h) .nil))))
end Go.Proofs.Tryz
set_option maxRecDepth 100000
set_option linter.unusedVariables false
set_option linter.unusedSectionVars false
namespace Go.Proofs.Tryz
section
variable {β:Type}
structure AZ (lt:β→β→Bool):Prop where
 tot:∀ a b,lt a b=true→lt b a=false
 tr:∀ a b c,lt b a=false→lt c b=false→lt c a=false
def xI (f:Nat→β) (i j:Nat):Nat→β:=fun k=>if k=i then f j else if k=j then f i else f k
def Ez (lt:β→β→Bool) (f:Nat→β) (n:Nat):Prop:=∀ k,0<k→k<n→lt (f k) (f ((k - 1) / 2))=false
def UpF (lt:β→β→Bool) (f:Nat→β) (n j:Nat):Prop:=
 (∀ k,0<k→k<n→k ≠ j→lt (f k) (f ((k - 1) / 2))=false)∧∀ k,0<k→k<n→(k - 1) / 2=j→0<j→lt (f k) (f ((j - 1) / 2))=false
def DnF (lt:β→β→Bool) (f:Nat→β) (n i:Nat):Prop:=
 (∀ k,0<k→k<n→(k - 1) / 2 ≠ i→lt (f k) (f ((k - 1) / 2))=false)∧∀ k,0<k→k<n→(k - 1) / 2=i→0<i→lt (f k) (f ((i - 1) / 2))=false
theorem OQ {lt:β→β→Bool} {f:Nat→β} {n j:Nat} (h:UpF lt f n j) (b:j=0∨lt (f j) (f ((j - 1) / 2))=false):Ez lt f n:=fun k h0 a=>by
 by_cases e:k=j
 ·subst e;rcases b with e|e
  ·omega
  ·exact e
 ·exact h.1 k h0 a e
theorem Xx {lt:β→β→Bool} (r:AZ lt) {f:Nat→β} {n j:Nat} (h:UpF lt f n j) (u:0<j) (y:j<n) (p:lt (f j) (f ((j - 1) / 2))=true):UpF lt (xI f ((j - 1) / 2) j) n ((j - 1) / 2):=by
 have q:(j - 1) / 2 ≠ j:=by omega
 have l:lt (f ((j - 1) / 2)) (f j)=false:=r.tot _ _ p;have x:=h.2;generalize s:(j - 1) / 2=i at*
 refine ⟨fun k h0 e d=> ?_,fun k h0 e hp o=> ?_⟩
 ·unfold xI;rw [if_neg d];by_cases hkj:k=j
  ·subst hkj;rw [if_pos rfl,s,if_pos rfl];exact l
  ·rw [if_neg hkj];by_cases b:(k - 1) / 2=i
   ·rw [if_pos b];have m:=h.1 k h0 e hkj;rw [b] at m;exact r.tr _ _ _ l m
   ·rw [if_neg b];by_cases a:(k - 1) / 2=j
    ·rw [if_pos a];have:=h.2 k h0 e a u
     first|exact this|(rw [s] at this;exact this)
    ·rw [if_neg a];exact h.1 k h0 e hkj
 ·have m:=h.1 i o (by omega) q;have b:(i - 1) / 2 ≠ i:=by omega
  have a:(i - 1) / 2 ≠ j:=by omega
  unfold xI;have d:k ≠ i:=by omega
  rw [if_neg d,if_neg b,if_neg a];by_cases hkj:k=j
  ·rw [if_pos hkj];exact m
  ·rw [if_neg hkj];have t:=h.1 k h0 e hkj;rw [hp] at t;exact r.tr _ _ _ m t
theorem Gl {lt:β→β→Bool} {f:Nat→β} {n i:Nat} (h:DnF lt f n i) (b:∀ k,0<k→k<n→(k - 1) / 2=i→lt (f k) (f i)=false):Ez lt f n:=fun k h0 a=>by
 by_cases e:(k - 1) / 2=i
 ·rw [e];exact b k h0 a e
 ·exact h.1 k h0 a e
theorem VU {lt:β→β→Bool} (m:AZ lt) {f:Nat→β} {n i j:Nat} (h:DnF lt f n i) (e:0<j) (hp:(j - 1) / 2=i) (o:j<n) (l:lt (f j) (f i)=true) (p:∀ k,0<k→k<n→(k - 1) / 2=i→lt (f k) (f j)=false):DnF lt (xI f i j) n j:=by
 have q:i ≠ j:=by omega
 have d:lt (f i) (f j)=false:=m.tot _ _ l;refine ⟨fun k h0 b a=> ?_,fun k h0 b a _=> ?_⟩
 ·unfold xI;by_cases hpi:(k - 1) / 2=i
  ·rw [if_pos hpi];by_cases hkj:k=j
   ·rw [if_neg (by omega),if_pos hkj];exact d
   ·rw [if_neg (by omega),if_neg hkj];exact p k h0 b hpi
  ·rw [if_neg hpi,if_neg a];by_cases hki:k=i
   ·subst hki;rw [if_pos rfl];exact h.2 j e o hp h0
   ·rw [if_neg hki];by_cases hkj:k=j
    ·subst hkj;exact absurd hp hpi
    ·rw [if_neg hkj];exact h.1 k h0 b hpi
 ·unfold xI;rw [hp,if_pos rfl,if_neg (by omega),if_neg (by omega)];have:=h.1 k h0 b (by omega);rw [a] at this;exact this
theorem RX {lt:β→β→Bool} (b:AZ lt) {f:Nat→β} {n:Nat} (h:Ez lt f n) (h0:lt (f 0) (f 0)=false):∀ k,k<n→lt (f k) (f 0)=false:=by
 intro k
 induction k using Xww with
 |_ k ih=>
  intro a;by_cases e:k=0
  ·subst e;exact h0
  ·exact b.tr _ _ _ (ih ((k - 1) / 2) (by omega) (by omega)) (h k (by omega) a)
def gm (d:β) (l:List β) (i j:Nat):List β:=(l.set i (l.getD j d)).set j (l.getD i d)
theorem dX (d:β) (l:List β) (i j:Nat):(gm d l i j).length=l.length:=by simp [gm]
theorem DZ (d:β) {l:List β} {i j:Nat} (a:i<l.length) (b:j<l.length):(fun k=>(gm d l i j).getD k d)=xI (fun k=>l.getD k d) i j:=by
 funext k;unfold gm xI;simp only [γ,Xxd,List.length_set];by_cases h1:k=i
 ·subst h1;by_cases h2:j=k
  ·subst h2;simp [a]
  ·simp [h2,a]
 ·by_cases h2:k=j
  ·subst h2;simp [b,h1]
  ·rw [if_neg (fun e=>h2 e.symm),if_neg (fun e=>h1 e.symm),if_neg h1,if_neg h2]
theorem DV:∀ (l:List β) (i:Nat) (x y:β),l[i]? =some y→(x::l).Perm (y::l.set i x)
 | [],i,x,y,h=>by simp at h
 |z::l,0,x,y,h=>by simp at h;subst h;exact List.Perm.swap _ _ _
 |z::l,i+1,x,y,h=>by
  simp at h;have a:=DV l i x y h;exact (List.Perm.swap _ _ _).trans (((List.Perm.cons z a)).trans (List.Perm.swap _ _ _))
theorem ql (d:β) {l:List β} {i j:Nat} (a:i<l.length) (h:j<l.length):(gm d l i j).Perm l:=by
 unfold gm;have b:=DV l i (l.getD j d) (l.getD i d) (by simp [γ,δ a]);have f:=DV (l.set i (l.getD j d)) j (l.getD i d) (l.getD j d) (by
  by_cases e:i=j
  ·subst e;simp [a]
  ·rw [Xx1 e];simp [γ,δ h])
 exact (List.Perm.cons_inv (b.trans f)).symm
def Vf (lt:β→β→Bool) (d:β):Nat→List β→Nat→List β
 |0,l,_=>l
 |f+1,l,j=>if (j - 1) / 2=j∨lt (l.getD j d) (l.getD ((j - 1) / 2) d)=false then l else Vf lt d f (gm d l ((j - 1) / 2) j) ((j - 1) / 2)
theorem Vg {lt:β→β→Bool} (n:AZ lt) (d:β):∀ (f:Nat) (l:List β) (j:Nat),j<l.length→j≤f→UpF lt (fun k=>l.getD k d) l.length j→Ez lt (fun k=>(Vf lt d f l j).getD k d) l.length∧(Vf lt d f l j).Perm l∧(Vf lt d f l j).length=l.length
 |0,l,j,hj,hf,h=> ⟨OQ h (.inl (by omega)),List.Perm.refl _,rfl⟩
 | f+1,l,j,hj,hf,h=>by
  unfold Vf;by_cases hc:(j - 1) / 2=j∨lt (l.getD j d) (l.getD ((j - 1) / 2) d)=false
  ·rw [if_pos hc];refine ⟨OQ h ?_,List.Perm.refl _,rfl⟩;rcases hc with e|e
   ·exact .inl (by omega)
   ·exact .inr e
  ·rw [if_neg hc];have p:(j - 1) / 2 ≠ j:=fun e=>hc (.inl e)
   have a:lt (l.getD j d) (l.getD ((j - 1) / 2) d)=true:=by
    cases e:lt (l.getD j d) (l.getD ((j - 1) / 2) d) with
    |true=>rfl
    |false=>exact absurd (.inr e) hc
   have hp:(j - 1) / 2<l.length:=by omega
   have b:=Xx n h (by omega) hj a;rw [← DZ d hp hj] at b;obtain ⟨i,o,m⟩:=Vg n d f (gm d l ((j - 1) / 2) j) ((j - 1) / 2) (by rw [dX];exact hp) (by omega) (by rw [dX];exact b);rw [dX] at i m;exact ⟨i,o.trans (ql d hp hj),m⟩
def rQ (lt:β→β→Bool) (d:β) (l:List β) (n i:Nat):Nat:=if 2*i+2<n∧lt (l.getD (2*i+2) d) (l.getD (2*i+1) d)=true then 2*i+2 else 2*i+1
def Kq (lt:β→β→Bool) (d:β) (n:Nat):Nat→List β→Nat→List β
 |0,l,_=>l
 |f+1,l,i=>if n≤2*i+1 then l else if lt (l.getD (rQ lt d l n i) d) (l.getD i d)=false then l else Kq lt d n f (gm d l i (rQ lt d l n i)) (rQ lt d l n i)
theorem U5 (d:β) {l:List β} {i j n k:Nat} (b:i<n) (e:j<n) (a:n≤k):(gm d l i j)[k]? =l[k]? :=by
 unfold gm;rw [Xx1 (by omega),Xx1 (by omega)]
theorem Q5 {lt:β→β→Bool} (q:AZ lt) (d:β) {n:Nat}:∀ (f:Nat) (l:List β) (i:Nat),n≤l.length→n≤i+f→DnF lt (fun k=>l.getD k d) n i→Ez lt (fun k=>(Kq lt d n f l i).getD k d) n∧(Kq lt d n f l i).Perm l∧(Kq lt d n f l i).length=l.length∧∀ k,n≤k→(Kq lt d n f l i)[k]? =l[k]?
 |0,l,i,hn,hf,h=> ⟨Gl h fun k h0 m hp=>by omega,List.Perm.refl _,rfl,fun _ _=>rfl⟩
 | f +1,l,i,hn,hf,h=>by
  unfold Kq;by_cases h1:n≤2*i+1
  ·rw [if_pos h1];exact ⟨Gl h fun k h0 m hp=>by omega,List.Perm.refl _,rfl,fun _ _=>rfl⟩
  ·rw [if_neg h1];have r:rQ lt d l n i<n∧0<rQ lt d l n i∧(rQ lt d l n i - 1) / 2=i∧i<rQ lt d l n i:=by
    unfold rQ;split<;>(refine ⟨?_, ?_, ?_, ?_⟩<;>omega)
   have o:∀ k,0<k→k<n→(k - 1) / 2=i→lt (l.getD k d) (l.getD (rQ lt d l n i) d)=false:=fun k h0 m hp=>by
    have p:∀ x:β,lt x x=false:=fun x=>by
     cases e:lt x x with
     |false=>rfl
     |true=>have:=q.tot x x e;rw [e] at this;cases this
    have b:k=2*i+1∨k=2*i+2:=by omega
    unfold rQ;by_cases a:2*i+2<n∧lt (l.getD (2*i+2) d) (l.getD (2*i+1) d)=true
    ·rw [if_pos a];rcases b with e|e
     ·subst e;exact q.tot _ _ a.2
     ·subst e;exact p _
    ·rw [if_neg a];rcases b with e|e
     ·subst e;exact p _
     ·subst e;cases e:lt (l.getD (2*i+2) d) (l.getD (2*i+1) d) with
      |false=>rfl
      |true=>exact absurd ⟨m,e⟩ a
   obtain ⟨s,b,t,E⟩:=r;generalize rQ lt d l n i=j at*
   by_cases a:lt (l.getD j d) (l.getD i d)=false
   ·rw [if_pos a];exact ⟨Gl h fun k h0 m hp=>q.tr _ _ _ a (o k h0 m hp),List.Perm.refl _,rfl,fun _ _=>rfl⟩
   ·rw [if_neg a];have a:lt (l.getD j d) (l.getD i d)=true:=by
     cases e:lt (l.getD j d) (l.getD i d) with
     |true=>rfl
     |false=>exact absurd e a
    have y:i<l.length:=by omega
    have A:j<l.length:=by omega
    have z:=VU q h b t s a o;rw [← DZ d y A] at z;obtain ⟨D,B,u,F⟩:=Q5 q d f (gm d l i j) j (by rw [dX];exact hn) (by omega) z;rw [dX] at u;exact ⟨D,B.trans (ql d y A),u,fun k m=>by rw [F k m,U5 d (by omega) s m]⟩
def kN (lt:β→β→Bool) (d:β) (l:List β) (x:β):List β:=Vf lt d l.length (l++ [x]) l.length
def pX (lt:β→β→Bool) (d:β) (l:List β):β × List β:=
 let l2:=Kq lt d (l.length - 1) (l.length - 1) (gm d l 0 (l.length - 1)) 0
 (l2.getD (l.length - 1) d,l2.take (l.length - 1))
def mV (lt:β→β→Bool) (d:β) (l:List β):Prop:=Ez lt (fun k=>l.getD k d) l.length
theorem nN {lt:β→β→Bool} (m:AZ lt) (d:β) {l:List β} (h:mV lt d l) (x:β):mV lt d (kN lt d l x)∧(kN lt d l x).Perm (x::l):=by
 have e:UpF lt (fun k=>(l++ [x]).getD k d) (l++ [x]).length l.length:=by
  refine ⟨fun k h0 a f=> ?_,fun k h0 a hp _=> ?_⟩
  ·have a:k<l.length+1:=by simpa using a
   have b:=h k h0 (by omega);simp only [γ] at b ⊢;rw [υ (by omega),υ (by omega)];exact b
  ·have a:k<l.length+1:=by simpa using a
   omega
 obtain ⟨b,j,i⟩:=Vg m d l.length (l++ [x]) l.length (by simp) (ζ _) e;refine ⟨?_,j.trans List.perm_append_comm⟩;unfold mV kN;rw [i];exact b
theorem TM {lt:β→β→Bool} (n:AZ lt) (d:β) {l:List β} (h:mV lt d l) (b:0<l.length):mV lt d (pX lt d l).2∧((pX lt d l).1::(pX lt d l).2).Perm l∧(∀ y ∈ l,lt y (pX lt d l).1=false)∧(pX lt d l).2.length+1=l.length:=by
 have j:∀ x:β,lt x x=false:=fun x=>by
  cases e:lt x x with
  |false=>rfl
  |true=>have:=n.tot x x e;rw [e] at this;cases this
 have t:DnF lt (fun k=>(gm d l 0 (l.length - 1)).getD k d) (l.length - 1) 0:=by
  refine ⟨fun k h0 a hp=> ?_,fun k h0 a hp p=>by omega⟩;rw [DZ d b (by omega)];unfold xI;rw [if_neg (by omega),if_neg (by omega),if_neg hp,if_neg (by omega)];exact h k h0 (by omega)
 obtain ⟨p,o,A,r⟩:=Q5 n d (l.length - 1) (gm d l 0 (l.length - 1)) 0 (by rw [dX];omega) (by omega) t;have hlast:(Kq lt d (l.length - 1) (l.length - 1) (gm d l 0 (l.length - 1)) 0)[l.length - 1]? =some (l.getD 0 d):=by
  rw [r _ (ζ _)];unfold gm;rw [Xx4 (by simp;omega)]
 rw [dX] at A;have o:=o.trans (ql d b (by omega));have q:(pX lt d l).1=l.getD 0 d:=by
  unfold pX;simp only [γ,hlast,Xqt]
 have s:(pX lt d l).2=(Kq lt d (l.length - 1) (l.length - 1) (gm d l 0 (l.length - 1)) 0).take (l.length - 1):=rfl;rw [q,s];generalize Kq lt d (l.length - 1) (l.length - 1) (gm d l 0 (l.length - 1)) 0=m at*
 have z:m=m.take (l.length - 1)++ [l.getD 0 d]:=by
  have hm:l.length - 1<m.length:=by omega
  have B:m[l.length - 1]=l.getD 0 d:=by rw [δ hm] at hlast;exact Option.some.inj hlast
  have i:m.drop (l.length - 1)= [m[l.length - 1]]:=by
   rw [Xxn hm,List.drop_eq_nil_of_le (by omega)]
  rw [← B,← i,Xq4]
 have f:(m.take (l.length - 1)).length=l.length - 1:=by simp;omega
 refine ⟨?_, ?_,fun y u=> ?_,by omega⟩
 ·intro k h0 a;rw [f] at a;have:=p k h0 a;simp only [γ] at this ⊢;rw [Xxi a,Xxi (by omega)];exact this
 ·have:(m.take (l.length - 1)++ [l.getD 0 d]).Perm l:=z ▸ o;exact (List.perm_append_comm.symm.trans this)
 ·obtain ⟨k,a,rfl⟩:=List.getElem_of_mem u;have i:=RX n h (j _) k a;simp only [γ,δ a,Xqt] at i;rw [γ];exact i
end
end Go.Proofs.Tryz
set_option maxRecDepth 100000
set_option linter.unusedVariables false
set_option linter.unusedSectionVars false
namespace Go.Proofs.Tryz
section
variable {β:Type}
structure FT (lt:Nat→Nat→Bool) (E:Nat→List Nat) (n:Nat) (π:List Nat):Prop where
 nd:π.Nodup
 lt_n:∀ k ∈ π,k<n
 rdy:∀ p k,π[p]? =some k→∀ j ∈ E k,j ∈ π.take p
 lst:∀ p k,π[p]? =some k→∀ j,j<n→j ∉ π.take p→(∀ i ∈ E j,i ∈ π.take p)→lt j k=false
def jh (E:Nat→List Nat) (D:List Nat) (k:Nat):Nat:=((E k).filter fun j=>decide (j ∉ D)).length
def Dy (lt:β→β→Bool) (d:β) (g:Nat→β) (s:List Nat × List β) (j:Nat):List Nat × List β:=
 (s.1.set j (s.1.getD j 0 - 1),if s.1.getD j 0 - 1=0 then kN lt d s.2 (g j) else s.2)
structure Il (lt:β→β→Bool) (d:β) (g:Nat→β) (E:Nat→List Nat) (n:Nat) (D needs:List Nat) (heap:List β):Prop where
 gr:FT (fun i j=>lt (g i) (g j)) E n D
 nl:needs.length=n
 nv:∀ k,k<n→needs[k]? =some (jh E D k)
 hp:mV lt d heap
 rd:∃ R:List Nat,R.Nodup∧heap.Perm (R.map g)∧∀ k,k ∈ R↔k<n∧k ∉ D∧∀ j ∈ E k,j ∈ D
theorem EZ {E:Nat→List Nat} {D:List Nat} {k:Nat}:jh E D k=0↔∀ j ∈ E k,j ∈ D:=by
 unfold jh;rw [List.length_eq_zero_iff,List.filter_eq_nil_iff];simp
theorem Jh {E:Nat→List Nat} {D:List Nat} {j k:Nat} (b:(E j).Nodup) (a:k ∈ E j) (f:k ∉ D):jh E D j=jh E (D++ [k]) j+1:=by
 unfold jh;generalize E j=l at*
 induction l with
 |nil=>cases a
 | cons x l ih=>
  rw [Xxo] at b;by_cases e:x=k
  ·subst e;rw [Xzi (by simp [f]),Xzj (by simp)];have:(l.filter fun j=>decide (j ∉ D))=l.filter fun j=>decide (j ∉ D++ [x]):=by
    refine Xxv fun y d=> ?_
    have:y ≠ x:=fun e=>b.1 (e ▸ d)
    simp [this]
   rw [this,τ]
  ·have a:k ∈ l:=by
    rcases List.mem_cons.1 a with h|h
    ·exact absurd h.symm e
    ·exact h
   by_cases hx:x ∈ D
   ·rw [Xzj (by simp [hx]),Xzj (by simp [hx])];exact ih b.2 a
   ·rw [Xzi (by simp [hx]),Xzi (by simp [hx,e]),τ,τ];have:=ih b.2 a;omega
theorem PU {E:Nat→List Nat} {D:List Nat} {j k:Nat} (a:k ∉ E j):jh E D j=jh E (D++ [k]) j:=by
 unfold jh;congr 1;refine Xxv fun y b=> ?_
 have:y ≠ k:=fun e=>a (e ▸ b)
 simp [this]
structure QL (lt:β→β→Bool) (d:β) (g:Nat→β) (E:Nat→List Nat) (n:Nat) (D:List Nat) (k:Nat) (done:List Nat) (s:List Nat × List β):Prop where
 nl:s.1.length=n
 nv:∀ j,j<n→s.1[j]? =some (if k ∈ E j∧j ∉ done then jh E D j else jh E (D++ [k]) j)
 hp:mV lt d s.2
 rd:∃ R:List Nat,R.Nodup∧s.2.Perm (R.map g)∧∀ j,j ∈ R↔(j<n∧j ∉ D++ [k]∧∀ i ∈ E j,i ∈ D++ [k])∧(k ∈ E j→j ∈ done)
theorem Ub {lt:β→β→Bool} (A:AZ lt) {d:β} {g:Nat→β} {E:Nat→List Nat} {n:Nat} {D:List Nat} {k:Nat} {done:List Nat} {s:List Nat × List β} (G:∀ j,j<n→(E j).Nodup) (q:k ∉ D) (l:∀ j ∈ D,∀ i ∈ E j,i ∈ D) (f:k ∉ E k)
  (h:QL lt d g E n D k done s) {j:Nat} (hj:j<n) (hkj:k ∈ E j) (hjd:j ∉ done):QL lt d g E n D k (done++ [j]) (Dy lt d g s j):=by
 have r:=h.nv j hj;rw [if_pos ⟨hkj,hjd⟩] at r;have H:=Jh (G j hj) hkj q;have b:j ∉ D:=fun hm=>q (l j hm k hkj)
 have m:j ≠ k:=fun e=>f (e ▸ hkj)
 have B:s.1.getD j 0=jh E D j:=by rw [γ,r];rfl
 have F:s.1.getD j 0 - 1=jh E (D++ [k]) j:=by rw [B];omega
 obtain ⟨R,t,u,o⟩:=h.rd;unfold Dy;rw [F];refine ⟨by simp [h.nl],fun i p=> ?_, ?_, ?_⟩
 ·show (s.1.set j (jh E (D++ [k]) j))[i]? =_;by_cases e:i=j
  ·subst e;rw [Xx4 (by rw [h.nl];exact p),if_neg (by simp)]
  ·rw [Xx1 (fun x=>e x.symm),h.nv i p];congr 1;by_cases c:k ∈ E i∧i ∉ done
   ·rw [if_pos c,if_pos ⟨c.1,by simp [c.2,e]⟩]
   ·rw [if_neg c,if_neg (fun x=>c ⟨x.1,fun y=>x.2 (Xx0 _ y)⟩)]
 ·show mV lt d (if jh E (D++ [k]) j=0 then kN lt d s.2 (g j) else s.2);split
  ·exact (nN A d h.hp _).1
  ·exact h.hp
 ·show ∃ R:List Nat,R.Nodup∧(if jh E (D++ [k]) j=0 then kN lt d s.2 (g j) else s.2).Perm (R.map g)∧_;by_cases c:jh E (D++ [k]) j=0
  ·rw [if_pos c];refine ⟨j::R, ?_, ?_,fun i=> ?_⟩
   ·rw [Xxo];exact ⟨fun hm=>hjd (((o j).1 hm).2 hkj),t⟩
   ·exact (nN A d h.hp _).2.trans (List.Perm.cons _ u)
   ·rw [Xqo,o];constructor
    ·rintro (e|⟨x,y⟩)
     ·subst e;exact ⟨⟨hj,by simp [b,m],EZ.1 c⟩,fun _=>by simp⟩
     ·exact ⟨x,fun z=>Xx0 _ (y z)⟩
    ·rintro ⟨x,y⟩
     by_cases e:i=j
     ·exact .inl e
     ·refine .inr ⟨x,fun z=> ?_⟩;have:=y z;simp [e] at this;exact this
  ·rw [if_neg c];refine ⟨R,t,u,fun i=> ?_⟩;rw [o];constructor
   ·rintro ⟨x,y⟩
    exact ⟨x,fun z=>Xx0 _ (y z)⟩
   ·rintro ⟨x,y⟩
    refine ⟨x,fun z=> ?_⟩;have a:=y z;rcases List.mem_append.1 a with a|a
    ·exact a
    ·rw [χ] at a;subst a;exact absurd (EZ.2 x.2.2) c
theorem Ot {lt:β→β→Bool} (l:AZ lt) {d:β} {g:Nat→β} {E:Nat→List Nat} {n:Nat} {D:List Nat} {k:Nat} (f:∀ j,j<n→(E j).Nodup) (e:k ∉ D) (b:∀ j ∈ D,∀ i ∈ E j,i ∈ D) (a:k ∉ E k):
  ∀ (U done:List Nat) (s:List Nat × List β),(done++U).Nodup→(∀ j ∈ U,j<n∧k ∈ E j)→QL lt d g E n D k done s→QL lt d g E n D k (done++U) (U.foldl (Dy lt d g) s)
 | [],done,s,_,_,h=>by rw [μ];exact h
 | j::U,done,s,hn,hU,h=>by
  have o:=Ub l f e b a h (hU j (by simp)).1 (hU j (by simp)).2 (fun hm=>by
   have:=(List.nodup_append.1 hn).2.2 j hm j (by simp);exact this rfl)
  have p:=Ot l f e b a U (done++ [j]) _ (by simpa using hn) (fun i m=>hU i (Θ _ m)) o;simpa using p
theorem aaP {lt:β→β→Bool} (P:AZ lt) {d:β} {g:Nat→β} {E:Nat→List Nat} {n:Nat} (hE:∀ j,j<n→(E j).Nodup) (hself:∀ k,k<n→k ∉ E k) {U:Nat→List Nat} (hU:∀ k,k<n→(U k).Nodup∧∀ j,j ∈ U k↔j<n∧k ∈ E j)
  {D needs:List Nat} {heap:List β} (h:Il lt d g E n D needs heap) (hne:0<heap.length):
  ∃ k,k<n∧k ∉ D∧(pX lt d heap).1=g k∧Il lt d g E n (D++ [k]) ((U k).foldl (Dy lt d g) (needs,(pX lt d heap).2)).1 ((U k).foldl (Dy lt d g) (needs,(pX lt d heap).2)).2:=by
 obtain ⟨R,L,K,I⟩:=h.rd;obtain ⟨S,N,Y,p4⟩:=TM P d h.hp hne;have s:(pX lt d heap).1 ∈ R.map g:=(N.trans K).mem_iff.1 (by simp);obtain ⟨k,A,o⟩:=List.mem_map.1 s;obtain ⟨l,m,J⟩:=(I k).1 A;have F:∀ j ∈ D,∀ i ∈ E j,i ∈ D:=fun j a i f=>by
  obtain ⟨p,hp⟩:=Xq1 a;exact List.mem_of_mem_take (h.gr.rdy p j hp i f)
 have H:QL lt d g E n D k [] (needs,(pX lt d heap).2):=by
  refine ⟨h.nl,fun j a=> ?_,S,R.erase k,L.erase _, ?_,fun j=> ?_⟩
  ·show needs[j]? =_;rw [h.nv j a];congr 1;by_cases c:k ∈ E j
   ·rw [if_pos ⟨c,by simp⟩]
   ·rw [if_neg (fun x=>c x.1)];exact PU c
  ·have W:(g k::(pX lt d heap).2).Perm (g k::(R.erase k).map g):=by
    rw [o];refine (N.trans K).trans ?_;rw [← o];have:=(List.perm_cons_erase A).map g;simpa using this
   exact List.Perm.cons_inv W
  ·rw [L.mem_erase_iff,I];simp;constructor
   ·rintro ⟨x,y,z,u⟩
    exact ⟨⟨y,⟨z,x⟩,fun i f=> .inl (u i f)⟩,fun Q=>m (u k Q)⟩
   ·rintro ⟨⟨x,⟨y,z⟩,u⟩,v⟩
    refine ⟨z,x,y,fun i f=> ?_⟩;rcases u i f with e|e
    ·exact e
    ·subst e;exact absurd f v
 obtain ⟨Z,G⟩:=hU k l;have t:=Ot P hE m F (hself k l) (U k) [] _ (by simpa using Z) (fun j a=>(G j).1 a) H;rw [Xqj] at t;refine ⟨k,l,m,o.symm,⟨?_, ?_, ?_, ?_⟩,t.nl,fun j a=> ?_,t.hp, ?_⟩
 ·rw [Xq6];exact ⟨h.gr.nd,by simp,fun x X y M e=>by rw [χ] at M;subst M;subst e;exact m X⟩
 ·intro j a;rcases List.mem_append.1 a with a|a
  ·exact h.gr.lt_n j a
  ·rw [χ] at a;subst a;exact l
 ·intro p j hp i f;by_cases c:p<D.length
  ·rw [υ c] at hp;rw [Xq3 (by omega)];exact h.gr.rdy p j hp i f
  ·have r:=(List.getElem?_eq_some_iff.1 hp).1;simp at r;have e:p=D.length:=by omega
   subst e;simp at hp;subst hp;rw [Xq3 (ζ _),Xjj];exact J i f
 ·intro p j hp i B q b;by_cases c:p<D.length
  ·rw [υ c] at hp;rw [Xq3 (by omega)] at q b;exact h.gr.lst p j hp i B q b
  ·have r:=(List.getElem?_eq_some_iff.1 hp).1;simp at r;have e:p=D.length:=by omega
   subst e;simp at hp;subst hp;rw [Xq3 (ζ _),Xjj] at q b;show lt (g i) (g k)=false;rw [o];exact Y _ (K.mem_iff.2 (List.mem_map.2 ⟨i,(I i).2 ⟨B,q,b⟩,rfl⟩))
 ·rw [t.nv j a,if_neg];exact fun x=>x.2 ((G j).2 ⟨a,x.1⟩)
 ·obtain ⟨R2,r1,T,r3⟩:=t.rd;refine ⟨R2,r1,T,fun j=> ?_⟩;rw [r3];constructor
  ·exact fun x=>x.1
  ·exact fun x=> ⟨x,fun y=>(G j).2 ⟨x.1,y⟩⟩
theorem Yd {lt:β→β→Bool} {d:β} {g:Nat→β} {E:Nat→List Nat} {n:Nat} (a:∀ k,k<n→∀ j ∈ E k,j<k) {D needs:List Nat} {heap:List β} (h:Il lt d g E n D needs heap) (e:heap.length=0):∀ k,k<n→k ∈ D:=by
 obtain ⟨R,p,l,m⟩:=h.rd;have o:R= []:=by
  have:=l.length_eq;simp [e] at this;exact List.eq_nil_of_length_eq_zero (by omega)
 subst o;intro k
 induction k using Xww with
 |_ k ih=>
  intro b;refine Xjn fun i=> ?_
  have:=(m k).2 ⟨b,i,fun j f=>ih j (a k b j f) (Nat.lt_trans (a k b j f) b)⟩;cases this
end
def sL (l:List aT):List AV:=l.flatMap sC
def QS (l:List aT) (OT:List AV):Prop:=OT.take (l.length*2)=sL l
def eP (z:aT):Prop:=∃ x r,z.1=x::r∧gz x
def jY (a b:aT):Bool:=Am (a.1.headD (0,0)) (b.1.headD (0,0))
abbrev dS:aT:=([],false)
theorem vU (l:List aT):(sL l).length=l.length*2:=rO (n:=2) (fun _=>rfl) l
theorem QS.eq {l:List aT} {OT:List AV} (h:QS l OT):OT=sL l++OT.drop (l.length*2):=by
 have e:=Xq4 (l.length*2) OT;rw [h] at e;exact e.symm
theorem QS.len {l:List aT} {OT:List AV} (h:QS l OT):l.length*2≤OT.length:=by
 have a:=congrArg Xqb h;rw [vU,Xqm] at a;omega
theorem QS.of {l:List aT} (r:List AV):QS l (sL l++r):=by
 unfold QS;rw [← vU,Xz9]
theorem QS.split {l:List aT} {OT:List AV} (h:QS l OT) {i:Nat} (b:i<l.length):∃ p a r,l=p++a::r∧p.length=i∧a=l.getD i dS∧OT=sL p++(sC a++(sL r++OT.drop (l.length*2))):=by
 refine ⟨l.take i,l.getD i dS,l.drop (i+1), ?_,by rw [Xqm];omega,rfl, ?_⟩
 ·rw [γ,δ b,Xqt,Xwq b,Xq4]
 ·have e:=h.eq;have d:l=l.take i++l.getD i dS::l.drop (i+1):=by rw [γ,δ b,Xqt,Xwq b,Xq4]
  have f:sL l=sL (l.take i)++(sC (l.getD i dS)++sL (l.drop (i+1))):=by
   conv=>lhs;rw [d]
   simp [sL]
  rw [f] at e;simpa [Xqi] using e
theorem i2 (i:Nat):(0+(θ (i:Int)))*2=i*2:=by simp
theorem QS.drop {l:List aT} {OT:List AV} (h:QS l OT) {i:Nat} (b:i<l.length):∃ ra,(κ ((0+(θ (i:Int)))*2) OT)=sC (l.getD i dS)++ra:=by
 obtain ⟨p,a,r,k,f,j,e⟩:=h.split b;refine ⟨sL r++OT.drop (l.length*2), ?_⟩;rw [i2,← j];have d:i*2=(sL p).length:=by rw [vU,f]
 conv=>lhs;rw [e]
 rw [d,Xjt]
theorem QS.set {l:List aT} {OT:List AV} (h:QS l OT) {i:Nat} (k:i<l.length) (b:aT):QS (l.set i b) (Xqk ((0+(θ (i:Int)))*2) OT++sC b++κ (((0+(θ (i:Int)))*2)+2) OT):=by
 obtain ⟨p,a,r,m,f,t,j⟩:=h.split k;have e:i*2=(sL p).length:=by rw [vU,f]
 have s:Xqk (i*2) OT=sL p:=by
  conv=>lhs;rw [j]
  rw [e,Xz9]
 have n:κ (i*2+2) OT=sL r++OT.drop (l.length*2):=by
  conv=>lhs;rw [j]
  have o:i*2+2=(sL p++sC a).length:=by rw [η,← e];rfl
  rw [o,← Xqi,Xjt]
 have q:l.set i b=p++b::r:=by rw [m,← f,List.set_append_right _ _ (ζ _)];simp
 rw [i2,s,n,q];have d:sL p++sC b++(sL r++OT.drop (l.length*2))=sL (p++b::r)++OT.drop (l.length*2):=by simp [sL]
 rw [d];exact .of _
theorem Xf {OT:List AV} {i:Nat} (b:aT) (h:i*2+2≤OT.length):(Xqk ((0+(θ (i:Int)))*2) OT++sC b++κ (((0+(θ (i:Int)))*2)+2) OT).length=OT.length:=by
 rw [i2,η,η,Xqm,Xxb];have e:(sC b).length=2:=rfl;rw [e];omega
theorem eP.bef {a b:aT} (j:eP a) (h:eP b):CO 352 [.agg [],.agg (sC a),.agg (sC b)] (.ret (.bool (jY a b))):=by
 obtain ⟨x,r,d,i⟩:=j;obtain ⟨y,q,e,l⟩:=h;obtain ⟨m,k⟩:=a;obtain ⟨n,f⟩:=b;simp only at d e;subst d e;exact Z_ k f x y r q i l
theorem ltn {i n:Nat} (h:i<n):(decide ((i:Int)<(n:Int)))=true:=Yq0 (by omega)
theorem CG {l:List aT} {OT:List AV} (h:QS l OT) (d:∀ z ∈ l,eP z) {i j:Nat} (a:i<l.length) (b:j<l.length):ae prog ap 348 [.ptr 0 0 0,nI i,nI j] (qH l.length OT) (.ret (.bool (jY (l.getD i dS) (l.getD j dS)))) (qH l.length OT):=by
 obtain ⟨m,f⟩:=h.drop a;obtain ⟨rb,k⟩:=h.drop b;have gi:eP (l.getD i dS):=d _ (by rw [γ,δ a];exact Xxq a);have e:eP (l.getD j dS):=d _ (by rw [γ,δ b];exact Xxq b);exact ad9 l.length OT i j _ _ m rb _ (ltn a) (ltn b) f k (gi.bef e)
theorem D5 {l:List aT} {OT:List AV} (h:QS l OT) {i j:Nat} (a:i<l.length) (b:j<l.length):∃ OT2,QS (gm dS l i j) OT2∧ae prog ap 351 [.ptr 0 0 0,nI i,nI j] (qH l.length OT) (.ret (.tup [])) (qH l.length OT2):=by
 obtain ⟨m,d⟩:=h.drop a;obtain ⟨rb,f⟩:=h.drop b;have o:=h.len;have k:=h.set a (l.getD j dS);have n:=k.set (i:=j) (by simpa using b) (l.getD i dS);refine ⟨_,n, ?_⟩;have e:=Xf (OT:=OT) (i:=i) (l.getD j dS) (by omega);exact ag0 l.length OT i j _ _ m rb (ltn a) (ltn b) d f (ξ (by rw [i2];omega)) (ξ (by rw [e,i2];omega))
def upS (n:Nat) (OT:List AV) (j:Nat):St:=⟨[(0,.ifc 99 (.ptr 0 0 0)),(1,ω (j:Int))],[(0,⟨[.ref 1 0 0 n,.ifc 101 (.agg [])],0,false,0,0,false⟩),(1,⟨OT,0,false,0,2,true⟩)],.dead,[]⟩
def upE (n:Nat) (OT:List AV):St:=⟨[],[(0,⟨[.ref 1 0 0 n,.ifc 101 (.agg [])],0,false,0,0,false⟩),(1,⟨OT,0,false,0,2,true⟩)],.dead,[]⟩
theorem ahq {nt:Nat} (d:23≤nt) (f e:az) (n:Nat) (OT OT2:List AV) (i j:Nat) (lt:Bool) (a:((i:Int)==(j:Int))=true) (b:ω (ν .i64 (Xvx (ν .i64 ((j:Int) - ((1:Nat):Int))) ((2:Nat):Int)))= ω (i:Int)):ag prog ap [f,e] nt (ah 0 (af f98)) (upS n OT j) (.exit 0) (upE n OT):=by
 exact pN 98 [] 2 3 (.k 1 (aQ a) (.n 1 .nil)) (.v 7 (.eq b) .nil) d
theorem akf {nt:Nat} (f:23≤nt) (k h:az) (n:Nat) (OT OT2:List AV) (i j:Nat) (lt:Bool) (d:((i:Int)==(j:Int))=false) (e:ω (ν .i64 (Xvx (ν .i64 ((j:Int) - ((1:Nat):Int))) ((2:Nat):Int)))= ω (i:Int)) (a:lt=false) (b:ae prog ap 348 [.ptr 0 0 0,ω (j:Int),ω (i:Int)] (qH n OT) (.ret (.bool lt)) (qH n OT)):ag prog ap [k,h] nt (ah 0 (af f98)) (upS n OT j) (.exit 0) (upE n OT):=by
 exact pN 98 [] 2 2 (.c (nK a) (.c (aX d) (.n 1 .nil))) (.c b (.v 7 (.eq e) .nil)) f
theorem ake {nt:Nat} (f:23≤nt) (k h:az) (n:Nat) (OT OT2:List AV) (i j:Nat) (lt:Bool) (d:((i:Int)==(j:Int))=false) (e:ω (ν .i64 (Xvx (ν .i64 ((j:Int) - ((1:Nat):Int))) ((2:Nat):Int)))= ω (i:Int)) (a:lt=true) (b:ae prog ap 348 [.ptr 0 0 0,ω (j:Int),ω (i:Int)] (qH n OT) (.ret (.bool lt)) (qH n OT)) (hs:ae prog ap 351 [.ptr 0 0 0,ω (i:Int),ω (j:Int)] (qH n OT) (.ret (.tup [])) (qH n OT2)):ag prog ap [k,h] nt (ah 0 (af f98)) (upS n OT j) .normal (upS n OT2 i):=by
 exact pN 98 [] 2 0 (.c (fZ a) (.c (aX d) (.n 1 .nil))) (.c hs (.c b (.v 7 (.eq e) .nil))) f
theorem akd (n:Nat) (OT OT2:List AV) (j:Nat) (a:bG prog ap (qH n OT) 23 (.block 0 (.loop (ah 0 (af f98)))) (upS n OT j) .normal (upE n OT2)):ae prog ap 98 [.ifc 99 (.ptr 0 0 0),ω (j:Int)] (qH n OT) (.ret (.tup [])) (qH n OT2):=by
 exact pK [0] 0 0 .nil (.k [0,1] a .nil)
def Qw (n:Nat) (OT:List AV) (m i:Nat):St:=⟨[(0,.ifc 99 (.ptr 0 0 0)),(1,ω ((0:Nat):Int)),(2,ω (m:Int)),(7,ω (i:Int))],[(0,⟨[.ref 1 0 0 n,.ifc 101 (.agg [])],0,false,0,0,false⟩),(1,⟨OT,0,false,0,2,true⟩)],.dead,[]⟩
def dnE (n:Nat) (OT:List AV) (i:Nat):St:=⟨[(1,ω ((0:Nat):Int)),(7,ω (i:Int))],[(0,⟨[.ref 1 0 0 n,.ifc 101 (.agg [])],0,false,0,0,false⟩),(1,⟨OT,0,false,0,2,true⟩)],.dead,[]⟩
theorem acE {nt:Nat} (d:48≤nt) (f e:az) (n:Nat) (OT OT2:List AV) (m i b:Nat) (lt h:Bool) (hm:(decide ((m:Int)≤(b:Int)))=true) (a:ω (ν .i64 ((ν .i64 (((2:Nat):Int)*(i:Int)))+((1:Nat):Int)))= ω (b:Int)):ag prog ap [f,e] nt (ah 0 (af f99)) (Qw n OT m i) (.exit 0) (dnE n OT i):=by
 exact pN 99 [] 2 3 (.k 1 (aQ hm) .nil) (.v 14 (.eq a) .nil) d
theorem acL {nt:Nat} (q:48≤nt) (k p:az) (n:Nat) (OT OT2:List AV) (m i a:Nat) (lt h:Bool) (hm:(decide ((m:Int)≤(a:Int)))=false) (e:ω (ν .i64 ((ν .i64 (((2:Nat):Int)*(i:Int)))+((1:Nat):Int)))= ω (a:Int)) (r:(decide ((a:Int)<((0:Nat):Int)))=false) (d:ω (ν .i64 ((a:Int)+((1:Nat):Int)))= ω (((a+1):Nat):Int)) (o:(decide ((((a+1):Nat):Int)<(m:Int)))=true) (b:h=true) (j:ae prog ap 348 [.ptr 0 0 0,ω (((a+1):Nat):Int),ω (a:Int)] (qH n OT) (.ret (.bool h)) (qH n OT)) (f:lt=false) (l:ae prog ap 348 [.ptr 0 0 0,ω (((a+1):Nat):Int),ω (i:Int)] (qH n OT) (.ret (.bool lt)) (qH n OT)):ag prog ap [k,p] nt (ah 0 (af f99)) (Qw n OT m i) (.exit 0) (dnE n OT i):=by
 exact pN 99 [] 5 28 (.c (nK f) (.c (aQ b) (.c (aQ o) (.c (aX r) (.c (aX hm) .nil))))) (.c l (.c j (.v 24 (.eq d) (.v 14 (.eq e) .nil)))) q
theorem acK {nt:Nat} (q:48≤nt) (k p:az) (n:Nat) (OT OT2:List AV) (m i a:Nat) (lt h:Bool) (hm:(decide ((m:Int)≤(a:Int)))=false) (e:ω (ν .i64 ((ν .i64 (((2:Nat):Int)*(i:Int)))+((1:Nat):Int)))= ω (a:Int)) (r:(decide ((a:Int)<((0:Nat):Int)))=false) (d:ω (ν .i64 ((a:Int)+((1:Nat):Int)))= ω (((a+1):Nat):Int)) (o:(decide ((((a+1):Nat):Int)<(m:Int)))=true) (b:h=true) (j:ae prog ap 348 [.ptr 0 0 0,ω (((a+1):Nat):Int),ω (a:Int)] (qH n OT) (.ret (.bool h)) (qH n OT)) (f:lt=true) (l:ae prog ap 348 [.ptr 0 0 0,ω (((a+1):Nat):Int),ω (i:Int)] (qH n OT) (.ret (.bool lt)) (qH n OT)) (hs:ae prog ap 351 [.ptr 0 0 0,ω (i:Int),ω (((a+1):Nat):Int)] (qH n OT) (.ret (.tup [])) (qH n OT2)):ag prog ap [k,p] nt (ah 0 (af f99)) (Qw n OT m i) .normal (Qw n OT2 m (a+1)):=by
 exact pN 99 [] 5 12 (.c (fZ f) (.c (aQ b) (.c (aQ o) (.c (aX r) (.c (aX hm) .nil))))) (.c hs (.c l (.c j (.v 24 (.eq d) (.v 14 (.eq e) .nil))))) q
theorem acG {nt:Nat} (q:48≤nt) (k p:az) (n:Nat) (OT OT2:List AV) (m i a:Nat) (lt h:Bool) (hm:(decide ((m:Int)≤(a:Int)))=false) (e:ω (ν .i64 ((ν .i64 (((2:Nat):Int)*(i:Int)))+((1:Nat):Int)))= ω (a:Int)) (r:(decide ((a:Int)<((0:Nat):Int)))=false) (d:ω (ν .i64 ((a:Int)+((1:Nat):Int)))= ω (((a+1):Nat):Int)) (o:(decide ((((a+1):Nat):Int)<(m:Int)))=true) (b:h=false) (j:ae prog ap 348 [.ptr 0 0 0,ω (((a+1):Nat):Int),ω (a:Int)] (qH n OT) (.ret (.bool h)) (qH n OT)) (f:lt=false) (l:ae prog ap 348 [.ptr 0 0 0,ω (a:Int),ω (i:Int)] (qH n OT) (.ret (.bool lt)) (qH n OT)):ag prog ap [k,p] nt (ah 0 (af f99)) (Qw n OT m i) (.exit 0) (dnE n OT i):=by
 exact pN 99 [] 5 20 (.c (nK f) (.c (aX b) (.c (aQ o) (.c (aX r) (.c (aX hm) .nil))))) (.c l (.c j (.v 24 (.eq d) (.v 14 (.eq e) .nil)))) q
theorem acF {nt:Nat} (q:48≤nt) (k p:az) (n:Nat) (OT OT2:List AV) (m i a:Nat) (lt h:Bool) (hm:(decide ((m:Int)≤(a:Int)))=false) (e:ω (ν .i64 ((ν .i64 (((2:Nat):Int)*(i:Int)))+((1:Nat):Int)))= ω (a:Int)) (r:(decide ((a:Int)<((0:Nat):Int)))=false) (d:ω (ν .i64 ((a:Int)+((1:Nat):Int)))= ω (((a+1):Nat):Int)) (o:(decide ((((a+1):Nat):Int)<(m:Int)))=true) (b:h=false) (j:ae prog ap 348 [.ptr 0 0 0,ω (((a+1):Nat):Int),ω (a:Int)] (qH n OT) (.ret (.bool h)) (qH n OT)) (f:lt=true) (l:ae prog ap 348 [.ptr 0 0 0,ω (a:Int),ω (i:Int)] (qH n OT) (.ret (.bool lt)) (qH n OT)) (hs:ae prog ap 351 [.ptr 0 0 0,ω (i:Int),ω (a:Int)] (qH n OT) (.ret (.tup [])) (qH n OT2)):ag prog ap [k,p] nt (ah 0 (af f99)) (Qw n OT m i) .normal (Qw n OT2 m a):=by
 exact pN 99 [] 5 4 (.c (fZ f) (.c (aX b) (.c (aQ o) (.c (aX r) (.c (aX hm) .nil))))) (.c hs (.c l (.c j (.v 24 (.eq d) (.v 14 (.eq e) .nil))))) q
theorem acJ {nt:Nat} (l:48≤nt) (f k:az) (n:Nat) (OT OT2:List AV) (m i a:Nat) (lt p:Bool) (hm:(decide ((m:Int)≤(a:Int)))=false) (d:ω (ν .i64 ((ν .i64 (((2:Nat):Int)*(i:Int)))+((1:Nat):Int)))= ω (a:Int)) (o:(decide ((a:Int)<((0:Nat):Int)))=false) (b:ω (ν .i64 ((a:Int)+((1:Nat):Int)))= ω (((a+1):Nat):Int)) (j:(decide ((((a+1):Nat):Int)<(m:Int)))=false) (e:lt=false) (h:ae prog ap 348 [.ptr 0 0 0,ω (a:Int),ω (i:Int)] (qH n OT) (.ret (.bool lt)) (qH n OT)):ag prog ap [f,k] nt (ah 0 (af f99)) (Qw n OT m i) (.exit 0) (dnE n OT i):=by
 exact pN 99 [] 5 16 (.c (nK e) (.k 1 (aX j) (.c (aX o) (.c (aX hm) .nil)))) (.c h (.v 24 (.eq b) (.v 14 (.eq d) .nil))) l
theorem acH {nt:Nat} (l:48≤nt) (f k:az) (n:Nat) (OT OT2:List AV) (m i a:Nat) (lt p:Bool) (hm:(decide ((m:Int)≤(a:Int)))=false) (d:ω (ν .i64 ((ν .i64 (((2:Nat):Int)*(i:Int)))+((1:Nat):Int)))= ω (a:Int)) (o:(decide ((a:Int)<((0:Nat):Int)))=false) (b:ω (ν .i64 ((a:Int)+((1:Nat):Int)))= ω (((a+1):Nat):Int)) (j:(decide ((((a+1):Nat):Int)<(m:Int)))=false) (e:lt=true) (h:ae prog ap 348 [.ptr 0 0 0,ω (a:Int),ω (i:Int)] (qH n OT) (.ret (.bool lt)) (qH n OT)) (hs:ae prog ap 351 [.ptr 0 0 0,ω (i:Int),ω (a:Int)] (qH n OT) (.ret (.tup [])) (qH n OT2)):ag prog ap [f,k] nt (ah 0 (af f99)) (Qw n OT m i) .normal (Qw n OT2 m a):=by
 exact pN 99 [] 5 0 (.c (fZ e) (.k 1 (aX j) (.c (aX o) (.c (aX hm) .nil)))) (.c hs (.c h (.v 24 (.eq b) (.v 14 (.eq d) .nil)))) l
theorem ah7 (n:Nat) (OT OT2:List AV) (m i:Nat) (a:bG prog ap (qH n OT) 48 (.block 0 (.loop (ah 0 (af f99)))) (Qw n OT m 0) .normal (dnE n OT2 i)):ae prog ap 99 [.ifc 99 (.ptr 0 0 0),ω ((0:Nat):Int),ω (m:Int)] (qH n OT) (.ret (.bool (decide (((0:Nat):Int)<(i:Int))))) (qH n OT2):=by
 exact pK [0] 0 0 .nil (.k [0,1,2,7] a .nil)
end Go.Proofs.Tryz
