/- Contracts of functions that the law reaches, each by its own hypotheses; joined by a program of mine. -/
import Derived.Test.YtokiomlellclkaaGreatDoorC2
import Derived.Test.YtokiomlellclkaaGreatDoorM5
import Derived.Test.YtokiomlellclkaaGreatDoorC1
import Derived.StillTail
set_option linter.unusedSimpArgs false
set_option linter.unusedVariables false
set_option maxRecDepth 100000
set_option linter.unusedVariables false
open Go AM
open Nat renaming ble→Xqc,le_refl→ε,zero_add→Φ,le_trans→Xqh,add_zero→Xqt,beq→Δ,min_self→Xvu,mul_one→Xzc,zero_le→Xqp,lt_of_lt_of_le→Xqd
open List renaming length→ν,flatMap_append→Xqn,flatMap_cons→Xqg,drop→θ,drop_append→Xju,drop_of_length_le→Xzm,nil_append→μ,take→ξ,take_append→Xza,take_of_length_le→τ,take_zero→Xj9,append_nil→υ,length_cons→Θ,length_append→ο,mem_cons_self→Xqs,length_nil→Xqj,mem_cons_of_mem→Xql,append_assoc→Ξ,headD→Xqo,tail→Xq1,take_append_drop→Xq6,length_take→Xqm,mem_append_left→Xw7,mem_append_right→Xw2,countP_le_length→Xj3,map_cons→χ,mem_cons→Xqu,not_mem_nil→Xxb,length_map→Xqv,length_drop→Xxl,range→Xqf,range'→Xjt,map_nil→Xjd,take_take→Xz9,map_take→Xks,map_drop→Xj5,set_eq_take_append_cons_drop→Xxu,map_append→Xxc,nodup_append→Xx7,map_congr_left→Xzd,filterMap_cons→Xve,replicate→Xqx,getElem?_eq_getElem→ζ,getElem_mem→Xx1,map_const'→Xkd,mem_append→Xjo,mem_singleton→Xxs,pairwise_singleton→Xzk,mem_filter→Xxa,countP_cons→Xwp,length_filter_le→Xxr,map_toArray→Xzs,getElem?_append_left→Xqa,getElem?_append_right→Xqz,take_left'→Xq8,getD_eq_getElem?_getD→π,length_set→Xjb,getElem?_set→Xxv,range_succ→Xj0,foldl_append→Xx8,drop_eq_getElem_cons→Xq3,take_length→Xx3,getElem?_eq_none→Xxk
open Int renaming toNat→γ,tmod→Xq2,tmod_lt_of_pos→Xjf
open Bool renaming false_eq_true→Xqi,and_eq_true→η,or_eq_true→Xq7,true_or→Yqb,false_or→Xzl
open Prod renaming fst→Yqo
open Go.IntKind renaming wrap→δ
open Option renaming map_some→Xqr,getD_some→Xq9
namespace Go.Proofs.Tryz
abbrev zcc3_0 : List UInt8 := [114,101,108,105,101,102]
abbrev zcc3_1 : List UInt8 := [99,114,101,100,105,116]
def VU (x:Pv):List AV:= [.str x.nm,.bool x.tr,ω x.tm,ω x.td,.nilS,.bool x.ch,.bool x.sn,.str x.sa,.str x.sd,.bool x.cn,.str x.ca,.str x.cd]
def QE (l:List Pv):List AV:=l.flatMap VU
theorem OG (l:List Pv):(QE l).length=l.length*12:=eX (f:=VU) (n:=12) (fun _=>rfl) l
def EC (i:Nat):List UInt8:=([[98,97,115,101],zcc3_1,zcc3_0,[116,97,120],[116,104,114,101,115,104,111,108,100],[116,111,116,97,108]]:List (List UInt8)).getD i []
def pT (p:Pv):Ty:=⟨p.tr,p.tm,p.td⟩
def Xp (p:Pv):Prop:=(pT p=tM∨pT p=tT)∧p.body= []
def pS (ll:List (List Int)) (nl:Bool) (xs:List Int) (nx:Bool) (F1 S1:List AV) (fN sN:Nat) (p:Nat × Bool × Nat × List Pv × Nat):St:=⟨[(0,.sl (kL ll) ll.length nl),(2,.ptr 0 0 0),(3,.ptr 1 0 0),(4,.ptr 2 0 0),(5,.ptr 3 0 0),(6,.ptr 4 0 0),(7,ω (p.1:Int))],[(0,⟨[.nilS,.nilS,.nilS],0,false,0,0,true⟩),(1,⟨[.sl (iL xs) xs.length nx,ω (p.2.2.2.2:Int)],0,false,0,0,true⟩),(2,⟨[.bool false,ω 1,ω 0],0,false,0,0,true⟩),(3,⟨[.ref 5 0 0 fN,.ref 6 0 0 sN,cond p.2.1 (.ref 7 0 0 p.2.2.1) .nilS],0,false,0,0,false⟩),(4,⟨[.str [98,97,115,101],.str zcc3_1,.str zcc3_0,.str [116,97,120],.str [116,104,114,101,115,104,111,108,100],.str [116,111,116,97,108]],0,false,0,0,true⟩),(5,⟨F1,0,false,0,4,true⟩),(6,⟨S1,0,false,0,4,true⟩)]++cond p.2.1 [(7,⟨QE p.2.2.2.1,0,false,0,12,true⟩)] [],.dead,[]⟩
theorem rV {ps:List Pv} {q:Pv} (h:∀ p ∈ ps,Xp p) (e:Xp q):∀ p ∈ ps++ [q],Xp p:=fun p hp=>by
 rcases List.mem_append.1 hp with hp|hp
 ·exact h p hp
 ·rw [List.mem_singleton.1 hp];exact e
theorem QD (H:List (List Int)) (G:Bool) (z:List Int) (y:Bool) (F1 S1:List AV) (fN sN:Nat) (i:Nat) (J:i<6) (c:Bool) (n:Nat) (ps:List Pv) (k:Nat) (K:k<2^60) (e:ps.length=n) (I:n≤i) (u:c=false→ps= []) (t:c=true→1≤n) (x:∀ p ∈ ps,Xp p):
  ∃ (c2:Bool) (n2:Nat) (ps2:List Pv) (k2:Nat),ps2.length=n2∧n2≤i+1∧(c2=false→ps2= [])∧(c2=true→1≤n2)∧(i=3∨c=true→c2=true)∧(∀ p ∈ ps2,Xp p)∧k2≤k+2∧
  ∀ nt,239≤nt→ψ nt f36 (pS H G z y F1 S1 fN sN (i,c,n,ps,k)) .normal (pS H G z y F1 S1 fN sN (i+1,c2,n2,ps2,k2)):=by
 have m:(Xqc (n+1) 549755813888)=true:=(dA (by omega))
 have o:(Xqc (n*12) (ν (QE ps)))=true:=(dA (by rw [OG,e];exact ε _))
 rcases (show i<3∨i=3∨i=4∨i=5 by omega) with h3|rfl|rfl|rfl
 ·obtain ⟨r,k1,A,B,m0⟩:=aT z y k 5 (by omega) (by omega) (by omega);rcases tf (decide (((0:Nat):Int)<(r:Int))) with g0|g0
  ·skip
   refine ⟨true,n+1,ps++ [⟨EC i,false,1,0,[],false,false,[],[],false,[],[]⟩],k1,by simp [e],by omega,by simp,fun _=>by omega,fun _=>rfl,rV x ⟨.inl rfl,rfl⟩,by omega,fun nt j=> ?_⟩;cases c with
   |false=>have v:=u rfl;subst v;subst e;rcases (show i=0∨i=1∨i=2 by omega) with rfl|rfl|rfl<;>exact pN 36 [] 8 65 (.k 17 (ak g0) (.n 22 .nil)) (.c m0 .nil) j
   |true=>have q:=fE (f:=VU) (n:=12) (fun _=>rfl) ps (⟨EC i,false,1,0,[],false,false,[],[],false,[],[]⟩) e;rcases (show i=0∨i=1∨i=2 by omega) with rfl|rfl|rfl<;>exact pN 36 [] 7 65 (.k 2 m (.c o (.k 14 (ak g0) (.n 22 .nil)))) (.b 109 q (.c m0 .nil)) j
  ·skip
   refine ⟨c,n,ps,k1,e,by omega,u,t,fun h=>h.elim (fun h=>absurd h (by omega)) id,x,by omega,fun nt j=> ?_⟩;cases c with
   |false=>rcases (show i=0∨i=1∨i=2 by omega) with rfl|rfl|rfl<;>exact pN 36 [] 7 1 (.c (au g0) (.n 22 .nil)) (.c m0 .nil) j
   |true=>rcases (show i=0∨i=1∨i=2 by omega) with rfl|rfl|rfl<;>exact pN 36 [] 7 1 (.c (au g0) (.n 22 .nil)) (.c m0 .nil) j
 ·obtain ⟨r,k1,A,B,m0⟩:=aT z y k 3 (by omega) (by omega) (by omega);refine ⟨true,n+1,ps++ [⟨EC 3,false,1,0,[],(decide (((0:Nat):Int)<(r:Int))),false,[],[],false,[],[]⟩],k1,by simp [e],by omega,by simp,fun _=>by omega,fun _=>rfl,rV x ⟨.inl rfl,rfl⟩,by omega,fun nt j=> ?_⟩;cases c with
  |false=>have v:=u rfl;subst v;subst e;exact pN 36 [] 8 121 (.n 38 .nil) (.c m0 .nil) j
  |true=>have q:=fE (f:=VU) (n:=12) (fun _=>rfl) ps (⟨EC 3,false,1,0,[],(decide (((0:Nat):Int)<(r:Int))),false,[],[],false,[],[]⟩) e;exact pN 36 [] 7 121 (.k 2 m (.c o (.n 35 .nil))) (.b 109 q (.c m0 .nil)) j
 ·obtain ⟨r,k1,A,B,m0⟩:=aT z y k 2 (by omega) (by omega) (by omega);obtain ⟨C,k2,F,D,l⟩:=aT z y k1 5 (by omega) (by omega) (by omega);rcases tf ((r:Int)==((0:Nat):Int)) with e0|e0
  ·rcases tf (decide (((0:Nat):Int)<(C:Int))) with g1|g1
   ·skip
    refine ⟨true,n+1,ps++ [⟨EC 4,true,0,0,[],false,false,[],[],false,[],[]⟩],k2,by simp [e],by omega,by simp,fun _=>by omega,fun _=>rfl,rV x ⟨.inr rfl,rfl⟩,by omega,fun nt j=> ?_⟩;cases c with
    |false=>have v:=u rfl;subst v;subst e;exact pN 36 [] 8 71 (.k 17 (ak g1) (.k 10 (ak e0) (.n 12 .nil))) (.c l (.c n80 (.c m0 .nil))) j
    |true=>have q:=fE (f:=VU) (n:=12) (fun _=>rfl) ps (⟨EC 4,true,0,0,[],false,false,[],[],false,[],[]⟩) e;exact pN 36 [] 7 71 (.k 2 m (.c o (.k 14 (ak g1) (.k 10 (ak e0) (.n 12 .nil))))) (.b 109 q (.c l (.c n80 (.c m0 .nil)))) j
   ·skip
    refine ⟨c,n,ps,k2,e,by omega,u,t,fun h=>h.elim (fun h=>absurd h (by omega)) id,x,by omega,fun nt j=> ?_⟩;cases c with
    |false=>exact pN 36 [] 7 7 (.c (au g1) (.k 10 (ak e0) (.n 12 .nil))) (.c l (.c n80 (.c m0 .nil))) j
    |true=>exact pN 36 [] 7 7 (.c (au g1) (.k 10 (ak e0) (.n 12 .nil))) (.c l (.c n80 (.c m0 .nil))) j
  ·rcases tf (decide (((0:Nat):Int)<(C:Int))) with g1|g1
   ·skip
    refine ⟨true,n+1,ps++ [⟨EC 4,false,1,0,[],false,false,[],[],false,[],[]⟩],k2,by simp [e],by omega,by simp,fun _=>by omega,fun _=>rfl,rV x ⟨.inl rfl,rfl⟩,by omega,fun nt j=> ?_⟩;cases c with
    |false=>have v:=u rfl;subst v;subst e;exact pN 36 [] 8 67 (.k 17 (ak g1) (.k 9 (au e0) (.n 12 .nil))) (.c l (.c m0 .nil)) j
    |true=>have q:=fE (f:=VU) (n:=12) (fun _=>rfl) ps (⟨EC 4,false,1,0,[],false,false,[],[],false,[],[]⟩) e;exact pN 36 [] 7 67 (.k 2 m (.c o (.k 14 (ak g1) (.k 9 (au e0) (.n 12 .nil))))) (.b 109 q (.c l (.c m0 .nil))) j
   ·skip
    refine ⟨c,n,ps,k2,e,by omega,u,t,fun h=>h.elim (fun h=>absurd h (by omega)) id,x,by omega,fun nt j=> ?_⟩;cases c with
    |false=>exact pN 36 [] 7 3 (.c (au g1) (.k 9 (au e0) (.n 12 .nil))) (.c l (.c m0 .nil)) j
    |true=>exact pN 36 [] 7 3 (.c (au g1) (.k 9 (au e0) (.n 12 .nil))) (.c l (.c m0 .nil)) j
 ·obtain ⟨r,k1,A,B,m0⟩:=aT z y k 3 (by omega) (by omega) (by omega);obtain ⟨C,k2,F,D,l⟩:=aT z y k1 5 (by omega) (by omega) (by omega);rcases tf (decide (((0:Nat):Int)<(C:Int))) with g1|g1
  ·skip
   refine ⟨true,n+1,ps++ [⟨EC 5,false,1,0,[],(decide (((0:Nat):Int)<(r:Int))),false,[],[],false,[],[]⟩],k2,by simp [e],by omega,by simp,fun _=>by omega,fun _=>rfl,rV x ⟨.inl rfl,rfl⟩,by omega,fun nt j=> ?_⟩;cases c with
   |false=>have v:=u rfl;subst v;subst e;exact pN 36 [] 8 81 (.k 17 (ak g1) (.n 23 .nil)) (.c l (.c m0 .nil)) j
   |true=>have q:=fE (f:=VU) (n:=12) (fun _=>rfl) ps (⟨EC 5,false,1,0,[],(decide (((0:Nat):Int)<(r:Int))),false,[],[],false,[],[]⟩) e;exact pN 36 [] 7 81 (.k 2 m (.c o (.k 14 (ak g1) (.n 23 .nil)))) (.b 109 q (.c l (.c m0 .nil))) j
  ·skip
   refine ⟨c,n,ps,k2,e,by omega,u,t,fun h=>h.elim (fun h=>absurd h (by omega)) id,x,by omega,fun nt j=> ?_⟩;cases c with
   |false=>exact pN 36 [] 7 17 (.c (au g1) (.n 23 .nil)) (.c l (.c m0 .nil)) j
   |true=>exact pN 36 [] 7 17 (.c (au g1) (.n 23 .nil)) (.c l (.c m0 .nil)) j
def pX (ll:List (List Int)) (nl:Bool) (xs:List Int) (nx:Bool) (F1 S1:List AV) (fN sN:Nat) (p:Bool × Nat × List Pv × Nat):St:=⟨[(0,.sl (kL ll) ll.length nl),(2,.ptr 0 0 0),(3,.ptr 1 0 0),(4,.ptr 2 0 0),(5,.ptr 3 0 0)],[(0,⟨[.nilS,.nilS,.nilS],0,false,0,0,true⟩),(1,⟨[.sl (iL xs) xs.length nx,ω (p.2.2.2:Int)],0,false,0,0,true⟩),(2,⟨[.bool false,ω 1,ω 0],0,false,0,0,true⟩),(3,⟨[.ref 4 0 0 fN,.ref 5 0 0 sN,.ref 6 0 0 p.2.1],0,false,0,0,false⟩),(4,⟨F1,0,false,0,4,true⟩),(5,⟨S1,0,false,0,4,true⟩),(6,⟨QE p.2.2.1,0,false,0,12,true⟩)],.dead,[]⟩
theorem JC (q:List (List Int)) (l:Bool) (o:List Int) (j:Bool) (F1 S1:List AV) (fN sN:Nat):∀ (rem i:Nat) (c:Bool) (n:Nat) (ps:List Pv) (k:Nat),i+rem=6→k+2*rem<2^60→ps.length=n→n≤i→(c=false→ps= [])→(c=true→1≤n)→(3<i→c=true)→(∀ p ∈ ps,Xp p)→
  ∃ (n2:Nat) (e:List Pv) (k2:Nat),e.length=n2∧1≤n2∧n2≤6∧(∀ p ∈ e,Xp p)∧k2≤k+2*rem∧∀ nt,239≤nt→aP prog ap [] nt (aj 0 (ae f36)) (fun _=> .exit 0) (pS q l o j F1 S1 fN sN) (pX q l o j F1 S1 fN sN) (i,c,n,ps,k) (true,n2,e,k2)
 |0,i,c,n,ps,k,r,hk,hps,hn0,hc,hc1,f,hT=>by
  have r:i=6:=by omega
  subst r;have f:=f (by omega);subst f;exact ⟨n,ps,k,hps,hc1 rfl,hn0,hT,by omega,fun nt m=> .done (pN 36 [] 1 0 (.n 1 .nil) (.nil) m)⟩
 |rem+1,i,c,n,ps,k,r,hk,hps,hn0,hc,hc1,f,hT=>by
  obtain ⟨z,n1,t,k1,x,G,C,D,I,y,J,H⟩:=QD q l o j F1 S1 fN sN i (by omega) c n ps k (by omega) hps hn0 hc hc1 hT;obtain ⟨n2,e,k2,v,F,u,B,K,A⟩:=JC q l o j F1 S1 fN sN rem (i+1) z n1 t k1 (by omega) (by omega) x G C D (fun h=>I (by rcases Nat.lt_or_ge 3 i with h|h;exact .inr (f h);exact .inl (by omega))) y;exact ⟨n2,e,k2,v,F,u,B,by omega,fun nt m=> .next (H nt m) (A nt m)⟩
theorem Oa (e:List (List Int)) (j:Bool) (i:Nat):∃ (ys:List Int) (nz:Bool),CO 78 [.sl (kL e) e.length j,ω (i:Int)] (.ret (.sl (iL ys) ys.length nz)):=by
 rcases tf (decide ((i:Int)<(e.length:Int))) with h|h
 ·have m:i<e.length:=by simp only [decide_eq_true_eq] at h;omega
  obtain ⟨n,f⟩:=Jo (l:=e) m;generalize e.getD i []=xi at f;exact ⟨xi,false,pK [] 1 1 (.k 1 (k0 i) (.c h (.c (ak h) .nil))) (.v 11 (.ppt f) .nil)⟩
 ·have k:CO 78 [.sl (kL e) e.length j,ω (i:Int)] (.ret .nilS):=pK [] 1 0 (.c (au h) .nil) (.nil);exact ⟨[],false,k.out (iP.ret rfl rfl (bF.nilS false rfl))⟩
def Xr (x:Pv × Bool):List AV:= [.str x.1.nm,.bool x.1.tr,ω x.1.tm,ω x.1.td,cond x.2 (.sl (bV x.1.body) x.1.body.length true) .nilS,.bool x.1.ch,.bool x.1.sn,.str x.1.sa,.str x.1.sd,.bool x.1.cn,.str x.1.ca,.str x.1.cd]
def tX (l:List (Pv × Bool)):List AV:=l.flatMap Xr
theorem Mc (l:List (Pv × Bool)):(tX l).length=l.length*12:=eX (f:=Xr) (n:=12) (fun _=>rfl) l
theorem Md (p r:List (Pv × Bool)) (x:Pv × Bool):tX (p++x::r)=tX p++(Xr x++tX r):=by unfold tX;rw [Xqn,Xqg]
theorem Ht (p r:List (Pv × Bool)) (x:Pv × Bool) (i j:Nat) (e:p.length=i) (f:j≤12):θ (((0+(γ (i:Int)))*12)+j) (tX (p++x::r))=θ j (Xr x)++tX r:=by
 rw [aS,Φ,Md,← e,← Mc,Xju,Xzm (by omega),μ,show (tX p).length+j - (tX p).length=j by omega,Xju,show j - (Xr x).length=0 by show j - 12=0;omega];rfl
theorem Xt (p r:List (Pv × Bool)) (x:Pv × Bool) (i j:Nat) (e:p.length=i) (f:j≤12):ξ (((0+(γ (i:Int)))*12)+j) (tX (p++x::r))=tX p++ξ j (Xr x):=by
 rw [aS,Φ,Md,← e,← Mc,Xza,τ (by omega),show (tX p).length+j - (tX p).length=j by omega,Xza,show j - (Xr x).length=0 by show j - 12=0;omega,Xj9,υ]
def okB (y:Pv × Bool):Prop:=y.1.body.length≤17∧y.1.body.countP Em≤9∧y.2=true
def bC (ll:List (List Int)) (nl:Bool) (xs:List Int) (nx:Bool) (F1 S1:List AV) (fN sN n k kd:Nat) (sg:List Sg) (i:Nat) (C:List AV):St:=⟨[(0,.sl (kL ll) ll.length nl),(2,.ptr 0 0 0),(3,.ptr 1 0 0),(5,.ptr 2 0 0),(9,ω (kd:Int)),(10,.sl (iO sg) sg.length true),(11,ω (i:Int))],[(0,⟨[.nilS,.nilS,.nilS],0,false,0,0,true⟩),(1,⟨[.sl (iL xs) xs.length nx,ω (k:Int)],0,false,0,0,true⟩),(2,⟨[.ref 3 0 0 fN,.ref 4 0 0 sN,.ref 5 0 0 n],0,false,0,0,false⟩),(3,⟨F1,0,false,0,4,true⟩),(4,⟨S1,0,false,0,4,true⟩),(5,⟨C,0,false,0,12,true⟩)],.dead,[]⟩
def bX (ll:List (List Int)) (nl:Bool) (xs:List Int) (nx:Bool) (F1 S1:List AV) (fN sN n k kd:Nat) (sg:List Sg) (p:List (Pv × Bool)):St:=⟨[(2,.ptr 0 0 0),(3,.ptr 1 0 0),(5,.ptr 2 0 0),(9,ω (kd:Int))],[(0,⟨[.nilS,.nilS,.nilS],0,false,0,0,true⟩),(1,⟨[.sl (iL xs) xs.length nx,ω (k:Int)],0,false,0,0,true⟩),(2,⟨[.ref 3 0 0 fN,.ref 4 0 0 sN,.ref 5 0 0 n],0,false,0,0,false⟩),(3,⟨F1,0,false,0,4,true⟩),(4,⟨S1,0,false,0,4,true⟩),(5,⟨tX p,0,false,0,12,true⟩)],.dead,[]⟩
theorem Nh (A:List (List Int)) (t:Bool) (G:List Int) (B:Bool) (F1 S1:List AV) (fN sN n k z:Nat) (r:List Sg) (C:r.length≤100) (N:n≤6):∀ (rx p:List (Pv × Bool)),p.length+rx.length=n→(∀ y ∈ rx,Xp y.1)→(∀ y ∈ p,okB y)→
  ∃ q:List (Pv × Bool),q.length=n∧(∀ y ∈ q,okB y)∧∀ nt,239≤nt→aP prog ap [] nt (aj 2 (ae f36)) (fun _=> .exit 2) (fun a:Nat × List (Pv × Bool)=>bC A t G B F1 S1 fN sN n k z r a.1 (tX a.2)) (bX A t G B F1 S1 fN sN n k z r) (p.length,p++rx) q
 | [],p,hn0,h1,h3=>by
  have u:(decide ((p.length:Int)<(n:Int)))=false:=kn (by simp at hn0;omega);refine ⟨p,by simpa using hn0,h3,fun nt I=> ?_⟩;rw [υ];exact .done (pN 36 [] 1 0 (.c (au u) (.n 1 .nil)) (.nil) I)
 | x::rx,p,hn0,h1,h3=>by
  obtain ⟨i,v⟩:∃ i,p.length=i:=⟨_,rfl⟩
  obtain ⟨f,l⟩:∃ f,f=p++x::rx:=⟨_,rfl⟩
  have R:i<n:=by simp only [Θ] at hn0;omega
  have hwl:f.length=n:=by rw [l,← hn0,ο]
  obtain ⟨ys,nz,cl⟩:=Oa A t (i+1);obtain ⟨o,ho,cb⟩:=P6 r true C x.1.nm ((z:Int)==((0:Nat):Int));obtain ⟨e,T,cm⟩:=TL o false (by omega) (pT x.1) (h1 x (Xqs ..)).1 ys nz;obtain ⟨D,H⟩:∃ D:Pv × Bool,D=(⟨x.1.nm,x.1.tr,x.1.tm,x.1.td,e,x.1.ch,x.1.sn,x.1.sa,x.1.sd,x.1.cn,x.1.ca,x.1.cd⟩,true):=⟨_,rfl⟩
  obtain ⟨q,Y,q2,Z⟩:=Nh A t G B F1 S1 fN sN n k z r C N rx (p++ [D]) (by simp only [ο,Θ,Xqj] at*;omega) (fun y j=>h1 y (Xql _ j)) (fun y j=>by
   rcases List.mem_append.1 j with j|j
   ·exact h3 y j
   ·rw [List.mem_singleton.1 j,H];exact ⟨by have:=T.2.1;show e.length≤17;omega,T.2.2,rfl⟩)
  refine ⟨q,Y,q2,fun nt I=> .next (a':=(i+1,p++D::rx)) ?_ ?_⟩
  ·have P:=Ht p rx x i 0 v (by decide);have F:=Ht p rx x i 1 v (by decide);have V:=Ht p rx x i 5 v (by decide);have U:=Xt p rx x i 4 v (by decide);rw [← l] at P F V U;have X:(ξ (((0+(γ ((i:Nat):Int)))*12)+4) (tX f)++ [.sl (bV e) e.length true]++θ ((((0+(γ ((i:Nat):Int)))*12)+4)+1) (tX f))=tX (p++D::rx):=by
    rw [U,show ((((0+(γ ((i:Nat):Int)))*12)+4)+1)=((0+(γ ((i:Nat):Int)))*12)+5 by omega,V,Md,H,Ξ,Ξ];rfl
   have u:(decide (((i:Nat):Int)<(n:Int)))=true:=kl R;have W:i<2^62:=by omega
   have K:(Xqc ((((0+(γ ((i:Nat):Int)))*12)+4)+1) (ν (tX f)))=true:=(dA (by rw [Mc];omega))
   have m:(decide (((0:Nat):Int)≤((i:Nat):Int)))=true:=(k0 i)
   have S:(chk .bool (Xqo (θ (((0+(γ ((i:Nat):Int)))*12)+1) (tX f)) .dead))=true:=(by rw [F];rfl)
   have O:(chk (.int .i64) (Xqo (Xq1 (θ (((0+(γ ((i:Nat):Int)))*12)+1) (tX f))) .dead))=true:=(by rw [F];rfl)
   have M:(chk (.int .i64) (Xqo (Xq1 (Xq1 (θ (((0+(γ ((i:Nat):Int)))*12)+1) (tX f)))) .dead))=true:=(by rw [F];rfl)
   have J:(chk .str (Xqo (θ (((0+(γ ((i:Nat):Int)))*12)+0) (tX f)) .dead))=true:=(by rw [P];rfl)
   have hv140:(.agg [.bool (AV.toBool (Xqo (θ (((0+(γ ((i:Nat):Int)))*12)+1) (tX f)) .dead)),ω (AV.toInt (Xqo (Xq1 (θ (((0+(γ ((i:Nat):Int)))*12)+1) (tX f))) .dead)),ω (AV.toInt (Xqo (Xq1 (Xq1 (θ (((0+(γ ((i:Nat):Int)))*12)+1) (tX f)))) .dead))]:AV)= .agg [.bool x.1.tr,ω x.1.tm,ω x.1.td]:=by rw [F];rfl
   have hv131:(.str (AV.toStr (Xqo (θ (((0+(γ ((i:Nat):Int)))*12)+0) (tX f)) .dead)):AV)= .str x.1.nm:=by rw [P];rfl
   have h:af prog ap [] nt (aj 2 (ae f36)) (bC A t G B F1 S1 fN sN n k z r i (tX f)) .normal (bC A t G B F1 S1 fN sN n k z r (i+1) ((ξ (((0+(γ ((i:Nat):Int)))*12)+4) (tX f)++ [.sl (bV e) e.length true]++θ ((((0+(γ ((i:Nat):Int)))*12)+4)+1) (tX f)))):=pN 36 [] 1 1 (.c K (.c m (.c u (.c S (.c O (.c M (.c m (.c u (.k 1 J (.c m (.c u (.k 2 (ak u) (.n 1 .nil))))))))))))) (.v 121 (.eq (wpS W)) (.c cm (.c cl (.v 143 (.eq (wpS W)) (.v 140 (.eq hv140) (.c cb (.v 131 (.eq hv131) .nil))))))) I;rw [X] at h;rw [← l,v];exact h
  ·have:=Z nt I;rw [ο,Ξ,List.length_singleton,v] at this;exact this
def f1S (L:Lw) (a b c:Bool) (nm:List UInt8) (p:Nat × Nat):St:=⟨[(1,.str nm),(2,.ptr 0 0 0),(6,ω (p.1:Int))],[(0,⟨L.c a b c,0,false,0,0,true⟩)],.dead,[]⟩
def f1X:Option Nat→St
 |none=>zM
 |some k=> ⟨[(4,.int .i64 (k:Int)),(5,.bool true)],[],.dead,[]⟩
theorem WF {nt:Nat} (h:23≤nt) (L:Lw) (a b c:Bool) (e:List UInt8) (j:L.ps.length<2^40):aP prog ap [] nt (aj 0 (ae f45)) WG (f1S L a b c e) f1X (0,0) (RY L.ps e):=by
 refine aP.goD (WH e) (fun _=>none) L.ps (fun p s=>s=p.length) ?_ ?_ 0 rfl
 ·rintro p x rs s hL hp
  have i:(θ ((γ (p.length:Int))*12) (bJ L.ps))=xn x++bJ rs:=dS Ul hL;have f:(decide ((p.length:Int)<(L.ps.length:Int)))=true:=kl (nT hL);have l:p.length<2^62:=by have:=nT hL;omega
  subst hp;show (∃ s',_∧af _ _ _ _ _ (f1S L a b c e (p.length,_)) _ _∧_)∨∃ q,_∧af _ _ _ _ _ (f1S L a b c e (p.length,_)) _ _;have hp:(p++ [x]).length=p.length+1:=by simp
  generalize p.length=k at*
  clear hL;rcases tf (x.nm==e) with b0|b0
  ·exact .inr ⟨some k,by simp only [WH,b0,if_true],pN 45 [] 2 3 (.c (ak b0) (.k 1 (k0 k) (.c f (.k 1 (ak f) (.n 1 .nil))))) (.v 17 (.ppt i) .nil) h⟩
  ·exact .inl ⟨k+1,by simp only [WH,b0,Xqi,if_false],pN 45 [] 2 1 (.c (au b0) (.k 1 (k0 k) (.c f (.k 1 (ak f) (.n 1 .nil))))) (.v 13 (.eq (wpS l)) (.v 17 (.ppt i) .nil)) h,by simp [hp]⟩
 ·intro _ _;have f:(decide ((L.ps.length:Int)<(L.ps.length:Int)))=false:=kn (ε _);exact pN 45 [] 1 0 (.c (au f) (.n 1 .nil)) .nil h
theorem E8 (L:Lw) (a b c:Bool) (e:List UInt8) (f:L.ps.length<2^40):CO 45 [.agg (L.c a b c),.str e] (.ret (.tup [ω ((Ej L.ps e:Nat):Int),.bool (QZ L.ps e)])):=by
 have hloop:=fun nt (hn:23≤nt)=>WF hn L a b c e f
 unfold Ej QZ;cases i:RY L.ps e with
 |none=>
  rw [i] at hloop;have h:=aP.blk (id:=0) (e':= .normal) (s:=f1S L a b c e (0,0)) (s':=f1X none) hloop (by simp [WG]) rfl (aJ.refl _) (aJ.refl _);exact pK [0] 0 0 .nil (.k [1,2,6] h .nil)
 |some k=>
  rw [i] at hloop;have h:=aP.blk (id:=0) (e':= .ret) (s:=f1S L a b c e (0,0)) (s':=f1X (some k)) hloop (by simp [WG]) rfl (aJ.refl _) (aJ.refl _);exact pK [0] 0 0 .nil (.k [1,2,6] h .nil)
def rC (xs:List Int) (nx:Bool) (F1 S1:List AV) (fN sN n kd ia ib:Nat) (fa fb:Bool) (k:Nat) (C:List AV):St:=⟨[(2,.ptr 0 0 0),(3,.ptr 1 0 0),(5,.ptr 2 0 0),(9,ω (kd:Int)),(12,ω (ia:Int)),(13,.bool fa),(14,ω (ib:Int)),(15,.bool fb)],[(0,⟨[.nilS,.nilS,.nilS],0,false,0,0,true⟩),(1,⟨[.sl (iL xs) xs.length nx,ω (k:Int)],0,false,0,0,true⟩),(2,⟨[.ref 3 0 0 fN,.ref 4 0 0 sN,.ref 5 0 0 n],0,false,0,0,false⟩),(3,⟨F1,0,false,0,4,true⟩),(4,⟨S1,0,false,0,4,true⟩),(5,⟨C,0,false,0,12,true⟩)],.dead,[]⟩
theorem fV {α:Type} {f:α→List AV} {m:Nat} (e:∀ x,(f x).length=m) (p r:List α) (x:α) (i j:Nat) (h:p.length=i) (l:j≤m):θ (((0+(γ (i:Int)))*m)+j) ((p++x::r).flatMap f)=θ j (f x)++r.flatMap f:=by
 have k:(p.flatMap f).length=p.length*m:=eX e p;rw [aS,Φ,Xqn,Xqg,← h,← k,Xju,Xzm (by omega),μ,show (p.flatMap f).length+j - (p.flatMap f).length=j by omega,Xju,show j - (f x).length=0 by rw [e];omega];rfl
theorem pU {α:Type} {f:α→List AV} {m:Nat} (e:∀ x,(f x).length=m) (p r:List α) (x:α) (i j:Nat) (h:p.length=i) (l:j≤m):ξ (((0+(γ (i:Int)))*m)+j) ((p++x::r).flatMap f)=p.flatMap f++ξ j (f x):=by
 have k:(p.flatMap f).length=p.length*m:=eX e p;rw [aS,Φ,Xqn,Xqg,← h,← k,Xza,τ (by omega),show (p.flatMap f).length+j - (p.flatMap f).length=j by omega,Xza,show j - (f x).length=0 by rw [e];omega,Xj9,υ]
theorem gW {α:Type} (l:List α) (i:Nat) (h:i<l.length):∃ p x r,l=p++x::r∧p.length=i:=⟨l.take i,l[i],l.drop (i+1),by rw [List.getElem_cons_drop,Xq6],by rw [Xqm];omega⟩
def Dj (p:Pv):Prop:=p.body.length≤17∧p.body.countP Em≤9
theorem kV {p r:List Pv} {x y:Pv} (h:∀ z ∈ p++x::r,Dj z) (f:Dj y):∀ z ∈ p++y::r,Dj z:=fun z e=>by
 rcases List.mem_append.1 e with e|e
 ·exact h z (Xw7 _ e)
 ·rcases List.mem_cons.1 e with rfl|e
  ·exact f
  ·exact h z (Xw2 _ (Xql _ e))
theorem OQ (o:List Int) (j:Bool) (F1 S1:List AV) (fN sN n v i y:Nat) (A u:Bool) (k:Nat) (qs:List Pv) (S:k<2^60) (J:qs.length=n) (H:i<n) (R:n≤6) (O:∀ z ∈ qs,Dj z):∃ (q2:List Pv) (k2:Nat),q2.length=n∧(∀ z ∈ q2,Dj z)∧k2≤k+8∧∀ nt,239≤nt→af prog ap [] nt (eQ 30 (ae f36)) (rC o j F1 S1 fN sN n v i y A u k (dJ qs)) .normal (rC o j F1 S1 fN sN n v i y A u k2 (dJ q2)):=by
 obtain ⟨p,x,r,hs,D⟩:=gW qs i (by omega);obtain ⟨e,k2,U,V,P,T⟩:=xM x (bV x.body) x.body.length false zcc3_0 o j k S;have I:e.body.countP Em≤9:=Xqh Xj3 (by omega);refine ⟨p++e::r,k2,by rw [← J,hs];simp,kV (by rw [← hs];exact O) ⟨by omega,I⟩,P,fun nt F=> ?_⟩;have G:(dJ qs).length=n*12:=by rw [← J];exact eX (f:=iY) (n:=12) (fun _=>rfl) qs
 have l:=fV (f:=iY) (m:=12) (fun _=>rfl) p r x i 0 D (by decide);have K:=fV (f:=iY) (m:=12) (fun _=>rfl) p r x i 12 D (by decide);have B:=pU (f:=iY) (m:=12) (fun _=>rfl) p r x i 0 D (by decide);rw [← hs] at l K B;rw [Xqt] at l B;have M:(ξ ((0+(γ (i:Int)))*12) (dJ qs)++ [.str e.nm,.bool e.tr,ω e.tm,ω e.td,.sl (bV e.body) e.body.length true,.bool e.ch,.bool e.sn,.str e.sa,.str e.sd,.bool e.cn,.str e.ca,.str e.cd]++θ (((0+(γ (i:Int)))*12)+12) (dJ qs))=dJ (p++e::r):=by
  unfold dJ;rw [B,K,Xqn,Xqg,Ξ,Ξ];rfl
 change θ _ (dJ qs)=iY x++dJ r at l;have N:AV.agg (kM true [.str,.bool,.int .i64,.int .i64,.sl,.bool,.bool,.str,.str,.bool,.str,.str] (dJ qs) ((0+(γ (i:Int)))*12))= .agg [.str x.nm,.bool x.tr,ω x.tm,ω x.td,.sl (bV x.body) x.body.length false,.bool x.ch,.bool x.sn,.str x.sa,.str x.sd,.bool x.cn,.str x.ca,.str x.cd]:=by unfold kM;rw [l];rfl
 have C:(Xqc (((0+(γ (i:Int)))*12)+12) (ν (dJ qs)))=true:=(dA (by rw [G];omega))
 have q:(decide (((0:Nat):Int)≤(i:Int)))=true:=(k0 i)
 have t:(decide ((i:Int)<(n:Int)))=true:=(kl H)
 have h:af prog ap [] nt (eQ 30 (ae f36)) (rC o j F1 S1 fN sN n v i y A u k (dJ qs)) .normal (rC o j F1 S1 fN sN n v i y A u k2 ((ξ ((0+(γ (i:Int)))*12) (dJ qs)++ [.str e.nm,.bool e.tr,ω e.tm,ω e.td,.sl (bV e.body) e.body.length true,.bool e.ch,.bool e.sn,.str e.sa,.str e.sd,.bool e.cn,.str e.ca,.str e.cd]++θ (((0+(γ (i:Int)))*12)+12) (dJ qs)))):=pN 36 [] 0 0 (.c C (.c q (.c t (.a (bQ [.str,.bool,.int .i64,.int .i64,.sl,.bool,.bool,.str,.str,.bool,.str,.str] l rfl) (.c q (.c t (.n 2 .nil))))))) (.c T (.v 178 (.eq N) .nil)) F;rw [M] at h;exact h
theorem OT (o:List Int) (j:Bool) (F1 S1:List AV) (fN sN n v A i:Nat) (y u:Bool) (k:Nat) (qs:List Pv) (S:k<2^60) (J:qs.length=n) (H:i<n) (R:n≤6) (O:∀ z ∈ qs,Dj z):∃ (q2:List Pv) (k2:Nat),q2.length=n∧(∀ z ∈ q2,Dj z)∧k2≤k+8∧∀ nt,239≤nt→af prog ap [] nt (eQ 31 (ae f36)) (rC o j F1 S1 fN sN n v A i y u k (dJ qs)) .normal (rC o j F1 S1 fN sN n v A i y u k2 (dJ q2)):=by
 obtain ⟨p,x,r,hs,D⟩:=gW qs i (by omega);obtain ⟨e,k2,U,V,P,T⟩:=xM x (bV x.body) x.body.length false zcc3_1 o j k S;have I:e.body.countP Em≤9:=Xqh Xj3 (by omega);refine ⟨p++e::r,k2,by rw [← J,hs];simp,kV (by rw [← hs];exact O) ⟨by omega,I⟩,P,fun nt F=> ?_⟩;have G:(dJ qs).length=n*12:=by rw [← J];exact eX (f:=iY) (n:=12) (fun _=>rfl) qs
 have l:=fV (f:=iY) (m:=12) (fun _=>rfl) p r x i 0 D (by decide);have K:=fV (f:=iY) (m:=12) (fun _=>rfl) p r x i 12 D (by decide);have B:=pU (f:=iY) (m:=12) (fun _=>rfl) p r x i 0 D (by decide);rw [← hs] at l K B;rw [Xqt] at l B;have M:(ξ ((0+(γ (i:Int)))*12) (dJ qs)++ [.str e.nm,.bool e.tr,ω e.tm,ω e.td,.sl (bV e.body) e.body.length true,.bool e.ch,.bool e.sn,.str e.sa,.str e.sd,.bool e.cn,.str e.ca,.str e.cd]++θ (((0+(γ (i:Int)))*12)+12) (dJ qs))=dJ (p++e::r):=by
  unfold dJ;rw [B,K,Xqn,Xqg,Ξ,Ξ];rfl
 change θ _ (dJ qs)=iY x++dJ r at l;have N:AV.agg (kM true [.str,.bool,.int .i64,.int .i64,.sl,.bool,.bool,.str,.str,.bool,.str,.str] (dJ qs) ((0+(γ (i:Int)))*12))= .agg [.str x.nm,.bool x.tr,ω x.tm,ω x.td,.sl (bV x.body) x.body.length false,.bool x.ch,.bool x.sn,.str x.sa,.str x.sd,.bool x.cn,.str x.ca,.str x.cd]:=by unfold kM;rw [l];rfl
 have C:(Xqc (((0+(γ (i:Int)))*12)+12) (ν (dJ qs)))=true:=(dA (by rw [G];omega))
 have q:(decide (((0:Nat):Int)≤(i:Int)))=true:=(k0 i)
 have t:(decide ((i:Int)<(n:Int)))=true:=(kl H)
 have h:af prog ap [] nt (eQ 31 (ae f36)) (rC o j F1 S1 fN sN n v A i y u k (dJ qs)) .normal (rC o j F1 S1 fN sN n v A i y u k2 ((ξ ((0+(γ (i:Int)))*12) (dJ qs)++ [.str e.nm,.bool e.tr,ω e.tm,ω e.td,.sl (bV e.body) e.body.length true,.bool e.ch,.bool e.sn,.str e.sa,.str e.sd,.bool e.cn,.str e.ca,.str e.cd]++θ (((0+(γ (i:Int)))*12)+12) (dJ qs)))):=pN 36 [] 0 0 (.c C (.c q (.c t (.a (bQ [.str,.bool,.int .i64,.int .i64,.sl,.bool,.bool,.str,.str,.bool,.str,.str] l rfl) (.c q (.c t (.n 2 .nil))))))) (.c T (.v 189 (.eq N) .nil)) F;rw [M] at h;exact h
theorem OU (o:List Int) (j:Bool) (F1 S1:List AV) (fN sN n v i y:Nat) (A u:Bool) (k:Nat) (qs:List Pv) (S:k<2^60) (J:qs.length=n) (H:i<n) (R:n≤6) (O:∀ z ∈ qs,Dj z):∃ (q2:List Pv) (k2:Nat),q2.length=n∧(∀ z ∈ q2,Dj z)∧k2≤k+8∧∀ nt,239≤nt→af prog ap [] nt (eQ 33 (ae f36)) (rC o j F1 S1 fN sN n v i y A u k (dJ qs)) .normal (rC o j F1 S1 fN sN n v i y A u k2 (dJ q2)):=by
 obtain ⟨p,x,r,hs,D⟩:=gW qs i (by omega);obtain ⟨e,k2,U,V,P,T⟩:=xM x (bV x.body) x.body.length false zcc3_1 o j k S;have I:e.body.countP Em≤9:=Xqh Xj3 (by omega);refine ⟨p++e::r,k2,by rw [← J,hs];simp,kV (by rw [← hs];exact O) ⟨by omega,I⟩,P,fun nt F=> ?_⟩;have G:(dJ qs).length=n*12:=by rw [← J];exact eX (f:=iY) (n:=12) (fun _=>rfl) qs
 have l:=fV (f:=iY) (m:=12) (fun _=>rfl) p r x i 0 D (by decide);have K:=fV (f:=iY) (m:=12) (fun _=>rfl) p r x i 12 D (by decide);have B:=pU (f:=iY) (m:=12) (fun _=>rfl) p r x i 0 D (by decide);rw [← hs] at l K B;rw [Xqt] at l B;have M:(ξ ((0+(γ (i:Int)))*12) (dJ qs)++ [.str e.nm,.bool e.tr,ω e.tm,ω e.td,.sl (bV e.body) e.body.length true,.bool e.ch,.bool e.sn,.str e.sa,.str e.sd,.bool e.cn,.str e.ca,.str e.cd]++θ (((0+(γ (i:Int)))*12)+12) (dJ qs))=dJ (p++e::r):=by
  unfold dJ;rw [B,K,Xqn,Xqg,Ξ,Ξ];rfl
 change θ _ (dJ qs)=iY x++dJ r at l;have N:AV.agg (kM true [.str,.bool,.int .i64,.int .i64,.sl,.bool,.bool,.str,.str,.bool,.str,.str] (dJ qs) ((0+(γ (i:Int)))*12))= .agg [.str x.nm,.bool x.tr,ω x.tm,ω x.td,.sl (bV x.body) x.body.length false,.bool x.ch,.bool x.sn,.str x.sa,.str x.sd,.bool x.cn,.str x.ca,.str x.cd]:=by unfold kM;rw [l];rfl
 have C:(Xqc (((0+(γ (i:Int)))*12)+12) (ν (dJ qs)))=true:=(dA (by rw [G];omega))
 have q:(decide (((0:Nat):Int)≤(i:Int)))=true:=(k0 i)
 have t:(decide ((i:Int)<(n:Int)))=true:=(kl H)
 have h:af prog ap [] nt (eQ 33 (ae f36)) (rC o j F1 S1 fN sN n v i y A u k (dJ qs)) .normal (rC o j F1 S1 fN sN n v i y A u k2 ((ξ ((0+(γ (i:Int)))*12) (dJ qs)++ [.str e.nm,.bool e.tr,ω e.tm,ω e.td,.sl (bV e.body) e.body.length true,.bool e.ch,.bool e.sn,.str e.sa,.str e.sd,.bool e.cn,.str e.ca,.str e.cd]++θ (((0+(γ (i:Int)))*12)+12) (dJ qs)))):=pN 36 [] 0 0 (.c C (.c q (.c t (.a (bQ [.str,.bool,.int .i64,.int .i64,.sl,.bool,.bool,.str,.str,.bool,.str,.str] l rfl) (.c q (.c t (.n 2 .nil))))))) (.c T (.v 205 (.eq N) .nil)) F;rw [M] at h;exact h
def rD (xs:List Int) (nx:Bool) (F1 S1:List AV) (fN sN n ic:Nat) (k:Nat) (C:List AV):St:=⟨[(2,.ptr 0 0 0),(3,.ptr 1 0 0),(5,.ptr 2 0 0),(16,ω (ic:Int))],[(0,⟨[.nilS,.nilS,.nilS],0,false,0,0,true⟩),(1,⟨[.sl (iL xs) xs.length nx,ω (k:Int)],0,false,0,0,true⟩),(2,⟨[.ref 3 0 0 fN,.ref 4 0 0 sN,.ref 5 0 0 n],0,false,0,0,false⟩),(3,⟨F1,0,false,0,4,true⟩),(4,⟨S1,0,false,0,4,true⟩),(5,⟨C,0,false,0,12,true⟩)],.dead,[]⟩
theorem OV (j:List Int) (i:Bool) (F1 S1:List AV) (fN sN n e:Nat) (k:Nat) (qs:List Pv) (J:k<2^60) (A:qs.length=n) (t:e<n) (I:n≤6) (B:∀ z ∈ qs,Dj z):∃ (q2:List Pv) (k2:Nat),q2.length=n∧(∀ z ∈ q2,Dj z)∧k2≤k+1∧∀ nt,239≤nt→af prog ap [] nt (eQ 37 (ae f36)) (rD j i F1 S1 fN sN n e k (dJ qs)) .normal (rD j i F1 S1 fN sN n e k2 (dJ q2)):=by
 obtain ⟨p,x,r,hs,y⟩:=gW qs e (by omega);obtain ⟨w,_,_,_,H⟩:=fH 1 2 (by omega) (by omega) (by omega) (by omega);have F:Dj x:=B x (by rw [hs];simp);refine ⟨p++⟨x.nm,x.tr,x.tm,x.td,x.body,x.ch,w.neg,ai w.n,ai w.d,x.cn,x.ca,x.cd⟩::r,k,by rw [← A,hs];simp,kV (by rw [← hs];exact B) F,by omega,fun nt l=> ?_⟩;have q:(dJ qs).length=n*12:=by rw [← A];exact eX (f:=iY) (n:=12) (fun _=>rfl) qs
 have C:=fV (f:=iY) (m:=12) (fun _=>rfl) p r x e 9 y (by decide);have D:=pU (f:=iY) (m:=12) (fun _=>rfl) p r x e 6 y (by decide);rw [← hs] at C D;have G:(ξ (((0+(γ (e:Int)))*12)+6) (dJ qs)++ [.bool w.neg,.str (ai w.n),.str (ai w.d)]++θ ((((0+(γ (e:Int)))*12)+6)+3) (dJ qs))=dJ (p++(⟨x.nm,x.tr,x.tm,x.td,x.body,x.ch,w.neg,ai w.n,ai w.d,x.cn,x.ca,x.cd⟩:Pv)::r):=by
  unfold dJ;rw [D,show (((0+(γ (e:Int)))*12)+6)+3=((0+(γ (e:Int)))*12)+9 by omega,C,Xqn,Xqg,Ξ,Ξ];rfl
 have v:(Xqc ((((0+(γ (e:Int)))*12)+6)+3) (ν (dJ qs)))=true:=(dA (by rw [q];omega))
 have u:(decide (((0:Nat):Int)≤(e:Int)))=true:=(k0 e)
 have o:(decide ((e:Int)<(n:Int)))=true:=(kl t)
 have h:af prog ap [] nt (eQ 37 (ae f36)) (rD j i F1 S1 fN sN n e k (dJ qs)) .normal (rD j i F1 S1 fN sN n e k ((ξ (((0+(γ (e:Int)))*12)+6) (dJ qs)++ [.bool w.neg,.str (ai w.n),.str (ai w.d)]++θ ((((0+(γ (e:Int)))*12)+6)+3) (dJ qs)))):=pN 36 [] 0 0 (.c v (.c u (.c o (.n 1 .nil)))) (.c H .nil) l;rw [G] at h;exact h
theorem OW (j:List Int) (i:Bool) (F1 S1:List AV) (fN sN n e:Nat) (k:Nat) (qs:List Pv) (P:k<2^60) (F:qs.length=n) (v:e<n) (M:n≤6) (B:∀ z ∈ qs,Dj z):∃ (q2:List Pv) (k2:Nat),q2.length=n∧(∀ z ∈ q2,Dj z)∧k2≤k+1∧∀ nt,239≤nt→af prog ap [] nt (eQ 38 (ae f36)) (rD j i F1 S1 fN sN n e k (dJ qs)) .normal (rD j i F1 S1 fN sN n e k2 (dJ q2)):=by
 obtain ⟨p,x,r,hs,D⟩:=gW qs e (by omega);obtain ⟨l,k1,K,O,N⟩:=aT j i k 100 (by omega) (by omega) (by omega);obtain ⟨w,J⟩:∃ q:RQ,CO 25 [ω ((1+l:Nat):Int)] (.ret (qA q)):=⟨_,jG ((1+l:Nat):Int) (by omega) (by omega)⟩
 have H:Dj x:=B x (by rw [hs];simp);refine ⟨p++⟨x.nm,x.tr,x.tm,x.td,x.body,x.ch,x.sn,x.sa,x.sd,w.neg,ai w.n,ai w.d⟩::r,k1,by rw [← F,hs];simp,kV (by rw [← hs];exact B) H,by omega,fun nt t=> ?_⟩;have u:(dJ qs).length=n*12:=by rw [← F];exact eX (f:=iY) (n:=12) (fun _=>rfl) qs
 have G:=fV (f:=iY) (m:=12) (fun _=>rfl) p r x e 12 D (by decide);have C:=pU (f:=iY) (m:=12) (fun _=>rfl) p r x e 9 D (by decide);rw [← hs] at G C;have I:(ξ (((0+(γ (e:Int)))*12)+9) (dJ qs)++ [.bool w.neg,.str (ai w.n),.str (ai w.d)]++θ ((((0+(γ (e:Int)))*12)+9)+3) (dJ qs))=dJ (p++(⟨x.nm,x.tr,x.tm,x.td,x.body,x.ch,x.sn,x.sa,x.sd,w.neg,ai w.n,ai w.d⟩:Pv)::r):=by
  unfold dJ;rw [C,show (((0+(γ (e:Int)))*12)+9)+3=((0+(γ (e:Int)))*12)+12 by omega,G,Xqn,Xqg,Ξ,Ξ];rfl
 have o:(Xqc ((((0+(γ (e:Int)))*12)+9)+3) (ν (dJ qs)))=true:=(dA (by rw [u];omega))
 have y:(decide (((0:Nat):Int)≤(e:Int)))=true:=(k0 e)
 have A:(decide ((e:Int)<(n:Int)))=true:=(kl v)
 have h:af prog ap [] nt (eQ 38 (ae f36)) (rD j i F1 S1 fN sN n e k (dJ qs)) .normal (rD j i F1 S1 fN sN n e k1 ((ξ (((0+(γ (e:Int)))*12)+9) (dJ qs)++ [.bool w.neg,.str (ai w.n),.str (ai w.d)]++θ ((((0+(γ (e:Int)))*12)+9)+3) (dJ qs)))):=pN 36 [] 0 0 (.c o (.c y (.c A (.n 1 .nil)))) (.c J (.v 234 (.eq (fP (a:=1) (b:=l) (by omega))) (.c N .nil))) t;rw [I] at h;exact h
theorem Y2:∀ ps:List Pv,tX (ps.map fun p=>(p,false))=QE ps
 | []=>rfl
 |p::ps=>by simp only [tX,QE,χ,Xqg] at*;rw [show (ps.map fun p=>(p,false)).flatMap Xr=ps.flatMap VU from Y2 ps];rfl
theorem Y3:∀ q:List (Pv × Bool),(∀ y ∈ q,y.2=true)→tX q=dJ (q.map Yqo)
 | [],_=>rfl
 |(p,b)::q,h=>by
  have e:b=true:=h _ (Xqs ..);subst e;simp only [tX,dJ,χ,Xqg];rw [show q.flatMap Xr=(q.map Yqo).flatMap iY from Y3 q fun y f=>h y (Xql _ f)];rfl
theorem Uk:∀ ps:List Pv,(∀ p ∈ ps,p.body= [])→QY (QE ps) (bJ ps)
 | [],_=> .nil
 |p::ps,h=>by
  have f:p.body= []:=h p (Xqs ..);have e:bJ (p::ps)=xn p++bJ ps:=rfl;have i:QE (p::ps)=VU p++QE ps:=rfl;rw [e,i];unfold xn VU;rw [f];exact .same (.same (.same (.same (.nilS (.same (.same (.same (.same (.same (.same (.same (Uk ps fun q j=>h q (Xql _ j)))))))))))))
theorem Ko:∀ l:List Sg,(iO l).all AM.bare=true
 | []=>rfl
 |x::l=>by rw [DZ,List.all_append,Ko l];rfl
theorem tk0 {n m:Nat} {l:List AV} (h:l.length=n*m):ξ (n*m) (θ (0*m) l)=l:=by rw [Nat.zero_mul,List.drop_zero,τ (by omega)]
theorem Ll (r:Bool):(gK r).length=(cond r 3 2)*4:=by cases r<;>rfl
theorem MN (x:Bool) (f e:List AV) (n1 n2:Nat):(gV x f e n1 n2).length=(cond x 2 1)*4:=by cases x<;>rfl
theorem OJ (ps:List Pv):(dJ ps).length=ps.length*12:=eX (f:=iY) (n:=12) (fun _=>rfl) ps
abbrev VT (F S C:List AV):List aK:= [⟨F,0,false,0,4,true⟩,⟨S,0,false,0,4,true⟩,⟨C,0,false,0,12,true⟩]
theorem Jj (F S C:List AV) (fN sN n:Nat) (t:List AV) (e:f_ (frz (aC (VT F S C)) 6) t=some t) (i:F.length=fN*4) (j:S.length=sN*4) (f:C.length=n*12):f_ (frz (aC (VT F S C)) 6) (.agg [.ref 0 0 0 fN,.ref 1 0 0 sN,.ref 2 0 0 n]::t)=some (.agg [.sl F fN true,.sl S sN true,.sl C n true]::t):=by
 have h:frz (aC (VT F S C)) 6 (.agg [.ref 0 0 0 fN,.ref 1 0 0 sN,.ref 2 0 0 n])=some (.agg [.sl (ξ (fN*4) (θ (0*4) F)) fN true,.sl (ξ (sN*4) (θ (0*4) S)) sN true,.sl (ξ (n*12) (θ (0*12) C)) n true]):=by kernel_rfl
 rw [tk0 i,tk0 j,tk0 f] at h;simp only [f_,h,e]
theorem NF:∀ (r:List Pv) (nm:List UInt8) (k j:Nat),AM.goL (WH nm) (fun _=>none) r k=some j→k≤j∧j<k+r.length
 | [],nm,k,j,h=>by simp [AM.goL] at h
 | x::r,nm,k,j,h=>by
  unfold AM.goL WH at h;by_cases hx:(x.nm==nm)=true
  ·rw [if_pos hx] at h;cases h;simp
  ·rw [if_neg hx] at h;have:=NF r nm (k+1) j h;rw [Θ];omega
theorem RV {ps:List Pv} {e:List UInt8} (f:QZ ps e=true):Ej ps e<ps.length:=by
 unfold QZ at f;unfold Ej;cases h:RY ps e with
 |none=>rw [h] at f;cases f
 |some k=>
  have:=NF ps e 0 k h;simpa using this
theorem QO (r x:Bool) (j i:List AV) (n1 n2:Nat) (ps:List Pv) (n:Nat) (m:ps.length=n) (hp:n≤6) (q:∀ p ∈ ps,Xp p):∃ f:List Sg,f.length≤100∧ah prog ap 81 [.agg [.ref 0 0 0 (cond r 3 2),.ref 1 0 0 (cond x 2 1),.ref 2 0 0 n]] (VT (gK r) (gV x j i n1 n2) (QE ps)) (.ret (.sl (iO f) f.length true)) (VT (gK r) (gV x j i n1 n2) (QE ps)):=by
 obtain ⟨f,u,v⟩:=XP r x j i n1 n2 ps true (by omega);refine ⟨f,u, ?_⟩;have l:=v.args (args':= [.agg [.sl (gK r) (cond r 3 2) true,.sl (gV x j i n1 n2) (cond x 2 1) true,.sl (QE ps) ps.length true]]) (.cons (bF.agg (.cons (bF.eq rfl) (.cons (bF.eq rfl) (.cons (bF.slP (Uk ps fun p hp=>(q p hp).2)) .nil)))) .nil);rw [m] at l;have t:=ah.lend (h:=VT (gK r) (gV x j i n1 n2) (QE ps)) (Jj _ _ _ _ _ n [] rfl (Ll r) (MN x j i n1 n2) (by rw [OG,m])) (by show ((iO f).all AM.bare && _)=true;rw [Ko];rfl) l;have o:=t.thaw (by intro B k;simp only [VT,Xqu,Xxb,or_false] at k;rcases k with rfl|rfl|rfl<;>rfl);have e:ξ (f.length*5) (iO f)=iO f:=τ (by rw [nM];omega);simp only [qL,thaw,e] at o;exact o
theorem E9 (r x:Bool) (j f:List AV) (n1 n2:Nat) (ps:List Pv) (n:Nat) (k:ps.length=n) (hp:n≤6) (e:List UInt8):∃ (i:Nat) (b:Bool),(b=true→i<n)∧ah prog ap 45 [.agg [.ref 0 0 0 (cond r 3 2),.ref 1 0 0 (cond x 2 1),.ref 2 0 0 n],.str e] (VT (gK r) (gV x j f n1 n2) (dJ ps)) (.ret (.tup [ω (i:Int),.bool b])) (VT (gK r) (gV x j f n1 n2) (dJ ps)):=by
 have o:=E8 ⟨gK r,cond r 3 2,gV x j f n1 n2,cond x 2 1,ps⟩ true true true e (by show ps.length<_;omega);refine ⟨Ej ps e,QZ ps e,fun m=>by rw [← k];exact RV m, ?_⟩;have l:=o.args (args':= [.agg [.sl (gK r) (cond r 3 2) true,.sl (gV x j f n1 n2) (cond x 2 1) true,.sl (dJ ps) ps.length true],.str e]) (.cons (bF.agg (.cons (bF.eq rfl) (.cons (bF.eq rfl) (.cons (bF.slP (Du ps)) .nil)))) (.cons (bF.eq rfl) .nil));rw [k] at l;exact ah.lend (h:=VT (gK r) (gV x j f n1 n2) (dJ ps)) (Jj _ _ _ _ _ n [.str e] rfl (Ll r) (MN x j f n1 n2) (by rw [OJ,k])) rfl l
structure aaE (L:Lw):Prop where
 p1:1≤L.ps.length
 p6:L.ps.length≤6
 ok:∀ p ∈ L.ps,Dj p
 f1:1≤L.fn
 f3:L.fn≤3
 fl:L.fx.length=L.fn*4
 s1:1≤L.sn
 s2:L.sn≤2
 sl:L.sx.length=L.sn*4
theorem dQ {args:List AV} (r x:Bool) (i f:List AV) (n1 n2 n:Nat) (e:List Pv) (j:e.length=n) (l:1≤n) (m:n≤6) (k:∀ z ∈ e,Dj z) (h:CO 36 args (.ret (.agg [.sl (gK r) (cond r 3 2) true,.sl (gV x i f n1 n2) (cond x 2 1) true,.sl (ξ (n*12) (dJ e)) n true]))):∃ L,aaE L∧CO 36 args (.ret (.agg (L.c true true true))):=by
 rw [τ (by rw [OJ,j];exact ε _),← j] at h;exact ⟨⟨gK r,cond r 3 2,gV x i f n1 n2,cond x 2 1,e⟩,⟨by show 1≤e.length;omega,by show e.length≤6;omega,k,show 1≤cond r 3 2 by cases r<;>decide,show cond r 3 2≤3 by cases r<;>decide,Ll r,show 1≤cond x 2 1 by cases x<;>decide,show cond x 2 1≤2 by cases x<;>decide,MN x i f n1 n2⟩,h.out (iP.ret rfl rfl (bF.agg (.cons (bF.eq rfl) (.cons (bF.eq rfl) (.cons (bF.slP (Du e)) .nil)))))⟩
theorem Qs (ll:List (List Int)) (nl:Bool):∃ L,aaE L∧CO 36 [.sl (kL ll) ll.length nl] (.ret (.agg (L.c true true true))):=by
 obtain ⟨P,O,cl⟩:=Oa ll nl 0;obtain ⟨r0,k1,hr0,hk1,m0⟩:=aT P O 0 4 (by omega) (by omega) (by omega);obtain ⟨u,n1,kb1,w1,wn1,hb1,kb_1⟩:=yS true P O k1 (by omega);obtain ⟨r1,k2,hr1,hk2,J⟩:=aT P O kb1 2 (by omega) (by omega) (by omega);obtain ⟨t,n2,kb2,w2,wn2,hb2,kb_2⟩:=yS false P O k2 (by omega);obtain ⟨r,M⟩:∃ r,(decide (((0:Nat):Int)<(r0:Int)))=r:=⟨_,rfl⟩
 obtain ⟨x,F⟩:∃ x,((r1:Int)==((0:Nat):Int))=x:=⟨_,rfl⟩
 obtain ⟨n,ps,kw,a1,K,v,a3,a4,hL0⟩:=JC ll nl P O (gK r) (gV x u t n1 n2) (cond r 3 2) (cond x 2 1) 6 0 false 0 [] (cond x kb2 k2) rfl (by cases x<;>simp<;>omega) rfl (ε _) (fun _=>rfl) (fun h=>by cases h) (fun h=>by omega) (fun p hp=>by cases hp);have hkl:kw<1000:=by cases x<;>simp at a4<;>omega
 have G:=aP.blk (id:=0) (e':= .normal) (fun nt (hn:239≤nt)=>hL0 nt hn) (by simp) rfl (aJ.refl _) (aJ.refl _);obtain ⟨l,k3,hr2,hk3,I⟩:=aT P O kw 8 (by omega) (by omega) (by omega);obtain ⟨sg,hsg,cs⟩:=QO r x u t n1 n2 ps n a1 v a3;obtain ⟨q,c1,c2,hL2⟩:=Nh ll nl P O (gK r) (gV x u t n1 n2) (cond r 3 2) (cond x 2 1) n k3 l sg hsg v (ps.map fun p=>(p,false)) [] (by simp [a1]) (fun y hy=>by
  obtain ⟨p,hp,rfl⟩:=List.mem_map.1 hy;exact a3 p hp) (fun y hy=>by cases hy)
 have B:=aP.blk (id:=2) (e':= .normal) (fun nt (hn:239≤nt)=>hL2 nt hn) (by simp) rfl (aJ.refl _) (aJ.refl _);have e1:bX ll nl P O (gK r) (gV x u t n1 n2) (cond r 3 2) (cond x 2 1) n k3 l sg q=bX ll nl P O (gK r) (gV x u t n1 n2) (cond r 3 2) (cond x 2 1) n k3 l sg q:=rfl;simp only [μ,Y2,Xqj] at B;unfold bX at B;rw [Y3 q fun y hy=>(c2 y hy).2.2] at B;obtain ⟨qs,hqs⟩:∃ qs,qs=q.map Yqo:=⟨_,rfl⟩
 rw [← hqs] at B;have D:qs.length=n:=by rw [hqs,Xqv,c1]
 have H:∀ z ∈ qs,Dj z:=fun z hz=>by
  rw [hqs] at hz;obtain ⟨y,hy,rfl⟩:=List.mem_map.1 hz;exact ⟨(c2 y hy).1,(c2 y hy).2.1⟩
 clear e1 hL0 hL2;obtain ⟨ia,V,W,e⟩:=E9 r x u t n1 n2 qs n D v zcc3_1;obtain ⟨ib,X,hib,k⟩:=E9 r x u t n1 n2 qs n D v zcc3_0;have j:=xh;have i:=n59;have hk3b:k3<2000:=by omega
 cases r with
 | false=>
  cases x with
  | false=>
   rcases tf (decide (((1:Nat):Int)≤(l:Int))) with z1|z1
   ·rcases tf (decide ((l:Int)≤((3:Nat):Int))) with z3|z3
    ·rcases tf V with fa1|fa1
     ·rcases tf X with fb1|fb1
      ·have A:((l:Int)==((4:Nat):Int))=false:=by simp only [decide_eq_true_eq,decide_eq_false_iff_not,beq_iff_eq,Yq2] at*;omega
       have o:((l:Int)==((5:Nat):Int))=false:=by simp only [decide_eq_true_eq,decide_eq_false_iff_not,beq_iff_eq,Yq2] at*;omega
       obtain ⟨R,U,v0,S,t0,s0⟩:=OQ P O (gK false) (gV false u t n1 n2) 2 1 n l ia ib V X k3 qs (by omega) D (W fa1) v H;have g30:bD prog ap [] 239 (eQ 30 (ae f36)) _ .normal _:=s0;obtain ⟨q2,kc2,Z,Y,t1,s1⟩:=OT P O (gK false) (gV false u t n1 n2) 2 1 n l ia ib V X U R (by omega) v0 (hib fb1) v S;have g31:bD prog ap [] 239 (eQ 31 (ae f36)) _ .normal _:=s1;exact dQ false false u t n1 n2 n q2 Z K v Y (pK [0,2,1030,1031,1033,1037,1038] 9 60 (.k 7 (au o) (.k 1 (au A) (.c (ak fb1) (.c (ak fa1) (.c (ak z3) (.c (ak z1) (.k 10 (au F) (.k 12 (au M) (.n 2 .nil))))))))) (.k [2,3,5,9,12,13,14,15] g31 (.k [2,3,5,9,12,13,14,15] g30 (.c k (.c e (.k [0,2,3,5,9,10,11] B (.c cs (.c I (.k [0,2,3,4,5,6,7] G (.c J (.c kb_1 (.c m0 (.c i (.c j (.c cl .nil)))))))))))))))
      ·have A:((l:Int)==((4:Nat):Int))=false:=by simp only [decide_eq_true_eq,decide_eq_false_iff_not,beq_iff_eq,Yq2] at*;omega
       have o:((l:Int)==((5:Nat):Int))=false:=by simp only [decide_eq_true_eq,decide_eq_false_iff_not,beq_iff_eq,Yq2] at*;omega
       exact dQ false false u t n1 n2 n qs D K v H (pK [0,2,1030,1031,1033,1037,1038] 9 28 (.k 7 (au o) (.k 1 (au A) (.c (au fb1) (.c (ak fa1) (.c (ak z3) (.c (ak z1) (.k 10 (au F) (.k 12 (au M) (.n 2 .nil))))))))) (.c k (.c e (.k [0,2,3,5,9,10,11] B (.c cs (.c I (.k [0,2,3,4,5,6,7] G (.c J (.c kb_1 (.c m0 (.c i (.c j (.c cl .nil)))))))))))))
     ·have A:((l:Int)==((4:Nat):Int))=false:=by simp only [decide_eq_true_eq,decide_eq_false_iff_not,beq_iff_eq,Yq2] at*;omega
      have o:((l:Int)==((5:Nat):Int))=false:=by simp only [decide_eq_true_eq,decide_eq_false_iff_not,beq_iff_eq,Yq2] at*;omega
      exact dQ false false u t n1 n2 n qs D K v H (pK [0,2,1030,1031,1033,1037,1038] 9 12 (.k 7 (au o) (.k 1 (au A) (.k 1 (au fa1) (.c (ak z3) (.c (ak z1) (.k 10 (au F) (.k 12 (au M) (.n 2 .nil)))))))) (.c k (.c e (.k [0,2,3,5,9,10,11] B (.c cs (.c I (.k [0,2,3,4,5,6,7] G (.c J (.c kb_1 (.c m0 (.c i (.c j (.c cl .nil)))))))))))))
    ·rcases tf ((l:Int)==((4:Nat):Int)) with A|A
     ·rcases tf V with fa1|fa1
      ·have o:((l:Int)==((5:Nat):Int))=false:=by simp only [decide_eq_true_eq,decide_eq_false_iff_not,beq_iff_eq,Yq2] at*;omega
       obtain ⟨R,U,v0,S,t0,s0⟩:=OU P O (gK false) (gV false u t n1 n2) 2 1 n l ia ib V X k3 qs (by omega) D (W fa1) v H;have g33:bD prog ap [] 239 (eQ 33 (ae f36)) _ .normal _:=s0;exact dQ false false u t n1 n2 n R v0 K v S (pK [0,2,1030,1031,1033,1037,1038] 9 196 (.k 7 (au o) (.c (ak fa1) (.c (ak A) (.k 2 (au z3) (.c (ak z1) (.k 10 (au F) (.k 12 (au M) (.n 2 .nil)))))))) (.k [2,3,5,9,12,13,14,15] g33 (.c k (.c e (.k [0,2,3,5,9,10,11] B (.c cs (.c I (.k [0,2,3,4,5,6,7] G (.c J (.c kb_1 (.c m0 (.c i (.c j (.c cl .nil))))))))))))))
      ·have o:((l:Int)==((5:Nat):Int))=false:=by simp only [decide_eq_true_eq,decide_eq_false_iff_not,beq_iff_eq,Yq2] at*;omega
       exact dQ false false u t n1 n2 n qs D K v H (pK [0,2,1030,1031,1033,1037,1038] 9 68 (.k 7 (au o) (.c (au fa1) (.c (ak A) (.k 2 (au z3) (.c (ak z1) (.k 10 (au F) (.k 12 (au M) (.n 2 .nil)))))))) (.c k (.c e (.k [0,2,3,5,9,10,11] B (.c cs (.c I (.k [0,2,3,4,5,6,7] G (.c J (.c kb_1 (.c m0 (.c i (.c j (.c cl .nil)))))))))))))
     ·rcases tf ((l:Int)==((5:Nat):Int)) with o|o
      ·obtain ⟨N,k4,C,hk4,m3⟩:=aT P O k3 n (by omega) (by omega) (by omega);obtain ⟨pp,px,pr,hs,hi⟩:=gW qs N (by omega);have hA:=fV (f:=iY) (m:=12) (fun _=>rfl) pp pr px N 1 hi (by decide);rw [← hs] at hA;change θ _ (dJ qs)=_ at hA;have T:(chk .bool (Xqo (θ ((((0+(γ (N:Int)))*12)+1)+0) (dJ qs)) .dead))=true:=by rw [Xqt,hA];rfl
       rcases tf (AV.toBool (Xqo (θ ((((0+(γ (N:Int)))*12)+1)+0) (dJ qs)) .dead)) with zT|zT
       ·exact dQ false false u t n1 n2 n qs D K v H (pK [0,2,1030,1031,1033,1037,1038] 10 260 (.k 7 (dV zT) (.c T (.c (k0 N) (.c (kl C) (.k 2 (ak o) (.k 1 (au A) (.k 2 (au z3) (.c (ak z1) (.k 10 (au F) (.k 12 (au M) (.n 2 .nil))))))))))) (.c m3 (.c k (.c e (.k [0,2,3,5,9,10,11] B (.c cs (.c I (.k [0,2,3,4,5,6,7] G (.c J (.c kb_1 (.c m0 (.c i (.c j (.c cl .nil))))))))))))))
       ·obtain ⟨R,kd1,v0,S,t0,s0⟩:=OV P O (gK false) (gV false u t n1 n2) 2 1 n N k4 qs (by omega) D C v H;have g37:bD prog ap [] 239 (eQ 37 (ae f36)) _ .normal _:=s0;obtain ⟨q2,kd2,Z,Y,t1,s1⟩:=OW P O (gK false) (gV false u t n1 n2) 2 1 n N kd1 R (by omega) v0 C v S;have g38:bD prog ap [] 239 (eQ 38 (ae f36)) _ .normal _:=s1;exact dQ false false u t n1 n2 n q2 Z K v Y (pK [0,2,1030,1031,1033,1037,1038] 10 772 (.k 7 (fZ zT) (.c T (.c (k0 N) (.c (kl C) (.k 2 (ak o) (.k 1 (au A) (.k 2 (au z3) (.c (ak z1) (.k 10 (au F) (.k 12 (au M) (.n 2 .nil))))))))))) (.k [2,3,5,16] g38 (.k [2,3,5,16] g37 (.c m3 (.c k (.c e (.k [0,2,3,5,9,10,11] B (.c cs (.c I (.k [0,2,3,4,5,6,7] G (.c J (.c kb_1 (.c m0 (.c i (.c j (.c cl .nil))))))))))))))))
      ·exact dQ false false u t n1 n2 n qs D K v H (pK [0,2,1030,1031,1033,1037,1038] 9 4 (.k 7 (au o) (.k 1 (au A) (.k 2 (au z3) (.c (ak z1) (.k 10 (au F) (.k 12 (au M) (.n 2 .nil))))))) (.c k (.c e (.k [0,2,3,5,9,10,11] B (.c cs (.c I (.k [0,2,3,4,5,6,7] G (.c J (.c kb_1 (.c m0 (.c i (.c j (.c cl .nil)))))))))))))
   ·have A:((l:Int)==((4:Nat):Int))=false:=by simp only [decide_eq_true_eq,decide_eq_false_iff_not,beq_iff_eq,Yq2] at*;omega
    have o:((l:Int)==((5:Nat):Int))=false:=by simp only [decide_eq_true_eq,decide_eq_false_iff_not,beq_iff_eq,Yq2] at*;omega
    exact dQ false false u t n1 n2 n qs D K v H (pK [0,2,1030,1031,1033,1037,1038] 9 0 (.k 7 (au o) (.k 1 (au A) (.k 3 (au z1) (.k 10 (au F) (.k 12 (au M) (.n 2 .nil)))))) (.c k (.c e (.k [0,2,3,5,9,10,11] B (.c cs (.c I (.k [0,2,3,4,5,6,7] G (.c J (.c kb_1 (.c m0 (.c i (.c j (.c cl .nil)))))))))))))
  | true=>
   rcases tf (decide (((1:Nat):Int)≤(l:Int))) with z1|z1
   ·rcases tf (decide ((l:Int)≤((3:Nat):Int))) with z3|z3
    ·rcases tf V with fa1|fa1
     ·rcases tf X with fb1|fb1
      ·have A:((l:Int)==((4:Nat):Int))=false:=by simp only [decide_eq_true_eq,decide_eq_false_iff_not,beq_iff_eq,Yq2] at*;omega
       have o:((l:Int)==((5:Nat):Int))=false:=by simp only [decide_eq_true_eq,decide_eq_false_iff_not,beq_iff_eq,Yq2] at*;omega
       obtain ⟨R,U,v0,S,t0,s0⟩:=OQ P O (gK false) (gV true u t n1 n2) 2 2 n l ia ib V X k3 qs (by omega) D (W fa1) v H;have g30:bD prog ap [] 239 (eQ 30 (ae f36)) _ .normal _:=s0;obtain ⟨q2,kc2,Z,Y,t1,s1⟩:=OT P O (gK false) (gV true u t n1 n2) 2 2 n l ia ib V X U R (by omega) v0 (hib fb1) v S;have g31:bD prog ap [] 239 (eQ 31 (ae f36)) _ .normal _:=s1;exact dQ false true u t n1 n2 n q2 Z K v Y (pK [0,2,1030,1031,1033,1037,1038] 9 62 (.k 7 (au o) (.k 1 (au A) (.c (ak fb1) (.c (ak fa1) (.c (ak z3) (.c (ak z1) (.k 18 (ak F) (.k 12 (au M) (.n 2 .nil))))))))) (.k [2,3,5,9,12,13,14,15] g31 (.k [2,3,5,9,12,13,14,15] g30 (.c k (.c e (.k [0,2,3,5,9,10,11] B (.c cs (.c I (.k [0,2,3,4,5,6,7] G (.c kb_2 (.c J (.c kb_1 (.c m0 (.c i (.c j (.c cl .nil))))))))))))))))
      ·have A:((l:Int)==((4:Nat):Int))=false:=by simp only [decide_eq_true_eq,decide_eq_false_iff_not,beq_iff_eq,Yq2] at*;omega
       have o:((l:Int)==((5:Nat):Int))=false:=by simp only [decide_eq_true_eq,decide_eq_false_iff_not,beq_iff_eq,Yq2] at*;omega
       exact dQ false true u t n1 n2 n qs D K v H (pK [0,2,1030,1031,1033,1037,1038] 9 30 (.k 7 (au o) (.k 1 (au A) (.c (au fb1) (.c (ak fa1) (.c (ak z3) (.c (ak z1) (.k 18 (ak F) (.k 12 (au M) (.n 2 .nil))))))))) (.c k (.c e (.k [0,2,3,5,9,10,11] B (.c cs (.c I (.k [0,2,3,4,5,6,7] G (.c kb_2 (.c J (.c kb_1 (.c m0 (.c i (.c j (.c cl .nil))))))))))))))
     ·have A:((l:Int)==((4:Nat):Int))=false:=by simp only [decide_eq_true_eq,decide_eq_false_iff_not,beq_iff_eq,Yq2] at*;omega
      have o:((l:Int)==((5:Nat):Int))=false:=by simp only [decide_eq_true_eq,decide_eq_false_iff_not,beq_iff_eq,Yq2] at*;omega
      exact dQ false true u t n1 n2 n qs D K v H (pK [0,2,1030,1031,1033,1037,1038] 9 14 (.k 7 (au o) (.k 1 (au A) (.k 1 (au fa1) (.c (ak z3) (.c (ak z1) (.k 18 (ak F) (.k 12 (au M) (.n 2 .nil)))))))) (.c k (.c e (.k [0,2,3,5,9,10,11] B (.c cs (.c I (.k [0,2,3,4,5,6,7] G (.c kb_2 (.c J (.c kb_1 (.c m0 (.c i (.c j (.c cl .nil))))))))))))))
    ·rcases tf ((l:Int)==((4:Nat):Int)) with A|A
     ·rcases tf V with fa1|fa1
      ·have o:((l:Int)==((5:Nat):Int))=false:=by simp only [decide_eq_true_eq,decide_eq_false_iff_not,beq_iff_eq,Yq2] at*;omega
       obtain ⟨R,U,v0,S,t0,s0⟩:=OU P O (gK false) (gV true u t n1 n2) 2 2 n l ia ib V X k3 qs (by omega) D (W fa1) v H;have g33:bD prog ap [] 239 (eQ 33 (ae f36)) _ .normal _:=s0;exact dQ false true u t n1 n2 n R v0 K v S (pK [0,2,1030,1031,1033,1037,1038] 9 198 (.k 7 (au o) (.c (ak fa1) (.c (ak A) (.k 2 (au z3) (.c (ak z1) (.k 18 (ak F) (.k 12 (au M) (.n 2 .nil)))))))) (.k [2,3,5,9,12,13,14,15] g33 (.c k (.c e (.k [0,2,3,5,9,10,11] B (.c cs (.c I (.k [0,2,3,4,5,6,7] G (.c kb_2 (.c J (.c kb_1 (.c m0 (.c i (.c j (.c cl .nil)))))))))))))))
      ·have o:((l:Int)==((5:Nat):Int))=false:=by simp only [decide_eq_true_eq,decide_eq_false_iff_not,beq_iff_eq,Yq2] at*;omega
       exact dQ false true u t n1 n2 n qs D K v H (pK [0,2,1030,1031,1033,1037,1038] 9 70 (.k 7 (au o) (.c (au fa1) (.c (ak A) (.k 2 (au z3) (.c (ak z1) (.k 18 (ak F) (.k 12 (au M) (.n 2 .nil)))))))) (.c k (.c e (.k [0,2,3,5,9,10,11] B (.c cs (.c I (.k [0,2,3,4,5,6,7] G (.c kb_2 (.c J (.c kb_1 (.c m0 (.c i (.c j (.c cl .nil))))))))))))))
     ·rcases tf ((l:Int)==((5:Nat):Int)) with o|o
      ·obtain ⟨N,k4,C,hk4,m3⟩:=aT P O k3 n (by omega) (by omega) (by omega);obtain ⟨pp,px,pr,hs,hi⟩:=gW qs N (by omega);have hA:=fV (f:=iY) (m:=12) (fun _=>rfl) pp pr px N 1 hi (by decide);rw [← hs] at hA;change θ _ (dJ qs)=_ at hA;have T:(chk .bool (Xqo (θ ((((0+(γ (N:Int)))*12)+1)+0) (dJ qs)) .dead))=true:=by rw [Xqt,hA];rfl
       rcases tf (AV.toBool (Xqo (θ ((((0+(γ (N:Int)))*12)+1)+0) (dJ qs)) .dead)) with zT|zT
       ·exact dQ false true u t n1 n2 n qs D K v H (pK [0,2,1030,1031,1033,1037,1038] 10 262 (.k 7 (dV zT) (.c T (.c (k0 N) (.c (kl C) (.k 2 (ak o) (.k 1 (au A) (.k 2 (au z3) (.c (ak z1) (.k 18 (ak F) (.k 12 (au M) (.n 2 .nil))))))))))) (.c m3 (.c k (.c e (.k [0,2,3,5,9,10,11] B (.c cs (.c I (.k [0,2,3,4,5,6,7] G (.c kb_2 (.c J (.c kb_1 (.c m0 (.c i (.c j (.c cl .nil)))))))))))))))
       ·obtain ⟨R,kd1,v0,S,t0,s0⟩:=OV P O (gK false) (gV true u t n1 n2) 2 2 n N k4 qs (by omega) D C v H;have g37:bD prog ap [] 239 (eQ 37 (ae f36)) _ .normal _:=s0;obtain ⟨q2,kd2,Z,Y,t1,s1⟩:=OW P O (gK false) (gV true u t n1 n2) 2 2 n N kd1 R (by omega) v0 C v S;have g38:bD prog ap [] 239 (eQ 38 (ae f36)) _ .normal _:=s1;exact dQ false true u t n1 n2 n q2 Z K v Y (pK [0,2,1030,1031,1033,1037,1038] 10 774 (.k 7 (fZ zT) (.c T (.c (k0 N) (.c (kl C) (.k 2 (ak o) (.k 1 (au A) (.k 2 (au z3) (.c (ak z1) (.k 18 (ak F) (.k 12 (au M) (.n 2 .nil))))))))))) (.k [2,3,5,16] g38 (.k [2,3,5,16] g37 (.c m3 (.c k (.c e (.k [0,2,3,5,9,10,11] B (.c cs (.c I (.k [0,2,3,4,5,6,7] G (.c kb_2 (.c J (.c kb_1 (.c m0 (.c i (.c j (.c cl .nil)))))))))))))))))
      ·exact dQ false true u t n1 n2 n qs D K v H (pK [0,2,1030,1031,1033,1037,1038] 9 6 (.k 7 (au o) (.k 1 (au A) (.k 2 (au z3) (.c (ak z1) (.k 18 (ak F) (.k 12 (au M) (.n 2 .nil))))))) (.c k (.c e (.k [0,2,3,5,9,10,11] B (.c cs (.c I (.k [0,2,3,4,5,6,7] G (.c kb_2 (.c J (.c kb_1 (.c m0 (.c i (.c j (.c cl .nil))))))))))))))
   ·have A:((l:Int)==((4:Nat):Int))=false:=by simp only [decide_eq_true_eq,decide_eq_false_iff_not,beq_iff_eq,Yq2] at*;omega
    have o:((l:Int)==((5:Nat):Int))=false:=by simp only [decide_eq_true_eq,decide_eq_false_iff_not,beq_iff_eq,Yq2] at*;omega
    exact dQ false true u t n1 n2 n qs D K v H (pK [0,2,1030,1031,1033,1037,1038] 9 2 (.k 7 (au o) (.k 1 (au A) (.k 3 (au z1) (.k 18 (ak F) (.k 12 (au M) (.n 2 .nil)))))) (.c k (.c e (.k [0,2,3,5,9,10,11] B (.c cs (.c I (.k [0,2,3,4,5,6,7] G (.c kb_2 (.c J (.c kb_1 (.c m0 (.c i (.c j (.c cl .nil))))))))))))))
 | true =>
  cases x with
  | false=>
   rcases tf (decide (((1:Nat):Int)≤(l:Int))) with z1|z1
   ·rcases tf (decide ((l:Int)≤((3:Nat):Int))) with z3|z3
    ·rcases tf V with fa1|fa1
     ·rcases tf X with fb1|fb1
      ·have A:((l:Int)==((4:Nat):Int))=false:=by simp only [decide_eq_true_eq,decide_eq_false_iff_not,beq_iff_eq,Yq2] at*;omega
       have o:((l:Int)==((5:Nat):Int))=false:=by simp only [decide_eq_true_eq,decide_eq_false_iff_not,beq_iff_eq,Yq2] at*;omega
       obtain ⟨R,U,v0,S,t0,s0⟩:=OQ P O (gK true) (gV false u t n1 n2) 3 1 n l ia ib V X k3 qs (by omega) D (W fa1) v H;have g30:bD prog ap [] 239 (eQ 30 (ae f36)) _ .normal _:=s0;obtain ⟨q2,kc2,Z,Y,t1,s1⟩:=OT P O (gK true) (gV false u t n1 n2) 3 1 n l ia ib V X U R (by omega) v0 (hib fb1) v S;have g31:bD prog ap [] 239 (eQ 31 (ae f36)) _ .normal _:=s1;exact dQ true false u t n1 n2 n q2 Z K v Y (pK [0,2,1030,1031,1033,1037,1038] 9 61 (.k 7 (au o) (.k 1 (au A) (.c (ak fb1) (.c (ak fa1) (.c (ak z3) (.c (ak z1) (.k 10 (au F) (.k 21 (ak M) (.n 2 .nil))))))))) (.k [2,3,5,9,12,13,14,15] g31 (.k [2,3,5,9,12,13,14,15] g30 (.c k (.c e (.k [0,2,3,5,9,10,11] B (.c cs (.c I (.k [0,2,3,4,5,6,7] G (.c J (.c kb_1 (.c m0 (.c i (.c j (.c cl .nil)))))))))))))))
      ·have A:((l:Int)==((4:Nat):Int))=false:=by simp only [decide_eq_true_eq,decide_eq_false_iff_not,beq_iff_eq,Yq2] at*;omega
       have o:((l:Int)==((5:Nat):Int))=false:=by simp only [decide_eq_true_eq,decide_eq_false_iff_not,beq_iff_eq,Yq2] at*;omega
       exact dQ true false u t n1 n2 n qs D K v H (pK [0,2,1030,1031,1033,1037,1038] 9 29 (.k 7 (au o) (.k 1 (au A) (.c (au fb1) (.c (ak fa1) (.c (ak z3) (.c (ak z1) (.k 10 (au F) (.k 21 (ak M) (.n 2 .nil))))))))) (.c k (.c e (.k [0,2,3,5,9,10,11] B (.c cs (.c I (.k [0,2,3,4,5,6,7] G (.c J (.c kb_1 (.c m0 (.c i (.c j (.c cl .nil)))))))))))))
     ·have A:((l:Int)==((4:Nat):Int))=false:=by simp only [decide_eq_true_eq,decide_eq_false_iff_not,beq_iff_eq,Yq2] at*;omega
      have o:((l:Int)==((5:Nat):Int))=false:=by simp only [decide_eq_true_eq,decide_eq_false_iff_not,beq_iff_eq,Yq2] at*;omega
      exact dQ true false u t n1 n2 n qs D K v H (pK [0,2,1030,1031,1033,1037,1038] 9 13 (.k 7 (au o) (.k 1 (au A) (.k 1 (au fa1) (.c (ak z3) (.c (ak z1) (.k 10 (au F) (.k 21 (ak M) (.n 2 .nil)))))))) (.c k (.c e (.k [0,2,3,5,9,10,11] B (.c cs (.c I (.k [0,2,3,4,5,6,7] G (.c J (.c kb_1 (.c m0 (.c i (.c j (.c cl .nil)))))))))))))
    ·rcases tf ((l:Int)==((4:Nat):Int)) with A|A
     ·rcases tf V with fa1|fa1
      ·have o:((l:Int)==((5:Nat):Int))=false:=by simp only [decide_eq_true_eq,decide_eq_false_iff_not,beq_iff_eq,Yq2] at*;omega
       obtain ⟨R,U,v0,S,t0,s0⟩:=OU P O (gK true) (gV false u t n1 n2) 3 1 n l ia ib V X k3 qs (by omega) D (W fa1) v H;have g33:bD prog ap [] 239 (eQ 33 (ae f36)) _ .normal _:=s0;exact dQ true false u t n1 n2 n R v0 K v S (pK [0,2,1030,1031,1033,1037,1038] 9 197 (.k 7 (au o) (.c (ak fa1) (.c (ak A) (.k 2 (au z3) (.c (ak z1) (.k 10 (au F) (.k 21 (ak M) (.n 2 .nil)))))))) (.k [2,3,5,9,12,13,14,15] g33 (.c k (.c e (.k [0,2,3,5,9,10,11] B (.c cs (.c I (.k [0,2,3,4,5,6,7] G (.c J (.c kb_1 (.c m0 (.c i (.c j (.c cl .nil))))))))))))))
      ·have o:((l:Int)==((5:Nat):Int))=false:=by simp only [decide_eq_true_eq,decide_eq_false_iff_not,beq_iff_eq,Yq2] at*;omega
       exact dQ true false u t n1 n2 n qs D K v H (pK [0,2,1030,1031,1033,1037,1038] 9 69 (.k 7 (au o) (.c (au fa1) (.c (ak A) (.k 2 (au z3) (.c (ak z1) (.k 10 (au F) (.k 21 (ak M) (.n 2 .nil)))))))) (.c k (.c e (.k [0,2,3,5,9,10,11] B (.c cs (.c I (.k [0,2,3,4,5,6,7] G (.c J (.c kb_1 (.c m0 (.c i (.c j (.c cl .nil)))))))))))))
     ·rcases tf ((l:Int)==((5:Nat):Int)) with o|o
      ·obtain ⟨N,k4,C,hk4,m3⟩:=aT P O k3 n (by omega) (by omega) (by omega);obtain ⟨pp,px,pr,hs,hi⟩:=gW qs N (by omega);have hA:=fV (f:=iY) (m:=12) (fun _=>rfl) pp pr px N 1 hi (by decide);rw [← hs] at hA;change θ _ (dJ qs)=_ at hA;have T:(chk .bool (Xqo (θ ((((0+(γ (N:Int)))*12)+1)+0) (dJ qs)) .dead))=true:=by rw [Xqt,hA];rfl
       rcases tf (AV.toBool (Xqo (θ ((((0+(γ (N:Int)))*12)+1)+0) (dJ qs)) .dead)) with zT|zT
       ·exact dQ true false u t n1 n2 n qs D K v H (pK [0,2,1030,1031,1033,1037,1038] 10 261 (.k 7 (dV zT) (.c T (.c (k0 N) (.c (kl C) (.k 2 (ak o) (.k 1 (au A) (.k 2 (au z3) (.c (ak z1) (.k 10 (au F) (.k 21 (ak M) (.n 2 .nil))))))))))) (.c m3 (.c k (.c e (.k [0,2,3,5,9,10,11] B (.c cs (.c I (.k [0,2,3,4,5,6,7] G (.c J (.c kb_1 (.c m0 (.c i (.c j (.c cl .nil))))))))))))))
       ·obtain ⟨R,kd1,v0,S,t0,s0⟩:=OV P O (gK true) (gV false u t n1 n2) 3 1 n N k4 qs (by omega) D C v H;have g37:bD prog ap [] 239 (eQ 37 (ae f36)) _ .normal _:=s0;obtain ⟨q2,kd2,Z,Y,t1,s1⟩:=OW P O (gK true) (gV false u t n1 n2) 3 1 n N kd1 R (by omega) v0 C v S;have g38:bD prog ap [] 239 (eQ 38 (ae f36)) _ .normal _:=s1;exact dQ true false u t n1 n2 n q2 Z K v Y (pK [0,2,1030,1031,1033,1037,1038] 10 773 (.k 7 (fZ zT) (.c T (.c (k0 N) (.c (kl C) (.k 2 (ak o) (.k 1 (au A) (.k 2 (au z3) (.c (ak z1) (.k 10 (au F) (.k 21 (ak M) (.n 2 .nil))))))))))) (.k [2,3,5,16] g38 (.k [2,3,5,16] g37 (.c m3 (.c k (.c e (.k [0,2,3,5,9,10,11] B (.c cs (.c I (.k [0,2,3,4,5,6,7] G (.c J (.c kb_1 (.c m0 (.c i (.c j (.c cl .nil))))))))))))))))
      ·exact dQ true false u t n1 n2 n qs D K v H (pK [0,2,1030,1031,1033,1037,1038] 9 5 (.k 7 (au o) (.k 1 (au A) (.k 2 (au z3) (.c (ak z1) (.k 10 (au F) (.k 21 (ak M) (.n 2 .nil))))))) (.c k (.c e (.k [0,2,3,5,9,10,11] B (.c cs (.c I (.k [0,2,3,4,5,6,7] G (.c J (.c kb_1 (.c m0 (.c i (.c j (.c cl .nil)))))))))))))
   ·have A:((l:Int)==((4:Nat):Int))=false:=by simp only [decide_eq_true_eq,decide_eq_false_iff_not,beq_iff_eq,Yq2] at*;omega
    have o:((l:Int)==((5:Nat):Int))=false:=by simp only [decide_eq_true_eq,decide_eq_false_iff_not,beq_iff_eq,Yq2] at*;omega
    exact dQ true false u t n1 n2 n qs D K v H (pK [0,2,1030,1031,1033,1037,1038] 9 1 (.k 7 (au o) (.k 1 (au A) (.k 3 (au z1) (.k 10 (au F) (.k 21 (ak M) (.n 2 .nil)))))) (.c k (.c e (.k [0,2,3,5,9,10,11] B (.c cs (.c I (.k [0,2,3,4,5,6,7] G (.c J (.c kb_1 (.c m0 (.c i (.c j (.c cl .nil)))))))))))))
  | true=>
   rcases tf (decide (((1:Nat):Int)≤(l:Int))) with z1|z1
   ·rcases tf (decide ((l:Int)≤((3:Nat):Int))) with z3|z3
    ·rcases tf V with fa1|fa1
     ·rcases tf X with fb1|fb1
      ·have A:((l:Int)==((4:Nat):Int))=false:=by simp only [decide_eq_true_eq,decide_eq_false_iff_not,beq_iff_eq,Yq2] at*;omega
       have o:((l:Int)==((5:Nat):Int))=false:=by simp only [decide_eq_true_eq,decide_eq_false_iff_not,beq_iff_eq,Yq2] at*;omega
       obtain ⟨R,U,v0,S,t0,s0⟩:=OQ P O (gK true) (gV true u t n1 n2) 3 2 n l ia ib V X k3 qs (by omega) D (W fa1) v H;have g30:bD prog ap [] 239 (eQ 30 (ae f36)) _ .normal _:=s0;obtain ⟨q2,kc2,Z,Y,t1,s1⟩:=OT P O (gK true) (gV true u t n1 n2) 3 2 n l ia ib V X U R (by omega) v0 (hib fb1) v S;have g31:bD prog ap [] 239 (eQ 31 (ae f36)) _ .normal _:=s1;exact dQ true true u t n1 n2 n q2 Z K v Y (pK [0,2,1030,1031,1033,1037,1038] 9 63 (.k 7 (au o) (.k 1 (au A) (.c (ak fb1) (.c (ak fa1) (.c (ak z3) (.c (ak z1) (.k 18 (ak F) (.k 21 (ak M) (.n 2 .nil))))))))) (.k [2,3,5,9,12,13,14,15] g31 (.k [2,3,5,9,12,13,14,15] g30 (.c k (.c e (.k [0,2,3,5,9,10,11] B (.c cs (.c I (.k [0,2,3,4,5,6,7] G (.c kb_2 (.c J (.c kb_1 (.c m0 (.c i (.c j (.c cl .nil))))))))))))))))
      ·have A:((l:Int)==((4:Nat):Int))=false:=by simp only [decide_eq_true_eq,decide_eq_false_iff_not,beq_iff_eq,Yq2] at*;omega
       have o:((l:Int)==((5:Nat):Int))=false:=by simp only [decide_eq_true_eq,decide_eq_false_iff_not,beq_iff_eq,Yq2] at*;omega
       exact dQ true true u t n1 n2 n qs D K v H (pK [0,2,1030,1031,1033,1037,1038] 9 31 (.k 7 (au o) (.k 1 (au A) (.c (au fb1) (.c (ak fa1) (.c (ak z3) (.c (ak z1) (.k 18 (ak F) (.k 21 (ak M) (.n 2 .nil))))))))) (.c k (.c e (.k [0,2,3,5,9,10,11] B (.c cs (.c I (.k [0,2,3,4,5,6,7] G (.c kb_2 (.c J (.c kb_1 (.c m0 (.c i (.c j (.c cl .nil))))))))))))))
     ·have A:((l:Int)==((4:Nat):Int))=false:=by simp only [decide_eq_true_eq,decide_eq_false_iff_not,beq_iff_eq,Yq2] at*;omega
      have o:((l:Int)==((5:Nat):Int))=false:=by simp only [decide_eq_true_eq,decide_eq_false_iff_not,beq_iff_eq,Yq2] at*;omega
      exact dQ true true u t n1 n2 n qs D K v H (pK [0,2,1030,1031,1033,1037,1038] 9 15 (.k 7 (au o) (.k 1 (au A) (.k 1 (au fa1) (.c (ak z3) (.c (ak z1) (.k 18 (ak F) (.k 21 (ak M) (.n 2 .nil)))))))) (.c k (.c e (.k [0,2,3,5,9,10,11] B (.c cs (.c I (.k [0,2,3,4,5,6,7] G (.c kb_2 (.c J (.c kb_1 (.c m0 (.c i (.c j (.c cl .nil))))))))))))))
    ·rcases tf ((l:Int)==((4:Nat):Int)) with A|A
     ·rcases tf V with fa1|fa1
      ·have o:((l:Int)==((5:Nat):Int))=false:=by simp only [decide_eq_true_eq,decide_eq_false_iff_not,beq_iff_eq,Yq2] at*;omega
       obtain ⟨R,U,v0,S,t0,s0⟩:=OU P O (gK true) (gV true u t n1 n2) 3 2 n l ia ib V X k3 qs (by omega) D (W fa1) v H;have g33:bD prog ap [] 239 (eQ 33 (ae f36)) _ .normal _:=s0;exact dQ true true u t n1 n2 n R v0 K v S (pK [0,2,1030,1031,1033,1037,1038] 9 199 (.k 7 (au o) (.c (ak fa1) (.c (ak A) (.k 2 (au z3) (.c (ak z1) (.k 18 (ak F) (.k 21 (ak M) (.n 2 .nil)))))))) (.k [2,3,5,9,12,13,14,15] g33 (.c k (.c e (.k [0,2,3,5,9,10,11] B (.c cs (.c I (.k [0,2,3,4,5,6,7] G (.c kb_2 (.c J (.c kb_1 (.c m0 (.c i (.c j (.c cl .nil)))))))))))))))
      ·have o:((l:Int)==((5:Nat):Int))=false:=by simp only [decide_eq_true_eq,decide_eq_false_iff_not,beq_iff_eq,Yq2] at*;omega
       exact dQ true true u t n1 n2 n qs D K v H (pK [0,2,1030,1031,1033,1037,1038] 9 71 (.k 7 (au o) (.c (au fa1) (.c (ak A) (.k 2 (au z3) (.c (ak z1) (.k 18 (ak F) (.k 21 (ak M) (.n 2 .nil)))))))) (.c k (.c e (.k [0,2,3,5,9,10,11] B (.c cs (.c I (.k [0,2,3,4,5,6,7] G (.c kb_2 (.c J (.c kb_1 (.c m0 (.c i (.c j (.c cl .nil))))))))))))))
     ·rcases tf ((l:Int)==((5:Nat):Int)) with o|o
      ·obtain ⟨N,k4,C,hk4,m3⟩:=aT P O k3 n (by omega) (by omega) (by omega);obtain ⟨pp,px,pr,hs,hi⟩:=gW qs N (by omega);have hA:=fV (f:=iY) (m:=12) (fun _=>rfl) pp pr px N 1 hi (by decide);rw [← hs] at hA;change θ _ (dJ qs)=_ at hA;have T:(chk .bool (Xqo (θ ((((0+(γ (N:Int)))*12)+1)+0) (dJ qs)) .dead))=true:=by rw [Xqt,hA];rfl
       rcases tf (AV.toBool (Xqo (θ ((((0+(γ (N:Int)))*12)+1)+0) (dJ qs)) .dead)) with zT|zT
       ·exact dQ true true u t n1 n2 n qs D K v H (pK [0,2,1030,1031,1033,1037,1038] 10 263 (.k 7 (dV zT) (.c T (.c (k0 N) (.c (kl C) (.k 2 (ak o) (.k 1 (au A) (.k 2 (au z3) (.c (ak z1) (.k 18 (ak F) (.k 21 (ak M) (.n 2 .nil))))))))))) (.c m3 (.c k (.c e (.k [0,2,3,5,9,10,11] B (.c cs (.c I (.k [0,2,3,4,5,6,7] G (.c kb_2 (.c J (.c kb_1 (.c m0 (.c i (.c j (.c cl .nil)))))))))))))))
       ·obtain ⟨R,kd1,v0,S,t0,s0⟩:=OV P O (gK true) (gV true u t n1 n2) 3 2 n N k4 qs (by omega) D C v H;have g37:bD prog ap [] 239 (eQ 37 (ae f36)) _ .normal _:=s0;obtain ⟨q2,kd2,Z,Y,t1,s1⟩:=OW P O (gK true) (gV true u t n1 n2) 3 2 n N kd1 R (by omega) v0 C v S;have g38:bD prog ap [] 239 (eQ 38 (ae f36)) _ .normal _:=s1;exact dQ true true u t n1 n2 n q2 Z K v Y (pK [0,2,1030,1031,1033,1037,1038] 10 775 (.k 7 (fZ zT) (.c T (.c (k0 N) (.c (kl C) (.k 2 (ak o) (.k 1 (au A) (.k 2 (au z3) (.c (ak z1) (.k 18 (ak F) (.k 21 (ak M) (.n 2 .nil))))))))))) (.k [2,3,5,16] g38 (.k [2,3,5,16] g37 (.c m3 (.c k (.c e (.k [0,2,3,5,9,10,11] B (.c cs (.c I (.k [0,2,3,4,5,6,7] G (.c kb_2 (.c J (.c kb_1 (.c m0 (.c i (.c j (.c cl .nil)))))))))))))))))
      ·exact dQ true true u t n1 n2 n qs D K v H (pK [0,2,1030,1031,1033,1037,1038] 9 7 (.k 7 (au o) (.k 1 (au A) (.k 2 (au z3) (.c (ak z1) (.k 18 (ak F) (.k 21 (ak M) (.n 2 .nil))))))) (.c k (.c e (.k [0,2,3,5,9,10,11] B (.c cs (.c I (.k [0,2,3,4,5,6,7] G (.c kb_2 (.c J (.c kb_1 (.c m0 (.c i (.c j (.c cl .nil))))))))))))))
   ·have A:((l:Int)==((4:Nat):Int))=false:=by simp only [decide_eq_true_eq,decide_eq_false_iff_not,beq_iff_eq,Yq2] at*;omega
    have o:((l:Int)==((5:Nat):Int))=false:=by simp only [decide_eq_true_eq,decide_eq_false_iff_not,beq_iff_eq,Yq2] at*;omega
    exact dQ true true u t n1 n2 n qs D K v H (pK [0,2,1030,1031,1033,1037,1038] 9 3 (.k 7 (au o) (.k 1 (au A) (.k 3 (au z1) (.k 18 (ak F) (.k 21 (ak M) (.n 2 .nil)))))) (.c k (.c e (.k [0,2,3,5,9,10,11] B (.c cs (.c I (.k [0,2,3,4,5,6,7] G (.c kb_2 (.c J (.c kb_1 (.c m0 (.c i (.c j (.c cl .nil))))))))))))))
theorem rz (b v n:Nat):AV.ref b v 0 (0+n)= .ref b v 0 n:=by rw [Φ]
theorem KQ {a b:Nat} (h:a=b):Δ a b=true:=by rw [h];exact Nat.beq_refl b
theorem TC (a:Int):∃ t,CO 87 [ω a] (.ret (.agg (FY t))):=by
 obtain ⟨r,e,hm⟩:=lC a 5 (by omega) (by omega)
 match r,e,hm with
 |0,_,hm=>exact ⟨tM,cD [86] (.c hm .nil)⟩
 |1,_,hm=>exact ⟨tD,cD [86] (.c hm .nil)⟩
 |2,_,hm=>exact ⟨tP,cD [86] (.c hm .nil)⟩
 |3,_,hm=>exact ⟨tT,cD [86] (.c hm .nil)⟩
 |4,_,hm=>exact ⟨⟨false,1, -1⟩,cD [86] (.c hm .nil)⟩
def LwB (L:Lw):Prop:=L.ps.length≤6∧∀ p ∈ L.ps,Dj p
theorem wP {args:List AV} {F S:List AV} {fN sN n:Nat} (e:List Pv) (i:e.length=n) (k:n≤6) (j:∀ z ∈ e,Dj z) (h:CO 37 args (.ret (.agg [.sl F fN true,.sl S sN true,.sl (ξ (n*12) (bJ e)) n true]))):∃ L2,LwB L2∧CO 37 args (.ret (.agg (L2.c true true true))):=by
 rw [τ (by rw [show (bJ e).length=e.length*12 from eX (f:=xn) (n:=12) (fun _=>rfl) e,i];exact ε _),← i] at h;exact ⟨⟨F,fN,S,sN,e⟩,⟨by show e.length≤6;omega,j⟩,h⟩
theorem akg (a:Int) (n:Nat) (h:0<n): -(n:Int)<Xq2 a n∧Xq2 a n<n:=by
 have f:=Xjf a (b:=(n:Int)) (by omega);have e:=Xjf (-a) (b:=(n:Int)) (by omega);rw [Int.neg_tmod] at e;omega
theorem P7 (L:Lw) (hL:aaE L) (a b c:Bool) (q0 q1 P:Int):∃ L2,LwB L2∧CO 37 [.agg (L.c a b c),.agg [ω q0,ω q1,ω P]] (.ret (.agg (L2.c true true true))):=by
 obtain ⟨p1,p6,ok,f1,f3,fl,s1,s2,sl⟩:=hL;obtain ⟨e,hia,m0⟩:=lC q1 L.ps.length (by omega) (by omega);obtain ⟨p,hiF,Y⟩:=lC q1 L.fn (by omega) (by omega);obtain ⟨R,hiS,W⟩:=lC q1 L.sn (by omega) (by omega);obtain ⟨im,him,X⟩:=lC P 8 (by omega) (by omega);obtain ⟨kd,hkd,D⟩:=lC q0 14 (by omega) (by omega);obtain ⟨pp,x,M,hs,hi⟩:=gW L.ps e hia;have o:(bJ L.ps).length=L.ps.length*12:=eX (f:=xn) (n:=12) (fun _=>rfl) L.ps;have hA0:=fV (f:=xn) (m:=12) (fun _=>rfl) pp M x e 0 hi (by decide);have hD:=fV (f:=xn) (m:=12) (fun _=>rfl) pp M x e 12 hi (by decide);have hE:=pU (f:=xn) (m:=12) (fun _=>rfl) pp M x e 0 hi (by decide);rw [← hs] at hA0 hD hE;rw [Xqt] at hA0 hE;have K:θ ((0+(γ (e:Int)))*12) (bJ L.ps)=xn x++bJ M:=hA0;have hx:Dj x:=ok x (by rw [hs];simp);have ew:δ .i64 ((e:Int)+((1:Nat):Int))=((e+1:Nat):Int):=by rw [dZ]<;>omega
 have N:δ .i64 ((p:Int)+((1:Nat):Int))=((p+1:Nat):Int):=by rw [dZ]<;>omega
 have Z:∀ z:Pv,ξ ((0+(γ (e:Int)))*12) (bJ L.ps)++xn z++θ (((0+(γ (e:Int)))*12)+12) (bJ L.ps)=bJ (pp++z::M):=fun z=>by
  unfold bJ at*
  rw [hE,hD,Xqn,Xqg,Ξ,Ξ];rfl
 have O:∀ z:Pv,(pp++z::M).length=L.ps.length:=fun z=>by rw [hs];simp
 obtain ⟨T,t⟩:∃ v,(.str (AV.toStr (Xqo (θ ((γ (im:Int))*1) [.str [98,97,115,101],.str [97,103,101],.str [98,97,115,105,99],.str [111,116,104,101,114],.str [],.str [84,97,120],.str [116,97,120],.str [122,122,122,122,122,122,122,122,122,122,122,122,122,122,122,122,122,122,122,122,122]]) .dead)):AV)= .str v:=⟨_,rfl⟩
 have I:(decide (((0:Nat):Int)≤(im:Int)))=true:=(Yq0 (by omega))
 have J:(decide ((im:Int)<((8:Nat):Int)))=true:=(Yq0 (by omega))
 have A:(chk .str (Xqo (θ ((γ (im:Int))*1) [.str [98,97,115,101],.str [97,103,101],.str [98,97,115,105,99],.str [111,116,104,101,114],.str [],.str [84,97,120],.str [116,97,120],.str [122,122,122,122,122,122,122,122,122,122,122,122,122,122,122,122,122,122,122,122,122]]) .dead))=true:=(by rcases (show im=0∨im=1∨im=2∨im=3∨im=4∨im=5∨im=6∨im=7 by omega) with rfl|rfl|rfl|rfl|rfl|rfl|rfl|rfl<;>rfl)
 have k:(decide (((0:Nat):Int)≤(e:Int)))=true:=(Yq0 (by omega))
 have l:(decide ((e:Int)<(L.ps.length:Int)))=true:=(Yq0 (by omega))
 have u:(Δ (ν (bJ L.ps)) (L.ps.length*12))=true:=(KQ o)
 have B:(Xqc (0+L.ps.length) 549755813888)=true:=(dA (by omega))
 have H:(Δ (ν L.sx) (L.sn*4))=true:=(KQ sl)
 have G:(Xqc (0+L.sn) 1099511627776)=true:=(dA (by omega))
 have C:(Δ (ν L.fx) (L.fn*4))=true:=(KQ fl)
 have j:(Xqc (0+L.fn) 1099511627776)=true:=(dA (by omega))
 match kd,hkd,D with
 | 0,_,D=>
  have hb1:((ξ (e*12) (bJ pp))++(ξ (((γ (L.ps.length:Int)) - (γ (δ .i64 ((e:Int)+((1:Nat):Int)))))*12) (θ ((0+(γ (δ .i64 ((e:Int)+((1:Nat):Int)))))*12) (bJ L.ps))))=(bJ (pp++M)):=by
   rw [ew,aS,aS,show (0+(e+1))*12=((0+(γ (e:Int)))*12)+12 by rw [aS];omega];unfold bJ at*
   rw [hD,τ (by rw [eX (f:=xn) (n:=12) (fun _=>rfl) pp];omega),Xqn,Xzm (show (xn x).length≤12 from ε _),μ,τ (by rw [eX (f:=xn) (n:=12) (fun _=>rfl) M];rw [hs] at*;simp at*;omega)]
  have hr1:(.ref 7 2 0 (e+((γ (L.ps.length:Int)) - (γ (δ .i64 ((e:Int)+((1:Nat):Int)))))):AV)= .ref 7 2 0 (L.ps.length - 1):=by rw [ew,aS,aS];congr 1;omega
  have hb0:([]++(ξ (((γ (e:Int)) - 0)*12) (bJ L.ps)))=(bJ pp):=by
   rw [μ,show ((γ (e:Int)) - 0)*12=(0+(γ (e:Int)))*12 by omega];unfold bJ at*
   rw [hE,Xj9,υ]
  have hr0:(.ref 7 1 0 (0+((γ (e:Int)) - 0)):AV)= .ref 7 1 0 e:=by simp [γ]
  have i:(Δ (ν (ξ (((γ (L.ps.length:Int)) - (γ (δ .i64 ((e:Int)+((1:Nat):Int)))))*12) (θ ((0+(γ (δ .i64 ((e:Int)+((1:Nat):Int)))))*12) (bJ L.ps)))) (((γ (L.ps.length:Int)) - (γ (δ .i64 ((e:Int)+((1:Nat):Int)))))*12))=true:=(KQ (by simp only [ew,N,aS,Xqm,Xxl,o,fl];omega))
  have q:(Xqc (e+((γ (L.ps.length:Int)) - (γ (δ .i64 ((e:Int)+((1:Nat):Int)))))) 549755813888)=true:=(dA (by simp only [ew,N,aS];omega))
  have r:(Xqc (e*12) (ν (bJ pp)))=true:=(dA (by rw [show (bJ pp).length=pp.length*12 from eX (f:=xn) (n:=12) (fun _=>rfl) pp];omega))
  have ob3:(decide (((0:Nat):Int)≤(δ .i64 ((e:Int)+((1:Nat):Int)))))=true:=(by rw [ew];exact Yq0 (by omega))
  have ob4:(decide ((δ .i64 ((e:Int)+((1:Nat):Int)))≤(L.ps.length:Int)))=true:=(by rw [ew];exact Yq0 (by omega))
  have ob5:(decide ((L.ps.length:Int)≤(L.ps.length:Int)))=true:=(Yq0 (by omega))
  have ob6:(Δ (ν (ξ (((γ (e:Int)) - 0)*12) (bJ L.ps))) (((γ (e:Int)) - 0)*12))=true:=(KQ (by simp only [ew,N,aS,Xqm,Xxl,o,fl];omega))
  have ob7:(Xqc (0+((γ (e:Int)) - 0)) 549755813888)=true:=(dA (by simp only [ew,N,aS];omega))
  have ob8:(decide ((e:Int)≤(L.ps.length:Int)))=true:=(Yq0 (by omega))
  exact wP (F:=(ξ (L.fn*4) L.fx)) (S:=(ξ (L.sn*4) L.sx)) (fN:=L.fn) (sN:=L.sn) (n:=L.ps.length - 1) (pp++M) (by rw [hs];simp) (by omega) (fun z hz=>ok z (by rw [hs];rcases List.mem_append.1 hz with h|h;exact Xw7 _ h;exact Xw2 _ (Xql _ h))) (pK [] 1 1 (.k 8 i (.c q (.c r (.k 1 ob3 (.c ob4 (.c ob5 (.k 1 ob6 (.c ob7 (.k 3 k (.c ob8 (.k 5 I (.c J (.c A (.n 4 (.a (bQ [.str,.bool,.int .i64,.int .i64,.sl,.bool,.bool,.str,.str,.bool,.str,.str] K rfl) (.c k (.c l (.k 14 u (.c B (.k 4 H (.c G (.k 4 C (.c j (.n 3 .nil)))))))))))))))))))))))) (.b 70 hb1 (.v 70 (.eq hr1) (.b 64 hb0 (.v 64 (.eq hr0) (.c D (.v 53 (.eq t) (.c X (.v 48 (.rd [.str,.bool,.int .i64,.int .i64,.sl,.bool,.bool,.str,.str,.bool,.str,.str] K rfl) (.c W (.c Y (.c m0 (.b 24 (μ (bJ L.ps)) (.v 24 (.eq (rz 5 1 L.ps.length)) (.b 19 (μ L.sx) (.v 19 (.eq (rz 4 1 L.sn)) (.b 14 (μ L.fx) (.v 14 (.eq (rz 3 1 L.fn)) .nil))))))))))))))))))
 |1,_,D=>
  have i:(Δ (ν (ξ (((γ (L.fn:Int)) - (γ (δ .i64 ((p:Int)+((1:Nat):Int)))))*4) (θ ((0+(γ (δ .i64 ((p:Int)+((1:Nat):Int)))))*4) L.fx))) (((γ (L.fn:Int)) - (γ (δ .i64 ((p:Int)+((1:Nat):Int)))))*4))=true:=(KQ (by simp only [ew,N,aS,Xqm,Xxl,o,fl];omega))
  have q:(Xqc ((0+((γ (p:Int)) - 0))+((γ (L.fn:Int)) - (γ (δ .i64 ((p:Int)+((1:Nat):Int)))))) 1099511627776)=true:=(dA (by simp only [ew,N,aS];omega))
  have r:(Xqc ((0+((γ (p:Int)) - 0))*4) (ν ([]++(ξ (((γ (p:Int)) - 0)*4) L.fx))))=true:=(dA (by simp only [μ,aS,Xqm,fl];omega))
  have ob3:(decide (((0:Nat):Int)≤(δ .i64 ((p:Int)+((1:Nat):Int)))))=true:=(by rw [N];exact Yq0 (by omega))
  have ob4:(decide ((δ .i64 ((p:Int)+((1:Nat):Int)))≤(L.fn:Int)))=true:=(by rw [N];exact Yq0 (by omega))
  have ob5:(decide ((L.fn:Int)≤(L.fn:Int)))=true:=(Yq0 (by omega))
  have ob6:(Δ (ν (ξ (((γ (p:Int)) - 0)*4) L.fx)) (((γ (p:Int)) - 0)*4))=true:=(KQ (by simp only [ew,N,aS,Xqm,Xxl,o,fl];omega))
  have ob7:(Xqc (0+((γ (p:Int)) - 0)) 1099511627776)=true:=(dA (by simp only [ew,N,aS];omega))
  have ob8:(decide (((0:Nat):Int)≤(p:Int)))=true:=(Yq0 (by omega))
  have ob9:(decide ((p:Int)≤(L.fn:Int)))=true:=(Yq0 (by omega))
  exact wP (F:=(ξ (((0+((γ (p:Int)) - 0))+((γ (L.fn:Int)) - (γ (δ .i64 ((p:Int)+((1:Nat):Int))))))*4) ((ξ ((0+((γ (p:Int)) - 0))*4) ([]++(ξ (((γ (p:Int)) - 0)*4) L.fx)))++(ξ (((γ (L.fn:Int)) - (γ (δ .i64 ((p:Int)+((1:Nat):Int)))))*4) (θ ((0+(γ (δ .i64 ((p:Int)+((1:Nat):Int)))))*4) L.fx))))) (S:=(ξ (L.sn*4) L.sx)) (fN:=((0+((γ (p:Int)) - 0))+((γ (L.fn:Int)) - (γ (δ .i64 ((p:Int)+((1:Nat):Int))))))) (sN:=L.sn) (n:=L.ps.length) L.ps rfl (by omega) ok (pK [] 2 2 (.k 8 i (.c q (.c r (.k 1 ob3 (.c ob4 (.c ob5 (.k 1 ob6 (.c ob7 (.k 3 ob8 (.c ob9 (.k 6 I (.c J (.c A (.n 4 (.a (bQ [.str,.bool,.int .i64,.int .i64,.sl,.bool,.bool,.str,.str,.bool,.str,.str] K rfl) (.c k (.c l (.k 14 u (.c B (.k 4 H (.c G (.k 4 C (.c j (.n 3 .nil)))))))))))))))))))))))) (.c D (.v 53 (.eq t) (.c X (.v 48 (.rd [.str,.bool,.int .i64,.int .i64,.sl,.bool,.bool,.str,.str,.bool,.str,.str] K rfl) (.c W (.c Y (.c m0 (.b 24 (μ (bJ L.ps)) (.v 24 (.eq (rz 5 1 L.ps.length)) (.b 19 (μ L.sx) (.v 19 (.eq (rz 4 1 L.sn)) (.b 14 (μ L.fx) (.v 14 (.eq (rz 3 1 L.fn)) .nil))))))))))))))
 |2,_,D=>
  have i:(Xqc (((0+(γ (e:Int)))*12)+12) (ν (bJ L.ps)))=true:=(dA (by rw [o,aS];omega))
  have hC:(ξ ((0+(γ (e:Int)))*12) (bJ L.ps)++ [.str T,.bool x.tr,ω x.tm,ω x.td,.sl (bV x.body) x.body.length false,.bool x.ch,.bool x.sn,.str x.sa,.str x.sd,.bool x.cn,.str x.ca,.str x.cd]++θ (((0+(γ (e:Int)))*12)+12) (bJ L.ps))=bJ (pp++(⟨T,x.tr,x.tm,x.td,x.body,x.ch,x.sn,x.sa,x.sd,x.cn,x.ca,x.cd⟩:Pv)::M):=Z ⟨T,x.tr,x.tm,x.td,x.body,x.ch,x.sn,x.sa,x.sd,x.cn,x.ca,x.cd⟩;have h:CO 37 [.agg (L.c a b c),.agg [ω q0,ω q1,ω P]] (.ret (.agg [.sl (ξ (L.fn*4) L.fx) L.fn true,.sl (ξ (L.sn*4) L.sx) L.sn true,.sl (ξ (L.ps.length*12) (ξ ((0+(γ (e:Int)))*12) (bJ L.ps)++ [.str T,.bool x.tr,ω x.tm,ω x.td,.sl (bV x.body) x.body.length false,.bool x.ch,.bool x.sn,.str x.sa,.str x.sd,.bool x.cn,.str x.ca,.str x.cd]++θ (((0+(γ (e:Int)))*12)+12) (bJ L.ps))) L.ps.length true])):=pK [] 3 4 (.k 7 i (.c k (.c l (.k 20 I (.c J (.c A (.n 4 (.a (bQ [.str,.bool,.int .i64,.int .i64,.sl,.bool,.bool,.str,.str,.bool,.str,.str] K rfl) (.c k (.c l (.k 14 u (.c B (.k 4 H (.c G (.k 4 C (.c j (.n 3 .nil))))))))))))))))) (.c D (.v 53 (.eq t) (.c X (.v 48 (.rd [.str,.bool,.int .i64,.int .i64,.sl,.bool,.bool,.str,.str,.bool,.str,.str] K rfl) (.c W (.c Y (.c m0 (.b 24 (μ (bJ L.ps)) (.v 24 (.eq (rz 5 1 L.ps.length)) (.b 19 (μ L.sx) (.v 19 (.eq (rz 4 1 L.sn)) (.b 14 (μ L.fx) (.v 14 (.eq (rz 3 1 L.fn)) .nil)))))))))))));rw [hC] at h;exact wP (pp++(⟨T,x.tr,x.tm,x.td,x.body,x.ch,x.sn,x.sa,x.sd,x.cn,x.ca,x.cd⟩:Pv)::M) (O _) (by omega) (kV (by rw [← hs];exact ok) hx) h
 |3,_,D=>
  have i:(Xqc ((((0+(γ (p:Int)))*4)+0)+1) (ν L.fx))=true:=(dA (by rw [aS];omega))
  have q:(decide (((0:Nat):Int)≤(p:Int)))=true:=(Yq0 (by omega))
  have r:(decide ((p:Int)<(L.fn:Int)))=true:=(Yq0 (by omega))
  exact wP (F:=(ξ (L.fn*4) (ξ (((0+(γ (p:Int)))*4)+0) L.fx++ [.str T]++θ ((((0+(γ (p:Int)))*4)+0)+1) L.fx))) (S:=(ξ (L.sn*4) L.sx)) (fN:=L.fn) (sN:=L.sn) (n:=L.ps.length) L.ps rfl (by omega) ok (pK [] 4 8 (.k 7 i (.c q (.c r (.k 8 I (.c J (.c A (.n 4 (.a (bQ [.str,.bool,.int .i64,.int .i64,.sl,.bool,.bool,.str,.str,.bool,.str,.str] K rfl) (.c k (.c l (.k 14 u (.c B (.k 4 H (.c G (.k 4 C (.c j (.n 3 .nil))))))))))))))))) (.c D (.v 53 (.eq t) (.c X (.v 48 (.rd [.str,.bool,.int .i64,.int .i64,.sl,.bool,.bool,.str,.str,.bool,.str,.str] K rfl) (.c W (.c Y (.c m0 (.b 24 (μ (bJ L.ps)) (.v 24 (.eq (rz 5 1 L.ps.length)) (.b 19 (μ L.sx) (.v 19 (.eq (rz 4 1 L.sn)) (.b 14 (μ L.fx) (.v 14 (.eq (rz 3 1 L.fn)) .nil))))))))))))))
 |4,_,D=>
  have i:(Xqc ((((0+(γ (R:Int)))*4)+0)+1) (ν L.sx))=true:=(dA (by rw [aS];omega))
  have q:(decide (((0:Nat):Int)≤(R:Int)))=true:=(Yq0 (by omega))
  have r:(decide ((R:Int)<(L.sn:Int)))=true:=(Yq0 (by omega))
  exact wP (F:=(ξ (L.fn*4) L.fx)) (S:=(ξ (L.sn*4) (ξ (((0+(γ (R:Int)))*4)+0) L.sx++ [.str T]++θ ((((0+(γ (R:Int)))*4)+0)+1) L.sx))) (fN:=L.fn) (sN:=L.sn) (n:=L.ps.length) L.ps rfl (by omega) ok (pK [] 5 16 (.k 7 i (.c q (.c r (.k 9 I (.c J (.c A (.n 4 (.a (bQ [.str,.bool,.int .i64,.int .i64,.sl,.bool,.bool,.str,.str,.bool,.str,.str] K rfl) (.c k (.c l (.k 14 u (.c B (.k 4 H (.c G (.k 4 C (.c j (.n 3 .nil))))))))))))))))) (.c D (.v 53 (.eq t) (.c X (.v 48 (.rd [.str,.bool,.int .i64,.int .i64,.sl,.bool,.bool,.str,.str,.bool,.str,.str] K rfl) (.c W (.c Y (.c m0 (.b 24 (μ (bJ L.ps)) (.v 24 (.eq (rz 5 1 L.ps.length)) (.b 19 (μ L.sx) (.v 19 (.eq (rz 4 1 L.sn)) (.b 14 (μ L.fx) (.v 14 (.eq (rz 3 1 L.fn)) .nil))))))))))))))
 |5,_,D=>
  obtain ⟨U,ck⟩:=TC P;have i:(Xqc (((0+(γ (e:Int)))*12)+12) (ν (bJ L.ps)))=true:=(dA (by rw [o,aS];omega))
  have hC:(ξ ((0+(γ (e:Int)))*12) (bJ L.ps)++ [.str x.nm,.bool U.tr,ω U.m,ω U.d,.sl (bV x.body) x.body.length false,.bool x.ch,.bool x.sn,.str x.sa,.str x.sd,.bool x.cn,.str x.ca,.str x.cd]++θ (((0+(γ (e:Int)))*12)+12) (bJ L.ps))=bJ (pp++(⟨x.nm,U.tr,U.m,U.d,x.body,x.ch,x.sn,x.sa,x.sd,x.cn,x.ca,x.cd⟩:Pv)::M):=Z ⟨x.nm,U.tr,U.m,U.d,x.body,x.ch,x.sn,x.sa,x.sd,x.cn,x.ca,x.cd⟩;have h:CO 37 [.agg (L.c a b c),.agg [ω q0,ω q1,ω P]] (.ret (.agg [.sl (ξ (L.fn*4) L.fx) L.fn true,.sl (ξ (L.sn*4) L.sx) L.sn true,.sl (ξ (L.ps.length*12) (ξ ((0+(γ (e:Int)))*12) (bJ L.ps)++ [.str x.nm,.bool U.tr,ω U.m,ω U.d,.sl (bV x.body) x.body.length false,.bool x.ch,.bool x.sn,.str x.sa,.str x.sd,.bool x.cn,.str x.ca,.str x.cd]++θ (((0+(γ (e:Int)))*12)+12) (bJ L.ps))) L.ps.length true])):=pK [] 6 32 (.k 7 i (.c k (.c l (.k 26 I (.c J (.c A (.n 4 (.a (bQ [.str,.bool,.int .i64,.int .i64,.sl,.bool,.bool,.str,.str,.bool,.str,.str] K rfl) (.c k (.c l (.k 14 u (.c B (.k 4 H (.c G (.k 4 C (.c j (.n 3 .nil))))))))))))))))) (.c ck (.c D (.v 53 (.eq t) (.c X (.v 48 (.rd [.str,.bool,.int .i64,.int .i64,.sl,.bool,.bool,.str,.str,.bool,.str,.str] K rfl) (.c W (.c Y (.c m0 (.b 24 (μ (bJ L.ps)) (.v 24 (.eq (rz 5 1 L.ps.length)) (.b 19 (μ L.sx) (.v 19 (.eq (rz 4 1 L.sn)) (.b 14 (μ L.fx) (.v 14 (.eq (rz 3 1 L.fn)) .nil))))))))))))));rw [hC] at h;exact wP (pp++(⟨x.nm,U.tr,U.m,U.d,x.body,x.ch,x.sn,x.sa,x.sd,x.cn,x.ca,x.cd⟩:Pv)::M) (O _) (by omega) (kV (by rw [← hs];exact ok) hx) h
 |6,_,D=>
  have i:(Xqc (((0+(γ (e:Int)))*12)+12) (ν (bJ L.ps)))=true:=(dA (by rw [o,aS];omega))
  have hC:(ξ ((0+(γ (e:Int)))*12) (bJ L.ps)++ [.str x.nm,.bool x.tr,ω x.tm,ω x.td,.sl (bV x.body) x.body.length false,.bool (!x.ch),.bool x.sn,.str x.sa,.str x.sd,.bool x.cn,.str x.ca,.str x.cd]++θ (((0+(γ (e:Int)))*12)+12) (bJ L.ps))=bJ (pp++(⟨x.nm,x.tr,x.tm,x.td,x.body, !x.ch,x.sn,x.sa,x.sd,x.cn,x.ca,x.cd⟩:Pv)::M):=Z ⟨x.nm,x.tr,x.tm,x.td,x.body, !x.ch,x.sn,x.sa,x.sd,x.cn,x.ca,x.cd⟩;have h:CO 37 [.agg (L.c a b c),.agg [ω q0,ω q1,ω P]] (.ret (.agg [.sl (ξ (L.fn*4) L.fx) L.fn true,.sl (ξ (L.sn*4) L.sx) L.sn true,.sl (ξ (L.ps.length*12) (ξ ((0+(γ (e:Int)))*12) (bJ L.ps)++ [.str x.nm,.bool x.tr,ω x.tm,ω x.td,.sl (bV x.body) x.body.length false,.bool (!x.ch),.bool x.sn,.str x.sa,.str x.sd,.bool x.cn,.str x.ca,.str x.cd]++θ (((0+(γ (e:Int)))*12)+12) (bJ L.ps))) L.ps.length true])):=pK [] 7 64 (.k 7 i (.c k (.c l (.k 25 I (.c J (.c A (.n 4 (.a (bQ [.str,.bool,.int .i64,.int .i64,.sl,.bool,.bool,.str,.str,.bool,.str,.str] K rfl) (.c k (.c l (.k 14 u (.c B (.k 4 H (.c G (.k 4 C (.c j (.n 3 .nil))))))))))))))))) (.c D (.v 53 (.eq t) (.c X (.v 48 (.rd [.str,.bool,.int .i64,.int .i64,.sl,.bool,.bool,.str,.str,.bool,.str,.str] K rfl) (.c W (.c Y (.c m0 (.b 24 (μ (bJ L.ps)) (.v 24 (.eq (rz 5 1 L.ps.length)) (.b 19 (μ L.sx) (.v 19 (.eq (rz 4 1 L.sn)) (.b 14 (μ L.fx) (.v 14 (.eq (rz 3 1 L.fn)) .nil)))))))))))));rw [hC] at h;exact wP (pp++(⟨x.nm,x.tr,x.tm,x.td,x.body, !x.ch,x.sn,x.sa,x.sd,x.cn,x.ca,x.cd⟩:Pv)::M) (O _) (by omega) (kV (by rw [← hs];exact ok) hx) h
 |7,_,D=>
  have ht:=akg P 7 (by omega);obtain ⟨w0,_,_,_,fr0⟩:=fH (Xq2 P ((7:Nat):Int)) 2 (by omega) (by omega) (by omega) (by omega);have i:(Xqc (((0+(γ (e:Int)))*12)+12) (ν (bJ L.ps)))=true:=(dA (by rw [o,aS];omega))
  have hC:(ξ ((0+(γ (e:Int)))*12) (bJ L.ps)++ [.str x.nm,.bool x.tr,ω x.tm,ω x.td,.sl (bV x.body) x.body.length false,.bool x.ch,.bool w0.neg,.str (ai w0.n),.str (ai w0.d),.bool x.cn,.str x.ca,.str x.cd]++θ (((0+(γ (e:Int)))*12)+12) (bJ L.ps))=bJ (pp++(⟨x.nm,x.tr,x.tm,x.td,x.body,x.ch,w0.neg,ai w0.n,ai w0.d,x.cn,x.ca,x.cd⟩:Pv)::M):=Z ⟨x.nm,x.tr,x.tm,x.td,x.body,x.ch,w0.neg,ai w0.n,ai w0.d,x.cn,x.ca,x.cd⟩;have h:CO 37 [.agg (L.c a b c),.agg [ω q0,ω q1,ω P]] (.ret (.agg [.sl (ξ (L.fn*4) L.fx) L.fn true,.sl (ξ (L.sn*4) L.sx) L.sn true,.sl (ξ (L.ps.length*12) (ξ ((0+(γ (e:Int)))*12) (bJ L.ps)++ [.str x.nm,.bool x.tr,ω x.tm,ω x.td,.sl (bV x.body) x.body.length false,.bool x.ch,.bool w0.neg,.str (ai w0.n),.str (ai w0.d),.bool x.cn,.str x.ca,.str x.cd]++θ (((0+(γ (e:Int)))*12)+12) (bJ L.ps))) L.ps.length true])):=pK [] 8 128 (.k 7 i (.c k (.c l (.k 29 I (.c J (.c A (.n 4 (.a (bQ [.str,.bool,.int .i64,.int .i64,.sl,.bool,.bool,.str,.str,.bool,.str,.str] K rfl) (.c k (.c l (.k 14 u (.c B (.k 4 H (.c G (.k 4 C (.c j (.n 3 .nil))))))))))))))))) (.c fr0 (.c D (.v 53 (.eq t) (.c X (.v 48 (.rd [.str,.bool,.int .i64,.int .i64,.sl,.bool,.bool,.str,.str,.bool,.str,.str] K rfl) (.c W (.c Y (.c m0 (.b 24 (μ (bJ L.ps)) (.v 24 (.eq (rz 5 1 L.ps.length)) (.b 19 (μ L.sx) (.v 19 (.eq (rz 4 1 L.sn)) (.b 14 (μ L.fx) (.v 14 (.eq (rz 3 1 L.fn)) .nil))))))))))))));rw [hC] at h;exact wP (pp++(⟨x.nm,x.tr,x.tm,x.td,x.body,x.ch,w0.neg,ai w0.n,ai w0.d,x.cn,x.ca,x.cd⟩:Pv)::M) (O _) (by omega) (kV (by rw [← hs];exact ok) hx) h
 |8,_,D=>
  obtain ⟨V,hik,m5⟩:=lC P 420 (by omega) (by omega);obtain ⟨w0,_,_,_,fr0⟩:=fH 1 2 (by omega) (by omega) (by omega) (by omega);obtain ⟨w1,_,_,_,fr1⟩:=fH (V:Int) 4 (by omega) (by omega) (by omega) (by omega);have i:(Xqc (((0+(γ (e:Int)))*12)+12) (ν (bJ L.ps)))=true:=(dA (by rw [o,aS];omega))
  have hC:(ξ ((0+(γ (e:Int)))*12) (bJ L.ps)++ [.str x.nm,.bool x.tr,ω x.tm,ω x.td,.sl (bV x.body) x.body.length false,.bool x.ch,.bool w0.neg,.str (ai w0.n),.str (ai w0.d),.bool w1.neg,.str (ai w1.n),.str (ai w1.d)]++θ (((0+(γ (e:Int)))*12)+12) (bJ L.ps))=bJ (pp++(⟨x.nm,x.tr,x.tm,x.td,x.body,x.ch,w0.neg,ai w0.n,ai w0.d,w1.neg,ai w1.n,ai w1.d⟩:Pv)::M):=Z ⟨x.nm,x.tr,x.tm,x.td,x.body,x.ch,w0.neg,ai w0.n,ai w0.d,w1.neg,ai w1.n,ai w1.d⟩;have h:CO 37 [.agg (L.c a b c),.agg [ω q0,ω q1,ω P]] (.ret (.agg [.sl (ξ (L.fn*4) L.fx) L.fn true,.sl (ξ (L.sn*4) L.sx) L.sn true,.sl (ξ (L.ps.length*12) (ξ ((0+(γ (e:Int)))*12) (bJ L.ps)++ [.str x.nm,.bool x.tr,ω x.tm,ω x.td,.sl (bV x.body) x.body.length false,.bool x.ch,.bool w0.neg,.str (ai w0.n),.str (ai w0.d),.bool w1.neg,.str (ai w1.n),.str (ai w1.d)]++θ (((0+(γ (e:Int)))*12)+12) (bJ L.ps))) L.ps.length true])):=pK [] 9 256 (.k 7 i (.c k (.c l (.k 30 I (.c J (.c A (.n 4 (.a (bQ [.str,.bool,.int .i64,.int .i64,.sl,.bool,.bool,.str,.str,.bool,.str,.str] K rfl) (.c k (.c l (.k 14 u (.c B (.k 4 H (.c G (.k 4 C (.c j (.n 3 .nil))))))))))))))))) (.c fr1 (.c m5 (.c fr0 (.c D (.v 53 (.eq t) (.c X (.v 48 (.rd [.str,.bool,.int .i64,.int .i64,.sl,.bool,.bool,.str,.str,.bool,.str,.str] K rfl) (.c W (.c Y (.c m0 (.b 24 (μ (bJ L.ps)) (.v 24 (.eq (rz 5 1 L.ps.length)) (.b 19 (μ L.sx) (.v 19 (.eq (rz 4 1 L.sn)) (.b 14 (μ L.fx) (.v 14 (.eq (rz 3 1 L.fn)) .nil))))))))))))))));rw [hC] at h;exact wP (pp++(⟨x.nm,x.tr,x.tm,x.td,x.body,x.ch,w0.neg,ai w0.n,ai w0.d,w1.neg,ai w1.n,ai w1.d⟩:Pv)::M) (O _) (by omega) (kV (by rw [← hs];exact ok) hx) h
 |9,_,D=>
  have i:(Xqc ((((0+(γ (p:Int)))*4)+1)+3) (ν L.fx))=true:=(dA (by rw [aS];omega))
  have q:(decide (((0:Nat):Int)≤(p:Int)))=true:=(Yq0 (by omega))
  have r:(decide ((p:Int)<(L.fn:Int)))=true:=(Yq0 (by omega))
  exact wP (F:=(ξ (L.fn*4) (ξ (((0+(γ (p:Int)))*4)+1) L.fx++ [.bool ((Xq2 P ((2:Nat):Int))==((0:Nat):Int)),ω (Xq2 P ((5:Nat):Int)),ω (Xq2 q1 ((5:Nat):Int))]++θ ((((0+(γ (p:Int)))*4)+1)+3) L.fx))) (S:=(ξ (L.sn*4) L.sx)) (fN:=L.fn) (sN:=L.sn) (n:=L.ps.length) L.ps rfl (by omega) ok (pK [] 10 512 (.k 7 i (.c q (.c r (.k 26 I (.c J (.c A (.n 4 (.a (bQ [.str,.bool,.int .i64,.int .i64,.sl,.bool,.bool,.str,.str,.bool,.str,.str] K rfl) (.c k (.c l (.k 14 u (.c B (.k 4 H (.c G (.k 4 C (.c j (.n 3 .nil))))))))))))))))) (.c D (.v 53 (.eq t) (.c X (.v 48 (.rd [.str,.bool,.int .i64,.int .i64,.sl,.bool,.bool,.str,.str,.bool,.str,.str] K rfl) (.c W (.c Y (.c m0 (.b 24 (μ (bJ L.ps)) (.v 24 (.eq (rz 5 1 L.ps.length)) (.b 19 (μ L.sx) (.v 19 (.eq (rz 4 1 L.sn)) (.b 14 (μ L.fx) (.v 14 (.eq (rz 3 1 L.fn)) .nil))))))))))))))
 |10,_,D=>
  have i:(Xqc ((((0+(γ (R:Int)))*4)+1)+2) (ν L.sx))=true:=(dA (by rw [aS];omega))
  have q:(decide (((0:Nat):Int)≤(R:Int)))=true:=(Yq0 (by omega))
  have r:(decide ((R:Int)<(L.sn:Int)))=true:=(Yq0 (by omega))
  exact wP (F:=(ξ (L.fn*4) L.fx)) (S:=(ξ (L.sn*4) (ξ (((0+(γ (R:Int)))*4)+1) L.sx++ [ω (Xq2 P ((5:Nat):Int)),ω (Xq2 q1 ((5:Nat):Int))]++θ ((((0+(γ (R:Int)))*4)+1)+2) L.sx))) (fN:=L.fn) (sN:=L.sn) (n:=L.ps.length) L.ps rfl (by omega) ok (pK [] 11 1024 (.k 7 i (.c q (.c r (.k 23 I (.c J (.c A (.n 4 (.a (bQ [.str,.bool,.int .i64,.int .i64,.sl,.bool,.bool,.str,.str,.bool,.str,.str] K rfl) (.c k (.c l (.k 14 u (.c B (.k 4 H (.c G (.k 4 C (.c j (.n 3 .nil))))))))))))))))) (.c D (.v 53 (.eq t) (.c X (.v 48 (.rd [.str,.bool,.int .i64,.int .i64,.sl,.bool,.bool,.str,.str,.bool,.str,.str] K rfl) (.c W (.c Y (.c m0 (.b 24 (μ (bJ L.ps)) (.v 24 (.eq (rz 5 1 L.ps.length)) (.b 19 (μ L.sx) (.v 19 (.eq (rz 4 1 L.sn)) (.b 14 (μ L.fx) (.v 14 (.eq (rz 3 1 L.fn)) .nil))))))))))))))
 |11,_,D=>
  have i:(Xqc ((((0+(γ (R:Int)))*4)+3)+1) (ν L.sx))=true:=(dA (by rw [aS];omega))
  have q:(decide (((0:Nat):Int)≤(R:Int)))=true:=(Yq0 (by omega))
  have r:(decide ((R:Int)<(L.sn:Int)))=true:=(Yq0 (by omega))
  exact wP (F:=(ξ (L.fn*4) L.fx)) (S:=(ξ (L.sn*4) (ξ (((0+(γ (R:Int)))*4)+3) L.sx++ [.nilS]++θ ((((0+(γ (R:Int)))*4)+3)+1) L.sx))) (fN:=L.fn) (sN:=L.sn) (n:=L.ps.length) L.ps rfl (by omega) ok (pK [] 12 2048 (.k 7 i (.c q (.c r (.k 16 I (.c J (.c A (.n 4 (.a (bQ [.str,.bool,.int .i64,.int .i64,.sl,.bool,.bool,.str,.str,.bool,.str,.str] K rfl) (.c k (.c l (.k 14 u (.c B (.k 4 H (.c G (.k 4 C (.c j (.n 3 .nil))))))))))))))))) (.c D (.v 53 (.eq t) (.c X (.v 48 (.rd [.str,.bool,.int .i64,.int .i64,.sl,.bool,.bool,.str,.str,.bool,.str,.str] K rfl) (.c W (.c Y (.c m0 (.b 24 (μ (bJ L.ps)) (.v 24 (.eq (rz 5 1 L.ps.length)) (.b 19 (μ L.sx) (.v 19 (.eq (rz 4 1 L.sn)) (.b 14 (μ L.fx) (.v 14 (.eq (rz 3 1 L.fn)) .nil))))))))))))))
 | 12,_,D=>
  obtain ⟨V,hik,m5⟩:=lC P L.ps.length (by omega) (by omega);obtain ⟨py,y,ry,hsy,hiy⟩:=gW L.ps V hik;have hY0:=fV (f:=xn) (m:=12) (fun _=>rfl) py ry y V 0 hiy (by decide);rw [← hsy,Xqt] at hY0;have hY:θ ((0+(γ (V:Int)))*12) (bJ L.ps)=xn y++bJ ry:=hY0;have hy:Dj y:=ok y (by rw [hsy];simp);obtain ⟨p2,y2,r2,hs2,hi2⟩:=gW (pp++y::M) V (by rw [O];omega);have hD2:=fV (f:=xn) (m:=12) (fun _=>rfl) p2 r2 y2 V 12 hi2 (by decide);have hE2:=pU (f:=xn) (m:=12) (fun _=>rfl) p2 r2 y2 V 0 hi2 (by decide);rw [← hs2] at hD2 hE2;rw [Xqt] at hE2;have h12:=Z y;unfold xn at h12;have hlen2:(bJ (pp++y::M)).length=L.ps.length*12:=by rw [show (bJ (pp++y::M)).length=(pp++y::M).length*12 from eX (f:=xn) (n:=12) (fun _=>rfl) _,O]
  have i:(Xqc (((0+(γ (V:Int)))*12)+12) (ν (ξ ((0+(γ (e:Int)))*12) (bJ L.ps)++ [.str y.nm,.bool y.tr,ω y.tm,ω y.td,.sl (bV y.body) y.body.length false,.bool y.ch,.bool y.sn,.str y.sa,.str y.sd,.bool y.cn,.str y.ca,.str y.cd]++θ (((0+(γ (e:Int)))*12)+12) (bJ L.ps))))=true:=(dA (by rw [h12,hlen2,aS];omega))
  have q:(decide (((0:Nat):Int)≤(V:Int)))=true:=(Yq0 (by omega))
  have r:(decide ((V:Int)<(L.ps.length:Int)))=true:=(Yq0 (by omega))
  have ob3:(Xqc (((0+(γ (e:Int)))*12)+12) (ν (bJ L.ps)))=true:=(dA (by rw [o,aS];omega))
  have h:CO 37 [.agg (L.c a b c),.agg [ω q0,ω q1,ω P]] (.ret (.agg [.sl (ξ (L.fn*4) L.fx) L.fn true,.sl (ξ (L.sn*4) L.sx) L.sn true,.sl (ξ (L.ps.length*12) (ξ ((0+(γ (V:Int)))*12) (ξ ((0+(γ (e:Int)))*12) (bJ L.ps)++ [.str y.nm,.bool y.tr,ω y.tm,ω y.td,.sl (bV y.body) y.body.length false,.bool y.ch,.bool y.sn,.str y.sa,.str y.sd,.bool y.cn,.str y.ca,.str y.cd]++θ (((0+(γ (e:Int)))*12)+12) (bJ L.ps))++ [.str x.nm,.bool x.tr,ω x.tm,ω x.td,.sl (bV x.body) x.body.length false,.bool x.ch,.bool x.sn,.str x.sa,.str x.sd,.bool x.cn,.str x.ca,.str x.cd]++θ (((0+(γ (V:Int)))*12)+12) (ξ ((0+(γ (e:Int)))*12) (bJ L.ps)++ [.str y.nm,.bool y.tr,ω y.tm,ω y.td,.sl (bV y.body) y.body.length false,.bool y.ch,.bool y.sn,.str y.sa,.str y.sd,.bool y.cn,.str y.ca,.str y.cd]++θ (((0+(γ (e:Int)))*12)+12) (bJ L.ps)))) L.ps.length true])):=pK [] 13 4096 (.k 7 i (.c q (.c r (.k 13 ob3 (.c k (.c l (.a (bQ [.str,.bool,.int .i64,.int .i64,.sl,.bool,.bool,.str,.str,.bool,.str,.str] hY rfl) (.c q (.c r (.k 22 I (.c J (.c A (.n 4 (.a (bQ [.str,.bool,.int .i64,.int .i64,.sl,.bool,.bool,.str,.str,.bool,.str,.str] K rfl) (.c k (.c l (.k 14 u (.c B (.k 4 H (.c G (.k 4 C (.c j (.n 3 .nil))))))))))))))))))))))) (.v 215 (.rd [.str,.bool,.int .i64,.int .i64,.sl,.bool,.bool,.str,.str,.bool,.str,.str] hY rfl) (.c m5 (.c D (.v 53 (.eq t) (.c X (.v 48 (.rd [.str,.bool,.int .i64,.int .i64,.sl,.bool,.bool,.str,.str,.bool,.str,.str] K rfl) (.c W (.c Y (.c m0 (.b 24 (μ (bJ L.ps)) (.v 24 (.eq (rz 5 1 L.ps.length)) (.b 19 (μ L.sx) (.v 19 (.eq (rz 4 1 L.sn)) (.b 14 (μ L.fx) (.v 14 (.eq (rz 3 1 L.fn)) .nil)))))))))))))));rw [h12] at h;have hC:ξ ((0+(γ (V:Int)))*12) (bJ (pp++y::M))++xn x++θ (((0+(γ (V:Int)))*12)+12) (bJ (pp++y::M))=bJ (p2++x::r2):=by
   unfold bJ at*
   rw [hE2,hD2,Xqn,Xqg,Ξ,Ξ];rfl
  unfold xn at hC;rw [hC] at h;exact wP (p2++x::r2) (by rw [← O y,hs2];simp) (by omega) (kV (by rw [← hs2];exact kV (by rw [← hs];exact ok) hy) hx) h
 |13,_,D=>
  exact wP (F:=(ξ (L.fn*4) L.fx)) (S:=(ξ (L.sn*4) L.sx)) (fN:=L.fn) (sN:=L.sn) (n:=L.ps.length) L.ps rfl (by omega) ok (pK [] 13 0 (.k 23 I (.c J (.c A (.n 4 (.a (bQ [.str,.bool,.int .i64,.int .i64,.sl,.bool,.bool,.str,.str,.bool,.str,.str] K rfl) (.c k (.c l (.k 14 u (.c B (.k 4 H (.c G (.k 4 C (.c j (.n 3 .nil)))))))))))))) (.c D (.v 53 (.eq t) (.c X (.v 48 (.rd [.str,.bool,.int .i64,.int .i64,.sl,.bool,.bool,.str,.str,.bool,.str,.str] K rfl) (.c W (.c Y (.c m0 (.b 24 (μ (bJ L.ps)) (.v 24 (.eq (rz 5 1 L.ps.length)) (.b 19 (μ L.sx) (.v 19 (.eq (rz 4 1 L.sn)) (.b 14 (μ L.fx) (.v 14 (.eq (rz 3 1 L.fn)) .nil))))))))))))))
def qO (q N:Nat):List Cl:=(Xqf N).map fun k=>((q:Int),((k:Nat):Int))
def ceS (L:Lw) (a b c:Bool) (s:Int) (q:Nat) (p:Nat × Bool × Nat × List Cl):St:=⟨[(1,ω s),(2,.ptr 0 0 0),(5,cond p.2.1 (.ref 1 0 0 p.2.2.1) .nilS),(6,ω (q:Int)),(7,ω (p.1:Int))],(0,⟨L.c a b c,0,false,0,0,true⟩)::cond p.2.1 [(1,⟨cL p.2.2.2,0,false,0,2,true⟩)] [],.dead,[]⟩
def ceO (L:Lw) (a b c:Bool) (s:Int) (p:Nat × Bool × Nat × List Cl):St:=⟨[(1,ω s),(2,.ptr 0 0 0),(5,cond p.2.1 (.ref 1 0 0 p.2.2.1) .nilS),(6,ω (p.1:Int))],(0,⟨L.c a b c,0,false,0,0,true⟩)::cond p.2.1 [(1,⟨cL p.2.2.2,0,false,0,2,true⟩)] [],.dead,[]⟩
def ceX (p:Bool × Nat × List Cl):St:=⟨[(5,cond p.1 (.ref 0 0 0 p.2.1) .nilS)],cond p.1 [(0,⟨cL p.2.2,0,false,0,2,true⟩)] [],.dead,[]⟩
theorem Nr (L:Lw) (a b c:Bool) (s:Int) (q:Nat) (A:L.ps.length<2^38):∀ (rem k:Nat) (cc:Bool) (n:Nat) (os:List Cl),k+rem=L.ps.length→os.length=n→n<2^39+k→(cc=false→os= [])→
  ∃ (j:Bool) (n2:Nat),(os++((Xjt k rem).map fun k=>(((q:Int),((k:Nat):Int)):Cl))).length=n2∧n2=n+rem∧(j=false→os++((Xjt k rem).map fun k=>(((q:Int),((k:Nat):Int)):Cl))= [])∧(cc=true→j=true)∧∀ nt,35≤nt→
   aP prog ap [] nt (aj 2 (ae f43)) (fun _=> .exit 2) (ceS L a b c s q) (fun p:Bool × Nat × List Cl=>ceO L a b c s (q,p)) (k,cc,n,os) (j,n2,os++((Xjt k rem).map fun k=>(((q:Int),((k:Nat):Int)):Cl)))
 |0,k,cc,n,os,m,hn0,hn1,hc=>by
  have l:(decide (((k:Nat):Int)<(L.ps.length:Int)))=false:=kn (by omega);simp only [List.range'_zero,Xjd,υ];refine ⟨cc,n,hn0,rfl,hc,id,fun nt i=> .done ?_⟩;cases cc with
  |false=>exact pN 43 [] 1 0 (.c (au l) (.n 1 .nil)) (.nil) i
  |true=>exact pN 43 [] 1 0 (.c (au l) (.n 1 .nil)) (.nil) i
 |rem+1,k,cc,n,os,m,hn0,hn1,hc=>by
  obtain ⟨j,n2,x,B,o,v,r⟩:=Nr L a b c s q A rem (k+1) true (n+1) (os++ [((q:Int),((k:Nat):Int))]) (by omega) (by simp [hn0]) (by omega) (fun h=>by cases h);have e:os++((Xjt k (rem+1)).map fun k=>(((q:Int),((k:Nat):Int)):Cl))=os++ [((q:Int),((k:Nat):Int))]++((Xjt (k+1) rem).map fun k=>(((q:Int),((k:Nat):Int)):Cl)):=by rw [List.range'_succ,χ,Ξ];rfl
  rw [e];refine ⟨j,n2,x,by omega,o,fun _=>v rfl,fun nt i=> .next (a':=(k+1,true,n+1,os++ [((q:Int),((k:Nat):Int))])) ?_ (r nt i)⟩;have l:(decide (((k:Nat):Int)<(L.ps.length:Int)))=true:=kl (by omega);have m:k<2^62:=by omega
  have u:Xqc (n+1) 1099511627776=true:=dA (by omega);have y:Xqc (n*2) (ν (cL os))=true:=dA (by rw [b_,hn0];exact ε _);have t:=fE (f:=cC) (n:=2) (fun _=>rfl) os ((q:Int),((k:Nat):Int)) hn0;clear r o e;cases cc with
  |false=>have z:=hc rfl;subst z;subst hn0;exact pN 43 [] 2 1 (.k 3 (ak l) (.n 1 .nil)) (.v 27 (.eq (wpS m)) .nil) i
  |true=>exact pN 43 [] 1 1 (.k 1 u (.c y (.k 1 (ak l) (.n 1 .nil)))) (.v 27 (.eq (wpS m)) (.b 33 t .nil)) i
theorem Bd (L:Lw) (a b c:Bool) (s:Int) (q:Nat) (C:L.ps.length<2^38) (hs:s=1∨s=2) (u:(q:Int)<s) (m:Bool) (n:Nat) (os:List Cl) (j:os.length=n) (B:n<2^39) (y:m=false→os= []):
  ∃ (l:Bool) (n2:Nat),(os++qO q L.ps.length).length=n2∧n2=n+L.ps.length∧(l=false→os++qO q L.ps.length= [])∧∀ nt,35≤nt→ψ nt f43 (ceO L a b c s (q,m,n,os)) .normal (ceO L a b c s (q+1,l,n2,os++qO q L.ps.length)):=by
 obtain ⟨l,n2,o,z,p,A,t⟩:=Nr L a b c s q C L.ps.length 0 m n os (by omega) j (by omega) y;rw [show (Xjt 0 L.ps.length).map (fun k=>(((q:Int),((k:Nat):Int)):Cl))=qO q L.ps.length by unfold qO;rw [List.range_eq_range']] at o p t;refine ⟨l,n2,o,z,p,fun nt e=> ?_⟩;have f:=aP.blk (id:=2) (e':= .normal) (fun nt (e:35≤nt)=>t nt e) (by simp) rfl (aJ.refl _) (aJ.refl _);obtain ⟨x,r⟩:∃ x,x=os++qO q L.ps.length:=⟨_,rfl⟩
 rw [← r] at f p ⊢;clear t o;have i:q<2^62:=by omega
 have h:(decide ((q:Int)<s))=true:=Yq0 u;cases m with
 | false=>
  have v:=y rfl;subst v;subst j;cases l with
  |false=>
   rcases hs with rfl|rfl
   ·exact pN 43 [2] 3 7 (.k 1 (ak (rfl:(((1:Nat):Int)==((1:Nat):Int))=true)) (.c (ak h) .nil)) (.v 20 (.eq (wpS i)) (.k [1,2,5,6,7] f .nil)) e
   ·exact pN 43 [2] 3 5 (.c (ak (rfl:(((2:Nat):Int)==((2:Nat):Int))=true)) (.c (au (rfl:(((2:Nat):Int)==((1:Nat):Int))=false)) (.c (ak h) .nil))) (.v 20 (.eq (wpS i)) (.k [1,2,5,6,7] f .nil)) e
  |true=>
   rcases hs with rfl|rfl
   ·exact pN 43 [2] 3 7 (.k 1 (ak (rfl:(((1:Nat):Int)==((1:Nat):Int))=true)) (.c (ak h) .nil)) (.v 20 (.eq (wpS i)) (.k [1,2,5,6,7] f .nil)) e
   ·exact pN 43 [2] 3 5 (.c (ak (rfl:(((2:Nat):Int)==((2:Nat):Int))=true)) (.c (au (rfl:(((2:Nat):Int)==((1:Nat):Int))=false)) (.c (ak h) .nil))) (.v 20 (.eq (wpS i)) (.k [1,2,5,6,7] f .nil)) e
 |true=>
  have v:=A rfl;subst v;rcases hs with rfl|rfl
  ·exact pN 43 [2] 3 7 (.k 1 (ak (rfl:(((1:Nat):Int)==((1:Nat):Int))=true)) (.c (ak h) .nil)) (.v 20 (.eq (wpS i)) (.k [1,2,5,6,7] f .nil)) e
  ·exact pN 43 [2] 3 5 (.c (ak (rfl:(((2:Nat):Int)==((2:Nat):Int))=true)) (.c (au (rfl:(((2:Nat):Int)==((1:Nat):Int))=false)) (.c (ak h) .nil))) (.v 20 (.eq (wpS i)) (.k [1,2,5,6,7] f .nil)) e
theorem ug (s:Int) (n q:Nat) (b:Bool) (h:∀ k:Nat,k<n→aH s n ((q:Int),((k:Nat):Int))=b):n_ s n q=if b then qO q n else []:=by
 unfold n_ qO;have key:∀ l:List Nat,(∀ k ∈ l,k<n)→(l.flatMap fun k=>if aH s n ((q:Int),((k:Nat):Int)) then [(((q:Int),((k:Nat):Int)):Cl)] else [])=if b then l.map (fun k=>(((q:Int),((k:Nat):Int)):Cl)) else []:=by
  intro l
  induction l with
  |nil=>intro _;cases b<;>rfl
  |cons k l ih=>
   intro f;rw [Xqg,ih fun k e=>f k (Xql _ e),h k (f k (Xqs ..))];cases b<;>rfl
 exact key _ fun k e=>List.mem_range.1 e
theorem Gs (n:Nat):ax 1 n=qO 0 n:=by
 unfold ax;rw [ug 1 n 0 true (fun k e=>by unfold aH;simp;omega),ug 1 n 1 false (fun k e=>by unfold aH;simp)];simp
theorem Gt (n:Nat):ax 2 n=qO 0 n++qO 1 n:=by
 unfold ax;rw [ug 2 n 0 true (fun k e=>by unfold aH;simp;omega),ug 2 n 1 true (fun k e=>by unfold aH;simp;omega)];simp
theorem Gu {s:Int} (f:s ≠ 1) (h:s ≠ 2) (n:Nat):ax s n= []:=by
 have e:∀ x,aH s n x=false:=fun x=>by unfold aH;simp [f,h]
 unfold ax;rw [ug s n 0 false (fun k _=>e _),ug s n 1 false (fun k _=>e _)];simp
theorem vC (L:Lw) (a b c:Bool) (s:Int) (q:L.ps.length<2^38):CO 43 [.agg (L.c a b c),ω s] (.ret (.sl (cL (ax s L.ps.length)) (ax s L.ps.length).length false)):=by
 have l:∃ (f:Bool) (n2:Nat),(ax s L.ps.length).length=n2∧(f=false→ax s L.ps.length= [])∧∀ nt,35≤nt→aP prog ap [] nt (aj 0 (ae f43)) (fun _=> .exit 0) (ceO L a b c s) ceX (0,false,0,[]) (f,n2,ax s L.ps.length):=by
  by_cases h1:s=1
  ·subst h1;obtain ⟨f,n2,i,m,j,k⟩:=Bd L a b c 1 0 q (.inl rfl) (by omega) false 0 [] rfl (by omega) (fun _=>rfl);rw [μ] at i j k;rw [Gs];refine ⟨f,n2,i,j,fun nt e=> .next (k nt e) (.done ?_)⟩;cases f with
   |false=>exact pN 43 [2] 2 0 (.k 1 (au (rfl:(decide (((1:Nat):Int)<1))=false)) .nil) .nil e
   |true=>exact pN 43 [2] 2 0 (.k 1 (au (rfl:(decide (((1:Nat):Int)<1))=false)) .nil) .nil e
  ·by_cases h2:s=2
   ·subst h2;obtain ⟨f,n2,i,m,j,k⟩:=Bd L a b c 2 0 q (.inr rfl) (by omega) false 0 [] rfl (by omega) (fun _=>rfl);rw [μ] at i j k;obtain ⟨r,n3,k0,k1,k2,k3⟩:=Bd L a b c 2 1 q (.inr rfl) (by omega) f n2 (qO 0 L.ps.length) i (by omega) j;rw [Gt];refine ⟨r,n3,k0,k2,fun nt e=> .next (k nt e) (.next (k3 nt e) (.done ?_))⟩;cases r with
    |false=>exact pN 43 [2] 2 0 (.k 1 (au (rfl:(decide (((2:Nat):Int)<2))=false)) .nil) .nil e
    |true=>exact pN 43 [2] 2 0 (.k 1 (au (rfl:(decide (((2:Nat):Int)<2))=false)) .nil) .nil e
   ·rw [Gu h1 h2];refine ⟨false,0,rfl,fun _=>rfl,fun nt e=> .done ?_⟩;have t:(s==((1:Nat):Int))=false:=by simpa using h1
    have u:(s==((2:Nat):Int))=false:=by simpa using h2
    rcases tf (decide (((0:Nat):Int)<s)) with z0|z0
    ·exact pN 43 [2] 3 1 (.c (au u) (.c (au t) (.c (ak z0) .nil))) .nil e
    ·exact pN 43 [2] 2 0 (.k 1 (au z0) .nil) .nil e
 obtain ⟨f,n2,i,m,j⟩:=l;have n:=aP.blk (id:=0) (e':= .normal) (fun nt (e:35≤nt)=>j nt e) (by simp) rfl (aJ.refl _) (aJ.refl _);obtain ⟨o,p⟩:∃ o,o=ax s L.ps.length:=⟨_,rfl⟩
 rw [← p] at n i m ⊢;cases f with
 |false=>
  have v:=m rfl;subst v;have h:CO 43 [.agg (L.c a b c),ω s] (.ret .nilS):=pK [0] 0 0 .nil (.k [1,2,5,6] n .nil);exact h.out (iP.ret rfl rfl (bF.nilS false rfl))
 |true=>
  have h:CO 43 [.agg (L.c a b c),ω s] (.ret (.own (ξ (n2*2) (cL o)) n2 2)):=pK [0] 0 0 .nil (.k [1,2,5,6] n .nil);subst i;exact xR _ _ (by rw [Xz9,Xvu,τ (by rw [b_];exact ε _)]) h
def VS (c:Cl) (k:Nat) (x:Cl):Nat ⊕ Option Nat:=if WC x c then .inr (some k) else .inl (k+1)
def i5Q (l:List Cl) (c:Cl):Option Nat:=AM.goL (VS c) (fun _=>none) l 0
def i5S (l:List Cl) (nn:Bool) (c:Cl) (p:Nat × Nat):St:=⟨[(0,.sl (cL l) l.length nn),(3,.ptr 0 0 0),(5,ω (p.1:Int))],[(0,⟨cC c,0,false,0,0,true⟩)],.dead,[]⟩
def i5X:Option Nat→St
 |none=>zM
 |some k=>(yH (.int .i64 (k:Int)))
theorem WS {nt:Nat} (j:19≤nt) (l:List Cl) (h:Bool) (c:Cl) (o:l.length<2^40):aP prog ap [] nt (aj 0 (ae f44)) WG (i5S l h c) i5X (0,0) (i5Q l c):=by
 refine aP.goD (VS c) (fun _=>none) l (fun p s=>s=p.length) ?_ ?_ 0 rfl
 ·rintro p x rs s hL hp
  have m:(θ ((γ (p.length:Int))*2) (cL l))=cC x++cL rs:=dS (f:=cC) (n:=2) (fun _=>rfl) hL;have e:(decide ((p.length:Int)<(l.length:Int)))=true:=kl (nT hL);have r:p.length<2^62:=by have:=nT hL;omega
  subst hp;show (∃ s',_∧af _ _ _ _ _ (i5S l h c (p.length,_)) _ _∧_)∨∃ q,_∧af _ _ _ _ _ (i5S l h c (p.length,_)) _ _;have hp:(p++ [x]).length=p.length+1:=by simp
  generalize p.length=k at*
  clear hL;rcases tf ((x.1==c.1) && ((x.2==c.2) && true)) with b0|b0
  ·exact .inr ⟨some k,by have i:WC x c=true:=b0;simp only [VS,i,if_true],pN 44 [] 2 3 (.c (ak b0) (.k 4 (k0 k) (.c e (.c (ak e) .nil)))) (.v 14 (.ppt m) .nil) j⟩
  ·exact .inl ⟨k+1,by have i:WC x c=false:=b0;simp only [VS,i,Xqi,if_false],pN 44 [] 2 1 (.c (au b0) (.k 4 (k0 k) (.c e (.c (ak e) .nil)))) (.v 11 (.eq (wpS r)) (.v 14 (.ppt m) .nil)) j,by simp [hp]⟩
 ·intro _ _;have e:(decide ((l.length:Int)<(l.length:Int)))=false:=kn (ε _);exact pN 44 [] 1 0 (.c (au e) .nil) .nil j
def Aj (l:List Cl) (c:Cl):Int:=match i5Q l c with|none=> -1|some k=>(k:Int)
theorem pV (l:List Cl) (f:Bool) (c:Cl) (e:l.length<2^40):CO 44 [.sl (cL l) l.length f,cA c] (.ret (ω (Aj l c))):=by
 have hloop:=fun nt (hn:19≤nt)=>WS hn l f c e
 unfold Aj;cases i:i5Q l c with
 |none=>
  rw [i] at hloop;have h:=aP.blk (id:=0) (e':= .normal) (s:=i5S l f c (0,0)) (s':=i5X none) hloop (by simp [WG]) rfl (aJ.refl _) (aJ.refl _);exact pK [0] 0 0 .nil (.k [0,3,5] h .nil)
 |some k=>
  rw [i] at hloop;have h:=aP.blk (id:=0) (e':= .ret) (s:=i5S l f c (0,0)) (s':=i5X (some k)) hloop (by simp [WG]) rfl (aJ.refl _) (aJ.refl _);exact pK [0] 0 0 .nil (.k [0,3,5] h .nil)
theorem Ti:∀ (r:List Cl) (c:Cl) (k:Nat),match AM.goL (VS c) (fun _=>none) r k with
  |none=>c ∉ r
  |some j=> ∃ a b,r=a++c::b∧j=k+a.length∧c ∉ a
 | [],c,k=>by simp [AM.goL]
 | x::r,c,k=>by
  unfold AM.goL VS;by_cases hx:WC x c=true
  ·rw [if_pos hx];have e:x=c:=by rw [Ag] at hx;simpa using hx
   exact ⟨[],r,by rw [e];rfl,rfl,by simp⟩
  ·rw [if_neg hx];have e:¬ x=c:=by rw [Ag] at hx;simpa using hx
   have f:=Ti r c (k+1);show match AM.goL (VS c) (fun _=>none) r (k+1) with|none=>_|some j=>_
   cases i:AM.goL (VS c) (fun _=>none) r (k+1) with
   |none=>rw [i] at f;simp;exact ⟨fun h=>e h.symm,f⟩
   |some j=>
    rw [i] at f;obtain ⟨a,b,m,n,l⟩:=f;exact ⟨x::a,b,by rw [m];rfl,by simp;omega,by simp;exact ⟨fun h=>e h.symm,l⟩⟩
theorem Tt {l:List Cl} {c:Cl} (h:c ∉ l):Aj l c= -1:=by
 have:=Ti l c 0;unfold Aj i5Q;cases f:AM.goL (VS c) (fun _=>none) l 0 with
 |none=>rfl
 |some j=>
  rw [f] at this;obtain ⟨a,b,e,_⟩:=this;exact absurd (by rw [e];simp) h
theorem wY {l:List Cl} {c:Cl} (h:c ∈ l):∃ a b,l=a++c::b∧Aj l c=(a.length:Int)∧c ∉ a:=by
 have:=Ti l c 0;unfold Aj i5Q;cases e:AM.goL (VS c) (fun _=>none) l 0 with
 |none=>rw [e] at this;exact absurd h this
 |some j=>
  rw [e] at this;obtain ⟨a,b,k,f,i⟩:=this;exact ⟨a,b,k,by rw [f];simp,i⟩
def eF (l:List Bool):List AV:=l.map .bool
theorem qY (l:List Bool):(eF l).length=l.length:=Xqv ..
def u5S (L:Lw) (a b c:Bool) (s:Int) (w:Cl) (cs:List Cl) (m:Nat) (bd:List Nd) (k:Nat) (C:List AV):St:=⟨[(1,ω s),(3,.ptr 0 0 0),(5,.ptr 1 0 0),(7,.sl (cL cs) cs.length false),(8,.ref 2 0 0 m),(9,.sl (bV bd) bd.length false),(10,ω (k:Int))],[(0,⟨L.c a b c,0,false,0,0,true⟩),(1,⟨cC w,0,false,0,0,true⟩),(2,⟨C,0,false,0,1,true⟩)],.dead,[]⟩
def u5X (cs:List Cl) (m:Nat) (bl:List Bool):St:=⟨[(7,.sl (cL cs) cs.length false),(8,.ref 0 0 0 m)],[(0,⟨eF bl,0,false,0,1,true⟩)],.dead,[]⟩
theorem KT (e:List Bool) (j:Nat) (h:j<e.length):ξ ((0+(γ (j:Int)))*1) (eF e)++ [.bool true]++θ (((0+(γ (j:Int)))*1)+1) (eF e)=eF (e.set j true):=by
 rw [aS,Φ,Xzc];unfold eF;rw [← Xks,← Xj5,Ξ];rw [Xxu,if_pos h,Xxc,χ];rfl
theorem Js {cs a b:List Cl} {d:Cl} (h:cs=a++d::b) (i:cs.Nodup) (N:List Cl):(cs.map fun c=>decide (c ∈ N)).set a.length true=cs.map fun c=>decide (c ∈ N++ [d]):=by
 subst h;have j:∀ c ∈ a,c ≠ d:=fun c f e=>by
  rw [Xx7] at i;exact i.2.2 c f d (Xqs ..) e
 have k:∀ c ∈ b,c ≠ d:=fun c f e=>by
  rw [Xx7] at i;exact (List.nodup_cons.1 i.2.1).1 (e ▸ f)
 rw [Xxc,χ,Xxc,χ];have e:(a.map fun c=>decide (c ∈ N)).length=a.length:=Xqv ..;rw [List.set_append_right _ _ (by rw [e];exact ε _),e,Nat.sub_self,List.set_cons_zero];congr 1
 ·exact Xzd fun c f=>by simp [j c f]
 ·congr 1
  ·simp
  ·exact Xzd fun c f=>by simp [k c f]
theorem RH {L:Lw} {s:Int} {w y:Cl} {x:Nd} (f:aH s L.ps.length w=true) (h:kR L s w x=some y):y ∈ ax s L.ps.length:=by
 rw [dY];have j:QZ L.ps x.name=true→Ej L.ps x.name<L.ps.length:=fun e=>RV e
 unfold aH at f ⊢;simp only [η,Xq7,beq_iff_eq,decide_eq_true_eq] at f ⊢;unfold kR at h;split at h
 ·rename_i e;have:=j e;split at h
  ·cases h;simp only;omega
  ·split at h
   ·split at h
    ·rename_i i;simp only [beq_iff_eq] at i;cases h;simp only;omega
    ·cases h
   ·cases h
 ·cases h
theorem VE (L:Lw) (a b c:Bool) (s:Int) (w:Cl) (cs:List Cl) (m:Nat) (t:List Nd) (z:L.ps.length<2^40) (J:cs.length<2^40) (v:cs=ax s L.ps.length) (hm:cs.length=m) (r:aH s L.ps.length w=true) (T:t.length<2^39) (k:Nat) (x:Nd) (O:List Nd) (N:List Cl) (H:k<t.length) (h:(θ ((γ (k:Int))*5) (bV t))=Qy x++bV O):
  ∀ nt,88≤nt→ψ nt f17 (u5S L a b c s w cs m t k (eF (cs.map fun c=>decide (c ∈ N)))) .normal (u5S L a b c s w cs m t (k+1) (eF (cs.map fun c=>decide (c ∈ N++(kR L s w x).toList)))):=by
 intro nt A;have B:=E8 L a b c x.name z;have C:k<2^62:=by omega
 have f:(decide ((k:Int)<(t.length:Int)))=true:=kl H;have P: -10<w.1∧w.1<10:=by
  unfold aH at r;simp only [η,Xq7,beq_iff_eq,decide_eq_true_eq] at r;omega
 have R:ω (δ .i64 (((1:Nat):Int) - w.1))= ω (1 - w.1):=by rw [dZ]<;>first|rfl|omega
 have F:cs.Nodup:=v ▸ iJ s L.ps.length;have store:∀ y,kR L s w x=some y→∃ j,j<m∧CO 44 [.sl (cL cs) cs.length false,cA y] (.ret (ω ((j:Nat):Int)))∧(cs.map fun c=>decide (c ∈ N)).set j true=cs.map fun c=>decide (c ∈ N++ [y]):=fun y M=>by
  obtain ⟨p,q,K,S,_⟩:=wY (show y ∈ cs from v ▸ RH r M);have u:=pV cs false y J;rw [S] at u;exact ⟨p.length,by rw [← hm,K];simp,u,Js K F N⟩
 obtain ⟨o,i⟩:∃ o,o=cs.map fun c=>decide (c ∈ N):=⟨_,rfl⟩
 have n:o.length=m:=by rw [i,Xqv,hm]
 rcases tf (QZ L.ps x.name) with b0|b0
 ·rcases tf (x.op==((6:Nat):Int)) with b1|b1
  ·have e:kR L s w x=some (w.1,((Ej L.ps x.name:Nat):Int)):=by simp only [kR,b0,b1,if_true]
   obtain ⟨j,I,u,hs⟩:=store _ e;rw [e,show (some (w.1,((Ej L.ps x.name:Nat):Int))).toList= [(w.1,((Ej L.ps x.name:Nat):Int))] from rfl,← hs,← i,← KT o j (by omega)];have l:(x.op==((8:Nat):Int))=false:=by simp only [beq_iff_eq,Yq2] at*;omega
   have G:Xqc (((0+(γ ((j:Nat):Int)))*1)+1) (ν (eF o))=true:=dA (by rw [qY,n,aS];omega);have D:(decide (((j:Nat):Int)<(m:Int)))=true:=kl I;exact pN 17 [] 6 15 (.k 1 (au l) (.k 1 (k0 k) (.c f (.c (ak b0) (.c G (.c (k0 j) (.c D (.k 1 (ak b1) (.k 1 (k0 k) (.c f (.c (ak b0) (.k 1 (k0 k) (.c f (.k 3 (ak f) .nil)))))))))))))) (.v 35 (.eq (wpS C)) (.v 67 (.ppt h) (.c u (.v 50 (.ppt h) (.c B (.v 40 (.ppt h) .nil)))))) A
  ·rcases tf (x.op==((8:Nat):Int)) with l|l
   ·rcases tf (s==((2:Nat):Int)) with b3|b3
    ·have e:kR L s w x=some (1 - w.1,((Ej L.ps x.name:Nat):Int)):=by simp only [kR,b0,b1,l,b3,if_true,Xqi,if_false]
     obtain ⟨j,I,u,hs⟩:=store _ e;rw [e,show (some (1 - w.1,((Ej L.ps x.name:Nat):Int))).toList= [(1 - w.1,((Ej L.ps x.name:Nat):Int))] from rfl,← hs,← i,← KT o j (by omega)];have G:Xqc (((0+(γ ((j:Nat):Int)))*1)+1) (ν (eF o))=true:=dA (by rw [qY,n,aS];omega);have D:(decide (((j:Nat):Int)<(m:Int)))=true:=kl I;exact pN 17 [] 6 59 (.c G (.c (k0 j) (.c D (.k 1 (ak b3) (.c (ak l) (.k 1 (k0 k) (.c f (.c (ak b0) (.c (au b1) (.k 1 (k0 k) (.c f (.c (ak b0) (.k 1 (k0 k) (.c f (.k 3 (ak f) .nil))))))))))))))) (.v 35 (.eq (wpS C)) (.c u (.v 80 (.eq R) (.v 67 (.ppt h) (.v 50 (.ppt h) (.c B (.v 40 (.ppt h) .nil))))))) A
    ·have e:kR L s w x=none:=by simp only [kR,b0,b1,l,b3,if_true,Xqi,if_false]
     rw [e,show (none:Option Cl).toList= [] from rfl,υ,← i];exact pN 17 [] 6 27 (.c (au b3) (.c (ak l) (.k 1 (k0 k) (.c f (.c (ak b0) (.c (au b1) (.k 1 (k0 k) (.c f (.c (ak b0) (.k 1 (k0 k) (.c f (.k 3 (ak f) .nil)))))))))))) (.v 35 (.eq (wpS C)) (.v 67 (.ppt h) (.v 50 (.ppt h) (.c B (.v 40 (.ppt h) .nil))))) A
   ·have e:kR L s w x=none:=by simp only [kR,b0,b1,l,if_true,Xqi,if_false]
    rw [e,show (none:Option Cl).toList= [] from rfl,υ,← i];exact pN 17 [] 6 11 (.k 1 (au l) (.k 1 (k0 k) (.c f (.c (ak b0) (.c (au b1) (.k 1 (k0 k) (.c f (.c (ak b0) (.k 1 (k0 k) (.c f (.k 3 (ak f) .nil))))))))))) (.v 35 (.eq (wpS C)) (.v 67 (.ppt h) (.v 50 (.ppt h) (.c B (.v 40 (.ppt h) .nil))))) A
 ·have e:kR L s w x=none:=by simp only [kR,b0,Xqi,if_false]
  rw [e,show (none:Option Cl).toList= [] from rfl,υ,← i];exact pN 17 [] 6 1 (.k 2 (au b0) (.k 1 (au b0) (.k 1 (k0 k) (.c f (.k 3 (ak f) .nil))))) (.v 35 (.eq (wpS C)) (.c B (.v 40 (.ppt h) .nil))) A
theorem PM (L:Lw) (a b c:Bool) (s:Int) (w:Cl) (cs:List Cl) (m:Nat) (h:List Nd) (f:L.ps.length<2^40) (k:cs.length<2^40) (j:cs=ax s L.ps.length) (hm:cs.length=m) (i:aH s L.ps.length w=true) (l:h.length<2^39):∀ (rx p:List Nd) (N:List Cl),h=p++rx→∀ nt,88≤nt→
  aP prog ap [] nt (aj 0 (ae f17)) (fun _=> .exit 0) (fun q:Nat × List Bool=>u5S L a b c s w cs m h q.1 (eF q.2)) (u5X cs m) (p.length,cs.map fun c=>decide (c ∈ N)) (cs.map fun c=>decide (c ∈ N++lD L s w rx))
 | [],p,N,hp,nt,hn=>by
  rw [υ] at hp;subst hp;have n:(decide ((h.length:Int)<(h.length:Int)))=false:=kn (ε _);rw [show lD L s w []= [] from rfl,υ];exact .done (pN 17 [] 1 0 (.c (au n) .nil) .nil hn)
 | x::rx,p,N,hp,nt,hn=>by
  have o:=VE L a b c s w cs m h f k j hm i l p.length x rx N (nT hp) (dS nd5 hp) nt hn;have n:=PM L a b c s w cs m h f k j hm i l rx (p++ [x]) (N++(kR L s w x).toList) (by rw [hp];simp) nt hn;rw [show (p++ [x]).length=p.length+1 by simp] at n;have e:lD L s w (x::rx)=(kR L s w x).toList++lD L s w rx:=by
   unfold lD;rw [Xve];cases kR L s w x<;>rfl
  rw [e,← Ξ];exact .next (a':=(p.length+1,cs.map fun c=>decide (c ∈ N++(kR L s w x).toList))) o n
def mdS (cs:List Cl) (nn nb:Bool) (bl:List Bool) (m:Nat) (p:Nat × Bool × Nat × List Cl):St:=⟨[(0,.sl (cL cs) cs.length nn),(1,.sl (eF bl) m nb),(5,cond p.2.1 (.ref 0 0 0 p.2.2.1) .nilS),(6,ω (p.1:Int))],cond p.2.1 [(0,⟨cL p.2.2.2,0,false,0,2,true⟩)] [],.dead,[]⟩
theorem G8 (f:Cl→Bool) (cs:List Cl) (K J:Bool) (C:List Bool) (m:Nat) (t:C=cs.map f) (hm:C.length=m) (O:cs.length<2^39):∀ (r p:List Cl) (cc:Bool) (n:Nat) (os:List Cl),cs=p++r→os.length=n→n≤p.length→(cc=false→os= [])→
  ∃ (D:Bool) (n2:Nat),(os++r.filter f).length=n2∧(D=false→os++r.filter f= [])∧∀ nt,25≤nt→
   aP prog ap [] nt (aj 0 (ae f46)) (fun _=> .exit 0) (mdS cs K J C m) ceX (p.length,cc,n,os) (D,n2,os++r.filter f)
 | [],p,cc,n,os,hp,hn0,hn1,hc=>by
  rw [υ] at hp;subst hp;have o:(decide ((cs.length:Int)<(cs.length:Int)))=false:=kn (ε _);simp only [List.filter_nil,υ];refine ⟨cc,n,hn0,hc,fun nt l=> .done ?_⟩;cases cc with
  |false=>exact pN 46 [] 1 0 (.c (au o) .nil) (.nil) l
  |true=>exact pN 46 [] 1 0 (.c (au o) .nil) (.nil) l
 | x::r,p,cc,n,os,hp,hn0,hn1,hc=>by
  have G:=dS (f:=cC) (n:=2) (fun _=>rfl) hp;obtain ⟨k,i⟩:∃ k,p.length=k:=⟨_,rfl⟩
  have z:=nT hp;rw [i] at G z;have N:(θ ((γ ((k:Nat):Int))*2) (cL cs))=cC x++cL r:=G;obtain ⟨B,u⟩:∃ B,f x=B:=⟨_,rfl⟩
  obtain ⟨rb,A⟩:∃ rb,(θ ((γ ((k:Nat):Int))*1) (eF C))= [AV.bool B]++rb:=by
   refine ⟨eF (r.map f), ?_⟩;rw [aS,Xzc,t,hp,← i];unfold eF;have e:p.length=(p.map f).length:=(Xqv ..).symm;rw [← Xj5,Xxc,χ,e,List.drop_left,u];rfl
  have o:(decide (((k:Nat):Int)<(cs.length:Int)))=true:=kl z;have q:(decide (((k:Nat):Int)<(m:Int)))=true:=kl (by rw [← hm,t,Xqv];exact z);have I:k<2^62:=by omega
  have P:Xqc (n+1) 1099511627776=true:=dA (by omega);have S:Xqc (n*2) (ν (cL os))=true:=dA (by rw [b_,hn0];exact ε _);have M:=fE (f:=cC) (n:=2) (fun _=>rfl) os x hn0;rw [i];cases B with
  |true=>
   obtain ⟨D,n2,H,F,y⟩:=G8 f cs K J C m t hm O r (p++ [x]) true (n+1) (os++ [x]) (by rw [hp];simp) (by simp [hn0]) (by simp;omega) (fun h=>by cases h);rw [show (p++ [x]).length=k+1 by simp [i]] at y;rw [List.filter_cons_of_pos u,show os++x::r.filter f=os++ [x]++r.filter f by simp];refine ⟨D,n2,H,F,fun nt l=> .next (a':=(k+1,true,n+1,os++ [x])) ?_ (y nt l)⟩;generalize v:true=B at A;have j:=v.symm;clear y F H;cases cc with
   |false=>have R:=hc rfl;subst R;subst hn0;exact pN 46 [] 3 3 (.k 5 (k0 k) (.c o (.c (ak j) (.k 1 (k0 k) (.c q (.c (ak o) .nil)))))) (.v 12 (.eq (wpS I)) (.v 20 (.ppt N) (.v 15 (.ppt A) .nil))) l
   |true=>exact pN 46 [] 2 3 (.k 1 P (.c S (.k 3 (k0 k) (.c o (.c (ak j) (.k 1 (k0 k) (.c q (.c (ak o) .nil)))))))) (.v 12 (.eq (wpS I)) (.b 23 M (.v 20 (.ppt N) (.v 15 (.ppt A) .nil)))) l
  |false=>
   obtain ⟨D,n2,H,F,y⟩:=G8 f cs K J C m t hm O r (p++ [x]) cc n os (by rw [hp];simp) hn0 (by simp;omega) hc;rw [show (p++ [x]).length=k+1 by simp [i]] at y;rw [List.filter_cons_of_neg (by rw [u];decide)];refine ⟨D,n2,H,F,fun nt l=> .next (a':=(k+1,cc,n,os)) ?_ (y nt l)⟩;generalize v:false=B at A;have j:=v.symm;clear y F H;cases cc with
   |false=>exact pN 46 [] 2 1 (.c (au j) (.k 1 (k0 k) (.c q (.c (ak o) .nil)))) (.v 12 (.eq (wpS I)) (.v 15 (.ppt A) .nil)) l
   |true=>exact pN 46 [] 2 1 (.c (au j) (.k 1 (k0 k) (.c q (.c (ak o) .nil)))) (.v 12 (.eq (wpS I)) (.v 15 (.ppt A) .nil)) l
theorem zu (f:Cl→Bool) (cs:List Cl) (j i:Bool) (e:List Bool) (m:Nat) (n:e=cs.map f) (hm:e.length=m) (v:cs.length<2^39):CO 46 [.sl (cL cs) cs.length j,.sl (eF e) m i] (.ret (.sl (cL (cs.filter f)) (cs.filter f).length false)):=by
 obtain ⟨t,n2,o,k,r⟩:=G8 f cs j i e m n hm v cs [] false 0 [] rfl rfl (ε _) (fun _=>rfl);rw [μ] at o k r;have l:=aP.blk (id:=0) (e':= .normal) (fun nt (hn:25≤nt)=>r nt hn) (by simp) rfl (aJ.refl _) (aJ.refl _);obtain ⟨p,q⟩:∃ p,p=cs.filter f:=⟨_,rfl⟩
 rw [← q] at l o k ⊢;cases t with
 |false=>
  have u:=k rfl;subst u;have h:CO 46 [.sl (cL cs) cs.length j,.sl (eF e) m i] (.ret .nilS):=pK [0] 0 0 .nil (.k [0,1,5,6] l .nil);exact h.out (iP.ret rfl rfl (bF.nilS false rfl))
 |true=>
  have h:CO 46 [.sl (cL cs) cs.length j,.sl (eF e) m i] (.ret (.own (ξ (n2*2) (cL p)) n2 2)):=pK [0] 0 0 .nil (.k [0,1,5,6] l .nil);subst o;exact xR _ _ (by rw [Xz9,Xvu,τ (by rw [b_];exact ε _)]) h
theorem Be (s:Int) (n:Nat):(ax s n).length≤2*n:=by
 have e:∀ i,(qO i n).length=n:=fun i=>by simp [qO]
 by_cases h1:s=1
 ·subst h1;rw [Gs,e];omega
 ·by_cases h2:s=2
  ·subst h2;rw [Gt,ο,e,e];omega
  ·rw [Gu h1 h2];exact Xqp _
theorem MG (n:Nat):gu n [.bool false]=eF (Xqx n false):=by
 induction n with
 |zero=>rfl
 |succ n ih=>rw [FK,ih,List.replicate_succ];rfl
def gJ (L:Lw) (s:Int) (w:Cl):List Cl:=if (aH s L.ps.length w) then (ax s L.ps.length).filter (fun c=>decide (c ∈ lD L s w ((L.ps[w.2.toNat]?.map Pv.body).getD []))) else []
theorem QW (L:Lw) (a b c:Bool) (s:Int) (w:Cl) (R:vZ L) (Z:L.ps.length<2^38):CO 17 [.agg (L.c a b c),ω s,cA w] (.ret (.sl (cL (gJ L s w)) (gJ L s w).length false)):=by
 obtain ⟨o,D⟩:=R;have C:=vC L a b c s Z;have l:=fun x=> @dY s L.ps.length x
 have M:=Be s L.ps.length;unfold gJ;obtain ⟨cs,f⟩:∃ cs,cs=ax s L.ps.length:=⟨_,rfl⟩
 rw [← f] at C M ⊢;have O:(2:Nat)^38=274877906944:=by decide
 have T:(2:Nat)^39=549755813888:=by decide
 have P:(2:Nat)^40=1099511627776:=by decide
 have m:=pV cs false w (by omega);cases B:(aH s L.ps.length w) with
 |false=>
  have J:w ∉ cs:=fun h=>by rw [f,l,B] at h;cases h
  rw [Tt J] at m;obtain ⟨t,q⟩:∃ t:Int,t= -1:=⟨_,rfl⟩
  rw [← q] at m;have K:(decide (t<((0:Nat):Int)))=true:=Yq0 (by rw [q];decide);have h:CO 17 [.agg (L.c a b c),ω s,cA w] (.ret .nilS):=pK [0] 1 1 (.c (ak K) (.n 5 .nil)) (.c m (.c C .nil));exact h.out (iP.ret rfl rfl (bF.nilS false rfl))
 | true=>
  have n:w ∈ cs:=by rw [f,l,B]
  obtain ⟨_,_,_,H,_⟩:=wY n;have z:0≤Aj cs w:=by rw [H];omega
  generalize Aj cs w=t at m z;have K:(decide (t<((0:Nat):Int)))=false:=Yq1 (by simp;omega);have j:=B;unfold aH at j;simp only [η,decide_eq_true_eq] at j;obtain ⟨h0,h1,h2,S,X⟩:=j;have v:w.2.toNat<L.ps.length:=by omega
  have e:L.ps[w.2.toNat]? =some L.ps[w.2.toNat]:=ζ v;have y:L.ps[w.2.toNat] ∈ L.ps:=Xx1 v;have N:=(D _ y).1;generalize L.ps[w.2.toNat]=p at e N;have hp:=NJ Ul e;rw [aS] at hp;generalize V:(L.ps.drop (w.2.toNat+1))=rp at hp;change (θ ((γ w.2)*12) (bJ L.ps))=xn p++bJ rp at hp;simp only [e,Xqr,Xq9,if_true];have A:=aP.blk (id:=0) (e':= .normal) (fun nt (hn:88≤nt)=>PM L a b c s w cs cs.length p.body o (by omega) f rfl B N p.body [] [] rfl nt hn) (by simp) rfl (aJ.refl _) (aJ.refl _);have W:eF (cs.map fun c=>decide (c ∈ ([]:List Cl)))=gu cs.length [.bool false]:=by
   rw [MG];congr 1;simp [Xkd]
  obtain ⟨k,i⟩:∃ k,k=cs.map fun c=>decide (c ∈ []++lD L s w p.body):=⟨_,rfl⟩
  rw [← i] at A;unfold u5S at A;simp only [W] at A;have u:=zu (fun c=>decide (c ∈ []++lD L s w p.body)) cs false true k cs.length i (by rw [i,Xqv]) (by omega);rw [μ] at u;have U:ξ (cs.length*1) (eF k)=eF k:=τ (by rw [qY,i,Xqv];omega);generalize cs.filter _=r at u ⊢;have G:(decide (((0:Nat):Int)≤(cs.length:Int)))=true:=Yq0 (by omega);have F:(decide ((cs.length:Int)=(cs.length:Int)))=true:=Yq0 rfl;have I:(decide ((cs.length:Int)≤((1099511627776:Nat):Int)))=true:=Yq0 (by omega);have Y:=A;have u:CO 46 [.sl (cL cs) cs.length false,.sl (ξ (cs.length*1) (eF k)) cs.length true] (.ret (.sl (cL r) r.length false)):=by rw [U];exact u
  exact pK [0] 1 0 (.k 1 (Yq0 S) (.c (Yq0 X) (.k 2 G (.c F (.c I (.c (au K) (.n 5 .nil))))))) (.c u (.k [1,3,5,7,8,9,10] Y (.v 27 (.ppt hp) (.c m (.c C .nil)))))
theorem pY {c d:Cl}:ut c d=true↔c.1<d.1∨(c.1=d.1∧c.2<d.2):=by
 simp only [ut,Xq7,η,decide_eq_true_eq,beq_iff_eq]
theorem N9 {c d:Cl}:ut d c=false↔c.1<d.1∨(c.1=d.1∧c.2≤d.2):=by
 rw [← Bool.not_eq_true,pY];omega
theorem Jf:∀ (q:List Cl) (y:Cl) (r:List Cl),(q.reverse++r).Pairwise (fun x y=>ut y x=false)→(∀ x ∈ r,ut y x=true)→(nP q y r).Pairwise (fun x y=>ut y x=false)
 | [],y,r,h,hr=>List.Pairwise.cons (fun x k=>Oc _ _ (hr x k)) h
 | x ::q,y,r,h,hr=>by
  unfold nP;have m:(q.reverse++x::r).Pairwise (fun x y=>ut y x=false):=by simpa using h
  cases j:ut y x with
  |true=>exact Jf q y (x::r) m (List.forall_mem_cons.2 ⟨j,hr⟩)
  | false=>
   simp only [Xqi,if_false];have l:=List.pairwise_append.1 h;refine List.pairwise_append.2 ⟨l.1,List.Pairwise.cons (fun x k=>Oc _ _ (hr x k)) l.2.1,fun z f w i=> ?_⟩;rcases List.mem_cons.1 i with e|i
   ·subst e;have o:=(List.pairwise_append.1 m).2.2;rw [List.reverse_cons,Xjo] at f;rcases f with f|f
    ·have n:=o z f x (Xqs ..);rw [N9] at n j ⊢;omega
    ·rw [Xxs] at f;subst f;exact j
   ·exact l.2.2 z f w i
theorem B_:∀ (r p:List Cl),p.Pairwise (fun x y=>ut y x=false)→(rM p r).Pairwise (fun x y=>ut y x=false)
 | [],p,h=>h
 |y::r,p,h=>B_ r _ (Jf _ _ _ (by simpa using h) (by simp))
theorem Qq (l:List Cl):(jw l).Pairwise (fun x y=>ut y x=false):=by
 cases l with
 |nil=>exact List.Pairwise.nil
 |cons x l=>exact B_ l [x] (Xzk ..)
theorem Bh:∀ (l A:List Cl) (z:Cl),(A++ [z]).Pairwise (fun x y=>ut x y=true)→(z::l).Pairwise (fun x y=>ut y x=false)→(pI (A++ [z]) z l).Pairwise (fun x y=>ut x y=true)
 | [],A,z,h,_=>h
 | y::r,A,z,h,hl=>by
  unfold pI;have k:=List.pairwise_cons.1 hl;cases j:IV y z with
  |true=>
   have e:=GK.1 j;subst e;exact Bh r A y h k.2
  | false=>
   simp only [Xqi,if_false];have m:z ≠ y:=fun e=>by rw [GK.2 e.symm] at j;cases j
   have i:ut z y=true:=by
    have p:=k.1 y (Xqs ..);rw [N9] at p;rw [pY];have:¬ (z.1=y.1∧z.2=y.2):=fun e=>m (Prod.ext e.1 e.2)
    omega
   refine Bh r (A++ [z]) y (List.pairwise_append.2 ⟨h,Xzk ..,fun a f b n=> ?_⟩) k.2;rw [Xxs] at n;subst n;rcases List.mem_append.1 f with f|f
   ·have o:=(List.pairwise_append.1 h).2.2 a f z (List.mem_singleton_self _);rw [pY] at o i ⊢;omega
   ·rw [Xxs] at f;subst f;exact i
theorem Gy {l:List Cl} (h:l.Pairwise (fun x y=>ut y x=false)):(di l).Pairwise (fun x y=>ut x y=true):=by
 cases l with
 |nil=>exact List.Pairwise.nil
 |cons x l=>exact Bh l [] x (Xzk ..) h
theorem Gx {x:Cl}:∀ (r A:List Cl) (z:Cl),z ∈ A→(x ∈ pI A z r↔x ∈ A∨x ∈ r)
 | [],A,z,_=>by simp [pI]
 | y::r,A,z,hz=>by
  unfold pI;split
  ·rename_i h;have e:=GK.1 h;subst e;rw [Gx r A y hz,Xqu];constructor
   ·exact fun h=>h.imp id .inr
   ·rintro (h|h|h)
    ·exact .inl h
    ·subst h;exact .inl hz
    ·exact .inr h
  ·rw [Gx r (A++ [y]) y (by simp),Xjo,Xxs,Xqu,or_assoc]
theorem II {x:Cl} (l:List Cl):x ∈ di l↔x ∈ l:=by
 cases l with
 |nil=>simp [di]
 |cons y l=>
  unfold di;rw [Gx l [y] y (by simp)];simp
theorem DJ (q n:Nat):(qO q n).Pairwise (fun x y=>ut x y=true):=by
 unfold qO;rw [List.pairwise_map];exact List.pairwise_lt_range.imp fun h=>by rw [pY];simp;omega
theorem UE {q n:Nat} {x:Cl} (h:x ∈ qO q n):x.1=(q:Int):=by
 unfold qO at h;obtain ⟨k,_,e⟩:=List.mem_map.1 h;rw [← e]
theorem K_ (s:Int) (n:Nat):(ax s n).Pairwise (fun x y=>ut x y=true):=by
 by_cases h1:s=1
 ·subst h1;rw [Gs];exact DJ ..
 ·by_cases h2:s=2
  ·subst h2;rw [Gt];refine List.pairwise_append.2 ⟨DJ ..,DJ ..,fun a f b e=> ?_⟩;rw [pY,UE f,UE e];exact .inl (by decide)
  ·rw [Gu h1 h2];exact List.Pairwise.nil
theorem xE {l:List Cl} (h:l.Pairwise (fun x y=>ut x y=true)):l.Nodup:=
 h.imp fun {a b} hab e=>by subst e;rw [pY] at hab;omega
theorem MS {l m:List Cl} (e:l.Pairwise (fun x y=>ut x y=true)) (hm:m.Pairwise (fun x y=>ut x y=true)) (h:∀ x,x ∈ l↔x ∈ m):l=m:=
 List.Perm.eq_of_pairwise (fun a b _ _ i f=>by rw [pY] at i f;omega) e hm ((List.perm_ext_iff_of_nodup (xE e) (xE hm)).2 h)
theorem KA (L:Lw) (s:Int) (w:Cl):lh L s w=gJ L s w:=by
 unfold lh gJ;cases f:(aH s L.ps.length w) with
 |false=>rfl
 |true=>
  simp only [if_true];generalize (L.ps[w.2.toNat]?.map Pv.body).getD []=bd;refine MS (Gy (Qq _)) ((K_ ..).filter _) fun x=> ?_
  rw [II,(vK _).mem_iff,Xxa,decide_eq_true_eq];refine ⟨fun h=> ⟨?_,h⟩,fun h=>h.2⟩;obtain ⟨y,_,e⟩:=List.mem_filterMap.1 h;exact RH f e
theorem abV {L:Lw} {s:Int} {fr:List Cl} {c:Cl}:c ∈ cO L s fr↔aH s L.ps.length c=true∧Ac (gI L s) (aH s L.ps.length) fr c:=by
 classical
 unfold cO;rw [Xxa,dY,decide_eq_true_eq]
theorem VI {L:Lw} {s:Int} {c d:Cl}:c ∈ gI L s d↔aH s L.ps.length c=true∧d ∈ lh L s c:=by
 unfold gI;rw [Xxa,dY,decide_eq_true_eq]
theorem Dv (L:Lw) (s:Int) (w:Cl):∀ bd:List Nd,(lD L s w bd).length≤bd.countP Em
 | []=>by simp [lD]
 | x ::bd=>by
  have h:=Dv L s w bd;unfold lD at h ⊢;rw [Xve,Xwp];cases e:kR L s w x with
  |none=>simp only;omega
  | some y=>
   have f:Em x=true:=by
    unfold kR at e;unfold Em;by_cases h6:(x.op==((6:Nat):Int))=true
    ·have:(x.op==6)=true:=h6;simp [this]
    ·by_cases h8:(x.op==((8:Nat):Int))=true
     ·have:(x.op==8)=true:=h8;simp [this]
     ·rw [if_neg h6,if_neg h8] at e;simp at e
   simp only [Θ,f,if_true];omega
theorem Xe {L:Lw} {mn:Nat} (l:L.ps.length≤8) (h:yQ mn L.ps):vZ L:=by
 refine ⟨by omega,fun p hp=> ?_⟩;obtain ⟨k,j⟩:=List.getElem?_of_mem hp;obtain ⟨e,i,f⟩:=(h k p j).body;rw [i];refine ⟨?_,fun s w=>Xqh (Dv L s w _) ?_⟩
 ·have:=f.len;simp only [Θ];omega
 ·have:=f.cnt;rw [Xwp];have:Em ⟨5,false,[],[],[120]⟩=false:=rfl;rw [this];simp;omega
theorem abU (L:Lw) (s:Int) (fr:List Cl):(cO L s fr).length≤L.ps.length+L.ps.length:=by
 unfold cO;exact Xqh (Xxr _ _) (jo _ _)
def lwC (x:Lw):List AV:=x.c false false false
def lwL (l:List Lw):List AV:=l.flatMap lwC
def VP (L:Lw):Prop:=L.ps.length≤8∧vZ L
theorem L8 {L:Lw} (e:L.ps.length≤6) (h:∀ p ∈ L.ps,Dj p):VP L:=
 ⟨by omega,by omega,fun p hp=> ⟨by have:=(h p hp).1;omega,fun s w=>Xqh (Dv L s w _) (by have:=(h p hp).2;omega)⟩⟩
theorem WZ (l:List (List Int)) (e:Bool) (q0 j i:Int):∃ X:List Lw,X.length=4∧(∀ x ∈ X,VP x)∧CO 14 [.sl (kL l) l.length e,.agg [ω q0,ω j,ω i]] (.ret (.sl (lwL X) X.length true)):=by
 obtain ⟨A,D,F,z,u⟩:=Xd l e;obtain ⟨B,f,o⟩:=Qs l e;obtain ⟨C,n,q⟩:=P7 B f true true true q0 j i;have y:VP A:=⟨by omega,Xe (by omega) z⟩
 have t:VP B:=L8 f.p6 f.ok;have r:VP C:=L8 n.1 n.2;have v:VP ⟨[],0,[],0,[]⟩:=L8 (Xqp _) (fun p hp=>by cases hp);have h:CO 14 [.sl (kL l) l.length e,.agg [ω q0,ω j,ω i]] (.ret (.own [.sl A.fx A.fn true,.sl A.sx A.sn true,.sl (bJ A.ps) A.ps.length D,.sl B.fx B.fn true,.sl B.sx B.sn true,.sl (bJ B.ps) B.ps.length true,.sl C.fx C.fn true,.sl C.sx C.sn true,.sl (bJ C.ps) C.ps.length true,.nilS,.nilS,.nilS] 4 3)):=pK [0] 0 0 (.n 14 .nil) (.c q (.c o (.c u .nil)));refine ⟨[A,B,C,⟨[],0,[],0,[]⟩],rfl,fun x k=> ?_, ?_⟩
 ·simp only [Xqu,Xxb,or_false] at k;rcases k with rfl|rfl|rfl|rfl
  ·exact y
  ·exact t
  ·exact r
  ·exact v
 ·have m:=ah.thaw (by simp) h;simp only [qL,thaw] at m;refine m.out (iP.ret rfl rfl ?_);exact bF.slP (.sl (.sl (.sl (.sl (.sl (.sl (.sl (.sl (.sl (.nilS (.nilS (.nilS .nil))))))))))))
theorem w1 {c:Int} (h0: -1≤c) (f:c<2^40):ω (δ .i64 (c+((1:Nat):Int)))=ω (c+1):=by
 have e:δ .i64 (c+((1:Nat):Int))=c+1:=by rw [dZ]<;>omega
 rw [e]
end Go.Proofs.Tryz
set_option maxRecDepth 100000
set_option linter.unusedVariables false
open Go AM
open Go.ChangeMaps (setBlock)
namespace Go.Proofs.Tryz
noncomputable def o53 (k:Nat):Oper:=(uu (eQ 12 (ae f53))).getD k default
theorem Uo:eQ 12 (ae f53)= .region 12 #[mk (some 47) (.move (.tmp 6)) (o53 0),mk (some 48) (.move (.tmp 8)) (o53 1),mk (some 49) (.buildSlice 109 1 #[(0,.tmp 48)]) (o53 2),mk (some 50) (.call {callee:= .builtin .append,args:=#[.tmp 47,.tmp 49],argTypes:=#[109,109]}) (o53 3),mk (some 6) (.assign (.tmp 50)) (o53 4)] false:=by kernel_rfl
theorem akh:prog.underlying 92=some (.slice 4):=by kernel_rfl
theorem VF:prog.underlying 109=some (.slice 92):=by kernel_rfl
theorem in4:∃ i,prog.info? 4=some i∧i.zero=some (.bool false)∧i.size=1∧i.bytes=1:=by
 have h:(prog.info? 4).map (fun i=>(i.zero,i.size,i.bytes))=some (some (.bool false),1,1):=by kernel_rfl
 cases e:prog.info? 4 with
 |none=>rw [e] at h;cases h
 |some i=>
  rw [e] at h;simp only [Xqr,Option.some.injEq,Prod.mk.injEq] at h;exact ⟨i,rfl,h.1,h.2.1,h.2.2⟩
theorem abh:∃ i,prog.info? 92=some i∧i.zero=some (.slice none 0 0)∧i.size=1∧i.bytes=24:=by
 have h:(prog.info? 92).map (fun i=>(i.zero,i.size,i.bytes))=some (some (.slice none 0 0),1,24):=by kernel_rfl
 cases e:prog.info? 92 with
 |none=>rw [e] at h;cases h
 |some i=>
  rw [e] at h;simp only [Xqr,Option.some.injEq,Prod.mk.injEq] at h;exact ⟨i,rfl,h.1,h.2.1,h.2.2⟩
theorem aeC {w:World} (p:Option Addr) (x y:Nat):(Instr.buildSlice 109 1 #[(0,.slice p x y)]).run prog w= .ok (.slice (some ⟨w.heap.size,0,none⟩) 1 1) (w.alloc (.cells #[.slice p x y] 92)):=by
 obtain ⟨i,f,h,e,_⟩:=abh;refine mD VF f h (by rw [e];decide) (by rw [e];decide) ?_;rw [e];have j:Array.range 1=#[0]:=rfl;simp [Instr.fill,madeCells,Value.cells,j]
abbrev Wv:List Nat:= [6,47,48,49,50]
theorem abN {nt:Nat} (hn:101≤nt) {w:World} {a:Act} {ap:AP} {g:bP} {m:aI} {S:aB} {B x N c:Nat} {k:Value} {U:List (List Bool)} {l:List Bool} {hs:List Value} (t:a.tmps.size=nt) (y:JBh 92 k U hs B g m S w) (hS:bi ap g m S w) (hU:U.length<2^40) (hlow:B≤w.heap.size)
  (hrow:∃ rt,w.ownsRow B rt 1 (.slice (some ⟨x,0,none⟩) N c) l.length (P8 l)) (hx:ww g m S w x) (hxo:k.ownBlock ≠ some x) (hxr:∀ (i:Nat) (v:Value),hs[i]? =some v→v.ownBlock ≠ some x)
  (h6:a.eval (.tmp 6)=k) (h8:a.eval (.tmp 8)= .slice (some ⟨x,0,none⟩) N c) {Q:Exit→Act→World→Prop}
  (hQ:∀ ov' a' w',Ka Wv a a'→a'.eval (.tmp 6)=ov'→w.heap.size≤w'.heap.size→w'.os=w.os→w'.tape=w.tape→w'.output=w.output→(∀ q,q<w.heap.size→w'.heap[q]? =w.heap[q]? ∨(ww g m S w q∧B≤q))→JB 92 ov' (U++ [l]) B g m S w'→Q .normal a' w'):
  (eQ 12 (ae f53)).wp prog Q a w:=by
 rw [Uo];refine wp_region_list ?_;have L6:(6:Nat)<nt:=by omega
 have L47:(47:Nat)<nt:=by omega
 have L48:(48:Nat)<nt:=by omega
 have L49:(49:Nat)<nt:=by omega
 have L50:(50:Nat)<nt:=by omega
 have k0:=Ka.refl Wv a;refine yu (v:=k) (w':=w) (by simp only [execOp,mk,h6,Sem.run_pure]) ?_;have k1:=k0.put (d:=47) (v:=k) (by decide);refine yu (v:= .slice (some ⟨x,0,none⟩) N c) (w':=w) (by simp only [execOp,mk,(k1.get 8 (by decide)).trans h8,Sem.run_pure]) ?_;have k2:=k1.put (d:=48) (v:= .slice (some ⟨x,0,none⟩) N c) (by decide);have O:((a.put (some 47) k).put (some 48) (.slice (some ⟨x,0,none⟩) N c)).eval (.tmp 47)=k:=by simp only [bf,aG,t,L47,L48];simp
 have I:((a.put (some 47) k).put (some 48) (.slice (some ⟨x,0,none⟩) N c)).eval (.tmp 48)= .slice (some ⟨x,0,none⟩) N c:=by simp only [bf,aG,t,L47,L48];simp
 generalize ((a.put (some 47) k).put (some 48) (.slice (some ⟨x,0,none⟩) N c))=a2 at k2 O I ⊢;clear k0 k1;have hs2:a2.tmps.size=nt:=k2.size.trans t;refine yu (v:= .slice (some ⟨w.heap.size,0,none⟩) 1 1) (w':=w.alloc (.cells #[.slice (some ⟨x,0,none⟩) N c] 92)) (by simp only [execOp,mk,Xzs,χ,Xjd,I,Sem.run_bind,aeC,Result.andThen_ok,Sem.run_pure]) ?_;have o:w.grownBy (w.alloc (.cells #[.slice (some ⟨x,0,none⟩) N c] 92)) none:=World.grownBy_alloc w _ none;have D:(w.alloc (.cells #[.slice (some ⟨x,0,none⟩) N c] 92)).heap[w.heap.size]? =some (.cells #[.slice (some ⟨x,0,none⟩) N c] 92 (0,0)):=heap_alloc_new w _;have hz3:(w.alloc (.cells #[.slice (some ⟨x,0,none⟩) N c] 92)).heap.size=w.heap.size+1:=by simp
 generalize w.alloc (.cells #[.slice (some ⟨x,0,none⟩) N c] 92)=w3 at o D hz3 ⊢;have k3:=k2.put (d:=49) (v:= .slice (some ⟨w.heap.size,0,none⟩) 1 1) (by decide);have H:(a2.put (some 49) (.slice (some ⟨w.heap.size,0,none⟩) 1 1)).eval (.tmp 47)=k:=by rw [bf (by omega),if_neg (by decide)];exact O
 have M:(a2.put (some 49) (.slice (some ⟨w.heap.size,0,none⟩) 1 1)).eval (.tmp 49)= .slice (some ⟨w.heap.size,0,none⟩) 1 1:=by rw [bf (by omega),if_pos rfl]
 generalize a2.put (some 49) (.slice (some ⟨w.heap.size,0,none⟩) 1 1)=a3 at k3 H M ⊢;have hs3:a3.tmps.size=nt:=k3.size.trans t;have Z:w3.ownsRow B 92 1 k U.length hs:=y.top.kept o (by cases k.ownBlock<;>simp);obtain ⟨i92,i1,i2,i3,i4⟩:=abh;have G:(2:Nat)^40=1099511627776:=by decide
 obtain ⟨u,T,hr5,F,r,_,A⟩:=run_append_own_at (P:=prog) w3 B 109 (o53 3).type 92 i92 (.slice none 0 0) 1 24 VF i1 i2 i3 i4 rfl (by decide) k _ _ Z ⟨w.heap.size,0,none⟩ 1 1 [.slice (some ⟨x,0,none⟩) N c] rfl
  (fun j v hj=>by
   have e:(⟨w.heap.size,0,none⟩:Addr).add j=⟨w.heap.size,0+j,none⟩:=Addr.add_mid ..;rw [e];exact sV D (by simpa using hj)) (fun v f=>by rw [Xxs] at f;subst f;rfl) (by simp only [maxLen];omega) (by omega) (by omega)
 have n:w.grownBy T k.ownBlock:=⟨r.os.trans o.os,r.tape.trans o.tape,r.output.trans o.output,Xqh o.size r.size,fun q hq hne=>(r.block q (by omega) hne).trans (o.block q hq (by simp))⟩
 refine yu (v:=u) (w':=T) (by simp only [execOp,mk,resolve,invoke,builtin,Sem.run_bind,Sem.run_pure,Result.andThen_ok,Xzs,χ,Xjd,H,M,hr5]) ?_;have k4:=k3.put (d:=50) (v:=u) (by decide);have R:(a3.put (some 50) u).eval (.tmp 50)=u:=by rw [bf (by omega),if_pos rfl]
 generalize a3.put (some 50) u=a4 at k4 R ⊢;have hs4:a4.tmps.size=nt:=k4.size.trans t;refine yu (v:=u) (w':=T) (by simp only [execOp,mk,R,Sem.run_pure]) ?_;have k5:=k4.put (d:=6) (v:=u) (by decide);have e6:(a4.put (some 6) u).eval (.tmp 6)=u:=by rw [bf (by omega),if_pos rfl]
 have K:w.heap.size≤T.heap.size:=n.size;have up:∀ b,ww g m S w b→ww g m S T b:=fun b W=> ⟨Xqd W.lt K,W.blk,W.clr⟩
 have hl:=y.len;have X:∀ (i:Nat) (v:Value),hs[i]? =some v→v.ownBlock=none∨v.ownBlock ≠ k.ownBlock:=fun i v f=>by
  cases z:v.ownBlock with
  |none=>exact .inl rfl
  |some b=>exact .inr fun e=>(y.offR i v b f z).2 e.symm
 refine hQ u _ _ k5 e6 K n.os n.tape n.output (fun q hq=> ?_) ⟨hs++ [.slice (some ⟨x,0,none⟩) N c],⟨?_,fun b z=> ?_,fun i l' v p f=> ?_,fun i v b f z=> ?_,fun i j v V f J hij=> ?_⟩⟩
 ·by_cases e:k.ownBlock=some q
  ·exact .inr ⟨y.off q e,(y.top.lt q e).1⟩
  ·exact .inl (n.block q hq fun h=>e h.symm)
 ·rw [ο];exact F
 ·rcases A with h|h
  ·exact up b (y.off b (h ▸ z))
  ·rw [h] at z;cases z;exact ww.new hS (by omega) (F.lt _ h).2
 ·by_cases hi:i<U.length
  ·rw [Xqa hi] at p;rw [Xqa (by omega)] at f;exact (y.row i l' v p f).imp fun rt hr=>hr.kept n (X i v f)
  ·rw [Xqz (by omega)] at p f;have h0:i - U.length=0:=by
    have:=(List.getElem?_eq_some_iff.1 p).1;simp at this;omega
   rw [h0] at p;rw [hl,h0] at f;cases p;cases f;exact hrow.imp fun rt hr=>hr.kept n (.inr fun e=>hxo e.symm)
 ·have h9:ww g m S w b∧k.ownBlock ≠ some b:=by
   by_cases hi:i<hs.length
   ·rw [Xqa hi] at f;exact y.offR i v b f z
   ·rw [Xqz (by omega)] at f;have h0:i - hs.length=0:=by
     have:=(List.getElem?_eq_some_iff.1 f).1;simp at this;omega
    rw [h0] at f;cases f;cases z;exact ⟨hx,hxo⟩
  refine ⟨up b h9.1, ?_⟩;rcases A with h|h
  ·rw [h];exact h9.2
  ·rw [h];intro e;cases e;have:=h9.1.lt;omega
 ·have key:∀ (i:Nat) (v:Value),(hs++ [Value.slice (some ⟨x,0,none⟩) N c])[i]? =some v→(i<hs.length∧hs[i]? =some v)∨(i=hs.length∧v= .slice (some ⟨x,0,none⟩) N c):=fun i v f=>by
   by_cases hi:i<hs.length
   ·rw [Xqa hi] at f;exact .inl ⟨hi,f⟩
   ·rw [Xqz (by omega)] at f;have h0:i - hs.length=0:=by
     have:=(List.getElem?_eq_some_iff.1 f).1;simp at this;omega
    rw [h0] at f;cases f;exact .inr ⟨by omega,rfl⟩
  rcases key i v f with ⟨h1,G⟩|⟨h1,G⟩
  ·rcases key j V J with ⟨Y,C⟩|⟨Y,C⟩
   ·exact y.dis i j v V G C hij
   ·subst C;exact .inr (hxr i v G)
  ·rcases key j V J with ⟨Y,C⟩|⟨Y,C⟩
   ·subst G;exact .inr fun e=>hxr j V C e.symm
   ·omega
theorem Rl {g:bP} {m:aI} {S:aB}:∀ {l:List Bool} {vs:List Value},aX g m S (eF l) vs→vs=P8 l
 | [],vs,h=>by cases vs with|nil=>rfl|cons _ _=>simp [eF,aX] at h
 | b::l,vs,h=>by
  cases vs with
  |nil=>simp [eF,aX] at h
  |cons v vs=>
   unfold eF at h;rw [χ] at h;simp only [aX,VR,PR] at h;have e:=Rl (l:=l) h.2;rw [h.1,e];rfl
def d5S (L:Lw) (a b c:Bool) (s:Int) (cs:List Cl) (k:Nat) (ov:Value):St:=(D6 s (.sl (cL cs) cs.length false) (.raw ov) k (L.c a b c))
def d5R (L:Lw) (a b c:Bool) (s:Int) (cs:List Cl) (k:Nat) (ov:Value) (l:List Bool):St:=(Pq s (.sl (cL cs) cs.length false) (.raw ov) k cs.length (L.c a b c) (eF l))
theorem w12 {nt:Nat} (hn:101≤nt) (L:Lw) (a b c:Bool) (s:Int) (cs:List Cl) (k:Nat) (G:Value) (l:List Bool) (U:List (List Bool)) (hl:l.length=cs.length) (h0:0<cs.length) (hU:U.length<2^40):
  aA prog ap [] nt (eQ 12 (ae f53)) (d5R L a b c s cs k G l) (JB 92 G U) .normal (fun f=>d5S L a b c s cs k f) (fun f=>JB 92 f (U++ [l])):=by
 intro hmd m0 S0 w0 m S w a1 p z ⟨hs,hj⟩ Q hQ;unfold d5R at p z hj;dsimp only at p z hj;have j:AM.ag [(0,(⟨L.c a b c,0,false,0,0,true⟩:aK)),(1,⟨eF l,0,false,0,1,true⟩)] 1=some ⟨eF l,0,false,0,1,true⟩:=rfl;have e6:=z.env 6;have e8:=z.env 8;have t6:dE.get [(1,AV.int .i64 s),(2,.ptr 0 0 0),(5,.sl (cL cs) cs.length false),(6,.raw G),(7,.int .i64 (k:Int)),(8,.ref 1 0 0 cs.length)] 6= .raw G:=rfl;have t8:dE.get [(1,AV.int .i64 s),(2,.ptr 0 0 0),(5,.sl (cL cs) cs.length false),(6,.raw G),(7,.int .i64 (k:Int)),(8,.ref 1 0 0 cs.length)] 8= .ref 1 0 0 cs.length:=rfl;rw [t6] at e6;rw [t8] at e8;simp only [VR,PR] at e6;simp only [VR] at e8;obtain ⟨B,O,_,_,N⟩:=e8;rw [j] at O;cases O;obtain ⟨o,R,hv2,hv3,_,_⟩:=N rfl;have hBR:=z.srel.blk 1 _ j;obtain ⟨⟨cur,ty,vs,rest,k1,k2,k3,k4,k5,k6⟩,k7,k8⟩:=hBR;have V:=k1.cells (by decide:(1:Nat) ≠ dP);have hvs:=Rl k4;have ho:o=0:=by
  have:=hv3 (by omega);simpa using this
 subst ho;have hc0:(m 1).2 - 0=(m 1).2:=by omega
 rw [hc0] at R;have hlt:=z.srel.lt j;have hbl:w0.heap.size≤(m 1).1:=by
  rcases p.img 1 _ j with D|⟨B0,D,_⟩
  ·exact D
  ·cases D
 have T:∀ o,S (m 1).1 o=none:=fun o=>by
  cases hs:S (m 1).1 o with
  |none=>rfl
  |some v=>
   have:=(z.srel.own 1 _ j o v hs).1;cases this
 have n:∀ x C,AM.ag [(0,(⟨L.c a b c,0,false,0,0,true⟩:aK))] x=some C→AM.ag [(0,(⟨L.c a b c,0,false,0,0,true⟩:aK)),(1,⟨eF l,0,false,0,1,true⟩)] x=some C∧x ≠ 1:=fun x C h=>by
  rcases Fv h with ⟨D,r⟩|⟨_,r⟩
  ·subst D;subst r;exact ⟨rfl,by decide⟩
  ·cases r
 have I:=z.dropP (env':= [(1,.int .i64 s),(2,.ptr 0 0 0),(5,.sl (cL cs) cs.length false),(6,.raw G),(7,.int .i64 (k:Int))]) (hp':= [(0,⟨L.c a b c,0,false,0,0,true⟩)]) (fun x C h=>(n x C h).1) (fun x C h hp=>by
  rcases Fv h with ⟨D,r⟩|⟨_,r⟩
  ·subst r;cases hp
  ·cases r) (fun t=>by
  have keep:∀ (q:Nat) (x:AV) (A:dE),AM.ag A q=some x→A.get q=x:=fun q x A h=>by simp [dE.get,h]
  by_cases D:t=1
  ·subst D;exact .inr ⟨rfl,fun y F=>by cases F⟩
  by_cases r:t=2
  ·subst r;refine .inr ⟨rfl,fun y F=> ?_⟩;have:y=0:=by simpa [dE.get,AM.ag,cZ] using F
   subst this;rfl
  by_cases h5:t=5
  ·subst h5;exact .inr ⟨rfl,fun y F=>by cases F⟩
  by_cases h6:t=6
  ·subst h6;exact .inr ⟨rfl,fun y F=>by cases F⟩
  by_cases h7:t=7
  ·subst h7;exact .inr ⟨rfl,fun y F=>by cases F⟩
  exact .inl (by simp [dE.get,AM.ag,gG (Ne.symm D),gG (Ne.symm r),gG (Ne.symm h5),gG (Ne.symm h6),gG (Ne.symm h7)]))
 have W:=p.drop (hp':= [(0,⟨L.c a b c,0,false,0,0,true⟩)]) (fun x C h=>(n x C h).1) fun x B0 C hx hC=>by cases hx
 have H:∀ u B2,AM.ag [(0,(⟨L.c a b c,0,false,0,0,true⟩:aK))] u=some B2→∃ b0 B0,AM.ag [(0,(⟨L.c a b c,0,false,0,0,true⟩:aK)),(1,⟨eF l,0,false,0,1,true⟩)] b0=some B0∧(m u).1=(m b0).1:=fun u B2 h=> ⟨u,B2,(n u B2 h).1,rfl⟩
 have hj2:JBh 92 G U hs w0.heap.size (AM.ag [(0,(⟨L.c a b c,0,false,0,0,true⟩:aK))]) m S w:=⟨hj.top,fun u h=>(hj.off u h).sub H,hj.row,fun i v u N h=> ⟨(hj.offR i v u N h).1.sub H,(hj.offR i v u N h).2⟩,hj.dis⟩
 have hx:ww (AM.ag [(0,(⟨L.c a b c,0,false,0,0,true⟩:aK))]) m S w (m 1).1:=⟨hlt,fun x C h e1=>by
  obtain ⟨D,r⟩:=n x C h;exact r (z.srel.inj x 1 C _ D j e1),T⟩
 have X:w.ownsRow w0.heap.size ty 1 (.slice (some ⟨(m 1).1,0,none⟩) cs.length (m 1).2) l.length (P8 l):=by
  obtain ⟨k61,k62⟩:=k6 (show (0:Nat)<1 by decide) (show (1:Nat) ≠ dP by decide);have hc:cs.length≤(m 1).2:=by omega
  refine ⟨by rw [Gm];omega,.inr ⟨_,_,cur,by rw [hl],hbl,V,by rw [hl];exact hc,k62,k61, ?_⟩⟩;rw [k2,hvs];exact Xq8 (by rw [Gm];omega)
 refine abN hn z.size hj2 I.srel hU p.size ⟨ty,X⟩ hx (fun e=>(hj.off _ e).blk 1 _ j rfl) (fun i v N e=>(hj.offR i v _ N e).1.blk 1 _ j rfl) e6 R fun f a' w' K h6' hsz hos htape Y J hj'=> ?_
 have P:Fr (aC []) m0 S0 w0 (AM.ag [(0,(⟨L.c a b c,0,false,0,0,true⟩:aK))]) m S w':=by
  refine W.other hsz hos htape Y (fun q hq=> ?_) fun u B2 Z=> ?_
  ·rcases J q (Xqd hq p.size) with h|⟨_,h⟩
   ·exact h
   ·omega
  ·rcases J _ (I.srel.lt Z) with h|⟨h,_⟩
   ·exact h
   ·exact absurd rfl (h.blk u B2 Z)
 have M:=I.other fun q hq=>(J q hq).imp id fun h=>h.1
 refine hQ f m S w' a' hmd P ⟨M.srel,fun t=> ?_, ?_,K.size.trans z.size⟩ hj'
 ·show VR (AM.ag [(0,(⟨L.c a b c,0,false,0,0,true⟩:aK))]) m S (dE.get [(1,AV.int .i64 s),(2,.ptr 0 0 0),(5,.sl (cL cs) cs.length false),(6,.raw f),(7,.int .i64 (k:Int))] t) _;by_cases ht:t ∈ Wv
  ·by_cases h6:t=6
   ·subst h6;show VR _ m S (.raw f) _;simp only [VR,PR];exact h6'
   ·have:dE.get [(1,AV.int .i64 s),(2,.ptr 0 0 0),(5,.sl (cL cs) cs.length false),(6,.raw f),(7,.int .i64 (k:Int))] t= .dead:=by
     simp only [Wv,Xqu,Xxb,or_false] at ht;rcases ht with rfl|rfl|rfl|rfl|rfl
     ·exact absurd rfl h6
     all_goals rfl
    rw [this];simp only [VR]
  ·have h0:t ≠ 6:=fun e=>ht (e ▸ Xqs ..)
   have e:=M.env t;have e3:=K.get t ht;have e2:a'.tmps.getD t undef=a1.tmps.getD t undef:=e3;rw [e2];have e4:dE.get [(1,AV.int .i64 s),(2,.ptr 0 0 0),(5,.sl (cL cs) cs.length false),(6,.raw f),(7,.int .i64 (k:Int))] t=dE.get [(1,AV.int .i64 s),(2,.ptr 0 0 0),(5,.sl (cL cs) cs.length false),(6,.raw G),(7,.int .i64 (k:Int))] t:=by
    simp [dE.get,AM.ag,gG (Ne.symm h0)]
   rw [e4];exact e
 ·rw [K.dfs];exact M.dfs
end Go.Proofs.Tryz
set_option maxRecDepth 100000
set_option linter.unusedVariables false
open Go AM
open Go.ChangeMaps (setBlock)
namespace Go.Proofs.Tryz
def mg (d:Option Nat) (p:Op) (g:Option (Nat × Bool)) (s:Oper):Oper:={s with dst:=d,op:=p,guard:=g}
structure Xa (nt:Nat) (dl:List Nat) (a0:Act) (E:Nat→Value) (a:Act):Prop where
 size:nt≤a.tmps.size
 get:∀ t,t<nt→a.eval (.tmp t)=E t
 ka:Ka dl a0 a
def up (E:Nat→Value) (d:Nat) (v:Value):Nat→Value:=fun t=>match Δ t d with|true=>v|false=>E t
theorem Xa.put {nt:Nat} {dl:List Nat} {f:Act} {E:Nat→Value} {a:Act} (h:Xa nt dl f E a) {d:Nat} (j:d<nt) (k:d ∈ dl) (v:Value):Xa nt dl f (up E d v) (a.put (some d) v):=by
 refine ⟨by rw [aG];exact h.size,fun t i=> ?_,h.ka.put k⟩;rw [bf (Xqd j h.size)];unfold up;by_cases e:t=d
 ·subst e;simp
 ·rw [if_neg e,gG e];exact h.get t i
theorem Xa.base {nt:Nat} {dl:List Nat} {a:Act} (h:nt≤a.tmps.size):Xa nt dl a (fun t=>a.eval (.tmp t)) a:=⟨h,fun _ _=>rfl,Ka.refl _ _⟩
theorem Xa.say {nt:Nat} {dl:List Nat} {f a:Act} {E:Nat→Value} (h:Xa nt dl f E a) {d:Nat} {v:Value} (j:E d=v):Xa nt dl f (up E d v) a:=
 ⟨h.size,fun t i=>by
  unfold up;by_cases e:t=d
  ·subst e;simp;exact (h.get t i).trans j
  ·rw [gG e];exact h.get t i,h.ka⟩
def oE (E:Nat→Value):Operand→Value
 | .tmp t=>E t
 | .const v=>v
 |_=>undef
def oB (nt:Nat):Operand→Bool
 | .tmp t=>Nat.blt t nt
 | .const _=>true
 |_=>false
theorem Xa.ev {nt:Nat} {dl:List Nat} {f:Act} {E:Nat→Value} {a:Act} (h:Xa nt dl f E a) {x:Operand} (e:oB nt x=true):a.eval x=oE E x:=by
 cases x with
 |tmp t=>exact h.get t (dR e)
 |const v=>rfl
 |_=>cases e
def gB (ops:Array Oper) (E:Nat→Value) (nt:Nat):Option (Nat × Bool)→Option Bool
 |none=>some true
 | some (j,b)=>match (ops[j]?).bind (·.dst) with
  | some d=>match Nat.blt d nt with
   |true=>match E d with
    | .bool c=>some (c==b)
    |_=>some false
   |false=>none
  |none=>none
section
variable {ops:Array Oper} {w:World} {Q:Act→Prop} {nt:Nat} {dl:List Nat} {a0:Act} {E:Nat→Value} {rest:List Oper} {d:Nat} {g:Option (Nat × Bool)} {s:Oper}
def WE (ops:Array Oper) (w:World) (Q:Act→Prop) (nt:Nat) (dl:List Nat) (a0:Act) (l:List Oper) (E:Nat→Value):Prop:=∀ a,Xa nt dl a0 E a→wpStill prog ops w Q l a
theorem Yy {p:Op} {c:Bool} {a:Act} (h:Xa nt dl a0 E a) (e:gB ops E nt g=some c):Region.wanted (mg (some d) p g s) (yielded ops a.tmps)=c:=by
 cases g with
 |none=>cases e;rfl
 | some q=>
  obtain ⟨j,b⟩:=q;unfold gB at e;simp only at e;unfold Region.wanted mg yielded;simp only;generalize (ops[j]?).bind (·.dst)=od at e;cases od with
  |none=>cases e
  | some d2=>
   simp only at e;split at e
   ·rename_i f;have f:=dR f;have l:=h.get d2 f;have n:a.tmps[d2]? =some (E d2):=by
     have:a.tmps[d2]? =some (a.tmps.getD d2 undef):=by
      have hs:d2<a.tmps.size:=Xqd f h.size;simp [Array.getD,hs]
     rw [this];exact congrArg some l
    simp only [Option.bind_some,n];generalize E d2=x at e ⊢;split at e
    ·cases e;simp
    ·rename_i k;cases e;split
     ·rename_i m i;simp only [Option.some.injEq] at i;exact absurd i (k m)
     ·rfl
   ·cases e
theorem QP {p:Op} {v:Value} (f:gB ops E nt g=some true) (i:d<nt) (k:d ∈ dl) (j:∀ a,Xa nt dl a0 E a→(execOp a.eval (mg (some d) p g s)).run prog w= .ok (.value v) w) (h:WE ops w Q nt dl a0 rest (up E d v)):WE ops w Q nt dl a0 (mg (some d) p g s::rest) E:=by
 intro a e;unfold wpStill;rw [if_pos (Yy e f)];unfold Oper.still;rw [j a e];rw [Oper.stillUpon_value];exact h _ (e.put i k v)
theorem akc {p:Op} (f:gB ops E nt g=some false) (i:d<nt) (j:d ∈ dl) (h:WE ops w Q nt dl a0 rest (up E d undef)):WE ops w Q nt dl a0 (mg (some d) p g s::rest) E:=by
 intro a e;unfold wpStill;rw [if_neg (by rw [Yy e f];decide)];exact h _ (e.put i j undef)
theorem aj9 {x:Operand} (i:gB ops E nt g=some true) (j:d<nt) (k:d ∈ dl) (e:oB nt x=true) (h:WE ops w Q nt dl a0 rest (up E d (oE E x))):WE ops w Q nt dl a0 (mg (some d) (.move x) g s::rest) E:=
 QP i j k (fun a f=>by simp only [execOp,mg,f.ev e,Sem.run_pure]) h
theorem UI {x y z:Operand} {b:Bool} (k:gB ops E nt g=some true) (m:d<nt) (n:d ∈ dl) (j:oB nt x=true) (f:oB nt y=true) (l:oB nt z=true) (i:oE E x= .bool b) (h:WE ops w Q nt dl a0 rest (up E d (if b then oE E y else oE E z))):WE ops w Q nt dl a0 (mg (some d) (.pick x y z) g s::rest) E:=
 QP k m n (fun a e=>by simp only [execOp,mg,e.ev j,e.ev f,e.ev l,i];cases b<;>rfl) h
theorem acO {w:World} {u n N c:Nat} (j:n<N):(Instr.indexAt 109 (.slice (some ⟨u,0,none⟩) N c) (.int .i64 (n:Int))).run prog w= .ok (.pointer (some ⟨u,n,none⟩)) w:=by
 obtain ⟨i,h,k,f,_⟩:=abh;have h0:¬ ((n:Int)<0):=by omega
 have e:(n:Int)<(N:Int):=by omega
 simp [Instr.indexAt,asIntOf,run_underlying VF,h0,e,j,Go.sizeOf,typeInfo,h,f,Addr.add_mid]
theorem ain {w:World} {u n N c:Nat} (j:n<N):(Instr.indexAt 92 (.slice (some ⟨u,0,none⟩) N c) (.int .i64 (n:Int))).run prog w= .ok (.pointer (some ⟨u,n,none⟩)) w:=by
 obtain ⟨i,h,k,f,_⟩:=in4;have h0:¬ ((n:Int)<0):=by omega
 have e:(n:Int)<(N:Int):=by omega
 simp [Instr.indexAt,asIntOf,run_underlying akh,h0,e,j,Go.sizeOf,typeInfo,h,f,Addr.add_mid]
theorem ake:ap.tyAt 92=some ⟨.slice 4,1,24,[.nilS],[.sl],false⟩:=by kernel_rfl
theorem tc4:ap.tyAt 4=some ⟨.bool,1,1,[.bool false],[.bool],true⟩:=by kernel_rfl
theorem ajE {w:World} (f:dF prog ap) {u n:Nat} {v:Value} (h:w.cell? ⟨u,n,none⟩=some v):(Instr.loadAt 92 (.pointer (some ⟨u,n,none⟩))).run prog w= .ok v w:=by
 obtain ⟨i,d,z,o⟩:=bW f ake;obtain ⟨cv,p,l⟩:=jX (g:=fun _=>none) (m:=fun _=>(0,0)) (S:=fun _ _=>none) (w:=w) o (us:= [v]) (cs:= [.raw v]) (k:=u) (a:=n) rfl
  (fun j u e=>by
   match j,e with
   |0,e=>simp at e;subst e;exact h) (by simp [aX,VR,PR]) (v:= .raw v) rfl
 simp only [VR,PR] at l;subst l;simpa [Instr.loadAt,Instr.sureAddr] using p
theorem ld4 {w:World} (f:dF prog ap) {u n:Nat} {v:Value} (h:w.cell? ⟨u,n,none⟩=some v):(Instr.loadAt 4 (.pointer (some ⟨u,n,none⟩))).run prog w= .ok v w:=by
 obtain ⟨i,d,z,o⟩:=bW f tc4;obtain ⟨cv,p,l⟩:=jX (g:=fun _=>none) (m:=fun _=>(0,0)) (S:=fun _ _=>none) (w:=w) o (us:= [v]) (cs:= [.raw v]) (k:=u) (a:=n) rfl
  (fun j u e=>by
   match j,e with
   |0,e=>simp at e;subst e;exact h) (by simp [aX,VR,PR]) (v:= .raw v) rfl
 simp only [VR,PR] at l;subst l;simpa [Instr.loadAt,Instr.sureAddr] using p
theorem ab2 {x y:Operand} {u k n c:Nat} (m:gB ops E nt g=some true) (l:d<nt) (p:d ∈ dl) (i:oB nt x=true) (f:oB nt y=true) (hs:oE E x= .slice (some ⟨u,0,none⟩) n c) (j:oE E y= .int .i64 (k:Int)) (o:k<n) (h:WE ops w Q nt dl a0 rest (up E d (.pointer (some ⟨u,k,none⟩)))):WE ops w Q nt dl a0 (mg (some d) (.indexAddr 109 x y) g s::rest) E:=
 QP m l p (fun a e=>by simp only [execOp,mg,e.ev i,e.ev f,hs,j,Sem.run_bind,acO o,Result.andThen_ok,Sem.run_pure]) h
theorem ae4 {x y:Operand} {u k n c:Nat} (m:gB ops E nt g=some true) (l:d<nt) (p:d ∈ dl) (i:oB nt x=true) (f:oB nt y=true) (hs:oE E x= .slice (some ⟨u,0,none⟩) n c) (j:oE E y= .int .i64 (k:Int)) (o:k<n) (h:WE ops w Q nt dl a0 rest (up E d (.pointer (some ⟨u,k,none⟩)))):WE ops w Q nt dl a0 (mg (some d) (.indexAddr 92 x y) g s::rest) E:=
 QP m l p (fun a e=>by simp only [execOp,mg,e.ev i,e.ev f,hs,j,Sem.run_bind,ain o,Result.andThen_ok,Sem.run_pure]) h
theorem ae5 (e:dF prog ap) {x:Operand} {u k:Nat} {v:Value} (m:gB ops E nt g=some true) (j:d<nt) (n:d ∈ dl) (i:oB nt x=true) (hs:oE E x= .pointer (some ⟨u,k,none⟩)) (f:w.cell? ⟨u,k,none⟩=some v) (h:WE ops w Q nt dl a0 rest (up E d v)):WE ops w Q nt dl a0 (mg (some d) (.load 92 x) g s::rest) E:=
 QP m j n (fun a l=>by simp only [execOp,mg,l.ev i,hs,Sem.run_bind,ajE e f,Result.andThen_ok,Sem.run_pure]) h
theorem aj8 (e:dF prog ap) {x:Operand} {u k:Nat} {v:Value} (m:gB ops E nt g=some true) (j:d<nt) (n:d ∈ dl) (i:oB nt x=true) (hs:oE E x= .pointer (some ⟨u,k,none⟩)) (f:w.cell? ⟨u,k,none⟩=some v) (h:WE ops w Q nt dl a0 rest (up E d v)):WE ops w Q nt dl a0 (mg (some d) (.load 4 x) g s::rest) E:=
 QP m j n (fun a l=>by simp only [execOp,mg,l.ev i,hs,Sem.run_bind,ld4 e f,Result.andThen_ok,Sem.run_pure]) h
end
noncomputable def TE:List Oper:=uu (eQ 22 (ae f53))
noncomputable def uU (k:Nat):Oper:=TE.getD k default
theorem Xv:eQ 22 (ae f53)= .region 22 TE.toArray true:=by kernel_rfl
theorem OM:TE= [mg (some 69) (.move (.tmp 6)) none (uU 0),
 mg (some 70) (.move (.tmp 12)) none (uU 1),
 mg (some 71) (.indexAddr 109 (.tmp 69) (.tmp 70)) none (uU 2),
 mg (some 72) (.load 92 (.tmp 71)) none (uU 3),
 mg (some 73) (.move (.tmp 13)) none (uU 4),
 mg (some 74) (.move (.tmp 6)) none (uU 5),
 mg (some 75) (.move (.tmp 12)) none (uU 6),
 mg (some 76) (.indexAddr 109 (.tmp 74) (.tmp 75)) none (uU 7),
 mg (some 77) (.load 92 (.tmp 76)) none (uU 8),
 mg (some 78) (.move (.tmp 13)) none (uU 9),
 mg (some 79) (.indexAddr 92 (.tmp 77) (.tmp 78)) none (uU 10),
 mg (some 80) (.load 4 (.tmp 79)) none (uU 11),
 mg (some 81) (.move (.tmp 80)) none (uU 12),
 mg (some 82) (.move (.tmp 6)) (some (12,false)) (uU 13),
 mg (some 83) (.move (.tmp 12)) (some (12,false)) (uU 14),
 mg (some 84) (.indexAddr 109 (.tmp 82) (.tmp 83)) (some (12,false)) (uU 15),
 mg (some 85) (.load 92 (.tmp 84)) (some (12,false)) (uU 16),
 mg (some 86) (.move (.tmp 11)) (some (12,false)) (uU 17),
 mg (some 87) (.indexAddr 92 (.tmp 85) (.tmp 86)) (some (12,false)) (uU 18),
 mg (some 88) (.load 4 (.tmp 87)) (some (12,false)) (uU 19),
 mg (some 89) (.move (.tmp 88)) (some (12,false)) (uU 20),
 mg (some 90) (.move (.tmp 6)) (some (20,true)) (uU 21),
 mg (some 91) (.move (.tmp 11)) (some (20,true)) (uU 22),
 mg (some 92) (.indexAddr 109 (.tmp 90) (.tmp 91)) (some (20,true)) (uU 23),
 mg (some 93) (.load 92 (.tmp 92)) (some (20,true)) (uU 24),
 mg (some 94) (.move (.tmp 13)) (some (20,true)) (uU 25),
 mg (some 95) (.indexAddr 92 (.tmp 93) (.tmp 94)) (some (20,true)) (uU 26),
 mg (some 96) (.load 4 (.tmp 95)) (some (20,true)) (uU 27),
 mg (some 97) (.pick (.tmp 89) (.tmp 96) (.const (.bool false))) (some (12,false)) (uU 28),
 mg (some 98) (.pick (.tmp 81) (.const (.bool true)) (.tmp 97)) none (uU 29),
 mg (some 99) (.indexAddr 92 (.tmp 72) (.tmp 73)) none (uU 30),
 mg none (.store 4 (.tmp 99) (.tmp 98)) none (uU 31)]:=by kernel_rfl
theorem Ur:Region.lexTailB .any TE.toArray 31=true:=by kernel_rfl
theorem QN {w:World} {u:Nat} {cur h:Array Value} {e:TypeId} (f:w.heap[u]? =some (.cells cur e (0,0))):w.setRow u h=setBlock w u (.cells h e (0,0)):=by
 unfold World.setRow setBlock;congr 1;refine Array.ext_getElem? fun k=> ?_
 rw [Array.getElem?_modify,Array.getElem?_setIfInBounds];by_cases hk:u=k
 ·subst hk;rw [if_pos rfl,if_pos rfl,f];have i:=(Array.getElem?_eq_some_iff.1 f).1;simp [i]
 ·rw [if_neg hk,if_neg hk]
theorem st4 {w:World} {u n:Nat} {ty:TypeId} {hs:List Value} {b:Bool} (h:w.heap[u]? =some (.cells hs.toArray ty (0,0))) (l:n<hs.length):(Instr.storeAt 4 (.pointer (some ⟨u,n,none⟩)) (.bool b)).run prog w= .ok () (setBlock w u (.cells (hs.set n (.bool b)).toArray ty (0,0))):=by
 obtain ⟨i,k,m,j,_⟩:=in4;have f:=run_storeCells_at prog u n ty [.bool b] 0 hs.toArray w h (by simp;omega) (by simp [Value.oneCell']);simp [Instr.storeAt,Instr.sureAddr,storeVar,Go.sizeOf,typeInfo,k,j,Value.cells,f];have e:ξ n hs++Value.bool b::θ (n+1) hs=hs.set n (.bool b):=by rw [Xxu,if_pos l]
 rw [e];exact QN h
abbrev Qe:List Nat:=(Xqf 31).map (· +69)
set_option maxHeartbeats 1000000 in
theorem abO (o:dF prog ap) (m:prog.follows .mixedOrders=true) {w:World} {a:Act} {u j p n c ck x q l k:Nat} (r:101≤a.tmps.size) {f h i:Bool} {ty:TypeId} {cur:List Value}
  (h6:a.eval (.tmp 6)= .slice (some ⟨u,0,none⟩) n c) (h11:a.eval (.tmp 11)= .int .i64 (l:Int)) (h12:a.eval (.tmp 12)= .int .i64 (q:Int)) (h13:a.eval (.tmp 13)= .int .i64 (k:Int))
  (hk:q<n) (hm:l<n) (hj:k<n)
  (ck0:w.cell? ⟨u,q,none⟩=some (.slice (some ⟨j,0,none⟩) n ck)) (cm0:w.cell? ⟨u,l,none⟩=some (.slice (some ⟨p,0,none⟩) n x))
  (c1:w.cell? ⟨j,k,none⟩=some (.bool f)) (c2:w.cell? ⟨j,l,none⟩=some (.bool h)) (c3:w.cell? ⟨p,k,none⟩=some (.bool i))
  (hb:w.heap[j]? =some (.cells cur.toArray ty (0,0))) (hcl:k<cur.length) {Q:Exit→Act→World→Prop}
  (hQ:∀ a',Ka Qe a a'→Q .normal a' (setBlock {w with drawn:=w.drawn+1} j (.cells (cur.set k (.bool (f||h && i))).toArray ty (0,0)))):
  (eQ 22 (ae f53)).wp prog Q a w:=by
 rw [Xv];refine wp_region_still_tail 31 m Ur ?_;have X:=((((Xa.base (nt:=101) (dl:=Qe) r).say (d:=13) h13).say (d:=12) h12).say (d:=11) h11).say (d:=6) h6;generalize e:({w with drawn:=w.drawn+1}:World)=w1 at hQ ⊢;have D:w1.cell? ⟨u,q,none⟩=some (.slice (some ⟨j,0,none⟩) n ck):=by rw [← e];exact ck0
 have B:w1.cell? ⟨u,l,none⟩=some (.slice (some ⟨p,0,none⟩) n x):=by rw [← e];exact cm0
 have C:w1.cell? ⟨j,k,none⟩=some (.bool f):=by rw [← e];exact c1
 have F:w1.cell? ⟨j,l,none⟩=some (.bool h):=by rw [← e];exact c2
 have G:w1.cell? ⟨p,k,none⟩=some (.bool i):=by rw [← e];exact c3
 have z:w1.heap[j]? =some (.cells cur.toArray ty (0,0)):=by rw [← e];exact hb
 clear ck0 cm0 c1 c2 c3 hb e h6 h11 h12 h13;have t:∀ (E:Nat→Value),E 99= .pointer (some ⟨j,k,none⟩)→E 98= .bool (f||h && i)→WE TE.toArray w1 (fun a'=>wpList prog TE.toArray Q (TE.drop 31) a' w1) 101 Qe a [] E:=by
  intro E y A a' X;unfold wpStill;rw [OM];refine mku (w':=setBlock w1 j (.cells (cur.set k (.bool (f||h && i))).toArray ty (0,0))) ?_ (hQ a' X.ka);simp only [execOp,mk,X.get 99 (by decide),X.get 98 (by decide),y,A,Sem.run_bind,st4 z hcl,Result.andThen_ok,Sem.run_pure]
 refine (?_:WE TE.toArray w1 _ 101 Qe a (TE.take 31) _) a X;have v:TE.take 31=TE.take 31:=rfl
 conv at v=>rhs;rw [OM]
 rw [v];simp only [List.take_succ_cons,Xj9];cases f<;>cases h
 all_goals
  repeat first
   |refine aj9 rfl (by decide) (by decide) rfl ?_
   |refine akc rfl (by decide) (by decide) ?_
   |refine ab2 rfl (by decide) (by decide) rfl rfl rfl rfl (by assumption) ?_
   |refine ae4 rfl (by decide) (by decide) rfl rfl rfl rfl (by assumption) ?_
   |refine ae5 o rfl (by decide) (by decide) rfl rfl (by assumption) ?_
   |refine aj8 o rfl (by decide) (by decide) rfl rfl (by assumption) ?_
   |refine UI (b:=true) rfl (by decide) (by decide) rfl rfl rfl rfl ?_
   |refine UI (b:=false) rfl (by decide) (by decide) rfl rfl rfl rfl ?_
 all_goals exact t _ rfl rfl
end Go.Proofs.Tryz
set_option maxRecDepth 100000
set_option linter.unusedVariables false
open Go AM
open Go.ChangeMaps (setBlock)
namespace Go.Proofs.Tryz
def kT (U:List (List Bool)) (k j:Nat):Bool:=(U.getD k []).getD j false
def upd (m k j:Nat) (U:List (List Bool)):List (List Bool):=U.set k ((U.getD k []).set j (kT U k j||kT U k m && kT U m j))
def uq (n:Nat) (U:List (List Bool)):Prop:=U.length=n∧∀ l ∈ U,l.length=n
theorem uq.row {n:Nat} {U:List (List Bool)} (h:uq n U) {k:Nat} (f:k<n):∃ l,U[k]? =some l∧l.length=n∧U.getD k []=l:=by
 have e:k<U.length:=by rw [h.1];exact f
 exact ⟨U[k],ζ e,h.2 _ (Xx1 e),by rw [π,ζ e];rfl⟩
theorem uq.upd {n m k j:Nat} {U:List (List Bool)} (h:uq n U) (i:k<n):uq n (upd m k j U):=by
 obtain ⟨l,p,o,f⟩:=h.row i;refine ⟨by unfold Tryz.upd;rw [Xjb];exact h.1,fun x e=> ?_⟩;unfold Tryz.upd at e;rcases List.mem_or_eq_of_mem_set e with e|e
 ·exact h.2 x e
 ·rw [e,Xjb,f];exact o
def Ld (cs:List Cl) (m k j:Nat) (ov:Value):St:=(D7 (.sl (cL cs) cs.length false) (.raw ov) m k (j:Int))
theorem Dn {w:World} {base:Nat} {e:TypeId} {v:Value} {n:Nat} {i:List Value} (h:w.ownsRow base e 1 v n i) (h0:0<n):∃ g c cur,v= .slice (some ⟨g,0,none⟩) n c∧w.heap[g]? =some (.cells cur e (0,0))∧n≤cur.size∧cur.toList.take n=i∧base≤g:=by
 rcases h.2 with ⟨_,rfl⟩|⟨g,f,cur,k,m,j,o,_,p,l⟩
 ·omega
 ·exact ⟨g,f,cur,k,j,by omega,by simpa using l,m⟩
theorem rY {w:World} {base:Nat} {e:TypeId} {g n c:Nat} {f:List Value} (h:w.ownsRow base e 1 (.slice (some ⟨g,0,none⟩) n c) n f) {i:Nat} {x:Value} (j:f[i]? =some x):w.cell? ⟨g,i,none⟩=some x:=by
 have:=h.cells (g:=g) rfl i x j;have e:(⟨g,0,none⟩:Addr).add i=⟨g,0+i,none⟩:=Addr.add_mid ..;rw [e,Φ] at this;exact this
theorem KW {l:List Bool} {n i:Nat} (f:l.length=n) (e:i<n):(P8 l)[i]? =some (.bool (l.getD i false)):=by
 have h:i<l.length:=by omega
 simp [P8,π,ζ h]
theorem w22 (hap:dF prog ap) (T:prog.follows .mixedOrders=true) {nt:Nat} (hn:101≤nt) (cs:List Cl) (m k j:Nat) (n:Value) (U:List (List Bool)) (hU:uq cs.length U) (hm:m<cs.length) (hk:k<cs.length) (hj:j<cs.length):
  aA prog ap [] nt (eQ 22 (ae f53)) (Ld cs m k j n) (JB 92 n U) .normal (fun _:Unit=>Ld cs m k j n) (fun _=>JB 92 n (upd m k j U)):=by
 intro hmd m0 S0 w0 P S w a1 hfr C ⟨hs,hJ⟩ Q hQ;have e6:=C.env 6;have F:=C.env 11;have D:=C.env 12;have O:=C.env 13;rw [show (Ld cs m k j n).env.get 6= .raw n from rfl] at e6;rw [show (Ld cs m k j n).env.get 11= .int .i64 (m:Int) from rfl] at F;rw [show (Ld cs m k j n).env.get 12= .int .i64 (k:Int) from rfl] at D;rw [show (Ld cs m k j n).env.get 13= .int .i64 (j:Int) from rfl] at O;simp only [VR,PR] at e6 F D O;have hlU:=hU.1;have hlen:=hJ.len;obtain ⟨rk,u1,u2,u3⟩:=hU.row hk;obtain ⟨rm,v1,v2,v3⟩:=hU.row hm;have hkh:k<hs.length:=by omega
 have hmh:m<hs.length:=by omega
 have o:hs[k]? =some hs[k]:=ζ hkh;have N:hs[m]? =some hs[m]:=ζ hmh;generalize hs[k]=vk at o;generalize hs[m]=vm at N;obtain ⟨G,ok⟩:=hJ.row k rk vk u1 o;obtain ⟨tm,om⟩:=hJ.row m rm vm v1 N;rw [u2] at ok;rw [v2] at om;obtain ⟨p,ck,cur,hk1,J,hk3,hk4,hk5⟩:=Dn ok (by omega);obtain ⟨gm,cm,_,hm1,_⟩:=Dn om (by omega);obtain ⟨u,c,_,A,_⟩:=Dn hJ.top (by omega);have y:=hJ.top;subst hk1;subst hm1;rw [A,hlU] at y;have ou:=hJ.offR k _ p o rfl;have hgu:u ≠ p:=fun e=>ou.2 (by rw [A];exact congrArg some e)
 rw [A,hlU] at e6;have hc1:=rY y o;have hc2:=rY y N;have hb1:=rY ok (KW u2 hj);have hb2:=rY ok (KW u2 hm);have hb3:=rY om (KW v2 hj);refine abO hap T (by rw [C.size];exact hn) e6 F D O hk hm hj hc1 hc2 hb1 hb2 hb3 (cur:=cur.toList) (by simpa using J) (by simpa using (by omega:j<cur.size)) fun a' I=> ?_
 have hnew:(kT U k j||kT U k m && kT U m j)=(rk.getD j false||rk.getD m false && rm.getD j false):=by unfold kT;rw [u3,v3]
 rw [← hnew];generalize hnb:(kT U k j||kT U k m && kT U m j)=nb;generalize z:({w with drawn:=w.drawn+1}:World)=w1;have r:w1.heap=w.heap:=by rw [← z]
 have hgs:p<w1.heap.size:=by rw [r];exact (Array.getElem?_eq_some_iff.1 J).1
 have f:w.grownBy (setBlock w1 p (.cells (cur.toList.set j (.bool nb)).toArray G (0,0))) (some p):=by
  have X:=xU (w:=w1) (b:=p) (.cells (cur.toList.set j (.bool nb)).toArray G (0,0));exact ⟨X.os.trans (by rw [← z]),X.tape.trans (by rw [← z]),X.output.trans (by rw [← z]),by rw [← r];exact X.size,fun q K hne=>(X.block q (by rw [r];exact K) hne).trans (by rw [r])⟩
 have Z:(setBlock w1 p (.cells (cur.toList.set j (.bool nb)).toArray G (0,0))).heap.size=w.heap.size:=by simp [setBlock,r]
 have B:(setBlock w1 p (.cells (cur.toList.set j (.bool nb)).toArray G (0,0))).heap[p]? =some (.cells (cur.toList.set j (.bool nb)).toArray G (0,0)):=H8 _ hgs;generalize setBlock w1 p (.cells (cur.toList.set j (.bool nb)).toArray G (0,0))=w2 at f Z B;have W:∀ b,ww (AM.ag (Ld cs m k j n).hp) P S w b→ww (AM.ag (Ld cs m k j n).hp) P S w2 b:=fun b ho=> ⟨by rw [Z];exact ho.lt,ho.blk,ho.clr⟩
 have hJ':JB 92 n (upd m k j U) w0.heap.size (AM.ag (Ld cs m k j n).hp) P S w2:=by
  refine ⟨hs,⟨?_,fun b hb=>W b (hJ.off b hb),fun i l v R H=> ?_,fun i v b H hb=> ⟨W b (hJ.offR i v b H hb).1,(hJ.offR i v b H hb).2⟩,hJ.dis⟩⟩
  ·unfold Tryz.upd;rw [Xjb];exact hJ.top.kept f (.inr fun e=>by rw [A] at e;cases e;exact hgu rfl)
  ·unfold Tryz.upd at R;rw [Xxv] at R;by_cases hi:k=i
   ·subst hi;rw [if_pos rfl,if_pos (by omega),hnb,u3] at R;cases R;rw [o] at H;cases H;obtain ⟨ko1,ko2⟩:=ok;rcases ko2 with ⟨h,_⟩|⟨g1,c1,cur1,q1,q2,q3,q4,q5,q6,q7⟩
    ·cases h
    ·cases q1;rw [J] at q3;cases q3;refine ⟨G,by rw [Gm];omega,.inr ⟨p,ck,_,by rw [Xjb,u2],q2,B,by rw [Xjb];omega,q5,by simpa using q6, ?_⟩⟩;rw [Xjb,u2,Xzc,List.toList_toArray,List.take_set,hk4];unfold P8;rw [List.map_set]
   ·rw [if_neg hi] at R;exact (hJ.row i l v R H).imp fun rt hr=>hr.kept f (by
     rcases hJ.dis i k v _ H o (fun e=>hi e.symm) with h|h
     ·exact .inl h
     ·exact .inr h)
 have Y:∀ q,q<w.heap.size→w2.heap[q]? =w.heap[q]? ∨(ww (AM.ag (Ld cs m k j n).hp) P S w q∧w0.heap.size≤q):=fun q K=>by
  by_cases e:q=p
  ·subst e;exact .inr ⟨ou.1,hk5⟩
  ·exact .inl (f.block q K fun h=>e (by cases h;rfl))
 have V:Fr (aC []) m0 S0 w0 (AM.ag (Ld cs m k j n).hp) P S w2:=by
  refine hfr.other f.size f.os f.tape f.output (fun q K=> ?_) fun b2 B2 hB2=> ?_
  ·rcases Y q (Xqd K hfr.size) with h|⟨_,h⟩
   ·exact h
   ·omega
  ·cases hB2
 have M:=C.other fun q K=>(Y q K).imp id fun h=>h.1
 refine hQ () P S w2 a' hmd V ⟨M.srel,fun t=> ?_, ?_,I.size.trans C.size⟩ hJ'
 ·by_cases ht:t ∈ Qe
  ·have:(Ld cs m k j n).env.get t= .dead:=by
    simp only [Qe,List.mem_map,List.mem_range] at ht;obtain ⟨x,hx,rfl⟩:=ht;have h5:Δ 5 (x+69)=false:=gG (by omega);have h6:Δ 6 (x+69)=false:=gG (by omega);have h11:Δ 11 (x+69)=false:=gG (by omega);have h12:Δ 12 (x+69)=false:=gG (by omega);have h13:Δ 13 (x+69)=false:=gG (by omega);simp [Ld,dE.get,AM.ag,h5,h6,h11,h12,h13]
   rw [this];simp only [VR]
  ·have e:=M.env t;have e3:=I.get t ht;have e2:a'.tmps.getD t undef=a1.tmps.getD t undef:=e3;rw [e2];exact e
 ·rw [I.dfs];exact M.dfs
theorem d8t {nt:Nat} (f:101≤nt) (cs:List Cl) (m k j:Nat) (e:Value) (h:(decide ((j:Int)<(cs.length:Int)))=true):af prog ap [] nt (aU [1,1,1,1,0,1,0,0,1,0,0,1,0,0,1,0,0,1,0,0,0] (ae f53)) ((D7 (.sl (cL cs) cs.length false) (.raw e) m k (j:Int))) .normal ((D7 (.sl (cL cs) cs.length false) (.raw e) m k (j:Int))):=by
 exact pN 53 [] 1 1 (.c (ak h) .nil) (.nil) f
theorem d8f {nt:Nat} (f:101≤nt) (cs:List Cl) (m k j:Nat) (e:Value) (h:(decide ((j:Int)<(cs.length:Int)))=false):af prog ap [] nt (aU [1,1,1,1,0,1,0,0,1,0,0,1,0,0,1,0,0,1,0,0,0] (ae f53)) ((D7 (.sl (cL cs) cs.length false) (.raw e) m k (j:Int))) (.exit 8) ((H_ (.sl (cL cs) cs.length false) (.raw e) m (k:Int))):=by
 exact pN 53 [] 1 0 (.c (au h) .nil) (.nil) f
theorem d8i {nt:Nat} (h:101≤nt) (cs:List Cl) (m k j:Nat) (e:Value) (f:j<2^62):af prog ap [] nt (aU [1,1,1,1,0,1,0,0,1,0,0,1,0,0,1,0,0,1,0,0,1,1] (ae f53)) ((D7 (.sl (cL cs) cs.length false) (.raw e) m k (j:Int))) .normal ((D7 (.sl (cL cs) cs.length false) (.raw e) m k (((j+1):Nat):Int))):=by
 exact pN 53 [] 0 0 .nil (.v 68 (.eq (wpS f)) .nil) h
theorem d8z {nt:Nat} (f:101≤nt) (cs:List Cl) (m k:Nat) (e:Value):af prog ap [] nt (aU [1,1,1,1,0,1,0,0,1,0,0,1,0,0,1,0,0,0] (ae f53)) ((H_ (.sl (cL cs) cs.length false) (.raw e) m (k:Int))) .normal ((D7 (.sl (cL cs) cs.length false) (.raw e) m k 0)):=by
 exact pN 53 [] 0 0 .nil (.nil) f
theorem d6t {nt:Nat} (f:101≤nt) (cs:List Cl) (m k:Nat) (e:Value) (h:(decide ((k:Int)<(cs.length:Int)))=true):af prog ap [] nt (aU [1,1,1,1,0,1,0,0,1,0,0,1,0,0,0] (ae f53)) ((H_ (.sl (cL cs) cs.length false) (.raw e) m (k:Int))) .normal ((H_ (.sl (cL cs) cs.length false) (.raw e) m (k:Int))):=by
 exact pN 53 [] 1 1 (.c (ak h) .nil) (.nil) f
theorem d6f {nt:Nat} (f:101≤nt) (cs:List Cl) (m k:Nat) (e:Value) (h:(decide ((k:Int)<(cs.length:Int)))=false):af prog ap [] nt (aU [1,1,1,1,0,1,0,0,1,0,0,1,0,0,0] (ae f53)) ((H_ (.sl (cL cs) cs.length false) (.raw e) m (k:Int))) (.exit 6) ((Ia (.sl (cL cs) cs.length false) (.raw e) (m:Int))):=by
 exact pN 53 [] 1 0 (.c (au h) .nil) (.nil) f
theorem d6i {nt:Nat} (h:101≤nt) (cs:List Cl) (m k:Nat) (e:Value) (f:k<2^62):af prog ap [] nt (aU [1,1,1,1,0,1,0,0,1,0,0,1,0,0,1,1] (ae f53)) ((H_ (.sl (cL cs) cs.length false) (.raw e) m (k:Int))) .normal ((H_ (.sl (cL cs) cs.length false) (.raw e) m (((k+1):Nat):Int))):=by
 exact pN 53 [] 0 0 .nil (.v 62 (.eq (wpS f)) .nil) h
theorem d6z {nt:Nat} (f:101≤nt) (cs:List Cl) (m:Nat) (e:Value):af prog ap [] nt (aU [1,1,1,1,0,1,0,0,1,0,0,0] (ae f53)) ((Ia (.sl (cL cs) cs.length false) (.raw e) (m:Int))) .normal ((H_ (.sl (cL cs) cs.length false) (.raw e) m 0)):=by
 exact pN 53 [] 0 0 .nil (.nil) f
theorem d4t {nt:Nat} (f:101≤nt) (cs:List Cl) (m:Nat) (e:Value) (h:(decide ((m:Int)<(cs.length:Int)))=true):af prog ap [] nt (aU [1,1,1,1,0,1,0,0,0] (ae f53)) ((Ia (.sl (cL cs) cs.length false) (.raw e) (m:Int))) .normal ((Ia (.sl (cL cs) cs.length false) (.raw e) (m:Int))):=by
 exact pN 53 [] 1 1 (.c (ak h) .nil) (.nil) f
theorem d4f {nt:Nat} (f:101≤nt) (cs:List Cl) (m:Nat) (e:Value) (h:(decide ((m:Int)<(cs.length:Int)))=false):af prog ap [] nt (aU [1,1,1,1,0,1,0,0,0] (ae f53)) ((Ia (.sl (cL cs) cs.length false) (.raw e) (m:Int))) (.exit 4) ((Ku (.raw e))):=by
 exact pN 53 [] 1 0 (.c (au h) .nil) (.nil) f
theorem d4i {nt:Nat} (h:101≤nt) (cs:List Cl) (m:Nat) (e:Value) (f:m<2^62):af prog ap [] nt (aU [1,1,1,1,0,1,0,0,1,1] (ae f53)) ((Ia (.sl (cL cs) cs.length false) (.raw e) (m:Int))) .normal ((Ia (.sl (cL cs) cs.length false) (.raw e) (((m+1):Nat):Int))):=by
 exact pN 53 [] 0 0 .nil (.v 56 (.eq (wpS f)) .nil) h
theorem d4z {nt:Nat} (f:101≤nt) (cs:List Cl) (e:Value):af prog ap [] nt (aU [1,1,1,1,0,0] (ae f53)) (⟨[(5,.sl (cL cs) cs.length false),(6,.raw e)],[],.dead,[]⟩) .normal ((Ia (.sl (cL cs) cs.length false) (.raw e) 0)):=by
 exact pN 53 [] 0 0 .nil (.nil) f
theorem d0t {nt:Nat} (i:101≤nt) (f:aK) (L:Lw) (a b c:Bool) (s:Int) (cs:List Cl) (k:Nat) (e:Value) (h:(decide ((k:Int)<(cs.length:Int)))=true):af prog ap [f] nt (aU [1,1,1,0,1,0,0,0] (ae f53)) ((D6 s (.sl (cL cs) cs.length false) (.raw e) k [.sl L.fx L.fn a,.sl L.sx L.sn b,.sl (bJ L.ps) L.ps.length c])) .normal ((D6 s (.sl (cL cs) cs.length false) (.raw e) k [.sl L.fx L.fn a,.sl L.sx L.sn b,.sl (bJ L.ps) L.ps.length c])):=by
 exact pN 53 [] 1 1 (.c (ak h) .nil) (.nil) i
theorem d0f {nt:Nat} (i:101≤nt) (f:aK) (L:Lw) (a b c:Bool) (s:Int) (cs:List Cl) (k:Nat) (e:Value) (h:(decide ((k:Int)<(cs.length:Int)))=false):af prog ap [f] nt (aU [1,1,1,0,1,0,0,0] (ae f53)) ((D6 s (.sl (cL cs) cs.length false) (.raw e) k [.sl L.fx L.fn a,.sl L.sx L.sn b,.sl (bJ L.ps) L.ps.length c])) (.exit 0) (⟨[(5,.sl (cL cs) cs.length false),(6,.raw e)],[(0,⟨[.sl L.fx L.fn a,.sl L.sx L.sn b,.sl (bJ L.ps) L.ps.length c],0,false,0,0,true⟩)],.dead,[]⟩):=by
 exact pN 53 [] 1 0 (.c (au h) .nil) (.nil) i
theorem d0i {nt:Nat} (i:101≤nt) (f:aK) (L:Lw) (a b c:Bool) (s:Int) (cs:List Cl) (k:Nat) (e:Value) (h:k<2^62):af prog ap [f] nt (aU [1,1,1,0,1,0,0,1,1] (ae f53)) ((D6 s (.sl (cL cs) cs.length false) (.raw e) k [.sl L.fx L.fn a,.sl L.sx L.sn b,.sl (bJ L.ps) L.ps.length c])) .normal ((D6 s (.sl (cL cs) cs.length false) (.raw e) (k+1) [.sl L.fx L.fn a,.sl L.sx L.sn b,.sl (bJ L.ps) L.ps.length c])):=by
 exact pN 53 [] 0 0 .nil (.v 22 (.eq (wpS h)) .nil) i
theorem d0r {nt:Nat} (m:101≤nt) (j:aK) (L:Lw) (a b c:Bool) (s:Int) (cs:List Cl) (k:Nat) (i:Value) (n:cs.length<2^39):af prog ap [j] nt (aU [1,1,1,0,1,0,0,1,0,0,0] (ae f53)) ((D6 s (.sl (cL cs) cs.length false) (.raw i) k [.sl L.fx L.fn a,.sl L.sx L.sn b,.sl (bJ L.ps) L.ps.length c])) .normal ((Pq s (.sl (cL cs) cs.length false) (.raw i) k (γ (cs.length:Int)) [.sl L.fx L.fn a,.sl L.sx L.sn b,.sl (bJ L.ps) L.ps.length c] (gu (γ (cs.length:Int)) [.bool false]))):=by
 have l:(2:Nat)^39=549755813888:=by decide
 have h:(decide (((0:Nat):Int)≤(cs.length:Int)))=true:=(Yq0 (by omega))
 have f:(decide ((cs.length:Int)=(cs.length:Int)))=true:=(Yq0 rfl)
 have e:(decide ((cs.length:Int)≤((1099511627776:Nat):Int)))=true:=(Yq0 (by omega))
 exact pN 53 [] 0 0 (.c h (.c f (.c e .nil))) (.nil) m
theorem d0u {nt:Nat} (l:101≤nt) (n j:aK) (L:Lw) (a b c:Bool) (s:Int) (cs:List Cl) (k:Nat) (h:Value) (f:List Bool) (w:Cl) (rw us:List Cl) (i:(θ ((γ (k:Int))*2) (cL cs))=cC w++cL rw) (o:k<cs.length) (m:CO 17 [.agg (L.c a b c),.int .i64 s,cA w] (.ret (.sl (cL us) us.length false))):af prog ap [n,j] nt (aU [1,1,1,0,1,0,0,1,0,0,1,0] (ae f53)) ((Pq s (.sl (cL cs) cs.length false) (.raw h) k cs.length [.sl L.fx L.fn a,.sl L.sx L.sn b,.sl (bJ L.ps) L.ps.length c] (eF f))) .normal ((aal s (.sl (cL cs) cs.length false) (.raw h) k cs.length (.sl (cL us) us.length false) [.sl L.fx L.fn a,.sl L.sx L.sn b,.sl (bJ L.ps) L.ps.length c] (eF f))):=by
 have e:(decide ((k:Int)<(cs.length:Int)))=true:=(kl o)
 exact pN 53 [] 0 0 (.k 3 e (.n 3 .nil)) (.c m (.v 30 (.ppt i) .nil)) l
theorem d2z {nt:Nat} (j:101≤nt) (h i:aK) (L:Lw) (a b c:Bool) (s:Int) (cs:List Cl) (k:Nat) (e:Value) (f:List Bool) (us:List Cl):af prog ap [h,i] nt (aU [1,1,1,0,1,0,0,1,0,0,1,1,0,0] (ae f53)) ((aal s (.sl (cL cs) cs.length false) (.raw e) k cs.length (.sl (cL us) us.length false) [.sl L.fx L.fn a,.sl L.sx L.sn b,.sl (bJ L.ps) L.ps.length c] (eF f))) .normal ((Ib s (.sl (cL cs) cs.length false) (.raw e) k cs.length (.sl (cL us) us.length false) 0 [.sl L.fx L.fn a,.sl L.sx L.sn b,.sl (bJ L.ps) L.ps.length c] (eF f))):=by
 exact pN 53 [] 0 0 .nil (.nil) j
theorem d2t {nt:Nat} (m:101≤nt) (i l:aK) (L:Lw) (a b c:Bool) (s:Int) (cs:List Cl) (k:Nat) (e:Value) (f:List Bool) (us:List Cl) (j:Nat) (h:(decide ((j:Int)<(us.length:Int)))=true):af prog ap [i,l] nt (aU [1,1,1,0,1,0,0,1,0,0,1,1,0,1,0,0,0] (ae f53)) ((Ib s (.sl (cL cs) cs.length false) (.raw e) k cs.length (.sl (cL us) us.length false) (j:Int) [.sl L.fx L.fn a,.sl L.sx L.sn b,.sl (bJ L.ps) L.ps.length c] (eF f))) .normal ((Ib s (.sl (cL cs) cs.length false) (.raw e) k cs.length (.sl (cL us) us.length false) (j:Int) [.sl L.fx L.fn a,.sl L.sx L.sn b,.sl (bJ L.ps) L.ps.length c] (eF f))):=by
 exact pN 53 [] 1 1 (.c (ak h) .nil) (.nil) m
theorem d2f {nt:Nat} (m:101≤nt) (i l:aK) (L:Lw) (a b c:Bool) (s:Int) (cs:List Cl) (k:Nat) (e:Value) (f:List Bool) (us:List Cl) (j:Nat) (h:(decide ((j:Int)<(us.length:Int)))=false):af prog ap [i,l] nt (aU [1,1,1,0,1,0,0,1,0,0,1,1,0,1,0,0,0] (ae f53)) ((Ib s (.sl (cL cs) cs.length false) (.raw e) k cs.length (.sl (cL us) us.length false) (j:Int) [.sl L.fx L.fn a,.sl L.sx L.sn b,.sl (bJ L.ps) L.ps.length c] (eF f))) (.exit 2) ((Pq s (.sl (cL cs) cs.length false) (.raw e) k cs.length [.sl L.fx L.fn a,.sl L.sx L.sn b,.sl (bJ L.ps) L.ps.length c] (eF f))):=by
 exact pN 53 [] 1 0 (.c (au h) .nil) (.nil) m
theorem d2i {nt:Nat} (m:101≤nt) (h l:aK) (L:Lw) (a b c:Bool) (s:Int) (cs:List Cl) (k:Nat) (e:Value) (f:List Bool) (us:List Cl) (j:Nat) (i:j<2^62):af prog ap [h,l] nt (aU [1,1,1,0,1,0,0,1,0,0,1,1,0,1,0,0,1,1] (ae f53)) ((Ib s (.sl (cL cs) cs.length false) (.raw e) k cs.length (.sl (cL us) us.length false) (j:Int) [.sl L.fx L.fn a,.sl L.sx L.sn b,.sl (bJ L.ps) L.ps.length c] (eF f))) .normal ((Ib s (.sl (cL cs) cs.length false) (.raw e) k cs.length (.sl (cL us) us.length false) (((j+1):Nat):Int) [.sl L.fx L.fn a,.sl L.sx L.sn b,.sl (bJ L.ps) L.ps.length c] (eF f))):=by
 exact pN 53 [] 0 0 .nil (.v 38 (.eq (wpS i)) .nil) m
theorem d2s {nt:Nat} (t:101≤nt) (u q:aK) (L:Lw) (a b c:Bool) (s:Int) (cs:List Cl) (k:Nat) (n:Value) (e:List Bool) (us:List Cl) (j:Nat) (w:Cl) (rw:List Cl) (i:Nat) (o:(θ ((γ (j:Int))*2) (cL us))=cC w++cL rw) (v:j<us.length) (f:e.length=cs.length) (r:i<cs.length) (p:CO 44 [.sl (cL cs) cs.length false,cA w] (.ret (.int .i64 (i:Int)))):af prog ap [u,q] nt (aU [1,1,1,0,1,0,0,1,0,0,1,1,0,1,0,0,1,0] (ae f53)) ((Ib s (.sl (cL cs) cs.length false) (.raw n) k cs.length (.sl (cL us) us.length false) (j:Int) [.sl L.fx L.fn a,.sl L.sx L.sn b,.sl (bJ L.ps) L.ps.length c] (eF e))) .normal ((Ib s (.sl (cL cs) cs.length false) (.raw n) k cs.length (.sl (cL us) us.length false) (j:Int) [.sl L.fx L.fn a,.sl L.sx L.sn b,.sl (bJ L.ps) L.ps.length c] (eF (e.set i true)))):=by
 have m:(Xqc (((0+(γ (i:Int)))*1)+1) (ν (eF e)))=true:=(dA (by rw [qY,f,aS];omega))
 have h:(decide ((i:Int)<(cs.length:Int)))=true:=(kl r)
 have l:(decide ((j:Int)<(us.length:Int)))=true:=(kl v)
 rw [← KT e i (by omega)];exact pN 53 [] 0 0 (.c m (.k 1 h (.k 3 l .nil))) (.c p (.v 43 (.ppt o) .nil)) t
def DF (m k n:Nat) (U:List (List Bool)):List (List Bool):=(Xqf n).foldl (fun U j=>upd m k j U) U
def CX (m n l:Nat) (U:List (List Bool)):List (List Bool):=(Xqf n).foldl (fun U k=>DF m k l U) U
def xH (n l:Nat) (U:List (List Bool)):List (List Bool):=(Xqf n).foldl (fun U m=>CX m l l U) U
theorem DI (m k n:Nat) (U:List (List Bool)):DF m k (n+1) U=upd m k n (DF m k n U):=by unfold DF;rw [Xj0,Xx8];rfl
theorem CY (m n l:Nat) (U:List (List Bool)):CX m (n+1) l U=DF m n l (CX m n l U):=by unfold CX;rw [Xj0,Xx8];rfl
theorem Il (n l:Nat) (U:List (List Bool)):xH (n+1) l U=CX n l l (xH n l U):=by unfold xH;rw [Xj0,Xx8];rfl
theorem vV {N m k:Nat} {U:List (List Bool)} (h:uq N U) (e:k<N):∀ n,uq N (DF m k n U)
 |0=>h
 |n+1=>by rw [DI];exact (vV h e n).upd e
theorem vO {N m:Nat} {U:List (List Bool)} (h:uq N U) (l:Nat):∀ n,n≤N→uq N (CX m n l U)
 |0,_=>h
 |n+1,hn=>by rw [CY];exact vV (vO h l n (by omega)) (by omega) l
theorem yL {N:Nat} {U:List (List Bool)} (h:uq N U):∀ n,uq N (xH n N U)
 |0=>h
 |n+1=>by rw [Il];exact vO (yL h n) N N (ε _)
theorem Yv:aj 8 (ae f53)= .seq (aU [1,1,1,1,0,1,0,0,1,0,0,1,0,0,1,0,0,1,0,0,0] (ae f53)) (.seq (.block 9 (eQ 22 (ae f53))) (aU [1,1,1,1,0,1,0,0,1,0,0,1,0,0,1,0,0,1,0,0,1,1] (ae f53))):=by kernel_rfl
theorem Yu:aj 6 (ae f53)= .seq (aU [1,1,1,1,0,1,0,0,1,0,0,1,0,0,0] (ae f53)) (.seq (.block 7 (.seq (aU [1,1,1,1,0,1,0,0,1,0,0,1,0,0,1,0,0,0] (ae f53)) (.block 8 (.loop (aj 8 (ae f53)))))) (aU [1,1,1,1,0,1,0,0,1,0,0,1,0,0,1,1] (ae f53))):=by kernel_rfl
theorem Yt:aj 4 (ae f53)= .seq (aU [1,1,1,1,0,1,0,0,0] (ae f53)) (.seq (.block 5 (.seq (aU [1,1,1,1,0,1,0,0,1,0,0,0] (ae f53)) (.block 6 (.loop (aj 6 (ae f53)))))) (aU [1,1,1,1,0,1,0,0,1,1] (ae f53))):=by kernel_rfl
theorem Yr:aj 2 (ae f53)= .seq (aU [1,1,1,0,1,0,0,1,0,0,1,1,0,1,0,0,0] (ae f53)) (.seq (aU [1,1,1,0,1,0,0,1,0,0,1,1,0,1,0,0,1,0] (ae f53)) (aU [1,1,1,0,1,0,0,1,0,0,1,1,0,1,0,0,1,1] (ae f53))):=by kernel_rfl
theorem Yq:aj 0 (ae f53)= .seq (aU [1,1,1,0,1,0,0,0] (ae f53)) (.seq (.block 1 (.seq (aU [1,1,1,0,1,0,0,1,0,0,0] (ae f53)) (.seq (aU [1,1,1,0,1,0,0,1,0,0,1,0] (ae f53)) (.seq (.seq (aU [1,1,1,0,1,0,0,1,0,0,1,1,0,0] (ae f53)) (.block 2 (.loop (aj 2 (ae f53))))) (eQ 12 (ae f53)))))) (aU [1,1,1,0,1,0,0,1,1] (ae f53))):=by kernel_rfl
theorem c53:ae f53= .seq (aU [0] (ae f53)) (.seq (aU [1,0] (ae f53)) (.seq (aU [1,1,0] (ae f53)) (.seq (.seq (aU [1,1,1,0,0] (ae f53)) (.block 0 (.loop (aj 0 (ae f53))))) (.seq (.seq (aU [1,1,1,1,0,0] (ae f53)) (.block 4 (.loop (aj 4 (ae f53))))) (aU [1,1,1,1,1] (ae f53)))))):=by kernel_rfl
theorem Q4:AM.ag ([]:Hp)=aC []:=by funext b;rfl
theorem lk1 (A:aK):AM.ag [(0,A)]=aC [A]:=by
 funext b
 match b with
 |0=>rfl
 |n+1=>rfl
theorem lk2 (A B:aK):AM.ag [(0,A),(1,B)]=aC [A,B]:=by
 funext b
 match b with
 |0=>rfl
 |1=>rfl
 |n+2=>rfl
def d5K (cs:List Cl) (m k:Nat) (ov:Value):St:=(H_ (.sl (cL cs) cs.length false) (.raw ov) m (k:Int))
def d5M (cs:List Cl) (m:Nat) (ov:Value):St:=(Ia (.sl (cL cs) cs.length false) (.raw ov) (m:Int))
def d5O (ov:Value):St:=(Ku (.raw ov))
section
variable (hap:dF prog ap) (hmix:prog.follows .mixedOrders=true) {nt:Nat} (hn:101≤nt) (cs:List Cl) (hl:cs.length<2^39) (ov:Value)
include hap hmix hn hl
theorem w8 (m k:Nat) (U:List (List Bool)) (i:uq cs.length U) (hm:m<cs.length) (f:k<cs.length):aA prog ap [] nt (.block 8 (.loop (aj 8 (ae f53)))) (Ld cs m k 0 ov) (JB 92 ov U) .normal (fun _:Unit=>d5K cs m k ov) (fun _=>JB 92 ov (DF m k cs.length U)):=by
 have l:(2:Nat)^39=549755813888:=by decide
 refine aA.block (e:= .exit 8) (aA.loop (ι:=Unit) (e:= .exit 8) (fun j _=>Ld cs m k j ov) (fun j _=>JB 92 ov (DF m k j U)) cs.length (by simp) (fun j h _=> ?_) (fun _=> ?_) ())
 ·rw [Yv];refine aA.seq (aA.ofW () (af.w JB.stab Q4 (d8t hn cs m k j ov (kl h)))) fun _=>aA.seq (aA.block (e:= .normal) (w22 hap hmix hn cs m k j ov _ (vV i f j) hm f h)) fun _=> ?_
  rw [DI];exact aA.ofW () (af.w JB.stab Q4 (d8i hn cs m k j ov (by omega)))
 ·rw [Yv];exact aA.seq_out (by simp) (aA.ofW () (af.w JB.stab Q4 (d8f hn cs m k cs.length ov (kn (ε _)))))
theorem w6 (m:Nat) (U:List (List Bool)) (h:uq cs.length U) (hm:m<cs.length):aA prog ap [] nt (.block 6 (.loop (aj 6 (ae f53)))) (d5K cs m 0 ov) (JB 92 ov U) .normal (fun _:Unit=>d5M cs m ov) (fun _=>JB 92 ov (CX m cs.length cs.length U)):=by
 have i:(2:Nat)^39=549755813888:=by decide
 refine aA.block (e:= .exit 6) (aA.loop (ι:=Unit) (e:= .exit 6) (fun k _=>d5K cs m k ov) (fun k _=>JB 92 ov (CX m k cs.length U)) cs.length (by simp) (fun k f _=> ?_) (fun _=> ?_) ())
 ·rw [Yu];refine aA.seq (aA.ofW () (af.w JB.stab Q4 (d6t hn cs m k ov (kl f)))) fun _=>aA.seq (aA.block (e:= .normal) (aA.seq (aA.ofW () (af.w JB.stab Q4 (d8z hn cs m k ov))) fun _=>w8 hap hmix hn cs hl ov m k _ (vO h _ k (by omega)) hm f)) fun _=> ?_
  rw [CY];exact aA.ofW () (af.w JB.stab Q4 (d6i hn cs m k ov (by omega)))
 ·rw [Yu];exact aA.seq_out (by simp) (aA.ofW () (af.w JB.stab Q4 (d6f hn cs m cs.length ov (kn (ε _)))))
theorem w4 (U:List (List Bool)) (h:uq cs.length U):aA prog ap [] nt (.block 4 (.loop (aj 4 (ae f53)))) (d5M cs 0 ov) (JB 92 ov U) .normal (fun _:Unit=>d5O ov) (fun _=>JB 92 ov (xH cs.length cs.length U)):=by
 have f:(2:Nat)^39=549755813888:=by decide
 refine aA.block (e:= .exit 4) (aA.loop (ι:=Unit) (e:= .exit 4) (fun m _=>d5M cs m ov) (fun m _=>JB 92 ov (xH m cs.length U)) cs.length (by simp) (fun m hm _=> ?_) (fun _=> ?_) ())
 ·rw [Yt];refine aA.seq (aA.ofW () (af.w JB.stab Q4 (d4t hn cs m ov (kl hm)))) fun _=>aA.seq (aA.block (e:= .normal) (aA.seq (aA.ofW () (af.w JB.stab Q4 (d6z hn cs m ov))) fun _=>w6 hap hmix hn cs hl ov m _ (yL h m) hm)) fun _=> ?_
  rw [Il];exact aA.ofW () (af.w JB.stab Q4 (d4i hn cs m ov (by omega)))
 ·rw [Yt];exact aA.seq_out (by simp) (aA.ofW () (af.w JB.stab Q4 (d4f hn cs cs.length ov (kn (ε _)))))
end
def O0 (L:Lw) (s:Int) (cs:List Cl) (w:Cl):List Bool:=cs.map fun c=>decide (c ∈ gJ L s w)
def jS (L:Lw) (s:Int) (cs:List Cl) (k:Nat):List (List Bool):=(cs.take k).map (O0 L s cs)
def d5U (L:Lw) (a b c:Bool) (s:Int) (cs:List Cl) (k:Nat) (ov:Value) (us:List Cl) (j:Nat):St:=(Ib s (.sl (cL cs) cs.length false) (.raw ov) k cs.length (.sl (cL us) us.length false) (j:Int) (L.c a b c) (eF (cs.map fun c=>decide (c ∈ us.take j))))
section
variable (hap:dF prog ap) (hmix:prog.follows .mixedOrders=true) {nt:Nat} (hn:101≤nt) (L:Lw) (a b c:Bool) (s:Int) (cs:List Cl) (hl:cs.length<2^39)
include hn hl
theorem w2 (k:Nat) (i:Value) (us:List Cl) (B:us.length<2^39) (l:∀ y ∈ us,y ∈ cs) (t:cs.Nodup) (J:WJ) (o:aaI J):aA prog ap [] nt (.block 2 (.loop (aj 2 (ae f53)))) (d5U L a b c s cs k i us 0) J .normal (fun _:Unit=>d5R L a b c s cs k i (cs.map fun c=>decide (c ∈ us))) (fun _=>J):=by
 have C:(2:Nat)^39=549755813888:=by decide
 refine aA.block (e:= .exit 2) (aA.loop (ι:=Unit) (e:= .exit 2) (fun j _=>d5U L a b c s cs k i us j) (fun j _=>J) us.length (by simp) (fun j r _=> ?_) (fun _=> ?_) ())
 ·rw [Yr];have m:(cs.map fun c=>decide (c ∈ us.take j)).length=cs.length:=Xqv ..;obtain ⟨p,q,w,h,hp⟩:∃ p q w,us=p++w::q∧p.length=j:=⟨us.take j,us.drop (j+1),us[j],by rw [← Xq3 r,Xq6],by rw [Xqm];omega⟩
  have A:w ∈ cs:=l w (by rw [h];simp);obtain ⟨x,y,z,D,_⟩:=wY A;have v:=pV cs false w (by omega);rw [D] at v;have u:=dS (f:=cC) (n:=2) (fun _=>rfl) h;rw [hp] at u;have F:us.take (j+1)=us.take j++ [w]:=by
   rw [h,← hp,Xq8 rfl,show p++w::q=(p++ [w])++q by simp,Xq8 (by simp)]
  have hm:(cs.map fun c=>decide (c ∈ us.take j)).set x.length true=cs.map fun c=>decide (c ∈ us.take (j+1)):=by
   rw [F];exact Js z t _
  refine aA.seqW (af.w o (lk2 _ _) (d2t hn _ _ L a b c s cs k i _ us j (kl r))) (aA.seqW (af.w o (lk2 _ _) (d2s hn _ _ L a b c s cs k i _ us j w q x.length u r m (by rw [z];simp) v)) ?_);rw [hm];exact aA.ofW () (af.w o (lk2 _ _) (d2i hn _ _ L a b c s cs k i _ us j (by omega)))
 ·rw [Yr];have:=d2f hn ⟨L.c a b c,0,false,0,0,true⟩ ⟨eF (cs.map fun c=>decide (c ∈ us.take us.length)),0,false,0,1,true⟩ L a b c s cs k i (cs.map fun c=>decide (c ∈ us.take us.length)) us us.length (kn (ε _));refine aA.seq_out (by simp) (aA.ofW () ?_);have e:(cs.map fun c=>decide (c ∈ us))=cs.map fun c=>decide (c ∈ us.take us.length):=by rw [Xx3]
  rw [e];exact af.w o (lk2 _ _) this
def d5V (L:Lw) (a b c:Bool) (cs:List Cl) (ov:Value):St:=⟨[(5,.sl (cL cs) cs.length false),(6,.raw ov)],[(0,⟨L.c a b c,0,false,0,0,true⟩)],.dead,[]⟩
theorem w0 (B:vZ L) (r:L.ps.length<2^38) (i:cs=ax s L.ps.length):aA prog ap [] nt (.block 0 (.loop (aj 0 (ae f53)))) (d5S L a b c s cs 0 (.slice none 0 0)) (JB 92 (.slice none 0 0) []) .normal (fun h=>d5V L a b c cs h) (fun h=>JB 92 h (jS L s cs cs.length)):=by
 have C:(2:Nat)^39=549755813888:=by decide
 have I:(2:Nat)^40=1099511627776:=by decide
 have u:cs.Nodup:=i ▸ iJ s L.ps.length;refine aA.block (e:= .exit 0) (aA.loop (ι:=Value) (e:= .exit 0) (fun k h=>d5S L a b c s cs k h) (fun k h=>JB 92 h (jS L s cs k)) cs.length (by simp) (fun k v h=> ?_) (fun h=> ?_) (.slice none 0 0))
 ·rw [Yq];obtain ⟨p,q,w,l,hp⟩:∃ p q w,cs=p++w::q∧p.length=k:=⟨cs.take k,cs.drop (k+1),cs[k],by rw [← Xq3 v,Xq6],by rw [Xqm];omega⟩
  have z:=dS (f:=cC) (n:=2) (fun _=>rfl) l;rw [hp] at z;have G:=QW L a b c s w B r;have t:∀ y ∈ gJ L s w,y ∈ cs:=fun y m=>by
   unfold gJ at m;split at m
   ·rw [i];exact (List.mem_filter.1 m).1
   ·cases m
  have J:(gJ L s w).length≤cs.length:=by
   unfold gJ;split
   ·rw [i];exact Xxr ..
   ·exact Xqp _
  have H:jS L s cs (k+1)=jS L s cs k++ [O0 L s cs w]:=by
   unfold jS;have e:cs.take (k+1)=cs.take k++ [w]:=by
    rw [l,← hp,Xq8 rfl,show p++w::q=(p++ [w])++q by simp,Xq8 (by simp)]
   rw [e,Xxc];rfl
  have o:(jS L s cs k).length<2^40:=by
   unfold jS;rw [Xqv,Xqm];omega
  have A:=d0r hn ⟨L.c a b c,0,false,0,0,true⟩ L a b c s cs k h hl;have M:(gu (γ (cs.length:Int)) [.bool false])=eF (Xqx cs.length false):=by rw [Int.toNat_natCast,MG]
  rw [M] at A;have F:Xqx cs.length false=cs.map fun c=>decide (c ∈ (gJ L s w).take 0):=by simp [Xkd]
  have D:=d0u hn ⟨L.c a b c,0,false,0,0,true⟩ ⟨eF (Xqx cs.length false),0,false,0,1,true⟩ L a b c s cs k h (Xqx cs.length false) w q (gJ L s w) z v G;have K:=d2z hn ⟨L.c a b c,0,false,0,0,true⟩ ⟨eF (Xqx cs.length false),0,false,0,1,true⟩ L a b c s cs k h (Xqx cs.length false) (gJ L s w);have x:=w2 hn L a b c s cs hl k h (gJ L s w) (by omega) t u (JB 92 h (jS L s cs k)) JB.stab;unfold d5U at x;rw [← F] at x;rw [H];refine aA.seqW (af.w JB.stab (lk1 _) (d0t hn _ L a b c s cs k h (kl v))) (aA.seq (aA.block (e:= .normal) (aA.seqW (af.w JB.stab (lk1 _) A) (aA.seqW (af.w JB.stab (lk2 _ _) D) (aA.seq (aA.seqW (af.w JB.stab (lk2 _ _) K) x) fun _=>w12 hn L a b c s cs k h (O0 L s cs w) _ (Xqv ..) (by omega) o)))) fun j=> ?_);exact aA.ofW j (af.w JB.stab (lk1 _) (d0i hn _ L a b c s cs k j (by omega)))
 ·rw [Yq];exact aA.seq_out (by simp) (aA.ofW h (af.w JB.stab (lk1 _) (d0f hn _ L a b c s cs cs.length h (kn (ε _)))))
end
abbrev Q_ (L:Lw) (a b c:Bool):aK:=⟨L.c a b c,0,false,0,0,true⟩
theorem aiw {nt:Nat} (e:101≤nt) (L:Lw) (a b c:Bool) (s:Int):af prog ap [] nt (aU [0] (ae f53)) (dO .dead [.agg (L.c a b c),ω s] []) .normal ⟨[(1,ω s),(2,.ptr 0 0 0)],[(0,Q_ L a b c)],.dead,[]⟩:=pN 53 [] 0 0 .nil .nil e
theorem aix {nt:Nat} (f:101≤nt) (L:Lw) (a b c:Bool) (s:Int) (cs:List Cl) (e:CO 43 [.agg (L.c a b c),ω s] (.ret (.sl (cL cs) cs.length false))):af prog ap [] nt (aU [1,0] (ae f53)) ⟨[(1,ω s),(2,.ptr 0 0 0)],[(0,Q_ L a b c)],.dead,[]⟩ .normal ⟨[(1,ω s),(2,.ptr 0 0 0),(5,.sl (cL cs) cs.length false)],[(0,Q_ L a b c)],.dead,[]⟩:=pN 53 [] 0 0 (.n 3 .nil) (.c e .nil) f
theorem aiy {nt:Nat} (e:101≤nt) (L:Lw) (a b c:Bool) (s:Int) (cs:List Cl):af prog ap [] nt (aU [1,1,0] (ae f53)) ⟨[(1,ω s),(2,.ptr 0 0 0),(5,.sl (cL cs) cs.length false)],[(0,Q_ L a b c)],.dead,[]⟩ .normal ⟨[(1,ω s),(2,.ptr 0 0 0),(5,.sl (cL cs) cs.length false),(6,.nilS)],[(0,Q_ L a b c)],.dead,[]⟩:=pN 53 [] 0 0 .nil .nil e
theorem aiz {nt:Nat} (e:101≤nt) (L:Lw) (a b c:Bool) (s:Int) (cs:List Cl):af prog ap [] nt (aU [1,1,1,0,0] (ae f53)) ⟨[(1,ω s),(2,.ptr 0 0 0),(5,.sl (cL cs) cs.length false),(6,.nilS)],[(0,Q_ L a b c)],.dead,[]⟩ .normal ⟨[(1,ω s),(2,.ptr 0 0 0),(5,.sl (cL cs) cs.length false),(6,.nilS),(7,ω ((0:Nat):Int))],[(0,Q_ L a b c)],.dead,[]⟩:=pN 53 [] 0 0 .nil .nil e
theorem aiA {nt:Nat} (f:101≤nt) (e:List AV) (n:Nat):af prog ap [] nt (aU [1,1,1,1,1] (ae f53)) (Ku (.sl e n false)) .ret (yH (.sl e n false)):=pN 53 [] 0 0 .nil .nil f
def IQ (L:Lw) (s:Int):List (List Bool):=xH (ax s L.ps.length).length (ax s L.ps.length).length (jS L s (ax s L.ps.length) (ax s L.ps.length).length)
theorem DN (L:Lw) (s:Int) (cs:List Cl):uq cs.length (jS L s cs cs.length):=by
 unfold jS;rw [Xx3];refine ⟨Xqv ..,fun l e=> ?_⟩;obtain ⟨w,_,rfl⟩:=List.mem_map.1 e;exact Xqv ..
theorem aba (L:Lw) (s:Int):uq (ax s L.ps.length).length (IQ L s):=yL (DN L s _) _
theorem Le (L:Lw) (a b c:Bool) (s:Int) (r:vZ L) (t:L.ps.length<2^37):CO 53 [.agg (L.c a b c),ω s] (.ret (.sl ((IQ L s).map eH) (IQ L s).length false)):=by
 have z:(2:Nat)^37=137438953472:=by decide
 have x:(2:Nat)^38=274877906944:=by decide
 have u:(2:Nat)^39=549755813888:=by decide
 have l:=Be s L.ps.length;have n:=vC L a b c s (by omega);obtain ⟨cs,i⟩:∃ cs,cs=ax s L.ps.length:=⟨_,rfl⟩
 have j:=DN L s cs;unfold IQ;rw [← i] at n l ⊢;have p:cs.length<2^39:=by omega
 generalize y:jS L s cs cs.length=U at j;refine jm jW 0 (F:=⟨f53,[0,1,2,4,5,6,7,8,9,10,11,12,13,20,36,54,60,66],false⟩) rfl rfl (fun nt f=> ?_:∀ nt,101≤nt→af prog ap [] nt (ae f53) (dO .dead [.agg (L.c a b c),ω s] []) .ret (yH (.sl ((xH cs.length cs.length U).map eH) (xH cs.length cs.length U).length false))) rfl (Xqp _) rfl;have h0:=w0 f L a b c s cs p r (by omega) i;rw [y] at h0;refine af.ofW (aA.toW ?_ rfl);rw [c53];refine aA.seqW (aiw f L a b c s).toW (aA.seqW (aix f L a b c s cs n).toW (aA.seqW (aiy f L a b c s cs).toW (aA.seq (aA.seqW (aiz f L a b c s cs).toW (aA.fits (s2:=d5S L a b c s cs 0 (.slice none 0 0)) rfl rfl rfl (fun q=> ?_) (aA.say (fun _ _ _ _ _ _=>JB.nil) h0))) fun k=> ?_)))
 ·by_cases h6:q=6
  ·subst h6;intro g m S v o;change VR g m S .nilS v at o;show VR g m S (.raw (.slice none 0 0)) v;simpa only [VR,PR] using o
  ·have e:(d5S L a b c s cs 0 (.slice none 0 0)).env.get q=dE.get [(1,ω s),(2,.ptr 0 0 0),(5,.sl (cL cs) cs.length false),(6,.nilS),(7,ω ((0:Nat):Int))] q:=by
    simp [d5S,dE.get,AM.ag,gG (Ne.symm h6)]
   rw [e];exact fun _ _ _ _ h=>h
 ·refine aA.seq (aA.tidy (s1:=⟨[(5,.sl (cL cs) cs.length false),(6,.raw k)],[],.dead,[]⟩) JB.sub [5,6] (aA.seqW (af.w JB.stab Q4 (d4z f cs k)) (w4 jW.apok jW.mixed f cs p k U j)) (by kernel_rfl) rfl) fun _=> ?_
  exact aA.rowsB 6 (s2:=(Ku (.sl ((xH cs.length cs.length U).map eH) (xH cs.length cs.length U).length false))) rfl rfl rfl rfl rfl rfl (fun q j=> .inl (by simp [dE.get,AM.ag,gG (Ne.symm j)])) (aA.ofW () (aiA f _ _).toW)
theorem Gj (e:List Bool) (j:Nat) (v:Bool) (h:j<e.length):ξ ((0+(γ (j:Int)))*1) (eF e)++ [.bool v]++θ (((0+(γ (j:Int)))*1)+1) (eF e)=eF (e.set j v):=by
 rw [aS,Φ,Xzc];unfold eF;rw [← Xks,← Xj5,Ξ];rw [Xxu,if_pos h,Xxc,χ];rfl
theorem LQ {α:Type} (f:α→AV) (l:List α) (z:α) {j:Nat} (h:j<l.length):θ ((γ (j:Int))*1) (l.map f)= [f (l.getD j z)]++(l.drop (j+1)).map f:=by
 rw [aS,Xzc,← Xj5,Xq3 h,χ,π,ζ h];rfl
theorem Xf {α:Type} (f:α→AV) (l:List α) (z:α) {j:Nat} (h:j<l.length):θ ((0+(γ (j:Int)))*1) (l.map f)= [f (l.getD j z)]++(l.drop (j+1)).map f:=by
 rw [Φ];exact LQ f l z h
theorem r2t {nt:Nat} (l:68≤nt) (fr cs:List Cl) (e:Bool) (U:List (List Bool)) (k i j:Nat) (f:List Bool) (h:(decide ((j:Int)<(cs.length:Int)))=true):af prog ap [] nt (aU [1,1,1,1,0,1,0,0,1,0,0,1,1,0,0,0] (ae f23)) ((qP (.sl (cL fr) fr.length e) (.sl (cL cs) cs.length false) (.sl (U.map eH) cs.length false) cs.length k (i:Int) (j:Int) (eF f))) .normal ((qP (.sl (cL fr) fr.length e) (.sl (cL cs) cs.length false) (.sl (U.map eH) cs.length false) cs.length k (i:Int) (j:Int) (eF f))):=by
 exact pN 23 [] 2 3 (.c (ak (k0 i)) (.c (ak h) .nil)) (.nil) l
theorem r2f {nt:Nat} (l:68≤nt) (fr cs:List Cl) (e:Bool) (U:List (List Bool)) (k i j:Nat) (f:List Bool) (h:(decide ((j:Int)<(cs.length:Int)))=false):af prog ap [] nt (aU [1,1,1,1,0,1,0,0,1,0,0,1,1,0,0,0] (ae f23)) ((qP (.sl (cL fr) fr.length e) (.sl (cL cs) cs.length false) (.sl (U.map eH) cs.length false) cs.length k (i:Int) (j:Int) (eF f))) (.exit 2) ((D9 (.sl (cL fr) fr.length e) (.sl (cL cs) cs.length false) (.sl (U.map eH) cs.length false) cs.length k (eF f))):=by
 exact pN 23 [] 2 0 (.k 1 (au h) .nil) (.nil) l
theorem r2i {nt:Nat} (l:68≤nt) (fr cs:List Cl) (e:Bool) (U:List (List Bool)) (k i j:Nat) (f:List Bool) (h:j<2^62):af prog ap [] nt (aU [1,1,1,1,0,1,0,0,1,0,0,1,1,0,0,1,1] (ae f23)) ((qP (.sl (cL fr) fr.length e) (.sl (cL cs) cs.length false) (.sl (U.map eH) cs.length false) cs.length k (i:Int) (j:Int) (eF f))) .normal ((qP (.sl (cL fr) fr.length e) (.sl (cL cs) cs.length false) (.sl (U.map eH) cs.length false) cs.length k (i:Int) (((j+1):Nat):Int) (eF f))):=by
 exact pN 23 [] 0 0 .nil (.v 43 (.eq (wpS h)) .nil) l
theorem ajR {nt:Nat} (q:68≤nt) (fr cs:List Cl) (n:Bool) (U:List (List Bool)) (k i j:Nat) (e:List Bool) (mb p:Bool) (o t u:List AV) (r:List Bool) (m:θ ((0+(γ (j:Int)))*1) (eF e)= [.bool mb]++o) (A:θ ((γ (j:Int))*1) (U.map eH)= [eH r]++t) (y:θ ((γ (i:Int))*1) (eF r)= [.bool p]++u) (x:j<cs.length) (z:i<r.length) (h:e.length=cs.length) (v:mb=true):af prog ap [] nt (aU [1,1,1,1,0,1,0,0,1,0,0,1,1,0,0,1,0,0] (ae f23)) ((qP (.sl (cL fr) fr.length n) (.sl (cL cs) cs.length false) (.sl (U.map eH) cs.length false) cs.length k (i:Int) (j:Int) (eF e))) .normal ((qP (.sl (cL fr) fr.length n) (.sl (cL cs) cs.length false) (.sl (U.map eH) cs.length false) cs.length k (i:Int) (j:Int) (eF (e.set j true)))):=by
 have l:(Xqc (((0+(γ (j:Int)))*1)+1) (ν (eF e)))=true:=(dA (by rw [qY,h,aS];omega))
 have f:(decide ((j:Int)<(cs.length:Int)))=true:=(kl x)
 rw [← Gj e j true (by omega)];exact pN 23 [] 2 3 (.c l (.k 1 f (.k 1 (ak v) (.a (bQ [.bool] m rfl) (.k 1 f .nil))))) (.v 49 (.rd1 .bool m rfl) .nil) q
theorem ajS {nt:Nat} (t:68≤nt) (fr cs:List Cl) (n:Bool) (U:List (List Bool)) (k i j:Nat) (e:List Bool) (mb q:Bool) (p u v:List AV) (r:List Bool) (m:θ ((0+(γ (j:Int)))*1) (eF e)= [.bool mb]++p) (B:θ ((γ (j:Int))*1) (U.map eH)= [eH r]++u) (z:θ ((γ (i:Int))*1) (eF r)= [.bool q]++v) (y:j<cs.length) (A:i<r.length) (h:e.length=cs.length) (x:mb=false) (o:((j:Int)==(i:Int))=true):af prog ap [] nt (aU [1,1,1,1,0,1,0,0,1,0,0,1,1,0,0,1,0,0] (ae f23)) ((qP (.sl (cL fr) fr.length n) (.sl (cL cs) cs.length false) (.sl (U.map eH) cs.length false) cs.length k (i:Int) (j:Int) (eF e))) .normal ((qP (.sl (cL fr) fr.length n) (.sl (cL cs) cs.length false) (.sl (U.map eH) cs.length false) cs.length k (i:Int) (j:Int) (eF (e.set j true)))):=by
 have l:(Xqc (((0+(γ (j:Int)))*1)+1) (ν (eF e)))=true:=(dA (by rw [qY,h,aS];omega))
 have f:(decide ((j:Int)<(cs.length:Int)))=true:=(kl y)
 rw [← Gj e j true (by omega)];exact pN 23 [] 2 2 (.c l (.k 1 f (.c (ak o) (.c (au x) (.a (bQ [.bool] m rfl) (.k 1 f .nil)))))) (.v 49 (.rd1 .bool m rfl) .nil) t
theorem ajT {nt:Nat} (x:68≤nt) (fr cs:List Cl) (p:Bool) (U:List (List Bool)) (k i j:Nat) (f:List Bool) (mb l:Bool) (t y z:List AV) (r:List Bool) (o:θ ((0+(γ (j:Int)))*1) (eF f)= [.bool mb]++t) (C:θ ((γ (j:Int))*1) (U.map eH)= [eH r]++y) (u:θ ((γ (i:Int))*1) (eF r)= [.bool l]++z) (B:j<cs.length) (v:i<r.length) (h:f.length=cs.length) (A:mb=false) (q:((j:Int)==(i:Int))=false):af prog ap [] nt (aU [1,1,1,1,0,1,0,0,1,0,0,1,1,0,0,1,0,0] (ae f23)) ((qP (.sl (cL fr) fr.length p) (.sl (cL cs) cs.length false) (.sl (U.map eH) cs.length false) cs.length k (i:Int) (j:Int) (eF f))) .normal ((qP (.sl (cL fr) fr.length p) (.sl (cL cs) cs.length false) (.sl (U.map eH) cs.length false) cs.length k (i:Int) (j:Int) (eF (f.set j l)))):=by
 have n:(Xqc (((0+(γ (j:Int)))*1)+1) (ν (eF f)))=true:=(dA (by rw [qY,h,aS];omega))
 have e:(decide ((j:Int)<(cs.length:Int)))=true:=(kl B)
 have m:(decide ((i:Int)<(r.length:Int)))=true:=(kl v)
 rw [← Gj f j l (by omega)];exact pN 23 [] 2 0 (.c n (.k 1 e (.k 2 m (.k 2 e (.c (au q) (.c (au A) (.a (bQ [.bool] o rfl) (.k 1 e .nil)))))))) (.v 61 (.ppt u) (.v 58 (.ppt C) (.v 49 (.rd1 .bool o rfl) .nil))) x
def mkF (U:List (List Bool)) (i j:Nat) (bl:List Bool):List Bool:=bl.set j (bl.getD j false||decide (j=i)||kT U j i)
theorem r2s {nt:Nat} (p:68≤nt) (fr cs:List Cl) (l:Bool) (U:List (List Bool)) (k i j:Nat) (f:List Bool) (u:uq cs.length U) (o:j<cs.length) (y:i<cs.length) (h:f.length=cs.length):af prog ap [] nt (aU [1,1,1,1,0,1,0,0,1,0,0,1,1,0,0,1,0,0] (ae f23)) ((qP (.sl (cL fr) fr.length l) (.sl (cL cs) cs.length false) (.sl (U.map eH) cs.length false) cs.length k (i:Int) (j:Int) (eF f))) .normal ((qP (.sl (cL fr) fr.length l) (.sl (cL cs) cs.length false) (.sl (U.map eH) cs.length false) cs.length k (i:Int) (j:Int) (eF (mkF U i j f)))):=by
 have h0:=Xf .bool f false (j:=j) (by omega);have n:=LQ eH U [] (j:=j) (by rw [u.1];omega);obtain ⟨r,x,v,m⟩:=u.row o;rw [m] at n;have t:=LQ .bool r false (j:=i) (by omega);have e:kT U j i=r.getD i false:=by unfold kT;rw [m]
 unfold mkF;rw [e];rcases tf (f.getD j false) with b0|b0
 ·rw [b0] at h0 ⊢;simp only [Yqb];exact ajR p fr cs l U k i j f true (r.getD i false) _ _ _ r h0 n t o (by omega) h rfl
 ·rw [b0] at h0 ⊢;rcases tf ((j:Int)==(i:Int)) with b1|b1
  ·have q:j=i:=by have:=beq_iff_eq.1 b1;omega
   rw [Yq0 q];simp only [Yqb,Xzl];exact ajS p fr cs l U k i j f false (r.getD i false) _ _ _ r h0 n t o (by omega) h rfl b1
  ·have q:¬ j=i:=by have:=beq_eq_false_iff_ne.1 b1;omega
   rw [Yq1 q];simp only [Xzl];exact ajT p fr cs l U k i j f false (r.getD i false) _ _ _ r h0 n t o (by omega) h rfl b1
def r2X (fr cs:List Cl) (nn:Bool) (U:List (List Bool)) (k:Nat) (bl:List Bool):St:=(D9 (.sl (cL fr) fr.length nn) (.sl (cL cs) cs.length false) (.sl (U.map eH) cs.length false) cs.length k (eF bl))
def r2T (fr cs:List Cl) (nn:Bool) (U:List (List Bool)) (k i j:Nat) (bl:List Bool):St:=(qP (.sl (cL fr) fr.length nn) (.sl (cL cs) cs.length false) (.sl (U.map eH) cs.length false) cs.length k (i:Int) (j:Int) (eF bl))
def Y0 (U:List (List Bool)) (i n:Nat) (bl:List Bool):List Bool:=(Xqf n).foldl (fun bl j=>mkF U i j bl) bl
theorem TT (U:List (List Bool)) (i n:Nat) (e:List Bool):Y0 U i (n+1) e=mkF U i n (Y0 U i n e):=by unfold Y0;rw [Xj0,Xx8];rfl
theorem Og (U:List (List Bool)) (i:Nat) (e:List Bool):∀ n,(Y0 U i n e).length=e.length
 |0=>rfl
 |n+1=>by rw [TT];unfold mkF;rw [Xjb];exact Og U i e n
theorem Rq:aj 2 (ae f23)= .seq (aU [1,1,1,1,0,1,0,0,1,0,0,1,1,0,0,0] (ae f23)) (.seq (.block 3 (aU [1,1,1,1,0,1,0,0,1,0,0,1,1,0,0,1,0,0] (ae f23))) (aU [1,1,1,1,0,1,0,0,1,0,0,1,1,0,0,1,1] (ae f23))):=by kernel_rfl
theorem v2 {nt:Nat} (h:68≤nt) (fr cs:List Cl) (f:Bool) (U:List (List Bool)) (k i:Nat) (l:List Bool) (r:cs.length<2^39) (q:uq cs.length U) (o:i<cs.length) (m:l.length=cs.length):aA prog ap [] nt (.block 2 (.loop (aj 2 (ae f23)))) (r2T fr cs f U k i 0 l) WT .normal (fun _:Unit=>r2X fr cs f U k (Y0 U i cs.length l)) (fun _=>WT):=by
 have p:(2:Nat)^39=549755813888:=by decide
 refine aA.block (e:= .exit 2) (aA.loop (ι:=Unit) (e:= .exit 2) (fun j _=>r2T fr cs f U k i j (Y0 U i j l)) (fun _ _=>WT) cs.length (by simp) (fun j n _=> ?_) (fun _=> ?_) ())
 ·rw [Rq,TT];exact aA.seqW (r2t h fr cs f U k i j _ (kl n)).toW (aA.seqW (r2s h fr cs f U k i j _ q n o (by rw [Og];exact m)).toW.block (aA.ofW () (r2i h fr cs f U k i j _ (by omega)).toW))
 ·rw [Rq];exact aA.seq_out (by simp) (aA.ofW () (r2f h fr cs f U k i cs.length _ (kn (ε _))).toW)
inductive Tc (E:Nat→Nat→Prop):Nat→Nat→Prop
 |one {a b:Nat}:E a b→Tc E a b
 |step {a b c:Nat}:E a b→Tc E b c→Tc E a c
theorem Tc.trans {E:Nat→Nat→Prop} {a b c:Nat} (h:Tc E a b) (e:Tc E b c):Tc E a c:=by
 induction h with
 |one h=>exact .step h e
 |step h _ ih=>exact .step h (ih e)
inductive Pm (E:Nat→Nat→Prop) (m:Nat):Nat→Nat→Prop
 |one {a b:Nat}:E a b→Pm E m a b
 |via {a k b:Nat}:Pm E m a k→k<m→Pm E m k b→Pm E m a b
theorem Pm.split {E:Nat→Nat→Prop} {m a b:Nat} (h:Pm E (m+1) a b):Pm E m a b∨(Pm E m a m∧Pm E m m b):=by
 induction h with
 |one h=>exact .inl (.one h)
 | via _ i _ ih1 ih2=>
  rename_i a k b _ _;by_cases hm:k=m
  ·subst hm;rcases ih1 with f|⟨f,_⟩
   ·rcases ih2 with e|⟨_,e⟩
    ·exact .inr ⟨f,e⟩
    ·exact .inr ⟨f,e⟩
   ·rcases ih2 with e|⟨_,e⟩
    ·exact .inr ⟨f,e⟩
    ·exact .inr ⟨f,e⟩
  ·have i:k<m:=by omega
   rcases ih1 with f|⟨f,l⟩
   ·rcases ih2 with e|⟨e,j⟩
    ·exact .inl (.via f i e)
    ·exact .inr ⟨.via f i e,j⟩
   ·rcases ih2 with e|⟨e,j⟩
    ·exact .inr ⟨f,.via l i e⟩
    ·exact .inr ⟨f,j⟩
theorem Tc.pm {E:Nat→Nat→Prop} {n a b:Nat} (e:∀ a b,E a b→a<n) (h:Tc E a b):Pm E n a b:=by
 induction h with
 |one h=>exact .one h
 |step h h2 ih=>
  refine .via (.one h) ?_ ih;cases h2 with
  |one h3=>exact e _ _ h3
  |step h3 _=>exact e _ _ h3
theorem GN {N m k j:Nat} {U:List (List Bool)} (h:uq N U) (n:k<N) (p:j<N) (a b:Nat):kT (upd m k j U) a b=if a=k∧b=j then (kT U k j||kT U k m && kT U m j) else kT U a b:=by
 obtain ⟨l,o,q,i⟩:=h.row n;have f:k<U.length:=by rw [h.1];exact n
 unfold upd;generalize (kT U k j||kT U k m && kT U m j)=v;unfold kT;rw [i];by_cases ha:a=k
 ·subst ha;rw [π (l:=U.set a _),List.getElem?_set_self f,Xq9,π,Xxv];by_cases hb:b=j
  ·subst hb;rw [if_pos rfl,if_pos (by omega),if_pos ⟨rfl,rfl⟩];rfl
  ·rw [if_neg (fun e=>hb e.symm),if_neg (fun e=>hb e.2),i,π]
 ·rw [if_neg (fun e=>ha e.1),π (l:=U.set k _),List.getElem?_set_ne (fun e=>ha e.symm),← π]
theorem VG {N m k j:Nat} {U:List (List Bool)} (h:uq N U) (i:k<N) (l:j<N) {a b:Nat} (f:kT U a b=true):kT (upd m k j U) a b=true:=by
 rw [GN h i l];split
 ·rename_i e;rw [e.1,e.2] at f;rw [f];rfl
 ·exact f
theorem xw {N m k:Nat} {U:List (List Bool)} (h:uq N U) (f:k<N) {a b:Nat} (e:kT U a b=true):∀ n,n≤N→kT (DF m k n U) a b=true
 |0,_=>e
 |n+1,hn=>by rw [DI];exact VG (vV h f n) f (by omega) (xw h f e n (by omega))
theorem Ap {N m:Nat} {U:List (List Bool)} (h:uq N U) {a b:Nat} (e:kT U a b=true):∀ n,n≤N→kT (CX m n N U) a b=true
 |0,_=>e
 |n+1,hn=>by rw [CY];exact xw (vO h N n (by omega)) (by omega) (Ap h e n (by omega)) N (ε _)
theorem JQ {N m k:Nat} {U:List (List Bool)} (h:uq N U) (f:k<N) {b:Nat} (i:kT U k m=true) (j:kT U m b=true):∀ n,n≤N→b<n→kT (DF m k n U) k b=true
 |0,_,hb=>absurd hb (by omega)
 | n+1,hn,hb=>by
  rw [DI];by_cases e:b=n
  ·subst e;rw [GN (vV h f b) f (by omega),if_pos ⟨rfl,rfl⟩,xw h f i b (by omega),xw h f j b (by omega)];simp
  ·exact VG (vV h f n) f (by omega) (JQ h f i j n (by omega) (by omega))
theorem Ju {N m:Nat} {U:List (List Bool)} (h:uq N U) {a b:Nat} (f:b<N) (i:kT U a m=true) (j:kT U m b=true):∀ n,n≤N→a<n→kT (CX m n N U) a b=true
 |0,_,ha=>absurd ha (by omega)
 | n+1,hn,ha=>by
  rw [CY];by_cases e:a=n
  ·subst e;exact JQ (vO h N a (by omega)) (by omega) (Ap h i a (by omega)) (Ap h j a (by omega)) N (ε _) f
  ·exact xw (vO h N n (by omega)) (by omega) (Ju h f i j n (by omega) (by omega)) N (ε _)
def Yl (E:Nat→Nat→Prop) (U:List (List Bool)):Prop:=∀ a b,kT U a b=true→Tc E a b
theorem X_ {E:Nat→Nat→Prop} {N m k j:Nat} {U:List (List Bool)} (h:uq N U) (l:k<N) (n:j<N) (hs:Yl E U):Yl E (upd m k j U):=fun a b f=>by
 rw [GN h l n] at f;split at f
 ·rename_i e;obtain ⟨rfl,rfl⟩:=e;simp only [Xq7,η] at f;rcases f with i|⟨i,o⟩
  ·exact hs _ _ i
  ·exact (hs _ _ i).trans (hs _ _ o)
 ·exact hs _ _ f
theorem JR {E:Nat→Nat→Prop} {N m k:Nat} {U:List (List Bool)} (h:uq N U) (e:k<N) (hs:Yl E U):∀ n,n≤N→Yl E (DF m k n U)
 |0,_=>hs
 |n+1,hn=>by rw [DI];exact X_ (vV h e n) e (by omega) (JR h e hs n (by omega))
theorem Jv {E:Nat→Nat→Prop} {N m:Nat} {U:List (List Bool)} (h:uq N U) (hs:Yl E U):∀ n,n≤N→Yl E (CX m n N U)
 |0,_=>hs
 |n+1,hn=>by rw [CY];exact JR (vO h N n (by omega)) (by omega) (Jv h hs n (by omega)) N (ε _)
theorem KF {E:Nat→Nat→Prop} {N:Nat} {U:List (List Bool)} (h:uq N U) (hs:Yl E U):∀ n,n≤N→Yl E (xH n N U)
 |0,_=>hs
 |n+1,hn=>by rw [Il];exact Jv (yL h n) (KF h hs n (by omega)) N (ε _)
theorem xI {E:Nat→Nat→Prop} {N:Nat} {U:List (List Bool)} (h:uq N U) (e:∀ a b,E a b→kT U a b=true):∀ n,n≤N→∀ a b,a<N→b<N→Pm E n a b→kT (xH n N U) a b=true
 | 0,_,a,b,ha,hb,hp=>by
  have key:∀ a b,Pm E 0 a b→kT U a b=true:=fun a b hp=>by
   induction hp with
   |one h=>exact e _ _ h
   |via _ hk _ _ _=>omega
  exact key a b hp
 |n+1,hn,a,b,ha,hb,hp=>by
  rw [Il];rcases hp.split with f|⟨f,i⟩
  ·exact Ap (yL h n) (xI h e n (by omega) a b ha hb f) N (ε _)
  ·exact Ju (yL h n) hb (xI h e n (by omega) a n ha (by omega) f) (xI h e n (by omega) n b (by omega) hb i) N (ε _) ha
theorem SS {N:Nat} {U:List (List Bool)} (h:uq N U) {a b:Nat} (e:kT U a b=true):a<N∧b<N:=by
 unfold kT at e;by_cases ha:a<N
 ·obtain ⟨l,i,j,f⟩:=h.row ha;rw [f] at e;by_cases hb:b<N
  ·exact ⟨ha,hb⟩
  ·rw [π,Xxk (by omega)] at e;cases e
 ·have:U.getD a []= []:=by rw [π,Xxk (by rw [h.1];omega)];rfl
  rw [this] at e;cases e
theorem PQ {N:Nat} {U:List (List Bool)} (h:uq N U) {a b:Nat} (j:a<N) (f:b<N):kT (xH N N U) a b=true↔Tc (fun a b=>kT U a b=true) a b:=
 ⟨KF h (fun a b h=> .one h) N (ε _) a b,fun i=>xI h (fun _ _ h=>h) N (ε _) a b j f (i.pm fun a b e=>(SS h e).1)⟩
end Go.Proofs.Tryz
