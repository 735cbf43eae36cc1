/- Contracts of functions that the law reaches, each by its own hypotheses; joined by a program of mine. -/
import Derived.Test.YtcjindbblhcopaaGreatDoorC3
import Derived.Test.YtcjindbblhcopaaGreatDoorC2
import Derived.Test.YtcjindbblhcopaaGreatDoorM5
import Derived.Test.YtcjindbblhcopaaGreatDoorC1
import Derived.RangeFuncBox
import Derived.RangeFuncCalls
import Derived.RangeFuncLeaves
import Derived.Shelf.Abstract
import Derived.WalkKit
import Derived.OwnWalkIn
import Derived.TacticsInMore
import Derived.LoopNIn
import Derived.LoopIn
import Derived.Test.YtcjindbblhcopaaGreatDoorM4
import Derived.Test.YtcjindbblhcopaaGreatDoorCards
import Derived.Test.YtcjindbblhcopaaGreatDoorTie
import Derived.Deep.DeepHandedRow
set_option linter.unusedSimpArgs false
set_option linter.unusedVariables false
set_option maxRecDepth 100000
open Go AM
open List renaming cons_append→Xqx,nil_append→Xqd,length_map→Xxp,mem_singleton→Xjc,mem_cons→Xz5,not_mem_nil→Yqi,mem_of_getElem?→Xqm,length_cons→μ,getElem_mem→Xxe,getD_eq_getElem?_getD→ν,getElem?_eq_getElem→ξ,find?_map→Yxc,length_eq_zero_iff→Xv5,drop→ε,take→ο,length→η,take_of_length_le→Xqi,flatMap_append→Xzp,length_append→κ,append_nil→Xqa,getLastD_eq_getLast?→Xwd,getLast?_eq_getElem?→Xvu,length_nil→χ,map_cons→Xqc,map_nil→Xxz,foldl_cons→Xxg,foldl_nil→Xzs,getD_cons_zero→Xjj,getD_cons_succ→Xwj,length_singleton→τ,replicate→θ,replicate_zero→Xzc,append_assoc→Ψ,drop_drop→Xjl,map→Xwe,range→Xq1,prefix_refl→Yqj,prefix_append→Xvs,size_toArray→Xx9,push_toArray→Xz6,append_toArray→Xzq,find?_cons→Xz3,take_length_add_append→Xvj,length_set→Xxc,getElem_set_self→Xw8
open Nat renaming lt_of_le_of_lt→υ,ble→Xqk,le_of_ble_eq_true→Xz1,lt_trans→Xq6,zero_add→Θ,le_refl→φ,ble_eq_true_of_le→Xqg,eq_zero_or_pos→Ξ,zero_le→Xxf,reduceAdd→Xvg,reduceSub→Xvh,mod_lt→Xqh,lt_of_lt_of_le→σ,le_trans→Xxa,div_le_self→Xji,beq→Xqn
open UInt8 renaming ofNat→Xqj
open Bool renaming and_eq_true→π
open Int renaming toNat→δ,tmod→Xq4
open IntKind renaming wrap→γ
open AV renaming str→Yjy,sl→Yjn
namespace Go.Proofs.Tryz
abbrev zcc4_0 : List UInt8 := [97,50,51,52,53,54,55,56,57,48,49,50,51,52,53,54,55,56,57,48]
abbrev zcc4_1 : List AV := [.bool false,.str [],.str [1],.bool false,.str [1],.str [10],.bool false,.str [5],.str [1],.bool false,.str [1],.str [5]]
abbrev zcc4_2 : List AV := [.bool false,.str [],.str [1],.bool false,.str [1],.str [10],.bool false,.str [5],.str [1],.bool true,.str [1],.str [5]]
structure Sq where
 nm:List UInt8
 u1:Int
 u2:Int
 l:List Br
def Sq.c (q:Sq):Sc:=⟨q.nm,q.u1,q.u2,gK q.l,q.l.length⟩
def CC:List AV→List Br
 | .bool a::.str b::.str c::.bool d::.str e::.str f::r=> ⟨a,b,c,d,e,f⟩::CC r
 |_=> []
theorem xN:∀ l:List Br,CC (gK l)=l
 | []=>rfl
 |x::r=>by
  show CC (DT x++gK r)=_;simp only [DT,Xqx,Xqd,CC,xN r]
def CI (cmp:Br→Br→Int) (x:Sc):Int:=JW cmp (CC x.bx)
def Ci (cmp:Br→Br→Int) (x:Sc):Bool:=(JW cmp (CC x.bx)==((0:Nat):Int)) && !((CC x.bx).any rm)
def Gc (f:Nat) (cmp:Br→Br→Int) (qs:List Sq):Prop:=∀ q ∈ qs,q.l.length<2^40∧(∀ x ∈ q.l,x.sm)∧sP f cmp q.l
theorem bG (e:List Nd) (b:Bool) (qs:List Sq) (j:Bool) (cmp:Br→Br→Int) (f:Int) (name:List UInt8) (a:∀ y ∈ e,y.sm) (g:e.length<2^40) (c:qs.length<2^40) (m:Gc 129 cmp qs):
  CO 14 [.sl (aP e) e.length b,.sl (dB (qs.map Sq.c)) qs.length j,ω f,.str name] (.ret (ω ((i_ (CI cmp) (Ci cmp) e (qs.map Sq.c) f name:Nat):Int))):=by
 have h:=OV e b (qs.map Sq.c) j (CI cmp) (Ci cmp) f name a g (by rw [Xxp];exact c)
  (by
   intro x n;obtain ⟨q,d,rfl⟩:=List.mem_map.1 n;obtain ⟨i,k,l⟩:=m q d;unfold CI Ci;rw [show CC (Sq.c q).bx=q.l from xN q.l];exact ⟨sI q.nm q.u1 q.u2 q.l cmp i k l,fun _=>A0 q.nm q.u1 q.u2 q.l cmp i k l⟩)
  (fun d=>Ud e b (bT e) [] (by rw [show (bT e==((0:Nat):Int))=false from beq_eq_false_iff_ne.2 d];rfl) (tE e b a))
 rw [Xxp] at h;exact h
theorem dD {p q:Prop} (h:p) (e:p=q):q:=e ▸ h
theorem bO {x:Nat} (h:x<2^128):(aa x).length<2^33:=υ (bC (k:=16) h) (by decide)
theorem ae4 (n:Nat) (h:1≤n∧n≤9):dc (vQ false [] [1]) (vQ false [Xqj n] [1])= -1:=by
 have a:n=1∨n=2∨n=3∨n=4∨n=5∨n=6∨n=7∨n=8∨n=9:=by omega
 rcases a with e|e|e|e|e|e|e|e|e<;>(subst e;clear h;exact of_decide_eq_true (by kernel_rfl))
theorem Zx (n:Nat) (h:1≤n∧n≤9):CO 129 [Ω false [] [1],Ω false [Xqj n] [1]] (.ret (ω (-1))):=ae4 n h ▸ uq false false [] [1] [Xqj n] [1] (by decide) (by decide) (show 1<2^28 by decide) (by decide)
theorem f_ {a:List Nd} (h:a.all (fun x=>Xqk (x.num.length+1) 8589934592 && Xqk (x.den.length+1) 8589934592)=true):∀ x ∈ a,x.sm:=by
 intro x b;have:=List.all_eq_true.1 h x b;rw [π] at this;exact ⟨Xz1 this.1,Xz1 this.2⟩
def kP:Br→Br→Int:=fun _ _=> -1
theorem p_ {f:Nat}:Gc f kP []:=fun q a=>by simp at a
theorem J1 {f:Nat} {a b:Br} (h:CO f [Uk a,Uk b] (.ret (ω (-1)))):sP f kP [a,b]:=by
 intro i y x d c _ _
 match i with
 |0=>simp at d c;subst d c;exact h
 |i+1=>simp at c
theorem FE {f:Nat} {a b:Br} {i:List UInt8} {u1 u2:Int} (e:a.sm) (g:b.sm) (h:CO f [Uk a,Uk b] (.ret (ω (-1)))):Gc f kP [⟨i,u1,u2,[a,b]⟩]:=by
 intro q c;rw [Xjc] at c;subst c;refine ⟨by simp, ?_,J1 h⟩;intro x d;simp only [Xz5,Yqi,or_false] at d;rcases d with rfl|rfl
 ·exact e
 ·exact g
def Br.s28 (x:Br):Prop:=(x.fa.length<2^28∧x.fd.length<2^28)∧(x.ra.length<2^28∧x.rd.length<2^28)
theorem Br.s28.sm {x:Br} (h:x.s28):x.sm:=⟨⟨Xq6 h.1.1 (by decide),Xq6 h.1.2 (by decide)⟩,Xq6 h.2.1 (by decide),Xq6 h.2.2 (by decide)⟩
def PE (q:Sq):Prop:=∃ b:Br,b.s28∧b.fn=false∧b.fa= []∧b.fd= [1]∧(q.l= [b]∨∃ (c:Br) (n:Nat),1≤n∧n≤9∧c.s28∧c.fn=false∧c.fa= [Xqj n]∧c.fd= [1]∧q.l= [b,c])
theorem PE.s28 {q:Sq} (h:PE q):q.l.length<2^40∧∀ b ∈ q.l,b.s28:=by
 obtain ⟨b,e,k,m,o,a⟩:=h;rcases a with a|⟨c,n,l,p,g,j,f,i,a⟩
 ·rw [a];exact ⟨by simp,fun x d=>by rw [Xjc] at d;exact d ▸ e⟩
 ·rw [a];refine ⟨by simp,fun x d=> ?_⟩;simp only [Xz5,Yqi,or_false] at d;rcases d with rfl|rfl
  ·exact e
  ·exact g
def gS (y x:Br):Int:=dc (vQ y.fn y.fa y.fd) (vQ x.fn x.fa x.fd)
def PF (x:Br):RQ × RQ:=(vQ x.fn x.fa x.fd,vQ x.rn x.ra x.rd)
def JS (l:List Br) (x:RQ):Oq:=if JW gS l=0 then Qc (l.map PF) x else .err (JW gS l)
theorem Ia {l:List Br} (h:∀ x ∈ l,x.s28):sP 129 gS l:=fun i y x a b _ _=>
 uq y.fn x.fn y.fa y.fd x.fa x.fd (h y (Xqm a)).1.1 (h y (Xqm a)).1.2 (h x (Xqm b)).1.1 (h x (Xqm b)).1.2
theorem uE {n:Bool} {a d:List UInt8} (h:fu n a d=true):vQ n a d=⟨n,ae a,ae d⟩:=by unfold vQ;rw [if_pos h]
theorem VB {x:Br} (h:lV x=true):LI (PF x)=DT x:=by
 simp only [lV,π] at h;unfold LI PF DT;simp only [uE h.1,uE h.2];rw [(iW h.1).1,(iW h.1).2,(iW h.2).1,(iW h.2).2]
theorem L5:∀ {l:List Br},l.all lV=true→DS (l.map PF)=gK l
 | [],_=>rfl
 |x::l,h=>by
  simp only [List.all_cons,π] at h;show LI (PF x)++DS (l.map PF)=DT x++gK l;rw [VB h.1,L5 h.2]
theorem Ea:∀ (l:List Br) (y:Br),Gh gS y l=true→om ((y::l).map PF)
 | [],_,_=>True.intro
 | x::l,y,h=>by
  unfold Gh at h;cases hd:decide (((0:Nat):Int)≤gS y x) with
  |true=>rw [hd] at h;cases h
  |false=>
   rw [hd] at h;have a:gS y x<0:=by have:=of_decide_eq_false hd;omega
   exact ⟨(d_ (fg _ _ _) (fg _ _ _)).1.1 a,Ea l x h⟩
theorem H_ {l:List Br} (h:JW gS l=0):PQ (l.map PF)∧DS (l.map PF)=gK l:=by
 unfold JW at h;cases a:decide (((8:Nat):Int)<(l.length:Int)) with
 |true=>rw [a] at h;cases h
 | false=>
  rw [a] at h;have n:l.length≤8:=by have:=of_decide_eq_false a;omega
  cases l with
  |nil=>cases h
  | cons x r=>
   rw [show ((((x::r).length:Nat):Int)==((0:Nat):Int))=false from beq_eq_false_iff_ne.2 (by simp only [μ];omega),LZ] at h;cases c:(x::r).all lV with
   |false=>rw [c] at h;cases h
   | true=>
    rw [c] at h;cases hs:(jK x.fn x.fa x.fd==((0:Nat):Int)) && Gh gS x r with
    |false=>rw [hs] at h;cases h
    | true=>
     rw [hs] at h;simp only [π] at hs;cases d:(x::r).any AR with
     |true=>rw [d] at h;cases h
     | false=>
      rw [HY] at d;have m:(x::r).all Ip=true:=by simpa using d
      refine ⟨⟨by simpa using n,by simp,fun b e=> ?_,fun b e=> ?_,Ea r x hs.2⟩,L5 c⟩
      ·obtain ⟨y,_,rfl⟩:=List.mem_map.1 e;exact ⟨fg _ _ _,fg _ _ _⟩
      ·obtain ⟨y,k,rfl⟩:=List.mem_map.1 e;have:=List.all_eq_true.1 m y k;simp only [Ip,π] at this;obtain ⟨g,f⟩:=mM this.1;obtain ⟨j,i⟩:=mM this.2;exact ⟨by show gU (vQ _ _ _)=true;rw [uE g];exact f,by show gU (vQ _ _ _)=true;rw [uE j];exact i⟩
theorem Vv {l:List (RQ × RQ)} {x:RQ} (b:PQ l) (h:x.ok):(Qc l x).ok:=by
 unfold Qc;split
 ·have:=uA false;exact this
 ·refine lH ?_;have g:=(tH x l).1;have d:=b.pos;have c:eG l x - 1<l.length:=by omega
  have a:eG l x - 1<(fN q0 l).length:=by rw [Ab l q0 b.pos];exact c
  have f:=Xxe c;have e:Vt l x=eu (fN q0 l)[eG l x - 1] (eB l[eG l x - 1].2 (cJ x l[eG l x - 1].1)):=by
   unfold Vt;rw [ν,ν,ξ c,ξ a];rfl
  rw [e];exact cU (FK b _ (Xxe a)).1 (eK (b.ok _ f).2 (fq h (b.ok _ f).1))
theorem Vu {l:List Br} {x:RQ} (a:x.ok):(JS l x).ok:=by
 unfold JS;split
 ·rename_i h;exact Vv (H_ h).1 a
 ·assumption
theorem QJ (b:List UInt8) (u1 u2:Int) {l:List Br} (hs:∀ x ∈ l,x.s28) (g:l.length<2^40) {x:RQ} (c:x.ok) (f:gU x=true):
  CO 154 [.agg [.str b,ω u1,ω u2,.sl (gK l) l.length false],qA x] (.ret (.tup [.agg [.bool (JS l x).n,.str (JS l x).a,.str (JS l x).d],ω (JS l x).e])):=by
 have a:=sI b u1 u2 l gS g (fun x c=>(hs x c).sm) (Ia hs);unfold JS;by_cases h:JW gS l=0
 ·rw [if_pos h];rw [h] at a;obtain ⟨i,e⟩:=H_ h;have h0:=VS b u1 u2 i c f;simp only [DU,e,Xxp] at h0;exact h0 a
 ·rw [if_neg h];have d:lit true (!(JW gS l==((0:Nat):Int)))=true:=by rw [show (JW gS l==((0:Nat):Int))=false from beq_eq_false_iff_ne.2 h];rfl
  exact VV x _ _ b u1 u2 _ d (VQ x _ _ b u1 u2 _ d a)
structure gy where
 ls:List Lk
 qs:List Sq
def Ya (qs:List Sq) (nm:List UInt8):Option Sq:=qs.find? fun q=>nm==q.nm
theorem S_ (qs:List Sq) (a:List UInt8):scO (qs.map Sq.c) a=(Ya qs a).map Sq.c:=by
 unfold scO Ya;rw [Yxc];rfl
abbrev ac9 (E:gy):AV:= .agg [.mp (uV E.ls).1 (uV E.ls).2,.mp (xn (E.qs.map Sq.c)).1 (xn (E.qs.map Sq.c)).2]
def Bb (qs:List Sq) (op:Int) (nm:List UInt8) (st:RQ) (a:Oq):Oq:=
 if op=20 then (if a.bit then FV (!a.one) else .err 13)
 else if op=24 then (match Ya qs nm with|none=> .err 12|some s=>JS s.l a.q)
 else if op=21 then iP (qQ a.q st) else if op=22 then iP (Li a.q st) else iP (KH a.q st)
def fC (E:gy) (x:Nd) (l:List Oq):Oq:=
 if x.op≤4 then wO x.neg x.num x.den 0 else if x.op≤8 then (AW E.ls x.op x.name).getD (.err 12)
 else match l with
 | [a]=>if a.e=0 then Bb E.qs x.op x.name (vQ x.neg x.num x.den) a else a
 | [a,b]=>if a.e=0 then (if b.e=0 then lw x.op a b else b) else a
 | [a,b,c]=>Gt a b c
 |_=> .err 11
def O7 (x:Nd):Prop:=21≤x.op→x.op≤23→dK x.neg x.num x.den=true∧0<jK x.neg x.num x.den
theorem He {a s:RQ} (c:gU a=true) (e:gU s=true):jw 10000 (KH a s)∧jw 10000 (Li a s)∧jw 10000 (qQ a s):=by
 have b:=GD c e;have f:jw 51 s:=bz e;have d:=Ac b (f.mono (show 51≤208 by decide));refine ⟨?_, ?_,b.mono (by decide)⟩
 ·unfold KH;split
  ·exact d.mono (by decide)
  ·exact b.mono (by decide)
 ·unfold Li;split
  ·exact jw.mono (L:=51) (bz c) (by decide)
  ·exact d.mono (by decide)
theorem DL {a s:RQ} (b:a.ok) (hs:s.ok):(Li a s).ok∧(KH a s).ok:=by
 constructor
 ·unfold Li;split
  ·exact b
  ·exact cU (gT hs) hs
 ·unfold KH;split
  ·exact cU (gT hs) hs
  ·exact gT hs
theorem GJ (E:gy) (x:Nd) (G:Bool) (a:Oq) (m:20≤x.op∧x.op≤24) (i:O7 x) (C:a.ok) (F:a.e=0) (p:∀ s ∈ E.qs,s.l.length<2^40∧∀ b ∈ s.l,b.s28):
  CO 125 [ac9 E,.agg (nJ x),.sl (Fc a) 1 G] (.ret (dQ (Bb E.qs x.op x.name (vQ x.neg x.num x.den) a))):=by
 obtain ⟨q,rfl,g,d⟩:=qd C F;obtain ⟨f,v,u,w,k⟩:=x;unfold Bb;simp only at m i ⊢;have step:21≤f→f≤23→∃ c:RQ,vQ v u w=c∧c.ok∧gU c=true∧0<fZ c∧u=aa c.n∧w=aa c.d∧v=c.neg:=by
  intro l n;obtain ⟨D,z⟩:=i l n;obtain ⟨h,B⟩:=mM D;refine ⟨_,rfl,fg _ _ _,by rw [uE h];exact B,by rw [← sK];exact z, ?_, ?_, ?_⟩
  ·rw [uE h];exact (iW h).1.symm
  ·rw [uE h];exact (iW h).2.symm
  ·rw [uE h]
 have o:∀ {r:RQ},jw 10000 r→r.ok→CO 149 [qA r] (.ret (dQ (iP r))):=fun l n=>mI n (υ l.1 (by decide)) (υ l.2 (by decide))
 have A:f=20∨f=21∨f=22∨f=23∨f=24:=by omega
 rcases A with rfl|rfl|rfl|rfl|rfl
 ·rw [if_pos rfl];have t:=jM (.val q);generalize Oq.bit (.val q)=w2 at*
  generalize Oq.one (.val q)=w1 at*
  cases w2 with
  |false=>exact QT (.val q) _ _ _ _ _ _ _ _ _ _ _ rfl t (gM 13)
  |true=>exact QU (.val q) _ _ _ _ _ _ _ _ _ _ _ _ rfl t (iU _)
 ·obtain ⟨c,e,k1,k2,k3,rfl,rfl,rfl⟩:=step (by decide) (by decide);rw [e,if_neg (by decide),if_neg (by decide),if_pos rfl];exact QV (.val q) _ _ c _ _ _ _ _ _ (x_ g d k1 k2 k3) (o (He d k2).2.2 (gT k1))
 ·obtain ⟨c,e,k1,k2,k3,rfl,rfl,rfl⟩:=step (by decide) (by decide);rw [e,if_neg (by decide),if_neg (by decide),if_neg (by decide),if_pos rfl];exact QW (.val q) _ _ c _ _ _ _ _ _ (Wt g d k1 k2 k3) (o (He d k2).2.1 (DL g k1).1)
 ·obtain ⟨c,e,k1,k2,k3,rfl,rfl,rfl⟩:=step (by decide) (by decide);rw [e,if_neg (by decide),if_neg (by decide),if_neg (by decide),if_neg (by decide)];exact QX (.val q) _ _ c _ _ _ _ _ _ (Mx g d k1 k2 k3) (o (He d k2).1 (DL g k1).2)
 ·rw [if_neg (by decide),if_pos rfl];have j:=Fy (E.qs.map Sq.c) k;rw [S_] at j;cases hs:Ya E.qs k with
  |none=>
   rw [hs] at j;exact QY (.val q) _ _ false _ _ k [] 0 0 _ _ _ _ [] 0 (by rw [j];exact aN.zsc) rfl (xo _) (gM 12)
  |some s=>
   rw [hs] at j;have y:=List.mem_of_find?_eq_some hs;exact QZ (.val q) _ _ _ true _ _ k s.nm s.u1 s.u2 _ _ _ _ (gK s.l) s.l.length (by rw [j];exact aN.refl _) rfl (xo _) (QJ s.nm s.u1 s.u2 (p s y).2 (p s y).1 g d)
def kM (l:List Oq):List AV:=l.flatMap Fc
theorem My (E:gy) (x:Nd) (j:Bool) (l:List Oq) (h0:1≤x.op) (r:x.op≤24) (q:O7 x) (n:l.length=cT x.op) (y:∀ o ∈ l,o.ok) (u:x.sm) (B:∀ s ∈ E.qs,s.l.length<2^40∧∀ b ∈ s.l,b.s28):
  CO 89 [ac9 E,.agg (nJ x),.sl (kM l) l.length j] (.ret (dQ (fC E x l))):=by
 obtain ⟨d,i,f,g,e⟩:=x;unfold fC;simp only at h0 r q n ⊢;have k:∀ {p:Prop} [Decidable p],¬ p→lit false (decide p)=true:=fun h=>ay (Yq1 h)
 have v:∀ o:Oq,o.e=0→lit false (!(o.e==((0:Nat):Int)))=true:=fun o h=>by rw [h];rfl
 have A:∀ o:Oq,¬ o.e=0→lit true (!(o.e==((0:Nat):Int)))=true:=fun o h=>by rw [show (o.e==((0:Nat):Int))=false from beq_eq_false_iff_ne.2 h];rfl
 by_cases h4:d≤4
 ·rw [if_pos h4];have:cT d=0:=by unfold cT;rw [if_neg (by omega),if_neg (by omega),if_neg (by omega)]
  rw [this,Xv5] at n;subst n;exact V7 _ i j f g e d _ _ _ _ (aw (Yq0 h4)) (V4 i j f g e d _ _ _ _ _ [] 0 (Ez i f g (Xq6 u.1 (by decide)) (Xq6 u.2 (by decide))))
 ·rw [if_neg h4];by_cases h8:d≤8
  ·rw [if_pos h8];have:cT d=0:=by unfold cT;rw [if_neg (by omega),if_neg (by omega),if_neg (by omega)]
   rw [this,Xv5] at n;subst n;refine V8 _ i j f g e d _ _ _ _ (aw (Yq0 h8)) (k h4) ?_;have w:=UF E.ls d e;cases t:AW E.ls d e with
   |none=>
    rw [t] at w;exact V5 i j false f g e d _ _ _ _ _ [] 0 w rfl (xf _) (gM 12)
   |some o=>
    rw [t] at w;exact V6 i j true f g e d o _ _ _ _ [] 0 w rfl (xf _)
  ·rw [if_neg h8];by_cases h15:d=15
   ·have:cT d=3:=by unfold cT;rw [if_pos h15]
    rw [this] at n
    match l,n with
    | [a,b,c],_=>
     exact Wf a b c _ i j f g e d _ _ _ _ (aw (by rw [h15];rfl)) (k h8) (k h4) (GG d i j f g e _ _ _ _ a b c)
   ·have m:lit false (d==((15:Nat):Int))=true:=by rw [show (d==((15:Nat):Int))=false from beq_eq_false_iff_ne.2 h15];rfl
    by_cases h19:d≤19
    ·have:cT d=2:=by unfold cT;rw [if_neg (by omega),if_pos (by omega)]
     rw [this] at n
     match l,n with
     | [a,b],_=>
      have z:=y a (by simp);have C:=y b (by simp);simp only;by_cases za:a.e=0
      ·rw [if_pos za];by_cases zb:b.e=0
       ·rw [if_pos zb];exact We a b _ i j f g e d _ _ _ _ (v b zb) (v a za) m (k h8) (k h4) (MA d i j f g e _ _ _ _ a b (by omega) z za C zb)
       ·rw [if_neg zb];exact Wd a b i j f g e d _ _ _ _ (A b zb) (v a za) m (k h8) (k h4)
      ·rw [if_neg za];exact Wc a b i j f g e d _ _ _ _ (A a za) m (k h8) (k h4)
    ·have:cT d=1:=by unfold cT;rw [if_neg (by omega),if_neg (by omega),if_pos (by omega)]
     rw [this] at n
     match l,n with
     | [a],_=>
      have z:=y a (by simp);simp only;by_cases za:a.e=0
      ·rw [if_pos za];exact V_ a _ i j f g e d _ _ _ _ (v a za) m (k h8) (k h4) (GJ E ⟨d,i,f,g,e⟩ j a ⟨by show 20≤d;omega,r⟩ q z za B)
      ·rw [if_neg za];exact V9 a i j f g e d _ _ _ _ (A a za) m (k h8) (k h4)
theorem Oh {j:Int} {a b:Oq} (f:a.ok) (e:b.ok) (i:a.e=0) (g:b.e=0):(lw j a b).ok:=by
 obtain ⟨q,rfl,c,k⟩:=qd f i;obtain ⟨r,rfl,d,l⟩:=qd e g;unfold lw
 repeat' split
 all_goals first|exact lH (cU c d)|exact lH (fq c d)|exact lH (eK c d)|exact (by decide:(13:Int) ≠ 0)|exact e|exact f|exact uA _|exact (by decide:(16:Int) ≠ 0)|(rename_i h;exact lH (qG c (Nat.pos_of_ne_zero h)))
theorem Ti {qs:List Sq} {g:Int} {e:List UInt8} {c:RQ} {a:Oq} (ks:c.ok) (f:a.ok) (d:a.e=0):(Bb qs g e c a).ok:=by
 obtain ⟨q,rfl,b,h⟩:=qd f d;unfold Bb
 repeat' split
 all_goals first|exact uA _|exact (by decide:(13:Int) ≠ 0)|exact (by decide:(12:Int) ≠ 0)|exact Vu b|exact lH (gT ks)|exact lH (DL b ks).1|exact lH (DL b ks).2
theorem W6 {a:List Lk} {b:Int} {c:List UInt8}:((AW a b c).getD (.err 12)).ok:=by
 unfold AW;cases a.find? _ with
 |none=>exact (by decide:(12:Int) ≠ 0)
 |some x=>exact DG _ _ _ _
theorem zn {E:gy} {x:Nd} {l:List Oq} (d:∀ o ∈ l,o.ok):(fC E x l).ok:=by
 unfold fC;split
 ·exact DG _ _ _ _
 ·split
  ·exact W6
  ·split
   ·rename_i a;split
    ·exact Ti (fg _ _ _) (d a (by simp)) (by assumption)
    ·exact d a (by simp)
   ·rename_i a b;split
    ·split
     ·exact Oh (d a (by simp)) (d b (by simp)) (by assumption) (by assumption)
     ·exact d b (by simp)
    ·exact d a (by simp)
   ·rename_i a b c;unfold Gt
    repeat' split
    all_goals first|exact (by decide:(13:Int) ≠ 0)|exact d _ (by simp)
   ·exact (by decide:(11:Int) ≠ 0)
abbrev FM (ls:List Lk) (cs:List Sc) (nl ns:Bool) (k1 v1 k2 v2:List AV):Hp:= [(0,⟨[.sl (fK ls) ls.length nl,.sl (dB cs) cs.length ns],0,false,0,0,true⟩),(1,⟨[.mp k1 v1,.mp k2 v2],0,false,0,0,true⟩)]
theorem Q3 (x:Nd) (o:Oq) (f h b g:Bool) (k:Nat) (k1 v1 k2 a l q:List AV) (e:List Nd) (A:List (List Nat)) (c:List Lk) (d:List Sc) {nt:Nat} (m:56≤nt) (t:(ε ((δ (k:Int))*5) (aP e))=nJ x++l) (r:(ε ((δ (k:Int))*1) (aX A))= [.sl [] 0 false]++q) (n:ω (γ .i64 ((k:Int)+((1:Nat):Int)))=ω ((k+1:Nat):Int)) (h0:(decide (((0:Nat):Int)≤(k:Int)))=true) (p:(decide ((k:Int)<(A.length:Int)))=true) (j:(decide ((k:Int)<(e.length:Int)))=true) (s:lit true (decide ((k:Int)<(e.length:Int)))=true) (i:CO 89 [.agg [.mp k1 v1,.mp k2 a],.agg [ω x.op,.bool x.neg,.str x.num,.str x.den,.str x.name],.nilS] (.ret (dQ o))):ψ nt f54 ⟨[(3,.ptr 0 0 0),(5,.sl (aX A) A.length g),(7,.ptr 1 0 0),(8,.nilS),(23,.sl (aP e) e.length f),(24,ω (e.length:Int)),(25,ω (k:Int))],(FM c d h b k1 v1 k2 a),.dead,[]⟩ (.normal) ⟨[(3,.ptr 0 0 0),(5,.sl (aX A) A.length g),(7,.ptr 1 0 0),(8,.ref 2 0 0 1),(23,.sl (aP e) e.length f),(24,ω (e.length:Int)),(25,ω ((k+1:Nat):Int))],(FM c d h b k1 v1 k2 a++ [(2,⟨[.bool o.n,.str o.a,.str o.d,ω o.e],0,false,0,4,true⟩)]),.dead,[]⟩:=pN 54 [] 3 1 (.k 12 h0 (.c p (.k 6 h0 (.c j (.c s .nil))))) (.v 54 (.eq n) (.c i (.v 32 (.ppt r) (.v 28 (.ppt t) .nil)))) m
theorem Q4 (a c d b:Bool) (k:Nat) (k1 v1 k2 i:List AV) (e:List Nd) (A:List (List Nat)) (g:List Lk) (h:List Sc) {nt:Nat} (f:56≤nt) (h0:lit false (decide ((k:Int)<(e.length:Int)))=true):ψ nt f54 ⟨[(3,.ptr 0 0 0),(5,.sl (aX A) A.length b),(7,.ptr 1 0 0),(8,.nilS),(23,.sl (aP e) e.length a),(24,ω (e.length:Int)),(25,ω (k:Int))],(FM g h c d k1 v1 k2 i),.dead,[]⟩ (.exit 0) ⟨[(8,.nilS)],[],.dead,[]⟩:=pN 54 [] 1 0 (.c h0 .nil) (.nil) f
theorem Wm (x:Nd) (o:Oq) (h j c i:Bool) (k:Nat) (k1 v1 k2 b n s:List AV) (e:List Nd) (A:List (List Nat)) (os:List Oq) (d:List Lk) (g:List Sc) {nt:Nat} (p:56≤nt) (v:(ε ((δ (k:Int))*5) (aP e))=nJ x++n) (t:(ε ((δ (k:Int))*1) (aX A))= [.sl [] 0 false]++s) (a:((ο (os.length*4) (kM os))++ [.bool o.n,.str o.a,.str o.d,ω o.e])=(kM (os++ [o]))) (q:ω (γ .i64 ((k:Int)+((1:Nat):Int)))=ω ((k+1:Nat):Int)) (h0:(Xqk (os.length+1) 1099511627776)=true) (r:(Xqk (os.length*4) (η (kM os)))=true) (f:(decide (((0:Nat):Int)≤(k:Int)))=true) (u:(decide ((k:Int)<(A.length:Int)))=true) (w:(decide ((k:Int)<(e.length:Int)))=true) (m:lit true (decide ((k:Int)<(e.length:Int)))=true) (l:CO 89 [.agg [.mp k1 v1,.mp k2 b],.agg [ω x.op,.bool x.neg,.str x.num,.str x.den,.str x.name],.nilS] (.ret (dQ o))):ψ nt f54 ⟨[(3,.ptr 0 0 0),(5,.sl (aX A) A.length i),(7,.ptr 1 0 0),(8,.ref 2 0 0 os.length),(23,.sl (aP e) e.length h),(24,ω (e.length:Int)),(25,ω (k:Int))],(FM d g j c k1 v1 k2 b++ [(2,⟨(kM os),0,false,0,4,true⟩)]),.dead,[]⟩ (.normal) ⟨[(3,.ptr 0 0 0),(5,.sl (aX A) A.length i),(7,.ptr 1 0 0),(8,.ref 2 0 0 (os.length+1)),(23,.sl (aP e) e.length h),(24,ω (e.length:Int)),(25,ω ((k+1:Nat):Int))],(FM d g j c k1 v1 k2 b++ [(2,⟨(kM (os++ [o])),0,false,0,4,true⟩)]),.dead,[]⟩:=pN 54 [] 2 1 (.k 1 h0 (.c r (.k 10 f (.c u (.k 6 f (.c w (.c m .nil))))))) (.v 54 (.eq q) (.b 53 a (.c l (.v 32 (.ppt t) (.v 28 (.ppt v) .nil))))) p
theorem Wn (a c d b:Bool) (k:Nat) (k1 v1 k2 i:List AV) (e:List Nd) (A:List (List Nat)) (os:List Oq) (g:List Lk) (h:List Sc) {nt:Nat} (f:56≤nt) (h0:lit false (decide ((k:Int)<(e.length:Int)))=true):ψ nt f54 ⟨[(3,.ptr 0 0 0),(5,.sl (aX A) A.length b),(7,.ptr 1 0 0),(8,.ref 2 0 0 os.length),(23,.sl (aP e) e.length a),(24,ω (e.length:Int)),(25,ω (k:Int))],(FM g h c d k1 v1 k2 i++ [(2,⟨(kM os),0,false,0,4,true⟩)]),.dead,[]⟩ (.exit 0) ⟨[(8,.ref 0 0 0 os.length)],[(0,⟨(kM os),0,false,0,4,true⟩)],.dead,[]⟩:=pN 54 [] 1 0 (.c h0 .nil) (.nil) f
theorem Wo (x:Nd) (o b:Oq) (j m g l:Bool) (k c:Nat) (k1 v1 k2 f u B t:List AV) (e:List Nd) (A:List (List Nat)) (os:List Oq) (h:List Lk) (i:List Sc) {nt:Nat} (v:56≤nt) (F:(ε ((δ (k:Int))*5) (aP e))=nJ x++u) (C:(ε ((δ (k:Int))*1) (aX A))= [.sl [ω (c:Int)] 1 false]++B) (a:(ε ((0+(δ (c:Int)))*4) (kM os))=Fc b++t) (d:((ο (os.length*4) (kM os))++ [.bool o.n,.str o.a,.str o.d,ω o.e])=(kM (os++ [o]))) (y:ω (γ .i64 ((k:Int)+((1:Nat):Int)))=ω ((k+1:Nat):Int)) (h0:(Xqk (os.length+1) 1099511627776)=true) (z:(Xqk (os.length*4) (η (kM os)))=true) (r:(decide (((0:Nat):Int)≤(c:Int)))=true) (D:(decide ((c:Int)<(os.length:Int)))=true) (n:(decide (((0:Nat):Int)≤(k:Int)))=true) (q:(decide ((k:Int)<(A.length:Int)))=true) (s:(decide ((k:Int)<(e.length:Int)))=true) (w:lit true (decide ((k:Int)<(e.length:Int)))=true) (p:CO 89 [.agg [.mp k1 v1,.mp k2 f],.agg [ω x.op,.bool x.neg,.str x.num,.str x.den,.str x.name],.sl [.bool b.n,.str b.a,.str b.d,ω b.e] 1 true] (.ret (dQ o))):ψ nt f54 ⟨[(3,.ptr 0 0 0),(5,.sl (aX A) A.length l),(7,.ptr 1 0 0),(8,.ref 2 0 0 os.length),(23,.sl (aP e) e.length j),(24,ω (e.length:Int)),(25,ω (k:Int))],(FM h i m g k1 v1 k2 f++ [(2,⟨(kM os),0,false,0,4,true⟩)]),.dead,[]⟩ (.normal) ⟨[(3,.ptr 0 0 0),(5,.sl (aX A) A.length l),(7,.ptr 1 0 0),(8,.ref 2 0 0 (os.length+1)),(23,.sl (aP e) e.length j),(24,ω (e.length:Int)),(25,ω ((k+1:Nat):Int))],(FM h i m g k1 v1 k2 f++ [(2,⟨(kM (os++ [o])),0,false,0,4,true⟩)]),.dead,[]⟩:=pN 54 [] 4 3 (.k 1 h0 (.c z (.n 12 (.a (aD [.bool,.str,.str,.int .i64] a rfl) (.c r (.c D (.k 5 n (.c q (.k 6 n (.c s (.c w .nil))))))))))) (.v 54 (.eq y) (.b 53 d (.c p (.v 43 (.rd [.bool,.str,.str,.int .i64] a rfl) (.v 32 (.ppt C) (.v 28 (.ppt F) .nil)))))) v
theorem Wp (x:Nd) (o c a:Oq) (p r j q:Bool) (k f g:Nat) (k1 v1 k2 i y F w t:List AV) (e:List Nd) (A:List (List Nat)) (os:List Oq) (l:List Lk) (m:List Sc) {nt:Nat} (z:56≤nt) (K:(ε ((δ (k:Int))*5) (aP e))=nJ x++y) (I:(ε ((δ (k:Int))*1) (aX A))= [.sl [ω (f:Int),ω (g:Int)] 2 false]++F) (b:(ε ((0+(δ (f:Int)))*4) (kM os))=Fc c++w) (d:(ε ((0+(δ (g:Int)))*4) (kM os))=Fc a++t) (h:((ο (os.length*4) (kM os))++ [.bool o.n,.str o.a,.str o.d,ω o.e])=(kM (os++ [o]))) (C:ω (γ .i64 ((k:Int)+((1:Nat):Int)))=ω ((k+1:Nat):Int)) (h0:(Xqk (os.length+1) 1099511627776)=true) (D:(Xqk (os.length*4) (η (kM os)))=true) (v:(decide (((0:Nat):Int)≤(g:Int)))=true) (J:(decide ((g:Int)<(os.length:Int)))=true) (L:(decide (((0:Nat):Int)≤(f:Int)))=true) (u:(decide ((f:Int)<(os.length:Int)))=true) (n:(decide (((0:Nat):Int)≤(k:Int)))=true) (B:(decide ((k:Int)<(A.length:Int)))=true) (H:(decide ((k:Int)<(e.length:Int)))=true) (G:lit true (decide ((k:Int)<(e.length:Int)))=true) (s:CO 89 [.agg [.mp k1 v1,.mp k2 i],.agg [ω x.op,.bool x.neg,.str x.num,.str x.den,.str x.name],.sl [.bool c.n,.str c.a,.str c.d,ω c.e,.bool a.n,.str a.a,.str a.d,ω a.e] 2 true] (.ret (dQ o))):ψ nt f54 ⟨[(3,.ptr 0 0 0),(5,.sl (aX A) A.length q),(7,.ptr 1 0 0),(8,.ref 2 0 0 os.length),(23,.sl (aP e) e.length p),(24,ω (e.length:Int)),(25,ω (k:Int))],(FM l m r j k1 v1 k2 i++ [(2,⟨(kM os),0,false,0,4,true⟩)]),.dead,[]⟩ (.normal) ⟨[(3,.ptr 0 0 0),(5,.sl (aX A) A.length q),(7,.ptr 1 0 0),(8,.ref 2 0 0 (os.length+1)),(23,.sl (aP e) e.length p),(24,ω (e.length:Int)),(25,ω ((k+1:Nat):Int))],(FM l m r j k1 v1 k2 i++ [(2,⟨(kM (os++ [o])),0,false,0,4,true⟩)]),.dead,[]⟩:=pN 54 [] 5 11 (.k 1 h0 (.c D (.n 13 (.a (aD [.bool,.str,.str,.int .i64] d rfl) (.c v (.c J (.n 7 (.a (aD [.bool,.str,.str,.int .i64] b rfl) (.c L (.c u (.k 5 n (.c B (.k 6 n (.c H (.c G .nil))))))))))))))) (.v 54 (.eq C) (.b 53 h (.c s (.v 43 (.rd [.bool,.str,.str,.int .i64] d rfl) (.v 43 (.rd [.bool,.str,.str,.int .i64] b rfl) (.v 32 (.ppt I) (.v 28 (.ppt K) .nil))))))) z
theorem Wq (x:Nd) (o d a b:Oq) (t v q u:Bool) (k h i j:Nat) (k1 v1 k2 n G L F z R:List AV) (e:List Nd) (A:List (List Nat)) (os:List Oq) (r:List Lk) (s:List Sc) {nt:Nat} (H:56≤nt) (P:(ε ((δ (k:Int))*5) (aP e))=nJ x++G) (N:(ε ((δ (k:Int))*1) (aX A))= [.sl [ω (h:Int),ω (i:Int),ω (j:Int)] 3 false]++L) (c:(ε ((0+(δ (h:Int)))*4) (kM os))=Fc d++F) (g:(ε ((0+(δ (i:Int)))*4) (kM os))=Fc a++z) (f:(ε ((0+(δ (j:Int)))*4) (kM os))=Fc b++R) (l:((ο (os.length*4) (kM os))++ [.bool o.n,.str o.a,.str o.d,ω o.e])=(kM (os++ [o]))) (J:ω (γ .i64 ((k:Int)+((1:Nat):Int)))=ω ((k+1:Nat):Int)) (h0:(Xqk (os.length+1) 1099511627776)=true) (K:(Xqk (os.length*4) (η (kM os)))=true) (C:(decide (((0:Nat):Int)≤(j:Int)))=true) (O:(decide ((j:Int)<(os.length:Int)))=true) (Q:(decide (((0:Nat):Int)≤(i:Int)))=true) (B:(decide ((i:Int)<(os.length:Int)))=true) (D:(decide (((0:Nat):Int)≤(h:Int)))=true) (I:(decide ((h:Int)<(os.length:Int)))=true) (w:(decide (((0:Nat):Int)≤(k:Int)))=true) (M:(decide ((k:Int)<(A.length:Int)))=true) (m:(decide ((k:Int)<(e.length:Int)))=true) (p:lit true (decide ((k:Int)<(e.length:Int)))=true) (y:CO 89 [.agg [.mp k1 v1,.mp k2 n],.agg [ω x.op,.bool x.neg,.str x.num,.str x.den,.str x.name],.sl [.bool d.n,.str d.a,.str d.d,ω d.e,.bool a.n,.str a.a,.str a.d,ω a.e,.bool b.n,.str b.a,.str b.d,ω b.e] 3 true] (.ret (dQ o))):ψ nt f54 ⟨[(3,.ptr 0 0 0),(5,.sl (aX A) A.length u),(7,.ptr 1 0 0),(8,.ref 2 0 0 os.length),(23,.sl (aP e) e.length t),(24,ω (e.length:Int)),(25,ω (k:Int))],(FM r s v q k1 v1 k2 n++ [(2,⟨(kM os),0,false,0,4,true⟩)]),.dead,[]⟩ (.normal) ⟨[(3,.ptr 0 0 0),(5,.sl (aX A) A.length u),(7,.ptr 1 0 0),(8,.ref 2 0 0 (os.length+1)),(23,.sl (aP e) e.length t),(24,ω (e.length:Int)),(25,ω ((k+1:Nat):Int))],(FM r s v q k1 v1 k2 n++ [(2,⟨(kM (os++ [o])),0,false,0,4,true⟩)]),.dead,[]⟩:=pN 54 [] 6 27 (.k 1 h0 (.c K (.n 13 (.a (aD [.bool,.str,.str,.int .i64] f rfl) (.c C (.c O (.n 8 (.a (aD [.bool,.str,.str,.int .i64] g rfl) (.c Q (.c B (.n 7 (.a (aD [.bool,.str,.str,.int .i64] c rfl) (.c D (.c I (.k 5 w (.c M (.k 6 w (.c m (.c p .nil))))))))))))))))))) (.v 54 (.eq J) (.b 53 l (.c y (.v 43 (.rd [.bool,.str,.str,.int .i64] f rfl) (.v 43 (.rd [.bool,.str,.str,.int .i64] g rfl) (.v 43 (.rd [.bool,.str,.str,.int .i64] c rfl) (.v 32 (.ppt N) (.v 28 (.ppt P) .nil)))))))) H
theorem aag (c d f g:Bool) (k1 v1 k2 h:List AV) (e:List Nd) (A:List (List Nat)) (os:List Oq) (a:List Lk) (b:List Sc) (j:CO 37 [.sl (aP e) e.length c] (.ret (.tup [.sl (aX A) A.length g,.bool true]))) (i:CO 88 [.agg [.sl (fK a) a.length d,.sl (dB b) b.length f]] (.ret (.agg [.mp k1 v1,.mp k2 h]))) (k:aG prog ap [] 56 (.block 0 (.loop (ac 0 (af f54)))) ⟨[(0,.sl (aP e) e.length c),(1,.agg [.sl (fK a) a.length d,.sl (dB b) b.length f]),(3,.ptr 0 0 0),(4,.nilS),(5,.sl (aX A) A.length g),(6,.bool true),(7,.ptr 1 0 0),(8,.nilS),(9,.dead),(10,.dead),(11,.dead),(13,.dead),(20,.bool false),(23,.sl (aP e) e.length c),(24,ω (e.length:Int)),(25,ω 0),(26,.dead),(33,.dead),(34,.dead),(35,.dead),(36,.dead)],(FM a b d f k1 v1 k2 h),.dead,[]⟩ (.normal) ⟨[(8,.ref 0 0 0 os.length)],[(0,⟨(kM os),0,false,0,4,true⟩)],.dead,[]⟩):CO 54 [.sl (aP e) e.length c,.agg [.sl (fK a) a.length d,.sl (dB b) b.length f]] (.ret (.own (ο (os.length*4) (kM os)) os.length 4)):=pK [0] 1 0 (.n 4 .nil) (.l k (.c i (.c j .nil)))
theorem aah (a f g:Bool) (e:List Nd) (b:List Lk) (c:List Sc) (d:CO 37 [.sl (aP e) e.length a] (.ret (.tup [.nilS,.bool false]))):CO 54 [.sl (aP e) e.length a,.agg [.sl (fK b) b.length f,.sl (dB c) c.length g]] (.ret (.nilS)):=pK [] 1 1 (.n 1 .nil) (.c d .nil)
theorem ZW (o:Oq) (c d f:Bool) (k:Nat) (r:List AV) (e:List Nd) (os:List Oq) (a:List Lk) (b:List Sc) (g:(ε ((0+(δ (k:Int)))*4) (kM os))=Fc o++r) (l:ω (γ .i64 ((os.length:Int) - ((1:Nat):Int)))=ω (k:Int)) (h0:(decide (((0:Nat):Int)≤(k:Int)))=true) (h:(decide ((k:Int)<(os.length:Int)))=true) (j:lit false ((os.length:Int)==((0:Nat):Int))=true) (i:CO 54 [.sl (aP e) e.length c,.agg [.sl (fK a) a.length d,.sl (dB b) b.length f]] (.ret (.own (kM os) os.length 4))):CO 25 [.sl (aP e) e.length c,.agg [.sl (fK a) a.length d,.sl (dB b) b.length f]] (.ret (dQ o)):=pK [] 1 0 (.n 5 (.a (aD [.bool,.str,.str,.int .i64] g rfl) (.c h0 (.c h (.c j (.n 2 .nil)))))) (.v 18 (.rd [.bool,.str,.str,.int .i64] g rfl) (.v 16 (.eq l) (.c i .nil)))
theorem ZV (c d f:Bool) (e:List Nd) (a:List Lk) (b:List Sc) (h:CO 54 [.sl (aP e) e.length c,.agg [.sl (fK a) a.length d,.sl (dB b) b.length f]] (.ret (.nilS))) (g:CO 55 [ω 11] (.ret (.agg [.bool false,.str [],.str [],ω 11]))):CO 25 [.sl (aP e) e.length c,.agg [.sl (fK a) a.length d,.sl (dB b) b.length f]] (.ret (.agg [.bool false,.str [],.str [],ω 11])):=pK [] 1 1 (.n 8 .nil) (.c g (.c h .nil))
def Ld (E:gy) (A:List (List Nat)):List Nd→List Oq→List Oq
 | [],os=>os
 |x::r,os=>Ld E A r (os++ [fC E x ((A.getD os.length []).map fun j=>os.getD j zO)])
def dA (E:gy) (e:List Nd):List Oq:=Ld E (bh e) e []
def yg (E:gy) (e:List Nd):Oq:=if bT e=0 then (dA E e).getLastD (.err 11) else .err 11
theorem Dm (l:List Oq):(kM l).length=l.length*4:=rY Fc 4 (fun _=>rfl) l
theorem kF {l:List Oq} {k:Nat} (h:k<l.length):ε ((0+δ (k:Int))*4) (kM l)=Fc (l.getD k zO)++kM (l.drop (k+1)):=by
 rw [av,Θ,ν,ξ h];exact tV Fc 4 (fun _=>rfl) h
theorem uj (l:List Oq) (o:Oq):ο (l.length*4) (kM l)++ [.bool o.n,.str o.a,.str o.d,ω o.e]=kM (l++ [o]):=by
 rw [Xqi (by rw [Dm];exact φ _)];unfold kM;rw [Xzp];rfl
def teO (os:List Oq):AV:=match os with| []=> .nilS|_::_=> .ref 2 0 0 os.length
def teB (os:List Oq):Hp:=match os with| []=> []|_::_=> [(2,⟨kM os,0,false,0,4,true⟩)]
abbrev teS (E:gy) (nl ns ne na:Bool) (e:List Nd) (A:List (List Nat)) (os:List Oq):St:=⟨[(3,.ptr 0 0 0),(5,.sl (aX A) A.length na),(7,.ptr 1 0 0),(8,teO os),(23,.sl (aP e) e.length ne),(24,ω (e.length:Int)),(25,ω (os.length:Int))],FM E.ls (E.qs.map Sq.c) nl ns (uV E.ls).1 (uV E.ls).2 (xn (E.qs.map Sq.c)).1 (xn (E.qs.map Sq.c)).2++teB os,.dead,[]⟩
def UX (os:List Oq):St:=match os with| []=> ⟨[(8,.nilS)],[],.dead,[]⟩|_::_=> ⟨[(8,.ref 0 0 0 os.length)],[(0,⟨kM os,0,false,0,4,true⟩)],.dead,[]⟩
theorem Ph (E:gy) (d f b c:Bool) (e:List Nd) (A:List (List Nat)) (os:List Oq) (o:Oq):teS E d f b c e A (os++ [o])=⟨[(3,.ptr 0 0 0),(5,.sl (aX A) A.length c),(7,.ptr 1 0 0),(8,.ref 2 0 0 (os.length+1)),(23,.sl (aP e) e.length b),(24,ω (e.length:Int)),(25,ω ((os.length+1:Nat):Int))],FM E.ls (E.qs.map Sq.c) d f (uV E.ls).1 (uV E.ls).2 (xn (E.qs.map Sq.c)).1 (xn (E.qs.map Sq.c)).2++ [(2,⟨kM (os++ [o]),0,false,0,4,true⟩)],.dead,[]⟩:=by
 cases os with
 |nil=>rfl
 |cons a r=>
  show (⟨[(3,_),(5,_),(7,_),(8,.ref 2 0 0 (a::r++ [o]).length),(23,_),(24,_),(25,ω (((a::r++ [o]).length:Nat):Int))],_,_,_⟩:St)=_;rw [show (a::r++ [o]).length=(a::r).length+1 from κ];rfl
theorem Ag (E:gy) (d f b c:Bool) (e:List Nd) (A:List (List Nat)) {os:List Oq} (h:0<os.length):teS E d f b c e A os=⟨[(3,.ptr 0 0 0),(5,.sl (aX A) A.length c),(7,.ptr 1 0 0),(8,.ref 2 0 0 os.length),(23,.sl (aP e) e.length b),(24,ω (e.length:Int)),(25,ω (os.length:Int))],FM E.ls (E.qs.map Sq.c) d f (uV E.ls).1 (uV E.ls).2 (xn (E.qs.map Sq.c)).1 (xn (E.qs.map Sq.c)).2++ [(2,⟨kM os,0,false,0,4,true⟩)],.dead,[]⟩:=by
 cases os with
 |nil=>simp at h
 |cons a r=>rfl
theorem Jt {x:Nd} (h:aH x=0):O7 x:=by
 intro b e;have a:fo x=true:=by
  cases c:fo x with
  |true=>rfl
  |false=>
   exfalso;unfold aH at h;rw [c] at h;cases d:(!Iz x.op||(!iY x.op && !(x.name== [])))<;>rw [d] at h<;>cases h
 unfold fo at a;rw [show (x.op==((4:Nat):Int))=false from beq_eq_false_iff_ne.2 (by omega),show wJ x.op=false from Yq1 (by omega),show lX x.op=true from Yq0 ⟨b,e⟩] at a;simp only [cond,π] at a;exact ⟨a.1,by have:=of_decide_eq_true a.2;omega⟩
theorem H8:∀ (r:List Nd) (d k:Nat),fj r d= .inl k→∀ x ∈ r,aH x=0
 | [],_,_,_,x,hx=>by cases hx
 | y::r,d,k,h,x,hx=>by
  simp only [fj] at h;split at h
  ·rename_i a;split at h
   ·cases h
   ·rcases List.mem_cons.1 hx with rfl|hx
    ·exact a
    ·exact H8 r _ k h x hx
  ·cases h
theorem mA {e:List Nd} (h:bT e=0):(∀ x ∈ e,aH x=0)∧e.length≤60∧0<e.length:=by
 unfold bT at h;split at h
 ·cases h
 ·rename_i b;cases a:fj e 0 with
  |inl d=>
   refine ⟨H8 e 0 d a,by omega, ?_⟩;cases e with
   |nil=>simp only [fj] at a;cases a;simp [fj] at h
   |cons _ _=>simp
  |inr w=>
   rw [a] at h;exact absurd h (CG _ _ _ a)
structure gy.sm (E:gy):Prop where
 ls:E.ls.length<2^40
 qs:E.qs.length<2^40
 lk:∀ x ∈ E.ls,x.a.length<2^36∧x.d.length<2^36
 sq:∀ s ∈ E.qs,s.l.length<2^40∧∀ b ∈ s.l,b.s28
theorem Tx {nt:Nat} (D:56≤nt) (E:gy) (y u v w:Bool) {e:List Nd} (hE:E.sm) (Z:bT e=0) (T:∀ x ∈ e,x.sm):∀ (r p:List Nd) (os:List Oq),e=p++r→os.length=p.length→(∀ o ∈ os,o.ok)→
  az prog ap [] nt (ac 0 (af f54)) (fun _=> .exit 0) (teS E y u v w e (bh e)) UX os (Ld E (bh e) r os):=by
 obtain ⟨Y,h60,W⟩:=mA Z;obtain ⟨hal,V⟩:=jX Z;intro r
 induction r with
 |nil=>
  intro p os hp g F;rw [Xqa] at hp;subst hp;cases os with
  |nil=>exact .done (Q4 v y u w 0 _ _ _ _ e (bh e) E.ls (E.qs.map Sq.c) D (ay (Yq1 (by simp at g;omega))))
  |cons a r=>exact .done (Wn v y u w (a::r).length _ _ _ _ e (bh e) (a::r) E.ls (E.qs.map Sq.c) D (ay (Yq1 (by omega))))
 | cons x r ih=>
  intro p os hp g F;have L:os.length<e.length:=by rw [hp,g];simp
  have H:e[os.length]=x:=by subst hp;simp [g]
  have G:x ∈ e:=by rw [← H];exact Xxe L
  have O:ε (δ (os.length:Int)*5) (aP e)=nJ x++aP r:=by subst hp;exact xh g
  obtain ⟨b,c⟩:=V os.length x (by rw [ξ L,H]);have M:=ni (A:=bh e) (k:=os.length) (by omega);have z:=qf (Y x G);have t:=fun (nn:Bool) (l:List Oq) (S:l.length=cT x.op) (hk:∀ o ∈ l,o.ok)=>My E x nn l z.1 z.2 (Jt (Y x G)) S hk (T x G) hE.sq
  have K:∀ j,(os.getD j zO).ok∨os.length≤j:=fun j=>by
   rcases Nat.lt_or_ge j os.length with h|h
   ·left;rw [ν,ξ h];exact F _ (Xxe h)
   ·exact .inr h
  have d:∀ j ∈ (bh e).getD os.length [],(os.getD j zO).ok:=fun j P=>(K j).resolve_right (by have:=c j P;omega)
  have I:∀ l:List Nat,(∀ j ∈ l,(os.getD j zO).ok)→∀ o ∈ os++ [fC E x (l.map fun j=>os.getD j zO)],o.ok:=fun l S o B=>by
   rcases List.mem_append.1 B with B|B
   ·exact F o B
   ·rw [Xjc] at B;subst B;exact zn fun o B=>by
     obtain ⟨j,P,rfl⟩:=List.mem_map.1 B;exact S j P
  have nx:=ih (p++ [x]) (os++ [fC E x (((bh e).getD os.length []).map fun j=>os.getD j zO)]) (by rw [hp];simp) (by simp [g]) (I _ d);refine .next ?_ nx
  rw [Ph];have J:decide (((0:Nat):Int)≤(os.length:Int))=true:=Yq0 (by omega);have N:decide ((os.length:Int)<(((bh e).length:Nat):Int))=true:=Yq0 (by omega);have s:decide ((os.length:Int)<(e.length:Int))=true:=Yq0 (by omega);have m:=oH (i:=os.length) (by omega);have Q:Xqk (os.length+1) 1099511627776=true:=Xqg (by omega);have R:Xqk (os.length*4) (η (kM os))=true:=Xqg (by rw [Dm];exact φ _);have f:∀ j,j<os.length→decide (((0:Nat):Int)≤(j:Int))=true∧decide ((j:Int)<(os.length:Int))=true:=fun j P=> ⟨Yq0 (by omega),Yq0 (by omega)⟩
  generalize (bh e).getD os.length []=al at*
  have h3:=Gm x.op
  match al,b with
  | [],b=>
   have X:=(t false [] b (by simp)).args (fI.cons (aN.refl _) (fI.cons (aN.refl _) (fI.cons (aN.nilS false rfl) (fI.refl _))));cases os with
   |nil=>exact Q3 x _ v y u w 0 _ _ _ _ _ _ e (bh e) E.ls (E.qs.map Sq.c) D O M m J N s (aw s) X
   |cons a q=>
    exact Wm x _ v y u w _ _ _ _ _ _ _ e (bh e) (a::q) E.ls (E.qs.map Sq.c) D O M (uj _ _) m Q R J N s (aw s) X
  | [i],b=>
   have n:=c i (by simp);rw [Ag _ _ _ _ _ _ _ (by omega)];exact Wo x _ (os.getD i zO) v y u w _ i _ _ _ _ _ _ _ e (bh e) os E.ls (E.qs.map Sq.c) D O M (kF n) (uj _ _) m Q R (f i n).1 (f i n).2 J N s (aw s) (t true [os.getD i zO] b (by simpa using d i (by simp)))
  | [i,j],b=>
   have n:=c i (by simp);have C:=c j (by simp);rw [Ag _ _ _ _ _ _ _ (by omega)];exact Wp x _ (os.getD i zO) (os.getD j zO) v y u w _ i j _ _ _ _ _ _ _ _ e (bh e) os E.ls (E.qs.map Sq.c) D O M (kF n) (kF C) (uj _ _) m Q R (f j C).1 (f j C).2 (f i n).1 (f i n).2 J N s (aw s) (t true [os.getD i zO,os.getD j zO] b (by
    intro o g;simp at g;rcases g with rfl|rfl
    ·exact d i (by simp)
    ·exact d j (by simp)))
  | [i,j,h],b=>
   have n:=c i (by simp);have C:=c j (by simp);have U:=c h (by simp);rw [Ag _ _ _ _ _ _ _ (by omega)];exact Wq x _ (os.getD i zO) (os.getD j zO) (os.getD h zO) v y u w _ i j h _ _ _ _ _ _ _ _ _ e (bh e) os E.ls (E.qs.map Sq.c) D O M (kF n) (kF C) (kF U) (uj _ _) m Q R (f h U).1 (f h U).2 (f j C).1 (f j C).2 (f i n).1 (f i n).2 J N s (aw s) (t true [os.getD i zO,os.getD j zO,os.getD h zO] b (by
    intro o g;simp at g;rcases g with rfl|rfl|rfl
    ·exact d i (by simp)
    ·exact d j (by simp)
    ·exact d h (by simp)))
  |_::_::_::_::_,b=>simp only [μ] at b;omega
theorem xw (E:gy) (A:List (List Nat)):∀ (r:List Nd) (os:List Oq),(Ld E A r os).length=os.length+r.length
 | [],os=>by simp [Ld]
 |x::r,os=>by rw [Ld,xw E A r];simp;omega
theorem Ki (E:gy) (c d a:Bool) {e:List Nd} (f:bT e ≠ 0) (b:∀ x ∈ e,x.sm):CO 54 [.sl (aP e) e.length a,.agg [.sl (fK E.ls) E.ls.length c,.sl (dB (E.qs.map Sq.c)) (E.qs.map Sq.c).length d]] (.ret .nilS):=
 aah a c d e E.ls (E.qs.map Sq.c) (Ud e a (bT e) [] (by rw [show (bT e==((0:Nat):Int))=false from beq_eq_false_iff_ne.2 f];rfl) (tE e a b))
theorem Kj (E:gy) (c d b:Bool) {e:List Nd} (g:E.sm) (i:bT e=0) (f:∀ x ∈ e,x.sm):CO 54 [.sl (aP e) e.length b,.agg [.sl (fK E.ls) E.ls.length c,.sl (dB (E.qs.map Sq.c)) (E.qs.map Sq.c).length d]] (.ret (.own (kM (dA E e)) (dA E e).length 4)):=by
 have k:(dA E e).length=e.length:=by unfold dA;rw [xw];simp
 have j:=(mA i).2.2;have n:=Mz E.ls (E.qs.map Sq.c) c d (Xq6 g.ls (by decide)) (by rw [Xxp];exact Xq6 g.qs (by decide)) g.lk;have l:∀ nt,56≤nt→az prog ap [] nt (ac 0 (af f54)) (fun _=> .exit 0) (teS E c d b true e (bh e)) UX [] (dA E e):=fun nt o=>Tx o E c d b true g i f e [] [] rfl rfl (by simp)
 have m:=az.blk (id:=0) (e':= .normal) (s:=⟨[(0,.sl (aP e) e.length b),(1,.agg [.sl (fK E.ls) E.ls.length c,.sl (dB (E.qs.map Sq.c)) (E.qs.map Sq.c).length d]),(3,.ptr 0 0 0),(4,.nilS),(5,.sl (aX (bh e)) (bh e).length true),(6,.bool true),(7,.ptr 1 0 0),(8,.nilS),(9,.dead),(10,.dead),(11,.dead),(13,.dead),(20,.bool false),(23,.sl (aP e) e.length b),(24,ω (e.length:Int)),(25,ω 0),(26,.dead),(33,.dead),(34,.dead),(35,.dead),(36,.dead)],FM E.ls (E.qs.map Sq.c) c d (uV E.ls).1 (uV E.ls).2 (xn (E.qs.map Sq.c)).1 (xn (E.qs.map Sq.c)).2,.dead,[]⟩) (s':=⟨[(8,.ref 0 0 0 (dA E e).length)],[(0,⟨kM (dA E e),0,false,0,4,true⟩)],.dead,[]⟩) l (by simp) rfl (aJ.of ⟨rfl,rfl,rfl,rfl,rfl,rfl,rfl,trivial⟩) (by
  generalize dA E e=t at k;cases t with
  |nil=>simp at k;omega
  |cons a r=>exact aJ.refl _)
 have h:=aag b c d true _ _ _ _ e (bh e) (dA E e) E.ls (E.qs.map Sq.c) (xL e b f i) n m;rw [Xqi (by rw [Dm];exact φ _)] at h;exact h
theorem Ew (E:gy) (b c a:Bool) {e:List Nd} (i:E.sm) (d:∀ x ∈ e,x.sm):CO 25 [.sl (aP e) e.length a,.agg [.sl (fK E.ls) E.ls.length b,.sl (dB (E.qs.map Sq.c)) (E.qs.map Sq.c).length c]] (.ret (dQ (yg E e))):=by
 unfold yg;by_cases hc:bT e=0
 ·rw [if_pos hc];have j:=Kj E b c a i hc d;have k:(dA E e).length=e.length:=by unfold dA;rw [xw];simp
  obtain ⟨_,h,g⟩:=mA hc;have f:(dA E e).length - 1<(dA E e).length:=by omega
  have hlast:(dA E e).getLastD (.err 11)=(dA E e).getD ((dA E e).length - 1) zO:=by
   rw [Xwd,Xvu,ν,ξ f];rfl
  rw [hlast];refine ZW _ a b c ((dA E e).length - 1) _ e (dA E e) E.ls (E.qs.map Sq.c) (kF f) ?_ (Yq0 (by omega)) (Yq0 (by omega)) ?_ j
  ·congr 1;rw [show (((dA E e).length:Nat):Int) - ((1:Nat):Int)=(((dA E e).length - 1:Nat):Int) by omega];exact aS (by omega)
  ·rw [show ((((dA E e).length:Nat):Int)==((0:Nat):Int))=false from beq_eq_false_iff_ne.2 (by omega)];rfl
 ·rw [if_neg hc];exact ZV a b c e E.ls (E.qs.map Sq.c) (Ki E b c a hc d) (gM 11)
theorem iX {a b c:Rat} (h:0≤c) (d:a≤b):a*c≤b*c:=by
 by_cases e:c=0
 ·rw [e];grind
 ·exact (sx (by grind)).2 d
theorem DD {q:RQ} (h:q.ok):(q.neg=false→0≤q.rt)∧(q.neg=true→q.rt≤0):=by
 have hs:=nV h;unfold fZ at hs;constructor<;>intro a<;>rw [a] at hs<;>by_cases h0:q.n=0<;>simp [h0] at hs<;>grind
theorem xJ {a b c d:RQ} (e:a.ok) (g:b.ok) (f:c.ok) (hd:d.ok) (h:a.rt≤b.rt) (i:c.rt≤d.rt):(eu a c).rt≤(eu b d).rt:=by rw [pV e f,pV g hd];grind
theorem FI {a b c d:RQ} (e:a.ok) (g:b.ok) (f:c.ok) (hd:d.ok) (h:a.rt≤b.rt) (i:d.rt≤c.rt):(cJ a c).rt≤(cJ b d).rt:=by rw [qI e f,qI g hd];grind
theorem E7 {a b c:RQ} (f:a.ok) (g:b.ok) (d:c.ok) (h:a.rt≤b.rt):(c.neg=false→(eB c a).rt≤(eB c b).rt∧(eB a c).rt≤(eB b c).rt)∧(c.neg=true→(eB c b).rt≤(eB c a).rt∧(eB b c).rt≤(eB a c).rt):=by
 rw [lW d f,lW d g,lW f d,lW g d];constructor
 ·intro e;have:=iX ((DD d).1 e) h;exact ⟨by grind,this⟩
 ·intro e;have:=iX (c:= -c.rt) (by have:=(DD d).2 e;grind) h;exact ⟨by grind,by grind⟩
theorem Om {a b c:RQ} (g:a.ok) (i:b.ok) (d:c.ok) (h0:0<c.n) (h:a.rt≤b.rt):(c.neg=false→(da a c).rt≤(da b c).rt)∧(c.neg=true→(da b c).rt≤(da a c).rt):=by
 rw [DC g d h0,DC i d h0,Rat.div_def,Rat.div_def];have j:c.rt ≠ 0:=by
  have:=(nV d).2.1;unfold fZ at this;rw [if_neg (by omega)] at this;intro e;have:=this.2 e;split at this<;>cases this
 constructor
 ·intro f;have hp:0<c.rt:=by have:=(DD d).1 f;grind
  exact iX (by have:=Rat.inv_pos.2 hp;grind) h
 ·intro f;have hp:0< -c.rt:=by have:=(DD d).2 f;grind
  have k:=Rat.inv_pos.2 hp;have e:(-c.rt)⁻¹= -(c.rt⁻¹):=by grind
  have:=iX (c:=(-c.rt)⁻¹) (by grind) h;grind
theorem EZ {a b c d:RQ} (e:a.ok) (g:b.ok) (f:c.ok) (hd:d.ok) (h:a.rt≤b.rt) (j:c.rt≤d.rt):(if 0<dc a c then c else a).rt≤(if 0<dc b d then d else b).rt∧(if dc a c<0 then c else a).rt≤(if dc b d<0 then d else b).rt:=by
 have i:=d_ e f;have k:=d_ g hd;constructor
 ·split<;>split<;>grind
 ·split<;>split<;>grind
theorem CL {a b s:RQ} (c:a.ok) (f:b.ok) (hs:s.ok) (hp:0<fZ s) (h:a.rt≤b.rt):(qQ a s).rt≤(qQ b s).rt:=by
 obtain ⟨p,h0⟩:=DB hs hp;obtain ⟨d,k,g⟩:=Cd c hs h0;obtain ⟨e,l,i⟩:=Cd f hs h0;have j:a.rt / s.rt≤b.rt / s.rt:=by
  rw [Rat.div_def,Rat.div_def];exact iX (by have:=Rat.inv_pos.2 p;grind) h
 have:((oG (da a s):Int):Rat)<((oG (da b s)+1:Int):Rat):=by rw [Rat.intCast_add,Rat.intCast_one];grind
 rw [Rat.intCast_lt_intCast] at this;have:((oG (da a s):Int):Rat)≤((oG (da b s):Int):Rat):=by rw [Rat.intCast_le_intCast];omega
 rw [d,e];exact iX (by grind) this
theorem TP {a b s:RQ} (c:a.ok) (d:b.ok) (hs:s.ok) (hp:0<fZ s) (h:a.rt≤b.rt):(Li a s).rt≤(Li b s).rt:=by
 rw [← U5 c hs hp,← U5 d hs hp,pW,pW];have:=CL (kD d) (kD c) hs hp (by rw [pW,pW];grind);grind
theorem R7 {a b s:RQ} (d:a.ok) (e:b.ok) (hs:s.ok) (hp:0<fZ s) (h:a.rt≤b.rt):(KH a s).rt≤(KH b s).rt:=by
 rw [← UJ d hs hp,← UJ e hs hp];have c:(da s (uc 2)).ok:=qG hs (by decide);exact CL (cU d c) (cU e c) hs hp (xJ d e c c h (by grind))
def Qs (nx:Option RQ) (x:RQ):RQ:=match nx with|some y=>if dc y x<0 then y else x|none=>x
theorem I2 (f:RQ) (a:Option RQ) (x:RQ):jz f a x=if fZ (cJ (Qs a x) f)<0 then q0 else cJ (Qs a x) f:=by cases a<;>rfl
theorem Qt {x c:RQ} {a:Option RQ} (e:x.ok) (b:c.ok) (f:∀ y,a=some y→y.ok) (h:x.rt≤c.rt):(Qs a x).ok∧(Qs a c).ok∧(Qs a x).rt≤(Qs a c).rt:=by
 cases a with
 |none=>exact ⟨e,b,h⟩
 |some y=>
  have d:=f y rfl;have g:=(d_ d e).1;have i:=(d_ d b).1;simp only [Qs];refine ⟨?_, ?_, ?_⟩
  ·split<;>assumption
  ·split<;>assumption
  ·split<;>split<;>grind
theorem KO {f x b:RQ} {a:Option RQ} (c:f.ok) (e:x.ok) (d:b.ok) (g:∀ y,a=some y→y.ok) (h:x.rt≤b.rt):(jz f a x).rt≤(jz f a b).rt:=by
 obtain ⟨k1,k2,k3⟩:=Qt e d g h;rw [I2,I2];have k:=(nV (fq k1 c)).1;have l:=(nV (fq k2 c)).1;have i:=qI k1 c;have j:=qI k2 c;generalize cJ (Qs a x) f=u at*
 generalize cJ (Qs a b) f=v at*
 have z:=UR;split<;>split<;>grind
theorem FY:∀ (l:List (RQ × RQ)) {d a x g:RQ},Y4 l→(∀ b ∈ l,0≤b.2.rt)→d.ok→a.ok→x.ok→g.ok→d.rt≤a.rt→x.rt≤g.rt→(Aj d l x).rt≤(Aj a l g).rt
 | [],_,_,_,_,_,_,_,_,_,_,h,_=>h
 | b::l,d,a,x,g,ho,hr,h1,h2,h3,h4,h5,h6=>by
  have e:=ho b (by simp);have k:∀ y,l.head?.map (·.1)=some y→y.ok:=by
   intro y f;cases l with
   |nil=>cases f
   |cons c l=>
    simp only [List.head?_cons,Option.map_some,Option.some.injEq] at f;subst f;exact (ho c (by simp)).1
  have j:=I4 e.1 h3 k;have i:=I4 e.1 h4 k;have m:=KO e.1 h3 h4 k h6;unfold Aj;refine FY l (fun y f=>ho y (by simp [f])) (fun y f=>hr y (by simp [f])) (cU h1 (eK e.2 j)) (cU h2 (eK e.2 i)) h3 h4 (xJ h1 h2 (eK e.2 j) (eK e.2 i) h5 ?_) h6;rw [lW e.2 j,lW e.2 i];have:=iX (hr b (by simp)) m;grind
theorem cW {q y:RQ} (h:iP q= .val y):y=q:=by
 unfold iP at h;split at h<;>cases h;rfl
theorem HZ {l:List Br} {x y:RQ} (d:x.ok) (h:JS l x= .val y):JW gS l=0∧y=Aj q0 (l.map PF) x:=by
 unfold JS at h;split at h
 ·rename_i a;have c:=(H_ a).1;refine ⟨a, ?_⟩;rw [Vw d (fun b e=>c.ok b e) c.srt];unfold Qc at h;split at h
  ·rename_i h0;cases h;rw [if_pos h0]
  ·rename_i h0;rw [if_neg h0];exact cW h
 ·cases h
theorem Qd {l:List Br} {x c y i:RQ} (g:x.ok) (a:c.ok) (f:l.any rm=false) (h:x.rt≤c.rt) (j:JS l x= .val y) (n:JS l c= .val i):y.rt≤i.rt:=by
 obtain ⟨k,rfl⟩:=HZ g j;obtain ⟨_,rfl⟩:=HZ a n;have o:=(H_ k).1;refine FY _ (fun b d=>o.ok b d) (fun b d=> ?_) pO pO g a (by grind) h;obtain ⟨z,p,rfl⟩:=List.mem_map.1 d;have e:rm z=false:=by
  cases m:rm z with
  |false=>rfl
  |true=>rw [List.any_eq_true.2 ⟨z,p,m⟩] at f;cases f
 have hs:¬ fZ (vQ z.rn z.ra z.rd)<0:=by
  rw [← sK];unfold rm at e;have:=of_decide_eq_false e;omega
 have:=(nV (fg z.rn z.ra z.rd)).1;show 0≤(vQ z.rn z.ra z.rd).rt;have r:¬ (vQ z.rn z.ra z.rd).rt<0:=fun q=>hs (this.2 q)
 grind
structure fO (s:Nat) (a b:Oq):Prop where
 same:s=0→a=b
 up:s≤1→∀ p q,a= .val p→b= .val q→p.rt≤q.rt
 dn:s=0∨s=2→∀ p q,a= .val p→b= .val q→q.rt≤p.rt
theorem fO.three {s:Nat} (h:3≤s) (a b:Oq):fO s a b:=⟨fun c=>by omega,fun c=>by omega,fun c=>by omega⟩
theorem fO.zero {a b:Oq} (h:a=b):fO 0 a b:=⟨fun _=>h,fun _ p q hp c=>by rw [h] at hp;rw [hp] at c;cases c;grind,fun _ p q hp c=>by rw [h] at hp;rw [hp] at c;cases c;grind⟩
theorem fO.turn {s:Nat} {a b:Oq} (h:fO s a b):fO (gI s) b a:=by
 unfold gI;split
 ·rename_i hs;refine ⟨fun d=>by omega,fun d p q hp c=>h.dn (by omega) q p c hp,fun d p q hp c=>h.up (by omega) q p c hp⟩
 ·rename_i hs;exact ⟨fun d=>(h.same d).symm,fun d p q hp c=>h.dn (by omega) q p c hp,fun d p q hp c=>h.up (by omega) q p c hp⟩
theorem U3 (s:Nat):gI (gI s)=s:=by unfold gI;(repeat' split)<;>omega
theorem fO.unturn {s:Nat} {a b:Oq} (h:fO (gI s) b a):fO s a b:=by have:=h.turn;rwa [U3] at this
theorem EJ {s t:Nat} (h:bW s t=0):s=0∧t=0:=by unfold bW at h;(repeat' split at h)<;>omega
theorem ID {s t:Nat} (h:bW s t≤1):s≤1∧t≤1:=by unfold bW at h;(repeat' split at h)<;>omega
theorem IE {s t:Nat} (h:bW s t=0∨bW s t=2):(s=0∨s=2)∧(t=0∨t=2):=by unfold bW at h;(repeat' split at h)<;>omega
def Si (g:Oq→Oq→Oq) (a c:Oq):Oq:=if a.e=0 then (if c.e=0 then g a c else c) else a
theorem lF {g:Oq→Oq→Oq} {a c:Oq} {y:RQ} (j:a.ok) (f:c.ok) (h:Si g a c= .val y):∃ p q:RQ,a= .val p∧c= .val q∧p.ok∧q.ok∧g (.val p) (.val q)= .val y:=by
 unfold Si at h;split at h
 ·rename_i b;split at h
  ·rename_i d;obtain ⟨p,rfl,e,_⟩:=qd j b;obtain ⟨q,rfl,i,_⟩:=qd f d;exact ⟨p,q,rfl,rfl,e,i,h⟩
  ·rename_i d;rw [h] at d;exact absurd rfl d
 ·rename_i b;rw [h] at b;exact absurd rfl b
theorem fO.two {g:Oq→Oq→Oq} (x:∀ p e q f y l:RQ,p.ok→e.ok→q.ok→f.ok→p.rt≤e.rt→q.rt≤f.rt→g (.val p) (.val q)= .val y→g (.val e) (.val f)= .val l→y.rt≤l.rt)
  {s t:Nat} {a b c d:Oq} (ka:a.ok) (kb:b.ok) (kc:c.ok) (kd:d.ok) (h:fO s a b) (h':fO t c d):fO (bW s t) (Si g a c) (Si g b d):=by
 refine ⟨fun B=> ?_,fun z y l w i=> ?_,fun A y l w i=> ?_⟩
 ·obtain ⟨n,m⟩:=EJ B;rw [h.same n,h'.same m]
 ·obtain ⟨p,q,rfl,rfl,o,v,u⟩:=lF ka kc w;obtain ⟨e,f,rfl,rfl,j,k,r⟩:=lF kb kd i;obtain ⟨n,m⟩:=ID z;exact x p e q f y l o j v k (h.up n _ _ rfl rfl) (h'.up m _ _ rfl rfl) u r
 ·obtain ⟨p,q,rfl,rfl,o,v,u⟩:=lF ka kc w;obtain ⟨e,f,rfl,rfl,j,k,r⟩:=lF kb kd i;obtain ⟨n,m⟩:=IE A;exact x e p f q l y j o k v (h.dn n _ _ rfl rfl) (h'.dn m _ _ rfl rfl) r u
def Ob (g:Oq→Oq) (a:Oq):Oq:=if a.e=0 then g a else a
theorem lu {g:Oq→Oq} {a:Oq} {y:RQ} (d:a.ok) (h:Ob g a= .val y):∃ p:RQ,a= .val p∧p.ok∧g (.val p)= .val y:=by
 unfold Ob at h;split at h
 ·rename_i b;obtain ⟨p,rfl,c,_⟩:=qd d b;exact ⟨p,rfl,c,h⟩
 ·rename_i b;rw [h] at b;exact absurd rfl b
theorem fO.one {g:Oq→Oq} (m:∀ p c y f:RQ,p.ok→c.ok→p.rt≤c.rt→g (.val p)= .val y→g (.val c)= .val f→y.rt≤f.rt)
  {s:Nat} {a b:Oq} (ka:a.ok) (kb:b.ok) (h:fO s a b):fO s (Ob g a) (Ob g b):=by
 refine ⟨fun q=> ?_,fun n y f l d=> ?_,fun o y f l d=> ?_⟩
 ·rw [h.same q]
 ·obtain ⟨p,rfl,i,k⟩:=lu ka l;obtain ⟨c,rfl,e,j⟩:=lu kb d;exact m p c y f i e (h.up n _ _ rfl rfl) k j
 ·obtain ⟨p,rfl,i,k⟩:=lu ka l;obtain ⟨c,rfl,e,j⟩:=lu kb d;exact m c p f y e i (h.dn o _ _ rfl rfl) j k
theorem NH (p a q b y c:RQ) (d:p.ok) (j:a.ok) (g:q.ok) (i:b.ok) (h:p.rt≤a.rt) (f:q.rt≤b.rt) (e:lw 9 (.val p) (.val q)= .val y) (e':lw 9 (.val a) (.val b)= .val c):y.rt≤c.rt:=by
 rw [cW (q:=eu p q) e,cW (q:=eu a b) e'];exact xJ d j g i h f
theorem NJ (p a q b y c:RQ) (f:p.ok) (l:a.ok) (i:q.ok) (k:b.ok) (h:p.rt≤a.rt) (g:q.rt≤b.rt) (e:lw 13 (.val p) (.val q)= .val y) (e':lw 13 (.val a) (.val b)= .val c):y.rt≤c.rt:=by
 have j:y=if 0<dc p q then q else p:=by
  have e:(if 0<dc p q then Oq.val q else .val p)= .val y:=e;split at e<;>cases e<;>simp [*]
 have d:c=if 0<dc a b then b else a:=by
  have e':(if 0<dc a b then Oq.val b else .val a)= .val c:=e';split at e'<;>cases e'<;>simp [*]
 rw [j,d];exact (EZ f l i k h g).1
theorem NI (p a q b y c:RQ) (f:p.ok) (l:a.ok) (i:q.ok) (k:b.ok) (h:p.rt≤a.rt) (g:q.rt≤b.rt) (e:lw 14 (.val p) (.val q)= .val y) (e':lw 14 (.val a) (.val b)= .val c):y.rt≤c.rt:=by
 have j:y=if dc p q<0 then q else p:=by
  have e:(if dc p q<0 then Oq.val q else .val p)= .val y:=e;split at e<;>cases e<;>simp [*]
 have d:c=if dc a b<0 then b else a:=by
  have e':(if dc a b<0 then Oq.val b else .val a)= .val c:=e';split at e'<;>cases e'<;>simp [*]
 rw [j,d];exact (EZ f l i k h g).2
theorem E_ {E:gy} {x:Nd} {a b:Oq} (h:9≤x.op):fC E x [a,b]=Si (lw x.op) a b:=by
 unfold fC;rw [if_neg (by omega),if_neg (by omega)];rfl
theorem E9 {E:gy} {x:Nd} {a:Oq} (h:9≤x.op):fC E x [a]=Ob (Bb E.qs x.op x.name (vQ x.neg x.num x.den)) a:=by
 unfold fC;rw [if_neg (by omega),if_neg (by omega)];rfl
theorem fO.sub {s t:Nat} {a b c d:Oq} (A:a.ok) (w:b.ok) (z:c.ok) (x:d.ok) (h:fO s a b) (B:fO t c d):fO (bW s (gI t)) (Si (lw 10) a c) (Si (lw 10) b d):=by
 have r:=B.turn;refine ⟨fun F=> ?_,fun D y G v e=> ?_,fun C y G v e=> ?_⟩
 ·obtain ⟨j,i⟩:=EJ F;rw [h.same j,r.same i]
 ·obtain ⟨p,q,rfl,rfl,u,o,m⟩:=lF A z v;obtain ⟨l,n,rfl,rfl,g,f,k⟩:=lF w x e;obtain ⟨j,i⟩:=ID D;rw [cW (q:=cJ p q) m,cW (q:=cJ l n) k];exact FI u g o f (h.up j _ _ rfl rfl) (r.up i _ _ rfl rfl)
 ·obtain ⟨p,q,rfl,rfl,u,o,m⟩:=lF A z v;obtain ⟨l,n,rfl,rfl,g,f,k⟩:=lF w x e;obtain ⟨j,i⟩:=IE C;rw [cW (q:=cJ p q) m,cW (q:=cJ l n) k];exact FI g u f o (h.dn j _ _ rfl rfl) (r.dn i _ _ rfl rfl)
theorem fO.scale {neg:Bool} {f:RQ→RQ} (m:∀ p c:RQ,p.ok→c.ok→p.rt≤c.rt→(neg=false→(f p).rt≤(f c).rt)∧(neg=true→(f c).rt≤(f p).rt)) {s:Nat} {a b:Oq} (n:a.ok) (l:b.ok) (h:fO s a b):
  fO (wN neg s) (Ob (fun o=>iP (f o.q)) a) (Ob (fun o=>iP (f o.q)) b):=by
 cases neg with
 |false=>
  exact fO.one (fun p c y u k z w e e'=>by rw [cW (q:=f p) e,cW (q:=f c) e'];exact (m p c k z w).1 rfl) n l h
 | true=>
  refine fO.unturn ?_;show fO (gI (gI s)) _ _;rw [U3];refine ⟨fun A=>by rw [h.same A],fun v y u t d=> ?_,fun x y u t d=> ?_⟩
  ·obtain ⟨p,rfl,i,r⟩:=lu l t;obtain ⟨c,rfl,g,j⟩:=lu n d;rw [cW (q:=f p) r,cW (q:=f c) j];exact (m c p g i (h.up v _ _ rfl rfl)).2 rfl
  ·obtain ⟨p,rfl,i,r⟩:=lu l t;obtain ⟨c,rfl,g,j⟩:=lu n d;rw [cW (q:=f p) r,cW (q:=f c) j];exact (m p c i g (h.dn x _ _ rfl rfl)).2 rfl
theorem fO.cho {s t:Nat} {a b c d:Oq} {x g:Oq} (n:x=g) (h:fO s a b) (j:fO t c d):fO (bW s t) (Gt x a c) (Gt g b d):=by
 subst n;have i:∀ {u v:Oq} {k:Nat},fO k u v→(bW s t=0→k=0)→(bW s t≤1→k≤1)→(bW s t=0∨bW s t=2→k=0∨k=2)→fO (bW s t) u v:=fun f o l m=> ⟨fun z=>f.same (o z),fun z=>f.up (l z),fun z=>f.dn (m z)⟩
 unfold Gt;split
 ·split
  ·split
   ·exact i h (fun z=>(EJ z).1) (fun z=>(ID z).1) (fun z=>(IE z).1)
   ·exact i j (fun z=>(EJ z).2) (fun z=>(ID z).2) (fun z=>(IE z).2)
  ·exact ⟨fun _=>rfl,fun _ p q hp _=>(by cases hp),fun _ p q hp _=>(by cases hp)⟩
 ·rename_i e;exact ⟨fun _=>rfl,fun _ p q hp _=>(by rw [hp] at e;exact absurd rfl e),fun _ p q hp _=>(by rw [hp] at e;exact absurd rfl e)⟩
theorem O5 (qs:List Sq) (a:List UInt8):(qs.map Sq.c).find? (fun x=>x.name==a)=(Ya qs a).map Sq.c:=by
 rw [Yxc];unfold Ya;congr 1;congr 1;funext q;show (q.nm==a)=(a==q.nm)
 rw [Bool.eq_iff_iff,beq_iff_eq,beq_iff_eq];exact ⟨Eq.symm,Eq.symm⟩
theorem fO.rate {qs:List Sq} {c:List UInt8} {f:RQ} {s:Nat} {a b:Oq} (i:a.ok) (g:b.ok) (h:fO s a b):
  fO (zE (CI gS) (Ci gS) c (qs.map Sq.c) s) (Ob (Bb qs 24 c f) a) (Ob (Bb qs 24 c f) b):=by
 unfold zE;rw [O5];cases hs:Ya qs c with
 |none=>exact fO.three (φ 3) _ _
 | some q=>
  show fO (cond (CI gS q.c==0) (cond (Ci gS q.c) s 3) 3) _ _;cases o:(CI gS q.c==0) with
  |false=>exact fO.three (φ 3) _ _
  | true=>
   cases d:Ci gS q.c with
   |false=>exact fO.three (φ 3) _ _
   | true=>
    refine fO.one (fun p r y t k l j e e'=> ?_) i g h;have m:q.l.any rm=false:=by
     unfold Ci at d;simp only [π,Bool.not_eq_true'] at d;have:=d.2;rw [show CC (Sq.c q).bx=q.l from xN q.l] at this;exact this
    have n:∀ p:RQ,Bb qs 24 c f (.val p)=JS q.l p:=fun p=>by
     unfold Bb;rw [if_neg (by decide),if_pos rfl,hs];rfl
    rw [n] at e e';exact Qd k l m j e e'
structure Dif (E E':gy) (op:Int) (nm:List UInt8):Prop where
 qs:E.qs=E'.qs
 lk:∀ o n,¬ (o=op∧n=nm)→AW E.ls o n=AW E'.ls o n
 atN:fO 1 ((AW E.ls op nm).getD (.err 12)) ((AW E'.ls op nm).getD (.err 12))
def Ga (x:Nd) (o:Oq):Prop:=nE x.op=true→o= .val (vQ x.neg x.num x.den)∧(vQ x.neg x.num x.den).neg=x.neg
theorem ER {E:gy} {x:Nd} {l:List Oq} (b:aH x=0):Ga x (fC E x l):=by
 intro h;have e:x.op=1∨x.op=2∨x.op=3:=by simpa [nE] using h
 have a:fo x=true:=by
  cases d:fo x with
  |true=>rfl
  |false=>
   exfalso;unfold aH at b;rw [d] at b;cases c:(!Iz x.op||(!iY x.op && !(x.name== [])))<;>rw [c] at b<;>cases b
 unfold fo at a;rw [show (x.op==((4:Nat):Int))=false from beq_eq_false_iff_ne.2 (by omega),show wJ x.op=true from Yq0 (by omega)] at a;unfold fC;rw [if_pos (by omega)];unfold wO;rw [if_pos rfl,if_pos (show dK x.neg x.num x.den=true from a),uE (mM a).1];exact ⟨rfl,rfl⟩
section
variable {E E':gy} {op:Int} {nm:List UInt8} (hD:Dif E E' op nm) (h58:5≤op∧op≤8)
include hD h58
omit h58 in
theorem KF {x:Nd} {l:List Oq} (h:¬ (x.op=op∧x.name=nm)):fC E x l=fC E' x l:=by
 unfold fC;rw [hD.lk x.op x.name h,hD.qs]
theorem R6 {x:Nd} {l c:List Oq} (h:x.op=op∧x.name=nm):fO 1 (fC E x l) (fC E' x c):=by
 have a:¬ x.op≤4:=by omega
 have b:x.op≤8:=by omega
 unfold fC;rw [if_neg a,if_neg a,if_pos b,if_pos b,h.1,h.2];exact hD.atN
theorem Ox {e:List Nd} {A:List (List Nat)} {ss:List Nat} {os os':List Oq} {k:Nat} {x:Nd} (V:aH x=0) (g:(A.getD k []).length=cT x.op)
  (hr:∀ j ∈ A.getD k [],fO (ss.getD j 0) (os.getD j zO) (os'.getD j zO)∧(os.getD j zO).ok∧(os'.getD j zO).ok∧Ga (e.getD j iO) (os.getD j zO)∧Ga (e.getD j iO) (os'.getD j zO)):
  fO (Aa (CI gS) (Ci gS) e A (E.qs.map Sq.c) op nm ss k x) (fC E x ((A.getD k []).map fun j=>os.getD j zO)) (fC E' x ((A.getD k []).map fun j=>os'.getD j zO)):=by
 obtain ⟨o1,o24⟩:=qf V;have M:=Jt V;unfold Aa;cases B:(x.op==op && x.name==nm) with
 |true=>
  simp only [π,beq_iff_eq] at B;exact R6 hD h58 B
 | false =>
  have I:¬ (x.op=op∧x.name=nm):=fun h=>by simp [h.1,h.2] at B
  rw [← KF hD I];show fO (cond (((fP A ss k:Nat):Int)==((0:Nat):Int)) 0 _) _ _;have F:fP A ss k=0→∀ j ∈ A.getD k [],ss.getD j 0=0:=by
   intro h0;unfold fP at h0;have key:∀ (l:List Nat) (s:Nat),l.foldl (fun s i=>bW s (ss.getD i 0)) s=0→s=0∧∀ j ∈ l,ss.getD j 0=0:=by
    intro l
    induction l with
    |nil=>intro s h;exact ⟨h,by simp⟩
    | cons a l ih=>
     intro s h;obtain ⟨P,h2⟩:=ih _ h;obtain ⟨h3,h4⟩:=EJ P;exact ⟨h3,fun j n=>by
      rcases List.mem_cons.1 n with rfl|n
      ·exact h4
      ·exact h2 j n⟩
   exact (key _ 0 h0).2
  cases S:(((fP A ss k:Nat):Int)==((0:Nat):Int)) with
  |true=>
   have S:fP A ss k=0:=by have:=beq_iff_eq.1 S;omega
   refine fO.zero ?_;congr 1;refine List.map_congr_left fun j n=>(hr j n).1.same (F S j n)
  | false=>
   show fO (Jk (CI gS) (Ci gS) e A (E.qs.map Sq.c) ss k x) _ _;unfold Jk fP eH zf xX CH qB eH;generalize A.getD k []=al at*
   have ha:cT x.op=0∨cT x.op=1∨cT x.op=2∨cT x.op=3:=by have:=Gm x.op;omega
   match al,g with
   | [],g=>
    have W:x.op≤8:=by
     unfold cT at g;simp only [χ] at g
     repeat' split at g
     all_goals omega
    rw [if_neg (by omega),if_neg (by omega),if_neg (by omega),if_neg (by omega),if_neg (by omega),if_neg (by omega)];exact fO.three (φ 3) _ _
   | [i],g=>
    have P:20≤x.op:=by
     unfold cT at g;simp only [μ,χ] at g
     repeat' split at g
     all_goals omega
    obtain ⟨m,k1,k2,_,_⟩:=hr i (by simp);rw [Xqc,Xxz,Xqc,Xxz,E9 (by omega),E9 (by omega)];have w:bW 0 (ss.getD i 0)=ss.getD i 0:=by unfold bW;rw [if_pos rfl]
    have hstep:21≤x.op→x.op≤23→(vQ x.neg x.num x.den).ok∧0<fZ (vQ x.neg x.num x.den):=fun a b=> ⟨fg _ _ _,by rw [← sK];exact (M a b).2⟩
    have Q:x.op=20∨x.op=21∨x.op=22∨x.op=23∨x.op=24:=by omega
    rcases Q with h|h|h|h|h
    ·rw [if_neg (by omega),if_neg (by omega),if_neg (by omega),if_neg (by omega),if_neg (by omega),if_neg (by omega)];exact fO.three (φ 3) _ _
    ·obtain ⟨L,H⟩:=hstep (by omega) (by omega);rw [if_pos (by omega),Xxg,Xzs,w,h];exact fO.one (fun p u y Z r t d e e'=>by
      rw [cW (q:=qQ p _) e,cW (q:=qQ u _) e'];exact CL r t L H d) k1 k2 m
    ·obtain ⟨L,H⟩:=hstep (by omega) (by omega);rw [if_pos (by omega),Xxg,Xzs,w,h];exact fO.one (fun p u y Z r t d e e'=>by
      rw [cW (q:=Li p _) e,cW (q:=Li u _) e'];exact TP r t L H d) k1 k2 m
    ·obtain ⟨L,H⟩:=hstep (by omega) (by omega);rw [if_pos (by omega),Xxg,Xzs,w,h];exact fO.one (fun p u y Z r t d e e'=>by
      rw [cW (q:=KH p _) e,cW (q:=KH u _) e'];exact R7 r t L H d) k1 k2 m
    ·rw [if_neg (by omega),if_neg (by omega),if_neg (by omega),if_neg (by omega),if_neg (by omega),if_pos h,h];exact fO.rate k1 k2 m
   | [i, j],g=>
    have P:9≤x.op∧x.op≤19∧x.op ≠ 15:=by
     unfold cT at g;simp only [μ,χ] at g
     repeat' split at g
     all_goals omega
    obtain ⟨m,k1,k2,U,Y⟩:=hr i (by simp);obtain ⟨C,k3,k4,N,O⟩:=hr j (by simp);simp only [Xqc,Xxz];rw [E_ (by omega),E_ (by omega)];have w:bW (bW 0 (ss.getD i 0)) (ss.getD j 0)=bW (ss.getD i 0) (ss.getD j 0):=by rw [show bW 0 (ss.getD i 0)=ss.getD i 0 by unfold bW;rw [if_pos rfl]]
    simp only [Xjj,Xwj];have W:x.op=9∨x.op=10∨x.op=11∨x.op=12∨x.op=13∨x.op=14∨16≤x.op:=by omega
    rcases W with h|h|h|h|h|h|h
    ·rw [if_pos (by omega),Xxg,Xxg,Xzs,w,h];exact fO.two NH k1 k2 k3 k4 m C
    ·rw [if_neg (by omega),if_pos h,h];exact fO.sub k1 k2 k3 k4 m C
    ·rw [if_neg (by omega),if_neg (by omega),if_pos h,h];cases T:nE (e.getD i iO).op with
     | true=>
      obtain ⟨G,K⟩:=U T;obtain ⟨D,_⟩:=Y T;rw [G,D];have J:=fg (e.getD i iO).neg (e.getD i iO).num (e.getD i iO).den;exact fO.scale (f:=fun p=>eB (vQ (e.getD i iO).neg (e.getD i iO).num (e.getD i iO).den) p) (fun p u r t d=>by
       have:=E7 r t J d;rw [K] at this;exact ⟨fun z=>(this.1 z).1,fun z=>(this.2 z).1⟩) k3 k4 C
     | false=>
      cases n:nE (e.getD j iO).op with
      | true=>
       obtain ⟨G,K⟩:=N n;obtain ⟨D,_⟩:=O n;rw [G,D];have J:=fg (e.getD j iO).neg (e.getD j iO).num (e.getD j iO).den;exact fO.scale (f:=fun p=>eB p (vQ (e.getD j iO).neg (e.getD j iO).num (e.getD j iO).den)) (fun p u r t d=>by
        have:=E7 r t J d;rw [K] at this;exact ⟨fun z=>(this.1 z).2,fun z=>(this.2 z).2⟩) k1 k2 m
      |false=>exact fO.three (φ 3) _ _
    ·rw [if_neg (by omega),if_neg (by omega),if_neg (by omega),if_pos h,h];cases n:nE (e.getD j iO).op with
     | true=>
      cases hs:(jK (e.getD j iO).neg (e.getD j iO).num (e.getD j iO).den==((0:Nat):Int)) with
      |true=>exact fO.three (φ 3) _ _
      | false=>
       obtain ⟨G,K⟩:=N n;obtain ⟨D,_⟩:=O n;rw [G,D];have J:=fg (e.getD j iO).neg (e.getD j iO).num (e.getD j iO).den;have hs:jK (e.getD j iO).neg (e.getD j iO).num (e.getD j iO).den ≠ 0:=beq_eq_false_iff_ne.1 hs;rw [sK] at hs;generalize vQ (e.getD j iO).neg (e.getD j iO).num (e.getD j iO).den=c at*
       have h0:0<c.n:=by
        unfold fZ at hs;split at hs
        ·exact absurd rfl hs
        ·omega
       have X:∀ a:Oq,Si (lw 12) a (.val c)=Ob (fun o=>iP (da o.q c)) a:=fun a=>by
        unfold Si Ob;split
        ·show (if c.n=0 then Oq.err 16 else iP (da a.q c))=_;rw [if_neg (by omega)]
        ·rfl
       rw [X,X];exact fO.scale (f:=fun p=>da p c) (fun p u r t d=>by
        have:=Om r t J h0 d;rw [K] at this;exact this) k1 k2 m
     |false=>exact fO.three (φ 3) _ _
    ·rw [if_pos (by omega),Xxg,Xxg,Xzs,w,h];exact fO.two NJ k1 k2 k3 k4 m C
    ·rw [if_pos (by omega),Xxg,Xxg,Xzs,w,h];exact fO.two NI k1 k2 k3 k4 m C
    ·rw [if_neg (by omega),if_neg (by omega),if_neg (by omega),if_neg (by omega),if_neg (by omega),if_neg (by omega)];exact fO.three (φ 3) _ _
   | [i,j,h],g=>
    have R:x.op=15:=by
     unfold cT at g;simp only [μ,χ] at g
     repeat' split at g
     all_goals omega
    obtain ⟨m,k1,k2,U,Y⟩:=hr i (by simp);obtain ⟨C,k3,k4,N,O⟩:=hr j (by simp);obtain ⟨r3,k5,k6,t5,t6⟩:=hr h (by simp);rw [if_neg (by omega),if_neg (by omega),if_neg (by omega),if_neg (by omega),if_pos R];simp only [Xqc,Xxz,Xjj,Xwj];cases v:(((ss.getD i 0:Nat):Int)==((0:Nat):Int)) with
    |false=>exact fO.three (φ 3) _ _
    |true=>
     have v:ss.getD i 0=0:=by have:=beq_iff_eq.1 v;omega
     unfold fC;rw [if_neg (by omega),if_neg (by omega),if_neg (by omega),if_neg (by omega)];exact fO.cho (m.same v) C r3
   |_::_::_::_::_,g=>simp only [μ] at g;omega
theorem K5 {e:List Nd} (G:bT e=0):∀ (r p:List Nd) (ss:List Nat) (os os':List Oq),e=p++r→ss.length=e.length→os.length=p.length→os'.length=p.length→
  (∀ j,j<p.length→fO (ss.getD j 0) (os.getD j zO) (os'.getD j zO)∧(os.getD j zO).ok∧(os'.getD j zO).ok∧Ga (e.getD j iO) (os.getD j zO)∧Ga (e.getD j iO) (os'.getD j zO))→
  ∀ j,j<e.length→fO ((rI (CI gS) (Ci gS) e (bh e) (E.qs.map Sq.c) op nm r p.length ss).getD j 0) ((Ld E (bh e) r os).getD j zO) ((Ld E' (bh e) r os').getD j zO):=by
 obtain ⟨v,M,F⟩:=mA G;obtain ⟨I,B⟩:=jX G;intro r
 induction r with
 |nil=>
  intro p ss os os' hp hs t a n j z;rw [Xqa] at hp;exact (n j (by rw [← hp];exact z)).1
 | cons x r ih=>
  intro p ss os os' hp hs t a n j z;have d:p.length<e.length:=by rw [hp];simp
  have c:e[p.length]=x:=by subst hp;simp
  have m:x ∈ e:=by rw [← c];exact Xxe d
  obtain ⟨C,f⟩:=B p.length x (by rw [ξ d,c]);have L:=Ox hD h58 (e:=e) (A:=bh e) (ss:=ss) (os:=os) (os':=os') (k:=p.length) (v x m) C (fun i b=>n i (f i b));have D:∀ (E0:gy) (u:List Oq),(∀ i ∈ (bh e).getD p.length [],(u.getD i zO).ok)→(fC E0 x (((bh e).getD p.length []).map fun j=>u.getD j zO)).ok:=fun E0 u h=>zn fun o O=>by
   obtain ⟨i,b,rfl⟩:=List.mem_map.1 O;exact h i b
  have k1:=D E os (fun i b=>(n i (f i b)).2.1);have k2:=D E' os' (fun i b=>(n i (f i b)).2.2.1);have N:Ga x _:=ER (E:=E) (l:=((bh e).getD p.length []).map fun j=>os.getD j zO) (v x m);have J:Ga x _:=ER (E:=E') (l:=((bh e).getD p.length []).map fun j=>os'.getD j zO) (v x m);simp only [Ld,rI];rw [t,a];generalize fC E x (((bh e).getD p.length []).map fun j=>os.getD j zO)=o at*
  generalize fC E' x (((bh e).getD p.length []).map fun j=>os'.getD j zO)=o' at*
  generalize Aa (CI gS) (Ci gS) e (bh e) (E.qs.map Sq.c) op nm ss p.length x=s at*
  have H:=ih (p++ [x]) (ss.set p.length s) (os++ [o]) (os'++ [o']) (by rw [hp];simp) (by simp [hs]) (by simp [t]) (by simp [a]) ?_ j z
  ·rw [κ,τ] at H;exact H
  ·intro i b;rw [κ,τ] at b;have g:∀ (l:List Oq) (y:Oq),l.length=p.length→(l++ [y]).getD i zO=if i=p.length then y else l.getD i zO:=fun l y K=>by
    rw [ν,ν];split
    ·rename_i h;rw [h,← K];simp
    ·rename_i h;rw [List.getElem?_append_left (by omega)]
   rw [g os o t,g os' o' a,ν (l:=ss.set p.length s),List.getElem?_set];by_cases h:i=p.length
   ·rw [if_pos h,if_pos h,if_pos h.symm,if_pos (by omega),h];have w:e.getD p.length iO=x:=by rw [ν,ξ d,c];rfl
    rw [w];exact ⟨L,k1,k2,N,J⟩
   ·rw [if_neg h,if_neg h,if_neg (fun q=>h q.symm),← ν];exact n i (by omega)
theorem zZ (e:List Nd):fO (i_ (CI gS) (Ci gS) e (E.qs.map Sq.c) op nm) (yg E e) (yg E' e):=by
 unfold i_ yg;by_cases hc:bT e=0
 ·obtain ⟨_,d,a⟩:=mA hc;rw [if_pos ⟨hc,h58.1,h58.2⟩,if_pos hc,if_pos hc];have h:=K5 hD h58 hc e [] (θ e.length 0) [] [] rfl (by simp) rfl rfl (fun j f=>absurd f (Nat.not_lt_zero _)) (e.length - 1) (by omega);have b:∀ E0:gy,(dA E0 e).getLastD (.err 11)=(Ld E0 (bh e) e []).getD (e.length - 1) zO:=fun E0=>by
   have c:(Ld E0 (bh e) e []).length=e.length:=by rw [xw];simp
   unfold dA;rw [Xwd,Xvu,c,ν,ξ (by omega)];rfl
  rw [b,b];exact h
 ·rw [if_neg (fun h=>hc h.1),if_neg hc,if_neg hc];exact fO.three (φ 3) _ _
end
theorem aeH {nt:Nat} (e:85≤nt) (k a:Nat) (os:List Nd) (b:a<2^62) (c:1≤a) (h0:(Xqk (k+1) 1099511627776)=true) (d:(Xqk (k*5) (η (aP os)))=true) (f:lit true (decide (((1:Nat):Int)<(a:Int)))=true):ai prog ap [] nt (ac 2 (af f11)) ⟨[(3,.ref 0 0 0 k),(4,ω (a:Int))],[(0,⟨(aP os),0,false,0,5,true⟩)],.dead,[]⟩ (.normal) ⟨[(3,.ref 0 0 0 (k+1)),(4,ω (((a - 1):Nat):Int))],[(0,⟨((ο (k*5) (aP os))++ [ω 9,.bool false,.str [],.str [],.str []]),0,false,0,5,true⟩)],.dead,[]⟩:=pN 11 [] 1 1 (.k 1 h0 (.c d (.k 1 f .nil))) (.v 83 (.eq (wms c b)) .nil) e
theorem aeI {nt:Nat} (b:85≤nt) (k a:Nat) (os:List Nd) (h0:lit false (decide (((1:Nat):Int)<(a:Int)))=true):ai prog ap [] nt (ac 2 (af f11)) ⟨[(3,.ref 0 0 0 k),(4,ω (a:Int))],[(0,⟨(aP os),0,false,0,5,true⟩)],.dead,[]⟩ (.exit 2) ⟨[(3,.ref 0 0 0 k)],[(0,⟨(aP os),0,false,0,5,true⟩)],.dead,[]⟩:=pN 11 [] 1 0 (.c h0 .nil) (.nil) b
theorem abk (a:List Int) (b:Bool) (d:aG prog ap [] 85 (.block 0 (.loop (ac 0 (af f11)))) ⟨[(0,.sl (iL a) a.length b),(2,.nilS),(3,.nilS),(4,ω 0),(5,ω 0),(6,.dead),(7,.dead),(8,.dead),(9,.dead),(17,.dead),(35,.dead),(47,.dead),(53,.dead),(70,.dead),(77,.dead)],[],.dead,[]⟩ (.normal) ⟨[(3,.nilS),(4,ω 0)],[],.dead,[]⟩) (c:CO 36 [ω 1] (.ret (Ω false (aa 1) (aa 1)))):CO 11 [.sl (iL a) a.length b] (.ret (.own [ω 3,.bool false,.str (aa 1),.str (aa 1),.str []] 1 5)):=pK [0] 3 1 (.n 5 .nil) (.c c (.l d .nil))
theorem abj (a:List Int) (c:Bool) (k b k2:Nat) (os d:List Nd) (h0:((b:Int)==((0:Nat):Int))=false) (f:aG prog ap [] 85 (.block 0 (.loop (ac 0 (af f11)))) ⟨[(0,.sl (iL a) a.length c),(2,.nilS),(3,.nilS),(4,ω 0),(5,ω 0),(6,.dead),(7,.dead),(8,.dead),(9,.dead),(17,.dead),(35,.dead),(47,.dead),(53,.dead),(70,.dead),(77,.dead)],[],.dead,[]⟩ (.normal) ⟨[(3,.ref 0 0 0 k),(4,ω (b:Int))],[(0,⟨(aP os),0,false,0,5,true⟩)],.dead,[]⟩) (e:aG prog ap [] 85 (.block 2 (.loop (ac 2 (af f11)))) ⟨[(0,.dead),(2,.dead),(3,.ref 0 0 0 k),(4,ω (b:Int)),(5,.dead),(6,.dead),(7,.dead),(8,.dead),(9,.dead),(17,.dead),(35,.dead),(47,.dead),(53,.dead),(70,.bool ((b:Int)==((0:Nat):Int))),(77,.dead)],[(0,⟨(aP os),0,false,0,5,true⟩)],.dead,[]⟩ (.normal) ⟨[(3,.ref 0 0 0 k2)],[(0,⟨(aP d),0,false,0,5,true⟩)],.dead,[]⟩):CO 11 [.sl (iL a) a.length c] (.ret (.own (ο (k2*5) (aP d)) k2 5)):=pK [0,2] 1 0 (.c (ay h0) .nil) (.l e (.l f .nil))
def aeG (p:Nat × List Nd × Nat):St:=⟨[(3,.ref 0 0 0 p.1),(4,ω (p.2.2:Int))],[(0,⟨aP p.2.1,0,false,0,5,true⟩)],.dead,[]⟩
def Y6 (p:Nat × List Nd):St:=⟨[(3,.ref 0 0 0 p.1)],[(0,⟨aP p.2,0,false,0,5,true⟩)],.dead,[]⟩
def jW:Nd:=⟨9,false,[],[],[]⟩
theorem PU {nt:Nat} (c:85≤nt):∀ (j k:Nat) (os:List Nd),os.length=k→k+j<2^40→
  az prog ap [] nt (ac 2 (af f11)) (fun _=> .exit 2) aeG Y6 (k,os,j+1) (k+j,os++θ j jW):=by
 intro j
 induction j with
 |zero=>
  intro k os a d;rw [Xzc,Xqa];exact .done (aeI c k 1 os (ay (kQ (φ 1))))
 |succ j ih=>
  intro k os a d;have h:=ih (k+1) (os++ [jW]) (by simp [a]) (by omega);rw [show k+1+j=k+(j+1) by omega,Ψ,show [jW]++θ j jW=θ (j+1) jW from rfl] at h;refine .next ?_ h
  have b:=aeH c k (j+1+1) os (by omega) (by omega) (Xqg (by omega)) (Xqg (by rw [jf];omega)) (aw (aF (by omega)));rw [show ο (k*5) (aP os)++ [ω 9,.bool false,.str [],.str [],.str []]=aP (os++ [jW]) from qC a jW,show j+1+1 - 1=j+1 from rfl] at b;exact b
theorem JM.adds:∀ (j:Nat),∀ {os:List Nd},JM os (j+1)→JM (os++θ j jW) 1
 |0,os,h=>by rw [Xzc,Xqa];exact h
 |j+1,os,h=>by
  have b:=h.snoc (y:=jW) ⟨by simp [jW],by simp [jW]⟩ (F3 ⟨by decide,by decide⟩) (by show 2≤_;omega);have a:=JM.adds j b;rw [Ψ] at a;exact a
def PI (e:List Nd):Nat:=e.countP (fun x=>x.op==15)
theorem EI (x:Nd) (r:List Nd):PI (x::r)=PI r+(if x.op=15 then 1 else 0):=by
 unfold PI;rw [List.countP_cons];simp only [beq_iff_eq]
theorem Nb:∀ (r:List Nd) (d e:Nat),fj r d= .inl e→e+PI r≤d+r.length
 | [],d,e,h=>by
  simp only [fj,Sum.inl.injEq] at h;subst h;simp [PI]
 | x ::r,d,e,h=>by
  simp only [fj] at h;split at h
  ·split at h
   ·cases h
   ·have a:=Nb r _ e h;rw [EI,μ];by_cases h5:x.op=15
    ·have:cT x.op=3:=by rw [h5];rfl
     rw [if_pos h5];omega
    ·rw [if_neg h5];omega
  ·cases h
theorem Kx (c:List Int) (i:Bool):∃ e:List Nd,e.length+PI e≤2*min c.length 30+1∧e ≠ []∧e.length<60∧bT e=0∧(∀ x ∈ e,x.sm)∧CO 11 [.sl (iL c) c.length i] (.ret (.own (aP e) e.length 5)):=by
 obtain ⟨os,g,k,u,n⟩:=RU c i (min c.length 30) 0 [] 0 (by omega) rfl ⟨by simp,rfl⟩;obtain ⟨hd,f⟩:=Dh os 0 g k.ck;rcases Ξ os.length with h0|hp
 ·have:os= []:=List.length_eq_zero_iff.1 h0;subst this;have l:g=0:=by simpa using hd
  subst l;have h:=abk c i (az.blk n (by simp) rfl (aJ.of ⟨rfl,rfl,rfl,rfl,trivial⟩) (aJ.of ⟨rfl,rfl,trivial⟩)) (cQ 1 (by omega));refine ⟨[⟨3,false,aa 1,aa 1,[]⟩],by rw [EI,if_neg (by decide)];simp [PI],by simp,by simp, ?_, ?_,h⟩
  ·have s:aH ⟨3,false,aa 1,aa 1,[]⟩=0:=Cq (w:=⟨false,1,1⟩) (.inr (.inr rfl)) ⟨by decide,by decide,by simp⟩ (by decide) (by decide);unfold bT;simp only [fj,s];rfl
  ·intro x o;rw [Xjc] at o;subst o;exact ⟨dx (by decide),dx (by decide)⟩
 ·have d:os ≠ []:=fun h=>by subst h;simp at hp
  have f:=f d;obtain ⟨j,rfl⟩:∃ j,g=j+1:=⟨g - 1,by omega⟩
  have m:=JM.adds j k;have b:(os++θ j jW).length=os.length+j:=by simp
  have h:=abj c i os.length (j+1) (os.length+j) os (os++θ j jW) (k_ (by omega))
   (az.blk n (by simp) rfl (aJ.of ⟨rfl,rfl,rfl,rfl,trivial⟩) (by
    cases os with
    |nil=>exact absurd rfl d
    |cons a r=>exact aJ.of ⟨rfl,rfl,trivial⟩))
   (az.blk (fun nt q=>PU q j os.length os rfl (by omega)) (by simp) rfl (aJ.of ⟨rfl,rfl,trivial⟩) (aJ.of ⟨rfl,trivial⟩))
  rw [Xqi (by rw [jf,b];omega)] at h;refine ⟨os++θ j jW, ?_,by simp [d],by rw [b];omega, ?_,m.sm,by rw [b];exact h⟩
  ·have t:=Nb _ 0 _ m.ck;have v:=Nb _ 0 _ k.ck;have p:PI (os++θ j jW)=PI os:=by
    unfold PI;rw [List.countP_append,List.countP_replicate];rfl
   rw [b,p];omega
  unfold bT;rw [if_neg (by rw [b];omega),m.ck];rfl
theorem Ky (a:List Int) (b:Bool):∃ e:List Nd,e ≠ []∧e.length≤2*min a.length 30+1∧e.length<60∧bT e=0∧(∀ x ∈ e,x.sm)∧CO 11 [.sl (iL a) a.length b] (.ret (.own (aP e) e.length 5)):=by
 obtain ⟨e,f,d,c⟩:=Kx a b;exact ⟨e,d,by omega,c⟩
def tL (l:List (Int × Int × Int)):List AV:=l.flatMap fun q=> [ω q.1,ω q.2.1,ω q.2.2]
theorem Jv {l:List (Int × Int × Int)} {k:Nat} (h:k<l.length):ε (δ (k:Int)*3) (tL l)= [ω (l.getD k (0,0,0)).1,ω (l.getD k (0,0,0)).2.1,ω (l.getD k (0,0,0)).2.2]++tL (l.drop (k+1)):=by
 rw [av]
 induction l generalizing k with
 |nil=>simp at h
 | cons x r ih=>
  cases k with
  |zero=>simp [tL]
  |succ k=>
   have a:k<r.length:=by simpa using h
   have:=ih a;show ε ((k+1)*3) ([ω x.1,ω x.2.1,ω x.2.2]++tL r)=_;rw [show (k+1)*3=3+k*3 by omega,← Xjl,show ε 3 ([ω x.1,ω x.2.1,ω x.2.2]++tL r)=tL r from rfl,this];simp
theorem ads {nt:Nat} (e:77≤nt) (ts:List (Int × Int × Int)) (a:Bool) (k:Nat) (d:List UInt8) (os b:List AV) (c:Nat):ai prog ap [] nt (pU 9 (af f12)) ⟨[(0,.sl (tL ts) ts.length a),(3,.nilS),(4,ω (k:Int)),(5,.ptr 0 0 0)],[(0,⟨[.str d,ω 1,ω 0,.sl b c false],0,false,0,0,true⟩)],.dead,[]⟩ (.normal) ⟨[(0,.sl (tL ts) ts.length a),(3,.ref 0 0 0 1),(4,ω (k:Int))],[(0,⟨[.str d,ω 1,ω 0,.sl b c false],0,false,0,4,true⟩)],.dead,[]⟩:=pN 12 [] 1 0 (.n 7 .nil) (.nil) e
theorem adr {nt:Nat} (f:77≤nt) (ts:List (Int × Int × Int)) (a:Bool) (k:Nat) (d:List UInt8) (os b:List AV) (c:Nat) (h0:(Xqk (k+1) 1099511627776)=true) (e:(Xqk (k*4) (η os))=true):ai prog ap [] nt (pU 9 (af f12)) ⟨[(0,.sl (tL ts) ts.length a),(3,.ref 0 0 0 k),(4,ω (k:Int)),(5,.ptr 1 0 0)],[(0,⟨os,0,false,0,4,true⟩),(1,⟨[.str d,ω 1,ω 0,.sl b c false],0,false,0,0,true⟩)],.dead,[]⟩ (.normal) ⟨[(0,.sl (tL ts) ts.length a),(3,.ref 0 0 0 (k+1)),(4,ω (k:Int))],[(0,⟨((ο (k*4) os)++ [.str d,ω 1,ω 0,.sl b c false]),0,false,0,4,true⟩)],.dead,[]⟩:=pN 12 [] 0 0 (.k 1 h0 (.c e (.n 5 .nil))) (.nil) f
theorem ady {nt:Nat} (o:77≤nt) (ts:List (Int × Int × Int)) (f:Bool) (k k9:Nat) (a b:RQ) (e:List UInt8) (q:Int × Int × Int) (n:List AV) (h:k<2^62) (g:k9<4611686018427387904) (d:(ε ((δ (k:Int))*3) (tL ts))= [ω q.1,ω q.2.1,ω q.2.2]++n) (h0:(decide (((0:Nat):Int)≤(k:Int)))=true) (c:(decide ((k:Int)<(ts.length:Int)))=true) (m:lit true (!((Xq4 q.2.2 ((3:Nat):Int))==((0:Nat):Int)))=true) (s:lit true (decide ((k:Int)<((6:Nat):Int)))=true) (t:lit true (decide ((k:Int)<(ts.length:Int)))=true) (l:CO 33 [ω (k:Int)] (.ret (.str e))) (i:CO 36 [ω 0] (.ret (Ω false (aa 0) (aa 1)))) (r:CO 19 [.agg [ω q.1,ω q.2.1,ω 3]] (.ret (.agg [.bool a.neg,.str (aa a.n),.str (aa a.d)]))) (p:CO 29 [ω q.2.2,ω 9] (.ret (ω (k9:Int)))) (v:CO 36 [ω (((1+k9):Nat):Int)] (.ret (Ω false (aa (1+k9)) (aa 1)))) (j:CO 19 [.agg [ω q.2.1,ω q.1,ω 3]] (.ret (.agg [.bool b.neg,.str (aa b.n),.str (aa b.d)]))) (u:aG prog ap [] 77 (pU 9 (af f12)) ⟨[(0,.sl (tL ts) ts.length f),(2,.dead),(3,.nilS),(4,ω (k:Int)),(5,.ptr 0 0 0),(13,.bool (decide ((k:Int)<((6:Nat):Int)))),(45,.bool (!((Xq4 q.2.2 ((3:Nat):Int))==((0:Nat):Int))))],[(0,⟨[.str e,ω 1,ω 0,.ref 1 0 0 2],0,false,0,0,false⟩),(1,⟨[.bool false,.str (aa 0),.str (aa 1),.bool a.neg,.str (aa a.n),.str (aa a.d),.bool false,.str (aa (1+k9)),.str (aa 1),.bool b.neg,.str (aa b.n),.str (aa b.d)],0,false,0,6,true⟩)],.dead,[]⟩ (.normal) ⟨[(0,.sl (tL ts) ts.length f),(3,.ref 0 0 0 1),(4,ω (k:Int))],[(0,⟨[.str e,ω 1,ω 0,.sl [.bool false,.str (aa 0),.str (aa 1),.bool a.neg,.str (aa a.n),.str (aa a.d),.bool false,.str (aa (1+k9)),.str (aa 1),.bool b.neg,.str (aa b.n),.str (aa b.d)] 2 false],0,false,0,4,true⟩)],.dead,[]⟩):ψ nt f12 ⟨[(0,.sl (tL ts) ts.length f),(3,.nilS),(4,ω (k:Int))],[],.dead,[]⟩ (.normal) ⟨[(0,.sl (tL ts) ts.length f),(3,.ref 0 0 0 1),(4,ω (((k+1):Nat):Int))],[(0,⟨[.str e,ω 1,ω 0,.sl [.bool false,.str (aa 0),.str (aa 1),.bool a.neg,.str (aa a.n),.str (aa a.d),.bool false,.str (aa (1+k9)),.str (aa 1),.bool b.neg,.str (aa b.n),.str (aa b.d)] 2 false],0,false,0,4,true⟩)],.dead,[]⟩:=pN 12 [1009] 4 11 (.k 8 h0 (.c c (.k 3 h0 (.c c (.k 3 h0 (.c c (.k 1 m (.k 4 h0 (.c c (.k 7 h0 (.c c (.k 3 h0 (.c c (.k 2 s (.c t .nil))))))))))))))) (.v 15 (.eq (DW h)) (.l u (.c j (.v 63 (.ppt d) (.v 58 (.ppt d) (.c v (.v 54 (.eq (Cn g)) (.c p (.v 50 (.ppt d) (.v 41 (.ppt d) (.c r (.v 30 (.ppt d) (.v 25 (.ppt d) (.c i (.c l .nil))))))))))))))) o
theorem adz {nt:Nat} (l:77≤nt) (ts:List (Int × Int × Int)) (c:Bool) (k:Nat) (a:RQ) (b:List UInt8) (q:Int × Int × Int) (j:List AV) (g:k<2^62) (f:(ε ((δ (k:Int))*3) (tL ts))= [ω q.1,ω q.2.1,ω q.2.2]++j) (h0:lit false (!((Xq4 q.2.2 ((3:Nat):Int))==((0:Nat):Int)))=true) (e:(decide (((0:Nat):Int)≤(k:Int)))=true) (d:(decide ((k:Int)<(ts.length:Int)))=true) (n:lit true (decide ((k:Int)<((6:Nat):Int)))=true) (o:lit true (decide ((k:Int)<(ts.length:Int)))=true) (i:CO 33 [ω (k:Int)] (.ret (.str b))) (h:CO 36 [ω 0] (.ret (Ω false (aa 0) (aa 1)))) (m:CO 19 [.agg [ω q.1,ω q.2.1,ω 3]] (.ret (.agg [.bool a.neg,.str (aa a.n),.str (aa a.d)]))) (p:aG prog ap [] 77 (pU 9 (af f12)) ⟨[(0,.sl (tL ts) ts.length c),(2,.dead),(3,.nilS),(4,ω (k:Int)),(5,.ptr 0 0 0),(13,.bool (decide ((k:Int)<((6:Nat):Int)))),(45,.bool (!((Xq4 q.2.2 ((3:Nat):Int))==((0:Nat):Int))))],[(0,⟨[.str b,ω 1,ω 0,.ref 1 0 0 1],0,false,0,0,false⟩),(1,⟨[.bool false,.str (aa 0),.str (aa 1),.bool a.neg,.str (aa a.n),.str (aa a.d)],0,false,0,6,true⟩)],.dead,[]⟩ (.normal) ⟨[(0,.sl (tL ts) ts.length c),(3,.ref 0 0 0 1),(4,ω (k:Int))],[(0,⟨[.str b,ω 1,ω 0,.sl [.bool false,.str (aa 0),.str (aa 1),.bool a.neg,.str (aa a.n),.str (aa a.d)] 1 false],0,false,0,4,true⟩)],.dead,[]⟩):ψ nt f12 ⟨[(0,.sl (tL ts) ts.length c),(3,.nilS),(4,ω (k:Int))],[],.dead,[]⟩ (.normal) ⟨[(0,.sl (tL ts) ts.length c),(3,.ref 0 0 0 1),(4,ω (((k+1):Nat):Int))],[(0,⟨[.str b,ω 1,ω 0,.sl [.bool false,.str (aa 0),.str (aa 1),.bool a.neg,.str (aa a.n),.str (aa a.d)] 1 false],0,false,0,4,true⟩)],.dead,[]⟩:=pN 12 [1009] 4 3 (.c h0 (.k 4 e (.c d (.k 7 e (.c d (.k 3 e (.c d (.k 2 n (.c o .nil))))))))) (.v 15 (.eq (DW g)) (.l p (.v 41 (.ppt f) (.c m (.v 30 (.ppt f) (.v 25 (.ppt f) (.c h (.c i .nil)))))))) l
theorem adA {nt:Nat} (b:77≤nt) (ts:List (Int × Int × Int)) (a:Bool) (k:Nat) (h0:lit false (decide ((k:Int)<(ts.length:Int)))=true):ψ nt f12 ⟨[(0,.sl (tL ts) ts.length a),(3,.nilS),(4,ω (k:Int))],[],.dead,[]⟩ (.exit 0) ⟨[(3,.nilS)],[],.dead,[]⟩:=pN 12 [1009] 2 0 (.k 1 h0 .nil) (.nil) b
theorem adt {nt:Nat} (o:77≤nt) (ts:List (Int × Int × Int)) (f:Bool) (k k9:Nat) (a b:RQ) (e:List UInt8) (q:Int × Int × Int) (n:List AV) (os:List AV) (h:k<2^62) (g:k9<4611686018427387904) (d:(ε ((δ (k:Int))*3) (tL ts))= [ω q.1,ω q.2.1,ω q.2.2]++n) (h0:(decide (((0:Nat):Int)≤(k:Int)))=true) (c:(decide ((k:Int)<(ts.length:Int)))=true) (m:lit true (!((Xq4 q.2.2 ((3:Nat):Int))==((0:Nat):Int)))=true) (s:lit true (decide ((k:Int)<((6:Nat):Int)))=true) (t:lit true (decide ((k:Int)<(ts.length:Int)))=true) (l:CO 33 [ω (k:Int)] (.ret (.str e))) (i:CO 36 [ω 0] (.ret (Ω false (aa 0) (aa 1)))) (r:CO 19 [.agg [ω q.1,ω q.2.1,ω 3]] (.ret (.agg [.bool a.neg,.str (aa a.n),.str (aa a.d)]))) (p:CO 29 [ω q.2.2,ω 9] (.ret (ω (k9:Int)))) (v:CO 36 [ω (((1+k9):Nat):Int)] (.ret (Ω false (aa (1+k9)) (aa 1)))) (j:CO 19 [.agg [ω q.2.1,ω q.1,ω 3]] (.ret (.agg [.bool b.neg,.str (aa b.n),.str (aa b.d)]))) (u:aG prog ap [] 77 (pU 9 (af f12)) ⟨[(0,.sl (tL ts) ts.length f),(2,.dead),(3,.ref 0 0 0 k),(4,ω (k:Int)),(5,.ptr 1 0 0),(13,.bool (decide ((k:Int)<((6:Nat):Int)))),(45,.bool (!((Xq4 q.2.2 ((3:Nat):Int))==((0:Nat):Int))))],[(0,⟨os,0,false,0,4,true⟩),(1,⟨[.str e,ω 1,ω 0,.ref 2 0 0 2],0,false,0,0,false⟩),(2,⟨[.bool false,.str (aa 0),.str (aa 1),.bool a.neg,.str (aa a.n),.str (aa a.d),.bool false,.str (aa (1+k9)),.str (aa 1),.bool b.neg,.str (aa b.n),.str (aa b.d)],0,false,0,6,true⟩)],.dead,[]⟩ (.normal) ⟨[(0,.sl (tL ts) ts.length f),(3,.ref 0 0 0 (k+1)),(4,ω (k:Int))],[(0,⟨((ο (k*4) os)++ [.str e,ω 1,ω 0,.sl [.bool false,.str (aa 0),.str (aa 1),.bool a.neg,.str (aa a.n),.str (aa a.d),.bool false,.str (aa (1+k9)),.str (aa 1),.bool b.neg,.str (aa b.n),.str (aa b.d)] 2 false]),0,false,0,4,true⟩)],.dead,[]⟩):ψ nt f12 ⟨[(0,.sl (tL ts) ts.length f),(3,.ref 0 0 0 k),(4,ω (k:Int))],[(0,⟨os,0,false,0,4,true⟩)],.dead,[]⟩ (.normal) ⟨[(0,.sl (tL ts) ts.length f),(3,.ref 0 0 0 (k+1)),(4,ω (((k+1):Nat):Int))],[(0,⟨((ο (k*4) os)++ [.str e,ω 1,ω 0,.sl [.bool false,.str (aa 0),.str (aa 1),.bool a.neg,.str (aa a.n),.str (aa a.d),.bool false,.str (aa (1+k9)),.str (aa 1),.bool b.neg,.str (aa b.n),.str (aa b.d)] 2 false]),0,false,0,4,true⟩)],.dead,[]⟩:=pN 12 [1009] 4 11 (.k 8 h0 (.c c (.k 3 h0 (.c c (.k 3 h0 (.c c (.k 1 m (.k 4 h0 (.c c (.k 7 h0 (.c c (.k 3 h0 (.c c (.k 2 s (.c t .nil))))))))))))))) (.v 15 (.eq (DW h)) (.l u (.c j (.v 63 (.ppt d) (.v 58 (.ppt d) (.c v (.v 54 (.eq (Cn g)) (.c p (.v 50 (.ppt d) (.v 41 (.ppt d) (.c r (.v 30 (.ppt d) (.v 25 (.ppt d) (.c i (.c l .nil))))))))))))))) o
theorem adu {nt:Nat} (l:77≤nt) (ts:List (Int × Int × Int)) (c:Bool) (k:Nat) (a:RQ) (b:List UInt8) (q:Int × Int × Int) (j:List AV) (os:List AV) (g:k<2^62) (f:(ε ((δ (k:Int))*3) (tL ts))= [ω q.1,ω q.2.1,ω q.2.2]++j) (h0:lit false (!((Xq4 q.2.2 ((3:Nat):Int))==((0:Nat):Int)))=true) (e:(decide (((0:Nat):Int)≤(k:Int)))=true) (d:(decide ((k:Int)<(ts.length:Int)))=true) (n:lit true (decide ((k:Int)<((6:Nat):Int)))=true) (o:lit true (decide ((k:Int)<(ts.length:Int)))=true) (i:CO 33 [ω (k:Int)] (.ret (.str b))) (h:CO 36 [ω 0] (.ret (Ω false (aa 0) (aa 1)))) (m:CO 19 [.agg [ω q.1,ω q.2.1,ω 3]] (.ret (.agg [.bool a.neg,.str (aa a.n),.str (aa a.d)]))) (p:aG prog ap [] 77 (pU 9 (af f12)) ⟨[(0,.sl (tL ts) ts.length c),(2,.dead),(3,.ref 0 0 0 k),(4,ω (k:Int)),(5,.ptr 1 0 0),(13,.bool (decide ((k:Int)<((6:Nat):Int)))),(45,.bool (!((Xq4 q.2.2 ((3:Nat):Int))==((0:Nat):Int))))],[(0,⟨os,0,false,0,4,true⟩),(1,⟨[.str b,ω 1,ω 0,.ref 2 0 0 1],0,false,0,0,false⟩),(2,⟨[.bool false,.str (aa 0),.str (aa 1),.bool a.neg,.str (aa a.n),.str (aa a.d)],0,false,0,6,true⟩)],.dead,[]⟩ (.normal) ⟨[(0,.sl (tL ts) ts.length c),(3,.ref 0 0 0 (k+1)),(4,ω (k:Int))],[(0,⟨((ο (k*4) os)++ [.str b,ω 1,ω 0,.sl [.bool false,.str (aa 0),.str (aa 1),.bool a.neg,.str (aa a.n),.str (aa a.d)] 1 false]),0,false,0,4,true⟩)],.dead,[]⟩):ψ nt f12 ⟨[(0,.sl (tL ts) ts.length c),(3,.ref 0 0 0 k),(4,ω (k:Int))],[(0,⟨os,0,false,0,4,true⟩)],.dead,[]⟩ (.normal) ⟨[(0,.sl (tL ts) ts.length c),(3,.ref 0 0 0 (k+1)),(4,ω (((k+1):Nat):Int))],[(0,⟨((ο (k*4) os)++ [.str b,ω 1,ω 0,.sl [.bool false,.str (aa 0),.str (aa 1),.bool a.neg,.str (aa a.n),.str (aa a.d)] 1 false]),0,false,0,4,true⟩)],.dead,[]⟩:=pN 12 [1009] 4 3 (.c h0 (.k 4 e (.c d (.k 7 e (.c d (.k 3 e (.c d (.k 2 n (.c o .nil))))))))) (.v 15 (.eq (DW g)) (.l p (.v 41 (.ppt f) (.c m (.v 30 (.ppt f) (.v 25 (.ppt f) (.c h (.c i .nil)))))))) l
theorem adv {nt:Nat} (c:77≤nt) (ts:List (Int × Int × Int)) (b:Bool) (k:Nat) (os:List AV) (h0:lit false (decide ((k:Int)<((6:Nat):Int)))=true) (a:lit true (decide ((k:Int)<(ts.length:Int)))=true):ψ nt f12 ⟨[(0,.sl (tL ts) ts.length b),(3,.ref 0 0 0 k),(4,ω (k:Int))],[(0,⟨os,0,false,0,4,true⟩)],.dead,[]⟩ (.exit 0) ⟨[(3,.ref 0 0 0 k)],[(0,⟨os,0,false,0,4,true⟩)],.dead,[]⟩:=pN 12 [1009] 2 1 (.c h0 (.c a .nil)) (.nil) c
theorem adw {nt:Nat} (b:77≤nt) (ts:List (Int × Int × Int)) (a:Bool) (k:Nat) (os:List AV) (h0:lit false (decide ((k:Int)<(ts.length:Int)))=true):ψ nt f12 ⟨[(0,.sl (tL ts) ts.length a),(3,.ref 0 0 0 k),(4,ω (k:Int))],[(0,⟨os,0,false,0,4,true⟩)],.dead,[]⟩ (.exit 0) ⟨[(3,.ref 0 0 0 k)],[(0,⟨os,0,false,0,4,true⟩)],.dead,[]⟩:=pN 12 [1009] 2 0 (.k 1 h0 .nil) (.nil) b
def spN (os:List Sq) (k:Nat):AV:=match os with| []=> .nilS|_::_=> .ref 0 0 0 k
def shN (os:List Sq):Hp:=match os with| []=> []|a::r=> [(0,⟨dB ((a::r).map Sq.c),0,false,0,4,true⟩)]
def Yb (ts:List (Int × Int × Int)) (nn:Bool) (p:Nat × List Sq):St:=⟨[(0,.sl (tL ts) ts.length nn),(3,spN p.2 p.1),(4,ω (p.1:Int))],shN p.2,.dead,[]⟩
def adB (p:Nat × List Sq):St:=⟨[(3,spN p.2 p.1)],shN p.2,.dead,[]⟩
theorem abC:aa 0= []:=b_
theorem Xe:aa 1= [1]:=nS (s:= [1]) rfl
theorem ajl {n:Nat} (h:1≤n∧n≤9):aa n= [Xqj n]:=by
 obtain ⟨a,b⟩:=h
 match n,a,b with
 |1,_,_=>exact nS (s:= [1]) rfl
 |2,_,_=>exact nS (s:= [2]) rfl
 |3,_,_=>exact nS (s:= [3]) rfl
 |4,_,_=>exact nS (s:= [4]) rfl
 |5,_,_=>exact nS (s:= [5]) rfl
 |6,_,_=>exact nS (s:= [6]) rfl
 |7,_,_=>exact nS (s:= [7]) rfl
 |8,_,_=>exact nS (s:= [8]) rfl
 |9,_,_=>exact nS (s:= [9]) rfl
theorem Jr {qs:List Sq} {k:Nat} (h:qs.length=k) (q:Sq):ο (k*4) (dB (qs.map Sq.c))++ [Yjy q.nm,ω q.u1,ω q.u2,.sl (gK q.l) q.l.length false]=dB ((qs++ [q]).map Sq.c):=by
 rw [Xqi (by rw [kH,Xxp];omega),List.map_append];unfold dB;rw [Xzp];rfl
theorem UH (a b:Int):∃ w:RQ,w.n<2^128∧w.d<2^128∧CO 19 [.agg [ω a,ω b,ω 3]] (.ret (.agg [.bool w.neg,.str (aa w.n),.str (aa w.d)])):=by
 have h:=uh a b 3 (fun h=>absurd h (by decide));obtain ⟨f,e⟩:=IP a b 3;obtain ⟨c,d⟩:=G8 (decide (a<((0:Nat):Int))) _ _ f e;exact ⟨_,c,d,h⟩
def xM (w:RQ):Br:=⟨false,aa 0,aa 1,w.neg,aa w.n,aa w.d⟩
def JT (n:Nat) (w:RQ):Br:=⟨false,aa n,aa 1,w.neg,aa w.n,aa w.d⟩
theorem vS {x:Nat} (h:x<2^128):(aa x).length<2^28:=υ (bC (k:=16) h) (by decide)
theorem Uh {w:RQ} (h:w.n<2^128) (a:w.d<2^128):(xM w).s28:=⟨⟨vS (x:=0) (by decide),vS (x:=1) (by decide)⟩,vS h,vS a⟩
theorem Zf {n:Nat} (b:n<2^128) {w:RQ} (h:w.n<2^128) (a:w.d<2^128):(JT n w).s28:=⟨⟨vS b,vS (x:=1) (by decide)⟩,vS h,vS a⟩
theorem ajJ (b:List UInt8) {w:RQ} (h:w.n<2^128) (a:w.d<2^128):PE ⟨b,1,0,[xM w]⟩:=⟨xM w,Uh h a,rfl,abC,Xe,.inl rfl⟩
theorem ajK (d:List UInt8) {n:Nat} (a:1≤n∧n≤9) {w v:RQ} (h:w.n<2^128) (b:w.d<2^128) (k:v.n<2^128) (c:v.d<2^128):PE ⟨d,1,0,[xM w,JT n v]⟩:=
 ⟨xM w,Uh h b,rfl,abC,Xe,.inr ⟨JT n v,n,a.1,a.2,Zf (by omega) k c,rfl,ajl a,Xe,rfl⟩⟩
theorem OT (ts:List (Int × Int × Int)) (e:Bool) (qs:List Sq) (k:Nat) (i:qs.length=k) (o:k<6) (d:k<ts.length) (y:∀ q ∈ qs,PE q):
  ∃ q:Sq,PE q∧∀ nt,77≤nt→ψ nt f12 (Yb ts e (k,qs)) .normal (Yb ts e (k+1,qs++ [q])):=by
 have m:=Jv d;generalize ts.getD k (0,0,0)=q at m;have n:=xj (k:Int);generalize ul (aI (k:Int) 6)=nm at n;obtain ⟨b,s,u,g⟩:=UH q.1 q.2.1;obtain ⟨c,w,v,l⟩:=UH q.2.1 q.1;have t:=cB q.2.2 9 (by omega) (by omega);have x:aI q.2.2 9<9:=cL (by omega);rcases tf (Xq4 q.2.2 ((3:Nat):Int)==((0:Nat):Int)) with e0|e0
 ·refine ⟨⟨nm,1,0,[xM b]⟩,ajJ nm s u,fun nt f=> ?_⟩;cases qs with
  |nil=>
   simp only [χ] at i;subst i;exact adz f ts e 0 b nm q _ (by omega) m (aA e0) (bw 0) (aF d) (aw (aF o)) (aw (aF d)) n (cQ 0 (by omega)) g (fun nt f=>ai.ahead 1 ⟨[.bool false,.str (aa 0),.str (aa 1),.bool b.neg,.str (aa b.n),.str (aa b.d)],0,false,0,6,true⟩ (en':= [(0,.sl (tL ts) ts.length e),(3,.nilS),(4,ω ((0:Nat):Int)),(5,.ptr 0 0 0)]) (hp':= [(0,⟨[.str nm,ω 1,ω 0,.sl [.bool false,.str (aa 0),.str (aa 1),.bool b.neg,.str (aa b.n),.str (aa b.d)] 1 false],0,false,0,0,true⟩)]) (ads f ts e 0 nm [] [.bool false,.str (aa 0),.str (aa 1),.bool b.neg,.str (aa b.n),.str (aa b.d)] 1) (Xxf _) rfl ⟨Fz.same rfl,Fz.same rfl,Fz.same rfl,Fz.same rfl,trivial⟩ ⟨rfl,⟨rfl,rfl,rfl,rfl,.inr ⟨.cons (.same rfl) (.cons (.same rfl) (.cons (.same rfl) (.cons (.fit .ref (aN.sl _ _ _)) .nil))),fun _=>rfl⟩⟩,by decide,rfl⟩)
  |cons a r=>
   generalize p:a::r=qs at*
   have h:ο (k*4) (dB (qs.map Sq.c))++ [Yjy nm,ω 1,ω 0,.sl [.bool false,.str (aa 0),.str (aa 1),.bool b.neg,.str (aa b.n),.str (aa b.d)] 1 false]=dB (Xwe Sq.c (qs++ [(⟨nm,1,0,[xM b]⟩:Sq)])):=Jr i ⟨nm,1,0,[xM b]⟩;have j:=adu f ts e k b nm q _ (dB (qs.map Sq.c)) (by omega) m (aA e0) (bw k) (aF d) (aw (aF o)) (aw (aF d)) n (cQ 0 (by omega)) g (fun nt f=>ai.ahead 2 ⟨[.bool false,.str (aa 0),.str (aa 1),.bool b.neg,.str (aa b.n),.str (aa b.d)],0,false,0,6,true⟩ (en':= [(0,.sl (tL ts) ts.length e),(3,.ref 0 0 0 k),(4,ω (k:Int)),(5,.ptr 1 0 0)]) (hp':= [(0,⟨dB (qs.map Sq.c),0,false,0,4,true⟩),(1,⟨[.str nm,ω 1,ω 0,.sl [.bool false,.str (aa 0),.str (aa 1),.bool b.neg,.str (aa b.n),.str (aa b.d)] 1 false],0,false,0,0,true⟩)]) (adr f ts e k nm (dB (qs.map Sq.c)) [.bool false,.str (aa 0),.str (aa 1),.bool b.neg,.str (aa b.n),.str (aa b.d)] 1 (Xqg (by omega)) (Xqg (by rw [kH,Xxp];omega))) (Xxf _) rfl ⟨Fz.same rfl,Fz.same rfl,Fz.same rfl,Fz.same rfl,trivial⟩ ⟨rfl,D3.same rfl,by decide,rfl,⟨rfl,rfl,rfl,rfl,.inr ⟨.cons (.same rfl) (.cons (.same rfl) (.cons (.same rfl) (.cons (.fit .ref (aN.sl _ _ _)) .nil))),fun _=>rfl⟩⟩,by decide,rfl⟩);rw [h] at j;subst p;exact j
 ·refine ⟨⟨nm,1,0,[xM b,JT (1+aI q.2.2 9) c]⟩,ajK nm (by omega) s u w v,fun nt f=> ?_⟩;cases qs with
  |nil=>
   simp only [χ] at i;subst i;exact ady f ts e 0 (aI q.2.2 9) b c nm q _ (by omega) (by omega) m (bw 0) (aF d) (bi e0) (aw (aF o)) (aw (aF d)) n (cQ 0 (by omega)) g t (cQ (1+aI q.2.2 9) (by omega)) l (fun nt f=>ai.ahead 1 ⟨[.bool false,.str (aa 0),.str (aa 1),.bool b.neg,.str (aa b.n),.str (aa b.d),.bool false,.str (aa (1+aI q.2.2 9)),.str (aa 1),.bool c.neg,.str (aa c.n),.str (aa c.d)],0,false,0,6,true⟩ (en':= [(0,.sl (tL ts) ts.length e),(3,.nilS),(4,ω ((0:Nat):Int)),(5,.ptr 0 0 0)]) (hp':= [(0,⟨[.str nm,ω 1,ω 0,.sl [.bool false,.str (aa 0),.str (aa 1),.bool b.neg,.str (aa b.n),.str (aa b.d),.bool false,.str (aa (1+aI q.2.2 9)),.str (aa 1),.bool c.neg,.str (aa c.n),.str (aa c.d)] 2 false],0,false,0,0,true⟩)]) (ads f ts e 0 nm [] [.bool false,.str (aa 0),.str (aa 1),.bool b.neg,.str (aa b.n),.str (aa b.d),.bool false,.str (aa (1+aI q.2.2 9)),.str (aa 1),.bool c.neg,.str (aa c.n),.str (aa c.d)] 2) (Xxf _) rfl ⟨Fz.same rfl,Fz.same rfl,Fz.same rfl,Fz.same rfl,trivial⟩ ⟨rfl,⟨rfl,rfl,rfl,rfl,.inr ⟨.cons (.same rfl) (.cons (.same rfl) (.cons (.same rfl) (.cons (.fit .ref (aN.sl _ _ _)) .nil))),fun _=>rfl⟩⟩,by decide,rfl⟩)
  |cons a r=>
   generalize p:a::r=qs at*
   have h:ο (k*4) (dB (qs.map Sq.c))++ [Yjy nm,ω 1,ω 0,.sl [.bool false,.str (aa 0),.str (aa 1),.bool b.neg,.str (aa b.n),.str (aa b.d),.bool false,.str (aa (1+aI q.2.2 9)),.str (aa 1),.bool c.neg,.str (aa c.n),.str (aa c.d)] 2 false]=dB (Xwe Sq.c (qs++ [(⟨nm,1,0,[xM b,JT (1+aI q.2.2 9) c]⟩:Sq)])):=Jr i ⟨nm,1,0,[xM b,JT (1+aI q.2.2 9) c]⟩;have j:=adt f ts e k (aI q.2.2 9) b c nm q _ (dB (qs.map Sq.c)) (by omega) (by omega) m (bw k) (aF d) (bi e0) (aw (aF o)) (aw (aF d)) n (cQ 0 (by omega)) g t (cQ (1+aI q.2.2 9) (by omega)) l (fun nt f=>ai.ahead 2 ⟨[.bool false,.str (aa 0),.str (aa 1),.bool b.neg,.str (aa b.n),.str (aa b.d),.bool false,.str (aa (1+aI q.2.2 9)),.str (aa 1),.bool c.neg,.str (aa c.n),.str (aa c.d)],0,false,0,6,true⟩ (en':= [(0,.sl (tL ts) ts.length e),(3,.ref 0 0 0 k),(4,ω (k:Int)),(5,.ptr 1 0 0)]) (hp':= [(0,⟨dB (qs.map Sq.c),0,false,0,4,true⟩),(1,⟨[.str nm,ω 1,ω 0,.sl [.bool false,.str (aa 0),.str (aa 1),.bool b.neg,.str (aa b.n),.str (aa b.d),.bool false,.str (aa (1+aI q.2.2 9)),.str (aa 1),.bool c.neg,.str (aa c.n),.str (aa c.d)] 2 false],0,false,0,0,true⟩)]) (adr f ts e k nm (dB (qs.map Sq.c)) [.bool false,.str (aa 0),.str (aa 1),.bool b.neg,.str (aa b.n),.str (aa b.d),.bool false,.str (aa (1+aI q.2.2 9)),.str (aa 1),.bool c.neg,.str (aa c.n),.str (aa c.d)] 2 (Xqg (by omega)) (Xqg (by rw [kH,Xxp];omega))) (Xxf _) rfl ⟨Fz.same rfl,Fz.same rfl,Fz.same rfl,Fz.same rfl,trivial⟩ ⟨rfl,D3.same rfl,by decide,rfl,⟨rfl,rfl,rfl,rfl,.inr ⟨.cons (.same rfl) (.cons (.same rfl) (.cons (.same rfl) (.cons (.fit .ref (aN.sl _ _ _)) .nil))),fun _=>rfl⟩⟩,by decide,rfl⟩);rw [h] at j;subst p;exact j
theorem Ta (ts:List (Int × Int × Int)) (h:Bool):∀ (d k:Nat) (qs:List Sq),k+d=min ts.length 6→qs.length=k→(∀ q ∈ qs,PE q)→
  ∃ b:List Sq,(∀ q ∈ b,PE q)∧b.length=min ts.length 6∧∀ nt,77≤nt→az prog ap [] nt (ac 0 (af f12)) (fun _=> .exit 0) (Yb ts h) adB (k,qs) (b.length,b):=by
 intro d
 induction d with
 | zero=>
  intro k qs hd g i;refine ⟨qs,i,by omega,fun nt f=> ?_⟩;rw [g];refine .done ?_;by_cases c:ts.length≤k
  ·cases qs with
   |nil=>exact adA f ts h k (ay (kQ c))
   |cons a r=>exact adw f ts h k (dB ((a::r).map Sq.c)) (ay (kQ c))
  ·have n:6≤k:=by omega
   have c:k<ts.length:=by omega
   cases qs with
   |nil=>simp only [χ] at g;omega
   |cons a r=>exact adv f ts h k (dB ((a::r).map Sq.c)) (ay (kQ n)) (aw (aF c))
 | succ d ih=>
  intro k qs hd g i;obtain ⟨q,j,m⟩:=OT ts h qs k g (by omega) (by omega) i;obtain ⟨b,o,p,l⟩:=ih (k+1) (qs++ [q]) (by omega) (by simp [g]) (fun x e=>by
   rcases List.mem_append.1 e with e|e
   ·exact i x e
   ·rw [Xjc] at e;exact e ▸ j)
  exact ⟨b,o,p,fun nt f=> .next (m nt f) (l nt f)⟩
theorem ac8 (ts:List (Int × Int × Int)) (a:Bool) (b:aG prog ap [] 77 (.block 0 (.loop (ac 0 (af f12)))) ⟨[(0,.sl (tL ts) ts.length a),(2,.nilS),(3,.nilS),(4,ω 0),(5,.dead),(13,.dead),(45,.dead)],[],.dead,[]⟩ (.normal) ⟨[(3,.nilS)],[],.dead,[]⟩):CO 12 [.sl (tL ts) ts.length a] (.ret (.nilS)):=pK [0] 0 0 .nil (.l b .nil)
theorem ac7 (ts:List (Int × Int × Int)) (a:Bool) (k:Nat) (os:List AV) (b:aG prog ap [] 77 (.block 0 (.loop (ac 0 (af f12)))) ⟨[(0,.sl (tL ts) ts.length a),(2,.nilS),(3,.nilS),(4,ω 0),(5,.dead),(13,.dead),(45,.dead)],[],.dead,[]⟩ (.normal) ⟨[(3,.ref 0 0 0 k)],[(0,⟨os,0,false,0,4,true⟩)],.dead,[]⟩):CO 12 [.sl (tL ts) ts.length a] (.ret (.own (ο (k*4) os) k 4)):=pK [0] 0 0 .nil (.l b .nil)
theorem KZ (ts:List (Int × Int × Int)) (b:Bool):∃ qs:List Sq,(∀ q ∈ qs,PE q)∧qs.length≤6∧CO 12 [.sl (tL ts) ts.length b] (.ret (match qs with| []=> .nilS|_::_=> .own (dB (qs.map Sq.c)) qs.length 4)):=by
 obtain ⟨qs,d,e,c⟩:=Ta ts b (min ts.length 6) 0 [] (by omega) rfl (by simp);refine ⟨qs,d,by omega, ?_⟩;cases qs with
 |nil=>exact ac8 ts b (az.blk c (by simp) rfl (aJ.of ⟨rfl,rfl,rfl,trivial⟩) (aJ.of ⟨rfl,trivial⟩))
 |cons a r=>
  have h:=ac7 ts b (a::r).length (dB ((a::r).map Sq.c)) (az.blk c (by simp) rfl (aJ.of ⟨rfl,rfl,rfl,trivial⟩) (aJ.of ⟨rfl,trivial⟩));rw [Xqi (by rw [kH,Xxp];omega)] at h;exact h
def SV (so sp:List UInt8→Nat) (x:List UInt8):Bool:= !(decide (((1:Nat):Int)<((so x:Nat):Int))) && !(decide (((1:Nat):Int)<((sp x:Nat):Int)))
end Go.Proofs.Tryz
open Go AM Go.RowKit Go.Shelf
namespace Go.Proofs.Tryz
attribute [local go_sem] Oper.semAt_some
theorem jZ {W W':World} (h:Below W.heap.size W W'):jF (cf W) (cf W'):=by
 intro k o v b;have a:=Ef b;rw [← b];unfold cf;rw [h.block k a,World.cell?_of_block (h.block k a)]
theorem pq {W W':World} (h:Below W.heap.size W W') (f:js ap (cf W)):js ap (cf W'):=by
 intro k e c;obtain ⟨vs,d,b⟩:=f k e c;exact ⟨vs,bk (jZ h) _ d,fun j u a=> ⟨jZ h _ _ _ (b j u a).1,(b j u a).2⟩⟩
theorem adx {W:World} (a:js ap (cf W)) (m:aQ):bF ap (aZ []) m (cf W) W:=
 ⟨fun b c B B' h=>by simp [aZ] at h,fun b B h=>by simp [aZ] at h,fun k o v h=>h,fun b B h=>by simp [aZ] at h,a⟩
theorem qx {f:Nat} {args:List AV} {g:IntKind} {x:Int} (j:CO f args (.ret (.int g x))) {W:World} (l:js ap (cf W)) {cargs:List Value} (m:bZ (cf W) args cargs) {n:Nat}:
  CallsIn Fence.wide n prog f cargs.toArray W fun e W'=>e= .returned (.int g x)∧Below W.heap.size W W':=by
 refine callsIn_wide.2 ?_;refine (j.calls (fun _=>(0,0)) (cf W) W cargs (adx l _) (bu _ m)).mono ?_
 rintro e W' ⟨m',S',hF⟩
 obtain ⟨_,a,c⟩:=hF;obtain ⟨cv,rfl,d⟩:=c;simp only [sU,VR,PR] at d;subst d;exact ⟨rfl,a.os,a.tape,a.output,a.size,fun k i=>a.rest k i fun b B h=>by simp [aZ] at h⟩
theorem yq {W W':World} (h:Below W.heap.size W W') (a:Option Nat):W.grownBy W' a:=
 ⟨h.os,h.tape,h.output,h.size,fun k b _=>h.block k b⟩
def iM (f g:Nat→Int) (k:Nat):List Int:=(Xq1 k).flatMap fun j=> [f j,g j]
theorem og (f g:Nat→Int) (k:Nat):iM f g (k+1)=iM f g k++ [f k]++ [g k]:=by simp [iM,List.range_succ]
theorem n_ (f g:Nat→Int) (k:Nat):(iM f g k).length=2*k:=by
 induction k with
 |zero=>rfl
 |succ k ih=>rw [og];simp [ih];omega
theorem Lp (f g:Nat→Int) {k n:Nat} (h:k≤n):iM f g k<+:iM f g n:=by
 induction n with
 |zero=>
  obtain rfl:k=0:=by omega
  exact Yqj _
 |succ n ih=>
  by_cases hk:k=n+1
  ·subst hk;exact Yqj _
  ·exact (ih (by omega)).trans (by rw [og,Ψ];exact Xvs _ _)
set_option maxRecDepth 100000 in
set_option maxHeartbeats 4000000 in
theorem Hu (n:Nat) (hn:2≤n) (l kn ke ks n₀ b off len cap:Nat) (E SC:AV) (ue us:Value) (ns:Nat→List UInt8) (so sp:Nat→Int) (hreach:len*16≤140737488351232)
  (hso:∀ k,k<len→CO 14 [E,SC,.int .i64 6,.str (ns k)] (.ret (.int .i64 (so k)))) (hsp:∀ k,k<len→CO 14 [E,SC,.int .i64 8,.str (ns k)] (.ret (.int .i64 (sp k))))
  (J Jx:List Int→World→Prop) (W:World) (hAJ:AbidesFrom W.heap.size J)
  (hY:∀ pre x W1,J pre W1→pre.length<2*len→YieldAt Fence.wide (n - 1) prog l #[.int .i64 x] W1 fun e W'=>
   (e= .returned (.bool true)∧J (pre++ [x]) W'∧Below n₀ W1 W')∨(e= .returned (.bool false)∧Jx (pre++ [x]) W'))
  (hn0:n₀≤W.heap.size) (hbn:b<n₀) (hkn:kn<n₀) (hke:ke<n₀) (hks:ks<n₀)
  (w0:World) (hw0:w0.heap.size=n₀) (hW:Below n₀ w0 W) (hg:js ap (cf w0)) (hpr:bZ (cf w0) [E,SC] [ue,us])
  (cn:w0.cell? ⟨kn,0,none⟩=some (.slice (some ⟨b,off,none⟩) len cap)) (ce:w0.cell? ⟨ke,0,none⟩=some ue) (cs:w0.cell? ⟨ks,0,none⟩=some us)
  (hc:∀ j,j<len→w0.cell? ⟨b,off+j,none⟩=some (.string ⟨(ns j).toArray⟩)) (h0:J [] W):
  CallsIn Fence.wide n prog 73 #[.func (.yield l) #[] #[],.pointer (some ⟨kn,0,none⟩),.pointer (some ⟨ke,0,none⟩),.pointer (some ⟨ks,0,none⟩)] W fun e W'=>(∃ v,e= .returned v)∧
   ((∃ ys,ys=iM so sp len∧J ys W')∨(∃ pre,pre<+:iM so sp len∧Jx pre W')):=by
 have kee:∀ (w:World),Below n₀ w0 w→∀ (k j:Nat) (v:Value),k<n₀→w0.cell? ⟨k,j,none⟩=some v→w.cell? ⟨k,j,none⟩=some v:=fun w h k j v hk hv=>(Below.cell h (p:=⟨k,j,none⟩) hk).trans hv
 have cn':=kee _ hW _ _ _ hkn cn;refine callsIn_of_wp Tryz.func73 rfl trivial ?_ rfl;simp only [Tryz.ntmps73,Xx9,μ,χ,Xvg,Xvh,Array.replicate_succ,Array.replicate_zero,Xz6,Xzq,Xqd,Xqx]
 gi_wp2
 gi_loopw [9] (fun i wr=> ∃ k:Nat,k≤len∧i= .int .i64 k∧J (iM so sp k) wr∧Below n₀ w0 wr∧W.heap.size≤wr.heap.size)
  (fun i _=>len - (intOf i).toNat)
 case atStart=>exact ⟨0,Xxf _,rfl,h0,hW,φ _⟩
 case round=>
  obtain ⟨k,hk,rfl,hJs,hnx,hsz⟩:=hrel;have hcx:k<len→wr.cell? ⟨b,off+k,none⟩=some (.string ⟨(ns k).toArray⟩):=fun h=>kee _ hnx _ _ _ hbn (hc k h)
  have ce1:=kee _ hnx _ _ _ hke ce;have cs1:=kee _ hnx _ _ _ hks cs;by_cases hlt:k<len
  ·have hcx':=hcx hlt;have bW1:∀ (w:World),Below n₀ w0 w→Below w0.heap.size w0 w:=fun w h=>by rw [hw0];exact h
   have PR4:∀ (w:World) (op:Int),Below n₀ w0 w→bZ (cf w) [E,SC,.int .i64 op,.str (ns k)] [ue,us,.int .i64 op,.string ⟨(ns k).toArray⟩]:=fun w op h=>by
    have h2:=bk (jZ (bW1 w h)) _ hpr;simp only [bZ,PR] at h2 ⊢;exact ⟨h2.1,h2.2.1,trivial,trivial,trivial⟩
   have LE1:iM so sp len=iM so sp k++ [so k]++ [sp k]++(iM so sp len).drop (2*(k+1)):=by
    rw [← og];obtain ⟨r,hr⟩:=Lp so sp (show k+1≤len by omega)
    conv=>rhs;rw [← hr]
    rw [List.drop_left' (n_ ..)];exact hr.symm
   have hf14:Fence.wide.fn 14:=trivial;have h1n:1≤n:=by omega
   gi_wp2_with (gi_at_call 14;refine (qx (hso k hlt) (pq (bW1 _ hnx) hg) (PR4 _ 6 hnx)).mono ?_;rintro e W1 ⟨rfl,hb1⟩;have hJ1:=hAJ _ _ _ none hJs (yq hb1 none) (fun r e=>by cases e);have hnx1:Below n₀ w0 W1:=hnx.trans (hb1.mono (by omega));obtain ⟨fn,tmps,assign,body,hy,hR⟩:=hY _ (so k) W1 hJ1 (by rw [n_];omega))
   refine hR.mono ?_
   rintro e W3 (⟨rfl,hJ3,hk3⟩|⟨rfl,hJx3⟩)
   ·have hnx3:=hnx1.trans hk3;have ce3:=kee _ hnx3 _ _ _ hke ce;have cs3:=kee _ hnx3 _ _ _ hks cs
    gi_wp2_with (gi_at_call 14;refine (qx (hsp k hlt) (pq (bW1 _ hnx3) hg) (PR4 _ 8 hnx3)).mono ?_;rintro e W4 ⟨rfl,hb4⟩;have hJ4:=hAJ _ _ _ none hJ3 (yq hb4 none) (fun r e=>by cases e);have hnx4:Below n₀ w0 W4:=hnx3.trans (hb4.mono (by rw [← hw0];exact hnx3.size));obtain ⟨fn4,tmps4,assign4,body4,hy4,hR4⟩:=hY _ (sp k) W4 hJ4 (by rw [κ,n_,τ];omega))
    refine hR4.mono ?_
    rintro e W5 (⟨rfl,hJ5,hk5⟩|⟨rfl,hJx5⟩)
    ·gi_wp2
     go_roundw
     case rel=>exact ⟨k+1,by omega,by simp,by rw [og];exact hJ5,hnx4.trans hk5,by have:=hb1.size;have:=hk3.size;have:=hb4.size;have:=hk5.size;omega⟩
     case measure=>simp [intOf];omega
    ·gi_wp2
     refine bodyPost_ret (results_none rfl _ _ _) rfl ?_;exact ⟨⟨_,rfl⟩,.inr ⟨_,by rw [LE1];exact Xvs _ _,hJx5⟩⟩
   ·gi_wp2_with (refine ⟨fun _ _=>trivial, ?_⟩)
    refine bodyPost_ret (results_none rfl _ _ _) rfl ?_;exact ⟨⟨_,rfl⟩,.inr ⟨_,by rw [LE1,Ψ];exact Xvs _ _,hJx3⟩⟩
  ·obtain rfl:k=len:=by omega
   gi_wp2
   go_end0
   exact ⟨⟨_,rfl⟩,.inl ⟨_,rfl,hJs⟩⟩
attribute [local go_sem] Oper.semAt_some
theorem K1 (a1 a2 a3:Option Addr) (l1 l2 l3 c1 c2 c3:Nat) (n:Nat) (w:World):
  CallsIn Fence.wide n prog 47 #[.slice a1 l1 c1,.slice a2 l2 c2,.slice a3 l3 c3] w fun e w'=>e= .returned (.func (.func 73) #[] #[.pointer (some ⟨w.heap.size+2,0,none⟩),.pointer (some ⟨w.heap.size,0,none⟩),.pointer (some ⟨w.heap.size+1,0,none⟩)])∧w'=((w.alloc (.cells #[.slice a1 l1 c1] 25)).alloc (.cells #[.slice a2 l2 c2] 27)).alloc (.cells #[.slice a3 l3 c3] 29):=by
 refine callsIn_of_wp Tryz.func47 rfl trivial ?_ rfl;simp only [Tryz.ntmps47,Xx9,μ,χ,Xvg,Xvh,Array.replicate_succ,Array.replicate_zero,Xz6,Xzq,Xqd,Xqx]
 gi_wp2
 go_ret
 refine ⟨?_,rfl⟩;simp
theorem Oz {w:World} {tmps:Array Value} {k:Nat} {b:Bool} (f:tmps.getD 6 undef= .pointer (some ⟨k,0,none⟩)) (e:w.cell? ⟨k,0,none⟩=some (.bool b)):(results f17 tmps).run prog w= .ok (.bool b) w:=by
 refine pY (vs:= [.bool b]) rfl ?_;intro i r v c a
 match i with
 | 0=>
  simp only [List.getElem?_cons_zero,Option.some.injEq] at a;subst a;have:r= .cell 6 4:=by
   have h0:f17.results.toList[0]? =some (.cell 6 4):=rfl;rw [h0] at c;exact (Option.some.inj c).symm
  subst this;have d:prog.underlying 4=some .bool:=by kernel_rfl
  simp only [Ca,f];simp [asAddr,loadVar,d,e,go_sem]
 |n+1=>simp at a
theorem KW (E:AV) (x:Int) (hx:x ≠ 0) (hck:CO 21 [E] (.ret (.int .i64 x))) (n:Nat) (hn:3≤n) (ue us un:Value) (w:World) (hg:js ap (cf w)) (hpr:bZ (cf w) [E] [ue]):
  CallsIn Fence.wide n prog 17 #[ue,us,un] w fun e w'=>e= .returned (.bool false)∧Below w.heap.size w w':=by
 have h21:Fence.wide.fn 21:=trivial;have h1n:1≤n:=by omega
 have ha:Below w.heap.size w (w.alloc (.cells #[.bool false] 4)):=(Below.refl _ w).alloc (φ _) _;have hx':decide (x=0)=false:=Yq1 hx;refine callsIn_of_wp_marks Tryz.func17 rfl trivial ?_ rfl;simp only [Tryz.ntmps17,Xx9,μ,χ,Xvg,Xvh,Array.replicate_succ,Array.replicate_zero,Xz6,Xzq,Xqd,Xqx]
 gi_wp2_with (gi_at_call 21;refine (qx hck (pq ha hg) (bk (jZ ha) _ hpr)).mono ?_;rintro e W1 ⟨rfl,hb1⟩;have hc1:=(hb1.cell (p:=⟨w.heap.size,0,none⟩) (by simp)).trans (show (w.alloc (.cells #[.bool false] 4)).cell? ⟨w.heap.size,0,none⟩=some (.bool false) by simp);have hf1:=(hb1.frozen (p:=⟨w.heap.size,0,none⟩) (by simp)).trans (show (w.alloc (.cells #[.bool false] 4)).frozen? ⟨w.heap.size,0,none⟩=false by simp))
 exact ⟨_,Oz rfl (World.cell?_setCell_same' _ _ _ (by rw [hc1];rfl)),rfl,(ha.trans (hb1.mono (by simp))).setCell (p:=⟨w.heap.size,0,none⟩) (φ _) _⟩
attribute [local go_sem] Oper.semAt_some
set_option maxRecDepth 100000 in
set_option maxHeartbeats 1000000 in
theorem FB (n:Nat) (l kn ke ks cap:Nat) (an:Option Addr) (so sp:Nat→Int) (J Jx:List Int→World→Prop) (W:World) (cn:W.cell? ⟨kn,0,none⟩=some (.slice an 0 cap)) (h0:J [] W):
  CallsIn Fence.wide n prog 73 #[.func (.yield l) #[] #[],.pointer (some ⟨kn,0,none⟩),.pointer (some ⟨ke,0,none⟩),.pointer (some ⟨ks,0,none⟩)] W fun e W'=>(∃ v,e= .returned v)∧
   ((∃ ys,ys=iM so sp 0∧J ys W')∨(∃ pre,pre<+:iM so sp 0∧Jx pre W')):=by
 refine callsIn_of_wp Tryz.func73 rfl trivial ?_ rfl;simp only [Tryz.ntmps73,Xx9,μ,χ,Xvg,Xvh,Array.replicate_succ,Array.replicate_zero,Xz6,Xzq,Xqd,Xqx]
 gi_wp2
 gi_loopw [9] (fun i wr=>i= .int .i64 0∧J [] wr) (fun _ _=>0)
 case atStart=>exact ⟨rfl,h0⟩
 case round=>
  obtain ⟨rfl,hJs⟩:=hrel
  gi_wp2
  go_end0
  exact ⟨⟨_,rfl⟩,.inl ⟨_,rfl,hJs⟩⟩
theorem DF (n:Nat) (B:2≤n) (f g ks b d c:Nat) (m:Option Addr) (E SC:AV) (u r:Value) (a:List (List UInt8)) (o q:List UInt8→Int) (hreach:a.length*16≤140737488351232)
  (hso:∀ s ∈ a,CO 14 [E,SC,.int .i64 6,.str s] (.ret (.int .i64 (o s)))) (hsp:∀ s ∈ a,CO 14 [E,SC,.int .i64 8,.str s] (.ret (.int .i64 (q s))))
  (w:World) (hg:js ap (cf w)) (hpr:bZ (cf w) [E,SC] [u,r]) (hkn:f<w.heap.size) (hke:g<w.heap.size) (hks:ks<w.heap.size)
  (cn:w.cell? ⟨f,0,none⟩=some (.slice m a.length c)) (ce:w.cell? ⟨g,0,none⟩=some u) (cs:w.cell? ⟨ks,0,none⟩=some r)
  (hc:0<a.length→m=some ⟨b,d,none⟩∧b<w.heap.size∧∀ j,j<a.length→w.cell? ⟨b,d+j,none⟩=some (.string ⟨((a[j]?).getD []).toArray⟩)):
  SeqStopsK Fence.wide n prog 73 #[.pointer (some ⟨f,0,none⟩),.pointer (some ⟨g,0,none⟩),.pointer (some ⟨ks,0,none⟩)] (fun x:Int=> #[Value.int .i64 x]) (Below w.heap.size)
   (fun D=>D=iM (fun k=>o ((a[k]?).getD [])) (fun k=>q ((a[k]?).getD [])) a.length) (fun pre=>pre<+:iM (fun k=>o ((a[k]?).getD [])) (fun k=>q ((a[k]?).getD [])) a.length) (2*a.length) w:=by
 intro l J Jx W t C _ z h0;have v:∀ k,k<a.length→(a[k]?).getD [] ∈ a:=fun k e=>by rw [ξ e];exact Xxe e
 by_cases h:0<a.length
 ·obtain ⟨rfl,A,i⟩:=hc h;exact Hu n B l f g ks w.heap.size b d a.length c E SC u r (fun k=>(a[k]?).getD []) _ _ hreach (fun k e=>hso _ (v k e)) (fun k e=>hsp _ (v k e)) J Jx W C z t.size A hkn hke hks w rfl t hg hpr cn ce cs i h0
 ·have y:a.length=0:=by omega
  rw [y] at cn ⊢;exact FB n l f g ks c m _ _ J Jx W ((t.cell (p:=⟨f,0,none⟩) hkn).trans cn) h0
set_option maxRecDepth 100000 in
set_option maxHeartbeats 2000000 in
theorem Ho (E SC:AV) (hck:CO 21 [E] (.ret (.int .i64 0))) (ns:List (List UInt8)) (so sp:List UInt8→Int) (hreach:ns.length*16≤140737488351232)
  (hso:∀ s ∈ ns,CO 14 [E,SC,.int .i64 6,.str s] (.ret (.int .i64 (so s)))) (hsp:∀ s ∈ ns,CO 14 [E,SC,.int .i64 8,.str s] (.ret (.int .i64 (sp s)))) (n:Nat) (hn:4≤n)
  (a1 a2 an:Option Addr) (l1 l2 c1 c2 cap b off:Nat) (w:World) (hg:js ap (cf w)) (hpr:bZ (cf w) [E,SC] [.slice a1 l1 c1,.slice a2 l2 c2])
  (hc:0<ns.length→an=some ⟨b,off,none⟩∧∀ j,j<ns.length→w.cell? ⟨b,off+j,none⟩=some (.string ⟨((ns[j]?).getD []).toArray⟩)):
  CallsIn Fence.wide n prog 17 #[.slice a1 l1 c1,.slice a2 l2 c2,.slice an ns.length cap] w fun e w'=>e= .returned (.bool ((iM (fun k=>so ((ns[k]?).getD [])) (fun k=>sp ((ns[k]?).getD [])) ns.length).all fun x=>decide (x≤1)))∧Below w.heap.size w w':=by
 have h21:Fence.wide.fn 21:=trivial;have h47:Fence.wide.fn 47:=trivial;have h1n:1≤n:=by omega
 have ha:Below w.heap.size w (w.alloc (.cells #[.bool false] 4)):=(Below.refl _ w).alloc (φ _) _;have hpe:bZ (cf w) [E] [.slice a1 l1 c1]:=by simp only [bZ] at hpr ⊢;exact ⟨hpr.1,trivial⟩
 refine callsIn_of_wp_marks Tryz.func17 rfl trivial ?_ rfl;simp only [Tryz.ntmps17,Xx9,μ,χ,Xvg,Xvh,Array.replicate_succ,Array.replicate_zero,Xz6,Xzq,Xqd,Xqx]
 gi_wp2_with (first
  |(gi_at_call 21;refine (qx hck (pq ha hg) (bk (jZ ha) _ hpe)).mono ?_;rintro e W1 ⟨rfl,hb1⟩)
  |(gi_at_call 47;refine (K1 a1 a2 an l1 l2 ns.length c1 c2 cap _ _).mono ?_;rintro e W2 ⟨rfl,rfl⟩)
  |gi_in)
 obtain ⟨W3,hW3⟩:∃ W3,((W1.alloc (.cells #[.slice a1 l1 c1] 25)).alloc (.cells #[.slice a2 l2 c2] 27)).alloc (.cells #[.slice an ns.length cap] 29)=W3:=⟨_,rfl⟩
 rw [hW3];have hs3:W3.heap.size=W1.heap.size+3:=by rw [← hW3];simp
 have hb3:Below W1.heap.size W1 W3:=by rw [← hW3];exact (((Below.refl _ W1).alloc (φ _) _).alloc (by simp) _).alloc (by simp;omega) _
 have hs1:w.heap.size+1≤W1.heap.size:=by have:=hb1.size;simpa using this
 have hwW1:Below w.heap.size w W1:=ha.trans (hb1.mono (by simp));have hw3:Below w.heap.size w W3:=hwW1.trans (hb3.mono (by omega));have k1:W3.cell? ⟨W1.heap.size,0,none⟩=some (.slice a1 l1 c1):=by rw [← hW3];exact (((Boxed.new W1 25 (.slice a1 l1 c1)).alloc _).alloc _).cell
 have k2:W3.cell? ⟨W1.heap.size+1,0,none⟩=some (.slice a2 l2 c2):=by
  have:=((Boxed.new (W1.alloc (.cells #[.slice a1 l1 c1] 25)) 27 (.slice a2 l2 c2)).alloc (.cells #[.slice an ns.length cap] 29)).cell;rw [World.size_alloc] at this;rw [← hW3];exact this
 have k3:W3.cell? ⟨W1.heap.size+2,0,none⟩=some (.slice an ns.length cap):=by
  have:=(Boxed.new ((W1.alloc (.cells #[.slice a1 l1 c1] 25)).alloc (.cells #[.slice a2 l2 c2] 27)) 29 (.slice an ns.length cap)).cell;rw [World.size_alloc,World.size_alloc] at this;rw [← hW3];exact this
 have kc:W3.cell? ⟨w.heap.size,0,none⟩=some (.bool false):=((hb3.cell (p:=⟨w.heap.size,0,none⟩) hs1).trans (hb1.cell (p:=⟨w.heap.size,0,none⟩) (by simp))).trans (Boxed.new w 4 (.bool false)).cell;have kf:W3.frozen? ⟨w.heap.size,0,none⟩=false:=((hb3.frozen (p:=⟨w.heap.size,0,none⟩) hs1).trans (hb1.frozen (p:=⟨w.heap.size,0,none⟩) (by simp))).trans (Boxed.new w 4 (.bool false)).frozen;have hc3:0<ns.length→an=some ⟨b,off,none⟩∧b<W3.heap.size∧∀ j,j<ns.length→W3.cell? ⟨b,off+j,none⟩=some (.string ⟨((ns[j]?).getD []).toArray⟩):=by
  intro h;obtain ⟨h1,h2⟩:=hc h;have hbl:b<w.heap.size:=World.block_lt_of_cell? w ⟨b,off+0,none⟩ (h2 0 h);exact ⟨h1,by omega,fun j hj=>(hw3.cell (p:=⟨b,off+j,none⟩) hbl).trans (h2 j hj)⟩
 have oB:∀ {A B:World} {row:Option Nat},Below w.heap.size w A→A.grownBy B row→(∀ r,row=some r→W3.heap.size≤r∧∃ o:Obj,A.heap[r]? =some o∧o.isCells=false)→Below w.heap.size w B:=
  fun h hg hr=>ownFrom_below (β:=Unit) (n₀:=w.heap.size) (B:=W3.heap.size) (w₀:=w) (φ _) hw3.size () _ _ _ h hg hr
 have oC:∀ {A:World} {D:Nat} {o:Obj} {v:Value},W3.heap.size≤D→A.cell? ⟨w.heap.size,0,none⟩=some v→(A.putObj D o).cell? ⟨w.heap.size,0,none⟩=some v:=
  fun {A D o v} hD hv=>(World.cell?_of_block (World.putObj_heap_other (show w.heap.size ≠ D by omega))).trans hv
 have pB:∀ {A:World} {D:Nat} {o:Obj},W3.heap.size≤D→Below w.heap.size w A→Below w.heap.size w (A.putObj D o):=
  fun {A D o} hD h=>h.trans ((Below.refl _ A).grown (grownBy_putObj' A D o) h.size (fun k e=>by cases e;omega))
 refine wpIn_rangeFunc_ownF rfl h1n (gf:=73) (lb:=#[.pointer (some ⟨W1.heap.size+2,0,none⟩),.pointer (some ⟨W1.heap.size,0,none⟩),.pointer (some ⟨W1.heap.size+1,0,none⟩)]) rfl trivial (enters_of Tryz.func73 (by kernel_rfl) rfl)
  (DF (n - 1) (by omega) (W1.heap.size+2) W1.heap.size (W1.heap.size+1) b off cap an E SC _ _ ns so sp hreach hso hsp W3 (pq hw3 hg) (bk (jZ hw3) _ hpr) (by omega) (by omega) (by omega) k3 k1 k2 hc3)
  (fun h k=>h.trans k) (fun W l o o' hl h hc hw=>belowK_b (φ _) W l o o' hl h hc hw) (Below.refl _ _) (fun _=>rfl)
  (fun pre W=>(∀ x ∈ pre,x≤1)∧W.cell? ⟨w.heap.size,0,none⟩=some (.bool false)∧W.frozen? ⟨w.heap.size,0,none⟩=false∧Below w.heap.size w W)
  (fun c pre W=>c= .ret∧(∃ x ∈ pre,¬ x≤1)∧W.cell? ⟨w.heap.size,0,none⟩=some (.bool false)∧Below w.heap.size w W)
  (fun s A B row hs hg hr=> ⟨hs.1,cell_kept hs.2.1 hg (fun r e=>(hr r e).2),(frozen_kept hs.2.1 hg (fun r e=>(hr r e).2)).trans hs.2.2.1,oB hs.2.2.2 hg hr⟩)
  (fun c s A B row hs hg hr=> ⟨hs.1,hs.2.1,cell_kept hs.2.2.1 hg (fun r e=>(hr r e).2),oB hs.2.2.2 hg hr⟩)
  ⟨by simp,kc,kf,hw3⟩
  (fun x=> {tmps:=#[.slice a1 l1 c1,.slice a2 l2 c2,.slice an ns.length cap,undef,undef,undef,.pointer (some ⟨w.heap.size,0,none⟩),.int .i64 x,.slice a1 l1 c1,.int .i64 0,.bool false,.slice a1 l1 c1,.slice a2 l2 c2,.slice an ns.length cap,.func (.func 73) #[] #[.pointer (some ⟨W1.heap.size+2,0,none⟩),.pointer (some ⟨W1.heap.size,0,none⟩),.pointer (some ⟨W1.heap.size+1,0,none⟩)],.int .i64 x,undef,undef],defers:= []}) ?assign ?body ?done ?stop
 case assign=>
  intro l x W K hK
  gi_wp2
  exact hK
 case body=>
  rintro l pre x W ⟨hp,hcW,hfW,hbW⟩ _
  by_cases hx:x≤1
  ·have hx1:¬ (1<x):=by omega
   gi_wp2
   exact ⟨KeepsOthers.refl _,Below.refl _ _,(fun y hy=>by rcases List.mem_append.1 hy with h|h;exact hp y h;rw [List.mem_singleton.1 h];exact hx),hcW,hfW,hbW⟩
  ·have hx1:1<x:=by omega
   gi_wp2
   exact ⟨KeepsOthers.setCell _ _ _,rfl,⟨x,by simp,hx⟩,World.cell?_setCell_same' _ _ _ (by rw [hcW];rfl),hbW.setCell (p:=⟨w.heap.size,0,none⟩) (φ _) _⟩
 case done=>
  rintro D xs W hD rfl ⟨hp,hcW,hfW,hbW⟩ hK
  gi_wp2
  have hK':(W.setCell ⟨w.heap.size,0,none⟩ (.bool true)).heap[D]? =some (.deferred (some [])):=(Below.heap_setCell W ⟨w.heap.size,0,none⟩ (.bool true) D (by show D ≠ w.heap.size;omega)).trans hK;refine ⟨by simp,.inl ⟨_,_,rfl,run_takeDeferred hK', ?_⟩⟩;refine ⟨_,Oz rfl (oC hD (World.cell?_setCell_same' _ _ _ (by rw [hcW];rfl))), ?_,pB hD (hbW.setCell (p:=⟨w.heap.size,0,none⟩) (φ _) _)⟩;congr 2;exact (List.all_eq_true.2 fun x hx=>Yq0 (hp x hx)).symm
 case stop=>
  rintro D c pre W hD hSp ⟨rfl,⟨x,hx,hx1⟩,hcW,hbW⟩ hK
  gi_wp2
  refine ⟨by simp,.inl ⟨_,_,rfl,run_takeDeferred hK, ?_⟩⟩;refine ⟨_,Oz rfl (oC hD hcW), ?_,pB hD hbW⟩;congr 2;obtain ⟨r,hr⟩:=hSp;symm;rw [Bool.eq_false_iff];intro h;rw [← hr] at h;have h2:=of_decide_eq_true (List.all_eq_true.1 h x (List.mem_append.2 (.inl hx)));omega
def Re (x:AV):Prop:=x= .nilS∨∃ l n b,x= .sl l n b
theorem Re.val {S:aO} {x:AV} {v:Value} (h:Re x) (d:PR S x v):∃ a l c,v= .slice a l c:=by
 rcases h with rfl|⟨l,n,b,rfl⟩
 ·simp only [PR] at d;exact ⟨_,_,_,d⟩
 ·simp only [PR] at d;obtain ⟨a,e,rfl,_⟩:=d;exact ⟨_,_,_,rfl⟩
def O8 (ns:List (List UInt8)) (b:Bool):AV:= .sl (ns.map .str) ns.length b
theorem O9 {S:aO} {e:List (List UInt8)} {b:Bool} {v:Value} (f:PR S (O8 e b) v):∃ an c k d,v= .slice an e.length c∧(0<e.length→an=some ⟨k,d,none⟩∧∀ j,j<e.length→S k (d+j)=some (.string ⟨((e[j]?).getD []).toArray⟩)):=by
 simp only [O8,PR] at f;obtain ⟨a,c,rfl,_,h⟩:=f;rcases h with ⟨rfl,_,h,_⟩|⟨k,d,vs,rfl,g,l⟩
 ·exact ⟨none,c,0,0,rfl,fun n=>by have:=congrArg η h;simp at this;subst this;simp at n⟩
 ·refine ⟨_,c,k,d,rfl,fun _=> ⟨rfl,fun j i=> ?_⟩⟩;obtain ⟨u,m,hp⟩:=HV g j (x:= .str ((e[j]?).getD [])) (by rw [List.getElem?_map,ξ i];rfl);simp only [PR] at hp;rw [← hp];exact (l j u m).1
theorem Z2:uJ prog 17:=enters_of Tryz.func17 (by kernel_rfl) rfl
theorem zK {args:List AV} {b:Bool} (h:∀ w cargs,js ap (cf w)→bZ (cf w) args cargs→CallsIn Fence.wide 9 prog 17 cargs.toArray w fun e w'=>e= .returned (.bool b)∧Below w.heap.size w w'):CO 17 args (.ret (.bool b)):=by
 refine ⟨φ _,Z2, ?_⟩;intro m S w cargs d p;have a:jF S (cf w):=fun k o v c=>d.sealed k o v c
 have n:js ap (cf w):=by
  intro k l c;obtain ⟨vs,i,f⟩:=d.glob k l c;exact ⟨vs,bk a _ i,fun j u g=> ⟨a _ _ _ (f j u g).1,(f j u g).2⟩⟩
 refine (callsIn_wide.1 (h w cargs n (bk a _ (gZ (m:=m) _ p)))).mono ?_
 rintro e w' ⟨rfl,hb⟩
 refine ⟨m,S, ?_, ?_,⟨_,rfl, ?_⟩⟩
 ·exact ⟨fun b q B B' h=>by simp [aZ,iI,gW] at h,fun b B h=>by simp [aZ,iI,gW] at h,fun k o v h=>jZ hb k o v (a k o v h),fun b B h=>by simp [aZ,iI,gW] at h,d.glob⟩
 ·exact ⟨Ge.refl _ _,jF.refl S,hb.os,hb.tape,hb.output,hb.size,fun k c _=>hb.block k c,fun _ B h=>by simp [aZ,iI,gW] at h,fun _ _ _ h=> .inl h⟩
 ·simp only [sU,VR,PR]
theorem OA (E SC NM:AV) (x:Int) (d:x ≠ 0) (b:CO 21 [E] (.ret (ω x))):CO 17 [E,SC,NM] (.ret (.bool false)):=by
 refine zK fun w cargs c a=> ?_
 match cargs,a with
 | [ue,us,un],a=>
  simp only [bZ] at a;exact KW E x d b 9 (by omega) ue us un w c (by simp only [bZ];exact ⟨a.1,trivial⟩)
theorem OB (E SC:AV) (b:Bool) (D:Re E) (n:Re SC) (o:CO 21 [E] (.ret (ω 0))) (a:List (List UInt8)) (c d:List UInt8→Int) (hreach:a.length*16≤140737488351232)
  (hso:∀ s ∈ a,CO 14 [E,SC,ω 6,.str s] (.ret (ω (c s)))) (hsp:∀ s ∈ a,CO 14 [E,SC,ω 8,.str s] (.ret (ω (d s)))):
  CO 17 [E,SC,O8 a b] (.ret (.bool (a.all fun s=>decide (c s≤1) && decide (d s≤1)))):=by
 have e:(a.all fun s=>decide (c s≤1) && decide (d s≤1))=(iM (fun k=>c ((a[k]?).getD [])) (fun k=>d ((a[k]?).getD [])) a.length).all fun x=>decide (x≤1):=by
  have:a=(Xq1 a.length).map fun k=>(a[k]?).getD []:=by
   apply List.ext_getElem
   ·simp
   ·intro i f l;simp [ξ f]
  conv=>lhs;rw [this]
  simp [iM,List.all_flatMap,List.all_map,Function.comp_def]
 rw [e];refine zK fun w cargs y g=> ?_
 match cargs,g with
 | [ue,us,un],g=>
  simp only [bZ] at g;obtain ⟨f,l,C,_⟩:=g;obtain ⟨t,F,r,rfl⟩:=D.val f;obtain ⟨B,u,A,rfl⟩:=n.val l;obtain ⟨v,m,k,p,rfl,q⟩:=O9 C;exact Ho E SC o a c d hreach hso hsp 9 (by omega) t B v F u r A m k p w y (by simp only [bZ];exact ⟨f,l,trivial⟩) fun h=> ⟨(q h).1,fun j z=>qm ((q h).2 j z) rfl⟩
theorem SW (b a:List UInt8→Nat) (x:List UInt8):SV b a x=(decide (((b x:Nat):Int)≤1) && decide (((a x:Nat):Int)≤1)):=by
 unfold SV;congr 1
 ·by_cases h:((b x:Nat):Int)≤1
  ·rw [Yq0 h,Yq1 (by omega)];rfl
  ·rw [Yq1 h,Yq0 (by omega)];rfl
 ·by_cases h:((a x:Nat):Int)≤1
  ·rw [Yq0 h,Yq1 (by omega)];rfl
  ·rw [Yq1 h,Yq0 (by omega)];rfl
def Jg (cmp:Br→Br→Int) (e:List Nd) (qs:List Sq) (nl:List (List UInt8)):Bool:=
 (bT e==((0:Nat):Int)) && nl.all (SV (fun x=>i_ (CI cmp) (Ci cmp) e (qs.map Sq.c) 6 x) (fun x=>i_ (CI cmp) (Ci cmp) e (qs.map Sq.c) 8 x))
theorem jb (e:List Nd) (f:Bool) (qs:List Sq) (g:Bool) (cmp:Br→Br→Int) (a:List (List UInt8)) (i:Bool) (b:∀ y ∈ e,y.sm) (d:e.length<2^40) (c:qs.length<2^40) (j:Gc 129 cmp qs) (k:a.length<2^40):
  CO 17 [.sl (aP e) e.length f,.sl (dB (qs.map Sq.c)) qs.length g,.sl (Xwe Yjy a) a.length i] (.ret (.bool (Jg cmp e qs a))):=by
 have ck:=tE e f b;unfold Jg;by_cases hq:bT e=0
 ·rw [hq] at ck;have h:=OB (.sl (aP e) e.length f) (.sl (dB (qs.map Sq.c)) qs.length g) i (.inr ⟨_,_,_,rfl⟩) (.inr ⟨_,_,_,rfl⟩) ck a
   (fun x=>((i_ (CI cmp) (Ci cmp) e (qs.map Sq.c) 6 x:Nat):Int)) (fun x=>((i_ (CI cmp) (Ci cmp) e (qs.map Sq.c) 8 x:Nat):Int)) (by omega)
   (fun x _=>bG e f qs g cmp 6 x b d c j) (fun x _=>bG e f qs g cmp 8 x b d c j)
  rw [hq,show ((0:Int)==((0:Nat):Int))=true from rfl,Bool.true_and];rw [show a.all (SV (fun x=>i_ (CI cmp) (Ci cmp) e (qs.map Sq.c) 6 x) (fun x=>i_ (CI cmp) (Ci cmp) e (qs.map Sq.c) 8 x))=a.all fun s=>decide (((i_ (CI cmp) (Ci cmp) e (qs.map Sq.c) 6 s:Nat):Int)≤1) && decide (((i_ (CI cmp) (Ci cmp) e (qs.map Sq.c) 8 s:Nat):Int)≤1) from by congr 1;funext x;exact SW _ _ x];exact h
 ·rw [show (bT e==((0:Nat):Int))=false from beq_eq_false_iff_ne.2 hq,Bool.false_and];exact OA _ _ _ (bT e) hq ck
def rF:List Nd:= [⟨6,false,[],[],[97]⟩,⟨5,false,[],[],[97]⟩,⟨9,false,[],[],[]⟩]
def oz:List Sq:= [⟨[120],0,0,[⟨false,[],[1],false,[1],[10]⟩,⟨false,[5],[1],false,[1],[5]⟩]⟩]
def zR:List Nd:= [⟨6,false,[],[],[97]⟩,⟨6,false,[],[],[97]⟩,⟨10,false,[],[],[]⟩]
def zS:List Nd:= [⟨1,false,[5],[1],[]⟩,⟨3,true,[1],[2],[]⟩,⟨6,false,[],[],[97]⟩,⟨11,false,[],[],[]⟩,⟨10,false,[],[],[]⟩]
def jB:List Nd:= [⟨6,false,[],[],[97]⟩,⟨5,false,[],[],[98]⟩,⟨11,false,[],[],[]⟩]
def zU:List Nd:= [⟨1,false,[1],[1],[]⟩,⟨6,false,[],[],[97]⟩,⟨12,false,[],[],[]⟩]
def zV:List Nd:= [⟨6,false,[],[],[97]⟩,⟨3,true,[2],[1],[]⟩,⟨12,false,[],[],[]⟩]
def rG:List Nd:= [⟨6,false,[],[],[97]⟩,⟨1,false,[3],[1],[]⟩,⟨16,false,[],[],[]⟩,⟨6,false,[],[],[98]⟩,⟨1,false,[],[1],[]⟩,⟨15,false,[],[],[]⟩]
def jC:List Nd:= [⟨6,false,[],[],[97]⟩,⟨24,false,[],[],[120]⟩]
def US:List Sq:= [⟨[120],0,0,[⟨false,[],[1],false,[1],[10]⟩,⟨false,[5],[1],true,[1],[5]⟩]⟩]
theorem dY:Gc 129 kP oz:=FE ⟨⟨by decide,by decide⟩,⟨by decide,by decide⟩⟩ ⟨⟨by decide,by decide⟩,⟨by decide,by decide⟩⟩ (dD (Zx 5 (by omega)) (by kernel_rfl))
theorem HC:Gc 129 kP US:=FE ⟨⟨by decide,by decide⟩,⟨by decide,by decide⟩⟩ ⟨⟨by decide,by decide⟩,⟨by decide,by decide⟩⟩ (dD (Zx 5 (by omega)) (by kernel_rfl))
def dE (l:List Nat):eZ:=l.map fun t=>(t,.dead)
def rA (s:List UInt8) (k:Int):List aR:= [⟨[.str s,.nilS,ω k,.bool false],0,false,0,0,true⟩]
def rB (s:List UInt8) (n:Nat) (k:Int) (os:List AV):List aR:= [⟨[.str s,.ref 1 0 0 n,ω k,.bool false],0,false,0,0,false⟩,⟨os,0,false,0,5,true⟩]
def zo0:List AV:= [ω 6,.bool false,.str [],.str [],.str [97],ω 1,.bool false,.str [3],.str [1],.str [],ω 16,.bool false,.str [],.str [],.str [],ω 6,.bool false,.str [],.str [],.str [98],ω 1,.bool false,.str [],.str [1],.str []]
def JI:List AV:= [ω 6,.bool false,.str [],.str [],.str [97],ω 1,.bool false,.str [3],.str [1],.str [],ω 16,.bool false,.str [],.str [],.str [],ω 6,.bool false,.str [],.str [],.str [98]]
def zo2:List AV:= [ω 1,.bool false,.str [5],.str [1],.str [],ω 3,.bool true,.str [1],.str [2],.str [],ω 6,.bool false,.str [],.str [],.str [97],ω 11,.bool false,.str [],.str [],.str []]
def zo3:List AV:= [ω 1,.bool false,.str [5],.str [1],.str [],ω 3,.bool true,.str [1],.str [2],.str [],ω 6,.bool false,.str [],.str [],.str [97]]
def JJ:List AV:= [ω 6,.bool false,.str [],.str [],.str [97],ω 1,.bool false,.str [3],.str [1],.str [],ω 16,.bool false,.str [],.str [],.str []]
def zo5:List AV:= [ω 6,.bool false,.str [],.str [],.str [97],ω 5,.bool false,.str [],.str [],.str [97]]
def zo6:List AV:= [ω 6,.bool false,.str [],.str [],.str [97],ω 6,.bool false,.str [],.str [],.str [97]]
def zo7:List AV:= [ω 6,.bool false,.str [],.str [],.str [97],ω 5,.bool false,.str [],.str [],.str [98]]
def zo8:List AV:= [ω 1,.bool false,.str [1],.str [1],.str [],ω 6,.bool false,.str [],.str [],.str [97]]
def zo9:List AV:= [ω 6,.bool false,.str [],.str [],.str [97],ω 1,.bool false,.str [3],.str [1],.str []]
def uI:List AV:= [ω 1,.bool false,.str [5],.str [1],.str [],ω 3,.bool true,.str [1],.str [2],.str []]
def Yz:List AV:= [ω 6,.bool false,.str [],.str [],.str [97],ω 3,.bool true,.str [2],.str [1],.str []]
def bX:List AV:= [ω 6,.bool false,.str [],.str [],.str [97]]
def jx:List AV:= [ω 1,.bool false,.str [5],.str [1],.str []]
def qW:List AV:= [ω 1,.bool false,.str [1],.str [1],.str []]
def xz:List UInt8:= [97,98,99,100,101,102,103,104,105,106,107,108,109,110,111,112,113,114,115,116,117,118,119,120,121,122,48,49,50,51,52,53,54,55,56,57,95]
def TR:List UInt8:= [105,102,40,108,101,115,115,40,111,119,110,46,97,44,32,36,51,41,44,32,111,119,110,46,98,44,32,36,48,41]
def lI:List UInt8:= [97,98,99,100,101,102,103,104,105,106,107,108,109,110,111,112,113,114,115,116,117,118,119,120,121,122]
def zs3:List UInt8:= [40,108,101,115,115,40,111,119,110,46,97,44,32,36,51,41,44,32,111,119,110,46,98,44,32,36,48,41]
def Y1:List UInt8:= [108,101,115,115,40,111,119,110,46,97,44,32,36,51,41,44,32,111,119,110,46,98,44,32,36,48,41]
def U8:List UInt8:= [115,117,98,40,36,53,44,32,109,117,108,40,45,49,47,50,44,32,111,119,110,46,97,41,41]
def zs6:List UInt8:= [40,111,119,110,46,97,44,32,36,51,41,44,32,111,119,110,46,98,44,32,36,48,41]
def zs7:List UInt8:= [40,36,53,44,32,109,117,108,40,45,49,47,50,44,32,111,119,110,46,97,41,41]
def Y2:List UInt8:= [111,119,110,46,97,44,32,36,51,41,44,32,111,119,110,46,98,44,32,36,48,41]
def zs9:List UInt8:= [36,53,44,32,109,117,108,40,45,49,47,50,44,32,111,119,110,46,97,41,41]
def Pz:List UInt8:= [53,44,32,109,117,108,40,45,49,47,50,44,32,111,119,110,46,97,41,41]
def Lu:List UInt8:= [44,32,109,117,108,40,45,49,47,50,44,32,111,119,110,46,97,41,41]
def F6:List UInt8:= [109,117,108,40,111,119,110,46,97,44,32,102,97,99,116,46,98,41]
def DQ:List UInt8:= [97,100,100,40,111,119,110,46,97,44,32,102,97,99,116,46,97,41]
def ad2:List UInt8:= [46,97,44,32,36,51,41,44,32,111,119,110,46,98,44,32,36,48,41]
def F7:List UInt8:= [115,117,98,40,111,119,110,46,97,44,32,111,119,110,46,97,41]
def YA:List UInt8:= [97,44,32,36,51,41,44,32,111,119,110,46,98,44,32,36,48,41]
def Lv:List UInt8:= [109,117,108,40,45,49,47,50,44,32,111,119,110,46,97,41,41]
def YB:List UInt8:= [44,32,36,51,41,44,32,111,119,110,46,98,44,32,36,48,41]
def TS:List UInt8:= [40,111,119,110,46,97,44,32,102,97,99,116,46,97,41]
def TT:List UInt8:= [40,111,119,110,46,97,44,32,102,97,99,116,46,98,41]
def TU:List UInt8:= [36,51,41,44,32,111,119,110,46,98,44,32,36,48,41]
def TV:List UInt8:= [40,111,119,110,46,97,44,32,111,119,110,46,97,41]
def F8:List UInt8:= [100,105,118,40,36,49,44,32,111,119,110,46,97,41]
def F9:List UInt8:= [100,105,118,40,111,119,110,46,97,44,32,45,50,41]
def Lw:List UInt8:= [111,119,110,46,97,44,32,102,97,99,116,46,97,41]
def Lx:List UInt8:= [111,119,110,46,97,44,32,102,97,99,116,46,98,41]
def TW:List UInt8:= [40,45,49,47,50,44,32,111,119,110,46,97,41,41]
def PA:List UInt8:= [51,41,44,32,111,119,110,46,98,44,32,36,48,41]
def F_:List UInt8:= [114,97,116,101,46,120,40,111,119,110,46,97,41]
def Ly:List UInt8:= [111,119,110,46,97,44,32,111,119,110,46,97,41]
def HU:List UInt8:= [45,49,47,50,44,32,111,119,110,46,97,41,41]
def LA:List UInt8:= [41,44,32,111,119,110,46,98,44,32,36,48,41]
def YC:List UInt8:= [44,32,111,119,110,46,98,44,32,36,48,41]
def wP:List UInt8:= [45,48,49,50,51,52,53,54,55,56,57,47]
def TY:List UInt8:= [40,36,49,44,32,111,119,110,46,97,41]
def TZ:List UInt8:= [40,111,119,110,46,97,44,32,45,50,41]
def ad3:List UInt8:= [46,97,44,32,102,97,99,116,46,97,41]
def ad4:List UInt8:= [46,97,44,32,102,97,99,116,46,98,41]
def ad5:List UInt8:= [46,97,44,32,111,119,110,46,97,41]
def T9:List UInt8:= [36,49,44,32,111,119,110,46,97,41]
def LB:List UInt8:= [111,119,110,46,97,44,32,45,50,41]
def LC:List UInt8:= [111,119,110,46,98,44,32,36,48,41]
def YD:List UInt8:= [97,44,32,102,97,99,116,46,97,41]
def YE:List UInt8:= [97,44,32,102,97,99,116,46,98,41]
def ad6:List UInt8:= [46,120,40,111,119,110,46,97,41]
def YF:List UInt8:= [97,44,32,111,119,110,46,97,41]
def LD:List UInt8:= [44,32,111,119,110,46,97,41,41]
def PB:List UInt8:= [49,44,32,111,119,110,46,97,41]
def YG:List UInt8:= [44,32,102,97,99,116,46,97,41]
def YH:List UInt8:= [44,32,102,97,99,116,46,98,41]
def YI:List UInt8:= [120,40,111,119,110,46,97,41]
def DR:List UInt8:= [44,32,111,119,110,46,97,41]
def LF:List UInt8:= [111,119,110,46,97,41,41]
def ad7:List UInt8:= [40,111,119,110,46,97,41]
def LG:List UInt8:= [102,97,99,116,46,97,41]
def LH:List UInt8:= [102,97,99,116,46,98,41]
def ad8:List UInt8:= [46,97,44,32,45,50,41]
def ad9:List UInt8:= [46,98,44,32,36,48,41]
def oI:List UInt8:= [111,119,110,46,97,41]
def YJ:List UInt8:= [97,44,32,45,50,41]
def YK:List UInt8:= [98,44,32,36,48,41]
def ad_:List UInt8:= [108,101,115,115]
def YL:List UInt8:= [44,32,45,50,41]
def YM:List UInt8:= [44,32,36,48,41]
def aea:List UInt8:= [102,97,99,116]
def YN:List UInt8:= [45,49,47,50]
def aeb:List UInt8:= [46,97,41,41]
theorem k0:aj prog ap 90 [.ptr 0 0 0,.str [36]] (rA DQ 1) (.ret (.bool false)) (rA DQ 1):=cK (.nil)
theorem k1:aj prog ap 92 [.ptr 0 0 0,.str lI] (rA DQ 1) (.ret (.str [97,100,100])) (rA TS 1):=dD (dI DQ lI (1) false (by decide) (by decide)) (by kernel_rfl)
theorem k2:aj prog ap 90 [.ptr 0 0 0,.str [46]] (rA TS 1) (.ret (.bool false)) (rA TS 1):=cK (.nil)
theorem k3:CO 93 [ω 5] (.ret (.str [102,97,99,116,46])):=cK (.nil)
theorem k4:CO 93 [ω 6] (.ret (.str [111,119,110,46])):=cK (.nil)
theorem k5:CO 93 [ω 7] (.ret (.str [112,114,105,111,114,46])):=cK (.nil)
theorem k6:CO 93 [ω 8] (.ret (.str [115,112,111,117,115,101,46])):=cK (.nil)
theorem k7:CO 93 [ω 9] (.ret (.str [97,100,100])):=cK (.nil)
theorem k8:CO 93 [ω 10] (.ret (.str [115,117,98])):=cK (.nil)
theorem k9:CO 93 [ω 11] (.ret (.str [109,117,108])):=cK (.nil)
theorem xe:CO 93 [ω 12] (.ret (.str [100,105,118])):=cK (.nil)
theorem Ar:CO 93 [ω 13] (.ret (.str [109,105,110])):=cK (.nil)
theorem Au:CO 93 [ω 14] (.ret (.str [109,97,120])):=cK (.nil)
theorem yD:CO 93 [ω 15] (.ret (.str [105,102])):=cK (.nil)
theorem yE:CO 93 [ω 16] (.ret (.str ad_)):=cK (.nil)
theorem Av:CO 93 [ω 17] (.ret (.str [101,113,117,97,108])):=cK (.nil)
theorem Aw:CO 93 [ω 18] (.ret (.str [97,110,100])):=cK (.nil)
theorem Ay:CO 93 [ω 19] (.ret (.str [111,114])):=cK (.nil)
theorem Az:CO 93 [ω 20] (.ret (.str [110,111,116])):=cK (.nil)
theorem AA:CO 93 [ω 21] (.ret (.str [100,111,119,110])):=cK (.nil)
theorem AB:CO 93 [ω 22] (.ret (.str [117,112])):=cK (.nil)
theorem AC:CO 93 [ω 23] (.ret (.str [110,101,97,114])):=cK (.nil)
theorem yF:CO 93 [ω 24] (.ret (.str [114,97,116,101,46])):=cK (.nil)
theorem k23:CO 32 [ω 9] (.ret (.bool false)):=cK (.nil)
theorem mX:CO 34 [ω 9] (.ret (.bool false)):=cK (.nil)
theorem YS:CO 30 [ω 9] (.ret (ω 2)):=cK (.nil)
theorem k26:aj prog ap 90 [.ptr 0 0 0,.str [40]] (rA TS 1) (.ret (.bool true)) (rA Lw 1):=cK (.nil)
theorem k27:aj prog ap 90 [.ptr 0 0 0,.str [36]] (rA Lw 2) (.ret (.bool false)) (rA Lw 2):=cK (.nil)
theorem k28:aj prog ap 92 [.ptr 0 0 0,.str lI] (rA Lw 2) (.ret (.str [111,119,110])) (rA ad3 2):=dD (dI Lw lI (2) false (by decide) (by decide)) (by kernel_rfl)
theorem k29:aj prog ap 90 [.ptr 0 0 0,.str [46]] (rA ad3 2) (.ret (.bool true)) (rA YD 2):=cK (.nil)
theorem BK:CO 32 [ω 6] (.ret (.bool true)):=cK (.nil)
theorem k31:aj prog ap 92 [.ptr 0 0 0,.str xz] (rA YD 2) (.ret (.str [97])) (rA YG 2):=dD (dI YD xz (2) false (by decide) (by decide)) (by kernel_rfl)
theorem AE:CO 34 [ω 6] (.ret (.bool false)):=cK (.nil)
theorem mY:CO 30 [ω 6] (.ret (ω 0)):=cK (.nil)
theorem k34:aj prog ap 56 [.ptr 0 0 0] (rA Lw 1) (.ret (.tup [])) (rB YG 1 2 bX):=cK (.c mY (.c mY (.c AE (.c k31 (.c BK (.c yF (.c AC (.c AB (.c AA (.c Az (.c Ay (.c Aw (.c Av (.c yE (.c yD (.c Au (.c Ar (.c xe (.c k9 (.c k8 (.c k7 (.c k6 (.c k5 (.c k4 (.c k3 (.c k29 (.c k28 (.c k27 .nil))))))))))))))))))))))))))))
theorem k35:aj prog ap 90 [.ptr 0 0 0,.str [44,32]] (rB YG 1 2 bX) (.ret (.bool true)) (rB LG 1 2 bX):=cK (.nil)
theorem k36:aj prog ap 90 [.ptr 0 0 0,.str [36]] (rB LG 1 3 bX) (.ret (.bool false)) (rB LG 1 3 bX):=cK (.nil)
theorem k37:aj prog ap 92 [.ptr 0 0 0,.str lI] (rB LG 1 3 bX) (.ret (.str aea)) (rB [46,97,41] 1 3 bX):=dD (gu LG lI (3) false 1 bX (by decide) (by decide)) (by kernel_rfl)
theorem k38:aj prog ap 90 [.ptr 0 0 0,.str [46]] (rB [46,97,41] 1 3 bX) (.ret (.bool true)) (rB [97,41] 1 3 bX):=cK (.nil)
theorem k39:CO 32 [ω 5] (.ret (.bool true)):=cK (.nil)
theorem k40:aj prog ap 92 [.ptr 0 0 0,.str xz] (rB [97,41] 1 3 bX) (.ret (.str [97])) (rB [41] 1 3 bX):=dD (gu [97,41] xz (3) false 1 bX (by decide) (by decide)) (by kernel_rfl)
theorem YT:CO 34 [ω 5] (.ret (.bool false)):=cK (.nil)
theorem UB:CO 30 [ω 5] (.ret (ω 0)):=cK (.nil)
theorem k43:aj prog ap 56 [.ptr 0 0 0] (rB LG 1 2 bX) (.ret (.tup [])) [⟨[.str [41],.ref 1 1 0 2,ω 3,.bool false],0,false,0,0,false⟩,⟨zo5,1,false,0,5,true⟩]:=cK (.c UB (.c UB (.c YT (.c k40 (.c k39 (.c yF (.c AC (.c AB (.c AA (.c Az (.c Ay (.c Aw (.c Av (.c yE (.c yD (.c Au (.c Ar (.c xe (.c k9 (.c k8 (.c k7 (.c k6 (.c k5 (.c k4 (.c k3 (.c k38 (.c k37 (.c k36 .nil))))))))))))))))))))))))))))
theorem k44:aj prog ap 90 [.ptr 0 0 0,.str [41]] (rB [41] 2 3 zo5) (.ret (.bool true)) (rB [] 2 3 zo5):=cK (.nil)
theorem k45:aj prog ap 56 [.ptr 0 0 0] (rA DQ 0) (.ret (.tup [])) [⟨[.str [],.ref 1 0 0 3,ω 3,.bool false],0,false,0,0,false⟩,⟨(aP rF),0,false,0,5,true⟩]:=cK (.c k44 (.c YS (.c YS (.c k43 (.c k35 (.c YS (.c k34 (.c k26 (.c YS (.c mX (.c k23 (.c yF (.c AC (.c AB (.c AA (.c Az (.c Ay (.c Aw (.c Av (.c yE (.c yD (.c Au (.c Ar (.c xe (.c k9 (.c k8 (.c k7 (.c k6 (.c k5 (.c k4 (.c k3 (.c k2 (.c k1 (.c k0 .nil))))))))))))))))))))))))))))))))))
theorem LL:CO 94 [ω 6] (.ret (.bool false)):=cK (.nil)
theorem Rq:CO 74 [.agg bX] (.ret (.bool true)):=cK (.c AE (.c LL .nil))
theorem PJ:CO 75 [.str [97]] (.ret (.bool true)):=cK (.nil)
theorem k49:CO 94 [ω 5] (.ret (.bool false)):=cK (.nil)
theorem k50:CO 74 [.agg [ω 5,.bool false,.str [],.str [],.str [97]]] (.ret (.bool true)):=cK (.c YT (.c k49 .nil))
theorem k51:CO 94 [ω 9] (.ret (.bool false)):=cK (.nil)
theorem k52:CO 74 [.agg [ω 9,.bool false,.str [],.str [],.str []]] (.ret (.bool true)):=cK (.c mX (.c k51 .nil))
theorem G1:CO 75 [.str []] (.ret (.bool false)):=cK (.nil)
theorem k54:CO 48 [.sl (aP rF) 3 true] (.ret (ω 0)):=cK (.c YS (.c G1 (.c k52 (.c k23 (.c UB (.c PJ (.c k50 (.c k39 (.c mY (.c PJ (.c Rq (.c BK .nil))))))))))))
theorem k55:CO 57 [.sl (aP rF) 3 true] (.ret (.tup [.str DQ,ω 0])):=cK (.c mX (.c k51 (.c k7 (.c YS (.c YT (.c k49 (.c k3 (.c UB (.c AE (.c LL (.c k4 (.c mY (.c k54 .nil)))))))))))))
theorem k56:CO 27 [.str DQ] (.ret (.tup [.sl (aP rF) 3 true,ω 0])):=cK (.c k55 (.c k45 .nil))
theorem k57:CO 36 [ω 1] (.ret (Ω false [1] [1])):=dD (cQ 1 (by decide)) (by kernel_rfl)
theorem k58:CO 36 [ω 10] (.ret (Ω false [10] [1])):=dD (cQ 10 (by decide)) (by kernel_rfl)
theorem k59:CO 70 [Ω false [1] [1]] (.ret (Ω false [1] [1])):=dD (eY false [1] [1] (by decide) (by decide)) (by kernel_rfl)
theorem k60:CO 70 [Ω false [10] [1]] (.ret (Ω false [10] [1])):=dD (eY false [10] [1] (by decide) (by decide)) (by kernel_rfl)
theorem UC:CO 76 [.str [1]] (.ret (.str [1])):=cK (.nil)
theorem k62:CO 107 [.str [1]] (.ret (.tup [ω 1,.bool true])):=cK (.c UC .nil)
theorem k63:CO 77 [.str [1],ω 3] (.ret (.tup [ω 1,.bool true])):=cK (.c k62 (.c UC .nil))
theorem k64:CO 77 [.str [1],ω 4] (.ret (.tup [ω 1,.bool true])):=cK (.c k62 (.c UC .nil))
theorem Nk:CO 49 [ω 1] (.ret (.str [1])):=dD (cH 1 (by decide)) (by kernel_rfl)
theorem k66:CO 50 [.str [1],.str [1]] (.ret (.str [1])):=cK (.c Nk (.c k64 (.c k63 .nil)))
theorem k67:CO 76 [.str [10]] (.ret (.str [10])):=cK (.nil)
theorem k68:CO 107 [.str [10]] (.ret (.tup [ω 10,.bool true])):=cK (.c k67 .nil)
theorem k69:CO 77 [.str [10],ω 4] (.ret (.tup [ω 10,.bool true])):=cK (.c k68 (.c k67 .nil))
theorem PK:CO 49 [ω 10] (.ret (.str [10])):=dD (cH 10 (by decide)) (by kernel_rfl)
theorem k71:CO 50 [.str [1],.str [10]] (.ret (.str [10])):=cK (.c PK (.c k69 (.c k63 .nil)))
theorem k72:CO 51 [.bool false,.str [1],.str [10]] (.ret (Ω false [1] [10])):=dD (dC false 1 10 (bO (by decide)) (bO (by decide)) (by decide)) (by kernel_rfl)
theorem k73:CO 58 [Ω false [1] [1],Ω false [10] [1]] (.ret (.tup [Ω false [1] [10],.bool true])):=cK (.c k72 (.c k71 (.c k66 (.c k60 (.c k59 .nil)))))
theorem k74:CO 36 [ω 5] (.ret (Ω false [5] [1])):=dD (cQ 5 (by decide)) (by kernel_rfl)
theorem k75:CO 70 [Ω false [5] [1]] (.ret (Ω false [5] [1])):=dD (eY false [5] [1] (by decide) (by decide)) (by kernel_rfl)
theorem k76:CO 76 [.str [5]] (.ret (.str [5])):=cK (.nil)
theorem k77:CO 107 [.str [5]] (.ret (.tup [ω 5,.bool true])):=cK (.c k76 .nil)
theorem k78:CO 77 [.str [5],ω 4] (.ret (.tup [ω 5,.bool true])):=cK (.c k77 (.c k76 .nil))
theorem k79:CO 49 [ω 5] (.ret (.str [5])):=dD (cH 5 (by decide)) (by kernel_rfl)
theorem k80:CO 50 [.str [1],.str [5]] (.ret (.str [5])):=cK (.c k79 (.c k78 (.c k63 .nil)))
theorem k81:CO 51 [.bool false,.str [1],.str [5]] (.ret (Ω false [1] [5])):=dD (dC false 1 5 (bO (by decide)) (bO (by decide)) (by decide)) (by kernel_rfl)
theorem k82:CO 58 [Ω false [1] [1],Ω false [5] [1]] (.ret (.tup [Ω false [1] [5],.bool true])):=cK (.c k81 (.c k80 (.c k66 (.c k75 (.c k59 .nil)))))
theorem k83:CO 36 [ω 0] (.ret (Ω false [] [1])):=dD (cQ 0 (by decide)) (by kernel_rfl)
theorem Nl:CO 28 [ω 1] (.ret (.sl [.str [120],ω 0,ω 0,.sl zcc4_1 2 true] 1 true)):=cK (.c k74 (.c k83 (.c k82 (.c k74 (.c k57 (.c k73 (.c k58 (.c k57 .nil))))))))
theorem k85:CO 14 [.sl (aP rF) 3 true,.sl [.str [120],ω 0,ω 0,.sl zcc4_1 2 true] 1 true,ω 6,.str [97]] (.ret (ω 1)):=aj.args (args:= [.sl (aP rF) 3 true,.sl [.str [120],ω 0,ω 0,.sl zcc4_1 2 false] 1 true,ω 6,.str [97]]) (.cons (aN.refl _) (.cons (aN.slP (.same (.same (.same (.sl .nil))))) (.cons (aN.refl _) (.cons (aN.refl _) .nil)))) (dD (bG rF true oz true kP 6 [97] (f_ (by kernel_rfl)) (by decide) (by decide) (dY)) (by kernel_rfl))
theorem k86:CO 26 [.str DQ,.str [97],ω 1] (.ret (.bool true)):=cK (.c k85 (.c Nl (.c k56 .nil)))
theorem k87:CO 14 [.sl (aP rF) 3 true,.sl [.str [120],ω 0,ω 0,.sl zcc4_1 2 true] 1 true,ω 6,.str [98]] (.ret (ω 0)):=aj.args (args:= [.sl (aP rF) 3 true,.sl [.str [120],ω 0,ω 0,.sl zcc4_1 2 false] 1 true,ω 6,.str [98]]) (.cons (aN.refl _) (.cons (aN.slP (.same (.same (.same (.sl .nil))))) (.cons (aN.refl _) (.cons (aN.refl _) .nil)))) (dD (bG rF true oz true kP 6 [98] (f_ (by kernel_rfl)) (by decide) (by decide) (dY)) (by kernel_rfl))
theorem k88:CO 26 [.str DQ,.str [98],ω 0] (.ret (.bool true)):=cK (.c k87 (.c Nl (.c k56 .nil)))
theorem k89:aj prog ap 90 [.ptr 0 0 0,.str [36]] (rA F7 1) (.ret (.bool false)) (rA F7 1):=cK (.nil)
theorem k90:aj prog ap 92 [.ptr 0 0 0,.str lI] (rA F7 1) (.ret (.str [115,117,98])) (rA TV 1):=dD (dI F7 lI (1) false (by decide) (by decide)) (by kernel_rfl)
theorem k91:aj prog ap 90 [.ptr 0 0 0,.str [46]] (rA TV 1) (.ret (.bool false)) (rA TV 1):=cK (.nil)
theorem k92:CO 32 [ω 10] (.ret (.bool false)):=cK (.nil)
theorem k93:CO 34 [ω 10] (.ret (.bool false)):=cK (.nil)
theorem LM:CO 30 [ω 10] (.ret (ω 2)):=cK (.nil)
theorem k95:aj prog ap 90 [.ptr 0 0 0,.str [40]] (rA TV 1) (.ret (.bool true)) (rA Ly 1):=cK (.nil)
theorem k96:aj prog ap 90 [.ptr 0 0 0,.str [36]] (rA Ly 2) (.ret (.bool false)) (rA Ly 2):=cK (.nil)
theorem k97:aj prog ap 92 [.ptr 0 0 0,.str lI] (rA Ly 2) (.ret (.str [111,119,110])) (rA ad5 2):=dD (dI Ly lI (2) false (by decide) (by decide)) (by kernel_rfl)
theorem k98:aj prog ap 90 [.ptr 0 0 0,.str [46]] (rA ad5 2) (.ret (.bool true)) (rA YF 2):=cK (.nil)
theorem k99:aj prog ap 92 [.ptr 0 0 0,.str xz] (rA YF 2) (.ret (.str [97])) (rA DR 2):=dD (dI YF xz (2) false (by decide) (by decide)) (by kernel_rfl)
theorem ae_:aj prog ap 56 [.ptr 0 0 0] (rA Ly 1) (.ret (.tup [])) (rB DR 1 2 bX):=cK (.c mY (.c mY (.c AE (.c k99 (.c BK (.c yF (.c AC (.c AB (.c AA (.c Az (.c Ay (.c Aw (.c Av (.c yE (.c yD (.c Au (.c Ar (.c xe (.c k9 (.c k8 (.c k7 (.c k6 (.c k5 (.c k4 (.c k3 (.c k98 (.c k97 (.c k96 .nil))))))))))))))))))))))))))))
theorem afa:aj prog ap 90 [.ptr 0 0 0,.str [44,32]] (rB DR 1 2 bX) (.ret (.bool true)) (rB oI 1 2 bX):=cK (.nil)
theorem afb:aj prog ap 90 [.ptr 0 0 0,.str [36]] (rB oI 1 3 bX) (.ret (.bool false)) (rB oI 1 3 bX):=cK (.nil)
theorem afc:aj prog ap 92 [.ptr 0 0 0,.str lI] (rB oI 1 3 bX) (.ret (.str [111,119,110])) (rB [46,97,41] 1 3 bX):=dD (gu oI lI (3) false 1 bX (by decide) (by decide)) (by kernel_rfl)
theorem afd:aj prog ap 56 [.ptr 0 0 0] (rB oI 1 2 bX) (.ret (.tup [])) [⟨[.str [41],.ref 1 1 0 2,ω 3,.bool false],0,false,0,0,false⟩,⟨zo6,1,false,0,5,true⟩]:=cK (.c mY (.c mY (.c AE (.c k40 (.c BK (.c yF (.c AC (.c AB (.c AA (.c Az (.c Ay (.c Aw (.c Av (.c yE (.c yD (.c Au (.c Ar (.c xe (.c k9 (.c k8 (.c k7 (.c k6 (.c k5 (.c k4 (.c k3 (.c k38 (.c afc (.c afb .nil))))))))))))))))))))))))))))
theorem afe:aj prog ap 90 [.ptr 0 0 0,.str [41]] (rB [41] 2 3 zo6) (.ret (.bool true)) (rB [] 2 3 zo6):=cK (.nil)
theorem aff:aj prog ap 56 [.ptr 0 0 0] (rA F7 0) (.ret (.tup [])) [⟨[.str [],.ref 1 0 0 3,ω 3,.bool false],0,false,0,0,false⟩,⟨(aP zR),0,false,0,5,true⟩]:=cK (.c afe (.c LM (.c LM (.c afd (.c afa (.c LM (.c ae_ (.c k95 (.c LM (.c k93 (.c k92 (.c yF (.c AC (.c AB (.c AA (.c Az (.c Ay (.c Aw (.c Av (.c yE (.c yD (.c Au (.c Ar (.c xe (.c k9 (.c k8 (.c k7 (.c k6 (.c k5 (.c k4 (.c k3 (.c k91 (.c k90 (.c k89 .nil))))))))))))))))))))))))))))))))))
theorem WM:CO 94 [ω 10] (.ret (.bool false)):=cK (.nil)
theorem aaz:CO 74 [.agg [ω 10,.bool false,.str [],.str [],.str []]] (.ret (.bool true)):=cK (.c k93 (.c WM .nil))
theorem afg:CO 48 [.sl (aP zR) 3 true] (.ret (ω 0)):=cK (.c LM (.c G1 (.c aaz (.c k92 (.c mY (.c PJ (.c Rq (.c BK (.c mY (.c PJ (.c Rq (.c BK .nil))))))))))))
theorem afh:CO 57 [.sl (aP zR) 3 true] (.ret (.tup [.str F7,ω 0])):=cK (.c k93 (.c WM (.c k8 (.c LM (.c AE (.c LL (.c k4 (.c mY (.c AE (.c LL (.c k4 (.c mY (.c afg .nil)))))))))))))
theorem afi:CO 27 [.str F7] (.ret (.tup [.sl (aP zR) 3 true,ω 0])):=cK (.c afh (.c aff .nil))
theorem afj:CO 14 [.sl (aP zR) 3 true,.sl [.str [120],ω 0,ω 0,.sl zcc4_1 2 true] 1 true,ω 6,.str [97]] (.ret (ω 3)):=aj.args (args:= [.sl (aP zR) 3 true,.sl [.str [120],ω 0,ω 0,.sl zcc4_1 2 false] 1 true,ω 6,.str [97]]) (.cons (aN.refl _) (.cons (aN.slP (.same (.same (.same (.sl .nil))))) (.cons (aN.refl _) (.cons (aN.refl _) .nil)))) (dD (bG zR true oz true kP 6 [97] (f_ (by kernel_rfl)) (by decide) (by decide) (dY)) (by kernel_rfl))
theorem afk:CO 26 [.str F7,.str [97],ω 3] (.ret (.bool true)):=cK (.c afj (.c Nl (.c afi .nil)))
theorem afl:aj prog ap 90 [.ptr 0 0 0,.str [36]] (rA U8 1) (.ret (.bool false)) (rA U8 1):=cK (.nil)
theorem afm:aj prog ap 92 [.ptr 0 0 0,.str lI] (rA U8 1) (.ret (.str [115,117,98])) (rA zs7 1):=dD (dI U8 lI (1) false (by decide) (by decide)) (by kernel_rfl)
theorem afn:aj prog ap 90 [.ptr 0 0 0,.str [46]] (rA zs7 1) (.ret (.bool false)) (rA zs7 1):=cK (.nil)
theorem afo:aj prog ap 90 [.ptr 0 0 0,.str [40]] (rA zs7 1) (.ret (.bool true)) (rA zs9 1):=cK (.nil)
theorem afp:aj prog ap 90 [.ptr 0 0 0,.str [36]] (rA zs9 2) (.ret (.bool true)) (rA Pz 2):=cK (.nil)
theorem afq:aj prog ap 92 [.ptr 0 0 0,.str wP] (rA Pz 2) (.ret (.str [53])) (rA Lu 2):=dD (dI Pz wP (2) false (by decide) (by decide)) (by kernel_rfl)
theorem Rh:CO 76 [.str []] (.ret (.str [])):=cK (.nil)
theorem aaA:CO 107 [.str []] (.ret (.tup [ω 0,.bool true])):=cK (.c Rh .nil)
theorem afr:CO 77 [.str [],ω 3] (.ret (.tup [ω 0,.bool true])):=cK (.c aaA (.c Rh .nil))
theorem Ri:CO 49 [ω 0] (.ret (.str [])):=dD (cH 0 (by decide)) (by kernel_rfl)
theorem Nf:CO 50 [.str [],.str [10]] (.ret (.str [])):=cK (.c Ri (.c k69 (.c afr .nil)))
theorem Kr:CO 77 [.str [],ω 7] (.ret (.tup [ω 0,.bool true])):=cK (.c aaA (.c Rh .nil))
theorem afs:CO 77 [.str [5],ω 7] (.ret (.tup [ω 5,.bool true])):=cK (.c k77 (.c k76 .nil))
theorem aft:CO 61 [.str [],.str [5]] (.ret (.str [5])):=cK (.c k79 (.c afs (.c Kr .nil)))
theorem afu:CO 157 [.str [53]] (.ret (.tup [.str [5],.bool true])):=cK (.c aft (.c k79 (.c Nf (.c PK .nil))))
theorem afv:CO 77 [.str [1],ω 7] (.ret (.tup [ω 1,.bool true])):=cK (.c k62 (.c UC .nil))
theorem aaB:CO 61 [.str [],.str [1]] (.ret (.str [1])):=cK (.c Nk (.c afv (.c Kr .nil)))
theorem GY:CO 157 [.str [49]] (.ret (.tup [.str [1],.bool true])):=cK (.c aaB (.c Nk (.c Nf (.c PK .nil))))
theorem afw:CO 128 [.str [5]] (.ret (.bool true)):=dD (sH [5]) (by kernel_rfl)
theorem GZ:CO 128 [.str [1]] (.ret (.bool true)):=dD (sH [1]) (by kernel_rfl)
theorem afx:CO 51 [.bool false,.str [5],.str [1]] (.ret (Ω false [5] [1])):=dD (dC false 5 1 (bO (by decide)) (bO (by decide)) (by decide)) (by kernel_rfl)
theorem afy:CO 96 [.bool false,.str [5],.str [1]] (.ret (.tup [Ω false [5] [1],.bool true])):=cK (.c afx (.c GZ (.c afw .nil)))
theorem afz:CO 81 [.str [5],.str [10]] (.ret (.tup [.str [],.str [5],.bool true])):=dD (nQ [5] [10] (by decide) (by decide) (by decide)) (by kernel_rfl)
theorem afA:CO 127 [.str [5]] (.ret (.str [53])):=cK (.c k77 (.c afz (.c PK (.c k76 .nil))))
theorem Ng:CO 118 [.str [1],.str [1]] (.ret (ω 0)):=cK (.c UC (.c UC .nil))
theorem aaC:CO 95 [Ω false [5] [1]] (.ret (.str [53])):=cK (.c Ng (.c Nk (.c afA (.c k75 .nil))))
theorem afB:CO 126 [.str [53]] (.ret (.tup [Ω false [5] [1],.bool true])):=cK (.c aaC (.c afy (.c GY (.c afu .nil))))
theorem afC:aj prog ap 91 [.ptr 0 0 0] (rA Pz 2) (.ret (Ω false [5] [1])) (rA Lu 2):=cK (.c afB (.c afq .nil))
theorem aaD:aG prog ap (rA zs9 1) 206 (pU 5 (af f56)) ⟨([(0,.ptr 0 0 0),(2,.bool true)]++dE [3,4,5,6,7,8,9,10,11,12,13,14,15]++ [(41,.bool false),(47,.bool true)]++dE [65,70,100,102,117,122,128,133,139,145,158,166,170,175,184,188,192]),[(0,⟨[.str Pz,.nilS,ω 2,.bool false],0,false,0,0,true⟩)],.dead,[]⟩ (.normal) ⟨([(0,.ptr 0 0 0),(2,.bool true)]++dE [3,4,5,6,7,8,9,10,11,12,13,14,15]++ [(41,.bool false),(47,.bool true)]++dE [65,70,100,102,117,122,128,133,139,145,158,166,170,175,184,188,192]),[(0,⟨[.str Lu,.ref 1 0 0 1,ω 2,.bool false],0,false,0,0,false⟩),(1,⟨jx,0,false,0,5,true⟩)],.dead,[]⟩:=fun nt a=>xq CZ (keep:=px ap 56) (i:=4) (b:=0) (d:=52) (nt0:=206) (ans:= [(.ret (Ω false [5] [1]),(rA Lu 2))]) (.cons (rfl:(.nilS:AV)=(.nilS:AV)) (.cons (rfl:(.nilS:AV)=(.nilS:AV)) (.cons afC .nil))) a (by kernel_rfl)
theorem afD:aj prog ap 56 [.ptr 0 0 0] (rA zs9 1) (.ret (.tup [])) (rB Lu 1 2 jx):=pK [1005] 4 8 (.n 9 .nil) (.l aaD (.c afp .nil))
theorem afE:aj prog ap 90 [.ptr 0 0 0,.str [44,32]] (rB Lu 1 2 jx) (.ret (.bool true)) (rB Lv 1 2 jx):=cK (.nil)
theorem afF:aj prog ap 90 [.ptr 0 0 0,.str [36]] (rB Lv 1 3 jx) (.ret (.bool false)) (rB Lv 1 3 jx):=cK (.nil)
theorem afG:aj prog ap 92 [.ptr 0 0 0,.str lI] (rB Lv 1 3 jx) (.ret (.str [109,117,108])) (rB TW 1 3 jx):=dD (gu Lv lI (3) false 1 jx (by decide) (by decide)) (by kernel_rfl)
theorem afH:aj prog ap 90 [.ptr 0 0 0,.str [46]] (rB TW 1 3 jx) (.ret (.bool false)) (rB TW 1 3 jx):=cK (.nil)
theorem Rj:CO 32 [ω 11] (.ret (.bool false)):=cK (.nil)
theorem Nh:CO 34 [ω 11] (.ret (.bool false)):=cK (.nil)
theorem wG:CO 30 [ω 11] (.ret (ω 2)):=cK (.nil)
theorem afI:aj prog ap 90 [.ptr 0 0 0,.str [40]] (rB TW 1 3 jx) (.ret (.bool true)) (rB HU 1 3 jx):=cK (.nil)
theorem afJ:aj prog ap 90 [.ptr 0 0 0,.str [36]] (rB HU 1 4 jx) (.ret (.bool false)) (rB HU 1 4 jx):=cK (.nil)
theorem afK:aj prog ap 92 [.ptr 0 0 0,.str wP] (rB HU 1 4 jx) (.ret (.str YN)) (rB LD 1 4 jx):=dD (gu HU wP (4) false 1 jx (by decide) (by decide)) (by kernel_rfl)
theorem aaE:CO 49 [ω 2] (.ret (.str [2])):=dD (cH 2 (by decide)) (by kernel_rfl)
theorem Rk:CO 76 [.str [2]] (.ret (.str [2])):=cK (.nil)
theorem aaF:CO 107 [.str [2]] (.ret (.tup [ω 2,.bool true])):=cK (.c Rk .nil)
theorem afL:CO 77 [.str [2],ω 7] (.ret (.tup [ω 2,.bool true])):=cK (.c aaF (.c Rk .nil))
theorem afM:CO 61 [.str [],.str [2]] (.ret (.str [2])):=cK (.c aaE (.c afL (.c Kr .nil)))
theorem aaG:CO 157 [.str [50]] (.ret (.tup [.str [2],.bool true])):=cK (.c afM (.c aaE (.c Nf (.c PK .nil))))
theorem aaH:CO 128 [.str [2]] (.ret (.bool true)):=dD (sH [2]) (by kernel_rfl)
theorem afN:CO 51 [.bool true,.str [1],.str [2]] (.ret (Ω true [1] [2])):=dD (dC true 1 2 (bO (by decide)) (bO (by decide)) (by decide)) (by kernel_rfl)
theorem afO:CO 96 [.bool true,.str [1],.str [2]] (.ret (.tup [Ω true [1] [2],.bool true])):=cK (.c afN (.c aaH (.c GZ .nil)))
theorem afP:CO 70 [Ω true [1] [2]] (.ret (Ω true [1] [2])):=dD (eY true [1] [2] (by decide) (by decide)) (by kernel_rfl)
theorem afQ:CO 81 [.str [1],.str [10]] (.ret (.tup [.str [],.str [1],.bool true])):=dD (nQ [1] [10] (by decide) (by decide) (by decide)) (by kernel_rfl)
theorem aaI:CO 127 [.str [1]] (.ret (.str [49])):=cK (.c k62 (.c afQ (.c PK (.c UC .nil))))
theorem afR:CO 118 [.str [2],.str [1]] (.ret (ω 1)):=cK (.c UC (.c Rk .nil))
theorem afS:CO 81 [.str [2],.str [10]] (.ret (.tup [.str [],.str [2],.bool true])):=dD (nQ [2] [10] (by decide) (by decide) (by decide)) (by kernel_rfl)
theorem aaJ:CO 127 [.str [2]] (.ret (.str [50])):=cK (.c aaF (.c afS (.c PK (.c Rk .nil))))
theorem aaK:CO 95 [Ω true [1] [2]] (.ret (.str YN)):=cK (.c aaJ (.c afR (.c Nk (.c aaI (.c afP .nil)))))
theorem afT:CO 126 [.str YN] (.ret (.tup [Ω true [1] [2],.bool true])):=cK (.c aaK (.c afO (.c aaG (.c GY .nil))))
theorem afU:aj prog ap 91 [.ptr 0 0 0] (rB HU 1 4 jx) (.ret (Ω true [1] [2])) (rB LD 1 4 jx):=cK (.c afT (.c afK .nil))
theorem afV:aj prog ap 90 [.ptr 0 0 0,.str [100]] (rB LD 1 4 jx) (.ret (.bool false)) (rB LD 1 4 jx):=cK (.nil)
theorem afW:aj prog ap 56 [.ptr 0 0 0] (rB HU 1 3 jx) (.ret (.tup [])) [⟨[.str LD,.ref 1 1 0 2,ω 4,.bool false],0,false,0,0,false⟩,⟨uI,1,false,0,5,true⟩]:=cK (.c afV (.c afU (.c afJ .nil)))
theorem afX:aj prog ap 90 [.ptr 0 0 0,.str [44,32]] (rB LD 2 4 uI) (.ret (.bool true)) (rB LF 2 4 uI):=cK (.nil)
theorem afY:aj prog ap 90 [.ptr 0 0 0,.str [36]] (rB LF 2 5 uI) (.ret (.bool false)) (rB LF 2 5 uI):=cK (.nil)
theorem afZ:aj prog ap 92 [.ptr 0 0 0,.str lI] (rB LF 2 5 uI) (.ret (.str [111,119,110])) (rB aeb 2 5 uI):=dD (gu LF lI (5) false 2 uI (by decide) (by decide)) (by kernel_rfl)
theorem af0:aj prog ap 90 [.ptr 0 0 0,.str [46]] (rB aeb 2 5 uI) (.ret (.bool true)) (rB [97,41,41] 2 5 uI):=cK (.nil)
theorem af1:aj prog ap 92 [.ptr 0 0 0,.str xz] (rB [97,41,41] 2 5 uI) (.ret (.str [97])) (rB [41,41] 2 5 uI):=dD (gu [97,41,41] xz (5) false 2 uI (by decide) (by decide)) (by kernel_rfl)
theorem af2:aj prog ap 56 [.ptr 0 0 0] (rB LF 2 4 uI) (.ret (.tup [])) [⟨[.str [41,41],.ref 1 1 0 3,ω 5,.bool false],0,false,0,0,false⟩,⟨zo3,1,false,0,5,true⟩]:=cK (.c mY (.c mY (.c AE (.c af1 (.c BK (.c yF (.c AC (.c AB (.c AA (.c Az (.c Ay (.c Aw (.c Av (.c yE (.c yD (.c Au (.c Ar (.c xe (.c k9 (.c k8 (.c k7 (.c k6 (.c k5 (.c k4 (.c k3 (.c af0 (.c afZ (.c afY .nil))))))))))))))))))))))))))))
theorem af3:aj prog ap 90 [.ptr 0 0 0,.str [41]] (rB [41,41] 3 5 zo3) (.ret (.bool true)) (rB [41] 3 5 zo3):=cK (.nil)
theorem af4:aj prog ap 56 [.ptr 0 0 0] (rB Lv 1 2 jx) (.ret (.tup [])) [⟨[.str [41],.ref 1 3 0 4,ω 5,.bool false],0,false,0,0,false⟩,⟨zo2,3,false,0,5,true⟩]:=cK (.c af3 (.c wG (.c wG (.c af2 (.c afX (.c wG (.c afW (.c afI (.c wG (.c Nh (.c Rj (.c yF (.c AC (.c AB (.c AA (.c Az (.c Ay (.c Aw (.c Av (.c yE (.c yD (.c Au (.c Ar (.c xe (.c k9 (.c k8 (.c k7 (.c k6 (.c k5 (.c k4 (.c k3 (.c afH (.c afG (.c afF .nil))))))))))))))))))))))))))))))))))
theorem af5:aj prog ap 90 [.ptr 0 0 0,.str [41]] (rB [41] 4 5 zo2) (.ret (.bool true)) (rB [] 4 5 zo2):=cK (.nil)
theorem af6:aj prog ap 56 [.ptr 0 0 0] (rA U8 0) (.ret (.tup [])) [⟨[.str [],.ref 1 0 0 5,ω 5,.bool false],0,false,0,0,false⟩,⟨(aP zS),0,false,0,5,true⟩]:=cK (.c af5 (.c LM (.c LM (.c af4 (.c afE (.c LM (.c afD (.c afo (.c LM (.c k93 (.c k92 (.c yF (.c AC (.c AB (.c AA (.c Az (.c Ay (.c Aw (.c Av (.c yE (.c yD (.c Au (.c Ar (.c xe (.c k9 (.c k8 (.c k7 (.c k6 (.c k5 (.c k4 (.c k3 (.c afn (.c afm (.c afl .nil))))))))))))))))))))))))))))))))))
theorem Rl:CO 32 [ω 1] (.ret (.bool false)):=cK (.nil)
theorem EK:CO 94 [ω 1] (.ret (.bool true)):=cK (.nil)
theorem af7:CO 105 [Ω false [5] [1]] (.ret (.bool true)):=dD (jN false [5] [1] (by decide) (by decide)) (by kernel_rfl)
theorem af8:CO 74 [.agg jx] (.ret (.bool true)):=cK (.c af7 (.c EK .nil))
theorem EL:CO 30 [ω 1] (.ret (ω 0)):=cK (.nil)
theorem aaL:CO 32 [ω 3] (.ret (.bool false)):=cK (.nil)
theorem Rm:CO 94 [ω 3] (.ret (.bool true)):=cK (.nil)
theorem af9:CO 105 [Ω true [1] [2]] (.ret (.bool true)):=dD (jN true [1] [2] (by decide) (by decide)) (by kernel_rfl)
theorem af_:CO 74 [.agg [ω 3,.bool true,.str [1],.str [2],.str []]] (.ret (.bool true)):=cK (.c af9 (.c Rm .nil))
theorem Rn:CO 30 [ω 3] (.ret (ω 0)):=cK (.nil)
theorem WN:CO 94 [ω 11] (.ret (.bool false)):=cK (.nil)
theorem aaM:CO 74 [.agg [ω 11,.bool false,.str [],.str [],.str []]] (.ret (.bool true)):=cK (.c Nh (.c WN .nil))
theorem aga:CO 48 [.sl (aP zS) 5 true] (.ret (ω 0)):=cK (.c LM (.c G1 (.c aaz (.c k92 (.c wG (.c G1 (.c aaM (.c Rj (.c mY (.c PJ (.c Rq (.c BK (.c Rn (.c G1 (.c af_ (.c aaL (.c EL (.c G1 (.c af8 (.c Rl .nil))))))))))))))))))))
theorem Ro:CO 93 [ω 1] (.ret (.str [36])):=cK (.nil)
theorem aaN:CO 93 [ω 3] (.ret (.str [])):=cK (.nil)
theorem agb:CO 57 [.sl (aP zS) 5 true] (.ret (.tup [.str U8,ω 0])):=cK (.c k93 (.c WM (.c k8 (.c LM (.c Nh (.c WN (.c k9 (.c wG (.c AE (.c LL (.c k4 (.c mY (.c aaK (.c Rm (.c aaN (.c Rn (.c aaC (.c EK (.c Ro (.c EL (.c aga .nil)))))))))))))))))))))
theorem agc:CO 27 [.str U8] (.ret (.tup [.sl (aP zS) 5 true,ω 0])):=cK (.c agb (.c af6 .nil))
theorem agd:CO 14 [.sl (aP zS) 5 true,.sl [.str [120],ω 0,ω 0,.sl zcc4_1 2 true] 1 true,ω 6,.str [97]] (.ret (ω 1)):=aj.args (args:= [.sl (aP zS) 5 true,.sl [.str [120],ω 0,ω 0,.sl zcc4_1 2 false] 1 true,ω 6,.str [97]]) (.cons (aN.refl _) (.cons (aN.slP (.same (.same (.same (.sl .nil))))) (.cons (aN.refl _) (.cons (aN.refl _) .nil)))) (dD (bG zS true oz true kP 6 [97] (f_ (by kernel_rfl)) (by decide) (by decide) (dY)) (by kernel_rfl))
theorem age:CO 26 [.str U8,.str [97],ω 1] (.ret (.bool true)):=cK (.c agd (.c Nl (.c agc .nil)))
theorem agf:aj prog ap 90 [.ptr 0 0 0,.str [36]] (rA F6 1) (.ret (.bool false)) (rA F6 1):=cK (.nil)
theorem agh:aj prog ap 92 [.ptr 0 0 0,.str lI] (rA F6 1) (.ret (.str [109,117,108])) (rA TT 1):=dD (dI F6 lI (1) false (by decide) (by decide)) (by kernel_rfl)
theorem agi:aj prog ap 90 [.ptr 0 0 0,.str [46]] (rA TT 1) (.ret (.bool false)) (rA TT 1):=cK (.nil)
theorem agj:aj prog ap 90 [.ptr 0 0 0,.str [40]] (rA TT 1) (.ret (.bool true)) (rA Lx 1):=cK (.nil)
theorem agk:aj prog ap 90 [.ptr 0 0 0,.str [36]] (rA Lx 2) (.ret (.bool false)) (rA Lx 2):=cK (.nil)
theorem agl:aj prog ap 92 [.ptr 0 0 0,.str lI] (rA Lx 2) (.ret (.str [111,119,110])) (rA ad4 2):=dD (dI Lx lI (2) false (by decide) (by decide)) (by kernel_rfl)
theorem agm:aj prog ap 90 [.ptr 0 0 0,.str [46]] (rA ad4 2) (.ret (.bool true)) (rA YE 2):=cK (.nil)
theorem agn:aj prog ap 92 [.ptr 0 0 0,.str xz] (rA YE 2) (.ret (.str [97])) (rA YH 2):=dD (dI YE xz (2) false (by decide) (by decide)) (by kernel_rfl)
theorem agp:aj prog ap 56 [.ptr 0 0 0] (rA Lx 1) (.ret (.tup [])) (rB YH 1 2 bX):=cK (.c mY (.c mY (.c AE (.c agn (.c BK (.c yF (.c AC (.c AB (.c AA (.c Az (.c Ay (.c Aw (.c Av (.c yE (.c yD (.c Au (.c Ar (.c xe (.c k9 (.c k8 (.c k7 (.c k6 (.c k5 (.c k4 (.c k3 (.c agm (.c agl (.c agk .nil))))))))))))))))))))))))))))
theorem agq:aj prog ap 90 [.ptr 0 0 0,.str [44,32]] (rB YH 1 2 bX) (.ret (.bool true)) (rB LH 1 2 bX):=cK (.nil)
theorem agr:aj prog ap 90 [.ptr 0 0 0,.str [36]] (rB LH 1 3 bX) (.ret (.bool false)) (rB LH 1 3 bX):=cK (.nil)
theorem ags:aj prog ap 92 [.ptr 0 0 0,.str lI] (rB LH 1 3 bX) (.ret (.str aea)) (rB [46,98,41] 1 3 bX):=dD (gu LH lI (3) false 1 bX (by decide) (by decide)) (by kernel_rfl)
theorem agt:aj prog ap 90 [.ptr 0 0 0,.str [46]] (rB [46,98,41] 1 3 bX) (.ret (.bool true)) (rB [98,41] 1 3 bX):=cK (.nil)
theorem agu:aj prog ap 92 [.ptr 0 0 0,.str xz] (rB [98,41] 1 3 bX) (.ret (.str [98])) (rB [41] 1 3 bX):=dD (gu [98,41] xz (3) false 1 bX (by decide) (by decide)) (by kernel_rfl)
theorem agv:aj prog ap 56 [.ptr 0 0 0] (rB LH 1 2 bX) (.ret (.tup [])) [⟨[.str [41],.ref 1 1 0 2,ω 3,.bool false],0,false,0,0,false⟩,⟨zo7,1,false,0,5,true⟩]:=cK (.c UB (.c UB (.c YT (.c agu (.c k39 (.c yF (.c AC (.c AB (.c AA (.c Az (.c Ay (.c Aw (.c Av (.c yE (.c yD (.c Au (.c Ar (.c xe (.c k9 (.c k8 (.c k7 (.c k6 (.c k5 (.c k4 (.c k3 (.c agt (.c ags (.c agr .nil))))))))))))))))))))))))))))
theorem agw:aj prog ap 90 [.ptr 0 0 0,.str [41]] (rB [41] 2 3 zo7) (.ret (.bool true)) (rB [] 2 3 zo7):=cK (.nil)
theorem agx:aj prog ap 56 [.ptr 0 0 0] (rA F6 0) (.ret (.tup [])) [⟨[.str [],.ref 1 0 0 3,ω 3,.bool false],0,false,0,0,false⟩,⟨(aP jB),0,false,0,5,true⟩]:=cK (.c agw (.c wG (.c wG (.c agv (.c agq (.c wG (.c agp (.c agj (.c wG (.c Nh (.c Rj (.c yF (.c AC (.c AB (.c AA (.c Az (.c Ay (.c Aw (.c Av (.c yE (.c yD (.c Au (.c Ar (.c xe (.c k9 (.c k8 (.c k7 (.c k6 (.c k5 (.c k4 (.c k3 (.c agi (.c agh (.c agf .nil))))))))))))))))))))))))))))))))))
theorem agy:CO 74 [.agg [ω 5,.bool false,.str [],.str [],.str [98]]] (.ret (.bool true)):=cK (.c YT (.c k49 .nil))
theorem aaO:CO 75 [.str [98]] (.ret (.bool true)):=cK (.nil)
theorem agz:CO 48 [.sl (aP jB) 3 true] (.ret (ω 0)):=cK (.c wG (.c G1 (.c aaM (.c Rj (.c UB (.c aaO (.c agy (.c k39 (.c mY (.c PJ (.c Rq (.c BK .nil))))))))))))
theorem agA:CO 57 [.sl (aP jB) 3 true] (.ret (.tup [.str F6,ω 0])):=cK (.c Nh (.c WN (.c k9 (.c wG (.c YT (.c k49 (.c k3 (.c UB (.c AE (.c LL (.c k4 (.c mY (.c agz .nil)))))))))))))
theorem aaP:CO 27 [.str F6] (.ret (.tup [.sl (aP jB) 3 true,ω 0])):=cK (.c agA (.c agx .nil))
theorem agB:CO 14 [.sl (aP jB) 3 true,.sl [.str [120],ω 0,ω 0,.sl zcc4_1 2 true] 1 true,ω 6,.str [97]] (.ret (ω 3)):=aj.args (args:= [.sl (aP jB) 3 true,.sl [.str [120],ω 0,ω 0,.sl zcc4_1 2 false] 1 true,ω 6,.str [97]]) (.cons (aN.refl _) (.cons (aN.slP (.same (.same (.same (.sl .nil))))) (.cons (aN.refl _) (.cons (aN.refl _) .nil)))) (dD (bG jB true oz true kP 6 [97] (f_ (by kernel_rfl)) (by decide) (by decide) (dY)) (by kernel_rfl))
theorem agC:CO 26 [.str F6,.str [97],ω 3] (.ret (.bool true)):=cK (.c agB (.c Nl (.c aaP .nil)))
theorem agD:aj prog ap 90 [.ptr 0 0 0,.str [36]] (rA F8 1) (.ret (.bool false)) (rA F8 1):=cK (.nil)
theorem agF:aj prog ap 92 [.ptr 0 0 0,.str lI] (rA F8 1) (.ret (.str [100,105,118])) (rA TY 1):=dD (dI F8 lI (1) false (by decide) (by decide)) (by kernel_rfl)
theorem agG:aj prog ap 90 [.ptr 0 0 0,.str [46]] (rA TY 1) (.ret (.bool false)) (rA TY 1):=cK (.nil)
theorem Rp:CO 32 [ω 12] (.ret (.bool false)):=cK (.nil)
theorem Ni:CO 34 [ω 12] (.ret (.bool false)):=cK (.nil)
theorem wI:CO 30 [ω 12] (.ret (ω 2)):=cK (.nil)
theorem agI:aj prog ap 90 [.ptr 0 0 0,.str [40]] (rA TY 1) (.ret (.bool true)) (rA T9 1):=cK (.nil)
theorem agJ:aj prog ap 90 [.ptr 0 0 0,.str [36]] (rA T9 2) (.ret (.bool true)) (rA PB 2):=cK (.nil)
theorem agK:aj prog ap 92 [.ptr 0 0 0,.str wP] (rA PB 2) (.ret (.str [49])) (rA DR 2):=dD (dI PB wP (2) false (by decide) (by decide)) (by kernel_rfl)
theorem agL:CO 51 [.bool false,.str [1],.str [1]] (.ret (Ω false [1] [1])):=dD (dC false 1 1 (bO (by decide)) (bO (by decide)) (by decide)) (by kernel_rfl)
theorem agM:CO 96 [.bool false,.str [1],.str [1]] (.ret (.tup [Ω false [1] [1],.bool true])):=cK (.c agL (.c GZ (.c GZ .nil)))
theorem aaQ:CO 95 [Ω false [1] [1]] (.ret (.str [49])):=cK (.c Ng (.c Nk (.c aaI (.c k59 .nil))))
theorem agN:CO 126 [.str [49]] (.ret (.tup [Ω false [1] [1],.bool true])):=cK (.c aaQ (.c agM (.c GY (.c GY .nil))))
theorem agO:aj prog ap 91 [.ptr 0 0 0] (rA PB 2) (.ret (Ω false [1] [1])) (rA DR 2):=cK (.c agN (.c agK .nil))
theorem aaR:aG prog ap (rA T9 1) 206 (pU 5 (af f56)) ⟨([(0,.ptr 0 0 0),(2,.bool true)]++dE [3,4,5,6,7,8,9,10,11,12,13,14,15]++ [(41,.bool false),(47,.bool true)]++dE [65,70,100,102,117,122,128,133,139,145,158,166,170,175,184,188,192]),[(0,⟨[.str PB,.nilS,ω 2,.bool false],0,false,0,0,true⟩)],.dead,[]⟩ (.normal) ⟨([(0,.ptr 0 0 0),(2,.bool true)]++dE [3,4,5,6,7,8,9,10,11,12,13,14,15]++ [(41,.bool false),(47,.bool true)]++dE [65,70,100,102,117,122,128,133,139,145,158,166,170,175,184,188,192]),[(0,⟨[.str DR,.ref 1 0 0 1,ω 2,.bool false],0,false,0,0,false⟩),(1,⟨qW,0,false,0,5,true⟩)],.dead,[]⟩:=fun nt a=>xq CZ (keep:=px ap 56) (i:=4) (b:=0) (d:=52) (nt0:=206) (ans:= [(.ret (Ω false [1] [1]),(rA DR 2))]) (.cons (rfl:(.nilS:AV)=(.nilS:AV)) (.cons (rfl:(.nilS:AV)=(.nilS:AV)) (.cons agO .nil))) a (by kernel_rfl)
theorem agP:aj prog ap 56 [.ptr 0 0 0] (rA T9 1) (.ret (.tup [])) (rB DR 1 2 qW):=pK [1005] 4 8 (.n 9 .nil) (.l aaR (.c agJ .nil))
theorem agQ:aj prog ap 90 [.ptr 0 0 0,.str [44,32]] (rB DR 1 2 qW) (.ret (.bool true)) (rB oI 1 2 qW):=cK (.nil)
theorem agR:aj prog ap 90 [.ptr 0 0 0,.str [36]] (rB oI 1 3 qW) (.ret (.bool false)) (rB oI 1 3 qW):=cK (.nil)
theorem agS:aj prog ap 92 [.ptr 0 0 0,.str lI] (rB oI 1 3 qW) (.ret (.str [111,119,110])) (rB [46,97,41] 1 3 qW):=dD (gu oI lI (3) false 1 qW (by decide) (by decide)) (by kernel_rfl)
theorem agT:aj prog ap 90 [.ptr 0 0 0,.str [46]] (rB [46,97,41] 1 3 qW) (.ret (.bool true)) (rB [97,41] 1 3 qW):=cK (.nil)
theorem agU:aj prog ap 92 [.ptr 0 0 0,.str xz] (rB [97,41] 1 3 qW) (.ret (.str [97])) (rB [41] 1 3 qW):=dD (gu [97,41] xz (3) false 1 qW (by decide) (by decide)) (by kernel_rfl)
theorem agV:aj prog ap 56 [.ptr 0 0 0] (rB oI 1 2 qW) (.ret (.tup [])) [⟨[.str [41],.ref 1 1 0 2,ω 3,.bool false],0,false,0,0,false⟩,⟨zo8,1,false,0,5,true⟩]:=cK (.c mY (.c mY (.c AE (.c agU (.c BK (.c yF (.c AC (.c AB (.c AA (.c Az (.c Ay (.c Aw (.c Av (.c yE (.c yD (.c Au (.c Ar (.c xe (.c k9 (.c k8 (.c k7 (.c k6 (.c k5 (.c k4 (.c k3 (.c agT (.c agS (.c agR .nil))))))))))))))))))))))))))))
theorem agW:aj prog ap 90 [.ptr 0 0 0,.str [41]] (rB [41] 2 3 zo8) (.ret (.bool true)) (rB [] 2 3 zo8):=cK (.nil)
theorem agX:aj prog ap 56 [.ptr 0 0 0] (rA F8 0) (.ret (.tup [])) [⟨[.str [],.ref 1 0 0 3,ω 3,.bool false],0,false,0,0,false⟩,⟨(aP zU),0,false,0,5,true⟩]:=cK (.c agW (.c wI (.c wI (.c agV (.c agQ (.c wI (.c agP (.c agI (.c wI (.c Ni (.c Rp (.c yF (.c AC (.c AB (.c AA (.c Az (.c Ay (.c Aw (.c Av (.c yE (.c yD (.c Au (.c Ar (.c xe (.c k9 (.c k8 (.c k7 (.c k6 (.c k5 (.c k4 (.c k3 (.c agG (.c agF (.c agD .nil))))))))))))))))))))))))))))))))))
theorem agY:CO 105 [Ω false [1] [1]] (.ret (.bool true)):=dD (jN false [1] [1] (by decide) (by decide)) (by kernel_rfl)
theorem agZ:CO 74 [.agg qW] (.ret (.bool true)):=cK (.c agY (.c EK .nil))
theorem WO:CO 94 [ω 12] (.ret (.bool false)):=cK (.nil)
theorem aaS:CO 74 [.agg [ω 12,.bool false,.str [],.str [],.str []]] (.ret (.bool true)):=cK (.c Ni (.c WO .nil))
theorem ag0:CO 48 [.sl (aP zU) 3 true] (.ret (ω 0)):=cK (.c wI (.c G1 (.c aaS (.c Rp (.c mY (.c PJ (.c Rq (.c BK (.c EL (.c G1 (.c agZ (.c Rl .nil))))))))))))
theorem ag1:CO 57 [.sl (aP zU) 3 true] (.ret (.tup [.str F8,ω 0])):=cK (.c Ni (.c WO (.c xe (.c wI (.c AE (.c LL (.c k4 (.c mY (.c aaQ (.c EK (.c Ro (.c EL (.c ag0 .nil)))))))))))))
theorem ag2:CO 27 [.str F8] (.ret (.tup [.sl (aP zU) 3 true,ω 0])):=cK (.c ag1 (.c agX .nil))
theorem ag3:CO 14 [.sl (aP zU) 3 true,.sl [.str [120],ω 0,ω 0,.sl zcc4_1 2 true] 1 true,ω 6,.str [97]] (.ret (ω 3)):=aj.args (args:= [.sl (aP zU) 3 true,.sl [.str [120],ω 0,ω 0,.sl zcc4_1 2 false] 1 true,ω 6,.str [97]]) (.cons (aN.refl _) (.cons (aN.slP (.same (.same (.same (.sl .nil))))) (.cons (aN.refl _) (.cons (aN.refl _) .nil)))) (dD (bG zU true oz true kP 6 [97] (f_ (by kernel_rfl)) (by decide) (by decide) (dY)) (by kernel_rfl))
theorem ag4:CO 26 [.str F8,.str [97],ω 3] (.ret (.bool true)):=cK (.c ag3 (.c Nl (.c ag2 .nil)))
theorem ag5:aj prog ap 90 [.ptr 0 0 0,.str [36]] (rA F9 1) (.ret (.bool false)) (rA F9 1):=cK (.nil)
theorem ag6:aj prog ap 92 [.ptr 0 0 0,.str lI] (rA F9 1) (.ret (.str [100,105,118])) (rA TZ 1):=dD (dI F9 lI (1) false (by decide) (by decide)) (by kernel_rfl)
theorem ag7:aj prog ap 90 [.ptr 0 0 0,.str [46]] (rA TZ 1) (.ret (.bool false)) (rA TZ 1):=cK (.nil)
theorem ag8:aj prog ap 90 [.ptr 0 0 0,.str [40]] (rA TZ 1) (.ret (.bool true)) (rA LB 1):=cK (.nil)
theorem ag9:aj prog ap 90 [.ptr 0 0 0,.str [36]] (rA LB 2) (.ret (.bool false)) (rA LB 2):=cK (.nil)
theorem ag_:aj prog ap 92 [.ptr 0 0 0,.str lI] (rA LB 2) (.ret (.str [111,119,110])) (rA ad8 2):=dD (dI LB lI (2) false (by decide) (by decide)) (by kernel_rfl)
theorem aha:aj prog ap 90 [.ptr 0 0 0,.str [46]] (rA ad8 2) (.ret (.bool true)) (rA YJ 2):=cK (.nil)
theorem ahb:aj prog ap 92 [.ptr 0 0 0,.str xz] (rA YJ 2) (.ret (.str [97])) (rA YL 2):=dD (dI YJ xz (2) false (by decide) (by decide)) (by kernel_rfl)
theorem ahc:aj prog ap 56 [.ptr 0 0 0] (rA LB 1) (.ret (.tup [])) (rB YL 1 2 bX):=cK (.c mY (.c mY (.c AE (.c ahb (.c BK (.c yF (.c AC (.c AB (.c AA (.c Az (.c Ay (.c Aw (.c Av (.c yE (.c yD (.c Au (.c Ar (.c xe (.c k9 (.c k8 (.c k7 (.c k6 (.c k5 (.c k4 (.c k3 (.c aha (.c ag_ (.c ag9 .nil))))))))))))))))))))))))))))
theorem ahd:aj prog ap 90 [.ptr 0 0 0,.str [44,32]] (rB YL 1 2 bX) (.ret (.bool true)) (rB [45,50,41] 1 2 bX):=cK (.nil)
theorem ahe:aj prog ap 90 [.ptr 0 0 0,.str [36]] (rB [45,50,41] 1 3 bX) (.ret (.bool false)) (rB [45,50,41] 1 3 bX):=cK (.nil)
theorem ahf:aj prog ap 92 [.ptr 0 0 0,.str wP] (rB [45,50,41] 1 3 bX) (.ret (.str [45,50])) (rB [41] 1 3 bX):=dD (gu [45,50,41] wP (3) false 1 bX (by decide) (by decide)) (by kernel_rfl)
theorem ahg:CO 51 [.bool true,.str [2],.str [1]] (.ret (Ω true [2] [1])):=dD (dC true 2 1 (bO (by decide)) (bO (by decide)) (by decide)) (by kernel_rfl)
theorem ahh:CO 96 [.bool true,.str [2],.str [1]] (.ret (.tup [Ω true [2] [1],.bool true])):=cK (.c ahg (.c GZ (.c aaH .nil)))
theorem ahi:CO 70 [Ω true [2] [1]] (.ret (Ω true [2] [1])):=dD (eY true [2] [1] (by decide) (by decide)) (by kernel_rfl)
theorem aaT:CO 95 [Ω true [2] [1]] (.ret (.str [45,50])):=cK (.c Ng (.c Nk (.c aaJ (.c ahi .nil))))
theorem ahj:CO 126 [.str [45,50]] (.ret (.tup [Ω true [2] [1],.bool true])):=cK (.c aaT (.c ahh (.c GY (.c aaG .nil))))
theorem ahk:aj prog ap 91 [.ptr 0 0 0] (rB [45,50,41] 1 3 bX) (.ret (Ω true [2] [1])) (rB [41] 1 3 bX):=cK (.c ahj (.c ahf .nil))
theorem ahl:aj prog ap 90 [.ptr 0 0 0,.str [100]] (rB [41] 1 3 bX) (.ret (.bool false)) (rB [41] 1 3 bX):=cK (.nil)
theorem ahm:aj prog ap 56 [.ptr 0 0 0] (rB [45,50,41] 1 2 bX) (.ret (.tup [])) [⟨[.str [41],.ref 1 1 0 2,ω 3,.bool false],0,false,0,0,false⟩,⟨Yz,1,false,0,5,true⟩]:=cK (.c ahl (.c ahk (.c ahe .nil)))
theorem ahn:aj prog ap 90 [.ptr 0 0 0,.str [41]] (rB [41] 2 3 Yz) (.ret (.bool true)) (rB [] 2 3 Yz):=cK (.nil)
theorem aho:aj prog ap 56 [.ptr 0 0 0] (rA F9 0) (.ret (.tup [])) [⟨[.str [],.ref 1 0 0 3,ω 3,.bool false],0,false,0,0,false⟩,⟨(aP zV),0,false,0,5,true⟩]:=cK (.c ahn (.c wI (.c wI (.c ahm (.c ahd (.c wI (.c ahc (.c ag8 (.c wI (.c Ni (.c Rp (.c yF (.c AC (.c AB (.c AA (.c Az (.c Ay (.c Aw (.c Av (.c yE (.c yD (.c Au (.c Ar (.c xe (.c k9 (.c k8 (.c k7 (.c k6 (.c k5 (.c k4 (.c k3 (.c ag7 (.c ag6 (.c ag5 .nil))))))))))))))))))))))))))))))))))
theorem ahp:CO 105 [Ω true [2] [1]] (.ret (.bool true)):=dD (jN true [2] [1] (by decide) (by decide)) (by kernel_rfl)
theorem ahq:CO 74 [.agg [ω 3,.bool true,.str [2],.str [1],.str []]] (.ret (.bool true)):=cK (.c ahp (.c Rm .nil))
theorem ahr:CO 48 [.sl (aP zV) 3 true] (.ret (ω 0)):=cK (.c wI (.c G1 (.c aaS (.c Rp (.c Rn (.c G1 (.c ahq (.c aaL (.c mY (.c PJ (.c Rq (.c BK .nil))))))))))))
theorem ahs:CO 57 [.sl (aP zV) 3 true] (.ret (.tup [.str F9,ω 0])):=cK (.c Ni (.c WO (.c xe (.c wI (.c aaT (.c Rm (.c aaN (.c Rn (.c AE (.c LL (.c k4 (.c mY (.c ahr .nil)))))))))))))
theorem aht:CO 27 [.str F9] (.ret (.tup [.sl (aP zV) 3 true,ω 0])):=cK (.c ahs (.c aho .nil))
theorem ahu:CO 14 [.sl (aP zV) 3 true,.sl [.str [120],ω 0,ω 0,.sl zcc4_1 2 true] 1 true,ω 6,.str [97]] (.ret (ω 2)):=aj.args (args:= [.sl (aP zV) 3 true,.sl [.str [120],ω 0,ω 0,.sl zcc4_1 2 false] 1 true,ω 6,.str [97]]) (.cons (aN.refl _) (.cons (aN.slP (.same (.same (.same (.sl .nil))))) (.cons (aN.refl _) (.cons (aN.refl _) .nil)))) (dD (bG zV true oz true kP 6 [97] (f_ (by kernel_rfl)) (by decide) (by decide) (dY)) (by kernel_rfl))
theorem ahv:CO 26 [.str F9,.str [97],ω 2] (.ret (.bool true)):=cK (.c ahu (.c Nl (.c aht .nil)))
theorem ahw:aj prog ap 90 [.ptr 0 0 0,.str [36]] (rA TR 1) (.ret (.bool false)) (rA TR 1):=cK (.nil)
theorem ahx:aj prog ap 92 [.ptr 0 0 0,.str lI] (rA TR 1) (.ret (.str [105,102])) (rA zs3 1):=dD (dI TR lI (1) false (by decide) (by decide)) (by kernel_rfl)
theorem ahy:aj prog ap 90 [.ptr 0 0 0,.str [46]] (rA zs3 1) (.ret (.bool false)) (rA zs3 1):=cK (.nil)
theorem aaU:CO 32 [ω 15] (.ret (.bool false)):=cK (.nil)
theorem WP:CO 34 [ω 15] (.ret (.bool false)):=cK (.nil)
theorem G0:CO 30 [ω 15] (.ret (ω 3)):=cK (.nil)
theorem ahz:aj prog ap 90 [.ptr 0 0 0,.str [40]] (rA zs3 1) (.ret (.bool true)) (rA Y1 1):=cK (.nil)
theorem ahA:aj prog ap 90 [.ptr 0 0 0,.str [36]] (rA Y1 2) (.ret (.bool false)) (rA Y1 2):=cK (.nil)
theorem ahB:aj prog ap 92 [.ptr 0 0 0,.str lI] (rA Y1 2) (.ret (.str ad_)) (rA zs6 2):=dD (dI Y1 lI (2) false (by decide) (by decide)) (by kernel_rfl)
theorem ahC:aj prog ap 90 [.ptr 0 0 0,.str [46]] (rA zs6 2) (.ret (.bool false)) (rA zs6 2):=cK (.nil)
theorem aaV:CO 32 [ω 16] (.ret (.bool false)):=cK (.nil)
theorem WQ:CO 34 [ω 16] (.ret (.bool false)):=cK (.nil)
theorem Ks:CO 30 [ω 16] (.ret (ω 2)):=cK (.nil)
theorem ahD:aj prog ap 90 [.ptr 0 0 0,.str [40]] (rA zs6 2) (.ret (.bool true)) (rA Y2 2):=cK (.nil)
theorem ahE:aj prog ap 90 [.ptr 0 0 0,.str [36]] (rA Y2 3) (.ret (.bool false)) (rA Y2 3):=cK (.nil)
theorem ahF:aj prog ap 92 [.ptr 0 0 0,.str lI] (rA Y2 3) (.ret (.str [111,119,110])) (rA ad2 3):=dD (dI Y2 lI (3) false (by decide) (by decide)) (by kernel_rfl)
theorem ahG:aj prog ap 90 [.ptr 0 0 0,.str [46]] (rA ad2 3) (.ret (.bool true)) (rA YA 3):=cK (.nil)
theorem ahH:aj prog ap 92 [.ptr 0 0 0,.str xz] (rA YA 3) (.ret (.str [97])) (rA YB 3):=dD (dI YA xz (3) false (by decide) (by decide)) (by kernel_rfl)
theorem ahI:aj prog ap 56 [.ptr 0 0 0] (rA Y2 2) (.ret (.tup [])) (rB YB 1 3 bX):=cK (.c mY (.c mY (.c AE (.c ahH (.c BK (.c yF (.c AC (.c AB (.c AA (.c Az (.c Ay (.c Aw (.c Av (.c yE (.c yD (.c Au (.c Ar (.c xe (.c k9 (.c k8 (.c k7 (.c k6 (.c k5 (.c k4 (.c k3 (.c ahG (.c ahF (.c ahE .nil))))))))))))))))))))))))))))
theorem ahJ:aj prog ap 90 [.ptr 0 0 0,.str [44,32]] (rB YB 1 3 bX) (.ret (.bool true)) (rB TU 1 3 bX):=cK (.nil)
theorem ahK:aj prog ap 90 [.ptr 0 0 0,.str [36]] (rB TU 1 4 bX) (.ret (.bool true)) (rB PA 1 4 bX):=cK (.nil)
theorem ahL:aj prog ap 92 [.ptr 0 0 0,.str wP] (rB PA 1 4 bX) (.ret (.str [51])) (rB LA 1 4 bX):=dD (gu PA wP (4) false 1 bX (by decide) (by decide)) (by kernel_rfl)
theorem aaW:CO 49 [ω 3] (.ret (.str [3])):=dD (cH 3 (by decide)) (by kernel_rfl)
theorem WR:CO 76 [.str [3]] (.ret (.str [3])):=cK (.nil)
theorem aaX:CO 107 [.str [3]] (.ret (.tup [ω 3,.bool true])):=cK (.c WR .nil)
theorem ahM:CO 77 [.str [3],ω 7] (.ret (.tup [ω 3,.bool true])):=cK (.c aaX (.c WR .nil))
theorem ahN:CO 61 [.str [],.str [3]] (.ret (.str [3])):=cK (.c aaW (.c ahM (.c Kr .nil)))
theorem ahO:CO 157 [.str [51]] (.ret (.tup [.str [3],.bool true])):=cK (.c ahN (.c aaW (.c Nf (.c PK .nil))))
theorem ahP:CO 128 [.str [3]] (.ret (.bool true)):=dD (sH [3]) (by kernel_rfl)
theorem ahQ:CO 51 [.bool false,.str [3],.str [1]] (.ret (Ω false [3] [1])):=dD (dC false 3 1 (bO (by decide)) (bO (by decide)) (by decide)) (by kernel_rfl)
theorem ahR:CO 96 [.bool false,.str [3],.str [1]] (.ret (.tup [Ω false [3] [1],.bool true])):=cK (.c ahQ (.c GZ (.c ahP .nil)))
theorem ahS:CO 70 [Ω false [3] [1]] (.ret (Ω false [3] [1])):=dD (eY false [3] [1] (by decide) (by decide)) (by kernel_rfl)
theorem ahT:CO 81 [.str [3],.str [10]] (.ret (.tup [.str [],.str [3],.bool true])):=dD (nQ [3] [10] (by decide) (by decide) (by decide)) (by kernel_rfl)
theorem ahU:CO 127 [.str [3]] (.ret (.str [51])):=cK (.c aaX (.c ahT (.c PK (.c WR .nil))))
theorem aaY:CO 95 [Ω false [3] [1]] (.ret (.str [51])):=cK (.c Ng (.c Nk (.c ahU (.c ahS .nil))))
theorem ahV:CO 126 [.str [51]] (.ret (.tup [Ω false [3] [1],.bool true])):=cK (.c aaY (.c ahR (.c GY (.c ahO .nil))))
theorem ahW:aj prog ap 91 [.ptr 0 0 0] (rB PA 1 4 bX) (.ret (Ω false [3] [1])) (rB LA 1 4 bX):=cK (.c ahV (.c ahL .nil))
theorem aaZ:aG prog ap (rB TU 1 3 bX) 206 (pU 5 (af f56)) ⟨([(0,.ptr 0 0 0),(2,.bool true)]++dE [3,4,5,6,7,8,9,10,11,12,13,14,15]++ [(41,.bool false),(47,.bool true)]++dE [65,70,100,102,117,122,128,133,139,145,158,166,170,175,184,188,192]),[(0,⟨[.str PA,.ref 1 0 0 1,ω 4,.bool false],0,false,0,0,false⟩),(1,⟨bX,0,false,0,5,true⟩)],.dead,[]⟩ (.normal) ⟨([(0,.ptr 0 0 0),(2,.bool true)]++dE [3,4,5,6,7,8,9,10,11,12,13,14,15]++ [(41,.bool false),(47,.bool true)]++dE [65,70,100,102,117,122,128,133,139,145,158,166,170,175,184,188,192]),[(0,⟨[.str LA,.ref 1 1 0 2,ω 4,.bool false],0,false,0,0,false⟩),(1,⟨zo9,1,false,0,5,true⟩)],.dead,[]⟩:=fun nt a=>xq CZ (keep:=px ap 56) (i:=4) (b:=0) (d:=52) (nt0:=206) (ans:= [(.ret (Ω false [3] [1]),(rB LA 1 4 bX))]) (.cons (rfl:(.ref 1 0 0 1:AV)=(.ref 1 0 0 1:AV)) (.cons (rfl:(.ref 1 0 0 1:AV)=(.ref 1 0 0 1:AV)) (.cons ahW .nil))) a (by kernel_rfl)
theorem ahX:aj prog ap 56 [.ptr 0 0 0] (rB TU 1 3 bX) (.ret (.tup [])) [⟨[.str LA,.ref 1 1 0 2,ω 4,.bool false],0,false,0,0,false⟩,⟨zo9,1,false,0,5,true⟩]:=pK [1005] 4 8 (.n 9 .nil) (.l aaZ (.c ahK .nil))
theorem ahY:aj prog ap 90 [.ptr 0 0 0,.str [41]] (rB LA 2 4 zo9) (.ret (.bool true)) (rB YC 2 4 zo9):=cK (.nil)
theorem ahZ:aj prog ap 56 [.ptr 0 0 0] (rA Y1 1) (.ret (.tup [])) (rB YC 3 4 JJ):=cK (.c ahY (.c Ks (.c Ks (.c ahX (.c ahJ (.c Ks (.c ahI (.c ahD (.c Ks (.c WQ (.c aaV (.c yF (.c AC (.c AB (.c AA (.c Az (.c Ay (.c Aw (.c Av (.c yE (.c yD (.c Au (.c Ar (.c xe (.c k9 (.c k8 (.c k7 (.c k6 (.c k5 (.c k4 (.c k3 (.c ahC (.c ahB (.c ahA .nil))))))))))))))))))))))))))))))))))
theorem ah0:aj prog ap 90 [.ptr 0 0 0,.str [44,32]] (rB YC 3 4 JJ) (.ret (.bool true)) (rB LC 3 4 JJ):=cK (.nil)
theorem ah1:aj prog ap 90 [.ptr 0 0 0,.str [36]] (rB LC 3 5 JJ) (.ret (.bool false)) (rB LC 3 5 JJ):=cK (.nil)
theorem ah2:aj prog ap 92 [.ptr 0 0 0,.str lI] (rB LC 3 5 JJ) (.ret (.str [111,119,110])) (rB ad9 3 5 JJ):=dD (gu LC lI (5) false 3 JJ (by decide) (by decide)) (by kernel_rfl)
theorem ah3:aj prog ap 90 [.ptr 0 0 0,.str [46]] (rB ad9 3 5 JJ) (.ret (.bool true)) (rB YK 3 5 JJ):=cK (.nil)
theorem ah4:aj prog ap 92 [.ptr 0 0 0,.str xz] (rB YK 3 5 JJ) (.ret (.str [98])) (rB YM 3 5 JJ):=dD (gu YK xz (5) false 3 JJ (by decide) (by decide)) (by kernel_rfl)
theorem ah5:aj prog ap 56 [.ptr 0 0 0] (rB LC 3 4 JJ) (.ret (.tup [])) [⟨[.str YM,.ref 1 1 0 4,ω 5,.bool false],0,false,0,0,false⟩,⟨JI,1,false,0,5,true⟩]:=cK (.c mY (.c mY (.c AE (.c ah4 (.c BK (.c yF (.c AC (.c AB (.c AA (.c Az (.c Ay (.c Aw (.c Av (.c yE (.c yD (.c Au (.c Ar (.c xe (.c k9 (.c k8 (.c k7 (.c k6 (.c k5 (.c k4 (.c k3 (.c ah3 (.c ah2 (.c ah1 .nil))))))))))))))))))))))))))))
theorem ah6:aj prog ap 90 [.ptr 0 0 0,.str [44,32]] (rB YM 4 5 JI) (.ret (.bool true)) (rB [36,48,41] 4 5 JI):=cK (.nil)
theorem ah7:aj prog ap 90 [.ptr 0 0 0,.str [36]] (rB [36,48,41] 4 6 JI) (.ret (.bool true)) (rB [48,41] 4 6 JI):=cK (.nil)
theorem ah8:aj prog ap 92 [.ptr 0 0 0,.str wP] (rB [48,41] 4 6 JI) (.ret (.str [48])) (rB [41] 4 6 JI):=dD (gu [48,41] wP (6) false 4 JI (by decide) (by decide)) (by kernel_rfl)
theorem ah9:CO 61 [.str [],.str []] (.ret (.str [])):=cK (.c Ri (.c Kr (.c Kr .nil)))
theorem ah_:CO 157 [.str [48]] (.ret (.tup [.str [],.bool true])):=cK (.c ah9 (.c Ri (.c Nf (.c PK .nil))))
theorem aia:CO 128 [.str []] (.ret (.bool true)):=dD (sH []) (by kernel_rfl)
theorem aib:CO 51 [.bool false,.str [],.str [1]] (.ret (Ω false [] [1])):=dD (dC false 0 1 (bO (by decide)) (bO (by decide)) (by decide)) (by kernel_rfl)
theorem aic:CO 96 [.bool false,.str [],.str [1]] (.ret (.tup [Ω false [] [1],.bool true])):=cK (.c aib (.c GZ (.c aia .nil)))
theorem aid:CO 70 [Ω false [] [1]] (.ret (Ω false [] [1])):=dD (eY false [] [1] (by decide) (by decide)) (by kernel_rfl)
theorem aie:CO 127 [.str []] (.ret (.str [48])):=cK (.c Rh .nil)
theorem aa0:CO 95 [Ω false [] [1]] (.ret (.str [48])):=cK (.c Ng (.c Nk (.c aie (.c aid .nil))))
theorem aif:CO 126 [.str [48]] (.ret (.tup [Ω false [] [1],.bool true])):=cK (.c aa0 (.c aic (.c GY (.c ah_ .nil))))
theorem aig:aj prog ap 91 [.ptr 0 0 0] (rB [48,41] 4 6 JI) (.ret (Ω false [] [1])) (rB [41] 4 6 JI):=cK (.c aif (.c ah8 .nil))
theorem aa1:aG prog ap (rB [36,48,41] 4 5 JI) 206 (pU 5 (af f56)) ⟨([(0,.ptr 0 0 0),(2,.bool true)]++dE [3,4,5,6,7,8,9,10,11,12,13,14,15]++ [(41,.bool false),(47,.bool true)]++dE [65,70,100,102,117,122,128,133,139,145,158,166,170,175,184,188,192]),[(0,⟨[.str [48,41],.ref 1 0 0 4,ω 6,.bool false],0,false,0,0,false⟩),(1,⟨JI,0,false,0,5,true⟩)],.dead,[]⟩ (.normal) ⟨([(0,.ptr 0 0 0),(2,.bool true)]++dE [3,4,5,6,7,8,9,10,11,12,13,14,15]++ [(41,.bool false),(47,.bool true)]++dE [65,70,100,102,117,122,128,133,139,145,158,166,170,175,184,188,192]),[(0,⟨[.str [41],.ref 1 1 0 5,ω 6,.bool false],0,false,0,0,false⟩),(1,⟨zo0,1,false,0,5,true⟩)],.dead,[]⟩:=fun nt a=>xq CZ (keep:=px ap 56) (i:=4) (b:=0) (d:=52) (nt0:=206) (ans:= [(.ret (Ω false [] [1]),(rB [41] 4 6 JI))]) (.cons (rfl:(.ref 1 0 0 4:AV)=(.ref 1 0 0 4:AV)) (.cons (rfl:(.ref 1 0 0 4:AV)=(.ref 1 0 0 4:AV)) (.cons aig .nil))) a (by kernel_rfl)
theorem aih:aj prog ap 56 [.ptr 0 0 0] (rB [36,48,41] 4 5 JI) (.ret (.tup [])) [⟨[.str [41],.ref 1 1 0 5,ω 6,.bool false],0,false,0,0,false⟩,⟨zo0,1,false,0,5,true⟩]:=pK [1005] 4 8 (.n 9 .nil) (.l aa1 (.c ah7 .nil))
theorem aii:aj prog ap 90 [.ptr 0 0 0,.str [41]] (rB [41] 5 6 zo0) (.ret (.bool true)) (rB [] 5 6 zo0):=cK (.nil)
theorem aij:aj prog ap 56 [.ptr 0 0 0] (rA TR 0) (.ret (.tup [])) [⟨[.str [],.ref 1 0 0 6,ω 6,.bool false],0,false,0,0,false⟩,⟨(aP rG),0,false,0,5,true⟩]:=cK (.c aii (.c G0 (.c G0 (.c aih (.c ah6 (.c G0 (.c ah5 (.c ah0 (.c G0 (.c ahZ (.c ahz (.c G0 (.c WP (.c aaU (.c yF (.c AC (.c AB (.c AA (.c Az (.c Ay (.c Aw (.c Av (.c yE (.c yD (.c Au (.c Ar (.c xe (.c k9 (.c k8 (.c k7 (.c k6 (.c k5 (.c k4 (.c k3 (.c ahy (.c ahx (.c ahw .nil)))))))))))))))))))))))))))))))))))))
theorem aik:CO 105 [Ω false [3] [1]] (.ret (.bool true)):=dD (jN false [3] [1] (by decide) (by decide)) (by kernel_rfl)
theorem ail:CO 74 [.agg [ω 1,.bool false,.str [3],.str [1],.str []]] (.ret (.bool true)):=cK (.c aik (.c EK .nil))
theorem aa2:CO 94 [ω 16] (.ret (.bool false)):=cK (.nil)
theorem aim:CO 74 [.agg [ω 16,.bool false,.str [],.str [],.str []]] (.ret (.bool true)):=cK (.c WQ (.c aa2 .nil))
theorem ain:CO 74 [.agg [ω 6,.bool false,.str [],.str [],.str [98]]] (.ret (.bool true)):=cK (.c AE (.c LL .nil))
theorem aio:CO 105 [Ω false [] [1]] (.ret (.bool true)):=dD (jN false [] [1] (by decide) (by decide)) (by kernel_rfl)
theorem aip:CO 74 [.agg [ω 1,.bool false,.str [],.str [1],.str []]] (.ret (.bool true)):=cK (.c aio (.c EK .nil))
theorem aa3:CO 94 [ω 15] (.ret (.bool false)):=cK (.nil)
theorem aiq:CO 74 [.agg [ω 15,.bool false,.str [],.str [],.str []]] (.ret (.bool true)):=cK (.c WP (.c aa3 .nil))
theorem air:CO 48 [.sl (aP rG) 6 true] (.ret (ω 0)):=cK (.c G0 (.c G1 (.c aiq (.c aaU (.c EL (.c G1 (.c aip (.c Rl (.c mY (.c aaO (.c ain (.c BK (.c Ks (.c G1 (.c aim (.c aaV (.c EL (.c G1 (.c ail (.c Rl (.c mY (.c PJ (.c Rq (.c BK .nil))))))))))))))))))))))))
theorem ais:CO 57 [.sl (aP rG) 6 true] (.ret (.tup [.str TR,ω 0])):=cK (.c WP (.c aa3 (.c yD (.c G0 (.c aa0 (.c EK (.c Ro (.c EL (.c AE (.c LL (.c k4 (.c mY (.c WQ (.c aa2 (.c yE (.c Ks (.c aaY (.c EK (.c Ro (.c EL (.c AE (.c LL (.c k4 (.c mY (.c air .nil)))))))))))))))))))))))))
theorem aa4:CO 27 [.str TR] (.ret (.tup [.sl (aP rG) 6 true,ω 0])):=cK (.c ais (.c aij .nil))
theorem ait:CO 14 [.sl (aP rG) 6 true,.sl [.str [120],ω 0,ω 0,.sl zcc4_1 2 true] 1 true,ω 6,.str [97]] (.ret (ω 3)):=aj.args (args:= [.sl (aP rG) 6 true,.sl [.str [120],ω 0,ω 0,.sl zcc4_1 2 false] 1 true,ω 6,.str [97]]) (.cons (aN.refl _) (.cons (aN.slP (.same (.same (.same (.sl .nil))))) (.cons (aN.refl _) (.cons (aN.refl _) .nil)))) (dD (bG rG true oz true kP 6 [97] (f_ (by kernel_rfl)) (by decide) (by decide) (dY)) (by kernel_rfl))
theorem aiu:CO 26 [.str TR,.str [97],ω 3] (.ret (.bool true)):=cK (.c ait (.c Nl (.c aa4 .nil)))
theorem aiv:CO 14 [.sl (aP rG) 6 true,.sl [.str [120],ω 0,ω 0,.sl zcc4_1 2 true] 1 true,ω 6,.str [98]] (.ret (ω 1)):=aj.args (args:= [.sl (aP rG) 6 true,.sl [.str [120],ω 0,ω 0,.sl zcc4_1 2 false] 1 true,ω 6,.str [98]]) (.cons (aN.refl _) (.cons (aN.slP (.same (.same (.same (.sl .nil))))) (.cons (aN.refl _) (.cons (aN.refl _) .nil)))) (dD (bG rG true oz true kP 6 [98] (f_ (by kernel_rfl)) (by decide) (by decide) (dY)) (by kernel_rfl))
theorem aiw:CO 26 [.str TR,.str [98],ω 1] (.ret (.bool true)):=cK (.c aiv (.c Nl (.c aa4 .nil)))
theorem aix:aj prog ap 90 [.ptr 0 0 0,.str [36]] (rA F_ 1) (.ret (.bool false)) (rA F_ 1):=cK (.nil)
theorem aiy:aj prog ap 92 [.ptr 0 0 0,.str lI] (rA F_ 1) (.ret (.str [114,97,116,101])) (rA ad6 1):=dD (dI F_ lI (1) false (by decide) (by decide)) (by kernel_rfl)
theorem aiz:aj prog ap 90 [.ptr 0 0 0,.str [46]] (rA ad6 1) (.ret (.bool true)) (rA YI 1):=cK (.nil)
theorem aa5:CO 32 [ω 24] (.ret (.bool true)):=cK (.nil)
theorem aiA:aj prog ap 92 [.ptr 0 0 0,.str xz] (rA YI 1) (.ret (.str [120])) (rA ad7 1):=dD (dI YI xz (1) false (by decide) (by decide)) (by kernel_rfl)
theorem WS:CO 34 [ω 24] (.ret (.bool false)):=cK (.nil)
theorem Nj:CO 30 [ω 24] (.ret (ω 1)):=cK (.nil)
theorem aiB:aj prog ap 90 [.ptr 0 0 0,.str [40]] (rA ad7 1) (.ret (.bool true)) (rA oI 1):=cK (.nil)
theorem aiC:aj prog ap 90 [.ptr 0 0 0,.str [36]] (rA oI 2) (.ret (.bool false)) (rA oI 2):=cK (.nil)
theorem aiD:aj prog ap 92 [.ptr 0 0 0,.str lI] (rA oI 2) (.ret (.str [111,119,110])) (rA [46,97,41] 2):=dD (dI oI lI (2) false (by decide) (by decide)) (by kernel_rfl)
theorem aiE:aj prog ap 90 [.ptr 0 0 0,.str [46]] (rA [46,97,41] 2) (.ret (.bool true)) (rA [97,41] 2):=cK (.nil)
theorem aiF:aj prog ap 92 [.ptr 0 0 0,.str xz] (rA [97,41] 2) (.ret (.str [97])) (rA [41] 2):=dD (dI [97,41] xz (2) false (by decide) (by decide)) (by kernel_rfl)
theorem aiG:aj prog ap 56 [.ptr 0 0 0] (rA oI 1) (.ret (.tup [])) (rB [41] 1 2 bX):=cK (.c mY (.c mY (.c AE (.c aiF (.c BK (.c yF (.c AC (.c AB (.c AA (.c Az (.c Ay (.c Aw (.c Av (.c yE (.c yD (.c Au (.c Ar (.c xe (.c k9 (.c k8 (.c k7 (.c k6 (.c k5 (.c k4 (.c k3 (.c aiE (.c aiD (.c aiC .nil))))))))))))))))))))))))))))
theorem aiH:aj prog ap 90 [.ptr 0 0 0,.str [41]] (rB [41] 1 2 bX) (.ret (.bool true)) (rB [] 1 2 bX):=cK (.nil)
theorem aiI:aj prog ap 56 [.ptr 0 0 0] (rA F_ 0) (.ret (.tup [])) [⟨[.str [],.ref 1 0 0 2,ω 2,.bool false],0,false,0,0,false⟩,⟨(aP jC),0,false,0,5,true⟩]:=cK (.c aiH (.c Nj (.c Nj (.c aiG (.c aiB (.c Nj (.c WS (.c aiA (.c aa5 (.c yF (.c AC (.c AB (.c AA (.c Az (.c Ay (.c Aw (.c Av (.c yE (.c yD (.c Au (.c Ar (.c xe (.c k9 (.c k8 (.c k7 (.c k6 (.c k5 (.c k4 (.c k3 (.c aiz (.c aiy (.c aix .nil))))))))))))))))))))))))))))))))
theorem aa6:CO 94 [ω 24] (.ret (.bool false)):=cK (.nil)
theorem aiJ:CO 74 [.agg [ω 24,.bool false,.str [],.str [],.str [120]]] (.ret (.bool true)):=cK (.c WS (.c aa6 .nil))
theorem aiK:CO 75 [.str [120]] (.ret (.bool true)):=cK (.nil)
theorem aiL:CO 48 [.sl (aP jC) 2 true] (.ret (ω 0)):=cK (.c Nj (.c aiK (.c aiJ (.c aa5 (.c mY (.c PJ (.c Rq (.c BK .nil))))))))
theorem aiM:CO 57 [.sl (aP jC) 2 true] (.ret (.tup [.str F_,ω 0])):=cK (.c WS (.c aa6 (.c yF (.c Nj (.c AE (.c LL (.c k4 (.c mY (.c aiL .nil)))))))))
theorem aa7:CO 27 [.str F_] (.ret (.tup [.sl (aP jC) 2 true,ω 0])):=cK (.c aiM (.c aiI .nil))
theorem aiN:CO 14 [.sl (aP jC) 2 true,.sl [.str [120],ω 0,ω 0,.sl zcc4_1 2 true] 1 true,ω 6,.str [97]] (.ret (ω 1)):=aj.args (args:= [.sl (aP jC) 2 true,.sl [.str [120],ω 0,ω 0,.sl zcc4_1 2 false] 1 true,ω 6,.str [97]]) (.cons (aN.refl _) (.cons (aN.slP (.same (.same (.same (.sl .nil))))) (.cons (aN.refl _) (.cons (aN.refl _) .nil)))) (dD (bG jC true oz true kP 6 [97] (f_ (by kernel_rfl)) (by decide) (by decide) (dY)) (by kernel_rfl))
theorem aiO:CO 26 [.str F_,.str [97],ω 1] (.ret (.bool true)):=cK (.c aiN (.c Nl (.c aa7 .nil)))
theorem aiP:CO 36 [ω (-1)] (.ret (Ω true [1] [1])):=cK (.c Nk (.c aaB (.c Nk (.c Ri .nil))))
theorem aiQ:CO 70 [Ω true [1] [1]] (.ret (Ω true [1] [1])):=dD (eY true [1] [1] (by decide) (by decide)) (by kernel_rfl)
theorem aiR:CO 51 [.bool true,.str [1],.str [5]] (.ret (Ω true [1] [5])):=dD (dC true 1 5 (bO (by decide)) (bO (by decide)) (by decide)) (by kernel_rfl)
theorem aiS:CO 58 [Ω true [1] [1],Ω false [5] [1]] (.ret (.tup [Ω true [1] [5],.bool true])):=cK (.c aiR (.c k80 (.c k66 (.c k75 (.c aiQ .nil)))))
theorem aiT:CO 28 [ω (-1)] (.ret (.sl [.str [120],ω 0,ω 0,.sl zcc4_2 2 true] 1 true)):=cK (.c k74 (.c k83 (.c aiS (.c k74 (.c aiP (.c k73 (.c k58 (.c k57 .nil))))))))
theorem aiU:CO 14 [.sl (aP jC) 2 true,.sl [.str [120],ω 0,ω 0,.sl zcc4_2 2 true] 1 true,ω 6,.str [97]] (.ret (ω 3)):=aj.args (args:= [.sl (aP jC) 2 true,.sl [.str [120],ω 0,ω 0,.sl zcc4_2 2 false] 1 true,ω 6,.str [97]]) (.cons (aN.refl _) (.cons (aN.slP (.same (.same (.same (.sl .nil))))) (.cons (aN.refl _) (.cons (aN.refl _) .nil)))) (dD (bG jC true US true kP 6 [97] (f_ (by kernel_rfl)) (by decide) (by decide) (HC)) (by kernel_rfl))
theorem aiV:CO 14 [.sl (aP jC) 2 true,.nilS,ω 6,.str [97]] (.ret (ω 3)):=aj.args (args:= [.sl (aP jC) 2 true,.sl [] 0 false,ω 6,.str [97]]) (.cons (aN.refl _) (.cons (aN.nilS false rfl) (.cons (aN.refl _) (.cons (aN.refl _) .nil)))) (dD (bG jC true [] false kP 6 [97] (f_ (by kernel_rfl)) (by decide) (by decide) (p_)) (by kernel_rfl))
theorem aiW:CO 14 [.sl (aP jB) 3 true,.nilS,ω 5,.str [98]] (.ret (ω 3)):=aj.args (args:= [.sl (aP jB) 3 true,.sl [] 0 false,ω 5,.str [98]]) (.cons (aN.refl _) (.cons (aN.nilS false rfl) (.cons (aN.refl _) (.cons (aN.refl _) .nil)))) (dD (bG jB true [] false kP 5 [98] (f_ (by kernel_rfl)) (by decide) (by decide) (p_)) (by kernel_rfl))
theorem aiX:CO 17 [.sl (aP jC) 2 true,.sl [.str [120],ω 0,ω 0,.sl zcc4_1 2 true] 1 true,.sl [.str [97],.str [98]] 2 true] (.ret (.bool true)):=aj.args (args:= [.sl (aP jC) 2 true,.sl [.str [120],ω 0,ω 0,.sl zcc4_1 2 false] 1 true,.sl [.str [97],.str [98]] 2 true]) (.cons (aN.refl _) (.cons (aN.slP (.same (.same (.same (.sl .nil))))) (.cons (aN.refl _) .nil))) (dD (jb jC true oz true kP [[97],[98]] true (f_ (by kernel_rfl)) (by decide) (by decide) (dY) (by decide)) (by kernel_rfl))
theorem aiY:CO 17 [.sl (aP jB) 3 true,.nilS,.sl [.str [97]] 1 true] (.ret (.bool false)):=aj.args (args:= [.sl (aP jB) 3 true,.sl [] 0 false,.sl [.str [97]] 1 true]) (.cons (aN.refl _) (.cons (aN.nilS false rfl) (.cons (aN.refl _) .nil))) (dD (jb jB true [] false kP [[97]] true (f_ (by kernel_rfl)) (by decide) (by decide) (p_) (by decide)) (by kernel_rfl))
theorem aiZ:CO 17 [.sl (aP jB) 3 true,.nilS,.sl [.str [98]] 1 true] (.ret (.bool true)):=aj.args (args:= [.sl (aP jB) 3 true,.sl [] 0 false,.sl [.str [98]] 1 true]) (.cons (aN.refl _) (.cons (aN.nilS false rfl) (.cons (aN.refl _) .nil))) (dD (jb jB true [] false kP [[98]] true (f_ (by kernel_rfl)) (by decide) (by decide) (p_) (by decide)) (by kernel_rfl))
theorem ai0:CO 17 [.nilS,.nilS,.nilS] (.ret (.bool false)):=aj.args (args:= [.sl [] 0 false,.sl [] 0 false,.sl [] 0 false]) (.cons (aN.nilS false rfl) (.cons (aN.nilS false rfl) (.cons (aN.nilS false rfl) .nil))) (dD (jb [] false [] false kP [] false (f_ (by kernel_rfl)) (by decide) (by decide) (p_) (by decide)) (by kernel_rfl))
theorem ai1:CO 10 [] (.ret (.bool true)):=cK (.c ai0 (.c aiZ (.c aiY (.c aiX (.c Nl (.c aiW (.c aiV (.c aiU (.c aiT (.c aaP (.c aa7 (.c aiO (.c aiw (.c aiu (.c ahv (.c ag4 (.c agC (.c age (.c afk (.c k88 (.c k86 .nil)))))))))))))))))))))
theorem Ce:CO 10 [] (.ret (.bool true)):=ai1
theorem Pc (e:List Nd):ο (e.length*5) (aP e)=aP e:=Xqi (by rw [jf];omega)
theorem adT (qs:List Sq):ο (qs.length*4) (dB (qs.map Sq.c))=dB (qs.map Sq.c):=Xqi (by rw [kH,Xxp];omega)
theorem aj_ {x:List Value} (h:dJ [.int .i64] x):∃ a:Int,x.map lJ= [AV.int .i64 a]:=by
 rcases h with _|@⟨_,a,_,_,h⟩|_|_;cases h;exact ⟨a,rfl⟩
theorem aej (l:List Int):(l.flatMap fun a=> [ω a])=iL l:=by
 induction l with
 |nil=>rfl
 |cons a r ih=>rw [List.flatMap_cons,ih];rfl
theorem aky {x:List Value} (h:dJ [.int .i64,.int .i64,.int .i64] x):∃ q:Int × Int × Int,x.map lJ= [AV.int .i64 q.1,.int .i64 q.2.1,.int .i64 q.2.2]:=by
 rcases h with _|@⟨_,a,_,_,h⟩|_|_;rcases h with _|@⟨_,b,_,_,h⟩|_|_;rcases h with _|@⟨_,c,_,_,h⟩|_|_;cases h;exact ⟨(a,b,c),rfl⟩
abbrev EV:=Nat × Nd
def aeJ (a:List EV):Nat:=a.foldl (fun s q=>bW s q.1) 0
section
variable {ck:Sc→Int} {up:Sc→Bool} {sc:List Sc} {op:Int} {name:List UInt8}
end
section
variable {ck:Sc→Int} {up:Sc→Bool} {sc:List Sc}
theorem aay {a b:Nat} (h:a≤3) (c:b≤3):bW a b≤3:=by unfold bW;split;exact c;split;exact h;omega
theorem Ut:∀ (a:List EV) (s:Nat),s≤3→(∀ q ∈ a,q.1≤3)→a.foldl (fun s q=>bW s q.1) s≤3
 | [],_,hs,_=>hs
 |q::r,s,hs,h=>Ut r _ (aay hs (h q (by simp))) fun x b=>h x (by simp [b])
theorem PX {a:List EV} (h:∀ q ∈ a,q.1≤3):aeJ a≤3:=Ut a 0 (by omega) h
end
theorem fL (i n:Nat):ω (Xq4 (i:Int) (n:Int))= ω (((i % n:Nat):Nat):Int):=by
 congr 1
theorem aT (k:Nat) {s:List UInt8} (h:ul (aI (k:Int) 6)=s):CO 33 [ω (k:Int)] (.ret (.str s)):=h ▸ xj (k:Int)
theorem abb (ts:List (Int × Int × Int)) (e:Bool) (q:Nat→Int × Int × Int) (r:Nat→List AV) (w:Nat→RQ) (h:0<ts.length) (c:∀ i,(ε ((δ (((i % ts.length:Nat):Nat):Int))*3) (tL ts))= [ω (q i).1,ω (q i).2.1,ω (q i).2.2]++r i) (d:∀ i,CO 19 [.agg [ω (q i).1,ω (q i).2.1,ω (q i).2.2]] (.ret (.agg [.bool (w i).neg,.str (aa (w i).n),.str (aa (w i).d)]))) (b:(decide (((0:Nat):Int)<(ts.length:Int)))=true) (a:(!((ts.length:Int)==((0:Nat):Int)))=true):CO 23 [.sl (tL ts) ts.length e] (.ret (.own [ω 5,.str [97],.bool (w 30).neg,.str (aa (w 30).n),.str (aa (w 30).d),ω 0,ω 5,.str [98],.bool (w 31).neg,.str (aa (w 31).n),.str (aa (w 31).d),ω 0,ω 5,.str [116,97,120],.bool (w 32).neg,.str (aa (w 32).n),.str (aa (w 32).d),ω 0,ω 5,.str [119,97,103,101],.bool (w 33).neg,.str (aa (w 33).n),.str (aa (w 33).d),ω 0,ω 5,.str [120,95,49],.bool (w 34).neg,.str (aa (w 34).n),.str (aa (w 34).d),ω 0,ω 5,.str zcc4_0,.bool (w 35).neg,.str (aa (w 35).n),.str (aa (w 35).d),ω 0,ω 6,.str [97],.bool (w 36).neg,.str (aa (w 36).n),.str (aa (w 36).d),ω 0,ω 6,.str [98],.bool (w 37).neg,.str (aa (w 37).n),.str (aa (w 37).d),ω 0,ω 6,.str [116,97,120],.bool (w 38).neg,.str (aa (w 38).n),.str (aa (w 38).d),ω 0,ω 6,.str [119,97,103,101],.bool (w 39).neg,.str (aa (w 39).n),.str (aa (w 39).d),ω 0,ω 6,.str [120,95,49],.bool (w 40).neg,.str (aa (w 40).n),.str (aa (w 40).d),ω 0,ω 6,.str zcc4_0,.bool (w 41).neg,.str (aa (w 41).n),.str (aa (w 41).d),ω 0,ω 7,.str [97],.bool (w 42).neg,.str (aa (w 42).n),.str (aa (w 42).d),ω 0,ω 7,.str [98],.bool (w 43).neg,.str (aa (w 43).n),.str (aa (w 43).d),ω 0,ω 7,.str [116,97,120],.bool (w 44).neg,.str (aa (w 44).n),.str (aa (w 44).d),ω 0,ω 7,.str [119,97,103,101],.bool (w 45).neg,.str (aa (w 45).n),.str (aa (w 45).d),ω 0,ω 7,.str [120,95,49],.bool (w 46).neg,.str (aa (w 46).n),.str (aa (w 46).d),ω 0,ω 7,.str zcc4_0,.bool (w 47).neg,.str (aa (w 47).n),.str (aa (w 47).d),ω 0,ω 8,.str [97],.bool (w 48).neg,.str (aa (w 48).n),.str (aa (w 48).d),ω 0,ω 8,.str [98],.bool (w 49).neg,.str (aa (w 49).n),.str (aa (w 49).d),ω 0,ω 8,.str [116,97,120],.bool (w 50).neg,.str (aa (w 50).n),.str (aa (w 50).d),ω 0,ω 8,.str [119,97,103,101],.bool (w 51).neg,.str (aa (w 51).n),.str (aa (w 51).d),ω 0,ω 8,.str [120,95,49],.bool (w 52).neg,.str (aa (w 52).n),.str (aa (w 52).d),ω 0,ω 8,.str zcc4_0,.bool (w 53).neg,.str (aa (w 53).n),.str (aa (w 53).d),ω 0] 24 6)):=pK [] 58 72053195722964983 (.k 13 (bw (53 % ts.length)) (.c (aF (Xqh 53 h)) (.c a (.c (aw b) (.k 13 (bw (52 % ts.length)) (.c (aF (Xqh 52 h)) (.c a (.c (aw b) (.k 13 (bw (51 % ts.length)) (.c (aF (Xqh 51 h)) (.c a (.c (aw b) (.k 13 (bw (50 % ts.length)) (.c (aF (Xqh 50 h)) (.c a (.c (aw b) (.k 13 (bw (49 % ts.length)) (.c (aF (Xqh 49 h)) (.c a (.c (aw b) (.k 13 (bw (48 % ts.length)) (.c (aF (Xqh 48 h)) (.c a (.c (aw b) (.k 15 (bw (47 % ts.length)) (.c (aF (Xqh 47 h)) (.c a (.c (aw b) (.k 13 (bw (46 % ts.length)) (.c (aF (Xqh 46 h)) (.c a (.c (aw b) (.k 13 (bw (45 % ts.length)) (.c (aF (Xqh 45 h)) (.c a (.c (aw b) (.k 13 (bw (44 % ts.length)) (.c (aF (Xqh 44 h)) (.c a (.c (aw b) (.k 13 (bw (43 % ts.length)) (.c (aF (Xqh 43 h)) (.c a (.c (aw b) (.k 13 (bw (42 % ts.length)) (.c (aF (Xqh 42 h)) (.c a (.c (aw b) (.k 15 (bw (41 % ts.length)) (.c (aF (Xqh 41 h)) (.c a (.c (aw b) (.k 13 (bw (40 % ts.length)) (.c (aF (Xqh 40 h)) (.c a (.c (aw b) (.k 13 (bw (39 % ts.length)) (.c (aF (Xqh 39 h)) (.c a (.c (aw b) (.k 13 (bw (38 % ts.length)) (.c (aF (Xqh 38 h)) (.c a (.c (aw b) (.k 13 (bw (37 % ts.length)) (.c (aF (Xqh 37 h)) (.c a (.c (aw b) (.k 13 (bw (36 % ts.length)) (.c (aF (Xqh 36 h)) (.c a (.c (aw b) (.k 15 (bw (35 % ts.length)) (.c (aF (Xqh 35 h)) (.c a (.c (aw b) (.k 13 (bw (34 % ts.length)) (.c (aF (Xqh 34 h)) (.c a (.c (aw b) (.k 13 (bw (33 % ts.length)) (.c (aF (Xqh 33 h)) (.c a (.c (aw b) (.k 13 (bw (32 % ts.length)) (.c (aF (Xqh 32 h)) (.c a (.c (aw b) (.k 13 (bw (31 % ts.length)) (.c (aF (Xqh 31 h)) (.c a (.c (aw b) (.k 12 (bw (30 % ts.length)) (.c (aF (Xqh 30 h)) (.c a (.c (aw b) (.n 3 .nil))))))))))))))))))))))))))))))))))))))))))))))))))))))))))))))))))))))))))))))))))))))))))))))))) (.c (aT 5 (s:= zcc4_0) rfl) (.c (d 53) (.v 28 (.ppt (c 53)) (.v 27 (.eq (fL 53 ts.length)) (.c (cQ 5 (by decide)) (.c (aT 4 (s:= [120,95,49]) rfl) (.c (d 52) (.v 28 (.ppt (c 52)) (.v 27 (.eq (fL 52 ts.length)) (.c (cQ 4 (by decide)) (.c (aT 3 (s:= [119,97,103,101]) rfl) (.c (d 51) (.v 28 (.ppt (c 51)) (.v 27 (.eq (fL 51 ts.length)) (.c (cQ 3 (by decide)) (.c (aT 2 (s:= [116,97,120]) rfl) (.c (d 50) (.v 28 (.ppt (c 50)) (.v 27 (.eq (fL 50 ts.length)) (.c (cQ 2 (by decide)) (.c (aT 1 (s:= [98]) rfl) (.c (d 49) (.v 28 (.ppt (c 49)) (.v 27 (.eq (fL 49 ts.length)) (.c (cQ 1 (by decide)) (.c (aT 0 (s:= [97]) rfl) (.c (d 48) (.v 28 (.ppt (c 48)) (.v 27 (.eq (fL 48 ts.length)) (.c (cQ 0 (by decide)) (.c (aT 5 (s:= zcc4_0) rfl) (.c (d 47) (.v 28 (.ppt (c 47)) (.v 27 (.eq (fL 47 ts.length)) (.c (cQ 5 (by decide)) (.c (aT 4 (s:= [120,95,49]) rfl) (.c (d 46) (.v 28 (.ppt (c 46)) (.v 27 (.eq (fL 46 ts.length)) (.c (cQ 4 (by decide)) (.c (aT 3 (s:= [119,97,103,101]) rfl) (.c (d 45) (.v 28 (.ppt (c 45)) (.v 27 (.eq (fL 45 ts.length)) (.c (cQ 3 (by decide)) (.c (aT 2 (s:= [116,97,120]) rfl) (.c (d 44) (.v 28 (.ppt (c 44)) (.v 27 (.eq (fL 44 ts.length)) (.c (cQ 2 (by decide)) (.c (aT 1 (s:= [98]) rfl) (.c (d 43) (.v 28 (.ppt (c 43)) (.v 27 (.eq (fL 43 ts.length)) (.c (cQ 1 (by decide)) (.c (aT 0 (s:= [97]) rfl) (.c (d 42) (.v 28 (.ppt (c 42)) (.v 27 (.eq (fL 42 ts.length)) (.c (cQ 0 (by decide)) (.c (aT 5 (s:= zcc4_0) rfl) (.c (d 41) (.v 28 (.ppt (c 41)) (.v 27 (.eq (fL 41 ts.length)) (.c (cQ 5 (by decide)) (.c (aT 4 (s:= [120,95,49]) rfl) (.c (d 40) (.v 28 (.ppt (c 40)) (.v 27 (.eq (fL 40 ts.length)) (.c (cQ 4 (by decide)) (.c (aT 3 (s:= [119,97,103,101]) rfl) (.c (d 39) (.v 28 (.ppt (c 39)) (.v 27 (.eq (fL 39 ts.length)) (.c (cQ 3 (by decide)) (.c (aT 2 (s:= [116,97,120]) rfl) (.c (d 38) (.v 28 (.ppt (c 38)) (.v 27 (.eq (fL 38 ts.length)) (.c (cQ 2 (by decide)) (.c (aT 1 (s:= [98]) rfl) (.c (d 37) (.v 28 (.ppt (c 37)) (.v 27 (.eq (fL 37 ts.length)) (.c (cQ 1 (by decide)) (.c (aT 0 (s:= [97]) rfl) (.c (d 36) (.v 28 (.ppt (c 36)) (.v 27 (.eq (fL 36 ts.length)) (.c (cQ 0 (by decide)) (.c (aT 5 (s:= zcc4_0) rfl) (.c (d 35) (.v 28 (.ppt (c 35)) (.v 27 (.eq (fL 35 ts.length)) (.c (cQ 5 (by decide)) (.c (aT 4 (s:= [120,95,49]) rfl) (.c (d 34) (.v 28 (.ppt (c 34)) (.v 27 (.eq (fL 34 ts.length)) (.c (cQ 4 (by decide)) (.c (aT 3 (s:= [119,97,103,101]) rfl) (.c (d 33) (.v 28 (.ppt (c 33)) (.v 27 (.eq (fL 33 ts.length)) (.c (cQ 3 (by decide)) (.c (aT 2 (s:= [116,97,120]) rfl) (.c (d 32) (.v 28 (.ppt (c 32)) (.v 27 (.eq (fL 32 ts.length)) (.c (cQ 2 (by decide)) (.c (aT 1 (s:= [98]) rfl) (.c (d 31) (.v 28 (.ppt (c 31)) (.v 27 (.eq (fL 31 ts.length)) (.c (cQ 1 (by decide)) (.c (aT 0 (s:= [97]) rfl) (.c (d 30) (.v 28 (.ppt (c 30)) (.v 27 (.eq (fL 30 ts.length)) (.c (cQ 0 (by decide)) .nil))))))))))))))))))))))))))))))))))))))))))))))))))))))))))))))))))))))))))))))))))))))))))))))))))))))))))))))))))))))))
theorem aba (ts:List (Int × Int × Int)) (b:Bool) (a:(decide (((0:Nat):Int)<(ts.length:Int)))=false):CO 23 [.sl (tL ts) ts.length b] (.ret (.own [ω 5,.str [97],.bool false,.str (aa 0),.str (aa 1),ω 0,ω 5,.str [98],.bool false,.str (aa 1),.str (aa 1),ω 0,ω 5,.str [116,97,120],.bool false,.str (aa 2),.str (aa 1),ω 0,ω 5,.str [119,97,103,101],.bool false,.str (aa 3),.str (aa 1),ω 0,ω 5,.str [120,95,49],.bool false,.str (aa 4),.str (aa 1),ω 0,ω 5,.str zcc4_0,.bool false,.str (aa 5),.str (aa 1),ω 0,ω 6,.str [97],.bool false,.str (aa 0),.str (aa 1),ω 0,ω 6,.str [98],.bool false,.str (aa 1),.str (aa 1),ω 0,ω 6,.str [116,97,120],.bool false,.str (aa 2),.str (aa 1),ω 0,ω 6,.str [119,97,103,101],.bool false,.str (aa 3),.str (aa 1),ω 0,ω 6,.str [120,95,49],.bool false,.str (aa 4),.str (aa 1),ω 0,ω 6,.str zcc4_0,.bool false,.str (aa 5),.str (aa 1),ω 0,ω 7,.str [97],.bool false,.str (aa 0),.str (aa 1),ω 0,ω 7,.str [98],.bool false,.str (aa 1),.str (aa 1),ω 0,ω 7,.str [116,97,120],.bool false,.str (aa 2),.str (aa 1),ω 0,ω 7,.str [119,97,103,101],.bool false,.str (aa 3),.str (aa 1),ω 0,ω 7,.str [120,95,49],.bool false,.str (aa 4),.str (aa 1),ω 0,ω 7,.str zcc4_0,.bool false,.str (aa 5),.str (aa 1),ω 0,ω 8,.str [97],.bool false,.str (aa 0),.str (aa 1),ω 0,ω 8,.str [98],.bool false,.str (aa 1),.str (aa 1),ω 0,ω 8,.str [116,97,120],.bool false,.str (aa 2),.str (aa 1),ω 0,ω 8,.str [119,97,103,101],.bool false,.str (aa 3),.str (aa 1),ω 0,ω 8,.str [120,95,49],.bool false,.str (aa 4),.str (aa 1),ω 0,ω 8,.str zcc4_0,.bool false,.str (aa 5),.str (aa 1),ω 0] 24 6)):=pK [] 58 24023596327605587 (.k 9 (ay a) (.k 9 (ay a) (.k 9 (ay a) (.k 9 (ay a) (.k 9 (ay a) (.k 9 (ay a) (.k 11 (ay a) (.k 9 (ay a) (.k 9 (ay a) (.k 9 (ay a) (.k 9 (ay a) (.k 9 (ay a) (.k 11 (ay a) (.k 9 (ay a) (.k 9 (ay a) (.k 9 (ay a) (.k 9 (ay a) (.k 9 (ay a) (.k 11 (ay a) (.k 9 (ay a) (.k 9 (ay a) (.k 9 (ay a) (.k 9 (ay a) (.k 8 (ay a) (.n 3 .nil))))))))))))))))))))))))) (.c (aT 5 (s:= zcc4_0) rfl) (.c (cQ 5 (by decide)) (.c (aT 4 (s:= [120,95,49]) rfl) (.c (cQ 4 (by decide)) (.c (aT 3 (s:= [119,97,103,101]) rfl) (.c (cQ 3 (by decide)) (.c (aT 2 (s:= [116,97,120]) rfl) (.c (cQ 2 (by decide)) (.c (aT 1 (s:= [98]) rfl) (.c (cQ 1 (by decide)) (.c (aT 0 (s:= [97]) rfl) (.c (cQ 0 (by decide)) (.c (aT 5 (s:= zcc4_0) rfl) (.c (cQ 5 (by decide)) (.c (aT 4 (s:= [120,95,49]) rfl) (.c (cQ 4 (by decide)) (.c (aT 3 (s:= [119,97,103,101]) rfl) (.c (cQ 3 (by decide)) (.c (aT 2 (s:= [116,97,120]) rfl) (.c (cQ 2 (by decide)) (.c (aT 1 (s:= [98]) rfl) (.c (cQ 1 (by decide)) (.c (aT 0 (s:= [97]) rfl) (.c (cQ 0 (by decide)) (.c (aT 5 (s:= zcc4_0) rfl) (.c (cQ 5 (by decide)) (.c (aT 4 (s:= [120,95,49]) rfl) (.c (cQ 4 (by decide)) (.c (aT 3 (s:= [119,97,103,101]) rfl) (.c (cQ 3 (by decide)) (.c (aT 2 (s:= [116,97,120]) rfl) (.c (cQ 2 (by decide)) (.c (aT 1 (s:= [98]) rfl) (.c (cQ 1 (by decide)) (.c (aT 0 (s:= [97]) rfl) (.c (cQ 0 (by decide)) (.c (aT 5 (s:= zcc4_0) rfl) (.c (cQ 5 (by decide)) (.c (aT 4 (s:= [120,95,49]) rfl) (.c (cQ 4 (by decide)) (.c (aT 3 (s:= [119,97,103,101]) rfl) (.c (cQ 3 (by decide)) (.c (aT 2 (s:= [116,97,120]) rfl) (.c (cQ 2 (by decide)) (.c (aT 1 (s:= [98]) rfl) (.c (cQ 1 (by decide)) (.c (aT 0 (s:= [97]) rfl) (.c (cQ 0 (by decide)) .nil))))))))))))))))))))))))))))))))))))))))))))))))
def UE (v:Nat→RQ) (i:Nat):Lk:=⟨((5+i / 6:Nat):Int),ul (i % 6),(v (30+i)).neg,aa (v (30+i)).n,aa (v (30+i)).d,0⟩
def yR (v:Nat→RQ):List Lk:=(Xq1 24).map (UE v)
def RM (a:Int × Int × Int):RQ:=il (decide (a.1<((0:Nat):Int))) (RL a.1 a.2.1 a.2.2) (PL a.1 a.2.1 a.2.2)
theorem abA {x y:Nat} (a:x<9223372036854775808) (b:y<9223372036854775808):CO 50 [.str (aa x),.str (aa y)] (.ret (.str (aa (x*y)))):=by
 have h:=E6 (aa x) (aa y) (by
  have:=bC (x:=x) (k:=8) (σ a (by decide));omega) (by
  have:=bC (x:=y) (k:=8) (σ b (by decide));omega)
 rw [aC,aC] at h;exact h
theorem Df (a:Int × Int × Int):(RM a).ok∧gU (RM a)=true∧CO 19 [.agg [ω a.1,ω a.2.1,ω a.2.2]] (.ret (.agg [.bool (RM a).neg,.str (aa (RM a).n),.str (aa (RM a).d)])):=by
 have hp:=De a.1 a.2.1 a.2.2;obtain ⟨c,b⟩:=IP a.1 a.2.1 a.2.2;refine ⟨lp hp, ?_,uh a.1 a.2.1 a.2.2 (fun _ x y d e=>abA d e)⟩;unfold gU RM il;simp only [π,decide_eq_true_eq];exact ⟨Xxa (fk (υ (Xji _ _) c)) (by decide),Xxa (fk (υ (Xji _ _) b)) (by decide)⟩
def ofV (i:Nat):RQ:=⟨false,i % 6,1⟩
theorem Ns (ts:List (Int × Int × Int)) (b:Bool):∃ v:Nat→RQ,(∀ i,(v i).ok∧gU (v i)=true)∧CO 23 [.sl (tL ts) ts.length b] (.ret (.own (fK (yR v)) 24 6)):=by
 rcases Ξ ts.length with h|h
 ·refine ⟨ofV,fun i=> ⟨⟨Nat.one_pos,Nat.gcd_one_right _,by simp [ofV]⟩, ?_⟩, ?_⟩
  ·have:i % 6<6:=Xqh _ (by decide);unfold gU ofV;simp only [π,decide_eq_true_eq];exact ⟨Xxa (fk (k:=3) (by omega)) (by decide),vT.1⟩
  ·have a:=aba ts b (Yq1 (by omega));exact a
 ·refine ⟨fun i=>RM (ts.getD (i % ts.length) (0,0,0)),fun i=> ⟨(Df _).1,(Df _).2.1⟩, ?_⟩;have a:=abb ts b (fun i=>ts.getD (i % ts.length) (0,0,0)) (fun i=>tL (ts.drop (i % ts.length+1))) (fun i=>RM (ts.getD (i % ts.length) (0,0,0))) h (fun i=>Jv (Xqh i h)) (fun i=>(Df _).2.2) (Yq0 (by omega)) (by
   rw [show ((ts.length:Int)==((0:Nat):Int))=false from beq_eq_false_iff_ne.2 (by omega)];rfl)
  exact a
abbrev A7 (L:List Lk) (k:Nat) (z:RQ):List AV:=(ο ((((0+(δ (k:Int)))*6)+2)+0) (fK L)++ [.bool z.neg,.str (aa z.n),.str (aa z.d)]++ε (((((0+(δ (k:Int)))*6)+2)+0)+3) (fK L))
theorem iH {s n:Nat} (h:((s:Int)==(n:Int))=true):s=n:=by have:=beq_iff_eq.1 h;omega
theorem dH {a:Int} (h:(a==((0:Nat):Int))=true):a=0:=by have:=beq_iff_eq.1 h;omega
theorem adp (w:List Int) (vs ts:List (Int × Int × Int)) (I G nt:Bool) (H K M J T D:Int) (e:List Nd) (qs:List Sq) (L:List Lk) (l:Lk) (k s:Nat) (z:RQ) (m n:Oq) (Q N O S R P:List AV) (b:(ε ((((0+(δ (k:Int)))*6)+2)+0) (fK L))= [.bool l.n,.str l.a,.str l.d]++O) (V:(ε (((0+(δ (k:Int)))*6)+0) (fK L))= [ω l.op]++Q) (U:(ε (((0+(δ (k:Int)))*6)+1) (fK L))= [.str l.nm]++N) (c:(ε ((((0+(δ (k:Int)))*6)+2)+0) (A7 L k z))= [.bool z.neg,.str (aa z.n),.str (aa z.d)]++P) (f:(ε (((0+(δ (k:Int)))*6)+0) (A7 L k z))= [ω l.op]++S) (d:(ε (((0+(δ (k:Int)))*6)+1) (A7 L k z))= [.str l.nm]++R) (i:Yjn (ο ((δ (if ((12:Nat):Int)<(vs.length:Int) then ((12:Nat):Int) else (vs.length:Int)))*3) (tL vs)) ((δ (if ((12:Nat):Int)<(vs.length:Int) then ((12:Nat):Int) else (vs.length:Int))) - 0) G=Yjn (tL (vs.take 12)) (vs.take 12).length G) (j:([]++(ο 144 (fK L)))=(fK L)) (g:ω (Xq4 (γ .i64 H) ((24:Nat):Int))=ω (k:Int)) (a:k<24) (r:(Xqn (η (ο 144 (fK L))) 144)=true) (u:(Xqk (((((0+(δ (k:Int)))*6)+2)+0)+3) (η (fK L)))=true) (p:(decide (((0:Nat):Int)≤(if ((12:Nat):Int)<(vs.length:Int) then ((12:Nat):Int) else (vs.length:Int))))=true) (t:(decide ((if ((12:Nat):Int)<(vs.length:Int) then ((12:Nat):Int) else (vs.length:Int))≤(vs.length:Int)))=true) (v:(decide (((0:Nat):Int)<T))=true) (hs:CO 10 [] (.ret (.bool true))) (C:CO 11 [.sl (iL w) w.length I] (.ret (.own (aP e) e.length 5))) (x:CO 12 [.sl (tL ts) ts.length nt] (.ret (.sl (dB (qs.map Sq.c)) qs.length false))) (q:CO 23 [.sl (tL (vs.take 12)) (vs.take 12).length G] (.ret (.own (fK L) 24 6))) (A:CO 19 [.agg [ω K,ω M,ω J]] (.ret (.agg [.bool z.neg,.str (aa z.n),.str (aa z.d)]))) (hp:CO 24 [.agg [.bool l.n,.str l.a,.str l.d],.agg [.bool z.neg,.str (aa z.n),.str (aa z.d)]] (.ret (ω T))) (y:CO 25 [.sl (ο (e.length*5) (aP e)) e.length true,.agg [.sl (ο 144 (A7 L k z)) 24 true,.sl (dB (qs.map Sq.c)) qs.length false]] (.ret (dQ m))) (B:CO 25 [.sl (ο (e.length*5) (aP e)) e.length true,.agg [.sl (ο 144 (fK L)) 24 true,.sl (dB (qs.map Sq.c)) qs.length false]] (.ret (dQ n))) (o:CO 14 [.sl (ο (e.length*5) (aP e)) e.length true,.sl (dB (qs.map Sq.c)) qs.length false,ω l.op,.str l.nm] (.ret (ω (s:Int)))) (F:CO 24 [.agg [.bool m.n,.str m.a,.str m.d],.agg [.bool n.n,.str n.a,.str n.d]] (.ret (ω D)))
  (H1:s=0→((m.n==n.n) && ((m.a==n.a) && ((m.d==n.d) && ((m.e==n.e) && true))))=true) (H2:m.e=0→n.e=0→(s=1→D≤((0:Nat):Int))∧(s=2→((0:Nat):Int)≤D)):CO 9 [.sl (iL w) w.length I,.sl (tL vs) vs.length G,.agg [.int .u8 H,ω K,ω M,ω J,.sl (tL ts) ts.length nt]] (.ret (.bool true)):=by
 rcases tf ((s:Int)==((0:Nat):Int)) with b0|b0
 ·rcases tf ((m.n==n.n) && ((m.a==n.a) && ((m.d==n.d) && ((m.e==n.e) && true)))) with b1|b1
  ·rcases tf (m.e==((0:Nat):Int)) with b2|b2
   ·rcases tf (n.e==((0:Nat):Int)) with b3|b3
    ·rcases tf ((s:Int)==((1:Nat):Int)) with b4|b4
     ·rcases tf (decide (D≤((0:Nat):Int))) with b5|b5
      ·rcases tf ((s:Int)==((2:Nat):Int)) with b6|b6
       ·have h:CO 9 [.sl (iL w) w.length I,.sl (tL vs) vs.length G,.agg [.int .u8 H,ω K,ω M,ω J,.sl (tL ts) ts.length nt]] (.ret (.bool (decide (((0:Nat):Int)≤D)))):=pK [] 9 163 (.c (aA b6) (.c (aw b5) (.c (aA b4) (.k 7 (aA b3) (.k 1 (aA b2) (.k 1 (aA b1) (.k 8 (aw b0) (.a (aD [.str] d rfl) (.c (bw k) (.c (aF a) (.n 1 (.a (aD [.int .i64] f rfl) (.c (bw k) (.c (aF a) (.k 13 (aw v) (.a (aD [.bool,.str,.str] c rfl) (.c (bw k) (.c (aF a) (.n 1 (.a (aD [.bool,.str,.str] b rfl) (.c (bw k) (.c (aF a) (.k 1 u (.c (bw k) (.c (aF a) (.k 8 r (.k 6 p (.c t (.n 1 .nil))))))))))))))))))))))))))))) (.c F (.c o (.v 90 (.rd1 .str d rfl) (.v 84 (.rd1 (.int .i64) f rfl) (.c B (.c y (.c hp (.v 66 (.rd [.bool,.str,.str] c rfl) (.v 59 (.rd [.bool,.str,.str] b rfl) (.c A (.v 43 (.eq g) (.b 34 j (.c q (.v 27 (.eq i) (.c x (.c C (.c hs .nil)))))))))))))))));rw [Yq0 ((H2 (dH b2) (dH b3)).2 (iH b6))] at h;exact h
       ·exact pK [] 9 419 (.c (bi b6) (.c (aw b5) (.c (aA b4) (.k 7 (aA b3) (.k 1 (aA b2) (.k 1 (aA b1) (.k 8 (aw b0) (.a (aD [.str] d rfl) (.c (bw k) (.c (aF a) (.n 1 (.a (aD [.int .i64] f rfl) (.c (bw k) (.c (aF a) (.k 13 (aw v) (.a (aD [.bool,.str,.str] c rfl) (.c (bw k) (.c (aF a) (.n 1 (.a (aD [.bool,.str,.str] b rfl) (.c (bw k) (.c (aF a) (.k 1 u (.c (bw k) (.c (aF a) (.k 8 r (.k 6 p (.c t (.n 1 .nil))))))))))))))))))))))))))))) (.c F (.c o (.v 90 (.rd1 .str d rfl) (.v 84 (.rd1 (.int .i64) f rfl) (.c B (.c y (.c hp (.v 66 (.rd [.bool,.str,.str] c rfl) (.v 59 (.rd [.bool,.str,.str] b rfl) (.c A (.v 43 (.eq g) (.b 34 j (.c q (.v 27 (.eq i) (.c x (.c C (.c hs .nil)))))))))))))))))
      ·exact absurd ((H2 (dH b2) (dH b3)).1 (iH b4)) (of_decide_eq_false b5)
     ·rcases tf ((s:Int)==((2:Nat):Int)) with b5|b5
      ·have h:CO 9 [.sl (iL w) w.length I,.sl (tL vs) vs.length G,.agg [.int .u8 H,ω K,ω M,ω J,.sl (tL ts) ts.length nt]] (.ret (.bool (decide (((0:Nat):Int)≤D)))):=pK [] 9 227 (.c (aA b5) (.k 1 (bi b4) (.k 7 (aA b3) (.k 1 (aA b2) (.k 1 (aA b1) (.k 8 (aw b0) (.a (aD [.str] d rfl) (.c (bw k) (.c (aF a) (.n 1 (.a (aD [.int .i64] f rfl) (.c (bw k) (.c (aF a) (.k 13 (aw v) (.a (aD [.bool,.str,.str] c rfl) (.c (bw k) (.c (aF a) (.n 1 (.a (aD [.bool,.str,.str] b rfl) (.c (bw k) (.c (aF a) (.k 1 u (.c (bw k) (.c (aF a) (.k 8 r (.k 6 p (.c t (.n 1 .nil)))))))))))))))))))))))))))) (.c F (.c o (.v 90 (.rd1 .str d rfl) (.v 84 (.rd1 (.int .i64) f rfl) (.c B (.c y (.c hp (.v 66 (.rd [.bool,.str,.str] c rfl) (.v 59 (.rd [.bool,.str,.str] b rfl) (.c A (.v 43 (.eq g) (.b 34 j (.c q (.v 27 (.eq i) (.c x (.c C (.c hs .nil)))))))))))))))));rw [Yq0 ((H2 (dH b2) (dH b3)).2 (iH b5))] at h;exact h
      ·exact pK [] 9 483 (.c (bi b5) (.k 1 (bi b4) (.k 7 (aA b3) (.k 1 (aA b2) (.k 1 (aA b1) (.k 8 (aw b0) (.a (aD [.str] d rfl) (.c (bw k) (.c (aF a) (.n 1 (.a (aD [.int .i64] f rfl) (.c (bw k) (.c (aF a) (.k 13 (aw v) (.a (aD [.bool,.str,.str] c rfl) (.c (bw k) (.c (aF a) (.n 1 (.a (aD [.bool,.str,.str] b rfl) (.c (bw k) (.c (aF a) (.k 1 u (.c (bw k) (.c (aF a) (.k 8 r (.k 6 p (.c t (.n 1 .nil)))))))))))))))))))))))))))) (.c F (.c o (.v 90 (.rd1 .str d rfl) (.v 84 (.rd1 (.int .i64) f rfl) (.c B (.c y (.c hp (.v 66 (.rd [.bool,.str,.str] c rfl) (.v 59 (.rd [.bool,.str,.str] b rfl) (.c A (.v 43 (.eq g) (.b 34 j (.c q (.v 27 (.eq i) (.c x (.c C (.c hs .nil)))))))))))))))))
    ·exact pK [] 5 19 (.c (bi b3) (.k 1 (aA b2) (.k 1 (aA b1) (.k 8 (aw b0) (.a (aD [.str] d rfl) (.c (bw k) (.c (aF a) (.n 1 (.a (aD [.int .i64] f rfl) (.c (bw k) (.c (aF a) (.k 13 (aw v) (.a (aD [.bool,.str,.str] c rfl) (.c (bw k) (.c (aF a) (.n 1 (.a (aD [.bool,.str,.str] b rfl) (.c (bw k) (.c (aF a) (.k 1 u (.c (bw k) (.c (aF a) (.k 8 r (.k 6 p (.c t (.n 1 .nil)))))))))))))))))))))))))) (.c o (.v 90 (.rd1 .str d rfl) (.v 84 (.rd1 (.int .i64) f rfl) (.c B (.c y (.c hp (.v 66 (.rd [.bool,.str,.str] c rfl) (.v 59 (.rd [.bool,.str,.str] b rfl) (.c A (.v 43 (.eq g) (.b 34 j (.c q (.v 27 (.eq i) (.c x (.c C (.c hs .nil))))))))))))))))
   ·exact pK [] 5 27 (.k 1 (bi b2) (.k 1 (aA b1) (.k 8 (aw b0) (.a (aD [.str] d rfl) (.c (bw k) (.c (aF a) (.n 1 (.a (aD [.int .i64] f rfl) (.c (bw k) (.c (aF a) (.k 13 (aw v) (.a (aD [.bool,.str,.str] c rfl) (.c (bw k) (.c (aF a) (.n 1 (.a (aD [.bool,.str,.str] b rfl) (.c (bw k) (.c (aF a) (.k 1 u (.c (bw k) (.c (aF a) (.k 8 r (.k 6 p (.c t (.n 1 .nil))))))))))))))))))))))))) (.c o (.v 90 (.rd1 .str d rfl) (.v 84 (.rd1 (.int .i64) f rfl) (.c B (.c y (.c hp (.v 66 (.rd [.bool,.str,.str] c rfl) (.v 59 (.rd [.bool,.str,.str] b rfl) (.c A (.v 43 (.eq g) (.b 34 j (.c q (.v 27 (.eq i) (.c x (.c C (.c hs .nil))))))))))))))))
  ·exact absurd (H1 (iH b0)) (by rw [b1];decide)
 ·rcases tf (m.e==((0:Nat):Int)) with b1|b1
  ·rcases tf (n.e==((0:Nat):Int)) with b2|b2
   ·rcases tf ((s:Int)==((1:Nat):Int)) with b3|b3
    ·rcases tf (decide (D≤((0:Nat):Int))) with b4|b4
     ·rcases tf ((s:Int)==((2:Nat):Int)) with b5|b5
      ·have h:CO 9 [.sl (iL w) w.length I,.sl (tL vs) vs.length G,.agg [.int .u8 H,ω K,ω M,ω J,.sl (tL ts) ts.length nt]] (.ret (.bool (decide (((0:Nat):Int)≤D)))):=pK [] 9 161 (.c (aA b5) (.c (aw b4) (.c (aA b3) (.k 7 (aA b2) (.k 1 (aA b1) (.k 2 (ay b0) (.a (aD [.str] d rfl) (.c (bw k) (.c (aF a) (.n 1 (.a (aD [.int .i64] f rfl) (.c (bw k) (.c (aF a) (.k 13 (aw v) (.a (aD [.bool,.str,.str] c rfl) (.c (bw k) (.c (aF a) (.n 1 (.a (aD [.bool,.str,.str] b rfl) (.c (bw k) (.c (aF a) (.k 1 u (.c (bw k) (.c (aF a) (.k 8 r (.k 6 p (.c t (.n 1 .nil)))))))))))))))))))))))))))) (.c F (.c o (.v 90 (.rd1 .str d rfl) (.v 84 (.rd1 (.int .i64) f rfl) (.c B (.c y (.c hp (.v 66 (.rd [.bool,.str,.str] c rfl) (.v 59 (.rd [.bool,.str,.str] b rfl) (.c A (.v 43 (.eq g) (.b 34 j (.c q (.v 27 (.eq i) (.c x (.c C (.c hs .nil)))))))))))))))));rw [Yq0 ((H2 (dH b1) (dH b2)).2 (iH b5))] at h;exact h
      ·exact pK [] 9 417 (.c (bi b5) (.c (aw b4) (.c (aA b3) (.k 7 (aA b2) (.k 1 (aA b1) (.k 2 (ay b0) (.a (aD [.str] d rfl) (.c (bw k) (.c (aF a) (.n 1 (.a (aD [.int .i64] f rfl) (.c (bw k) (.c (aF a) (.k 13 (aw v) (.a (aD [.bool,.str,.str] c rfl) (.c (bw k) (.c (aF a) (.n 1 (.a (aD [.bool,.str,.str] b rfl) (.c (bw k) (.c (aF a) (.k 1 u (.c (bw k) (.c (aF a) (.k 8 r (.k 6 p (.c t (.n 1 .nil)))))))))))))))))))))))))))) (.c F (.c o (.v 90 (.rd1 .str d rfl) (.v 84 (.rd1 (.int .i64) f rfl) (.c B (.c y (.c hp (.v 66 (.rd [.bool,.str,.str] c rfl) (.v 59 (.rd [.bool,.str,.str] b rfl) (.c A (.v 43 (.eq g) (.b 34 j (.c q (.v 27 (.eq i) (.c x (.c C (.c hs .nil)))))))))))))))))
     ·exact absurd ((H2 (dH b1) (dH b2)).1 (iH b3)) (of_decide_eq_false b4)
    ·rcases tf ((s:Int)==((2:Nat):Int)) with b4|b4
     ·have h:CO 9 [.sl (iL w) w.length I,.sl (tL vs) vs.length G,.agg [.int .u8 H,ω K,ω M,ω J,.sl (tL ts) ts.length nt]] (.ret (.bool (decide (((0:Nat):Int)≤D)))):=pK [] 9 225 (.c (aA b4) (.k 1 (bi b3) (.k 7 (aA b2) (.k 1 (aA b1) (.k 2 (ay b0) (.a (aD [.str] d rfl) (.c (bw k) (.c (aF a) (.n 1 (.a (aD [.int .i64] f rfl) (.c (bw k) (.c (aF a) (.k 13 (aw v) (.a (aD [.bool,.str,.str] c rfl) (.c (bw k) (.c (aF a) (.n 1 (.a (aD [.bool,.str,.str] b rfl) (.c (bw k) (.c (aF a) (.k 1 u (.c (bw k) (.c (aF a) (.k 8 r (.k 6 p (.c t (.n 1 .nil))))))))))))))))))))))))))) (.c F (.c o (.v 90 (.rd1 .str d rfl) (.v 84 (.rd1 (.int .i64) f rfl) (.c B (.c y (.c hp (.v 66 (.rd [.bool,.str,.str] c rfl) (.v 59 (.rd [.bool,.str,.str] b rfl) (.c A (.v 43 (.eq g) (.b 34 j (.c q (.v 27 (.eq i) (.c x (.c C (.c hs .nil)))))))))))))))));rw [Yq0 ((H2 (dH b1) (dH b2)).2 (iH b4))] at h;exact h
     ·exact pK [] 9 481 (.c (bi b4) (.k 1 (bi b3) (.k 7 (aA b2) (.k 1 (aA b1) (.k 2 (ay b0) (.a (aD [.str] d rfl) (.c (bw k) (.c (aF a) (.n 1 (.a (aD [.int .i64] f rfl) (.c (bw k) (.c (aF a) (.k 13 (aw v) (.a (aD [.bool,.str,.str] c rfl) (.c (bw k) (.c (aF a) (.n 1 (.a (aD [.bool,.str,.str] b rfl) (.c (bw k) (.c (aF a) (.k 1 u (.c (bw k) (.c (aF a) (.k 8 r (.k 6 p (.c t (.n 1 .nil))))))))))))))))))))))))))) (.c F (.c o (.v 90 (.rd1 .str d rfl) (.v 84 (.rd1 (.int .i64) f rfl) (.c B (.c y (.c hp (.v 66 (.rd [.bool,.str,.str] c rfl) (.v 59 (.rd [.bool,.str,.str] b rfl) (.c A (.v 43 (.eq g) (.b 34 j (.c q (.v 27 (.eq i) (.c x (.c C (.c hs .nil)))))))))))))))))
   ·exact pK [] 5 17 (.c (bi b2) (.k 1 (aA b1) (.k 2 (ay b0) (.a (aD [.str] d rfl) (.c (bw k) (.c (aF a) (.n 1 (.a (aD [.int .i64] f rfl) (.c (bw k) (.c (aF a) (.k 13 (aw v) (.a (aD [.bool,.str,.str] c rfl) (.c (bw k) (.c (aF a) (.n 1 (.a (aD [.bool,.str,.str] b rfl) (.c (bw k) (.c (aF a) (.k 1 u (.c (bw k) (.c (aF a) (.k 8 r (.k 6 p (.c t (.n 1 .nil))))))))))))))))))))))))) (.c o (.v 90 (.rd1 .str d rfl) (.v 84 (.rd1 (.int .i64) f rfl) (.c B (.c y (.c hp (.v 66 (.rd [.bool,.str,.str] c rfl) (.v 59 (.rd [.bool,.str,.str] b rfl) (.c A (.v 43 (.eq g) (.b 34 j (.c q (.v 27 (.eq i) (.c x (.c C (.c hs .nil))))))))))))))))
  ·exact pK [] 5 25 (.k 1 (bi b1) (.k 2 (ay b0) (.a (aD [.str] d rfl) (.c (bw k) (.c (aF a) (.n 1 (.a (aD [.int .i64] f rfl) (.c (bw k) (.c (aF a) (.k 13 (aw v) (.a (aD [.bool,.str,.str] c rfl) (.c (bw k) (.c (aF a) (.n 1 (.a (aD [.bool,.str,.str] b rfl) (.c (bw k) (.c (aF a) (.k 1 u (.c (bw k) (.c (aF a) (.k 8 r (.k 6 p (.c t (.n 1 .nil)))))))))))))))))))))))) (.c o (.v 90 (.rd1 .str d rfl) (.v 84 (.rd1 (.int .i64) f rfl) (.c B (.c y (.c hp (.v 66 (.rd [.bool,.str,.str] c rfl) (.v 59 (.rd [.bool,.str,.str] b rfl) (.c A (.v 43 (.eq g) (.b 34 j (.c q (.v 27 (.eq i) (.c x (.c C (.c hs .nil))))))))))))))))
theorem ado (w:List Int) (vs ts:List (Int × Int × Int)) (I G nt:Bool) (H K M J T D:Int) (e:List Nd) (qs:List Sq) (L:List Lk) (l:Lk) (k s:Nat) (z:RQ) (m n:Oq) (Q N O S R P:List AV) (b:(ε ((((0+(δ (k:Int)))*6)+2)+0) (fK L))= [.bool l.n,.str l.a,.str l.d]++O) (f:(ε (((0+(δ (k:Int)))*6)+0) (fK L))= [ω l.op]++Q) (d:(ε (((0+(δ (k:Int)))*6)+1) (fK L))= [.str l.nm]++N) (c:(ε ((((0+(δ (k:Int)))*6)+2)+0) (A7 L k z))= [.bool z.neg,.str (aa z.n),.str (aa z.d)]++P) (V:(ε (((0+(δ (k:Int)))*6)+0) (A7 L k z))= [ω l.op]++S) (U:(ε (((0+(δ (k:Int)))*6)+1) (A7 L k z))= [.str l.nm]++R) (i:Yjn (ο ((δ (if ((12:Nat):Int)<(vs.length:Int) then ((12:Nat):Int) else (vs.length:Int)))*3) (tL vs)) ((δ (if ((12:Nat):Int)<(vs.length:Int) then ((12:Nat):Int) else (vs.length:Int))) - 0) G=Yjn (tL (vs.take 12)) (vs.take 12).length G) (j:([]++(ο 144 (fK L)))=(fK L)) (g:ω (Xq4 (γ .i64 H) ((24:Nat):Int))=ω (k:Int)) (a:k<24) (r:(Xqn (η (ο 144 (fK L))) 144)=true) (u:(Xqk (((((0+(δ (k:Int)))*6)+2)+0)+3) (η (fK L)))=true) (p:(decide (((0:Nat):Int)≤(if ((12:Nat):Int)<(vs.length:Int) then ((12:Nat):Int) else (vs.length:Int))))=true) (t:(decide ((if ((12:Nat):Int)<(vs.length:Int) then ((12:Nat):Int) else (vs.length:Int))≤(vs.length:Int)))=true) (v:(decide (((0:Nat):Int)<T))=false) (hs:CO 10 [] (.ret (.bool true))) (C:CO 11 [.sl (iL w) w.length I] (.ret (.own (aP e) e.length 5))) (x:CO 12 [.sl (tL ts) ts.length nt] (.ret (.sl (dB (qs.map Sq.c)) qs.length false))) (q:CO 23 [.sl (tL (vs.take 12)) (vs.take 12).length G] (.ret (.own (fK L) 24 6))) (A:CO 19 [.agg [ω K,ω M,ω J]] (.ret (.agg [.bool z.neg,.str (aa z.n),.str (aa z.d)]))) (hp:CO 24 [.agg [.bool l.n,.str l.a,.str l.d],.agg [.bool z.neg,.str (aa z.n),.str (aa z.d)]] (.ret (ω T))) (y:CO 25 [.sl (ο (e.length*5) (aP e)) e.length true,.agg [.sl (ο 144 (fK L)) 24 true,.sl (dB (qs.map Sq.c)) qs.length false]] (.ret (dQ m))) (B:CO 25 [.sl (ο (e.length*5) (aP e)) e.length true,.agg [.sl (ο 144 (A7 L k z)) 24 true,.sl (dB (qs.map Sq.c)) qs.length false]] (.ret (dQ n))) (o:CO 14 [.sl (ο (e.length*5) (aP e)) e.length true,.sl (dB (qs.map Sq.c)) qs.length false,ω l.op,.str l.nm] (.ret (ω (s:Int)))) (F:CO 24 [.agg [.bool m.n,.str m.a,.str m.d],.agg [.bool n.n,.str n.a,.str n.d]] (.ret (ω D)))
  (H1:s=0→((m.n==n.n) && ((m.a==n.a) && ((m.d==n.d) && ((m.e==n.e) && true))))=true) (H2:m.e=0→n.e=0→(s=1→D≤((0:Nat):Int))∧(s=2→((0:Nat):Int)≤D)):CO 9 [.sl (iL w) w.length I,.sl (tL vs) vs.length G,.agg [.int .u8 H,ω K,ω M,ω J,.sl (tL ts) ts.length nt]] (.ret (.bool true)):=by
 rcases tf ((s:Int)==((0:Nat):Int)) with b0|b0
 ·rcases tf ((m.n==n.n) && ((m.a==n.a) && ((m.d==n.d) && ((m.e==n.e) && true)))) with b1|b1
  ·rcases tf (m.e==((0:Nat):Int)) with b2|b2
   ·rcases tf (n.e==((0:Nat):Int)) with b3|b3
    ·rcases tf ((s:Int)==((1:Nat):Int)) with b4|b4
     ·rcases tf (decide (D≤((0:Nat):Int))) with b5|b5
      ·rcases tf ((s:Int)==((2:Nat):Int)) with b6|b6
       ·have h:CO 9 [.sl (iL w) w.length I,.sl (tL vs) vs.length G,.agg [.int .u8 H,ω K,ω M,ω J,.sl (tL ts) ts.length nt]] (.ret (.bool (decide (((0:Nat):Int)≤D)))):=pK [] 9 162 (.c (aA b6) (.c (aw b5) (.c (aA b4) (.k 7 (aA b3) (.k 1 (aA b2) (.k 1 (aA b1) (.k 8 (aw b0) (.a (aD [.str] d rfl) (.c (bw k) (.c (aF a) (.n 1 (.a (aD [.int .i64] f rfl) (.c (bw k) (.c (aF a) (.k 7 (ay v) (.a (aD [.bool,.str,.str] c rfl) (.c (bw k) (.c (aF a) (.n 1 (.a (aD [.bool,.str,.str] b rfl) (.c (bw k) (.c (aF a) (.k 1 u (.c (bw k) (.c (aF a) (.k 8 r (.k 6 p (.c t (.n 1 .nil))))))))))))))))))))))))))))) (.c F (.c o (.v 90 (.rd1 .str d rfl) (.v 84 (.rd1 (.int .i64) f rfl) (.c B (.c y (.c hp (.v 66 (.rd [.bool,.str,.str] c rfl) (.v 59 (.rd [.bool,.str,.str] b rfl) (.c A (.v 43 (.eq g) (.b 34 j (.c q (.v 27 (.eq i) (.c x (.c C (.c hs .nil)))))))))))))))));rw [Yq0 ((H2 (dH b2) (dH b3)).2 (iH b6))] at h;exact h
       ·exact pK [] 9 418 (.c (bi b6) (.c (aw b5) (.c (aA b4) (.k 7 (aA b3) (.k 1 (aA b2) (.k 1 (aA b1) (.k 8 (aw b0) (.a (aD [.str] d rfl) (.c (bw k) (.c (aF a) (.n 1 (.a (aD [.int .i64] f rfl) (.c (bw k) (.c (aF a) (.k 7 (ay v) (.a (aD [.bool,.str,.str] c rfl) (.c (bw k) (.c (aF a) (.n 1 (.a (aD [.bool,.str,.str] b rfl) (.c (bw k) (.c (aF a) (.k 1 u (.c (bw k) (.c (aF a) (.k 8 r (.k 6 p (.c t (.n 1 .nil))))))))))))))))))))))))))))) (.c F (.c o (.v 90 (.rd1 .str d rfl) (.v 84 (.rd1 (.int .i64) f rfl) (.c B (.c y (.c hp (.v 66 (.rd [.bool,.str,.str] c rfl) (.v 59 (.rd [.bool,.str,.str] b rfl) (.c A (.v 43 (.eq g) (.b 34 j (.c q (.v 27 (.eq i) (.c x (.c C (.c hs .nil)))))))))))))))))
      ·exact absurd ((H2 (dH b2) (dH b3)).1 (iH b4)) (of_decide_eq_false b5)
     ·rcases tf ((s:Int)==((2:Nat):Int)) with b5|b5
      ·have h:CO 9 [.sl (iL w) w.length I,.sl (tL vs) vs.length G,.agg [.int .u8 H,ω K,ω M,ω J,.sl (tL ts) ts.length nt]] (.ret (.bool (decide (((0:Nat):Int)≤D)))):=pK [] 9 226 (.c (aA b5) (.k 1 (bi b4) (.k 7 (aA b3) (.k 1 (aA b2) (.k 1 (aA b1) (.k 8 (aw b0) (.a (aD [.str] d rfl) (.c (bw k) (.c (aF a) (.n 1 (.a (aD [.int .i64] f rfl) (.c (bw k) (.c (aF a) (.k 7 (ay v) (.a (aD [.bool,.str,.str] c rfl) (.c (bw k) (.c (aF a) (.n 1 (.a (aD [.bool,.str,.str] b rfl) (.c (bw k) (.c (aF a) (.k 1 u (.c (bw k) (.c (aF a) (.k 8 r (.k 6 p (.c t (.n 1 .nil)))))))))))))))))))))))))))) (.c F (.c o (.v 90 (.rd1 .str d rfl) (.v 84 (.rd1 (.int .i64) f rfl) (.c B (.c y (.c hp (.v 66 (.rd [.bool,.str,.str] c rfl) (.v 59 (.rd [.bool,.str,.str] b rfl) (.c A (.v 43 (.eq g) (.b 34 j (.c q (.v 27 (.eq i) (.c x (.c C (.c hs .nil)))))))))))))))));rw [Yq0 ((H2 (dH b2) (dH b3)).2 (iH b5))] at h;exact h
      ·exact pK [] 9 482 (.c (bi b5) (.k 1 (bi b4) (.k 7 (aA b3) (.k 1 (aA b2) (.k 1 (aA b1) (.k 8 (aw b0) (.a (aD [.str] d rfl) (.c (bw k) (.c (aF a) (.n 1 (.a (aD [.int .i64] f rfl) (.c (bw k) (.c (aF a) (.k 7 (ay v) (.a (aD [.bool,.str,.str] c rfl) (.c (bw k) (.c (aF a) (.n 1 (.a (aD [.bool,.str,.str] b rfl) (.c (bw k) (.c (aF a) (.k 1 u (.c (bw k) (.c (aF a) (.k 8 r (.k 6 p (.c t (.n 1 .nil)))))))))))))))))))))))))))) (.c F (.c o (.v 90 (.rd1 .str d rfl) (.v 84 (.rd1 (.int .i64) f rfl) (.c B (.c y (.c hp (.v 66 (.rd [.bool,.str,.str] c rfl) (.v 59 (.rd [.bool,.str,.str] b rfl) (.c A (.v 43 (.eq g) (.b 34 j (.c q (.v 27 (.eq i) (.c x (.c C (.c hs .nil)))))))))))))))))
    ·exact pK [] 5 18 (.c (bi b3) (.k 1 (aA b2) (.k 1 (aA b1) (.k 8 (aw b0) (.a (aD [.str] d rfl) (.c (bw k) (.c (aF a) (.n 1 (.a (aD [.int .i64] f rfl) (.c (bw k) (.c (aF a) (.k 7 (ay v) (.a (aD [.bool,.str,.str] c rfl) (.c (bw k) (.c (aF a) (.n 1 (.a (aD [.bool,.str,.str] b rfl) (.c (bw k) (.c (aF a) (.k 1 u (.c (bw k) (.c (aF a) (.k 8 r (.k 6 p (.c t (.n 1 .nil)))))))))))))))))))))))))) (.c o (.v 90 (.rd1 .str d rfl) (.v 84 (.rd1 (.int .i64) f rfl) (.c B (.c y (.c hp (.v 66 (.rd [.bool,.str,.str] c rfl) (.v 59 (.rd [.bool,.str,.str] b rfl) (.c A (.v 43 (.eq g) (.b 34 j (.c q (.v 27 (.eq i) (.c x (.c C (.c hs .nil))))))))))))))))
   ·exact pK [] 5 26 (.k 1 (bi b2) (.k 1 (aA b1) (.k 8 (aw b0) (.a (aD [.str] d rfl) (.c (bw k) (.c (aF a) (.n 1 (.a (aD [.int .i64] f rfl) (.c (bw k) (.c (aF a) (.k 7 (ay v) (.a (aD [.bool,.str,.str] c rfl) (.c (bw k) (.c (aF a) (.n 1 (.a (aD [.bool,.str,.str] b rfl) (.c (bw k) (.c (aF a) (.k 1 u (.c (bw k) (.c (aF a) (.k 8 r (.k 6 p (.c t (.n 1 .nil))))))))))))))))))))))))) (.c o (.v 90 (.rd1 .str d rfl) (.v 84 (.rd1 (.int .i64) f rfl) (.c B (.c y (.c hp (.v 66 (.rd [.bool,.str,.str] c rfl) (.v 59 (.rd [.bool,.str,.str] b rfl) (.c A (.v 43 (.eq g) (.b 34 j (.c q (.v 27 (.eq i) (.c x (.c C (.c hs .nil))))))))))))))))
  ·exact absurd (H1 (iH b0)) (by rw [b1];decide)
 ·rcases tf (m.e==((0:Nat):Int)) with b1|b1
  ·rcases tf (n.e==((0:Nat):Int)) with b2|b2
   ·rcases tf ((s:Int)==((1:Nat):Int)) with b3|b3
    ·rcases tf (decide (D≤((0:Nat):Int))) with b4|b4
     ·rcases tf ((s:Int)==((2:Nat):Int)) with b5|b5
      ·have h:CO 9 [.sl (iL w) w.length I,.sl (tL vs) vs.length G,.agg [.int .u8 H,ω K,ω M,ω J,.sl (tL ts) ts.length nt]] (.ret (.bool (decide (((0:Nat):Int)≤D)))):=pK [] 9 160 (.c (aA b5) (.c (aw b4) (.c (aA b3) (.k 7 (aA b2) (.k 1 (aA b1) (.k 2 (ay b0) (.a (aD [.str] d rfl) (.c (bw k) (.c (aF a) (.n 1 (.a (aD [.int .i64] f rfl) (.c (bw k) (.c (aF a) (.k 7 (ay v) (.a (aD [.bool,.str,.str] c rfl) (.c (bw k) (.c (aF a) (.n 1 (.a (aD [.bool,.str,.str] b rfl) (.c (bw k) (.c (aF a) (.k 1 u (.c (bw k) (.c (aF a) (.k 8 r (.k 6 p (.c t (.n 1 .nil)))))))))))))))))))))))))))) (.c F (.c o (.v 90 (.rd1 .str d rfl) (.v 84 (.rd1 (.int .i64) f rfl) (.c B (.c y (.c hp (.v 66 (.rd [.bool,.str,.str] c rfl) (.v 59 (.rd [.bool,.str,.str] b rfl) (.c A (.v 43 (.eq g) (.b 34 j (.c q (.v 27 (.eq i) (.c x (.c C (.c hs .nil)))))))))))))))));rw [Yq0 ((H2 (dH b1) (dH b2)).2 (iH b5))] at h;exact h
      ·exact pK [] 9 416 (.c (bi b5) (.c (aw b4) (.c (aA b3) (.k 7 (aA b2) (.k 1 (aA b1) (.k 2 (ay b0) (.a (aD [.str] d rfl) (.c (bw k) (.c (aF a) (.n 1 (.a (aD [.int .i64] f rfl) (.c (bw k) (.c (aF a) (.k 7 (ay v) (.a (aD [.bool,.str,.str] c rfl) (.c (bw k) (.c (aF a) (.n 1 (.a (aD [.bool,.str,.str] b rfl) (.c (bw k) (.c (aF a) (.k 1 u (.c (bw k) (.c (aF a) (.k 8 r (.k 6 p (.c t (.n 1 .nil)))))))))))))))))))))))))))) (.c F (.c o (.v 90 (.rd1 .str d rfl) (.v 84 (.rd1 (.int .i64) f rfl) (.c B (.c y (.c hp (.v 66 (.rd [.bool,.str,.str] c rfl) (.v 59 (.rd [.bool,.str,.str] b rfl) (.c A (.v 43 (.eq g) (.b 34 j (.c q (.v 27 (.eq i) (.c x (.c C (.c hs .nil)))))))))))))))))
     ·exact absurd ((H2 (dH b1) (dH b2)).1 (iH b3)) (of_decide_eq_false b4)
    ·rcases tf ((s:Int)==((2:Nat):Int)) with b4|b4
     ·have h:CO 9 [.sl (iL w) w.length I,.sl (tL vs) vs.length G,.agg [.int .u8 H,ω K,ω M,ω J,.sl (tL ts) ts.length nt]] (.ret (.bool (decide (((0:Nat):Int)≤D)))):=pK [] 9 224 (.c (aA b4) (.k 1 (bi b3) (.k 7 (aA b2) (.k 1 (aA b1) (.k 2 (ay b0) (.a (aD [.str] d rfl) (.c (bw k) (.c (aF a) (.n 1 (.a (aD [.int .i64] f rfl) (.c (bw k) (.c (aF a) (.k 7 (ay v) (.a (aD [.bool,.str,.str] c rfl) (.c (bw k) (.c (aF a) (.n 1 (.a (aD [.bool,.str,.str] b rfl) (.c (bw k) (.c (aF a) (.k 1 u (.c (bw k) (.c (aF a) (.k 8 r (.k 6 p (.c t (.n 1 .nil))))))))))))))))))))))))))) (.c F (.c o (.v 90 (.rd1 .str d rfl) (.v 84 (.rd1 (.int .i64) f rfl) (.c B (.c y (.c hp (.v 66 (.rd [.bool,.str,.str] c rfl) (.v 59 (.rd [.bool,.str,.str] b rfl) (.c A (.v 43 (.eq g) (.b 34 j (.c q (.v 27 (.eq i) (.c x (.c C (.c hs .nil)))))))))))))))));rw [Yq0 ((H2 (dH b1) (dH b2)).2 (iH b4))] at h;exact h
     ·exact pK [] 9 480 (.c (bi b4) (.k 1 (bi b3) (.k 7 (aA b2) (.k 1 (aA b1) (.k 2 (ay b0) (.a (aD [.str] d rfl) (.c (bw k) (.c (aF a) (.n 1 (.a (aD [.int .i64] f rfl) (.c (bw k) (.c (aF a) (.k 7 (ay v) (.a (aD [.bool,.str,.str] c rfl) (.c (bw k) (.c (aF a) (.n 1 (.a (aD [.bool,.str,.str] b rfl) (.c (bw k) (.c (aF a) (.k 1 u (.c (bw k) (.c (aF a) (.k 8 r (.k 6 p (.c t (.n 1 .nil))))))))))))))))))))))))))) (.c F (.c o (.v 90 (.rd1 .str d rfl) (.v 84 (.rd1 (.int .i64) f rfl) (.c B (.c y (.c hp (.v 66 (.rd [.bool,.str,.str] c rfl) (.v 59 (.rd [.bool,.str,.str] b rfl) (.c A (.v 43 (.eq g) (.b 34 j (.c q (.v 27 (.eq i) (.c x (.c C (.c hs .nil)))))))))))))))))
   ·exact pK [] 5 16 (.c (bi b2) (.k 1 (aA b1) (.k 2 (ay b0) (.a (aD [.str] d rfl) (.c (bw k) (.c (aF a) (.n 1 (.a (aD [.int .i64] f rfl) (.c (bw k) (.c (aF a) (.k 7 (ay v) (.a (aD [.bool,.str,.str] c rfl) (.c (bw k) (.c (aF a) (.n 1 (.a (aD [.bool,.str,.str] b rfl) (.c (bw k) (.c (aF a) (.k 1 u (.c (bw k) (.c (aF a) (.k 8 r (.k 6 p (.c t (.n 1 .nil))))))))))))))))))))))))) (.c o (.v 90 (.rd1 .str d rfl) (.v 84 (.rd1 (.int .i64) f rfl) (.c B (.c y (.c hp (.v 66 (.rd [.bool,.str,.str] c rfl) (.v 59 (.rd [.bool,.str,.str] b rfl) (.c A (.v 43 (.eq g) (.b 34 j (.c q (.v 27 (.eq i) (.c x (.c C (.c hs .nil))))))))))))))))
  ·exact pK [] 5 24 (.k 1 (bi b1) (.k 2 (ay b0) (.a (aD [.str] d rfl) (.c (bw k) (.c (aF a) (.n 1 (.a (aD [.int .i64] f rfl) (.c (bw k) (.c (aF a) (.k 7 (ay v) (.a (aD [.bool,.str,.str] c rfl) (.c (bw k) (.c (aF a) (.n 1 (.a (aD [.bool,.str,.str] b rfl) (.c (bw k) (.c (aF a) (.k 1 u (.c (bw k) (.c (aF a) (.k 8 r (.k 6 p (.c t (.n 1 .nil)))))))))))))))))))))))) (.c o (.v 90 (.rd1 .str d rfl) (.v 84 (.rd1 (.int .i64) f rfl) (.c B (.c y (.c hp (.v 66 (.rd [.bool,.str,.str] c rfl) (.v 59 (.rd [.bool,.str,.str] b rfl) (.c A (.v 43 (.eq g) (.b 34 j (.c q (.v 27 (.eq i) (.c x (.c C (.c hs .nil))))))))))))))))
theorem Yu {E:gy} {e:List Nd} (g:bT e=0):∀ (r p:List Nd) (os:List Oq),e=p++r→os.length=p.length→(∀ o ∈ os,o.ok)→∀ o ∈ Ld E (bh e) r os,o.ok:=by
 obtain ⟨i,b⟩:=jX g;intro r
 induction r with
 |nil=>intro p os _ _ h;exact h
 | cons x r ih=>
  intro p os hp f h;have l:p.length<e.length:=by rw [hp];simp
  obtain ⟨k,d⟩:=b p.length x (by rw [hp];simp);refine ih (p++ [x]) _ (by rw [hp];simp) (by simp [f]) fun o a=> ?_
  rcases List.mem_append.1 a with a|a
  ·exact h o a
  ·rw [Xjc] at a;subst a;refine zn fun o a=> ?_
   obtain ⟨j,c,rfl⟩:=List.mem_map.1 a;rw [f] at c;have c:=d j c;rw [ν,ξ (by omega)];exact h _ (Xxe _)
theorem oW (E:gy) (e:List Nd):(yg E e).ok:=by
 unfold yg;split
 ·rename_i b;have h:=Yu (E:=E) b e [] [] rfl rfl (by simp);unfold dA;generalize Ld E (bh e) e []=t at h;rw [Xwd];cases a:t.getLast? with
  |none=>exact (by decide:(11:Int) ≠ 0)
  |some o=>exact h o (List.mem_of_getLast? a)
 ·exact (by decide:(11:Int) ≠ 0)
theorem EB {P:Lk→Bool}:∀ {L:List Lk} {k:Nat} {y:Lk} (h:k<L.length),P L[k]=false→P y=false→(L.set k y).find? P=L.find? P
 |a::L,0,y,_,b,h2=>by
  have b:P a=false:=b;rw [List.set_cons_zero,Xz3,Xz3,b,h2]
 |a::L,k+1,y,h,b,h2=>by
  have b:P (L[k]'(by simpa using h))=false:=b;have:=EB (by simpa using h) b h2;rw [List.set_cons_succ,Xz3,Xz3,this]
theorem CW {P:Lk→Bool}:∀ {L:List Lk} {k:Nat} (h:k<L.length),P L[k]=true→(∀ j (d:j<k),P (L[j]'(by omega))=false)→L.find? P=some L[k]
 |a::L,0,_,b,_=>by
  have b:P a=true:=b;simp [b]
 |a::L,k+1,h,b,h2=>by
  have c:P a=false:=h2 0 (by omega);rw [Xz3,c];exact CW (by simpa using h) b fun j d=>h2 (j+1) (by omega)
theorem Rs:∀ i j:Fin 24,5+i.val / 6=5+j.val / 6→ul (i.val % 6)=ul (j.val % 6)→i=j:=by decide+kernel
theorem Nz (v:Nat→RQ):(yR v).length=24:=by simp [yR]
theorem IM (v:Nat→RQ) {k:Nat} (h:k<(yR v).length):(yR v)[k]=UE v k:=by simp [yR]
theorem Tf (L:List Lk) (k:Nat) (z:RQ) (h:k<L.length) (b:L[k].e=0):A7 L k z=fK (L.set k ⟨L[k].op,L[k].nm,z.neg,aa z.n,aa z.d,0⟩):=by
 have key:∀ (L:List Lk) (k:Nat) (h:k<L.length),L[k].e=0→ο (k*6+2) (fK L)++ [.bool z.neg,.str (aa z.n),.str (aa z.d)]++ε (k*6+2+3) (fK L)=fK (L.set k ⟨L[k].op,L[k].nm,z.neg,aa z.n,aa z.d,0⟩):=by
  intro L
  induction L with
  |nil=>intro k h;simp at h
  | cons a L ih=>
   intro k h b;cases k with
   |zero=>
    have b:a.e=0:=b;show _=AG _++fK L;show ο 2 (AG a++fK L)++_++ε 5 (AG a++fK L)=_;simp [AG,b]
   |succ k=>
    have c:k<L.length:=by simpa using h
    have:=ih k c b;show ο ((k+1)*6+2) (AG a++fK L)++_++ε ((k+1)*6+2+3) (AG a++fK L)=AG a++fK (L.set k ⟨L[k].op,L[k].nm,z.neg,aa z.n,aa z.d,0⟩);rw [← this];rw [show (k+1)*6+2=(AG a).length+(k*6+2) by show _=6+_;omega,show (AG a).length+(k*6+2)+3=(AG a).length+(k*6+2+3) by omega,Xvj,List.drop_length_add_append,Ψ,Ψ,Ψ]
 have:=key L k h b;unfold A7;rw [av,Θ,Nat.add_zero];exact this
theorem Er {L:List Lk} {k:Nat} (h:k<L.length):ε ((((0+(δ (k:Int)))*6)+0)) (fK L)= [ω L[k].op]++ε 1 (AG L[k]++fK (L.drop (k+1)))∧ε ((((0+(δ (k:Int)))*6)+1)) (fK L)= [Yjy L[k].nm]++ε 2 (AG L[k]++fK (L.drop (k+1)))∧ε (((((0+(δ (k:Int)))*6)+2)+0)) (fK L)= [AV.bool L[k].n,.str L[k].a,.str L[k].d]++ε 5 (AG L[k]++fK (L.drop (k+1))):=by
 have hd:=ET h;rw [av] at hd;rw [av,Θ];have e:∀ j,ε (k*6+j) (fK L)=ε j (AG L[k]++fK (L.drop (k+1))):=fun j=>by rw [← Xjl,hd]
 exact ⟨e 0,e 1,e 2⟩
theorem Mg {qs:List Sq} (h:∀ q ∈ qs,PE q):Gc 129 gS qs:=fun q a=> ⟨(h q a).s28.1,fun x b=>((h q a).s28.2 x b).sm,Ia (h q a).s28.2⟩
theorem Ad (L:List Lk) (h:L.length=24):ο 144 (fK L)=fK L:=Xqi (by unfold fK;rw [rY AG 6 (fun _=>rfl),h];decide)
theorem QS (o:Oq):((o.n==o.n) && ((o.a==o.a) && ((o.d==o.d) && ((o.e==o.e) && true))))=true:=by simp
theorem Pu {q:RQ} (h:q.ok):vQ (Oq.val q).n (Oq.val q).a (Oq.val q).d=q:=ij h
theorem WV {p q:RQ} (hp:p.ok) (a:q.ok) (h:¬ 0<dc p q):p.rt≤q.rt:=by
 have:=(d_ hp a).2.2;have b:¬ q.rt<p.rt:=fun x=>h (this.2 x)
 grind
theorem JE {p q:RQ} (h:p.rt≤q.rt):fO 1 (.val p) (.val q):=⟨fun h=>by omega,fun _ a b c d=>by cases c;cases d;exact h,fun h=>by omega⟩
theorem adq (W:List Int) (vs ts:List (Int × Int × Int)) (Z K nt:Bool) (w Q B V:Int) (hw:0≤w∧w<256):CO 9 [.sl (iL W) W.length Z,.sl (tL vs) vs.length K,.agg [.int .u8 w,ω Q,ω B,ω V,.sl (tL ts) ts.length nt]] (.ret (.bool true)):=by
 obtain ⟨e,_,_,hel,_,D,hm⟩:=Ky W Z;obtain ⟨qs,hM,hq6,R⟩:=KZ ts nt;obtain ⟨v,hv,hl⟩:=Ns (vs.take 12) K;have X:CO 12 [.sl (tL ts) ts.length nt] (.ret (.sl (dB (qs.map Sq.c)) qs.length false)):=by
  cases qs with
  |nil=>exact R.out (gm.ret rfl rfl (aN.nilS false rfl))
  |cons a r=>
   have h:=R.thaw (by simp);simp only [rK,thaw] at h;rw [adT] at h;exact h.out (gm.ret rfl rfl (aN.sl _ _ _))
 obtain ⟨t,I,hz⟩:=Df (Q,B,V);generalize RM (Q,B,V)=z at t I hz;have hkk:∃ k:Nat,k<24∧Xq4 (γ .i64 w) ((24:Nat):Int)=(k:Int):=by
  obtain ⟨n,rfl⟩:∃ n:Nat,w=(n:Int):=⟨w.toNat,by omega⟩
  refine ⟨n % 24,Xqh _ (by decide), ?_⟩;rw [aS (by omega)];rfl
 obtain ⟨k,hk,T⟩:=hkk;have c:=Nz v;have g:k<(yR v).length:=by omega
 have f:=IM v g;have m:=hv (30+k);have A:∀ j (hj:j<(yR v).length),(yR v)[j].op=(UE v k).op→(yR v)[j].nm=(UE v k).nm→j=k:=by
  intro j hj G J;rw [IM v hj] at G J;have G:((5+j / 6:Nat):Int)=((5+k / 6:Nat):Int):=G;have:=Rs ⟨j,by omega⟩ ⟨k,hk⟩ (by show 5+j / 6=5+k / 6;omega) J;exact congrArg Fin.val this
 have U:5≤(UE v k).op∧(UE v k).op≤8:=by
  show 5≤((5+k / 6:Nat):Int)∧((5+k / 6:Nat):Int)≤8;omega
 have hvl:RC (UE v k)= .val (v (30+k)):=by
  show wO (v (30+k)).neg (aa (v (30+k)).n) (aa (v (30+k)).d) 0=_;rw [uu m.1];unfold iP;rw [if_pos m.2]
 generalize hLM:yR v=L at*
 generalize S:UE v k=l at*
 have hle:L[k].e=0:=by rw [f,← S];rfl
 have u:=Tf L k z g hle;rw [f] at u;have H:=Er g;rw [f] at H;have y:k<(L.set k ⟨l.op,l.nm,z.neg,aa z.n,aa z.d,0⟩).length:=by rw [Xxc];exact g
 have C:=Er y;rw [← u,Xw8] at C;have hzl:RC ⟨l.op,l.nm,z.neg,aa z.n,aa z.d,0⟩= .val z:=by
  show wO z.neg (aa z.n) (aa z.d) 0=_;rw [uu t];unfold iP;rw [if_pos I]
 have f1:AW L l.op l.nm=some (.val (v (30+k))):=by
  unfold AW;rw [CW g (by rw [f];simp) (fun j hj=>by
   cases d:((l.op==(L[j]'(by omega)).op) && (l.nm==(L[j]'(by omega)).nm)) with
   |false=>rfl
   |true=>
    simp only [π,beq_iff_eq] at d;have:=A j (by omega) d.1.symm d.2.symm;omega),f]
  show some (RC l)=_;rw [hvl]
 have f2:AW (L.set k ⟨l.op,l.nm,z.neg,aa z.n,aa z.d,0⟩) l.op l.nm=some (.val z):=by
  unfold AW;rw [CW y (by rw [Xw8];simp) (fun j hj=>by
   rw [List.getElem_set_ne (by omega)];cases d:((l.op==(L[j]'(by omega)).op) && (l.nm==(L[j]'(by omega)).nm)) with
   |false=>rfl
   |true=>
    simp only [π,beq_iff_eq] at d;have:=A j (by omega) d.1.symm d.2.symm;omega),Xw8]
  show some (RC _)=_;rw [hzl]
 have f3:∀ o n,¬ (o=l.op∧n=l.nm)→AW (L.set k ⟨l.op,l.nm,z.neg,aa z.n,aa z.d,0⟩) o n=AW L o n:=by
  intro o n h;unfold AW;have d:((o==l.op) && (n==l.nm))=false:=by
   cases d:((o==l.op) && (n==l.nm)) with
   |false=>rfl
   |true=>simp only [π,beq_iff_eq] at d;exact absurd d h
  rw [EB g (by rw [f];exact d) d]
 have sE:∀ L0:List Lk,L0.length=24→(∀ x ∈ L0,x.a.length<2^36∧x.d.length<2^36)→(gy.mk L0 qs).sm:=fun L0 G J=> ⟨by rw [G];decide,by show qs.length<_;omega,J,fun s hs=>(hM s hs).s28⟩
 have zl:=bz I;have P:∀ x ∈ L,x.a.length<2^36∧x.d.length<2^36:=by
  intro x hx;rw [← hLM] at hx;obtain ⟨i,_,rfl⟩:=List.mem_map.1 hx;have:=bz (hv (30+i)).2;exact ⟨υ this.1 (by decide),υ this.2 (by decide)⟩
 have N:∀ x ∈ L.set k ⟨l.op,l.nm,z.neg,aa z.n,aa z.d,0⟩,x.a.length<2^36∧x.d.length<2^36:=by
  intro x hx;rcases List.mem_or_eq_of_mem_set hx with h|rfl
  ·exact P x h
  ·exact ⟨υ zl.1 (by decide),υ zl.2 (by decide)⟩
 have F:(L.set k ⟨l.op,l.nm,z.neg,aa z.n,aa z.d,0⟩).length=24:=by rw [Xxc];exact c
 have e1:=Ew ⟨L,qs⟩ true false true (e:=e) (sE L c P) D;have e2:=Ew ⟨L.set k ⟨l.op,l.nm,z.neg,aa z.n,aa z.d,0⟩,qs⟩ true false true (e:=e) (sE _ F N) D;rw [show (gy.mk L qs).ls=L from rfl,show (gy.mk L qs).qs=qs from rfl,c,Xxp,← Ad L c,← Pc e] at e1;rw [show (gy.mk (L.set k ⟨l.op,l.nm,z.neg,aa z.n,aa z.d,0⟩) qs).ls=L.set k ⟨l.op,l.nm,z.neg,aa z.n,aa z.d,0⟩ from rfl,show (gy.mk (L.set k ⟨l.op,l.nm,z.neg,aa z.n,aa z.d,0⟩) qs).qs=qs from rfl,F,Xxp,← Ad _ F,← u,← Pc e] at e2;have hs:=bG e true qs false gS l.op l.nm D (by omega) (by omega) (Mg hM);rw [← Pc e] at hs;have o1:Xqn (η (ο 144 (fK L))) 144=true:=by
  rw [Ad L c];unfold fK;rw [rY AG 6 (fun _=>rfl),c];rfl
 have o2:Xqk (((((0+(δ (k:Int)))*6)+2)+0)+3) (η (fK L))=true:=by
  unfold fK;rw [rY AG 6 (fun _=>rfl),c,av];exact Xqg (by omega)
 have o3:(decide (((0:Nat):Int)≤(if ((12:Nat):Int)<(vs.length:Int) then ((12:Nat):Int) else (vs.length:Int))))=true:=Yq0 (by split<;>omega);have o4:(decide ((if ((12:Nat):Int)<(vs.length:Int) then ((12:Nat):Int) else (vs.length:Int))≤(vs.length:Int)))=true:=Yq0 (by split<;>omega);have O:Yjn (ο ((δ (if ((12:Nat):Int)<(vs.length:Int) then ((12:Nat):Int) else (vs.length:Int)))*3) (tL vs)) ((δ (if ((12:Nat):Int)<(vs.length:Int) then ((12:Nat):Int) else (vs.length:Int))) - 0) K=Yjn (tL (vs.take 12)) (vs.take 12).length K:=by
  have hi:(if ((12:Nat):Int)<(vs.length:Int) then ((12:Nat):Int) else (vs.length:Int))=((min 12 vs.length:Nat):Int):=by split<;>omega
  rw [hi,av,List.length_take,Nat.sub_zero];congr 1;have key:∀ (n:Nat) (l:List (Int × Int × Int)),ο (min n l.length*3) (tL l)=tL (l.take n):=by
   intro n l
   induction l generalizing n with
   |nil=>simp [tL]
   | cons a l ih=>
    cases n with
    |zero=>simp [tL]
    |succ n=>
     show ο (min (n+1) (l.length+1)*3) ([ω a.1,ω a.2.1,ω a.2.2]++tL l)= [ω a.1,ω a.2.1,ω a.2.2]++tL (l.take n);rw [← ih n,show min (n+1) (l.length+1)*3=3+min n l.length*3 by omega,show 3+min n l.length*3=([ω a.1,ω a.2.1,ω a.2.2]:List AV).length+min n l.length*3 from rfl,Xvj]
  exact key 12 vs
 have M:CO 24 [.agg [.bool l.n,.str l.a,.str l.d],.agg [.bool z.neg,.str (aa z.n),.str (aa z.d)]] (.ret (ω (dc (v (30+k)) z))):=by
  have vl:=bz m.2;have h:=I9 (v (30+k)).neg z.neg (aa (v (30+k)).n) (aa (v (30+k)).d) (aa z.n) (aa z.d) (by omega) (by omega) (by omega) (by omega);rw [ij m.1,ij t] at h;rw [← S];exact h
 have hr:∀ a b:Oq,a.ok→b.ok→CO 24 [.agg [.bool a.n,.str a.a,.str a.d],.agg [.bool b.n,.str b.a,.str b.d]] (.ret (ω (dc (vQ a.n a.a a.d) (vQ b.n b.a b.d)))):=fun a b ha d=>by
  have G:=N9 ha;have J:=N9 d;exact I9 a.n b.n a.a a.d b.a b.d (by omega) (by omega) (by omega) (by omega)
 have Y:∀ {s:Nat} {a b:Oq},a.ok→b.ok→fO s a b→(s=0→((a.n==b.n) && ((a.a==b.a) && ((a.d==b.d) && ((a.e==b.e) && true))))=true)∧(a.e=0→b.e=0→(s=1→dc (vQ a.n a.a a.d) (vQ b.n b.a b.d)≤((0:Nat):Int))∧(s=2→((0:Nat):Int)≤dc (vQ a.n a.a a.d) (vQ b.n b.a b.d))):=by
  intro s a b ha d h;refine ⟨fun h0=>by rw [h.same h0];exact QS b,fun za zb=> ?_⟩;obtain ⟨p,rfl,B,_⟩:=qd ha za;obtain ⟨q,rfl,q1,_⟩:=qd d zb;rw [Pu B,Pu q1];have X:=d_ B q1;refine ⟨fun G=> ?_,fun J=> ?_⟩
  ·have:=h.up (by omega) p q rfl rfl;have:¬ 0<dc p q:=fun x=>by have:=X.2.2.1 x;grind
   omega
  ·have:=h.dn (by omega) p q rfl rfl;have:¬ dc p q<0:=fun x=>by have:=X.1.1 x;grind
   omega
 by_cases hg:0<dc (v (30+k)) z
 ·have hD:Dif ⟨L.set k ⟨l.op,l.nm,z.neg,aa z.n,aa z.d,0⟩,qs⟩ ⟨L,qs⟩ l.op l.nm:=⟨rfl,fun o n h=>f3 o n h,by
   rw [f1,f2];have:=(d_ m.1 t).2.2.1 hg;exact JE (by grind)⟩
  have hR:=zZ hD U e;obtain ⟨H1,H2⟩:=Y (oW _ e) (oW _ e) hR;exact adp W vs ts Z K nt w Q B V _ _ e qs L l k _ z _ _ _ _ _ _ _ _ H.2.2 H.1 H.2.1 C.2.2 C.1 C.2.1 O (by rw [Xqd];exact Ad L c) (by rw [T]) hk o1 o2 o3 o4 (Yq0 hg) Ce hm X hl hz M e2 e1 hs (hr _ _ (oW _ e) (oW _ e)) H1 H2
 ·have hD:Dif ⟨L,qs⟩ ⟨L.set k ⟨l.op,l.nm,z.neg,aa z.n,aa z.d,0⟩,qs⟩ l.op l.nm:=⟨rfl,fun o n h=>(f3 o n h).symm,by
   rw [f1,f2];exact JE (WV m.1 t hg)⟩
  have hR:=zZ hD U e;obtain ⟨H1,H2⟩:=Y (oW _ e) (oW _ e) hR;exact ado W vs ts Z K nt w Q B V _ _ e qs L l k _ z _ _ _ _ _ _ _ _ H.2.2 H.1 H.2.1 C.2.2 C.1 C.2.1 O (by rw [Xqd];exact Ad L c) (by rw [T]) hk o1 o2 o3 o4 (Yq1 hg) Ce hm X hl hz M e1 e2 hs (hr _ _ (oW _ e) (oW _ e)) H1 H2
end Go.Proofs.Tryz
set_option maxRecDepth 100000
open Go AM Go.ChangeShapes Go.WideShapes Go.ChangeAt Go.RowKit
namespace Go.Proofs.Tryz
noncomputable def yO (t:TypeId) (d:DataW Unit):List Lit:=((jn prog 6 t d 0).getD []).map (·.2)
open Go.Proofs.YtcjindbblhcopaaGreatDoor
def Np:List (String × DataW Unit):= [("unicode/utf8.acceptRanges",Rows.laid_unicode_utf8_acceptRanges),("tithing/expr.table",Rows.laid_tithing_expr_table),("unicode/utf8.first",Rows.laid_unicode_utf8_first)]
theorem KE:Np.filter (fun x=>x.2.handleName?.isSome)= []:=by kernel_rfl
theorem aap {W:World} (h:laidMetH prog Np W):LR ap W:=by
 have c (i:Nat) (n:String) (d:DataW Unit) (hm:Np[i]? =some (n,d)) (g:Nat) (t:TypeId) (hg:prog.globalNamed n=some g) (ht:(prog.globals[g]?).map (·.type)=some t)
   (hl:jn prog 6 t d 0=some ((yO t d).zipIdx.map fun (l,i)=>(i,l))):=G5 h KE (Xqm hm) hg ht hl
 have e:=c 1 _ _ rfl 0 105 (by kernel_rfl) (by kernel_rfl) (by kernel_rfl);have f:=c 0 _ _ rfl 2 219 (by kernel_rfl) (by kernel_rfl) (by kernel_rfl);have key (k:Nat) (t:TypeId) (d:DataW Unit) (hx:(ap.gl[k]?).join=some ((yO t d).map EP)) (ho:(yO t d).all yN=true) (hc:∀ (j:Nat) (l:Lit),(yO t d)[j]? =some l→W.cell? ⟨k,j,none⟩=some (lO l)):
   ∀ b,(ap.gl[k]?).join=some b→∃ ls:List Lit,b=ls.map EP∧ls.all yN=true∧∀ (j:Nat) (l:Lit),ls[j]? =some l→W.cell? ⟨k,j,none⟩=some (lO l):=by
  intro b a;rw [hx] at a;cases a;exact ⟨_,rfl,ho,hc⟩
 intro k
 match k with
 |0=>exact key 0 _ _ (by kernel_rfl) (by kernel_rfl) e
 |1=>intro b a;exact absurd (show (none:Option (List AV))=some b from a) (by simp)
 |2=>exact key 2 _ _ (by kernel_rfl) (by kernel_rfl) f
 |3=>intro b a;exact absurd (show (none:Option (List AV))=some b from a) (by simp)
 |k+4=>
  intro b a;have:ap.gl.length=4:=by kernel_rfl
  rw [List.getElem?_eq_none (by omega)] at a;cases a
theorem own:ownKnob prog.godebug=none:=by kernel_rfl
theorem aeq:laidOutB prog=true:=by kernel_rfl
noncomputable def X8 (t:TypeId) (d:DataW Unit):Obj→Obj
 | .cells _ t' fr=> .cells ((yO t d).map lO).toArray t' fr
 |o=>o
noncomputable def YU (os:Os):World:=
 let w:=World.holding prog os ⟨#[],#[],[]⟩
 {w with heap:=((w.heap.modify 0 (X8 105 Rows.laid_tithing_expr_table)).modify 1 (X8 216 Rows.laid_unicode_utf8_first)).modify 2 (X8 219 Rows.laid_unicode_utf8_acceptRanges)}
end Go.Proofs.Tryz
