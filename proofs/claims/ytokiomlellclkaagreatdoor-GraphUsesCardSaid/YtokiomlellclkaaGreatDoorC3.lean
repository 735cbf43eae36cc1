/- Contracts of functions that the law reaches, each by its own hypotheses; joined by a program of mine. -/
import Derived.Test.YtokiomlellclkaaGreatDoorC2
import Derived.Test.YtokiomlellclkaaGreatDoorC1
import Derived.Test.YtokiomlellclkaaGreatDoorM4
import Derived.Test.YtokiomlellclkaaGreatDoorCards
import Derived.Test.YtokiomlellclkaaGreatDoorTie
import Derived.Deep.DeepHandedRow
import Derived.Test.YtokiomlellclkaaGreatDoorM5
import Derived.RangeFuncBox
import Derived.RangeFuncCalls
import Derived.RangeFuncLeaves
import Derived.Shelf.Abstract
import Derived.WalkKit
import Derived.OwnWalkIn
import Derived.TacticsInMore
import Derived.LoopNIn
import Derived.LoopIn
set_option linter.unusedSimpArgs false
set_option linter.unusedVariables false
set_option maxRecDepth 100000
set_option linter.unusedVariables false
open Go AM
open List renaming map_cons→φ,flatMap_cons→Xqa,mem_cons_self→Xqp,mem_cons_of_mem→Xqk,take→μ,drop→ε,take_of_length_le→τ,length_cons→Γ,mem_cons→Xqs,not_mem_nil→Xq7,nil_append→θ,length_nil→Xqh,length_map→Xq4,headD→Xqm,flatMap_append→Xql,append_assoc→Δ,length→κ,append_nil→ο,length_take→Xqn,length_drop→Xq8,range→Xqd,range'→Xji,take_take→Xzx,map_drop→Xz4,map_append→Xxa,nodup_append→Xxw,map_congr_left→Xj1,filterMap_cons→Xwy,length_append→ξ,getElem?_eq_getElem→ν,getElem_mem→Xx1,mem_append→Xjc,mem_singleton→Xxp,pairwise_singleton→Xj7,countP_cons→Xz9,prefix_refl→Xvo,prefix_append→Xzu,size_toArray→Xqz,push_toArray→Xj9,append_toArray→Xj2,cons_append→Xqt
open Prod renaming fst→Yqa
open Nat renaming le_refl→ζ,add_zero→Xqo,zero_add→Θ,beq→υ,ble→Ψ,min_self→Xvc,mul_one→Xww,zero_le→Xqr,le_trans→Xqg,reduceAdd→Xz6,reduceSub→Xz7
open Int renaming toNat→γ,tmod→Xxb,tmod_lt_of_pos→Xx4
open Go.IntKind renaming wrap→η
open Bool renaming false_eq_true→Xqe,and_eq_true→δ,or_eq_true→Xxf
namespace Go.Proofs.Tryz
abbrev zcc3_0 : List AV := [ω 0,ω 0,ω 0,ω 1,ω 0,ω 2,ω 0,ω 3,ω 1,ω 0,ω 1,ω 1,ω 1,ω 2,ω 1,ω 3]
abbrev zcc3_1 : List AV := [ω 6,.bool false,.str [],.str [],.str [97],ω 8,.bool false,.str [],.str [],.str [99],ω 9,.bool false,.str [],.str [],.str []]
abbrev zcc3_2 : List AV := [ω 0,ω 0,ω 0,ω 1,ω 0,ω 2,ω 0,ω 3]
abbrev zcc3_3 : List AV := [ω 0,ω 1,ω 0,ω 2,ω 1,ω 1,ω 1,ω 2]
abbrev zcc3_4 : List AV := [ω 6,.bool false,.str [],.str [],.str [100]]
abbrev zcc3_5 : List AV := [ω 5,.bool false,.str [],.str [],.str [98]]
abbrev zcc3_6 : List AV := [ω 1,.bool false,.str [1],.str [1],.str []]
abbrev zcc3_7 : List AV := [ω 6,.bool false,.str [],.str [],.str [98]]
theorem WF:∀ ps:List Pv,rY (ps.map fun p=>(p,false))=OI ps
 | []=>rfl
 |p::ps=>by simp only [rY,OI,φ,Xqa] at*;rw [show (ps.map fun p=>(p,false)).flatMap U2=ps.flatMap TN from WF ps];rfl
theorem WG:∀ q:List (Pv × Bool),(∀ y ∈ q,y.2=true)→rY q=dD (q.map Yqa)
 | [],_=>rfl
 |(p,b)::q,h=>by
  have a:b=true:=h _ (Xqp ..);subst a;simp only [rY,dD,φ,Xqa];rw [show q.flatMap U2=(q.map Yqa).flatMap iG from WG q fun y c=>h y (Xqk _ c)];rfl
theorem Q_:∀ ps:List Pv,(∀ p ∈ ps,p.body= [])→O6 (OI ps) (bQ ps)
 | [],_=> .nil
 |p::ps,h=>by
  have a:p.body= []:=h p (Xqp ..);have e:bQ (p::ps)=vZ p++bQ ps:=rfl;have b:OI (p::ps)=TN p++OI ps:=rfl;rw [e,b];unfold vZ TN;rw [a];exact .same (.same (.same (.same (.nilS (.same (.same (.same (.same (.same (.same (.same (Q_ ps fun q c=>h q (Xqk _ c)))))))))))))
theorem IW:∀ l:List Sg,(iq l).all AM.bare=true
 | []=>rfl
 |x::l=>by rw [Ci,List.all_append,IW l];rfl
theorem tk0 {n m:Nat} {l:List AV} (h:l.length=n*m):μ (n*m) (ε (0*m) l)=l:=by rw [Nat.zero_mul,List.drop_zero,τ (by omega)]
theorem JA (r:Bool):(fZ r).length=(cond r 3 2)*4:=by cases r<;>rfl
theorem Ko (x:Bool) (b a:List AV) (n1 n2:Nat):(gq x b a n1 n2).length=(cond x 2 1)*4:=by cases x<;>rfl
theorem MM (ps:List Pv):(dD ps).length=ps.length*12:=dY (f:=iG) (n:=12) (fun _=>rfl) ps
abbrev TM (F S C:List AV):List aP:= [⟨F,0,false,0,4,true⟩,⟨S,0,false,0,4,true⟩,⟨C,0,false,0,12,true⟩]
theorem H5 (F S C:List AV) (fN sN n:Nat) (t:List AV) (c:fM (frz (aF (TM F S C)) 6) t=some t) (b:F.length=fN*4) (d:S.length=sN*4) (a:C.length=n*12):fM (frz (aF (TM F S C)) 6) (.agg [.ref 0 0 0 fN,.ref 1 0 0 sN,.ref 2 0 0 n]::t)=some (.agg [.sl F fN true,.sl S sN true,.sl C n true]::t):=by
 have h:frz (aF (TM F S C)) 6 (.agg [.ref 0 0 0 fN,.ref 1 0 0 sN,.ref 2 0 0 n])=some (.agg [.sl (μ (fN*4) (ε (0*4) F)) fN true,.sl (μ (sN*4) (ε (0*4) S)) sN true,.sl (μ (n*12) (ε (0*12) C)) n true]):=by kernel_rfl
 rw [tk0 b,tk0 d,tk0 a] at h;simp only [fM,h,c]
theorem KW:∀ (r:List Pv) (nm:List UInt8) (k j:Nat),AM.goL (Ur nm) (fun _=>none) r k=some j→k≤j∧j<k+r.length
 | [],nm,k,j,h=>by simp [AM.goL] at h
 | x::r,nm,k,j,h=>by
  unfold AM.goL Ur at h;by_cases hx:(x.nm==nm)=true
  ·rw [if_pos hx] at h;cases h;simp
  ·rw [if_neg hx] at h;have:=KW r nm (k+1) j h;rw [Γ];omega
theorem PW {ps:List Pv} {a:List UInt8} (b:O8 ps a=true):CX ps a<ps.length:=by
 unfold O8 at b;unfold CX;cases c:PY ps a with
 |none=>rw [c] at b;cases b
 |some k=>
  have:=KW ps a 0 k c;simpa using this
theorem OV (r x:Bool) (c b:List AV) (n1 n2:Nat) (ps:List Pv) (n:Nat) (i:ps.length=n) (hp:n≤6) (l:∀ p ∈ ps,UZ p):∃ a:List Sg,a.length≤100∧af prog ap 81 [.agg [.ref 0 0 0 (cond r 3 2),.ref 1 0 0 (cond x 2 1),.ref 2 0 0 n]] (TM (fZ r) (gq x c b n1 n2) (OI ps)) (.ret (.sl (iq a) a.length true)) (TM (fZ r) (gq x c b n1 n2) (OI ps)):=by
 obtain ⟨a,j,k⟩:=Vl r x c b n1 n2 ps true (by omega);refine ⟨a,j, ?_⟩;have g:=k.args (args':= [.agg [.sl (fZ r) (cond r 3 2) true,.sl (gq x c b n1 n2) (cond x 2 1) true,.sl (OI ps) ps.length true]]) (.cons (bF.agg (.cons (bF.eq rfl) (.cons (bF.eq rfl) (.cons (bF.slP (Q_ ps fun p hp=>(l p hp).2)) .nil)))) .nil);rw [i] at g;have m:=af.lend (h:=TM (fZ r) (gq x c b n1 n2) (OI ps)) (H5 _ _ _ _ _ n [] rfl (JA r) (Ko x c b n1 n2) (by rw [MJ,i])) (by show ((iq a).all AM.bare && _)=true;rw [IW];rfl) g;have d:=m.thaw (by intro B f;simp only [TM,Xqs,Xq7,or_false] at f;rcases f with rfl|rfl|rfl<;>rfl);have e:μ (a.length*5) (iq a)=iq a:=τ (by rw [mD];omega);simp only [qg,thaw,e] at d;exact d
theorem D5 (r x:Bool) (c a:List AV) (n1 n2:Nat) (ps:List Pv) (n:Nat) (e:ps.length=n) (hp:n≤6) (d:List UInt8):∃ (i:Nat) (b:Bool),(b=true→i<n)∧af prog ap 45 [.agg [.ref 0 0 0 (cond r 3 2),.ref 1 0 0 (cond x 2 1),.ref 2 0 0 n],.str d] (TM (fZ r) (gq x c a n1 n2) (dD ps)) (.ret (.tup [ω (i:Int),.bool b])) (TM (fZ r) (gq x c a n1 n2) (dD ps)):=by
 have g:=DZ ⟨fZ r,cond r 3 2,gq x c a n1 n2,cond x 2 1,ps⟩ true true true d (by show ps.length<_;omega);refine ⟨CX ps d,O8 ps d,fun j=>by rw [← e];exact PW j, ?_⟩;have f:=g.args (args':= [.agg [.sl (fZ r) (cond r 3 2) true,.sl (gq x c a n1 n2) (cond x 2 1) true,.sl (dD ps) ps.length true],.str d]) (.cons (bF.agg (.cons (bF.eq rfl) (.cons (bF.eq rfl) (.cons (bF.slP (BK ps)) .nil)))) (.cons (bF.eq rfl) .nil));rw [e] at f;exact af.lend (h:=TM (fZ r) (gq x c a n1 n2) (dD ps)) (H5 _ _ _ _ _ n [.str d] rfl (JA r) (Ko x c a n1 n2) (by rw [MM,e])) rfl f
structure Yk (L:Lw):Prop where
 p1:1≤L.ps.length
 p6:L.ps.length≤6
 ok:∀ p ∈ L.ps,BD p
 f1:1≤L.fn
 f3:L.fn≤3
 fl:L.fx.length=L.fn*4
 s1:1≤L.sn
 s2:L.sn≤2
 sl:L.sx.length=L.sn*4
theorem dI {args:List AV} (r x:Bool) (c b:List AV) (n1 n2 n:Nat) (a:List Pv) (d:a.length=n) (g:1≤n) (e:n≤6) (f:∀ z ∈ a,BD z) (h:CO 36 args (.ret (.agg [.sl (fZ r) (cond r 3 2) true,.sl (gq x c b n1 n2) (cond x 2 1) true,.sl (μ (n*12) (dD a)) n true]))):∃ L,Yk L∧CO 36 args (.ret (.agg (L.c true true true))):=by
 rw [τ (by rw [MM,d];exact ζ _),← d] at h;exact ⟨⟨fZ r,cond r 3 2,gq x c b n1 n2,cond x 2 1,a⟩,⟨by show 1≤a.length;omega,by show a.length≤6;omega,f,show 1≤cond r 3 2 by cases r<;>decide,show cond r 3 2≤3 by cases r<;>decide,JA r,show 1≤cond x 2 1 by cases x<;>decide,show cond x 2 1≤2 by cases x<;>decide,Ko x c b n1 n2⟩,h.out (je.ret rfl rfl (bF.agg (.cons (bF.eq rfl) (.cons (bF.eq rfl) (.cons (bF.slP (BK a)) .nil)))))⟩
theorem Ou (ll:List (List Int)) (nl:Bool):∃ L,Yk L∧CO 36 [.sl (jT ll) ll.length nl] (.ret (.agg (L.c true true true))):=by
 obtain ⟨G,F,cl⟩:=LQ ll nl 0;obtain ⟨r0,k1,hr0,hk1,m0⟩:=aQ G F 0 4 (by omega) (by omega) (by omega);obtain ⟨j,n1,kb1,w1,wn1,hb1,kb_1⟩:=xM true G F k1 (by omega);obtain ⟨r1,k2,hr1,hk2,u⟩:=aQ G F kb1 2 (by omega) (by omega) (by omega);obtain ⟨i,n2,kb2,w2,wn2,hb2,kb_2⟩:=xM false G F k2 (by omega);obtain ⟨r,C⟩:∃ r,(decide (((0:Nat):Int)<(r0:Int)))=r:=⟨_,rfl⟩
 obtain ⟨x,B⟩:∃ x,((r1:Int)==((0:Nat):Int))=x:=⟨_,rfl⟩
 obtain ⟨n,ps,kw,a1,v,k,a3,a4,hL0⟩:=Ij ll nl G F (fZ r) (gq x j i n1 n2) (cond r 3 2) (cond x 2 1) 6 0 false 0 [] (cond x kb2 k2) rfl (by cases x<;>simp<;>omega) rfl (ζ _) (fun _=>rfl) (fun h=>by cases h) (fun h=>by omega) (fun p hp=>by cases hp);have hkl:kw<1000:=by cases x<;>simp at a4<;>omega
 have w:=aJ.blk (id:=0) (e':= .normal) (fun nt (hn:239≤nt)=>hL0 nt hn) (by simp) rfl (aI.refl _) (aI.refl _);obtain ⟨e,k3,hr2,hk3,A⟩:=aQ G F kw 8 (by omega) (by omega) (by omega);obtain ⟨sg,hsg,cs⟩:=OV r x j i n1 n2 ps n a1 k a3;obtain ⟨q,c1,c2,hL2⟩:=KE ll nl G F (fZ r) (gq x j i n1 n2) (cond r 3 2) (cond x 2 1) n k3 e sg hsg k (ps.map fun p=>(p,false)) [] (by simp [a1]) (fun y hy=>by
  obtain ⟨p,hp,rfl⟩:=List.mem_map.1 hy;exact a3 p hp) (fun y hy=>by cases hy)
 have o:=aJ.blk (id:=2) (e':= .normal) (fun nt (hn:239≤nt)=>hL2 nt hn) (by simp) rfl (aI.refl _) (aI.refl _);have e1:bX ll nl G F (fZ r) (gq x j i n1 n2) (cond r 3 2) (cond x 2 1) n k3 e sg q=bX ll nl G F (fZ r) (gq x j i n1 n2) (cond r 3 2) (cond x 2 1) n k3 e sg q:=rfl;simp only [θ,WF,Xqh] at o;unfold bX at o;rw [WG q fun y hy=>(c2 y hy).2.2] at o;obtain ⟨qs,hqs⟩:∃ qs,qs=q.map Yqa:=⟨_,rfl⟩
 rw [← hqs] at o;have t:qs.length=n:=by rw [hqs,Xq4,c1]
 have D:∀ z ∈ qs,BD z:=fun z hz=>by
  rw [hqs] at hz;obtain ⟨y,hy,rfl⟩:=List.mem_map.1 hz;exact ⟨(c2 y hy).1,(c2 y hy).2.1⟩
 clear e1 hL0 hL2;obtain ⟨ia,O,P,a⟩:=D5 r x j i n1 n2 qs n t k [99,114,101,100,105,116];obtain ⟨ib,Q,hib,d⟩:=D5 r x j i n1 n2 qs n t k [114,101,108,105,101,102];have b:=vW;have c:=n59;have hk3b:k3<2000:=by omega
 cases r with
 | false=>
  cases x with
  | false=>
   rcases tf (decide (((1:Nat):Int)≤(e:Int))) with z1|z1
   ·rcases tf (decide ((e:Int)≤((3:Nat):Int))) with z3|z3
    ·rcases tf O with fa1|fa1
     ·rcases tf Q with fb1|fb1
      ·have l:((e:Int)==((4:Nat):Int))=false:=by simp only [decide_eq_true_eq,decide_eq_false_iff_not,beq_iff_eq,Yq2] at*;omega
       have g:((e:Int)==((5:Nat):Int))=false:=by simp only [decide_eq_true_eq,decide_eq_false_iff_not,beq_iff_eq,Yq2] at*;omega
       obtain ⟨M,K,J,N,t0,s0⟩:=MP G F (fZ false) (gq false j i n1 n2) 2 1 n e ia ib O Q k3 qs (by omega) t (P fa1) k D;have V:bg prog ap [] 239 (f_ 30 (ag f36)) _ .normal _:=s0;obtain ⟨X,kc2,Y,u1,t1,Z⟩:=MQ G F (fZ false) (gq false j i n1 n2) 2 1 n e ia ib O Q K M (by omega) J (hib fb1) k N;have g31:bg prog ap [] 239 (f_ 31 (ag f36)) _ .normal _:=Z;exact dI false false j i n1 n2 n X Y v k u1 (pK [0,2,1030,1031,1033,1037,1038] 9 60 (.k 7 (aj g) (.k 1 (aj l) (.c (ai fb1) (.c (ai fa1) (.c (ai z3) (.c (ai z1) (.k 10 (aj B) (.k 12 (aj C) (.n 2 .nil))))))))) (.k [2,3,5,9,12,13,14,15] g31 (.k [2,3,5,9,12,13,14,15] V (.c d (.c a (.k [0,2,3,5,9,10,11] o (.c cs (.c A (.k [0,2,3,4,5,6,7] w (.c u (.c kb_1 (.c m0 (.c c (.c b (.c cl .nil)))))))))))))))
      ·have l:((e:Int)==((4:Nat):Int))=false:=by simp only [decide_eq_true_eq,decide_eq_false_iff_not,beq_iff_eq,Yq2] at*;omega
       have g:((e:Int)==((5:Nat):Int))=false:=by simp only [decide_eq_true_eq,decide_eq_false_iff_not,beq_iff_eq,Yq2] at*;omega
       exact dI false false j i n1 n2 n qs t v k D (pK [0,2,1030,1031,1033,1037,1038] 9 28 (.k 7 (aj g) (.k 1 (aj l) (.c (aj fb1) (.c (ai fa1) (.c (ai z3) (.c (ai z1) (.k 10 (aj B) (.k 12 (aj C) (.n 2 .nil))))))))) (.c d (.c a (.k [0,2,3,5,9,10,11] o (.c cs (.c A (.k [0,2,3,4,5,6,7] w (.c u (.c kb_1 (.c m0 (.c c (.c b (.c cl .nil)))))))))))))
     ·have l:((e:Int)==((4:Nat):Int))=false:=by simp only [decide_eq_true_eq,decide_eq_false_iff_not,beq_iff_eq,Yq2] at*;omega
      have g:((e:Int)==((5:Nat):Int))=false:=by simp only [decide_eq_true_eq,decide_eq_false_iff_not,beq_iff_eq,Yq2] at*;omega
      exact dI false false j i n1 n2 n qs t v k D (pK [0,2,1030,1031,1033,1037,1038] 9 12 (.k 7 (aj g) (.k 1 (aj l) (.k 1 (aj fa1) (.c (ai z3) (.c (ai z1) (.k 10 (aj B) (.k 12 (aj C) (.n 2 .nil)))))))) (.c d (.c a (.k [0,2,3,5,9,10,11] o (.c cs (.c A (.k [0,2,3,4,5,6,7] w (.c u (.c kb_1 (.c m0 (.c c (.c b (.c cl .nil)))))))))))))
    ·rcases tf ((e:Int)==((4:Nat):Int)) with l|l
     ·rcases tf O with fa1|fa1
      ·have g:((e:Int)==((5:Nat):Int))=false:=by simp only [decide_eq_true_eq,decide_eq_false_iff_not,beq_iff_eq,Yq2] at*;omega
       obtain ⟨M,K,J,N,t0,s0⟩:=MR G F (fZ false) (gq false j i n1 n2) 2 1 n e ia ib O Q k3 qs (by omega) t (P fa1) k D;have R:bg prog ap [] 239 (f_ 33 (ag f36)) _ .normal _:=s0;exact dI false false j i n1 n2 n M J v k N (pK [0,2,1030,1031,1033,1037,1038] 9 196 (.k 7 (aj g) (.c (ai fa1) (.c (ai l) (.k 2 (aj z3) (.c (ai z1) (.k 10 (aj B) (.k 12 (aj C) (.n 2 .nil)))))))) (.k [2,3,5,9,12,13,14,15] R (.c d (.c a (.k [0,2,3,5,9,10,11] o (.c cs (.c A (.k [0,2,3,4,5,6,7] w (.c u (.c kb_1 (.c m0 (.c c (.c b (.c cl .nil))))))))))))))
      ·have g:((e:Int)==((5:Nat):Int))=false:=by simp only [decide_eq_true_eq,decide_eq_false_iff_not,beq_iff_eq,Yq2] at*;omega
       exact dI false false j i n1 n2 n qs t v k D (pK [0,2,1030,1031,1033,1037,1038] 9 68 (.k 7 (aj g) (.c (aj fa1) (.c (ai l) (.k 2 (aj z3) (.c (ai z1) (.k 10 (aj B) (.k 12 (aj C) (.n 2 .nil)))))))) (.c d (.c a (.k [0,2,3,5,9,10,11] o (.c cs (.c A (.k [0,2,3,4,5,6,7] w (.c u (.c kb_1 (.c m0 (.c c (.c b (.c cl .nil)))))))))))))
     ·rcases tf ((e:Int)==((5:Nat):Int)) with g|g
      ·obtain ⟨E,k4,s,hk4,m3⟩:=aQ G F k3 n (by omega) (by omega) (by omega);obtain ⟨pp,px,pr,hs,hi⟩:=gu qs E (by omega);have S:=fJ (f:=iG) (m:=12) (fun _=>rfl) pp pr px E 1 hi (by decide);rw [← hs] at S;change ε _ (dD qs)=_ at S;have I:(chk .bool (Xqm (ε ((((0+(γ (E:Int)))*12)+1)+0) (dD qs)) .dead))=true:=by rw [Xqo,S];rfl
       rcases tf (AV.toBool (Xqm (ε ((((0+(γ (E:Int)))*12)+1)+0) (dD qs)) .dead)) with zT|zT
       ·exact dI false false j i n1 n2 n qs t v k D (pK [0,2,1030,1031,1033,1037,1038] 10 260 (.k 7 (dM zT) (.c I (.c (k0 E) (.c (kl s) (.k 2 (ai g) (.k 1 (aj l) (.k 2 (aj z3) (.c (ai z1) (.k 10 (aj B) (.k 12 (aj C) (.n 2 .nil))))))))))) (.c m3 (.c d (.c a (.k [0,2,3,5,9,10,11] o (.c cs (.c A (.k [0,2,3,4,5,6,7] w (.c u (.c kb_1 (.c m0 (.c c (.c b (.c cl .nil))))))))))))))
       ·obtain ⟨M,U,J,N,t0,s0⟩:=MS G F (fZ false) (gq false j i n1 n2) 2 1 n E k4 qs (by omega) t s k D;have g37:bg prog ap [] 239 (f_ 37 (ag f36)) _ .normal _:=s0;obtain ⟨X,kd2,Y,u1,t1,Z⟩:=MV G F (fZ false) (gq false j i n1 n2) 2 1 n E U M (by omega) J s k N;have T:bg prog ap [] 239 (f_ 38 (ag f36)) _ .normal _:=Z;exact dI false false j i n1 n2 n X Y v k u1 (pK [0,2,1030,1031,1033,1037,1038] 10 772 (.k 7 (fK zT) (.c I (.c (k0 E) (.c (kl s) (.k 2 (ai g) (.k 1 (aj l) (.k 2 (aj z3) (.c (ai z1) (.k 10 (aj B) (.k 12 (aj C) (.n 2 .nil))))))))))) (.k [2,3,5,16] T (.k [2,3,5,16] g37 (.c m3 (.c d (.c a (.k [0,2,3,5,9,10,11] o (.c cs (.c A (.k [0,2,3,4,5,6,7] w (.c u (.c kb_1 (.c m0 (.c c (.c b (.c cl .nil))))))))))))))))
      ·exact dI false false j i n1 n2 n qs t v k D (pK [0,2,1030,1031,1033,1037,1038] 9 4 (.k 7 (aj g) (.k 1 (aj l) (.k 2 (aj z3) (.c (ai z1) (.k 10 (aj B) (.k 12 (aj C) (.n 2 .nil))))))) (.c d (.c a (.k [0,2,3,5,9,10,11] o (.c cs (.c A (.k [0,2,3,4,5,6,7] w (.c u (.c kb_1 (.c m0 (.c c (.c b (.c cl .nil)))))))))))))
   ·have l:((e:Int)==((4:Nat):Int))=false:=by simp only [decide_eq_true_eq,decide_eq_false_iff_not,beq_iff_eq,Yq2] at*;omega
    have g:((e:Int)==((5:Nat):Int))=false:=by simp only [decide_eq_true_eq,decide_eq_false_iff_not,beq_iff_eq,Yq2] at*;omega
    exact dI false false j i n1 n2 n qs t v k D (pK [0,2,1030,1031,1033,1037,1038] 9 0 (.k 7 (aj g) (.k 1 (aj l) (.k 3 (aj z1) (.k 10 (aj B) (.k 12 (aj C) (.n 2 .nil)))))) (.c d (.c a (.k [0,2,3,5,9,10,11] o (.c cs (.c A (.k [0,2,3,4,5,6,7] w (.c u (.c kb_1 (.c m0 (.c c (.c b (.c cl .nil)))))))))))))
  | true=>
   rcases tf (decide (((1:Nat):Int)≤(e:Int))) with z1|z1
   ·rcases tf (decide ((e:Int)≤((3:Nat):Int))) with z3|z3
    ·rcases tf O with fa1|fa1
     ·rcases tf Q with fb1|fb1
      ·have l:((e:Int)==((4:Nat):Int))=false:=by simp only [decide_eq_true_eq,decide_eq_false_iff_not,beq_iff_eq,Yq2] at*;omega
       have g:((e:Int)==((5:Nat):Int))=false:=by simp only [decide_eq_true_eq,decide_eq_false_iff_not,beq_iff_eq,Yq2] at*;omega
       obtain ⟨M,K,J,N,t0,s0⟩:=MP G F (fZ false) (gq true j i n1 n2) 2 2 n e ia ib O Q k3 qs (by omega) t (P fa1) k D;have V:bg prog ap [] 239 (f_ 30 (ag f36)) _ .normal _:=s0;obtain ⟨X,kc2,Y,u1,t1,Z⟩:=MQ G F (fZ false) (gq true j i n1 n2) 2 2 n e ia ib O Q K M (by omega) J (hib fb1) k N;have g31:bg prog ap [] 239 (f_ 31 (ag f36)) _ .normal _:=Z;exact dI false true j i n1 n2 n X Y v k u1 (pK [0,2,1030,1031,1033,1037,1038] 9 62 (.k 7 (aj g) (.k 1 (aj l) (.c (ai fb1) (.c (ai fa1) (.c (ai z3) (.c (ai z1) (.k 18 (ai B) (.k 12 (aj C) (.n 2 .nil))))))))) (.k [2,3,5,9,12,13,14,15] g31 (.k [2,3,5,9,12,13,14,15] V (.c d (.c a (.k [0,2,3,5,9,10,11] o (.c cs (.c A (.k [0,2,3,4,5,6,7] w (.c kb_2 (.c u (.c kb_1 (.c m0 (.c c (.c b (.c cl .nil))))))))))))))))
      ·have l:((e:Int)==((4:Nat):Int))=false:=by simp only [decide_eq_true_eq,decide_eq_false_iff_not,beq_iff_eq,Yq2] at*;omega
       have g:((e:Int)==((5:Nat):Int))=false:=by simp only [decide_eq_true_eq,decide_eq_false_iff_not,beq_iff_eq,Yq2] at*;omega
       exact dI false true j i n1 n2 n qs t v k D (pK [0,2,1030,1031,1033,1037,1038] 9 30 (.k 7 (aj g) (.k 1 (aj l) (.c (aj fb1) (.c (ai fa1) (.c (ai z3) (.c (ai z1) (.k 18 (ai B) (.k 12 (aj C) (.n 2 .nil))))))))) (.c d (.c a (.k [0,2,3,5,9,10,11] o (.c cs (.c A (.k [0,2,3,4,5,6,7] w (.c kb_2 (.c u (.c kb_1 (.c m0 (.c c (.c b (.c cl .nil))))))))))))))
     ·have l:((e:Int)==((4:Nat):Int))=false:=by simp only [decide_eq_true_eq,decide_eq_false_iff_not,beq_iff_eq,Yq2] at*;omega
      have g:((e:Int)==((5:Nat):Int))=false:=by simp only [decide_eq_true_eq,decide_eq_false_iff_not,beq_iff_eq,Yq2] at*;omega
      exact dI false true j i n1 n2 n qs t v k D (pK [0,2,1030,1031,1033,1037,1038] 9 14 (.k 7 (aj g) (.k 1 (aj l) (.k 1 (aj fa1) (.c (ai z3) (.c (ai z1) (.k 18 (ai B) (.k 12 (aj C) (.n 2 .nil)))))))) (.c d (.c a (.k [0,2,3,5,9,10,11] o (.c cs (.c A (.k [0,2,3,4,5,6,7] w (.c kb_2 (.c u (.c kb_1 (.c m0 (.c c (.c b (.c cl .nil))))))))))))))
    ·rcases tf ((e:Int)==((4:Nat):Int)) with l|l
     ·rcases tf O with fa1|fa1
      ·have g:((e:Int)==((5:Nat):Int))=false:=by simp only [decide_eq_true_eq,decide_eq_false_iff_not,beq_iff_eq,Yq2] at*;omega
       obtain ⟨M,K,J,N,t0,s0⟩:=MR G F (fZ false) (gq true j i n1 n2) 2 2 n e ia ib O Q k3 qs (by omega) t (P fa1) k D;have R:bg prog ap [] 239 (f_ 33 (ag f36)) _ .normal _:=s0;exact dI false true j i n1 n2 n M J v k N (pK [0,2,1030,1031,1033,1037,1038] 9 198 (.k 7 (aj g) (.c (ai fa1) (.c (ai l) (.k 2 (aj z3) (.c (ai z1) (.k 18 (ai B) (.k 12 (aj C) (.n 2 .nil)))))))) (.k [2,3,5,9,12,13,14,15] R (.c d (.c a (.k [0,2,3,5,9,10,11] o (.c cs (.c A (.k [0,2,3,4,5,6,7] w (.c kb_2 (.c u (.c kb_1 (.c m0 (.c c (.c b (.c cl .nil)))))))))))))))
      ·have g:((e:Int)==((5:Nat):Int))=false:=by simp only [decide_eq_true_eq,decide_eq_false_iff_not,beq_iff_eq,Yq2] at*;omega
       exact dI false true j i n1 n2 n qs t v k D (pK [0,2,1030,1031,1033,1037,1038] 9 70 (.k 7 (aj g) (.c (aj fa1) (.c (ai l) (.k 2 (aj z3) (.c (ai z1) (.k 18 (ai B) (.k 12 (aj C) (.n 2 .nil)))))))) (.c d (.c a (.k [0,2,3,5,9,10,11] o (.c cs (.c A (.k [0,2,3,4,5,6,7] w (.c kb_2 (.c u (.c kb_1 (.c m0 (.c c (.c b (.c cl .nil))))))))))))))
     ·rcases tf ((e:Int)==((5:Nat):Int)) with g|g
      ·obtain ⟨E,k4,s,hk4,m3⟩:=aQ G F k3 n (by omega) (by omega) (by omega);obtain ⟨pp,px,pr,hs,hi⟩:=gu qs E (by omega);have S:=fJ (f:=iG) (m:=12) (fun _=>rfl) pp pr px E 1 hi (by decide);rw [← hs] at S;change ε _ (dD qs)=_ at S;have I:(chk .bool (Xqm (ε ((((0+(γ (E:Int)))*12)+1)+0) (dD qs)) .dead))=true:=by rw [Xqo,S];rfl
       rcases tf (AV.toBool (Xqm (ε ((((0+(γ (E:Int)))*12)+1)+0) (dD qs)) .dead)) with zT|zT
       ·exact dI false true j i n1 n2 n qs t v k D (pK [0,2,1030,1031,1033,1037,1038] 10 262 (.k 7 (dM zT) (.c I (.c (k0 E) (.c (kl s) (.k 2 (ai g) (.k 1 (aj l) (.k 2 (aj z3) (.c (ai z1) (.k 18 (ai B) (.k 12 (aj C) (.n 2 .nil))))))))))) (.c m3 (.c d (.c a (.k [0,2,3,5,9,10,11] o (.c cs (.c A (.k [0,2,3,4,5,6,7] w (.c kb_2 (.c u (.c kb_1 (.c m0 (.c c (.c b (.c cl .nil)))))))))))))))
       ·obtain ⟨M,U,J,N,t0,s0⟩:=MS G F (fZ false) (gq true j i n1 n2) 2 2 n E k4 qs (by omega) t s k D;have g37:bg prog ap [] 239 (f_ 37 (ag f36)) _ .normal _:=s0;obtain ⟨X,kd2,Y,u1,t1,Z⟩:=MV G F (fZ false) (gq true j i n1 n2) 2 2 n E U M (by omega) J s k N;have T:bg prog ap [] 239 (f_ 38 (ag f36)) _ .normal _:=Z;exact dI false true j i n1 n2 n X Y v k u1 (pK [0,2,1030,1031,1033,1037,1038] 10 774 (.k 7 (fK zT) (.c I (.c (k0 E) (.c (kl s) (.k 2 (ai g) (.k 1 (aj l) (.k 2 (aj z3) (.c (ai z1) (.k 18 (ai B) (.k 12 (aj C) (.n 2 .nil))))))))))) (.k [2,3,5,16] T (.k [2,3,5,16] g37 (.c m3 (.c d (.c a (.k [0,2,3,5,9,10,11] o (.c cs (.c A (.k [0,2,3,4,5,6,7] w (.c kb_2 (.c u (.c kb_1 (.c m0 (.c c (.c b (.c cl .nil)))))))))))))))))
      ·exact dI false true j i n1 n2 n qs t v k D (pK [0,2,1030,1031,1033,1037,1038] 9 6 (.k 7 (aj g) (.k 1 (aj l) (.k 2 (aj z3) (.c (ai z1) (.k 18 (ai B) (.k 12 (aj C) (.n 2 .nil))))))) (.c d (.c a (.k [0,2,3,5,9,10,11] o (.c cs (.c A (.k [0,2,3,4,5,6,7] w (.c kb_2 (.c u (.c kb_1 (.c m0 (.c c (.c b (.c cl .nil))))))))))))))
   ·have l:((e:Int)==((4:Nat):Int))=false:=by simp only [decide_eq_true_eq,decide_eq_false_iff_not,beq_iff_eq,Yq2] at*;omega
    have g:((e:Int)==((5:Nat):Int))=false:=by simp only [decide_eq_true_eq,decide_eq_false_iff_not,beq_iff_eq,Yq2] at*;omega
    exact dI false true j i n1 n2 n qs t v k D (pK [0,2,1030,1031,1033,1037,1038] 9 2 (.k 7 (aj g) (.k 1 (aj l) (.k 3 (aj z1) (.k 18 (ai B) (.k 12 (aj C) (.n 2 .nil)))))) (.c d (.c a (.k [0,2,3,5,9,10,11] o (.c cs (.c A (.k [0,2,3,4,5,6,7] w (.c kb_2 (.c u (.c kb_1 (.c m0 (.c c (.c b (.c cl .nil))))))))))))))
 | true =>
  cases x with
  | false=>
   rcases tf (decide (((1:Nat):Int)≤(e:Int))) with z1|z1
   ·rcases tf (decide ((e:Int)≤((3:Nat):Int))) with z3|z3
    ·rcases tf O with fa1|fa1
     ·rcases tf Q with fb1|fb1
      ·have l:((e:Int)==((4:Nat):Int))=false:=by simp only [decide_eq_true_eq,decide_eq_false_iff_not,beq_iff_eq,Yq2] at*;omega
       have g:((e:Int)==((5:Nat):Int))=false:=by simp only [decide_eq_true_eq,decide_eq_false_iff_not,beq_iff_eq,Yq2] at*;omega
       obtain ⟨M,K,J,N,t0,s0⟩:=MP G F (fZ true) (gq false j i n1 n2) 3 1 n e ia ib O Q k3 qs (by omega) t (P fa1) k D;have V:bg prog ap [] 239 (f_ 30 (ag f36)) _ .normal _:=s0;obtain ⟨X,kc2,Y,u1,t1,Z⟩:=MQ G F (fZ true) (gq false j i n1 n2) 3 1 n e ia ib O Q K M (by omega) J (hib fb1) k N;have g31:bg prog ap [] 239 (f_ 31 (ag f36)) _ .normal _:=Z;exact dI true false j i n1 n2 n X Y v k u1 (pK [0,2,1030,1031,1033,1037,1038] 9 61 (.k 7 (aj g) (.k 1 (aj l) (.c (ai fb1) (.c (ai fa1) (.c (ai z3) (.c (ai z1) (.k 10 (aj B) (.k 21 (ai C) (.n 2 .nil))))))))) (.k [2,3,5,9,12,13,14,15] g31 (.k [2,3,5,9,12,13,14,15] V (.c d (.c a (.k [0,2,3,5,9,10,11] o (.c cs (.c A (.k [0,2,3,4,5,6,7] w (.c u (.c kb_1 (.c m0 (.c c (.c b (.c cl .nil)))))))))))))))
      ·have l:((e:Int)==((4:Nat):Int))=false:=by simp only [decide_eq_true_eq,decide_eq_false_iff_not,beq_iff_eq,Yq2] at*;omega
       have g:((e:Int)==((5:Nat):Int))=false:=by simp only [decide_eq_true_eq,decide_eq_false_iff_not,beq_iff_eq,Yq2] at*;omega
       exact dI true false j i n1 n2 n qs t v k D (pK [0,2,1030,1031,1033,1037,1038] 9 29 (.k 7 (aj g) (.k 1 (aj l) (.c (aj fb1) (.c (ai fa1) (.c (ai z3) (.c (ai z1) (.k 10 (aj B) (.k 21 (ai C) (.n 2 .nil))))))))) (.c d (.c a (.k [0,2,3,5,9,10,11] o (.c cs (.c A (.k [0,2,3,4,5,6,7] w (.c u (.c kb_1 (.c m0 (.c c (.c b (.c cl .nil)))))))))))))
     ·have l:((e:Int)==((4:Nat):Int))=false:=by simp only [decide_eq_true_eq,decide_eq_false_iff_not,beq_iff_eq,Yq2] at*;omega
      have g:((e:Int)==((5:Nat):Int))=false:=by simp only [decide_eq_true_eq,decide_eq_false_iff_not,beq_iff_eq,Yq2] at*;omega
      exact dI true false j i n1 n2 n qs t v k D (pK [0,2,1030,1031,1033,1037,1038] 9 13 (.k 7 (aj g) (.k 1 (aj l) (.k 1 (aj fa1) (.c (ai z3) (.c (ai z1) (.k 10 (aj B) (.k 21 (ai C) (.n 2 .nil)))))))) (.c d (.c a (.k [0,2,3,5,9,10,11] o (.c cs (.c A (.k [0,2,3,4,5,6,7] w (.c u (.c kb_1 (.c m0 (.c c (.c b (.c cl .nil)))))))))))))
    ·rcases tf ((e:Int)==((4:Nat):Int)) with l|l
     ·rcases tf O with fa1|fa1
      ·have g:((e:Int)==((5:Nat):Int))=false:=by simp only [decide_eq_true_eq,decide_eq_false_iff_not,beq_iff_eq,Yq2] at*;omega
       obtain ⟨M,K,J,N,t0,s0⟩:=MR G F (fZ true) (gq false j i n1 n2) 3 1 n e ia ib O Q k3 qs (by omega) t (P fa1) k D;have R:bg prog ap [] 239 (f_ 33 (ag f36)) _ .normal _:=s0;exact dI true false j i n1 n2 n M J v k N (pK [0,2,1030,1031,1033,1037,1038] 9 197 (.k 7 (aj g) (.c (ai fa1) (.c (ai l) (.k 2 (aj z3) (.c (ai z1) (.k 10 (aj B) (.k 21 (ai C) (.n 2 .nil)))))))) (.k [2,3,5,9,12,13,14,15] R (.c d (.c a (.k [0,2,3,5,9,10,11] o (.c cs (.c A (.k [0,2,3,4,5,6,7] w (.c u (.c kb_1 (.c m0 (.c c (.c b (.c cl .nil))))))))))))))
      ·have g:((e:Int)==((5:Nat):Int))=false:=by simp only [decide_eq_true_eq,decide_eq_false_iff_not,beq_iff_eq,Yq2] at*;omega
       exact dI true false j i n1 n2 n qs t v k D (pK [0,2,1030,1031,1033,1037,1038] 9 69 (.k 7 (aj g) (.c (aj fa1) (.c (ai l) (.k 2 (aj z3) (.c (ai z1) (.k 10 (aj B) (.k 21 (ai C) (.n 2 .nil)))))))) (.c d (.c a (.k [0,2,3,5,9,10,11] o (.c cs (.c A (.k [0,2,3,4,5,6,7] w (.c u (.c kb_1 (.c m0 (.c c (.c b (.c cl .nil)))))))))))))
     ·rcases tf ((e:Int)==((5:Nat):Int)) with g|g
      ·obtain ⟨E,k4,s,hk4,m3⟩:=aQ G F k3 n (by omega) (by omega) (by omega);obtain ⟨pp,px,pr,hs,hi⟩:=gu qs E (by omega);have S:=fJ (f:=iG) (m:=12) (fun _=>rfl) pp pr px E 1 hi (by decide);rw [← hs] at S;change ε _ (dD qs)=_ at S;have I:(chk .bool (Xqm (ε ((((0+(γ (E:Int)))*12)+1)+0) (dD qs)) .dead))=true:=by rw [Xqo,S];rfl
       rcases tf (AV.toBool (Xqm (ε ((((0+(γ (E:Int)))*12)+1)+0) (dD qs)) .dead)) with zT|zT
       ·exact dI true false j i n1 n2 n qs t v k D (pK [0,2,1030,1031,1033,1037,1038] 10 261 (.k 7 (dM zT) (.c I (.c (k0 E) (.c (kl s) (.k 2 (ai g) (.k 1 (aj l) (.k 2 (aj z3) (.c (ai z1) (.k 10 (aj B) (.k 21 (ai C) (.n 2 .nil))))))))))) (.c m3 (.c d (.c a (.k [0,2,3,5,9,10,11] o (.c cs (.c A (.k [0,2,3,4,5,6,7] w (.c u (.c kb_1 (.c m0 (.c c (.c b (.c cl .nil))))))))))))))
       ·obtain ⟨M,U,J,N,t0,s0⟩:=MS G F (fZ true) (gq false j i n1 n2) 3 1 n E k4 qs (by omega) t s k D;have g37:bg prog ap [] 239 (f_ 37 (ag f36)) _ .normal _:=s0;obtain ⟨X,kd2,Y,u1,t1,Z⟩:=MV G F (fZ true) (gq false j i n1 n2) 3 1 n E U M (by omega) J s k N;have T:bg prog ap [] 239 (f_ 38 (ag f36)) _ .normal _:=Z;exact dI true false j i n1 n2 n X Y v k u1 (pK [0,2,1030,1031,1033,1037,1038] 10 773 (.k 7 (fK zT) (.c I (.c (k0 E) (.c (kl s) (.k 2 (ai g) (.k 1 (aj l) (.k 2 (aj z3) (.c (ai z1) (.k 10 (aj B) (.k 21 (ai C) (.n 2 .nil))))))))))) (.k [2,3,5,16] T (.k [2,3,5,16] g37 (.c m3 (.c d (.c a (.k [0,2,3,5,9,10,11] o (.c cs (.c A (.k [0,2,3,4,5,6,7] w (.c u (.c kb_1 (.c m0 (.c c (.c b (.c cl .nil))))))))))))))))
      ·exact dI true false j i n1 n2 n qs t v k D (pK [0,2,1030,1031,1033,1037,1038] 9 5 (.k 7 (aj g) (.k 1 (aj l) (.k 2 (aj z3) (.c (ai z1) (.k 10 (aj B) (.k 21 (ai C) (.n 2 .nil))))))) (.c d (.c a (.k [0,2,3,5,9,10,11] o (.c cs (.c A (.k [0,2,3,4,5,6,7] w (.c u (.c kb_1 (.c m0 (.c c (.c b (.c cl .nil)))))))))))))
   ·have l:((e:Int)==((4:Nat):Int))=false:=by simp only [decide_eq_true_eq,decide_eq_false_iff_not,beq_iff_eq,Yq2] at*;omega
    have g:((e:Int)==((5:Nat):Int))=false:=by simp only [decide_eq_true_eq,decide_eq_false_iff_not,beq_iff_eq,Yq2] at*;omega
    exact dI true false j i n1 n2 n qs t v k D (pK [0,2,1030,1031,1033,1037,1038] 9 1 (.k 7 (aj g) (.k 1 (aj l) (.k 3 (aj z1) (.k 10 (aj B) (.k 21 (ai C) (.n 2 .nil)))))) (.c d (.c a (.k [0,2,3,5,9,10,11] o (.c cs (.c A (.k [0,2,3,4,5,6,7] w (.c u (.c kb_1 (.c m0 (.c c (.c b (.c cl .nil)))))))))))))
  | true=>
   rcases tf (decide (((1:Nat):Int)≤(e:Int))) with z1|z1
   ·rcases tf (decide ((e:Int)≤((3:Nat):Int))) with z3|z3
    ·rcases tf O with fa1|fa1
     ·rcases tf Q with fb1|fb1
      ·have l:((e:Int)==((4:Nat):Int))=false:=by simp only [decide_eq_true_eq,decide_eq_false_iff_not,beq_iff_eq,Yq2] at*;omega
       have g:((e:Int)==((5:Nat):Int))=false:=by simp only [decide_eq_true_eq,decide_eq_false_iff_not,beq_iff_eq,Yq2] at*;omega
       obtain ⟨M,K,J,N,t0,s0⟩:=MP G F (fZ true) (gq true j i n1 n2) 3 2 n e ia ib O Q k3 qs (by omega) t (P fa1) k D;have V:bg prog ap [] 239 (f_ 30 (ag f36)) _ .normal _:=s0;obtain ⟨X,kc2,Y,u1,t1,Z⟩:=MQ G F (fZ true) (gq true j i n1 n2) 3 2 n e ia ib O Q K M (by omega) J (hib fb1) k N;have g31:bg prog ap [] 239 (f_ 31 (ag f36)) _ .normal _:=Z;exact dI true true j i n1 n2 n X Y v k u1 (pK [0,2,1030,1031,1033,1037,1038] 9 63 (.k 7 (aj g) (.k 1 (aj l) (.c (ai fb1) (.c (ai fa1) (.c (ai z3) (.c (ai z1) (.k 18 (ai B) (.k 21 (ai C) (.n 2 .nil))))))))) (.k [2,3,5,9,12,13,14,15] g31 (.k [2,3,5,9,12,13,14,15] V (.c d (.c a (.k [0,2,3,5,9,10,11] o (.c cs (.c A (.k [0,2,3,4,5,6,7] w (.c kb_2 (.c u (.c kb_1 (.c m0 (.c c (.c b (.c cl .nil))))))))))))))))
      ·have l:((e:Int)==((4:Nat):Int))=false:=by simp only [decide_eq_true_eq,decide_eq_false_iff_not,beq_iff_eq,Yq2] at*;omega
       have g:((e:Int)==((5:Nat):Int))=false:=by simp only [decide_eq_true_eq,decide_eq_false_iff_not,beq_iff_eq,Yq2] at*;omega
       exact dI true true j i n1 n2 n qs t v k D (pK [0,2,1030,1031,1033,1037,1038] 9 31 (.k 7 (aj g) (.k 1 (aj l) (.c (aj fb1) (.c (ai fa1) (.c (ai z3) (.c (ai z1) (.k 18 (ai B) (.k 21 (ai C) (.n 2 .nil))))))))) (.c d (.c a (.k [0,2,3,5,9,10,11] o (.c cs (.c A (.k [0,2,3,4,5,6,7] w (.c kb_2 (.c u (.c kb_1 (.c m0 (.c c (.c b (.c cl .nil))))))))))))))
     ·have l:((e:Int)==((4:Nat):Int))=false:=by simp only [decide_eq_true_eq,decide_eq_false_iff_not,beq_iff_eq,Yq2] at*;omega
      have g:((e:Int)==((5:Nat):Int))=false:=by simp only [decide_eq_true_eq,decide_eq_false_iff_not,beq_iff_eq,Yq2] at*;omega
      exact dI true true j i n1 n2 n qs t v k D (pK [0,2,1030,1031,1033,1037,1038] 9 15 (.k 7 (aj g) (.k 1 (aj l) (.k 1 (aj fa1) (.c (ai z3) (.c (ai z1) (.k 18 (ai B) (.k 21 (ai C) (.n 2 .nil)))))))) (.c d (.c a (.k [0,2,3,5,9,10,11] o (.c cs (.c A (.k [0,2,3,4,5,6,7] w (.c kb_2 (.c u (.c kb_1 (.c m0 (.c c (.c b (.c cl .nil))))))))))))))
    ·rcases tf ((e:Int)==((4:Nat):Int)) with l|l
     ·rcases tf O with fa1|fa1
      ·have g:((e:Int)==((5:Nat):Int))=false:=by simp only [decide_eq_true_eq,decide_eq_false_iff_not,beq_iff_eq,Yq2] at*;omega
       obtain ⟨M,K,J,N,t0,s0⟩:=MR G F (fZ true) (gq true j i n1 n2) 3 2 n e ia ib O Q k3 qs (by omega) t (P fa1) k D;have R:bg prog ap [] 239 (f_ 33 (ag f36)) _ .normal _:=s0;exact dI true true j i n1 n2 n M J v k N (pK [0,2,1030,1031,1033,1037,1038] 9 199 (.k 7 (aj g) (.c (ai fa1) (.c (ai l) (.k 2 (aj z3) (.c (ai z1) (.k 18 (ai B) (.k 21 (ai C) (.n 2 .nil)))))))) (.k [2,3,5,9,12,13,14,15] R (.c d (.c a (.k [0,2,3,5,9,10,11] o (.c cs (.c A (.k [0,2,3,4,5,6,7] w (.c kb_2 (.c u (.c kb_1 (.c m0 (.c c (.c b (.c cl .nil)))))))))))))))
      ·have g:((e:Int)==((5:Nat):Int))=false:=by simp only [decide_eq_true_eq,decide_eq_false_iff_not,beq_iff_eq,Yq2] at*;omega
       exact dI true true j i n1 n2 n qs t v k D (pK [0,2,1030,1031,1033,1037,1038] 9 71 (.k 7 (aj g) (.c (aj fa1) (.c (ai l) (.k 2 (aj z3) (.c (ai z1) (.k 18 (ai B) (.k 21 (ai C) (.n 2 .nil)))))))) (.c d (.c a (.k [0,2,3,5,9,10,11] o (.c cs (.c A (.k [0,2,3,4,5,6,7] w (.c kb_2 (.c u (.c kb_1 (.c m0 (.c c (.c b (.c cl .nil))))))))))))))
     ·rcases tf ((e:Int)==((5:Nat):Int)) with g|g
      ·obtain ⟨E,k4,s,hk4,m3⟩:=aQ G F k3 n (by omega) (by omega) (by omega);obtain ⟨pp,px,pr,hs,hi⟩:=gu qs E (by omega);have S:=fJ (f:=iG) (m:=12) (fun _=>rfl) pp pr px E 1 hi (by decide);rw [← hs] at S;change ε _ (dD qs)=_ at S;have I:(chk .bool (Xqm (ε ((((0+(γ (E:Int)))*12)+1)+0) (dD qs)) .dead))=true:=by rw [Xqo,S];rfl
       rcases tf (AV.toBool (Xqm (ε ((((0+(γ (E:Int)))*12)+1)+0) (dD qs)) .dead)) with zT|zT
       ·exact dI true true j i n1 n2 n qs t v k D (pK [0,2,1030,1031,1033,1037,1038] 10 263 (.k 7 (dM zT) (.c I (.c (k0 E) (.c (kl s) (.k 2 (ai g) (.k 1 (aj l) (.k 2 (aj z3) (.c (ai z1) (.k 18 (ai B) (.k 21 (ai C) (.n 2 .nil))))))))))) (.c m3 (.c d (.c a (.k [0,2,3,5,9,10,11] o (.c cs (.c A (.k [0,2,3,4,5,6,7] w (.c kb_2 (.c u (.c kb_1 (.c m0 (.c c (.c b (.c cl .nil)))))))))))))))
       ·obtain ⟨M,U,J,N,t0,s0⟩:=MS G F (fZ true) (gq true j i n1 n2) 3 2 n E k4 qs (by omega) t s k D;have g37:bg prog ap [] 239 (f_ 37 (ag f36)) _ .normal _:=s0;obtain ⟨X,kd2,Y,u1,t1,Z⟩:=MV G F (fZ true) (gq true j i n1 n2) 3 2 n E U M (by omega) J s k N;have T:bg prog ap [] 239 (f_ 38 (ag f36)) _ .normal _:=Z;exact dI true true j i n1 n2 n X Y v k u1 (pK [0,2,1030,1031,1033,1037,1038] 10 775 (.k 7 (fK zT) (.c I (.c (k0 E) (.c (kl s) (.k 2 (ai g) (.k 1 (aj l) (.k 2 (aj z3) (.c (ai z1) (.k 18 (ai B) (.k 21 (ai C) (.n 2 .nil))))))))))) (.k [2,3,5,16] T (.k [2,3,5,16] g37 (.c m3 (.c d (.c a (.k [0,2,3,5,9,10,11] o (.c cs (.c A (.k [0,2,3,4,5,6,7] w (.c kb_2 (.c u (.c kb_1 (.c m0 (.c c (.c b (.c cl .nil)))))))))))))))))
      ·exact dI true true j i n1 n2 n qs t v k D (pK [0,2,1030,1031,1033,1037,1038] 9 7 (.k 7 (aj g) (.k 1 (aj l) (.k 2 (aj z3) (.c (ai z1) (.k 18 (ai B) (.k 21 (ai C) (.n 2 .nil))))))) (.c d (.c a (.k [0,2,3,5,9,10,11] o (.c cs (.c A (.k [0,2,3,4,5,6,7] w (.c kb_2 (.c u (.c kb_1 (.c m0 (.c c (.c b (.c cl .nil))))))))))))))
   ·have l:((e:Int)==((4:Nat):Int))=false:=by simp only [decide_eq_true_eq,decide_eq_false_iff_not,beq_iff_eq,Yq2] at*;omega
    have g:((e:Int)==((5:Nat):Int))=false:=by simp only [decide_eq_true_eq,decide_eq_false_iff_not,beq_iff_eq,Yq2] at*;omega
    exact dI true true j i n1 n2 n qs t v k D (pK [0,2,1030,1031,1033,1037,1038] 9 3 (.k 7 (aj g) (.k 1 (aj l) (.k 3 (aj z1) (.k 18 (ai B) (.k 21 (ai C) (.n 2 .nil)))))) (.c d (.c a (.k [0,2,3,5,9,10,11] o (.c cs (.c A (.k [0,2,3,4,5,6,7] w (.c kb_2 (.c u (.c kb_1 (.c m0 (.c c (.c b (.c cl .nil))))))))))))))
theorem rz (b v n:Nat):AV.ref b v 0 (0+n)= .ref b v 0 n:=by rw [Θ]
theorem Jl {a b:Nat} (h:a=b):υ a b=true:=by rw [h];exact Nat.beq_refl b
theorem QF (a:Int):∃ t,CO 87 [ω a] (.ret (.agg (EE t))):=by
 obtain ⟨r,b,hm⟩:=kK a 5 (by omega) (by omega)
 match r,b,hm with
 |0,_,hm=>exact ⟨tM,cD [86] (.c hm .nil)⟩
 |1,_,hm=>exact ⟨tD,cD [86] (.c hm .nil)⟩
 |2,_,hm=>exact ⟨tP,cD [86] (.c hm .nil)⟩
 |3,_,hm=>exact ⟨tT,cD [86] (.c hm .nil)⟩
 |4,_,hm=>exact ⟨⟨false,1, -1⟩,cD [86] (.c hm .nil)⟩
def LwB (L:Lw):Prop:=L.ps.length≤6∧∀ p ∈ L.ps,BD p
theorem vG {args:List AV} {F S:List AV} {fN sN n:Nat} (a:List Pv) (b:a.length=n) (c:n≤6) (d:∀ z ∈ a,BD z) (h:CO 37 args (.ret (.agg [.sl F fN true,.sl S sN true,.sl (μ (n*12) (bQ a)) n true]))):∃ L2,LwB L2∧CO 37 args (.ret (.agg (L2.c true true true))):=by
 rw [τ (by rw [show (bQ a).length=a.length*12 from dY (f:=vZ) (n:=12) (fun _=>rfl) a,b];exact ζ _),← b] at h;exact ⟨⟨F,fN,S,sN,a⟩,⟨by show a.length≤6;omega,d⟩,h⟩
theorem ahh (a:Int) (n:Nat) (e:0<n): -(n:Int)<Xxb a n∧Xxb a n<n:=by
 have d:=Xx4 a (b:=(n:Int)) (by omega);have c:=Xx4 (-a) (b:=(n:Int)) (by omega);rw [Int.neg_tmod] at c;omega
theorem NW (L:Lw) (hL:Yk L) (a b c:Bool) (q0 Z K:Int):∃ L2,LwB L2∧CO 37 [.agg (L.c a b c),.agg [ω q0,ω Z,ω K]] (.ret (.agg (L2.c true true true))):=by
 obtain ⟨p1,p6,ok,f1,f3,fl,s1,s2,sl⟩:=hL;obtain ⟨d,hia,m0⟩:=kK Z L.ps.length (by omega) (by omega);obtain ⟨l,hiF,Q⟩:=kK Z L.fn (by omega) (by omega);obtain ⟨P,hiS,R⟩:=kK Z L.sn (by omega) (by omega);obtain ⟨X,him,T⟩:=kK K 8 (by omega) (by omega);obtain ⟨kd,hkd,q⟩:=kK q0 14 (by omega) (by omega);obtain ⟨pp,x,G,hs,hi⟩:=gu L.ps d hia;have k:(bQ L.ps).length=L.ps.length*12:=dY (f:=vZ) (n:=12) (fun _=>rfl) L.ps;have hA0:=fJ (f:=vZ) (m:=12) (fun _=>rfl) pp G x d 0 hi (by decide);have hD:=fJ (f:=vZ) (m:=12) (fun _=>rfl) pp G x d 12 hi (by decide);have hE:=oJ (f:=vZ) (m:=12) (fun _=>rfl) pp G x d 0 hi (by decide);rw [← hs] at hA0 hD hE;rw [Xqo] at hA0 hE;have E:ε ((0+(γ (d:Int)))*12) (bQ L.ps)=vZ x++bQ G:=hA0;have hx:BD x:=ok x (by rw [hs];simp);have Y:η .i64 ((d:Int)+((1:Nat):Int))=((d+1:Nat):Int):=by rw [dP]<;>omega
 have I:η .i64 ((l:Int)+((1:Nat):Int))=((l+1:Nat):Int):=by rw [dP]<;>omega
 have U:∀ z:Pv,μ ((0+(γ (d:Int)))*12) (bQ L.ps)++vZ z++ε (((0+(γ (d:Int)))*12)+12) (bQ L.ps)=bQ (pp++z::G):=fun z=>by
  unfold bQ at*
  rw [hE,hD,Xql,Xqa,Δ,Δ];rfl
 have J:∀ z:Pv,(pp++z::G).length=L.ps.length:=fun z=>by rw [hs];simp
 obtain ⟨O,u⟩:∃ v,(.str (AV.toStr (Xqm (ε ((γ (X:Int))*1) [.str [98,97,115,101],.str [97,103,101],.str [98,97,115,105,99],.str [111,116,104,101,114],.str [],.str [84,97,120],.str [116,97,120],.str [122,122,122,122,122,122,122,122,122,122,122,122,122,122,122,122,122,122,122,122,122]]) .dead)):AV)= .str v:=⟨_,rfl⟩
 have C:(decide (((0:Nat):Int)≤(X:Int)))=true:=(Yq0 (by omega))
 have B:(decide ((X:Int)<((8:Nat):Int)))=true:=(Yq0 (by omega))
 have t:(chk .str (Xqm (ε ((γ (X:Int))*1) [.str [98,97,115,101],.str [97,103,101],.str [98,97,115,105,99],.str [111,116,104,101,114],.str [],.str [84,97,120],.str [116,97,120],.str [122,122,122,122,122,122,122,122,122,122,122,122,122,122,122,122,122,122,122,122,122]]) .dead))=true:=(by rcases (show X=0∨X=1∨X=2∨X=3∨X=4∨X=5∨X=6∨X=7 by omega) with rfl|rfl|rfl|rfl|rfl|rfl|rfl|rfl<;>rfl)
 have i:(decide (((0:Nat):Int)≤(d:Int)))=true:=(Yq0 (by omega))
 have j:(decide ((d:Int)<(L.ps.length:Int)))=true:=(Yq0 (by omega))
 have r:(υ (κ (bQ L.ps)) (L.ps.length*12))=true:=(Jl k)
 have s:(Ψ (0+L.ps.length) 549755813888)=true:=(dw (by omega))
 have D:(υ (κ L.sx) (L.sn*4))=true:=(Jl sl)
 have w:(Ψ (0+L.sn) 1099511627776)=true:=(dw (by omega))
 have A:(υ (κ L.fx) (L.fn*4))=true:=(Jl fl)
 have g:(Ψ (0+L.fn) 1099511627776)=true:=(dw (by omega))
 match kd,hkd,q with
 | 0,_,q=>
  have hb1:((μ (d*12) (bQ pp))++(μ (((γ (L.ps.length:Int)) - (γ (η .i64 ((d:Int)+((1:Nat):Int)))))*12) (ε ((0+(γ (η .i64 ((d:Int)+((1:Nat):Int)))))*12) (bQ L.ps))))=(bQ (pp++G)):=by
   rw [Y,aS,aS,show (0+(d+1))*12=((0+(γ (d:Int)))*12)+12 by rw [aS];omega];unfold bQ at*
   rw [hD,τ (by rw [dY (f:=vZ) (n:=12) (fun _=>rfl) pp];omega),Xql,List.drop_of_length_le (show (vZ x).length≤12 from ζ _),θ,τ (by rw [dY (f:=vZ) (n:=12) (fun _=>rfl) G];rw [hs] at*;simp at*;omega)]
  have hr1:(.ref 7 2 0 (d+((γ (L.ps.length:Int)) - (γ (η .i64 ((d:Int)+((1:Nat):Int)))))):AV)= .ref 7 2 0 (L.ps.length - 1):=by rw [Y,aS,aS];congr 1;omega
  have hb0:([]++(μ (((γ (d:Int)) - 0)*12) (bQ L.ps)))=(bQ pp):=by
   rw [θ,show ((γ (d:Int)) - 0)*12=(0+(γ (d:Int)))*12 by omega];unfold bQ at*
   rw [hE,List.take_zero,ο]
  have hr0:(.ref 7 1 0 (0+((γ (d:Int)) - 0)):AV)= .ref 7 1 0 d:=by simp [γ]
  have e:(υ (κ (μ (((γ (L.ps.length:Int)) - (γ (η .i64 ((d:Int)+((1:Nat):Int)))))*12) (ε ((0+(γ (η .i64 ((d:Int)+((1:Nat):Int)))))*12) (bQ L.ps)))) (((γ (L.ps.length:Int)) - (γ (η .i64 ((d:Int)+((1:Nat):Int)))))*12))=true:=(Jl (by simp only [Y,I,aS,Xqn,Xq8,k,fl];omega))
  have o:(Ψ (d+((γ (L.ps.length:Int)) - (γ (η .i64 ((d:Int)+((1:Nat):Int)))))) 549755813888)=true:=(dw (by simp only [Y,I,aS];omega))
  have p:(Ψ (d*12) (κ (bQ pp)))=true:=(dw (by rw [show (bQ pp).length=pp.length*12 from dY (f:=vZ) (n:=12) (fun _=>rfl) pp];omega))
  have ob3:(decide (((0:Nat):Int)≤(η .i64 ((d:Int)+((1:Nat):Int)))))=true:=(by rw [Y];exact Yq0 (by omega))
  have ob4:(decide ((η .i64 ((d:Int)+((1:Nat):Int)))≤(L.ps.length:Int)))=true:=(by rw [Y];exact Yq0 (by omega))
  have ob5:(decide ((L.ps.length:Int)≤(L.ps.length:Int)))=true:=(Yq0 (by omega))
  have ob6:(υ (κ (μ (((γ (d:Int)) - 0)*12) (bQ L.ps))) (((γ (d:Int)) - 0)*12))=true:=(Jl (by simp only [Y,I,aS,Xqn,Xq8,k,fl];omega))
  have ob7:(Ψ (0+((γ (d:Int)) - 0)) 549755813888)=true:=(dw (by simp only [Y,I,aS];omega))
  have ob8:(decide ((d:Int)≤(L.ps.length:Int)))=true:=(Yq0 (by omega))
  exact vG (F:=(μ (L.fn*4) L.fx)) (S:=(μ (L.sn*4) L.sx)) (fN:=L.fn) (sN:=L.sn) (n:=L.ps.length - 1) (pp++G) (by rw [hs];simp) (by omega) (fun z hz=>ok z (by rw [hs];rcases List.mem_append.1 hz with h|h;exact List.mem_append_left _ h;exact List.mem_append_right _ (Xqk _ h))) (pK [] 1 1 (.k 8 e (.c o (.c p (.k 1 ob3 (.c ob4 (.c ob5 (.k 1 ob6 (.c ob7 (.k 3 i (.c ob8 (.k 5 C (.c B (.c t (.n 4 (.a (bP [.str,.bool,.int .i64,.int .i64,.sl,.bool,.bool,.str,.str,.bool,.str,.str] E rfl) (.c i (.c j (.k 14 r (.c s (.k 4 D (.c w (.k 4 A (.c g (.n 3 .nil)))))))))))))))))))))))) (.b 70 hb1 (.v 70 (.eq hr1) (.b 64 hb0 (.v 64 (.eq hr0) (.c q (.v 53 (.eq u) (.c T (.v 48 (.rd [.str,.bool,.int .i64,.int .i64,.sl,.bool,.bool,.str,.str,.bool,.str,.str] E rfl) (.c R (.c Q (.c m0 (.b 24 (θ (bQ L.ps)) (.v 24 (.eq (rz 5 1 L.ps.length)) (.b 19 (θ L.sx) (.v 19 (.eq (rz 4 1 L.sn)) (.b 14 (θ L.fx) (.v 14 (.eq (rz 3 1 L.fn)) .nil))))))))))))))))))
 |1,_,q=>
  have e:(υ (κ (μ (((γ (L.fn:Int)) - (γ (η .i64 ((l:Int)+((1:Nat):Int)))))*4) (ε ((0+(γ (η .i64 ((l:Int)+((1:Nat):Int)))))*4) L.fx))) (((γ (L.fn:Int)) - (γ (η .i64 ((l:Int)+((1:Nat):Int)))))*4))=true:=(Jl (by simp only [Y,I,aS,Xqn,Xq8,k,fl];omega))
  have o:(Ψ ((0+((γ (l:Int)) - 0))+((γ (L.fn:Int)) - (γ (η .i64 ((l:Int)+((1:Nat):Int)))))) 1099511627776)=true:=(dw (by simp only [Y,I,aS];omega))
  have p:(Ψ ((0+((γ (l:Int)) - 0))*4) (κ ([]++(μ (((γ (l:Int)) - 0)*4) L.fx))))=true:=(dw (by simp only [θ,aS,Xqn,fl];omega))
  have ob3:(decide (((0:Nat):Int)≤(η .i64 ((l:Int)+((1:Nat):Int)))))=true:=(by rw [I];exact Yq0 (by omega))
  have ob4:(decide ((η .i64 ((l:Int)+((1:Nat):Int)))≤(L.fn:Int)))=true:=(by rw [I];exact Yq0 (by omega))
  have ob5:(decide ((L.fn:Int)≤(L.fn:Int)))=true:=(Yq0 (by omega))
  have ob6:(υ (κ (μ (((γ (l:Int)) - 0)*4) L.fx)) (((γ (l:Int)) - 0)*4))=true:=(Jl (by simp only [Y,I,aS,Xqn,Xq8,k,fl];omega))
  have ob7:(Ψ (0+((γ (l:Int)) - 0)) 1099511627776)=true:=(dw (by simp only [Y,I,aS];omega))
  have ob8:(decide (((0:Nat):Int)≤(l:Int)))=true:=(Yq0 (by omega))
  have ob9:(decide ((l:Int)≤(L.fn:Int)))=true:=(Yq0 (by omega))
  exact vG (F:=(μ (((0+((γ (l:Int)) - 0))+((γ (L.fn:Int)) - (γ (η .i64 ((l:Int)+((1:Nat):Int))))))*4) ((μ ((0+((γ (l:Int)) - 0))*4) ([]++(μ (((γ (l:Int)) - 0)*4) L.fx)))++(μ (((γ (L.fn:Int)) - (γ (η .i64 ((l:Int)+((1:Nat):Int)))))*4) (ε ((0+(γ (η .i64 ((l:Int)+((1:Nat):Int)))))*4) L.fx))))) (S:=(μ (L.sn*4) L.sx)) (fN:=((0+((γ (l:Int)) - 0))+((γ (L.fn:Int)) - (γ (η .i64 ((l:Int)+((1:Nat):Int))))))) (sN:=L.sn) (n:=L.ps.length) L.ps rfl (by omega) ok (pK [] 2 2 (.k 8 e (.c o (.c p (.k 1 ob3 (.c ob4 (.c ob5 (.k 1 ob6 (.c ob7 (.k 3 ob8 (.c ob9 (.k 6 C (.c B (.c t (.n 4 (.a (bP [.str,.bool,.int .i64,.int .i64,.sl,.bool,.bool,.str,.str,.bool,.str,.str] E rfl) (.c i (.c j (.k 14 r (.c s (.k 4 D (.c w (.k 4 A (.c g (.n 3 .nil)))))))))))))))))))))))) (.c q (.v 53 (.eq u) (.c T (.v 48 (.rd [.str,.bool,.int .i64,.int .i64,.sl,.bool,.bool,.str,.str,.bool,.str,.str] E rfl) (.c R (.c Q (.c m0 (.b 24 (θ (bQ L.ps)) (.v 24 (.eq (rz 5 1 L.ps.length)) (.b 19 (θ L.sx) (.v 19 (.eq (rz 4 1 L.sn)) (.b 14 (θ L.fx) (.v 14 (.eq (rz 3 1 L.fn)) .nil))))))))))))))
 |2,_,q=>
  have e:(Ψ (((0+(γ (d:Int)))*12)+12) (κ (bQ L.ps)))=true:=(dw (by rw [k,aS];omega))
  have V:(μ ((0+(γ (d:Int)))*12) (bQ L.ps)++ [.str O,.bool x.tr,ω x.tm,ω x.td,.sl (bT x.body) x.body.length false,.bool x.ch,.bool x.sn,.str x.sa,.str x.sd,.bool x.cn,.str x.ca,.str x.cd]++ε (((0+(γ (d:Int)))*12)+12) (bQ L.ps))=bQ (pp++(⟨O,x.tr,x.tm,x.td,x.body,x.ch,x.sn,x.sa,x.sd,x.cn,x.ca,x.cd⟩:Pv)::G):=U ⟨O,x.tr,x.tm,x.td,x.body,x.ch,x.sn,x.sa,x.sd,x.cn,x.ca,x.cd⟩;have h:CO 37 [.agg (L.c a b c),.agg [ω q0,ω Z,ω K]] (.ret (.agg [.sl (μ (L.fn*4) L.fx) L.fn true,.sl (μ (L.sn*4) L.sx) L.sn true,.sl (μ (L.ps.length*12) (μ ((0+(γ (d:Int)))*12) (bQ L.ps)++ [.str O,.bool x.tr,ω x.tm,ω x.td,.sl (bT x.body) x.body.length false,.bool x.ch,.bool x.sn,.str x.sa,.str x.sd,.bool x.cn,.str x.ca,.str x.cd]++ε (((0+(γ (d:Int)))*12)+12) (bQ L.ps))) L.ps.length true])):=pK [] 3 4 (.k 7 e (.c i (.c j (.k 20 C (.c B (.c t (.n 4 (.a (bP [.str,.bool,.int .i64,.int .i64,.sl,.bool,.bool,.str,.str,.bool,.str,.str] E rfl) (.c i (.c j (.k 14 r (.c s (.k 4 D (.c w (.k 4 A (.c g (.n 3 .nil))))))))))))))))) (.c q (.v 53 (.eq u) (.c T (.v 48 (.rd [.str,.bool,.int .i64,.int .i64,.sl,.bool,.bool,.str,.str,.bool,.str,.str] E rfl) (.c R (.c Q (.c m0 (.b 24 (θ (bQ L.ps)) (.v 24 (.eq (rz 5 1 L.ps.length)) (.b 19 (θ L.sx) (.v 19 (.eq (rz 4 1 L.sn)) (.b 14 (θ L.fx) (.v 14 (.eq (rz 3 1 L.fn)) .nil)))))))))))));rw [V] at h;exact vG (pp++(⟨O,x.tr,x.tm,x.td,x.body,x.ch,x.sn,x.sa,x.sd,x.cn,x.ca,x.cd⟩:Pv)::G) (J _) (by omega) (ku (by rw [← hs];exact ok) hx) h
 |3,_,q=>
  have e:(Ψ ((((0+(γ (l:Int)))*4)+0)+1) (κ L.fx))=true:=(dw (by rw [aS];omega))
  have o:(decide (((0:Nat):Int)≤(l:Int)))=true:=(Yq0 (by omega))
  have p:(decide ((l:Int)<(L.fn:Int)))=true:=(Yq0 (by omega))
  exact vG (F:=(μ (L.fn*4) (μ (((0+(γ (l:Int)))*4)+0) L.fx++ [.str O]++ε ((((0+(γ (l:Int)))*4)+0)+1) L.fx))) (S:=(μ (L.sn*4) L.sx)) (fN:=L.fn) (sN:=L.sn) (n:=L.ps.length) L.ps rfl (by omega) ok (pK [] 4 8 (.k 7 e (.c o (.c p (.k 8 C (.c B (.c t (.n 4 (.a (bP [.str,.bool,.int .i64,.int .i64,.sl,.bool,.bool,.str,.str,.bool,.str,.str] E rfl) (.c i (.c j (.k 14 r (.c s (.k 4 D (.c w (.k 4 A (.c g (.n 3 .nil))))))))))))))))) (.c q (.v 53 (.eq u) (.c T (.v 48 (.rd [.str,.bool,.int .i64,.int .i64,.sl,.bool,.bool,.str,.str,.bool,.str,.str] E rfl) (.c R (.c Q (.c m0 (.b 24 (θ (bQ L.ps)) (.v 24 (.eq (rz 5 1 L.ps.length)) (.b 19 (θ L.sx) (.v 19 (.eq (rz 4 1 L.sn)) (.b 14 (θ L.fx) (.v 14 (.eq (rz 3 1 L.fn)) .nil))))))))))))))
 |4,_,q=>
  have e:(Ψ ((((0+(γ (P:Int)))*4)+0)+1) (κ L.sx))=true:=(dw (by rw [aS];omega))
  have o:(decide (((0:Nat):Int)≤(P:Int)))=true:=(Yq0 (by omega))
  have p:(decide ((P:Int)<(L.sn:Int)))=true:=(Yq0 (by omega))
  exact vG (F:=(μ (L.fn*4) L.fx)) (S:=(μ (L.sn*4) (μ (((0+(γ (P:Int)))*4)+0) L.sx++ [.str O]++ε ((((0+(γ (P:Int)))*4)+0)+1) L.sx))) (fN:=L.fn) (sN:=L.sn) (n:=L.ps.length) L.ps rfl (by omega) ok (pK [] 5 16 (.k 7 e (.c o (.c p (.k 9 C (.c B (.c t (.n 4 (.a (bP [.str,.bool,.int .i64,.int .i64,.sl,.bool,.bool,.str,.str,.bool,.str,.str] E rfl) (.c i (.c j (.k 14 r (.c s (.k 4 D (.c w (.k 4 A (.c g (.n 3 .nil))))))))))))))))) (.c q (.v 53 (.eq u) (.c T (.v 48 (.rd [.str,.bool,.int .i64,.int .i64,.sl,.bool,.bool,.str,.str,.bool,.str,.str] E rfl) (.c R (.c Q (.c m0 (.b 24 (θ (bQ L.ps)) (.v 24 (.eq (rz 5 1 L.ps.length)) (.b 19 (θ L.sx) (.v 19 (.eq (rz 4 1 L.sn)) (.b 14 (θ L.fx) (.v 14 (.eq (rz 3 1 L.fn)) .nil))))))))))))))
 |5,_,q=>
  obtain ⟨M,ck⟩:=QF K;have e:(Ψ (((0+(γ (d:Int)))*12)+12) (κ (bQ L.ps)))=true:=(dw (by rw [k,aS];omega))
  have V:(μ ((0+(γ (d:Int)))*12) (bQ L.ps)++ [.str x.nm,.bool M.tr,ω M.m,ω M.d,.sl (bT x.body) x.body.length false,.bool x.ch,.bool x.sn,.str x.sa,.str x.sd,.bool x.cn,.str x.ca,.str x.cd]++ε (((0+(γ (d:Int)))*12)+12) (bQ L.ps))=bQ (pp++(⟨x.nm,M.tr,M.m,M.d,x.body,x.ch,x.sn,x.sa,x.sd,x.cn,x.ca,x.cd⟩:Pv)::G):=U ⟨x.nm,M.tr,M.m,M.d,x.body,x.ch,x.sn,x.sa,x.sd,x.cn,x.ca,x.cd⟩;have h:CO 37 [.agg (L.c a b c),.agg [ω q0,ω Z,ω K]] (.ret (.agg [.sl (μ (L.fn*4) L.fx) L.fn true,.sl (μ (L.sn*4) L.sx) L.sn true,.sl (μ (L.ps.length*12) (μ ((0+(γ (d:Int)))*12) (bQ L.ps)++ [.str x.nm,.bool M.tr,ω M.m,ω M.d,.sl (bT x.body) x.body.length false,.bool x.ch,.bool x.sn,.str x.sa,.str x.sd,.bool x.cn,.str x.ca,.str x.cd]++ε (((0+(γ (d:Int)))*12)+12) (bQ L.ps))) L.ps.length true])):=pK [] 6 32 (.k 7 e (.c i (.c j (.k 26 C (.c B (.c t (.n 4 (.a (bP [.str,.bool,.int .i64,.int .i64,.sl,.bool,.bool,.str,.str,.bool,.str,.str] E rfl) (.c i (.c j (.k 14 r (.c s (.k 4 D (.c w (.k 4 A (.c g (.n 3 .nil))))))))))))))))) (.c ck (.c q (.v 53 (.eq u) (.c T (.v 48 (.rd [.str,.bool,.int .i64,.int .i64,.sl,.bool,.bool,.str,.str,.bool,.str,.str] E rfl) (.c R (.c Q (.c m0 (.b 24 (θ (bQ L.ps)) (.v 24 (.eq (rz 5 1 L.ps.length)) (.b 19 (θ L.sx) (.v 19 (.eq (rz 4 1 L.sn)) (.b 14 (θ L.fx) (.v 14 (.eq (rz 3 1 L.fn)) .nil))))))))))))));rw [V] at h;exact vG (pp++(⟨x.nm,M.tr,M.m,M.d,x.body,x.ch,x.sn,x.sa,x.sd,x.cn,x.ca,x.cd⟩:Pv)::G) (J _) (by omega) (ku (by rw [← hs];exact ok) hx) h
 |6,_,q=>
  have e:(Ψ (((0+(γ (d:Int)))*12)+12) (κ (bQ L.ps)))=true:=(dw (by rw [k,aS];omega))
  have V:(μ ((0+(γ (d:Int)))*12) (bQ L.ps)++ [.str x.nm,.bool x.tr,ω x.tm,ω x.td,.sl (bT x.body) x.body.length false,.bool (!x.ch),.bool x.sn,.str x.sa,.str x.sd,.bool x.cn,.str x.ca,.str x.cd]++ε (((0+(γ (d:Int)))*12)+12) (bQ L.ps))=bQ (pp++(⟨x.nm,x.tr,x.tm,x.td,x.body, !x.ch,x.sn,x.sa,x.sd,x.cn,x.ca,x.cd⟩:Pv)::G):=U ⟨x.nm,x.tr,x.tm,x.td,x.body, !x.ch,x.sn,x.sa,x.sd,x.cn,x.ca,x.cd⟩;have h:CO 37 [.agg (L.c a b c),.agg [ω q0,ω Z,ω K]] (.ret (.agg [.sl (μ (L.fn*4) L.fx) L.fn true,.sl (μ (L.sn*4) L.sx) L.sn true,.sl (μ (L.ps.length*12) (μ ((0+(γ (d:Int)))*12) (bQ L.ps)++ [.str x.nm,.bool x.tr,ω x.tm,ω x.td,.sl (bT x.body) x.body.length false,.bool (!x.ch),.bool x.sn,.str x.sa,.str x.sd,.bool x.cn,.str x.ca,.str x.cd]++ε (((0+(γ (d:Int)))*12)+12) (bQ L.ps))) L.ps.length true])):=pK [] 7 64 (.k 7 e (.c i (.c j (.k 25 C (.c B (.c t (.n 4 (.a (bP [.str,.bool,.int .i64,.int .i64,.sl,.bool,.bool,.str,.str,.bool,.str,.str] E rfl) (.c i (.c j (.k 14 r (.c s (.k 4 D (.c w (.k 4 A (.c g (.n 3 .nil))))))))))))))))) (.c q (.v 53 (.eq u) (.c T (.v 48 (.rd [.str,.bool,.int .i64,.int .i64,.sl,.bool,.bool,.str,.str,.bool,.str,.str] E rfl) (.c R (.c Q (.c m0 (.b 24 (θ (bQ L.ps)) (.v 24 (.eq (rz 5 1 L.ps.length)) (.b 19 (θ L.sx) (.v 19 (.eq (rz 4 1 L.sn)) (.b 14 (θ L.fx) (.v 14 (.eq (rz 3 1 L.fn)) .nil)))))))))))));rw [V] at h;exact vG (pp++(⟨x.nm,x.tr,x.tm,x.td,x.body, !x.ch,x.sn,x.sa,x.sd,x.cn,x.ca,x.cd⟩:Pv)::G) (J _) (by omega) (ku (by rw [← hs];exact ok) hx) h
 |7,_,q=>
  have ht:=ahh K 7 (by omega);obtain ⟨w0,_,_,_,fr0⟩:=eX (Xxb K ((7:Nat):Int)) 2 (by omega) (by omega) (by omega) (by omega);have e:(Ψ (((0+(γ (d:Int)))*12)+12) (κ (bQ L.ps)))=true:=(dw (by rw [k,aS];omega))
  have V:(μ ((0+(γ (d:Int)))*12) (bQ L.ps)++ [.str x.nm,.bool x.tr,ω x.tm,ω x.td,.sl (bT x.body) x.body.length false,.bool x.ch,.bool w0.neg,.str (ae w0.n),.str (ae w0.d),.bool x.cn,.str x.ca,.str x.cd]++ε (((0+(γ (d:Int)))*12)+12) (bQ L.ps))=bQ (pp++(⟨x.nm,x.tr,x.tm,x.td,x.body,x.ch,w0.neg,ae w0.n,ae w0.d,x.cn,x.ca,x.cd⟩:Pv)::G):=U ⟨x.nm,x.tr,x.tm,x.td,x.body,x.ch,w0.neg,ae w0.n,ae w0.d,x.cn,x.ca,x.cd⟩;have h:CO 37 [.agg (L.c a b c),.agg [ω q0,ω Z,ω K]] (.ret (.agg [.sl (μ (L.fn*4) L.fx) L.fn true,.sl (μ (L.sn*4) L.sx) L.sn true,.sl (μ (L.ps.length*12) (μ ((0+(γ (d:Int)))*12) (bQ L.ps)++ [.str x.nm,.bool x.tr,ω x.tm,ω x.td,.sl (bT x.body) x.body.length false,.bool x.ch,.bool w0.neg,.str (ae w0.n),.str (ae w0.d),.bool x.cn,.str x.ca,.str x.cd]++ε (((0+(γ (d:Int)))*12)+12) (bQ L.ps))) L.ps.length true])):=pK [] 8 128 (.k 7 e (.c i (.c j (.k 29 C (.c B (.c t (.n 4 (.a (bP [.str,.bool,.int .i64,.int .i64,.sl,.bool,.bool,.str,.str,.bool,.str,.str] E rfl) (.c i (.c j (.k 14 r (.c s (.k 4 D (.c w (.k 4 A (.c g (.n 3 .nil))))))))))))))))) (.c fr0 (.c q (.v 53 (.eq u) (.c T (.v 48 (.rd [.str,.bool,.int .i64,.int .i64,.sl,.bool,.bool,.str,.str,.bool,.str,.str] E rfl) (.c R (.c Q (.c m0 (.b 24 (θ (bQ L.ps)) (.v 24 (.eq (rz 5 1 L.ps.length)) (.b 19 (θ L.sx) (.v 19 (.eq (rz 4 1 L.sn)) (.b 14 (θ L.fx) (.v 14 (.eq (rz 3 1 L.fn)) .nil))))))))))))));rw [V] at h;exact vG (pp++(⟨x.nm,x.tr,x.tm,x.td,x.body,x.ch,w0.neg,ae w0.n,ae w0.d,x.cn,x.ca,x.cd⟩:Pv)::G) (J _) (by omega) (ku (by rw [← hs];exact ok) hx) h
 |8,_,q=>
  obtain ⟨N,hik,m5⟩:=kK K 420 (by omega) (by omega);obtain ⟨w0,_,_,_,fr0⟩:=eX 1 2 (by omega) (by omega) (by omega) (by omega);obtain ⟨w1,_,_,_,fr1⟩:=eX (N:Int) 4 (by omega) (by omega) (by omega) (by omega);have e:(Ψ (((0+(γ (d:Int)))*12)+12) (κ (bQ L.ps)))=true:=(dw (by rw [k,aS];omega))
  have V:(μ ((0+(γ (d:Int)))*12) (bQ L.ps)++ [.str x.nm,.bool x.tr,ω x.tm,ω x.td,.sl (bT x.body) x.body.length false,.bool x.ch,.bool w0.neg,.str (ae w0.n),.str (ae w0.d),.bool w1.neg,.str (ae w1.n),.str (ae w1.d)]++ε (((0+(γ (d:Int)))*12)+12) (bQ L.ps))=bQ (pp++(⟨x.nm,x.tr,x.tm,x.td,x.body,x.ch,w0.neg,ae w0.n,ae w0.d,w1.neg,ae w1.n,ae w1.d⟩:Pv)::G):=U ⟨x.nm,x.tr,x.tm,x.td,x.body,x.ch,w0.neg,ae w0.n,ae w0.d,w1.neg,ae w1.n,ae w1.d⟩;have h:CO 37 [.agg (L.c a b c),.agg [ω q0,ω Z,ω K]] (.ret (.agg [.sl (μ (L.fn*4) L.fx) L.fn true,.sl (μ (L.sn*4) L.sx) L.sn true,.sl (μ (L.ps.length*12) (μ ((0+(γ (d:Int)))*12) (bQ L.ps)++ [.str x.nm,.bool x.tr,ω x.tm,ω x.td,.sl (bT x.body) x.body.length false,.bool x.ch,.bool w0.neg,.str (ae w0.n),.str (ae w0.d),.bool w1.neg,.str (ae w1.n),.str (ae w1.d)]++ε (((0+(γ (d:Int)))*12)+12) (bQ L.ps))) L.ps.length true])):=pK [] 9 256 (.k 7 e (.c i (.c j (.k 30 C (.c B (.c t (.n 4 (.a (bP [.str,.bool,.int .i64,.int .i64,.sl,.bool,.bool,.str,.str,.bool,.str,.str] E rfl) (.c i (.c j (.k 14 r (.c s (.k 4 D (.c w (.k 4 A (.c g (.n 3 .nil))))))))))))))))) (.c fr1 (.c m5 (.c fr0 (.c q (.v 53 (.eq u) (.c T (.v 48 (.rd [.str,.bool,.int .i64,.int .i64,.sl,.bool,.bool,.str,.str,.bool,.str,.str] E rfl) (.c R (.c Q (.c m0 (.b 24 (θ (bQ L.ps)) (.v 24 (.eq (rz 5 1 L.ps.length)) (.b 19 (θ L.sx) (.v 19 (.eq (rz 4 1 L.sn)) (.b 14 (θ L.fx) (.v 14 (.eq (rz 3 1 L.fn)) .nil))))))))))))))));rw [V] at h;exact vG (pp++(⟨x.nm,x.tr,x.tm,x.td,x.body,x.ch,w0.neg,ae w0.n,ae w0.d,w1.neg,ae w1.n,ae w1.d⟩:Pv)::G) (J _) (by omega) (ku (by rw [← hs];exact ok) hx) h
 |9,_,q=>
  have e:(Ψ ((((0+(γ (l:Int)))*4)+1)+3) (κ L.fx))=true:=(dw (by rw [aS];omega))
  have o:(decide (((0:Nat):Int)≤(l:Int)))=true:=(Yq0 (by omega))
  have p:(decide ((l:Int)<(L.fn:Int)))=true:=(Yq0 (by omega))
  exact vG (F:=(μ (L.fn*4) (μ (((0+(γ (l:Int)))*4)+1) L.fx++ [.bool ((Xxb K ((2:Nat):Int))==((0:Nat):Int)),ω (Xxb K ((5:Nat):Int)),ω (Xxb Z ((5:Nat):Int))]++ε ((((0+(γ (l:Int)))*4)+1)+3) L.fx))) (S:=(μ (L.sn*4) L.sx)) (fN:=L.fn) (sN:=L.sn) (n:=L.ps.length) L.ps rfl (by omega) ok (pK [] 10 512 (.k 7 e (.c o (.c p (.k 26 C (.c B (.c t (.n 4 (.a (bP [.str,.bool,.int .i64,.int .i64,.sl,.bool,.bool,.str,.str,.bool,.str,.str] E rfl) (.c i (.c j (.k 14 r (.c s (.k 4 D (.c w (.k 4 A (.c g (.n 3 .nil))))))))))))))))) (.c q (.v 53 (.eq u) (.c T (.v 48 (.rd [.str,.bool,.int .i64,.int .i64,.sl,.bool,.bool,.str,.str,.bool,.str,.str] E rfl) (.c R (.c Q (.c m0 (.b 24 (θ (bQ L.ps)) (.v 24 (.eq (rz 5 1 L.ps.length)) (.b 19 (θ L.sx) (.v 19 (.eq (rz 4 1 L.sn)) (.b 14 (θ L.fx) (.v 14 (.eq (rz 3 1 L.fn)) .nil))))))))))))))
 |10,_,q=>
  have e:(Ψ ((((0+(γ (P:Int)))*4)+1)+2) (κ L.sx))=true:=(dw (by rw [aS];omega))
  have o:(decide (((0:Nat):Int)≤(P:Int)))=true:=(Yq0 (by omega))
  have p:(decide ((P:Int)<(L.sn:Int)))=true:=(Yq0 (by omega))
  exact vG (F:=(μ (L.fn*4) L.fx)) (S:=(μ (L.sn*4) (μ (((0+(γ (P:Int)))*4)+1) L.sx++ [ω (Xxb K ((5:Nat):Int)),ω (Xxb Z ((5:Nat):Int))]++ε ((((0+(γ (P:Int)))*4)+1)+2) L.sx))) (fN:=L.fn) (sN:=L.sn) (n:=L.ps.length) L.ps rfl (by omega) ok (pK [] 11 1024 (.k 7 e (.c o (.c p (.k 23 C (.c B (.c t (.n 4 (.a (bP [.str,.bool,.int .i64,.int .i64,.sl,.bool,.bool,.str,.str,.bool,.str,.str] E rfl) (.c i (.c j (.k 14 r (.c s (.k 4 D (.c w (.k 4 A (.c g (.n 3 .nil))))))))))))))))) (.c q (.v 53 (.eq u) (.c T (.v 48 (.rd [.str,.bool,.int .i64,.int .i64,.sl,.bool,.bool,.str,.str,.bool,.str,.str] E rfl) (.c R (.c Q (.c m0 (.b 24 (θ (bQ L.ps)) (.v 24 (.eq (rz 5 1 L.ps.length)) (.b 19 (θ L.sx) (.v 19 (.eq (rz 4 1 L.sn)) (.b 14 (θ L.fx) (.v 14 (.eq (rz 3 1 L.fn)) .nil))))))))))))))
 |11,_,q=>
  have e:(Ψ ((((0+(γ (P:Int)))*4)+3)+1) (κ L.sx))=true:=(dw (by rw [aS];omega))
  have o:(decide (((0:Nat):Int)≤(P:Int)))=true:=(Yq0 (by omega))
  have p:(decide ((P:Int)<(L.sn:Int)))=true:=(Yq0 (by omega))
  exact vG (F:=(μ (L.fn*4) L.fx)) (S:=(μ (L.sn*4) (μ (((0+(γ (P:Int)))*4)+3) L.sx++ [.nilS]++ε ((((0+(γ (P:Int)))*4)+3)+1) L.sx))) (fN:=L.fn) (sN:=L.sn) (n:=L.ps.length) L.ps rfl (by omega) ok (pK [] 12 2048 (.k 7 e (.c o (.c p (.k 16 C (.c B (.c t (.n 4 (.a (bP [.str,.bool,.int .i64,.int .i64,.sl,.bool,.bool,.str,.str,.bool,.str,.str] E rfl) (.c i (.c j (.k 14 r (.c s (.k 4 D (.c w (.k 4 A (.c g (.n 3 .nil))))))))))))))))) (.c q (.v 53 (.eq u) (.c T (.v 48 (.rd [.str,.bool,.int .i64,.int .i64,.sl,.bool,.bool,.str,.str,.bool,.str,.str] E rfl) (.c R (.c Q (.c m0 (.b 24 (θ (bQ L.ps)) (.v 24 (.eq (rz 5 1 L.ps.length)) (.b 19 (θ L.sx) (.v 19 (.eq (rz 4 1 L.sn)) (.b 14 (θ L.fx) (.v 14 (.eq (rz 3 1 L.fn)) .nil))))))))))))))
 | 12,_,q=>
  obtain ⟨N,hik,m5⟩:=kK K L.ps.length (by omega) (by omega);obtain ⟨py,y,ry,hsy,hiy⟩:=gu L.ps N hik;have hY0:=fJ (f:=vZ) (m:=12) (fun _=>rfl) py ry y N 0 hiy (by decide);rw [← hsy,Xqo] at hY0;have hY:ε ((0+(γ (N:Int)))*12) (bQ L.ps)=vZ y++bQ ry:=hY0;have hy:BD y:=ok y (by rw [hsy];simp);obtain ⟨p2,y2,r2,hs2,hi2⟩:=gu (pp++y::G) N (by rw [J];omega);have hD2:=fJ (f:=vZ) (m:=12) (fun _=>rfl) p2 r2 y2 N 12 hi2 (by decide);have hE2:=oJ (f:=vZ) (m:=12) (fun _=>rfl) p2 r2 y2 N 0 hi2 (by decide);rw [← hs2] at hD2 hE2;rw [Xqo] at hE2;have h12:=U y;unfold vZ at h12;have hlen2:(bQ (pp++y::G)).length=L.ps.length*12:=by rw [show (bQ (pp++y::G)).length=(pp++y::G).length*12 from dY (f:=vZ) (n:=12) (fun _=>rfl) _,J]
  have e:(Ψ (((0+(γ (N:Int)))*12)+12) (κ (μ ((0+(γ (d:Int)))*12) (bQ L.ps)++ [.str y.nm,.bool y.tr,ω y.tm,ω y.td,.sl (bT y.body) y.body.length false,.bool y.ch,.bool y.sn,.str y.sa,.str y.sd,.bool y.cn,.str y.ca,.str y.cd]++ε (((0+(γ (d:Int)))*12)+12) (bQ L.ps))))=true:=(dw (by rw [h12,hlen2,aS];omega))
  have o:(decide (((0:Nat):Int)≤(N:Int)))=true:=(Yq0 (by omega))
  have p:(decide ((N:Int)<(L.ps.length:Int)))=true:=(Yq0 (by omega))
  have ob3:(Ψ (((0+(γ (d:Int)))*12)+12) (κ (bQ L.ps)))=true:=(dw (by rw [k,aS];omega))
  have h:CO 37 [.agg (L.c a b c),.agg [ω q0,ω Z,ω K]] (.ret (.agg [.sl (μ (L.fn*4) L.fx) L.fn true,.sl (μ (L.sn*4) L.sx) L.sn true,.sl (μ (L.ps.length*12) (μ ((0+(γ (N:Int)))*12) (μ ((0+(γ (d:Int)))*12) (bQ L.ps)++ [.str y.nm,.bool y.tr,ω y.tm,ω y.td,.sl (bT y.body) y.body.length false,.bool y.ch,.bool y.sn,.str y.sa,.str y.sd,.bool y.cn,.str y.ca,.str y.cd]++ε (((0+(γ (d:Int)))*12)+12) (bQ L.ps))++ [.str x.nm,.bool x.tr,ω x.tm,ω x.td,.sl (bT x.body) x.body.length false,.bool x.ch,.bool x.sn,.str x.sa,.str x.sd,.bool x.cn,.str x.ca,.str x.cd]++ε (((0+(γ (N:Int)))*12)+12) (μ ((0+(γ (d:Int)))*12) (bQ L.ps)++ [.str y.nm,.bool y.tr,ω y.tm,ω y.td,.sl (bT y.body) y.body.length false,.bool y.ch,.bool y.sn,.str y.sa,.str y.sd,.bool y.cn,.str y.ca,.str y.cd]++ε (((0+(γ (d:Int)))*12)+12) (bQ L.ps)))) L.ps.length true])):=pK [] 13 4096 (.k 7 e (.c o (.c p (.k 13 ob3 (.c i (.c j (.a (bP [.str,.bool,.int .i64,.int .i64,.sl,.bool,.bool,.str,.str,.bool,.str,.str] hY rfl) (.c o (.c p (.k 22 C (.c B (.c t (.n 4 (.a (bP [.str,.bool,.int .i64,.int .i64,.sl,.bool,.bool,.str,.str,.bool,.str,.str] E rfl) (.c i (.c j (.k 14 r (.c s (.k 4 D (.c w (.k 4 A (.c g (.n 3 .nil))))))))))))))))))))))) (.v 215 (.rd [.str,.bool,.int .i64,.int .i64,.sl,.bool,.bool,.str,.str,.bool,.str,.str] hY rfl) (.c m5 (.c q (.v 53 (.eq u) (.c T (.v 48 (.rd [.str,.bool,.int .i64,.int .i64,.sl,.bool,.bool,.str,.str,.bool,.str,.str] E rfl) (.c R (.c Q (.c m0 (.b 24 (θ (bQ L.ps)) (.v 24 (.eq (rz 5 1 L.ps.length)) (.b 19 (θ L.sx) (.v 19 (.eq (rz 4 1 L.sn)) (.b 14 (θ L.fx) (.v 14 (.eq (rz 3 1 L.fn)) .nil)))))))))))))));rw [h12] at h;have V:μ ((0+(γ (N:Int)))*12) (bQ (pp++y::G))++vZ x++ε (((0+(γ (N:Int)))*12)+12) (bQ (pp++y::G))=bQ (p2++x::r2):=by
   unfold bQ at*
   rw [hE2,hD2,Xql,Xqa,Δ,Δ];rfl
  unfold vZ at V;rw [V] at h;exact vG (p2++x::r2) (by rw [← J y,hs2];simp) (by omega) (ku (by rw [← hs2];exact ku (by rw [← hs];exact ok) hy) hx) h
 |13,_,q=>
  exact vG (F:=(μ (L.fn*4) L.fx)) (S:=(μ (L.sn*4) L.sx)) (fN:=L.fn) (sN:=L.sn) (n:=L.ps.length) L.ps rfl (by omega) ok (pK [] 13 0 (.k 23 C (.c B (.c t (.n 4 (.a (bP [.str,.bool,.int .i64,.int .i64,.sl,.bool,.bool,.str,.str,.bool,.str,.str] E rfl) (.c i (.c j (.k 14 r (.c s (.k 4 D (.c w (.k 4 A (.c g (.n 3 .nil)))))))))))))) (.c q (.v 53 (.eq u) (.c T (.v 48 (.rd [.str,.bool,.int .i64,.int .i64,.sl,.bool,.bool,.str,.str,.bool,.str,.str] E rfl) (.c R (.c Q (.c m0 (.b 24 (θ (bQ L.ps)) (.v 24 (.eq (rz 5 1 L.ps.length)) (.b 19 (θ L.sx) (.v 19 (.eq (rz 4 1 L.sn)) (.b 14 (θ L.fx) (.v 14 (.eq (rz 3 1 L.fn)) .nil))))))))))))))
def qi (q N:Nat):List Cl:=(Xqd N).map fun k=>((q:Int),((k:Nat):Int))
def ceS (L:Lw) (a b c:Bool) (s:Int) (q:Nat) (p:Nat × Bool × Nat × List Cl):St:=⟨[(1,ω s),(2,.ptr 0 0 0),(5,cond p.2.1 (.ref 1 0 0 p.2.2.1) .nilS),(6,ω (q:Int)),(7,ω (p.1:Int))],(0,⟨L.c a b c,0,false,0,0,true⟩)::cond p.2.1 [(1,⟨cL p.2.2.2,0,false,0,2,true⟩)] [],.dead,[]⟩
def ceO (L:Lw) (a b c:Bool) (s:Int) (p:Nat × Bool × Nat × List Cl):St:=⟨[(1,ω s),(2,.ptr 0 0 0),(5,cond p.2.1 (.ref 1 0 0 p.2.2.1) .nilS),(6,ω (p.1:Int))],(0,⟨L.c a b c,0,false,0,0,true⟩)::cond p.2.1 [(1,⟨cL p.2.2.2,0,false,0,2,true⟩)] [],.dead,[]⟩
def ceX (p:Bool × Nat × List Cl):St:=⟨[(5,cond p.1 (.ref 0 0 0 p.2.1) .nilS)],cond p.1 [(0,⟨cL p.2.2,0,false,0,2,true⟩)] [],.dead,[]⟩
theorem KL (L:Lw) (a b c:Bool) (s:Int) (q:Nat) (u:L.ps.length<2^38):∀ (rem k:Nat) (cc:Bool) (n:Nat) (os:List Cl),k+rem=L.ps.length→os.length=n→n<2^39+k→(cc=false→os= [])→
  ∃ (i:Bool) (n2:Nat),(os++((Xji k rem).map fun k=>(((q:Int),((k:Nat):Int)):Cl))).length=n2∧n2=n+rem∧(i=false→os++((Xji k rem).map fun k=>(((q:Int),((k:Nat):Int)):Cl))= [])∧(cc=true→i=true)∧∀ nt,35≤nt→
   aJ prog ap [] nt (au 2 (ag f43)) (fun _=> .exit 2) (ceS L a b c s q) (fun p:Bool × Nat × List Cl=>ceO L a b c s (q,p)) (k,cc,n,os) (i,n2,os++((Xji k rem).map fun k=>(((q:Int),((k:Nat):Int)):Cl)))
 |0,k,cc,n,os,j,hn0,hn1,hc=>by
  have g:(decide (((k:Nat):Int)<(L.ps.length:Int)))=false:=kn (by omega);simp only [List.range'_zero,List.map_nil,ο];refine ⟨cc,n,hn0,rfl,hc,id,fun nt d=> .done ?_⟩;cases cc with
  |false=>exact pN 43 [] 1 0 (.c (aj g) (.n 1 .nil)) (.nil) d
  |true=>exact pN 43 [] 1 0 (.c (aj g) (.n 1 .nil)) (.nil) d
 |rem+1,k,cc,n,os,j,hn0,hn1,hc=>by
  obtain ⟨i,n2,o,y,l,x,m⟩:=KL L a b c s q u rem (k+1) true (n+1) (os++ [((q:Int),((k:Nat):Int))]) (by omega) (by simp [hn0]) (by omega) (fun h=>by cases h);have e:os++((Xji k (rem+1)).map fun k=>(((q:Int),((k:Nat):Int)):Cl))=os++ [((q:Int),((k:Nat):Int))]++((Xji (k+1) rem).map fun k=>(((q:Int),((k:Nat):Int)):Cl)):=by rw [List.range'_succ,φ,Δ];rfl
  rw [e];refine ⟨i,n2,o,by omega,l,fun _=>x rfl,fun nt d=> .next (a':=(k+1,true,n+1,os++ [((q:Int),((k:Nat):Int))])) ?_ (m nt d)⟩;have g:(decide (((k:Nat):Int)<(L.ps.length:Int)))=true:=kl (by omega);have j:k<2^62:=by omega
  have r:Ψ (n+1) 1099511627776=true:=dw (by omega);have t:Ψ (n*2) (κ (cL os))=true:=dw (by rw [dA,hn0];exact ζ _);have w:=eP (f:=cC) (n:=2) (fun _=>rfl) os ((q:Int),((k:Nat):Int)) hn0;clear m l e;cases cc with
  |false=>have v:=hc rfl;subst v;subst hn0;exact pN 43 [] 2 1 (.k 3 (ai g) (.n 1 .nil)) (.v 27 (.eq (wpS j)) .nil) d
  |true=>exact pN 43 [] 1 1 (.k 1 r (.c t (.k 1 (ai g) (.n 1 .nil)))) (.v 27 (.eq (wpS j)) (.b 33 w .nil)) d
theorem zN (L:Lw) (a b c:Bool) (s:Int) (q:Nat) (z:L.ps.length<2^38) (hs:s=1∨s=2) (m:(q:Int)<s) (l:Bool) (n:Nat) (d:List Cl) (j:d.length=n) (A:n<2^39) (v:l=false→d= []):
  ∃ (i:Bool) (n2:Nat),(d++qi q L.ps.length).length=n2∧n2=n+L.ps.length∧(i=false→d++qi q L.ps.length= [])∧∀ nt,35≤nt→ψ nt f43 (ceO L a b c s (q,l,n,d)) .normal (ceO L a b c s (q+1,i,n2,d++qi q L.ps.length)):=by
 obtain ⟨i,n2,o,x,r,y,u⟩:=KL L a b c s q z L.ps.length 0 l n d (by omega) j (by omega) v;rw [show (Xji 0 L.ps.length).map (fun k=>(((q:Int),((k:Nat):Int)):Cl))=qi q L.ps.length by unfold qi;rw [List.range_eq_range']] at o r u;refine ⟨i,n2,o,x,r,fun nt e=> ?_⟩;have f:=aJ.blk (id:=2) (e':= .normal) (fun nt (e:35≤nt)=>u nt e) (by simp) rfl (aI.refl _) (aI.refl _);obtain ⟨w,p⟩:∃ w,w=d++qi q L.ps.length:=⟨_,rfl⟩
 rw [← p] at f r ⊢;clear u o;have g:q<2^62:=by omega
 have h:(decide ((q:Int)<s))=true:=Yq0 m;cases l with
 | false=>
  have t:=v rfl;subst t;subst j;cases i with
  |false=>
   rcases hs with rfl|rfl
   ·exact pN 43 [2] 3 7 (.k 1 (ai (rfl:(((1:Nat):Int)==((1:Nat):Int))=true)) (.c (ai h) .nil)) (.v 20 (.eq (wpS g)) (.k [1,2,5,6,7] f .nil)) e
   ·exact pN 43 [2] 3 5 (.c (ai (rfl:(((2:Nat):Int)==((2:Nat):Int))=true)) (.c (aj (rfl:(((2:Nat):Int)==((1:Nat):Int))=false)) (.c (ai h) .nil))) (.v 20 (.eq (wpS g)) (.k [1,2,5,6,7] f .nil)) e
  |true=>
   rcases hs with rfl|rfl
   ·exact pN 43 [2] 3 7 (.k 1 (ai (rfl:(((1:Nat):Int)==((1:Nat):Int))=true)) (.c (ai h) .nil)) (.v 20 (.eq (wpS g)) (.k [1,2,5,6,7] f .nil)) e
   ·exact pN 43 [2] 3 5 (.c (ai (rfl:(((2:Nat):Int)==((2:Nat):Int))=true)) (.c (aj (rfl:(((2:Nat):Int)==((1:Nat):Int))=false)) (.c (ai h) .nil))) (.v 20 (.eq (wpS g)) (.k [1,2,5,6,7] f .nil)) e
 |true=>
  have t:=y rfl;subst t;rcases hs with rfl|rfl
  ·exact pN 43 [2] 3 7 (.k 1 (ai (rfl:(((1:Nat):Int)==((1:Nat):Int))=true)) (.c (ai h) .nil)) (.v 20 (.eq (wpS g)) (.k [1,2,5,6,7] f .nil)) e
  ·exact pN 43 [2] 3 5 (.c (ai (rfl:(((2:Nat):Int)==((2:Nat):Int))=true)) (.c (aj (rfl:(((2:Nat):Int)==((1:Nat):Int))=false)) (.c (ai h) .nil))) (.v 20 (.eq (wpS g)) (.k [1,2,5,6,7] f .nil)) e
theorem su (s:Int) (n q:Nat) (b:Bool) (h:∀ k:Nat,k<n→aK s n ((q:Int),((k:Nat):Int))=b):mZ s n q=if b then qi q n else []:=by
 unfold mZ qi;have key:∀ l:List Nat,(∀ k ∈ l,k<n)→(l.flatMap fun k=>if aK s n ((q:Int),((k:Nat):Int)) then [(((q:Int),((k:Nat):Int)):Cl)] else [])=if b then l.map (fun k=>(((q:Int),((k:Nat):Int)):Cl)) else []:=by
  intro l
  induction l with
  |nil=>intro _;cases b<;>rfl
  |cons k l ih=>
   intro c;rw [Xqa,ih fun k a=>c k (Xqk _ a),h k (c k (Xqp ..))];cases b<;>rfl
 exact key _ fun k a=>List.mem_range.1 a
theorem EU (n:Nat):aB 1 n=qi 0 n:=by
 unfold aB;rw [su 1 n 0 true (fun k a=>by unfold aK;simp;omega),su 1 n 1 false (fun k a=>by unfold aK;simp)];simp
theorem EW (n:Nat):aB 2 n=qi 0 n++qi 1 n:=by
 unfold aB;rw [su 2 n 0 true (fun k a=>by unfold aK;simp;omega),su 2 n 1 true (fun k a=>by unfold aK;simp;omega)];simp
theorem EX {s:Int} (b:s ≠ 1) (c:s ≠ 2) (n:Nat):aB s n= []:=by
 have a:∀ x,aK s n x=false:=fun x=>by unfold aK;simp [b,c]
 unfold aB;rw [su s n 0 false (fun k _=>a _),su s n 1 false (fun k _=>a _)];simp
theorem Jr (L:Lw) (a b c:Bool) (s:Int) (n:L.ps.length<2^38):CO 43 [.agg (L.c a b c),ω s] (.ret (.sl (cL (aB s L.ps.length)) (aB s L.ps.length).length false)):=by
 have j:∃ (e:Bool) (n2:Nat),(aB s L.ps.length).length=n2∧(e=false→aB s L.ps.length= [])∧∀ nt,35≤nt→aJ prog ap [] nt (au 0 (ag f43)) (fun _=> .exit 0) (ceO L a b c s) ceX (0,false,0,[]) (e,n2,aB s L.ps.length):=by
  by_cases h1:s=1
  ·subst h1;obtain ⟨e,n2,f,k,g,i⟩:=zN L a b c 1 0 n (.inl rfl) (by omega) false 0 [] rfl (by omega) (fun _=>rfl);rw [θ] at f g i;rw [EU];refine ⟨e,n2,f,g,fun nt d=> .next (i nt d) (.done ?_)⟩;cases e with
   |false=>exact pN 43 [2] 2 0 (.k 1 (aj (rfl:(decide (((1:Nat):Int)<1))=false)) .nil) .nil d
   |true=>exact pN 43 [2] 2 0 (.k 1 (aj (rfl:(decide (((1:Nat):Int)<1))=false)) .nil) .nil d
  ·by_cases h2:s=2
   ·subst h2;obtain ⟨e,n2,f,k,g,i⟩:=zN L a b c 2 0 n (.inr rfl) (by omega) false 0 [] rfl (by omega) (fun _=>rfl);rw [θ] at f g i;obtain ⟨p,n3,k0,k1,k2,k3⟩:=zN L a b c 2 1 n (.inr rfl) (by omega) e n2 (qi 0 L.ps.length) f (by omega) g;rw [EW];refine ⟨p,n3,k0,k2,fun nt d=> .next (i nt d) (.next (k3 nt d) (.done ?_))⟩;cases p with
    |false=>exact pN 43 [2] 2 0 (.k 1 (aj (rfl:(decide (((2:Nat):Int)<2))=false)) .nil) .nil d
    |true=>exact pN 43 [2] 2 0 (.k 1 (aj (rfl:(decide (((2:Nat):Int)<2))=false)) .nil) .nil d
   ·rw [EX h1 h2];refine ⟨false,0,rfl,fun _=>rfl,fun nt d=> .done ?_⟩;have r:(s==((1:Nat):Int))=false:=by simpa using h1
    have q:(s==((2:Nat):Int))=false:=by simpa using h2
    rcases tf (decide (((0:Nat):Int)<s)) with z0|z0
    ·exact pN 43 [2] 3 1 (.c (aj q) (.c (aj r) (.c (ai z0) .nil))) .nil d
    ·exact pN 43 [2] 2 0 (.k 1 (aj z0) .nil) .nil d
 obtain ⟨e,n2,f,k,g⟩:=j;have l:=aJ.blk (id:=0) (e':= .normal) (fun nt (d:35≤nt)=>g nt d) (by simp) rfl (aI.refl _) (aI.refl _);obtain ⟨m,o⟩:∃ m,m=aB s L.ps.length:=⟨_,rfl⟩
 rw [← o] at l f k ⊢;cases e with
 |false=>
  have t:=k rfl;subst t;have h:CO 43 [.agg (L.c a b c),ω s] (.ret .nilS):=pK [0] 0 0 .nil (.k [1,2,5,6] l .nil);exact h.out (je.ret rfl rfl (bF.nilS false rfl))
 |true=>
  have h:CO 43 [.agg (L.c a b c),ω s] (.ret (.own (μ (n2*2) (cL m)) n2 2)):=pK [0] 0 0 .nil (.k [1,2,5,6] l .nil);subst f;exact Fh _ _ (by rw [Xzx,Xvc,τ (by rw [dA];exact ζ _)]) h
def TL (c:Cl) (k:Nat) (x:Cl):Nat ⊕ Option Nat:=if Um x c then .inr (some k) else .inl (k+1)
def i5Q (l:List Cl) (c:Cl):Option Nat:=AM.goL (TL c) (fun _=>none) l 0
def i5S (l:List Cl) (nn:Bool) (c:Cl) (p:Nat × Nat):St:=⟨[(0,.sl (cL l) l.length nn),(3,.ptr 0 0 0),(5,ω (p.1:Int))],[(0,⟨cC c,0,false,0,0,true⟩)],.dead,[]⟩
def i5X:Option Nat→St
 |none=>I5
 |some k=>(Cm (.int .i64 (k:Int)))
theorem UC {nt:Nat} (e:19≤nt) (l:List Cl) (b:Bool) (c:Cl) (g:l.length<2^40):aJ prog ap [] nt (au 0 (ag f44)) Uo (i5S l b c) i5X (0,0) (i5Q l c):=by
 refine aJ.goD (TL c) (fun _=>none) l (fun p s=>s=p.length) ?_ ?_ 0 rfl
 ·rintro p x rs s hL hp
  have h:(ε ((γ (p.length:Int))*2) (cL l))=cC x++cL rs:=eH (f:=cC) (n:=2) (fun _=>rfl) hL;have a:(decide ((p.length:Int)<(l.length:Int)))=true:=kl (mP hL);have i:p.length<2^62:=by have:=mP hL;omega
  subst hp;show (∃ s',_∧ak _ _ _ _ _ (i5S l b c (p.length,_)) _ _∧_)∨∃ q,_∧ak _ _ _ _ _ (i5S l b c (p.length,_)) _ _;have hp:(p++ [x]).length=p.length+1:=by simp
  generalize p.length=k at*
  clear hL;rcases tf ((x.1==c.1) && ((x.2==c.2) && true)) with b0|b0
  ·exact .inr ⟨some k,by have d:Um x c=true:=b0;simp only [TL,d,if_true],pN 44 [] 2 3 (.c (ai b0) (.k 4 (k0 k) (.c a (.c (ai a) .nil)))) (.v 14 (.ppt h) .nil) e⟩
  ·exact .inl ⟨k+1,by have d:Um x c=false:=b0;simp only [TL,d,Xqe,if_false],pN 44 [] 2 1 (.c (aj b0) (.k 4 (k0 k) (.c a (.c (ai a) .nil)))) (.v 11 (.eq (wpS i)) (.v 14 (.ppt h) .nil)) e,by simp [hp]⟩
 ·intro _ _;have a:(decide ((l.length:Int)<(l.length:Int)))=false:=kn (ζ _);exact pN 44 [] 1 0 (.c (aj a) .nil) .nil e
def Wx (l:List Cl) (c:Cl):Int:=match i5Q l c with|none=> -1|some k=>(k:Int)
theorem AB (l:List Cl) (b:Bool) (c:Cl) (a:l.length<2^40):CO 44 [.sl (cL l) l.length b,cA c] (.ret (ω (Wx l c))):=by
 have hloop:=fun nt (hn:19≤nt)=>UC hn l b c a
 unfold Wx;cases e:i5Q l c with
 |none=>
  rw [e] at hloop;have d:=aJ.blk (id:=0) (e':= .normal) (s:=i5S l b c (0,0)) (s':=i5X none) hloop (by simp [Uo]) rfl (aI.refl _) (aI.refl _);exact pK [0] 0 0 .nil (.k [0,3,5] d .nil)
 |some k=>
  rw [e] at hloop;have d:=aJ.blk (id:=0) (e':= .ret) (s:=i5S l b c (0,0)) (s':=i5X (some k)) hloop (by simp [Uo]) rfl (aI.refl _) (aI.refl _);exact pK [0] 0 0 .nil (.k [0,3,5] d .nil)
theorem Qv:∀ (r:List Cl) (c:Cl) (k:Nat),match AM.goL (TL c) (fun _=>none) r k with
  |none=>c ∉ r
  |some j=> ∃ a b,r=a++c::b∧j=k+a.length∧c ∉ a
 | [],c,k=>by simp [AM.goL]
 | x::r,c,k=>by
  unfold AM.goL TL;by_cases hx:Um x c=true
  ·rw [if_pos hx];have e:x=c:=by rw [yV] at hx;simpa using hx
   exact ⟨[],r,by rw [e];rfl,rfl,by simp⟩
  ·rw [if_neg hx];have e:¬ x=c:=by rw [yV] at hx;simpa using hx
   have d:=Qv r c (k+1);show match AM.goL (TL c) (fun _=>none) r (k+1) with|none=>_|some j=>_
   cases f:AM.goL (TL c) (fun _=>none) r (k+1) with
   |none=>rw [f] at d;simp;exact ⟨fun h=>e h.symm,d⟩
   |some j=>
    rw [f] at d;obtain ⟨a,b,g,l,i⟩:=d;exact ⟨x::a,b,by rw [g];rfl,by simp;omega,by simp;exact ⟨fun h=>e h.symm,i⟩⟩
theorem Y0 {l:List Cl} {c:Cl} (h:c ∉ l):Wx l c= -1:=by
 have:=Qv l c 0;unfold Wx i5Q;cases e:AM.goL (TL c) (fun _=>none) l 0 with
 |none=>rfl
 |some j=>
  rw [e] at this;obtain ⟨a,b,d,_⟩:=this;exact absurd (by rw [d];simp) h
theorem LH {l:List Cl} {c:Cl} (h:c ∈ l):∃ a b,l=a++c::b∧Wx l c=(a.length:Int)∧c ∉ a:=by
 have:=Qv l c 0;unfold Wx i5Q;cases d:AM.goL (TL c) (fun _=>none) l 0 with
 |none=>rw [d] at this;exact absurd h this
 |some j=>
  rw [d] at this;obtain ⟨a,b,e,f,g⟩:=this;exact ⟨a,b,e,by rw [f];simp,g⟩
def zK (l:List Bool):List AV:=l.map .bool
theorem Jn (l:List Bool):(zK l).length=l.length:=Xq4 ..
def u5S (L:Lw) (a b c:Bool) (s:Int) (w:Cl) (cs:List Cl) (m:Nat) (bd:List Nd) (k:Nat) (C:List AV):St:=⟨[(1,ω s),(3,.ptr 0 0 0),(5,.ptr 1 0 0),(7,.sl (cL cs) cs.length false),(8,.ref 2 0 0 m),(9,.sl (bT bd) bd.length false),(10,ω (k:Int))],[(0,⟨L.c a b c,0,false,0,0,true⟩),(1,⟨cC w,0,false,0,0,true⟩),(2,⟨C,0,false,0,1,true⟩)],.dead,[]⟩
def u5X (cs:List Cl) (m:Nat) (bl:List Bool):St:=⟨[(7,.sl (cL cs) cs.length false),(8,.ref 0 0 0 m)],[(0,⟨zK bl,0,false,0,1,true⟩)],.dead,[]⟩
theorem Py (a:List Bool) (j:Nat) (h:j<a.length):μ ((0+(γ (j:Int)))*1) (zK a)++ [.bool true]++ε (((0+(γ (j:Int)))*1)+1) (zK a)=zK (a.set j true):=by
 rw [aS,Θ,Xww];unfold zK;rw [← List.map_take,← Xz4,Δ];rw [List.set_eq_take_append_cons_drop,if_pos h,Xxa,φ];rfl
theorem QP {cs a b:List Cl} {d:Cl} (h:cs=a++d::b) (g:cs.Nodup) (N:List Cl):(cs.map fun c=>decide (c ∈ N)).set a.length true=cs.map fun c=>decide (c ∈ N++ [d]):=by
 subst h;have i:∀ c ∈ a,c ≠ d:=fun c f e=>by
  rw [Xxw] at g;exact g.2.2 c f d (Xqp ..) e
 have j:∀ c ∈ b,c ≠ d:=fun c f e=>by
  rw [Xxw] at g;exact (List.nodup_cons.1 g.2.1).1 (e ▸ f)
 rw [Xxa,φ,Xxa,φ];have e:(a.map fun c=>decide (c ∈ N)).length=a.length:=Xq4 ..;rw [List.set_append_right _ _ (by rw [e];exact ζ _),e,Nat.sub_self,List.set_cons_zero];congr 1
 ·exact Xj1 fun c f=>by simp [i c f]
 ·congr 1
  ·simp
  ·exact Xj1 fun c f=>by simp [j c f]
theorem PO {L:Lw} {s:Int} {w y:Cl} {x:Nd} (b:aK s L.ps.length w=true) (h:jZ L s w x=some y):y ∈ aB s L.ps.length:=by
 rw [kS];have c:O8 L.ps x.name=true→CX L.ps x.name<L.ps.length:=fun a=>PW a
 unfold aK at b ⊢;simp only [δ,Xxf,beq_iff_eq,decide_eq_true_eq] at b ⊢;unfold jZ at h;split at h
 ·rename_i a;have:=c a;split at h
  ·cases h;simp only;omega
  ·split at h
   ·split at h
    ·rename_i d;simp only [beq_iff_eq] at d;cases h;simp only;omega
    ·cases h
   ·cases h
 ·cases h
theorem Tu (L:Lw) (a b c:Bool) (s:Int) (w:Cl) (cs:List Cl) (m:Nat) (o:List Nd) (A:L.ps.length<2^40) (G:cs.length<2^40) (u:cs=aB s L.ps.length) (hm:cs.length=m) (l:aK s L.ps.length w=true) (P:o.length<2^39) (k:Nat) (x:Nd) (M:List Nd) (N:List Cl) (B:k<o.length) (g:(ε ((γ (k:Int))*5) (bT o))=OA x++bT M):
  ∀ nt,88≤nt→ψ nt f17 (u5S L a b c s w cs m o k (zK (cs.map fun c=>decide (c ∈ N)))) .normal (u5S L a b c s w cs m o (k+1) (zK (cs.map fun c=>decide (c ∈ N++(jZ L s w x).toList)))):=by
 intro nt t;have v:=DZ L a b c x.name A;have z:k<2^62:=by omega
 have d:(decide ((k:Int)<(o.length:Int)))=true:=kl B;have J: -10<w.1∧w.1<10:=by
  unfold aK at l;simp only [δ,Xxf,beq_iff_eq,decide_eq_true_eq] at l;omega
 have O:ω (η .i64 (((1:Nat):Int) - w.1))= ω (1 - w.1):=by rw [dP]<;>first|rfl|omega
 have C:cs.Nodup:=u ▸ vk s L.ps.length;have store:∀ y,jZ L s w x=some y→∃ j,j<m∧CO 44 [.sl (cL cs) cs.length false,cA y] (.ret (ω ((j:Nat):Int)))∧(cs.map fun c=>decide (c ∈ N)).set j true=cs.map fun c=>decide (c ∈ N++ [y]):=fun y Q=>by
  obtain ⟨p,q,I,K,_⟩:=LH (show y ∈ cs from u ▸ PO l Q);have r:=AB cs false y G;rw [K] at r;exact ⟨p.length,by rw [← hm,I];simp,r,QP I C N⟩
 obtain ⟨n,f⟩:∃ n,n=cs.map fun c=>decide (c ∈ N):=⟨_,rfl⟩
 have i:n.length=m:=by rw [f,Xq4,hm]
 rcases tf (O8 L.ps x.name) with b0|b0
 ·rcases tf (x.op==((6:Nat):Int)) with b1|b1
  ·have e:jZ L s w x=some (w.1,((CX L.ps x.name:Nat):Int)):=by simp only [jZ,b0,b1,if_true]
   obtain ⟨j,D,r,hs⟩:=store _ e;rw [e,show (some (w.1,((CX L.ps x.name:Nat):Int))).toList= [(w.1,((CX L.ps x.name:Nat):Int))] from rfl,← hs,← f,← Py n j (by omega)];have h:(x.op==((8:Nat):Int))=false:=by simp only [beq_iff_eq,Yq2] at*;omega
   have E:Ψ (((0+(γ ((j:Nat):Int)))*1)+1) (κ (zK n))=true:=dw (by rw [Jn,i,aS];omega);have F:(decide (((j:Nat):Int)<(m:Int)))=true:=kl D;exact pN 17 [] 6 15 (.k 1 (aj h) (.k 1 (k0 k) (.c d (.c (ai b0) (.c E (.c (k0 j) (.c F (.k 1 (ai b1) (.k 1 (k0 k) (.c d (.c (ai b0) (.k 1 (k0 k) (.c d (.k 3 (ai d) .nil)))))))))))))) (.v 35 (.eq (wpS z)) (.v 67 (.ppt g) (.c r (.v 50 (.ppt g) (.c v (.v 40 (.ppt g) .nil)))))) t
  ·rcases tf (x.op==((8:Nat):Int)) with h|h
   ·rcases tf (s==((2:Nat):Int)) with b3|b3
    ·have e:jZ L s w x=some (1 - w.1,((CX L.ps x.name:Nat):Int)):=by simp only [jZ,b0,b1,h,b3,if_true,Xqe,if_false]
     obtain ⟨j,D,r,hs⟩:=store _ e;rw [e,show (some (1 - w.1,((CX L.ps x.name:Nat):Int))).toList= [(1 - w.1,((CX L.ps x.name:Nat):Int))] from rfl,← hs,← f,← Py n j (by omega)];have E:Ψ (((0+(γ ((j:Nat):Int)))*1)+1) (κ (zK n))=true:=dw (by rw [Jn,i,aS];omega);have F:(decide (((j:Nat):Int)<(m:Int)))=true:=kl D;exact pN 17 [] 6 59 (.c E (.c (k0 j) (.c F (.k 1 (ai b3) (.c (ai h) (.k 1 (k0 k) (.c d (.c (ai b0) (.c (aj b1) (.k 1 (k0 k) (.c d (.c (ai b0) (.k 1 (k0 k) (.c d (.k 3 (ai d) .nil))))))))))))))) (.v 35 (.eq (wpS z)) (.c r (.v 80 (.eq O) (.v 67 (.ppt g) (.v 50 (.ppt g) (.c v (.v 40 (.ppt g) .nil))))))) t
    ·have e:jZ L s w x=none:=by simp only [jZ,b0,b1,h,b3,if_true,Xqe,if_false]
     rw [e,show (none:Option Cl).toList= [] from rfl,ο,← f];exact pN 17 [] 6 27 (.c (aj b3) (.c (ai h) (.k 1 (k0 k) (.c d (.c (ai b0) (.c (aj b1) (.k 1 (k0 k) (.c d (.c (ai b0) (.k 1 (k0 k) (.c d (.k 3 (ai d) .nil)))))))))))) (.v 35 (.eq (wpS z)) (.v 67 (.ppt g) (.v 50 (.ppt g) (.c v (.v 40 (.ppt g) .nil))))) t
   ·have e:jZ L s w x=none:=by simp only [jZ,b0,b1,h,if_true,Xqe,if_false]
    rw [e,show (none:Option Cl).toList= [] from rfl,ο,← f];exact pN 17 [] 6 11 (.k 1 (aj h) (.k 1 (k0 k) (.c d (.c (ai b0) (.c (aj b1) (.k 1 (k0 k) (.c d (.c (ai b0) (.k 1 (k0 k) (.c d (.k 3 (ai d) .nil))))))))))) (.v 35 (.eq (wpS z)) (.v 67 (.ppt g) (.v 50 (.ppt g) (.c v (.v 40 (.ppt g) .nil))))) t
 ·have e:jZ L s w x=none:=by simp only [jZ,b0,Xqe,if_false]
  rw [e,show (none:Option Cl).toList= [] from rfl,ο,← f];exact pN 17 [] 6 1 (.k 2 (aj b0) (.k 1 (aj b0) (.k 1 (k0 k) (.c d (.k 3 (ai d) .nil))))) (.v 35 (.eq (wpS z)) (.c v (.v 40 (.ppt g) .nil))) t
theorem NG (L:Lw) (a b c:Bool) (s:Int) (w:Cl) (cs:List Cl) (m:Nat) (f:List Nd) (d:L.ps.length<2^40) (i:cs.length<2^40) (j:cs=aB s L.ps.length) (hm:cs.length=m) (h:aK s L.ps.length w=true) (g:f.length<2^39):∀ (rx p:List Nd) (N:List Cl),f=p++rx→∀ nt,88≤nt→
  aJ prog ap [] nt (au 0 (ag f17)) (fun _=> .exit 0) (fun q:Nat × List Bool=>u5S L a b c s w cs m f q.1 (zK q.2)) (u5X cs m) (p.length,cs.map fun c=>decide (c ∈ N)) (cs.map fun c=>decide (c ∈ N++kL L s w rx))
 | [],p,N,hp,nt,hn=>by
  rw [ο] at hp;subst hp;have k:(decide ((f.length:Int)<(f.length:Int)))=false:=kn (ζ _);rw [show kL L s w []= [] from rfl,ο];exact .done (pN 17 [] 1 0 (.c (aj k) .nil) .nil hn)
 | x::rx,p,N,hp,nt,hn=>by
  have l:=Tu L a b c s w cs m f d i j hm h g p.length x rx N (mP hp) (eH nd5 hp) nt hn;have k:=NG L a b c s w cs m f d i j hm h g rx (p++ [x]) (N++(jZ L s w x).toList) (by rw [hp];simp) nt hn;rw [show (p++ [x]).length=p.length+1 by simp] at k;have e:kL L s w (x::rx)=(jZ L s w x).toList++kL L s w rx:=by
   unfold kL;rw [Xwy];cases jZ L s w x<;>rfl
  rw [e,← Δ];exact .next (a':=(p.length+1,cs.map fun c=>decide (c ∈ N++(jZ L s w x).toList))) l k
def mdS (cs:List Cl) (nn nb:Bool) (bl:List Bool) (m:Nat) (p:Nat × Bool × Nat × List Cl):St:=⟨[(0,.sl (cL cs) cs.length nn),(1,.sl (zK bl) m nb),(5,cond p.2.1 (.ref 0 0 0 p.2.2.1) .nilS),(6,ω (p.1:Int))],cond p.2.1 [(0,⟨cL p.2.2.2,0,false,0,2,true⟩)] [],.dead,[]⟩
theorem FM (f:Cl→Bool) (cs:List Cl) (C B:Bool) (t:List Bool) (m:Nat) (d:t=cs.map f) (hm:t.length=m) (E:cs.length<2^39):∀ (r p:List Cl) (cc:Bool) (n:Nat) (os:List Cl),cs=p++r→os.length=n→n≤p.length→(cc=false→os= [])→
  ∃ (v:Bool) (n2:Nat),(os++r.filter f).length=n2∧(v=false→os++r.filter f= [])∧∀ nt,25≤nt→
   aJ prog ap [] nt (au 0 (ag f46)) (fun _=> .exit 0) (mdS cs C B t m) ceX (p.length,cc,n,os) (v,n2,os++r.filter f)
 | [],p,cc,n,os,hp,hn0,hn1,hc=>by
  rw [ο] at hp;subst hp;have g:(decide ((cs.length:Int)<(cs.length:Int)))=false:=kn (ζ _);simp only [List.filter_nil,ο];refine ⟨cc,n,hn0,hc,fun nt c=> .done ?_⟩;cases cc with
  |false=>exact pN 46 [] 1 0 (.c (aj g) .nil) (.nil) c
  |true=>exact pN 46 [] 1 0 (.c (aj g) .nil) (.nil) c
 | x::r,p,cc,n,os,hp,hn0,hn1,hc=>by
  have w:=eH (f:=cC) (n:=2) (fun _=>rfl) hp;obtain ⟨k,a⟩:∃ k,p.length=k:=⟨_,rfl⟩
  have q:=mP hp;rw [a] at w q;have F:(ε ((γ ((k:Nat):Int))*2) (cL cs))=cC x++cL r:=w;obtain ⟨s,j⟩:∃ s,f x=s:=⟨_,rfl⟩
  obtain ⟨rb,u⟩:∃ rb,(ε ((γ ((k:Nat):Int))*1) (zK t))= [AV.bool s]++rb:=by
   refine ⟨zK (r.map f), ?_⟩;rw [aS,Xww,d,hp,← a];unfold zK;have e:p.length=(p.map f).length:=(Xq4 ..).symm;rw [← Xz4,Xxa,φ,e,List.drop_left,j];rfl
  have g:(decide (((k:Nat):Int)<(cs.length:Int)))=true:=kl q;have i:(decide (((k:Nat):Int)<(m:Int)))=true:=kl (by rw [← hm,d,Xq4];exact q);have A:k<2^62:=by omega
  have J:Ψ (n+1) 1099511627776=true:=dw (by omega);have G:Ψ (n*2) (κ (cL os))=true:=dw (by rw [dA,hn0];exact ζ _);have D:=eP (f:=cC) (n:=2) (fun _=>rfl) os x hn0;rw [a];cases s with
  |true=>
   obtain ⟨v,n2,y,z,o⟩:=FM f cs C B t m d hm E r (p++ [x]) true (n+1) (os++ [x]) (by rw [hp];simp) (by simp [hn0]) (by simp;omega) (fun h=>by cases h);rw [show (p++ [x]).length=k+1 by simp [a]] at o;rw [List.filter_cons_of_pos j,show os++x::r.filter f=os++ [x]++r.filter f by simp];refine ⟨v,n2,y,z,fun nt c=> .next (a':=(k+1,true,n+1,os++ [x])) ?_ (o nt c)⟩;generalize l:true=s at u;have b:=l.symm;clear o z y;cases cc with
   |false=>have I:=hc rfl;subst I;subst hn0;exact pN 46 [] 3 3 (.k 5 (k0 k) (.c g (.c (ai b) (.k 1 (k0 k) (.c i (.c (ai g) .nil)))))) (.v 12 (.eq (wpS A)) (.v 20 (.ppt F) (.v 15 (.ppt u) .nil))) c
   |true=>exact pN 46 [] 2 3 (.k 1 J (.c G (.k 3 (k0 k) (.c g (.c (ai b) (.k 1 (k0 k) (.c i (.c (ai g) .nil)))))))) (.v 12 (.eq (wpS A)) (.b 23 D (.v 20 (.ppt F) (.v 15 (.ppt u) .nil)))) c
  |false=>
   obtain ⟨v,n2,y,z,o⟩:=FM f cs C B t m d hm E r (p++ [x]) cc n os (by rw [hp];simp) hn0 (by simp;omega) hc;rw [show (p++ [x]).length=k+1 by simp [a]] at o;rw [List.filter_cons_of_neg (by rw [j];decide)];refine ⟨v,n2,y,z,fun nt c=> .next (a':=(k+1,cc,n,os)) ?_ (o nt c)⟩;generalize l:false=s at u;have b:=l.symm;clear o z y;cases cc with
   |false=>exact pN 46 [] 2 1 (.c (aj b) (.k 1 (k0 k) (.c i (.c (ai g) .nil)))) (.v 12 (.eq (wpS A)) (.v 15 (.ppt u) .nil)) c
   |true=>exact pN 46 [] 2 1 (.c (aj b) (.k 1 (k0 k) (.c i (.c (ai g) .nil)))) (.v 12 (.eq (wpS A)) (.v 15 (.ppt u) .nil)) c
theorem Ie (f:Cl→Bool) (cs:List Cl) (c b:Bool) (a:List Bool) (m:Nat) (g:a=cs.map f) (hm:a.length=m) (o:cs.length<2^39):CO 46 [.sl (cL cs) cs.length c,.sl (zK a) m b] (.ret (.sl (cL (cs.filter f)) (cs.filter f).length false)):=by
 obtain ⟨n,n2,j,d,l⟩:=FM f cs c b a m g hm o cs [] false 0 [] rfl rfl (ζ _) (fun _=>rfl);rw [θ] at j d l;have e:=aJ.blk (id:=0) (e':= .normal) (fun nt (hn:25≤nt)=>l nt hn) (by simp) rfl (aI.refl _) (aI.refl _);obtain ⟨i,k⟩:∃ i,i=cs.filter f:=⟨_,rfl⟩
 rw [← k] at e j d ⊢;cases n with
 |false=>
  have p:=d rfl;subst p;have h:CO 46 [.sl (cL cs) cs.length c,.sl (zK a) m b] (.ret .nilS):=pK [0] 0 0 .nil (.k [0,1,5,6] e .nil);exact h.out (je.ret rfl rfl (bF.nilS false rfl))
 |true=>
  have h:CO 46 [.sl (cL cs) cs.length c,.sl (zK a) m b] (.ret (.own (μ (n2*2) (cL i)) n2 2)):=pK [0] 0 0 .nil (.k [0,1,5,6] e .nil);subst j;exact Fh _ _ (by rw [Xzx,Xvc,τ (by rw [dA];exact ζ _)]) h
theorem PG (s:Int) (n:Nat):(aB s n).length≤2*n:=by
 have a:∀ i,(qi i n).length=n:=fun i=>by simp [qi]
 by_cases h1:s=1
 ·subst h1;rw [EU,a];omega
 ·by_cases h2:s=2
  ·subst h2;rw [EW,ξ,a,a];omega
  ·rw [EX h1 h2];exact Xqr _
theorem Zm (n:Nat):gG n [.bool false]=zK (List.replicate n false):=by
 induction n with
 |zero=>rfl
 |succ n ih=>rw [Ep,ih,List.replicate_succ];rfl
def wH (L:Lw) (s:Int) (w:Cl):List Cl:=if (aK s L.ps.length w) then (aB s L.ps.length).filter (fun c=>decide (c ∈ kL L s w ((L.ps[w.2.toNat]?.map Pv.body).getD []))) else []
theorem O4 (L:Lw) (a b c:Bool) (s:Int) (w:Cl) (M:CP L) (O:L.ps.length<2^38):CO 17 [.agg (L.c a b c),ω s,cA w] (.ret (.sl (cL (wH L s w)) (wH L s w).length false)):=by
 obtain ⟨v,G⟩:=M;have A:=Jr L a b c s O;have o:=fun x=> @kS s L.ps.length x
 have I:=PG s L.ps.length;unfold wH;obtain ⟨cs,f⟩:∃ cs,cs=aB s L.ps.length:=⟨_,rfl⟩
 rw [← f] at A I ⊢;have P:(2:Nat)^38=274877906944:=by decide
 have T:(2:Nat)^39=549755813888:=by decide
 have R:(2:Nat)^40=1099511627776:=by decide
 have j:=AB cs false w (by omega);cases z:(aK s L.ps.length w) with
 |false=>
  have B:w ∉ cs:=fun h=>by rw [f,o,z] at h;cases h
  rw [Y0 B] at j;obtain ⟨k,m⟩:∃ k:Int,k= -1:=⟨_,rfl⟩
  rw [← m] at j;have C:(decide (k<((0:Nat):Int)))=true:=Yq0 (by rw [m];decide);have h:CO 17 [.agg (L.c a b c),ω s,cA w] (.ret .nilS):=pK [0] 1 1 (.c (ai C) (.n 5 .nil)) (.c j (.c A .nil));exact h.out (je.ret rfl rfl (bF.nilS false rfl))
 | true=>
  have u:w ∈ cs:=by rw [f,o,z]
  obtain ⟨_,_,_,D,_⟩:=LH u;have t:0≤Wx cs w:=by rw [D];omega
  generalize Wx cs w=k at j t;have C:(decide (k<((0:Nat):Int)))=false:=Yq1 (by simp;omega);have g:=z;unfold aK at g;simp only [δ,decide_eq_true_eq] at g;obtain ⟨h0,Y,Z,X,N⟩:=g;have l:w.2.toNat<L.ps.length:=by omega
  have d:L.ps[w.2.toNat]? =some L.ps[w.2.toNat]:=ν l;have n:L.ps[w.2.toNat] ∈ L.ps:=Xx1 l;have K:=(G _ n).1;generalize L.ps[w.2.toNat]=p at d K;have hp:=Lc Rf d;rw [aS] at hp;generalize U:(L.ps.drop (w.2.toNat+1))=rp at hp;change (ε ((γ w.2)*12) (bQ L.ps))=vZ p++bQ rp at hp;simp only [d,Option.map_some,Option.getD_some,if_true];have y:=aJ.blk (id:=0) (e':= .normal) (fun nt (hn:88≤nt)=>NG L a b c s w cs cs.length p.body v (by omega) f rfl z K p.body [] [] rfl nt hn) (by simp) rfl (aI.refl _) (aI.refl _);have Q:zK (cs.map fun c=>decide (c ∈ ([]:List Cl)))=gG cs.length [.bool false]:=by
   rw [Zm];congr 1;simp [List.map_const']
  obtain ⟨i,e⟩:∃ i,i=cs.map fun c=>decide (c ∈ []++kL L s w p.body):=⟨_,rfl⟩
  rw [← e] at y;unfold u5S at y;simp only [Q] at y;have q:=Ie (fun c=>decide (c ∈ []++kL L s w p.body)) cs false true i cs.length e (by rw [e,Xq4]) (by omega);rw [θ] at q;have S:μ (cs.length*1) (zK i)=zK i:=τ (by rw [Jn,e,Xq4];omega);generalize cs.filter _=r at q ⊢;have E:(decide (((0:Nat):Int)≤(cs.length:Int)))=true:=Yq0 (by omega);have F:(decide ((cs.length:Int)=(cs.length:Int)))=true:=Yq0 rfl;have J:(decide ((cs.length:Int)≤((1099511627776:Nat):Int)))=true:=Yq0 (by omega);have V:=y;have q:CO 46 [.sl (cL cs) cs.length false,.sl (μ (cs.length*1) (zK i)) cs.length true] (.ret (.sl (cL r) r.length false)):=by rw [S];exact q
  exact pK [0] 1 0 (.k 1 (Yq0 X) (.c (Yq0 N) (.k 2 E (.c F (.c J (.c (aj C) (.n 5 .nil))))))) (.c q (.k [1,3,5,7,8,9,10] V (.v 27 (.ppt hp) (.c j (.c A .nil)))))
theorem oN {c d:Cl}:sK c d=true↔c.1<d.1∨(c.1=d.1∧c.2<d.2):=by
 simp only [sK,Xxf,δ,decide_eq_true_eq,beq_iff_eq]
theorem LM {c d:Cl}:sK d c=false↔c.1<d.1∨(c.1=d.1∧c.2≤d.2):=by
 rw [← Bool.not_eq_true,oN];omega
theorem Hw:∀ (q:List Cl) (y:Cl) (r:List Cl),(q.reverse++r).Pairwise (fun x y=>sK y x=false)→(∀ x ∈ r,sK y x=true)→(mO q y r).Pairwise (fun x y=>sK y x=false)
 | [],y,r,h,hr=>List.Pairwise.cons (fun x f=>LV _ _ (hr x f)) h
 | x ::q,y,r,h,hr=>by
  unfold mO;have g:(q.reverse++x::r).Pairwise (fun x y=>sK y x=false):=by simpa using h
  cases d:sK y x with
  |true=>exact Hw q y (x::r) g (List.forall_mem_cons.2 ⟨d,hr⟩)
  | false=>
   simp only [Xqe,if_false];have c:=List.pairwise_append.1 h;refine List.pairwise_append.2 ⟨c.1,List.Pairwise.cons (fun x f=>LV _ _ (hr x f)) c.2.1,fun z a w b=> ?_⟩;rcases List.mem_cons.1 b with e|b
   ·subst e;have j:=(List.pairwise_append.1 g).2.2;rw [List.reverse_cons,Xjc] at a;rcases a with a|a
    ·have i:=j z a x (Xqp ..);rw [LM] at i d ⊢;omega
    ·rw [Xxp] at a;subst a;exact d
   ·exact c.2.2 z a w b
theorem AC:∀ (r p:List Cl),p.Pairwise (fun x y=>sK y x=false)→(qI p r).Pairwise (fun x y=>sK y x=false)
 | [],p,h=>h
 |y::r,p,h=>AC r _ (Hw _ _ _ (by simpa using h) (by simp))
theorem Oo (l:List Cl):(jb l).Pairwise (fun x y=>sK y x=false):=by
 cases l with
 |nil=>exact List.Pairwise.nil
 |cons x l=>exact AC l [x] (Xj7 ..)
theorem zQ:∀ (l A:List Cl) (z:Cl),(A++ [z]).Pairwise (fun x y=>sK x y=true)→(z::l).Pairwise (fun x y=>sK y x=false)→(oD (A++ [z]) z l).Pairwise (fun x y=>sK x y=true)
 | [],A,z,h,_=>h
 | y::r,A,z,h,hl=>by
  unfold oD;have f:=List.pairwise_cons.1 hl;cases i:G6 y z with
  |true=>
   have e:=Fe.1 i;subst e;exact zQ r A y h f.2
  | false=>
   simp only [Xqe,if_false];have g:z ≠ y:=fun e=>by rw [Fe.2 e.symm] at i;cases i
   have d:sK z y=true:=by
    have k:=f.1 y (Xqp ..);rw [LM] at k;rw [oN];have:¬ (z.1=y.1∧z.2=y.2):=fun e=>g (Prod.ext e.1 e.2)
    omega
   refine zQ r (A++ [z]) y (List.pairwise_append.2 ⟨h,Xj7 ..,fun a c b j=> ?_⟩) f.2;rw [Xxp] at j;subst j;rcases List.mem_append.1 c with c|c
   ·have m:=(List.pairwise_append.1 h).2.2 a c z (List.mem_singleton_self _);rw [oN] at m d ⊢;omega
   ·rw [Xxp] at c;subst c;exact d
theorem E8 {l:List Cl} (h:l.Pairwise (fun x y=>sK y x=false)):(b_ l).Pairwise (fun x y=>sK x y=true):=by
 cases l with
 |nil=>exact List.Pairwise.nil
 |cons x l=>exact zQ l [] x (Xj7 ..) h
theorem E5 {x:Cl}:∀ (r A:List Cl) (z:Cl),z ∈ A→(x ∈ oD A z r↔x ∈ A∨x ∈ r)
 | [],A,z,_=>by simp [oD]
 | y::r,A,z,hz=>by
  unfold oD;split
  ·rename_i h;have e:=Fe.1 h;subst e;rw [E5 r A y hz,Xqs];constructor
   ·exact fun h=>h.imp id .inr
   ·rintro (h|h|h)
    ·exact .inl h
    ·subst h;exact .inl hz
    ·exact .inr h
  ·rw [E5 r (A++ [y]) y (by simp),Xjc,Xxp,Xqs,or_assoc]
theorem GN {x:Cl} (l:List Cl):x ∈ b_ l↔x ∈ l:=by
 cases l with
 |nil=>simp [b_]
 |cons y l=>
  unfold b_;rw [E5 l [y] y (by simp)];simp
theorem BU (q n:Nat):(qi q n).Pairwise (fun x y=>sK x y=true):=by
 unfold qi;rw [List.pairwise_map];exact List.pairwise_lt_range.imp fun h=>by rw [oN];simp;omega
theorem Ru {q n:Nat} {x:Cl} (h:x ∈ qi q n):x.1=(q:Int):=by
 unfold qi at h;obtain ⟨k,_,e⟩:=List.mem_map.1 h;rw [← e]
theorem Ju (s:Int) (n:Nat):(aB s n).Pairwise (fun x y=>sK x y=true):=by
 by_cases h1:s=1
 ·subst h1;rw [EU];exact BU ..
 ·by_cases h2:s=2
  ·subst h2;rw [EW];refine List.pairwise_append.2 ⟨BU ..,BU ..,fun a c b d=> ?_⟩;rw [oN,Ru c,Ru d];exact .inl (by decide)
  ·rw [EX h1 h2];exact List.Pairwise.nil
theorem wE {l:List Cl} (h:l.Pairwise (fun x y=>sK x y=true)):l.Nodup:=
 h.imp fun {a b} hab e=>by subst e;rw [oN] at hab;omega
theorem Kw {l m:List Cl} (c:l.Pairwise (fun x y=>sK x y=true)) (hm:m.Pairwise (fun x y=>sK x y=true)) (h:∀ x,x ∈ l↔x ∈ m):l=m:=
 List.Perm.eq_of_pairwise (fun a b _ _ d e=>by rw [oN] at d e;omega) c hm ((List.perm_ext_iff_of_nodup (wE c) (wE hm)).2 h)
theorem TA (L:Lw) (s:Int) (w:Cl):jv L s w=wH L s w:=by
 unfold jv wH;cases b:(aK s L.ps.length w) with
 |false=>rfl
 |true=>
  simp only [if_true];generalize (L.ps[w.2.toNat]?.map Pv.body).getD []=bd;refine Kw (E8 (Oo _)) ((Ju ..).filter _) fun x=> ?_
  rw [GN,(uy _).mem_iff,List.mem_filter,decide_eq_true_eq];refine ⟨fun h=> ⟨?_,h⟩,fun h=>h.2⟩;obtain ⟨y,_,a⟩:=List.mem_filterMap.1 h;exact PO b a
theorem BL (L:Lw) (s:Int) (w:Cl):∀ bd:List Nd,(kL L s w bd).length≤bd.countP CZ
 | []=>by simp [kL]
 | x ::bd=>by
  have b:=BL L s w bd;unfold kL at b ⊢;rw [Xwy,Xz9];cases a:jZ L s w x with
  |none=>simp only;omega
  | some y=>
   have c:CZ x=true:=by
    unfold jZ at a;unfold CZ;by_cases h6:(x.op==((6:Nat):Int))=true
    ·have:(x.op==6)=true:=h6;simp [this]
    ·by_cases h8:(x.op==((8:Nat):Int))=true
     ·have:(x.op==8)=true:=h8;simp [this]
     ·rw [if_neg h6,if_neg h8] at a;simp at a
   simp only [Γ,c,if_true];omega
theorem UO {L:Lw} {mn:Nat} (d:L.ps.length≤8) (h:xJ mn L.ps):CP L:=by
 refine ⟨by omega,fun p hp=> ?_⟩;obtain ⟨k,c⟩:=List.getElem?_of_mem hp;obtain ⟨e,b,a⟩:=(h k p c).body;rw [b];refine ⟨?_,fun s w=>Xqg (BL L s w _) ?_⟩
 ·have:=a.len;simp only [Γ];omega
 ·have:=a.cnt;rw [Xz9];have:CZ ⟨5,false,[],[],[120]⟩=false:=rfl;rw [this];simp;omega
def lwC (x:Lw):List AV:=x.c false false false
def Y8 (l:List Lw):List AV:=l.flatMap lwC
def O7 (L:Lw):Prop:=L.ps.length≤8∧CP L
theorem JV {L:Lw} (a:L.ps.length≤6) (h:∀ p ∈ L.ps,BD p):O7 L:=
 ⟨by omega,by omega,fun p hp=> ⟨by have:=(h p hp).1;omega,fun s w=>Xqg (BL L s w _) (by have:=(h p hp).2;omega)⟩⟩
theorem UI (l:List (List Int)) (a:Bool) (q0 c b:Int):∃ X:List Lw,X.length=4∧(∀ x ∈ X,O7 x)∧CO 14 [.sl (jT l) l.length a,.agg [ω q0,ω c,ω b]] (.ret (.sl (Y8 X) X.length true)):=by
 obtain ⟨A,m,t,n,j⟩:=UN l a;obtain ⟨B,d,k⟩:=Ou l a;obtain ⟨C,f,i⟩:=NW B d true true true q0 c b;have s:O7 A:=⟨by omega,UO (by omega) n⟩
 have o:O7 B:=JV d.p6 d.ok;have r:O7 C:=JV f.1 f.2;have q:O7 ⟨[],0,[],0,[]⟩:=JV (Xqr _) (fun p hp=>by cases hp);have h:CO 14 [.sl (jT l) l.length a,.agg [ω q0,ω c,ω b]] (.ret (.own [.sl A.fx A.fn true,.sl A.sx A.sn true,.sl (bQ A.ps) A.ps.length m,.sl B.fx B.fn true,.sl B.sx B.sn true,.sl (bQ B.ps) B.ps.length true,.sl C.fx C.fn true,.sl C.sx C.sn true,.sl (bQ C.ps) C.ps.length true,.nilS,.nilS,.nilS] 4 3)):=pK [0] 0 0 (.n 14 .nil) (.c i (.c k (.c j .nil)));refine ⟨[A,B,C,⟨[],0,[],0,[]⟩],rfl,fun x g=> ?_, ?_⟩
 ·simp only [Xqs,Xq7,or_false] at g;rcases g with rfl|rfl|rfl|rfl
  ·exact s
  ·exact o
  ·exact r
  ·exact q
 ·have e:=af.thaw (by simp) h;simp only [qg,thaw] at e;refine e.out (je.ret rfl rfl ?_);exact bF.slP (.sl (.sl (.sl (.sl (.sl (.sl (.sl (.sl (.sl (.nilS (.nilS (.nilS .nil))))))))))))
theorem w1 {c:Int} (h0: -1≤c) (a:c<2^40):ω (η .i64 (c+((1:Nat):Int)))=ω (c+1):=by
 have e:η .i64 (c+((1:Nat):Int))=c+1:=by rw [dP]<;>omega
 rw [e]
def guI (X:List Lw) (w:Cl) (i:Nat):St:=⟨[(5,.ptr 0 0 0),(7,.bool true),(17,.sl (Y8 X) X.length true),(18,ω (X.length:Int)),(19,ω (i:Int))],[(0,⟨[ω w.1,ω w.2],0,false,0,0,true⟩)],.dead,[]⟩
def guC (X:List Lw) (w:Cl) (L:Lw) (i:Nat) (c:Int):St:=⟨[(5,.ptr 0 0 0),(7,.bool true),(9,.ptr 1 0 0),(10,ω c),(17,.sl (Y8 X) X.length true),(18,ω (X.length:Int)),(19,ω (i:Int))],[(0,⟨[ω w.1,ω w.2],0,false,0,0,true⟩),(1,⟨[.sl L.fx L.fn false,.sl L.sx L.sn false,.sl (bQ L.ps) L.ps.length false],0,false,0,0,true⟩)],.dead,[]⟩
def guS (X:List Lw) (w:Cl) (L:Lw) (i:Nat) (c s:Int):St:=⟨[(5,.ptr 0 0 0),(7,.bool true),(9,.ptr 1 0 0),(10,ω c),(11,ω s),(17,.sl (Y8 X) X.length true),(18,ω (X.length:Int)),(19,ω (i:Int))],[(0,⟨[ω w.1,ω w.2],0,false,0,0,true⟩),(1,⟨[.sl L.fx L.fn false,.sl L.sx L.sn false,.sl (bQ L.ps) L.ps.length false],0,false,0,0,true⟩)],.dead,[]⟩
def guK (X:List Lw) (w:Cl) (L:Lw) (i:Nat) (c s k:Int):St:=⟨[(5,.ptr 0 0 0),(7,.bool true),(9,.ptr 1 0 0),(10,ω c),(11,ω s),(12,ω k),(17,.sl (Y8 X) X.length true),(18,ω (X.length:Int)),(19,ω (i:Int))],[(0,⟨[ω w.1,ω w.2],0,false,0,0,true⟩),(1,⟨[.sl L.fx L.fn false,.sl L.sx L.sn false,.sl (bQ L.ps) L.ps.length false],0,false,0,0,true⟩)],.dead,[]⟩
def US2 (L:Lw) (c:Int) (d:Cl) (us:List Cl):Prop:=CO 16 [.agg (L.c false false false),ω c,cA d] (.ret (.sl (cL us) us.length false))∧CO 17 [.agg (L.c false false false),ω c,cA d] (.ret (.sl (cL us) us.length false))∧CO 15 [.sl (cL us) us.length false,.sl (cL us) us.length false] (.ret (.bool true))
theorem Tv {L:Lw} (a:O7 L) (c:Int) (d:Cl):∃ us,US2 L c d us:=by
 have e:=a.1;have b:(jv L c d).length≤12:=xE a.2 c d;refine ⟨jv L c d,NH L false false false c d a.2, ?_, ?_⟩
 ·rw [TA];exact O4 L false false false c d a.2 (by omega)
 ·have h:=PV (jv L c d) (jv L c d) false false (by omega);rw [Yq0 rfl] at h;exact h
theorem La {nt:Nat} (b:63≤nt) (X:List Lw) (w:Cl) (L:Lw) (i:Nat) (c s:Int) (a:O7 L):∀ (n:Nat) (k:Int),k+n=L.ps.length+1→ -1≤k→aJ prog ap [] nt (au 6 (ag f3)) (fun _=> .exit 6) (guK X w L i c s) (fun _:Unit=>guS X w L i c s) k ()
 |0,k,h,h0=>by
  have d:(decide (k≤(L.ps.length:Int)))=false:=Yq1 (by omega);exact .done (pN 3 [] 1 0 (.c (aj d) (.n 1 .nil)) .nil b)
 |n+1,k,h,h0=>by
  have d:(decide (k≤(L.ps.length:Int)))=true:=Yq0 (by omega);have g:=a.1;have f:=w1 (c:=k) h0 (by omega);refine .next (a':=k+1) ?_ (La b X w L i c s a n (k+1) (by omega) (by omega))
  clear h;obtain ⟨us,e⟩:=Tv a c (s,k);exact pN 3 [] 2 1 (.k 12 (ai d) (.n 1 .nil)) (.v 37 (.eq f) (.c e.2.2 (.c e.2.1 (.c e.1 .nil)))) b
theorem Lm {nt:Nat} (a:63≤nt) (X:List Lw) (w:Cl) (L:Lw) (i:Nat) (c:Int) (b:O7 L):∀ (n:Nat) (s:Int),s+n=2+1→ -1≤s→aJ prog ap [] nt (au 4 (ag f3)) (fun _=> .exit 4) (guS X w L i c) (fun _:Unit=>guC X w L i c) s ()
 |0,s,h,h0=>by
  have d:(decide (s≤((2:Nat):Int)))=false:=Yq1 (by omega);exact .done (pN 3 [] 1 0 (.c (aj d) .nil) .nil a)
 |n+1,s,h,h0=>by
  have d:(decide (s≤((2:Nat):Int)))=true:=Yq0 (by omega);have g:=b.1;have e:=w1 (c:=s) h0 (by omega);refine .next (a':=s+1) ?_ (Lm a X w L i c b n (s+1) (by omega) (by omega))
  clear h;have f:=aJ.blk (id:=6) (e':= .normal) (fun nt (a:63≤nt)=>La a X w L i c s b (L.ps.length+2) (-1) (by omega) (by omega)) (by simp) rfl (aI.refl _) (aI.refl _);exact pN 3 [6] 1 1 (.c (ai d) .nil) (.v 30 (.eq e) (.k [5,7,9,10,11,12,17,18,19] f .nil)) a
theorem K_ {nt:Nat} (a:63≤nt) (X:List Lw) (w:Cl) (L:Lw) (i:Nat) (b:O7 L):∀ (n:Nat) (c:Int),c+n=3+1→ -1≤c→aJ prog ap [] nt (au 2 (ag f3)) (fun _=> .exit 2) (guC X w L i) (fun _:Unit=>guI X w i) c ()
 |0,c,h,h0=>by
  have d:(decide (c≤((3:Nat):Int)))=false:=Yq1 (by omega);exact .done (pN 3 [] 1 0 (.c (aj d) .nil) .nil a)
 |n+1,c,h,h0=>by
  have d:(decide (c≤((3:Nat):Int)))=true:=Yq0 (by omega);have j:=b.1;have f:=w1 (c:=c) h0 (by omega);refine .next (a':=c+1) ?_ (K_ a X w L i b n (c+1) (by omega) (by omega))
  clear h;obtain ⟨us,e⟩:=Tv b c w;have g:=aJ.blk (id:=4) (e':= .normal) (fun nt (a:63≤nt)=>Lm a X w L i c b 4 (-1) (by omega) (by omega)) (by simp) rfl (aI.refl _) (aI.refl _);exact pN 3 [4] 2 1 (.k 11 (ai d) .nil) (.v 26 (.eq f) (.c e.2.2 (.c e.2.1 (.c e.1 (.k [5,7,9,10,11,17,18,19] g .nil))))) a
theorem Lp {nt:Nat} (a:63≤nt) (X:List Lw) (w:Cl) (l:X.length<2^40) (g:∀ x ∈ X,O7 x):∀ (r p:List Lw),X=p++r→aJ prog ap [] nt (au 0 (ag f3)) (fun _=> .exit 0) (guI X w) (fun _:Unit=> ⟨[(7,.bool true)],[],.dead,[]⟩) p.length ()
 | [],p,h=>by
  rw [ο] at h;subst h;have b:(decide ((X.length:Int)<(X.length:Int)))=false:=kn (ζ _);exact .done (pN 3 [] 1 0 (.c (aj b) .nil) .nil a)
 |L::rX,p,h=>by
  have j:O7 L:=g L (by rw [h];simp);have e:=eH (f:=lwC) (n:=3) (fun _=>rfl) h;have c:=mP h;have d:=Lp a X w l g rX (p++ [L]) (by rw [h];simp);rw [show (p++ [L]).length=p.length+1 by simp] at d;refine .next (a':=p.length+1) ?_ d
  clear d h;generalize p.length=i at*
  have o:(ε ((γ (i:Int))*3) (Y8 X))=L.c false false false++Y8 rX:=e;have b:(decide ((i:Int)<(X.length:Int)))=true:=kl c;have k:i<2^62:=by omega
  have m:=aJ.blk (id:=2) (e':= .normal) (fun nt (a:63≤nt)=>K_ a X w L i j 5 (-1) (by omega) (by omega)) (by simp) rfl (aI.refl _) (aI.refl _);exact pN 3 [2] 1 1 (.k 4 (k0 i) (.c b (.c (ai b) .nil))) (.v 61 (.eq (wpS k)) (.k [5,7,9,10,17,18,19] m (.v 21 (.ppt o) .nil))) a
theorem abE (a:CO 13 [] (.ret (.bool true))) (l:List (List Int)) (c:Bool) (q0 b d:Int) (w:Cl):CO 3 [.sl (jT l) l.length c,.agg [ω q0,ω b,ω d],cA w] (.ret (.bool true)):=by
 obtain ⟨X,h,g,e⟩:=UI l c q0 b d;have f:=aJ.blk (id:=0) (e':= .normal) (fun nt (hn:63≤nt)=>Lp hn X w (by omega) g X [] rfl) (by simp) rfl (aI.refl _) (aI.refl _);exact pK [0] 0 0 (.n 3 .nil) (.k [5,7,17,18,19] f (.c e (.c a .nil)))
end Go.Proofs.Tryz
set_option maxRecDepth 100000
open Go AM Go.ChangeShapes Go.WideShapes Go.ChangeAt Go.RowKit
namespace Go.Proofs.Tryz
noncomputable def A8 (t:TypeId) (d:DataW Unit):List Lit:=((jS prog 6 t d 0).getD []).map (·.2)
open Go.Proofs.YtokiomlellclkaaGreatDoor
def QG:List (String × DataW Unit):= [("unicode/utf8.acceptRanges",Rows.laid_unicode_utf8_acceptRanges),("tithing/expr.table",Rows.laid_tithing_expr_table),("tithing/check.truth",Rows.laid_tithing_check_truth),("tithing/check.cash",Rows.laid_tithing_check_cash),("tithing/check.days",Rows.laid_tithing_check_days),("tithing/check.plain",Rows.laid_tithing_check_plain),("tithing/statute.cash",Rows.laid_tithing_statute_cash),("unicode/utf8.first",Rows.laid_unicode_utf8_first)]
theorem OC:QG.filter (fun x=>x.2.handleName?.isSome)= []:=by kernel_rfl
theorem aaG {W:World} (h:laidMetH prog QG W):Pi ap W:=by
 have c (i:Nat) (n:String) (d:DataW Unit) (hm:QG[i]? =some (n,d)) (g:Nat) (t:TypeId) (hg:prog.globalNamed n=some g) (ht:(prog.globals[g]?).map (·.type)=some t)
   (hl:jS prog 6 t d 0=some ((A8 t d).zipIdx.map fun (l,i)=>(i,l))):=JJ h OC (List.mem_of_getElem? hm) hg ht hl
 have o:=c 0 _ _ rfl 7 355 (by kernel_rfl) (by kernel_rfl) (by kernel_rfl);have r:=c 1 _ _ rfl 0 232 (by kernel_rfl) (by kernel_rfl) (by kernel_rfl);have m:=c 2 _ _ rfl 5 53 (by kernel_rfl) (by kernel_rfl) (by kernel_rfl);have e:=c 3 _ _ rfl 2 53 (by kernel_rfl) (by kernel_rfl) (by kernel_rfl);have p:=c 4 _ _ rfl 3 53 (by kernel_rfl) (by kernel_rfl) (by kernel_rfl);have f:=c 5 _ _ rfl 4 53 (by kernel_rfl) (by kernel_rfl) (by kernel_rfl);have q:=c 6 _ _ rfl 1 53 (by kernel_rfl) (by kernel_rfl) (by kernel_rfl);have key (k:Nat) (t:TypeId) (d:DataW Unit) (hx:(ap.gl[k]?).join=some ((A8 t d).map H6)) (ho:(A8 t d).all A7=true) (hc:∀ (j:Nat) (l:Lit),(A8 t d)[j]? =some l→W.cell? ⟨k,j,none⟩=some (mQ l)):
   ∀ b,(ap.gl[k]?).join=some b→∃ ls:List Lit,b=ls.map H6∧ls.all A7=true∧∀ (j:Nat) (l:Lit),ls[j]? =some l→W.cell? ⟨k,j,none⟩=some (mQ l):=by
  intro b a;rw [hx] at a;cases a;exact ⟨_,rfl,ho,hc⟩
 intro k
 match k with
 |0=>exact key 0 _ _ (by kernel_rfl) (by kernel_rfl) r
 |1=>exact key 1 _ _ (by kernel_rfl) (by kernel_rfl) q
 |2=>exact key 2 _ _ (by kernel_rfl) (by kernel_rfl) e
 |3=>exact key 3 _ _ (by kernel_rfl) (by kernel_rfl) p
 |4=>exact key 4 _ _ (by kernel_rfl) (by kernel_rfl) f
 |5=>exact key 5 _ _ (by kernel_rfl) (by kernel_rfl) m
 |6=>intro b a;exact absurd (show (none:Option (List AV))=some b from a) (by simp)
 |7=>exact key 7 _ _ (by kernel_rfl) (by kernel_rfl) o
 |8=>intro b a;exact absurd (show (none:Option (List AV))=some b from a) (by simp)
 |k+9=>
  intro b a;have:ap.gl.length=9:=by kernel_rfl
  rw [List.getElem?_eq_none (by omega)] at a;cases a
theorem own:ownKnob prog.godebug=none:=by kernel_rfl
theorem afB:laidOutB prog=true:=by kernel_rfl
noncomputable def IR (t:TypeId) (d:DataW Unit):Obj→Obj
 | .cells _ t' fr=> .cells ((A8 t d).map mQ).toArray t' fr
 |o=>o
noncomputable def ZZ (os:Os):World:=
 let w:=World.holding prog os ⟨#[],#[],[]⟩
 {w with heap:=((((((((w.heap.modify 0 (IR 232 Rows.laid_tithing_expr_table)).modify 1 (IR 53 Rows.laid_tithing_statute_cash)).modify 2 (IR 53 Rows.laid_tithing_check_cash)).modify 3 (IR 53 Rows.laid_tithing_check_days)).modify 4 (IR 53 Rows.laid_tithing_check_plain)).modify 5 (IR 53 Rows.laid_tithing_check_truth)).modify 6 (IR 352 Rows.laid_unicode_utf8_first)).modify 7 (IR 355 Rows.laid_unicode_utf8_acceptRanges))}
end Go.Proofs.Tryz
set_option maxRecDepth 100000
set_option linter.unusedVariables false
open Go AM Go.ChangeShapes Go.WideShapes Go.ChangeAt Go.RowKit
namespace Go.Proofs.Tryz
open Go.Proofs.YtokiomlellclkaaGreatDoor
section
variable {H:Type}
theorem aag (d:DataW H):1≤Rows.uptoBulk d:=by
 cases d with
 |lit x=>cases x<;>simp [Rows.uptoBulk]
 |_=>simp [Rows.uptoBulk]
theorem zL:∀ {l:List (DataW H)} {d:DataW H},d ∈ l→Rows.uptoBulk d≤Rows.uptoBulkAll l
 |x::r,d,h=>by
  simp only [Rows.uptoBulkAll];rcases List.mem_cons.1 h with rfl|h
  ·omega
  ·have:=zL h;omega
theorem GH:∀ l:List (DataW H),l.length≤Rows.uptoBulkAll l
 | []=>Xqr _
 |x::r=>by
  simp only [Rows.uptoBulkAll,Γ];have:=GH r;have:=aag x;omega
theorem aah:Z5 (Rows.uptoBulk (H:=H)) where
 str s:=by simp only [Rows.uptoBulk];omega
 agg l d h:=by
  simp only [Rows.uptoBulk];have:=zL h;omega
 slc l r:=by
  simp only [Rows.uptoBulk];exact ⟨fun d h=>by have:=zL h;omega,by have:=GH l;omega⟩
theorem FD {α:Type} {b:Nat} {ks:List DK} (f:α→List AV) (Q:α→Prop) (d:∀ x,fF b ks x→∃ a,x=f a∧Q a):∀ L:List (List AV),(∀ x ∈ L,fF b ks x)→∃ l:List α,L.flatten=l.flatMap f∧L.length=l.length∧∀ a ∈ l,Q a
 | [],_=> ⟨[],rfl,rfl,fun a h=>by cases h⟩
 |x::L,h=>by
  obtain ⟨a,e,q⟩:=d x (h x (by simp));obtain ⟨l,g,i,j⟩:=FD f Q d L fun y c=>h y (by simp [c])
  refine ⟨a::l,by rw [List.flatten_cons,Xqa,e,g],by simp [i],fun y c=> ?_⟩;rcases List.mem_cons.1 c with rfl|c
  ·exact q
  ·exact j y c
abbrev kI:List DK:= [.slc [.int .i64]]
theorem agW {b:Nat} {a:List AV} (h:fF b [.int .i64] a):∃ y:Int,a= [ω y]∧True:=by
 cases h with|int h=>cases h with|nil=>exact ⟨_,rfl,trivial⟩
theorem UE (l:List Int):(l.flatMap fun a=> [ω a])=iL l:=by
 induction l with
 |nil=>rfl
 |cons a r ih=>rw [Xqa,ih];rfl
theorem abI {b:Nat} {L:List (List AV)} (h:∀ x ∈ L,fF b [.int .i64] x):∃ l:List Int,AV.sl L.flatten L.length false= .sl (iL l) l.length false:=by
 obtain ⟨l,a,c,_⟩:=FD (fun y:Int=> [ω y]) (fun _=>True) (fun x d=>agW d) L h;exact ⟨l,by rw [a,c,UE]⟩
theorem abQ {b:Nat} {a:List AV} (h:fF b kI a):∃ l:List Int,a= [.sl (iL l) l.length false]∧True:=by
 cases h with|slc hx hl h=>cases h with|nil=>
  obtain ⟨l,e⟩:=abI hx;exact ⟨l,by rw [e],trivial⟩
variable {enc:TypeId × Value→H} {W:World} {base:Nat}
theorem U1 {t e:TypeId} {n:Nat} {ks:List DK} (g:prog.underlying t=some (.slice e)) (f:DV prog n t=some [.slc ks]) {v:Value} {d:DataW H} {p:List MemPlace} (i:Value.okWide prog W .any base t v) (h:DataW.Trod enc prog W 0 (fun _=>true) true t v d p):
  ∃ L:List (List AV),(∀ x ∈ L,fF (Rows.uptoBulk d) ks x)∧PR (gI W) (.sl L.flatten L.length false) v:=by
 obtain ⟨a,h⟩:=h;obtain ⟨j,b,c,_⟩:=N_ aah (fun _=>rfl) n t _ f a _ _ h;rw [IX g i] at c;cases b with|slc hx hl b=>cases b with|nil=>
  simp only [bi,and_true] at c;exact ⟨_,hx,c⟩
theorem QJ (l:List (List Int)):(l.flatMap fun b=> [AV.sl (iL b) b.length false])=jT l:=by
 induction l with
 |nil=>rfl
 |cons a r ih=>rw [Xqa,ih];rfl
theorem afE {v:Value} {d:DataW H} {p:List MemPlace} (g:Value.okWide prog W .any base 22 v) (h:DataW.Trod enc prog W 0 (fun _=>true) true 22 v d p):
  ∃ l:List (List Int),PR (gI W) (.sl (jT l) l.length false) v:=by
 obtain ⟨L,b,a⟩:=U1 (n:=5) (ks:=kI) (e:=38) (by kernel_rfl) (by kernel_rfl) g h;obtain ⟨l,c,f,_⟩:=FD (fun xs:List Int=> [AV.sl (iL xs) xs.length false]) (fun _=>True) (fun x i=>abQ i) _ b;rw [c,f,QJ] at a;exact ⟨l,a⟩
end
end Go.Proofs.Tryz
set_option maxRecDepth 100000
set_option linter.unusedVariables false
open Go AM Go.ChangeShapes Go.WideShapes Go.ChangeAt Go.RowKit
namespace Go.Proofs.Tryz
open Go.Proofs.YtokiomlellclkaaGreatDoor
section
variable {H:Type} {enc:TypeId × Value→H} {W:World} {base:Nat}
theorem u3i:prog.underlying 3=some (.int .i64):=by kernel_rfl
theorem AA {u:Value} (h:Cell.okWide prog W .any base 3 u):∃ q:Int,u= .int .i64 q:=by
 cases u<;>simp only [Cell.okWide,Cell.ok,u3i] at h
 rename_i k q;obtain ⟨rfl,h⟩:=h;exact ⟨q,rfl⟩
theorem afD {t:TypeId} (n:prog.underlying t=some (.array 3 3)) (d:prog.cellTypes prog.depth t=some [3,3,3]) (i:prog.cellsOf t=3) {v:Value} (h:Value.okWide prog W .any base t v):
  ∃ q0 b a:Int,PR (gI W) (.agg [.int .i64 q0,.int .i64 b,.int .i64 a]) v:=by
 simp only [Value.okWide,n] at h;obtain ⟨cs,rfl,c,r,g,_,e⟩:=h;rw [d] at g;cases g;obtain ⟨cl⟩:=cs;have f:cl.length=3:=c.trans i
 match cl,f with
 | [v0,v1,v2],_=>
 obtain ⟨q,o,p⟩:=e 0 v0 rfl;obtain ⟨u,j,l⟩:=e 1 v1 rfl;obtain ⟨s,k,m⟩:=e 2 v2 rfl;cases o;cases j;cases k;obtain ⟨q0,rfl⟩:=AA p;obtain ⟨b,rfl⟩:=AA l;obtain ⟨a,rfl⟩:=AA m;refine ⟨q0,b,a, ?_⟩;rw [PR];exact ⟨[.int .i64 q0,.int .i64 b,.int .i64 a],rfl,by simp [bi,PR]⟩
noncomputable def Qy (t:TypeId):Bool:=match prog.underlying t with|some (.struct _)=>true|_=>false
theorem afC {t:TypeId} (hs:Qy t=true) (b:prog.cellTypes prog.depth t=some [3,3]) (h:prog.cellsOf t=2) {v:Value} (g:Value.okWide prog W .any base t v):
  ∃ w:Cl,PR (gI W) (cA w) v:=by
 unfold Qy at hs;split at hs
 ·rename_i o k;simp only [Value.okWide,k] at g;obtain ⟨cs,rfl,a,p,e,_,f⟩:=g;rw [b] at e;cases e;obtain ⟨cl⟩:=cs;have d:cl.length=2:=a.trans h
  match cl,d with
  | [v0,v1],_=>
  obtain ⟨n,l,m⟩:=f 0 v0 rfl;obtain ⟨q,i,j⟩:=f 1 v1 rfl;cases l;cases i;obtain ⟨q0,rfl⟩:=AA m;obtain ⟨c,rfl⟩:=AA j;refine ⟨(q0,c), ?_⟩;show PR (gI W) (.agg [.int .i64 q0,.int .i64 c]) _;rw [PR];exact ⟨[.int .i64 q0,.int .i64 c],rfl,by simp [bi,PR]⟩
 ·cases hs
end
abbrev QZ:AV:= .agg [.sl [.str [98],.bool false,ω 0,ω 0] 1 true,.nilS,.sl [.str [97],.bool false,ω 0,ω 0,.sl zcc3_5 1 true,.bool false,.bool false,.str [1],.str [1],.bool false,.str [9],.str [1]] 1 true]
theorem abY {nt:Nat} (a:65≤nt):ak prog ap [] nt (dG [0] (ag f150)) (eQ .dead [QZ] []) .normal Yh:=by
 exact pN 150 [] 0 0 .nil (.nil) a
theorem nc0:CO 194 [QZ] (.ret (.agg [.sl [.str [98]] 1 true,.nilS,.sl [.str [97]] 1 true])):=cD [] .nil
theorem abZ {nt:Nat} (a:65≤nt):ak prog ap [] nt (dG [1,0] (ag f150)) Yh .normal (NE [.agg [],.agg []]):=by
 exact pN 150 [] 0 0 (.n 4 .nil) (.c nc0 .nil) a
theorem nc1:CO 195 [.str [98]] (.ret (.bool true)):=cD [] .nil
theorem nc2:CO 195 [.str [97]] (.ret (.bool true)):=cD [] .nil
theorem ab1 {nt:Nat} (a:65≤nt):ak prog ap [] nt (dG [1,1,0] (ag f150)) (NE [.agg [],.agg []]) .normal (NE [.agg [.str [98],.str [97]],.agg [ω 1,ω 1]]):=by
 exact pN 150 [] 11 211 (.n 37 .nil) (.c nc2 (.c nc1 .nil)) a
theorem ab2 {nt:Nat} (a:65≤nt):ak prog ap [] nt (dG [1,1,1,0] (ag f150)) (NE [.agg [.str [98],.str [97]],.agg [ω 1,ω 1]]) .normal (SN [.agg [.str [98],.str [97]],.agg [ω 1,ω 1]]):=by
 exact pN 150 [] 7 21 (.n 19 .nil) (.nil) a
theorem Zi:dG [1,1,1,1,0] (ag f150)= .seq (.region 22 #[mk (some 57) (.move (.tmp 4)) ((vX (dG [1,1,1,1,0,0] (ag f150))).getD 0 default),mk (some 58) (.range 271 (.tmp 57)) ((vX (dG [1,1,1,1,0,0] (ag f150))).getD 1 default)] false)
 (.block 8 (.loop (.seq (.region 23 #[mk (some 59) (.next (.tmp 58) false) ((vX (dG [1,1,1,1,0,1,0,0,0] (ag f150))).getD 0 default),mk (some 60) (.extract (.tmp 59) 0) ((vX (dG [1,1,1,1,0,1,0,0,0] (ag f150))).getD 1 default)] false) (.seq (.cond (.tmp 60) .skip (.exit 8)) (dG [1,1,1,1,0,1,0,0,1,1] (ag f150)))))):=by kernel_rfl
theorem UW:dG [1,1,1,1,0,1,0,0,1,1] (ag f150)= .block 9 (.seq (.region 24 [mk (some 61) (.entry (.tmp 58)) ((vX (dG [1,1,1,1,0,1,0,0,1,1,0,0] (ag f150))).getD 0 default),mk (some 62) (.extract (.tmp 61) 1) ((vX (dG [1,1,1,1,0,1,0,0,1,1,0,0] (ag f150))).getD 1 default),mk (some 13) (.assign (.tmp 62)) ((vX (dG [1,1,1,1,0,1,0,0,1,1,0,0] (ag f150))).getD 2 default)].toArray false) (dG [1,1,1,1,0,1,0,0,1,1,0,1] (ag f150))):=by kernel_rfl
theorem afo:prog.underlying 271=some (.map 9 3):=by kernel_rfl
theorem UV {nt:Nat} (e:65≤nt) (d:Value) (k:AV):Jd prog ap nt [mk (some 61) (.entry (.tmp 58)) ((vX (dG [1,1,1,1,0,1,0,0,1,1,0,0] (ag f150))).getD 0 default),mk (some 62) (.extract (.tmp 61) 1) ((vX (dG [1,1,1,1,0,1,0,0,1,1,0,0] (ag f150))).getD 1 default),mk (some 13) (.assign (.tmp 62)) ((vX (dG [1,1,1,1,0,1,0,0,1,1,0,0] (ag f150))).getD 2 default)] 1 ⟨(61,.tup [k,.int .i64 1])::(fQ 58 59 60 d []),[],.dead,[]⟩ ⟨(13,.int .i64 1)::(62,.int .i64 1)::(61,.tup [k,.int .i64 1])::(fQ 58 59 60 d []),[],.dead,[]⟩:=by
 have a:[mk (some 61) (.entry (.tmp 58)) ((vX (dG [1,1,1,1,0,1,0,0,1,1,0,0] (ag f150))).getD 0 default),mk (some 62) (.extract (.tmp 61) 1) ((vX (dG [1,1,1,1,0,1,0,0,1,1,0,0] (ag f150))).getD 1 default),mk (some 13) (.assign (.tmp 62)) ((vX (dG [1,1,1,1,0,1,0,0,1,1,0,0] (ag f150))).getD 2 default)].all (tu nt)=true:=by
  simp only [List.all_cons,List.all_nil,tu,mk,Bool.and_true,δ,Nat.blt_eq];omega
 exact (Oh (H:=uK prog ap 3000 4) lG.apok (gX lG.apok lG.mixed lG.fnok 3000 4).1 a (c:=⟨false,[],[],[],[],[]⟩) (c':=⟨false,[],[],[],[],[]⟩) (r:=⟨_,_,_,_,_,_⟩) rfl ⟨fun b h=>(by cases h),fun p h=>(by cases h)⟩).2
theorem UX {nt:Nat} (b:65≤nt) (a:Value) (k:AV):ak prog ap [] nt (dG [1,1,1,1,0,1,0,0,1,1,0,1] (ag f150)) ⟨(13,.int .i64 1)::(62,.int .i64 1)::(61,.tup [k,.int .i64 1])::(fQ 58 59 60 a []),[],.dead,[]⟩ .normal ⟨(fQ 58 59 60 a []),[],.dead,[]⟩:=by
 exact pN 150 [] 1 0 (.n 1 .nil) (.nil) b
theorem Zh {nt:Nat} (a:65≤nt) (b:Value):ak prog ap [] nt (dG [1,1,1,1,1] (ag f150)) ⟨(fQ 58 59 60 b []),[],.dead,[]⟩ .ret ⟨[(2,.int .i64 0)],[],.dead,[]⟩:=by
 exact pN 150 [] 0 0 .nil (.nil) a
theorem Zg {nt:Nat} (f:65≤nt):gZ prog ap [] nt (dG [1,1,1,1,0] (ag f150)) (SN [.agg [.str [98],.str [97]],.agg [ω 1,ω 1]]) fun e s'=>e= .normal∧∃ a,s'=⟨(fQ 58 59 60 a []),[],.dead,[]⟩:=by
 rw [Zi];refine OJ (σ:=Unit) (b:=0) (ver:=0) (tm:=4) (n:=2) (ks:= [.str [98],.str [97]]) (vs:= [ω 1,ω 1]) (Inv:=fun _ _=>True) (st:=fun _=>I5) (s0:=()) (PostX:=fun _ _=>False)
  rfl rfl rfl rfl rfl rfl rfl rfl rfl rfl rfl rfl (by omega) (by omega) (by omega) (by omega) (by decide) (by decide) afo rfl rfl rfl rfl rfl rfl rfl rfl rfl trivial
  (fun x C h=>by simp [AM.ah] at h) (fun x C h=>by simp [AM.ah] at h) (fun t=> .inl rfl) (fun x B0 C h=>by simp [aF] at h) ?_ (fun a done s _ _=> ⟨rfl,a,rfl⟩) (fun e s' _ h=>h.elim) (fun e s' h=>by obtain ⟨_,a,rfl⟩:=h;rfl)
 intro a done s i k v _ g _ j c;have d:v= ω 1:=by
  match i,g,c with
  |0,_,c=>simp at c;exact c.symm
  |1,_,c=>simp at c;exact c.symm
 subst d;rw [UW];refine oh.block (A:=fun e s'=>e= .normal∧s'=⟨(fQ 58 59 60 a []),[],.dead,[]⟩) ?_ (fun s' h=>by cases h.1) (fun e s' h _=> .inl ⟨h.1,(),trivial,h.2⟩);exact oh.of (hs:= []) rfl rfl rfl (by omega) (by funext b;rfl) rfl (UV f a k) ((UX f a k).any ⟨rfl,rfl⟩ (fun e s' h=>h.2 ▸ rfl))
theorem QV:CO 150 [QZ] (.ret (ω 0)):=by
 refine nI lG 0 (F:=⟨f150,[0,1,2,3,4,6,8,10,11,13,17,18,19,21,22,23,24,29,36,37,38,43,55,58,60,64],false⟩) rfl rfl (fun nt a=> ?_) rfl (Xqr _) (s:=⟨[(2,ω 0)],[],.dead,[]⟩) rfl;have d:ag f150= .seq (dG [0] (ag f150)) (.seq (dG [1,0] (ag f150)) (.seq (dG [1,1,0] (ag f150)) (.seq (dG [1,1,1,0] (ag f150)) (.seq (dG [1,1,1,1,0] (ag f150)) (dG [1,1,1,1,1] (ag f150)))))):=by kernel_rfl
 show ak _ _ _ _ (ag f150) _ _ _;rw [d];refine (abY a).seq ((abZ a).seq ((ab1 a).seq ((ab2 a).seq ?_)));refine (gZ.seq (Post:=fun c b=>c= .ret∧b=⟨[(2,ω 0)],[],.dead,[]⟩) (Zg a) (fun b ⟨_,pt,h⟩=> ?_) (fun e b ⟨h,_⟩ hne=>absurd h hne) (fun c b h=>h.2 ▸ rfl)).one;subst h;exact (Zh a pt).any ⟨rfl,rfl⟩ (fun c b h=>h.2 ▸ rfl)
end Go.Proofs.Tryz
open Go AM Go.RowKit Go.Shelf
namespace Go.Proofs.Tryz
attribute [local go_sem] Oper.semAt_some
theorem nJ {W W':World} (h:Below W.heap.size W W'):ig (bW W) (bW W'):=by
 intro k o v b;have a:=GI b;rw [← b];unfold bW;rw [h.block k a,World.cell?_of_block (h.block k a)]
theorem vK {W W':World} (h:Below W.heap.size W W') (f:kN ap (bW W)):kN ap (bW W'):=by
 intro k d c;obtain ⟨vs,e,b⟩:=f k d c;exact ⟨vs,aV (nJ h) _ e,fun j u a=> ⟨nJ h _ _ _ (b j u a).1,(b j u a).2⟩⟩
theorem aeZ {W:World} (a:kN ap (bW W)) (m:aH):bf ap (aF []) m (bW W) W:=
 ⟨fun b c B B' h=>by simp [aF] at h,fun b B h=>by simp [aF] at h,fun k o v h=>h,fun b B h=>by simp [aF] at h,a⟩
theorem wV {f:Nat} {args:List AV} {g:IntKind} {x:Int} (j:CO f args (.ret (.int g x))) {W:World} (m:kN ap (bW W)) {cargs:List Value} (l:bi (bW W) args cargs) {n:Nat}:
  CallsIn Fence.wide n prog f cargs.toArray W fun e W'=>e= .returned (.int g x)∧Below W.heap.size W W':=by
 refine callsIn_wide.2 ?_;refine (j.calls (fun _=>(0,0)) (bW W) W cargs (aeZ m _) (aZ _ l)).mono ?_
 rintro e W' ⟨m',S',hF⟩
 obtain ⟨_,a,c⟩:=hF;obtain ⟨cv,rfl,d⟩:=c;simp only [ug,VR,PR] at d;subst d;exact ⟨rfl,a.os,a.tape,a.output,a.size,fun k i=>a.rest k i fun b B h=>by simp [aF] at h⟩
theorem Am {W W':World} (h:Below W.heap.size W W') (row:Option Nat):W.grownBy W' row:=
 ⟨h.os,h.tape,h.output,h.size,fun k a _=>h.block k a⟩
def jr (f g:Nat→Int) (k:Nat):List Int:=(Xqd k).flatMap fun j=> [f j,g j]
theorem pM (f g:Nat→Int) (k:Nat):jr f g (k+1)=jr f g k++ [f k]++ [g k]:=by simp [jr,List.range_succ]
theorem pI (f g:Nat→Int) (k:Nat):(jr f g k).length=2*k:=by
 induction k with
 |zero=>rfl
 |succ k ih=>rw [pM];simp [ih];omega
theorem O1 (f g:Nat→Int) {k n:Nat} (h:k≤n):jr f g k<+:jr f g n:=by
 induction n with
 |zero=>
  obtain rfl:k=0:=by omega
  exact Xvo _
 |succ n ih=>
  by_cases hk:k=n+1
  ·subst hk;exact Xvo _
  ·exact (ih (by omega)).trans (by rw [pM,Δ];exact Xzu _ _)
set_option maxRecDepth 100000 in
set_option maxHeartbeats 4000000 in
theorem Kq (n:Nat) (hn:2≤n) (l kn ke ks n₀ b off len cap:Nat) (E SC:AV) (ue us:Value) (ns:Nat→List UInt8) (so sp:Nat→Int) (hreach:len*16≤140737488351232)
  (hso:∀ k,k<len→CO 157 [E,SC,.int .i64 6,.str (ns k)] (.ret (.int .i64 (so k)))) (hsp:∀ k,k<len→CO 157 [E,SC,.int .i64 8,.str (ns k)] (.ret (.int .i64 (sp k))))
  (J Jx:List Int→World→Prop) (W:World) (hAJ:AbidesFrom W.heap.size J)
  (hY:∀ pre x W1,J pre W1→pre.length<2*len→YieldAt Fence.wide (n - 1) prog l #[.int .i64 x] W1 fun e W'=>
   (e= .returned (.bool true)∧J (pre++ [x]) W'∧Below n₀ W1 W')∨(e= .returned (.bool false)∧Jx (pre++ [x]) W'))
  (hn0:n₀≤W.heap.size) (hbn:b<n₀) (hkn:kn<n₀) (hke:ke<n₀) (hks:ks<n₀)
  (w0:World) (hw0:w0.heap.size=n₀) (hW:Below n₀ w0 W) (hg:kN ap (bW w0)) (hpr:bi (bW w0) [E,SC] [ue,us])
  (cn:w0.cell? ⟨kn,0,none⟩=some (.slice (some ⟨b,off,none⟩) len cap)) (ce:w0.cell? ⟨ke,0,none⟩=some ue) (cs:w0.cell? ⟨ks,0,none⟩=some us)
  (hc:∀ j,j<len→w0.cell? ⟨b,off+j,none⟩=some (.string ⟨(ns j).toArray⟩)) (h0:J [] W):
  CallsIn Fence.wide n prog 156 #[.func (.yield l) #[] #[],.pointer (some ⟨kn,0,none⟩),.pointer (some ⟨ke,0,none⟩),.pointer (some ⟨ks,0,none⟩)] W fun e W'=>(∃ v,e= .returned v)∧
   ((∃ ys,ys=jr so sp len∧J ys W')∨(∃ pre,pre<+:jr so sp len∧Jx pre W')):=by
 have kee:∀ (w:World),Below n₀ w0 w→∀ (k j:Nat) (v:Value),k<n₀→w0.cell? ⟨k,j,none⟩=some v→w.cell? ⟨k,j,none⟩=some v:=fun w h k j v hk hv=>(Below.cell h (p:=⟨k,j,none⟩) hk).trans hv
 have cn':=kee _ hW _ _ _ hkn cn;refine callsIn_of_wp Tryz.func156 rfl trivial ?_ rfl;simp only [Tryz.ntmps156,Xqz,Γ,Xqh,Xz6,Xz7,Array.replicate_succ,Array.replicate_zero,Xj9,Xj2,θ,Xqt]
 gi_wp2
 gi_loopw [9] (fun i wr=> ∃ k:Nat,k≤len∧i= .int .i64 k∧J (jr so sp k) wr∧Below n₀ w0 wr∧W.heap.size≤wr.heap.size)
  (fun i _=>len - (intOf i).toNat)
 case atStart=>exact ⟨0,Xqr _,rfl,h0,hW,ζ _⟩
 case round=>
  obtain ⟨k,hk,rfl,hJs,hnx,hsz⟩:=hrel;have hcx:k<len→wr.cell? ⟨b,off+k,none⟩=some (.string ⟨(ns k).toArray⟩):=fun h=>kee _ hnx _ _ _ hbn (hc k h)
  have ce1:=kee _ hnx _ _ _ hke ce;have cs1:=kee _ hnx _ _ _ hks cs;by_cases hlt:k<len
  ·have hcx':=hcx hlt;have bW1:∀ (w:World),Below n₀ w0 w→Below w0.heap.size w0 w:=fun w h=>by rw [hw0];exact h
   have PR4:∀ (w:World) (op:Int),Below n₀ w0 w→bi (bW w) [E,SC,.int .i64 op,.str (ns k)] [ue,us,.int .i64 op,.string ⟨(ns k).toArray⟩]:=fun w op h=>by
    have h2:=aV (nJ (bW1 w h)) _ hpr;simp only [bi,PR] at h2 ⊢;exact ⟨h2.1,h2.2.1,trivial,trivial,trivial⟩
   have LE1:jr so sp len=jr so sp k++ [so k]++ [sp k]++(jr so sp len).drop (2*(k+1)):=by
    rw [← pM];obtain ⟨r,hr⟩:=O1 so sp (show k+1≤len by omega)
    conv=>rhs;rw [← hr]
    rw [List.drop_left' (pI ..)];exact hr.symm
   have hf14:Fence.wide.fn 157:=trivial;have h1n:1≤n:=by omega
   gi_wp2_with (gi_at_call 157;refine (wV (hso k hlt) (vK (bW1 _ hnx) hg) (PR4 _ 6 hnx)).mono ?_;rintro e W1 ⟨rfl,hb1⟩;have hJ1:=hAJ _ _ _ none hJs (Am hb1 none) (fun r e=>by cases e);have hnx1:Below n₀ w0 W1:=hnx.trans (hb1.mono (by omega));obtain ⟨fn,tmps,assign,body,hy,hR⟩:=hY _ (so k) W1 hJ1 (by rw [pI];omega))
   refine hR.mono ?_
   rintro e W3 (⟨rfl,hJ3,hk3⟩|⟨rfl,hJx3⟩)
   ·have hnx3:=hnx1.trans hk3;have ce3:=kee _ hnx3 _ _ _ hke ce;have cs3:=kee _ hnx3 _ _ _ hks cs
    gi_wp2_with (gi_at_call 157;refine (wV (hsp k hlt) (vK (bW1 _ hnx3) hg) (PR4 _ 8 hnx3)).mono ?_;rintro e W4 ⟨rfl,hb4⟩;have hJ4:=hAJ _ _ _ none hJ3 (Am hb4 none) (fun r e=>by cases e);have hnx4:Below n₀ w0 W4:=hnx3.trans (hb4.mono (by rw [← hw0];exact hnx3.size));obtain ⟨fn4,tmps4,assign4,body4,hy4,hR4⟩:=hY _ (sp k) W4 hJ4 (by rw [ξ,pI,List.length_singleton];omega))
    refine hR4.mono ?_
    rintro e W5 (⟨rfl,hJ5,hk5⟩|⟨rfl,hJx5⟩)
    ·gi_wp2
     go_roundw
     case rel=>exact ⟨k+1,by omega,by simp,by rw [pM];exact hJ5,hnx4.trans hk5,by have:=hb1.size;have:=hk3.size;have:=hb4.size;have:=hk5.size;omega⟩
     case measure=>simp [intOf];omega
    ·gi_wp2
     refine bodyPost_ret (results_none rfl _ _ _) rfl ?_;exact ⟨⟨_,rfl⟩,.inr ⟨_,by rw [LE1];exact Xzu _ _,hJx5⟩⟩
   ·gi_wp2_with (refine ⟨fun _ _=>trivial, ?_⟩)
    refine bodyPost_ret (results_none rfl _ _ _) rfl ?_;exact ⟨⟨_,rfl⟩,.inr ⟨_,by rw [LE1,Δ];exact Xzu _ _,hJx3⟩⟩
  ·obtain rfl:k=len:=by omega
   gi_wp2
   go_end0
   exact ⟨⟨_,rfl⟩,.inl ⟨_,rfl,hJs⟩⟩
attribute [local go_sem] Oper.semAt_some
theorem OU (a1 a2 a3:Option Addr) (l1 l2 l3 c1 c2 c3:Nat) (n:Nat) (w:World):
  CallsIn Fence.wide n prog 112 #[.slice a1 l1 c1,.slice a2 l2 c2,.slice a3 l3 c3] w fun e w'=>e= .returned (.func (.func 156) #[] #[.pointer (some ⟨w.heap.size+2,0,none⟩),.pointer (some ⟨w.heap.size,0,none⟩),.pointer (some ⟨w.heap.size+1,0,none⟩)])∧w'=((w.alloc (.cells #[.slice a1 l1 c1] 54)).alloc (.cells #[.slice a2 l2 c2] 30)).alloc (.cells #[.slice a3 l3 c3] 135):=by
 refine callsIn_of_wp Tryz.func112 rfl trivial ?_ rfl;simp only [Tryz.ntmps112,Xqz,Γ,Xqh,Xz6,Xz7,Array.replicate_succ,Array.replicate_zero,Xj9,Xj2,θ,Xqt]
 gi_wp2
 go_ret
 refine ⟨?_,rfl⟩;simp
theorem WH {w:World} {tmps:Array Value} {k:Nat} {b:Bool} (d:tmps.getD 6 undef= .pointer (some ⟨k,0,none⟩)) (e:w.cell? ⟨k,0,none⟩=some (.bool b)):(results f68 tmps).run prog w= .ok (.bool b) w:=by
 refine jW (vs:= [.bool b]) rfl ?_;intro i r v c a
 match i with
 | 0=>
  simp only [List.getElem?_cons_zero,Option.some.injEq] at a;subst a;have:r= .cell 6 4:=by
   have h0:f68.results.toList[0]? =some (.cell 6 4):=rfl;rw [h0] at c;exact (Option.some.inj c).symm
  subst this;have f:prog.underlying 4=some .bool:=by kernel_rfl
  simp only [Es,d];simp [asAddr,loadVar,f,e,go_sem]
 |n+1=>simp at a
attribute [local go_sem] Oper.semAt_some
set_option maxRecDepth 100000 in
set_option maxHeartbeats 1000000 in
theorem IQ (n:Nat) (l kn ke ks cap:Nat) (an:Option Addr) (so sp:Nat→Int) (J Jx:List Int→World→Prop) (W:World) (cn:W.cell? ⟨kn,0,none⟩=some (.slice an 0 cap)) (h0:J [] W):
  CallsIn Fence.wide n prog 156 #[.func (.yield l) #[] #[],.pointer (some ⟨kn,0,none⟩),.pointer (some ⟨ke,0,none⟩),.pointer (some ⟨ks,0,none⟩)] W fun e W'=>(∃ v,e= .returned v)∧
   ((∃ ys,ys=jr so sp 0∧J ys W')∨(∃ pre,pre<+:jr so sp 0∧Jx pre W')):=by
 refine callsIn_of_wp Tryz.func156 rfl trivial ?_ rfl;simp only [Tryz.ntmps156,Xqz,Γ,Xqh,Xz6,Xz7,Array.replicate_succ,Array.replicate_zero,Xj9,Xj2,θ,Xqt]
 gi_wp2
 gi_loopw [9] (fun i wr=>i= .int .i64 0∧J [] wr) (fun _ _=>0)
 case atStart=>exact ⟨rfl,h0⟩
 case round=>
  obtain ⟨rfl,hJs⟩:=hrel
  gi_wp2
  go_end0
  exact ⟨⟨_,rfl⟩,.inl ⟨_,rfl,hJs⟩⟩
theorem Gg (n:Nat) (A:2≤n) (kn f ks b d c:Nat) (t:Option Addr) (E SC:AV) (q us:Value) (a:List (List UInt8)) (i m:List UInt8→Int) (hreach:a.length*16≤140737488351232)
  (hso:∀ s ∈ a,CO 157 [E,SC,.int .i64 6,.str s] (.ret (.int .i64 (i s)))) (hsp:∀ s ∈ a,CO 157 [E,SC,.int .i64 8,.str s] (.ret (.int .i64 (m s))))
  (w:World) (hg:kN ap (bW w)) (hpr:bi (bW w) [E,SC] [q,us]) (hkn:kn<w.heap.size) (hke:f<w.heap.size) (hks:ks<w.heap.size)
  (cn:w.cell? ⟨kn,0,none⟩=some (.slice t a.length c)) (ce:w.cell? ⟨f,0,none⟩=some q) (cs:w.cell? ⟨ks,0,none⟩=some us)
  (hc:0<a.length→t=some ⟨b,d,none⟩∧b<w.heap.size∧∀ j,j<a.length→w.cell? ⟨b,d+j,none⟩=some (.string ⟨((a[j]?).getD []).toArray⟩)):
  SeqStopsK Fence.wide n prog 156 #[.pointer (some ⟨kn,0,none⟩),.pointer (some ⟨f,0,none⟩),.pointer (some ⟨ks,0,none⟩)] (fun x:Int=> #[Value.int .i64 x]) (Below w.heap.size)
   (fun y=>y=jr (fun k=>i ((a[k]?).getD [])) (fun k=>m ((a[k]?).getD [])) a.length) (fun g=>g<+:jr (fun k=>i ((a[k]?).getD [])) (fun k=>m ((a[k]?).getD [])) a.length) (2*a.length) w:=by
 intro l J Jx W o v _ z h0;have hm:∀ k,k<a.length→(a[k]?).getD [] ∈ a:=fun k e=>by rw [ν e];exact Xx1 e
 by_cases h:0<a.length
 ·obtain ⟨rfl,B,r⟩:=hc h;exact Kq n A l kn f ks w.heap.size b d a.length c E SC q us (fun k=>(a[k]?).getD []) _ _ hreach (fun k e=>hso _ (hm k e)) (fun k e=>hsp _ (hm k e)) J Jx W v z o.size B hkn hke hks w rfl o hg hpr cn ce cs r h0
 ·have u:a.length=0:=by omega
  rw [u] at cn ⊢;exact IQ n l kn f ks c t _ _ J Jx W ((o.cell (p:=⟨kn,0,none⟩) hkn).trans cn) h0
set_option maxRecDepth 100000 in
set_option maxHeartbeats 2000000 in
theorem J7 (E SC:AV) (hck:CO 111 [E] (.ret (.int .i64 0))) (ns:List (List UInt8)) (so sp:List UInt8→Int) (hreach:ns.length*16≤140737488351232)
  (hso:∀ s ∈ ns,CO 157 [E,SC,.int .i64 6,.str s] (.ret (.int .i64 (so s)))) (hsp:∀ s ∈ ns,CO 157 [E,SC,.int .i64 8,.str s] (.ret (.int .i64 (sp s)))) (n:Nat) (hn:4≤n)
  (a1 a2 an:Option Addr) (l1 l2 c1 c2 cap b off:Nat) (w:World) (hg:kN ap (bW w)) (hpr:bi (bW w) [E,SC] [.slice a1 l1 c1,.slice a2 l2 c2])
  (hc:0<ns.length→an=some ⟨b,off,none⟩∧∀ j,j<ns.length→w.cell? ⟨b,off+j,none⟩=some (.string ⟨((ns[j]?).getD []).toArray⟩)):
  CallsIn Fence.wide n prog 68 #[.slice a1 l1 c1,.slice a2 l2 c2,.slice an ns.length cap] w fun e w'=>e= .returned (.bool ((jr (fun k=>so ((ns[k]?).getD [])) (fun k=>sp ((ns[k]?).getD [])) ns.length).all fun x=>decide (x≤1)))∧Below w.heap.size w w':=by
 have h21:Fence.wide.fn 111:=trivial;have h47:Fence.wide.fn 112:=trivial;have h1n:1≤n:=by omega
 have ha:Below w.heap.size w (w.alloc (.cells #[.bool false] 4)):=(Below.refl _ w).alloc (ζ _) _;have hpe:bi (bW w) [E] [.slice a1 l1 c1]:=by simp only [bi] at hpr ⊢;exact ⟨hpr.1,trivial⟩
 refine callsIn_of_wp_marks Tryz.func68 rfl trivial ?_ rfl;simp only [Tryz.ntmps68,Xqz,Γ,Xqh,Xz6,Xz7,Array.replicate_succ,Array.replicate_zero,Xj9,Xj2,θ,Xqt]
 gi_wp2_with (first
  |(gi_at_call 111;refine (wV hck (vK ha hg) (aV (nJ ha) _ hpe)).mono ?_;rintro e W1 ⟨rfl,hb1⟩)
  |(gi_at_call 112;refine (OU a1 a2 an l1 l2 ns.length c1 c2 cap _ _).mono ?_;rintro e W2 ⟨rfl,rfl⟩)
  |gi_in)
 obtain ⟨W3,hW3⟩:∃ W3,((W1.alloc (.cells #[.slice a1 l1 c1] 54)).alloc (.cells #[.slice a2 l2 c2] 30)).alloc (.cells #[.slice an ns.length cap] 135)=W3:=⟨_,rfl⟩
 rw [hW3];have hs3:W3.heap.size=W1.heap.size+3:=by rw [← hW3];simp
 have hb3:Below W1.heap.size W1 W3:=by rw [← hW3];exact (((Below.refl _ W1).alloc (ζ _) _).alloc (by simp) _).alloc (by simp;omega) _
 have hs1:w.heap.size+1≤W1.heap.size:=by have:=hb1.size;simpa using this
 have hwW1:Below w.heap.size w W1:=ha.trans (hb1.mono (by simp));have hw3:Below w.heap.size w W3:=hwW1.trans (hb3.mono (by omega));have k1:W3.cell? ⟨W1.heap.size,0,none⟩=some (.slice a1 l1 c1):=by rw [← hW3];exact (((Boxed.new W1 54 (.slice a1 l1 c1)).alloc _).alloc _).cell
 have k2:W3.cell? ⟨W1.heap.size+1,0,none⟩=some (.slice a2 l2 c2):=by
  have:=((Boxed.new (W1.alloc (.cells #[.slice a1 l1 c1] 54)) 30 (.slice a2 l2 c2)).alloc (.cells #[.slice an ns.length cap] 135)).cell;rw [World.size_alloc] at this;rw [← hW3];exact this
 have k3:W3.cell? ⟨W1.heap.size+2,0,none⟩=some (.slice an ns.length cap):=by
  have:=(Boxed.new ((W1.alloc (.cells #[.slice a1 l1 c1] 54)).alloc (.cells #[.slice a2 l2 c2] 30)) 135 (.slice an ns.length cap)).cell;rw [World.size_alloc,World.size_alloc] at this;rw [← hW3];exact this
 have kc:W3.cell? ⟨w.heap.size,0,none⟩=some (.bool false):=((hb3.cell (p:=⟨w.heap.size,0,none⟩) hs1).trans (hb1.cell (p:=⟨w.heap.size,0,none⟩) (by simp))).trans (Boxed.new w 4 (.bool false)).cell;have kf:W3.frozen? ⟨w.heap.size,0,none⟩=false:=((hb3.frozen (p:=⟨w.heap.size,0,none⟩) hs1).trans (hb1.frozen (p:=⟨w.heap.size,0,none⟩) (by simp))).trans (Boxed.new w 4 (.bool false)).frozen;have hc3:0<ns.length→an=some ⟨b,off,none⟩∧b<W3.heap.size∧∀ j,j<ns.length→W3.cell? ⟨b,off+j,none⟩=some (.string ⟨((ns[j]?).getD []).toArray⟩):=by
  intro h;obtain ⟨h1,h2⟩:=hc h;have hbl:b<w.heap.size:=World.block_lt_of_cell? w ⟨b,off+0,none⟩ (h2 0 h);exact ⟨h1,by omega,fun j hj=>(hw3.cell (p:=⟨b,off+j,none⟩) hbl).trans (h2 j hj)⟩
 have oB:∀ {A B:World} {row:Option Nat},Below w.heap.size w A→A.grownBy B row→(∀ r,row=some r→W3.heap.size≤r∧∃ o:Obj,A.heap[r]? =some o∧o.isCells=false)→Below w.heap.size w B:=
  fun h hg hr=>ownFrom_below (β:=Unit) (n₀:=w.heap.size) (B:=W3.heap.size) (w₀:=w) (ζ _) hw3.size () _ _ _ h hg hr
 have oC:∀ {A:World} {D:Nat} {o:Obj} {v:Value},W3.heap.size≤D→A.cell? ⟨w.heap.size,0,none⟩=some v→(A.putObj D o).cell? ⟨w.heap.size,0,none⟩=some v:=
  fun {A D o v} hD hv=>(World.cell?_of_block (World.putObj_heap_other (show w.heap.size ≠ D by omega))).trans hv
 have pB:∀ {A:World} {D:Nat} {o:Obj},W3.heap.size≤D→Below w.heap.size w A→Below w.heap.size w (A.putObj D o):=
  fun {A D o} hD h=>h.trans ((Below.refl _ A).grown (grownBy_putObj' A D o) h.size (fun k e=>by cases e;omega))
 refine wpIn_rangeFunc_ownF rfl h1n (gf:=156) (lb:=#[.pointer (some ⟨W1.heap.size+2,0,none⟩),.pointer (some ⟨W1.heap.size,0,none⟩),.pointer (some ⟨W1.heap.size+1,0,none⟩)]) rfl trivial (enters_of Tryz.func156 (by kernel_rfl) rfl)
  (Gg (n - 1) (by omega) (W1.heap.size+2) W1.heap.size (W1.heap.size+1) b off cap an E SC _ _ ns so sp hreach hso hsp W3 (vK hw3 hg) (aV (nJ hw3) _ hpr) (by omega) (by omega) (by omega) k3 k1 k2 hc3)
  (fun h k=>h.trans k) (fun W l o o' hl h hc hw=>belowK_b (ζ _) W l o o' hl h hc hw) (Below.refl _ _) (fun _=>rfl)
  (fun pre W=>(∀ x ∈ pre,x≤1)∧W.cell? ⟨w.heap.size,0,none⟩=some (.bool false)∧W.frozen? ⟨w.heap.size,0,none⟩=false∧Below w.heap.size w W)
  (fun c pre W=>c= .ret∧(∃ x ∈ pre,¬ x≤1)∧W.cell? ⟨w.heap.size,0,none⟩=some (.bool false)∧Below w.heap.size w W)
  (fun s A B row hs hg hr=> ⟨hs.1,cell_kept hs.2.1 hg (fun r e=>(hr r e).2),(frozen_kept hs.2.1 hg (fun r e=>(hr r e).2)).trans hs.2.2.1,oB hs.2.2.2 hg hr⟩)
  (fun c s A B row hs hg hr=> ⟨hs.1,hs.2.1,cell_kept hs.2.2.1 hg (fun r e=>(hr r e).2),oB hs.2.2.2 hg hr⟩)
  ⟨by simp,kc,kf,hw3⟩
  (fun x=> {tmps:=#[.slice a1 l1 c1,.slice a2 l2 c2,.slice an ns.length cap,undef,undef,undef,.pointer (some ⟨w.heap.size,0,none⟩),.int .i64 x,.slice a1 l1 c1,.int .i64 0,.bool false,.slice a1 l1 c1,.slice a2 l2 c2,.slice an ns.length cap,.func (.func 156) #[] #[.pointer (some ⟨W1.heap.size+2,0,none⟩),.pointer (some ⟨W1.heap.size,0,none⟩),.pointer (some ⟨W1.heap.size+1,0,none⟩)],.int .i64 x,undef,undef],defers:= []}) ?assign ?body ?done ?stop
 case assign=>
  intro l x W K hK
  gi_wp2
  exact hK
 case body=>
  rintro l pre x W ⟨hp,hcW,hfW,hbW⟩ _
  by_cases hx:x≤1
  ·have hx1:¬ (1<x):=by omega
   gi_wp2
   exact ⟨KeepsOthers.refl _,Below.refl _ _,(fun y hy=>by rcases List.mem_append.1 hy with h|h;exact hp y h;rw [List.mem_singleton.1 h];exact hx),hcW,hfW,hbW⟩
  ·have hx1:1<x:=by omega
   gi_wp2
   exact ⟨KeepsOthers.setCell _ _ _,rfl,⟨x,by simp,hx⟩,World.cell?_setCell_same' _ _ _ (by rw [hcW];rfl),hbW.setCell (p:=⟨w.heap.size,0,none⟩) (ζ _) _⟩
 case done=>
  rintro D xs W hD rfl ⟨hp,hcW,hfW,hbW⟩ hK
  gi_wp2
  have hK':(W.setCell ⟨w.heap.size,0,none⟩ (.bool true)).heap[D]? =some (.deferred (some [])):=(Below.heap_setCell W ⟨w.heap.size,0,none⟩ (.bool true) D (by show D ≠ w.heap.size;omega)).trans hK;refine ⟨by simp,.inl ⟨_,_,rfl,run_takeDeferred hK', ?_⟩⟩;refine ⟨_,WH rfl (oC hD (World.cell?_setCell_same' _ _ _ (by rw [hcW];rfl))), ?_,pB hD (hbW.setCell (p:=⟨w.heap.size,0,none⟩) (ζ _) _)⟩;congr 2;exact (List.all_eq_true.2 fun x hx=>Yq0 (hp x hx)).symm
 case stop=>
  rintro D c pre W hD hSp ⟨rfl,⟨x,hx,hx1⟩,hcW,hbW⟩ hK
  gi_wp2
  refine ⟨by simp,.inl ⟨_,_,rfl,run_takeDeferred hK, ?_⟩⟩;refine ⟨_,WH rfl (oC hD hcW), ?_,pB hD hbW⟩;congr 2;obtain ⟨r,hr⟩:=hSp;symm;rw [Bool.eq_false_iff];intro h;rw [← hr] at h;have h2:=of_decide_eq_true (List.all_eq_true.1 h x (List.mem_append.2 (.inl hx)));omega
def Om (x:AV):Prop:=x= .nilS∨∃ l n b,x= .sl l n b
theorem Om.val {S:az} {x:AV} {v:Value} (h:Om x) (d:PR S x v):∃ a l c,v= .slice a l c:=by
 rcases h with rfl|⟨l,n,b,rfl⟩
 ·simp only [PR] at d;exact ⟨_,_,_,d⟩
 ·simp only [PR] at d;obtain ⟨a,e,rfl,_⟩:=d;exact ⟨_,_,_,rfl⟩
def S_ (ns:List (List UInt8)) (b:Bool):AV:= .sl (ns.map .str) ns.length b
theorem Tc {S:az} {e:List (List UInt8)} {b:Bool} {v:Value} (f:PR S (S_ e b) v):∃ an c k d,v= .slice an e.length c∧(0<e.length→an=some ⟨k,d,none⟩∧∀ j,j<e.length→S k (d+j)=some (.string ⟨((e[j]?).getD []).toArray⟩)):=by
 simp only [S_,PR] at f;obtain ⟨a,c,rfl,_,h⟩:=f;rcases h with ⟨_,_,h,_⟩|⟨k,d,vs,rfl,g,m⟩
 ·exact ⟨a,c,0,0,rfl,fun n=>absurd h (by omega)⟩
 ·refine ⟨_,c,k,d,rfl,fun _=> ⟨rfl,fun j l=> ?_⟩⟩;obtain ⟨u,i,hp⟩:=Kz g j (x:= .str ((e[j]?).getD [])) (by rw [List.getElem?_map,ν l];rfl);simp only [PR] at hp;rw [← hp];exact (m j u i).1
theorem aaB:ql prog 68:=enters_of Tryz.func68 (by kernel_rfl) rfl
theorem J6 {args:List AV} {b:Bool} (h:∀ w cargs,kN ap (bW w)→bi (bW w) args cargs→CallsIn Fence.wide 9 prog 68 cargs.toArray w fun e w'=>e= .returned (.bool b)∧Below w.heap.size w w'):CO 68 args (.ret (.bool b)):=by
 refine ⟨ζ _,aaB, ?_⟩;intro m S w cargs d l;have a:ig S (bW w):=fun k o v c=>d.sealed k o v c
 have p:kN ap (bW w):=by
  intro k n c;obtain ⟨vs,i,g⟩:=d.glob k n c;exact ⟨vs,aV a _ i,fun j u f=> ⟨a _ _ _ (g j u f).1,(g j u f).2⟩⟩
 refine (callsIn_wide.1 (h w cargs p (aV a _ (iV (m:=m) _ l)))).mono ?_
 rintro e w' ⟨rfl,hb⟩
 refine ⟨m,S, ?_, ?_,⟨_,rfl, ?_⟩⟩
 ·exact ⟨fun b q B B' h=>by simp [aF,iE,iR] at h,fun b B h=>by simp [aF,iE,iR] at h,fun k o v h=>nJ hb k o v (a k o v h),fun b B h=>by simp [aF,iE,iR] at h,d.glob⟩
 ·exact ⟨Ge.refl _ _,ig.refl S,hb.os,hb.tape,hb.output,hb.size,fun k c _=>hb.block k c,fun _ B h=>by simp [aF,iE,iR] at h,fun _ _ _ h=> .inl h,fun _ B h=>by simp [aF,iE,iR] at h⟩
 ·simp only [ug,VR,PR]
theorem BR (E SC:AV) (b:Bool) (F:Om E) (n:Om SC) (p:CO 111 [E] (.ret (ω 0))) (a:List (List UInt8)) (c d:List UInt8→Int) (hreach:a.length*16≤140737488351232)
  (hso:∀ s ∈ a,CO 157 [E,SC,ω 6,.str s] (.ret (ω (c s)))) (hsp:∀ s ∈ a,CO 157 [E,SC,ω 8,.str s] (.ret (ω (d s)))):
  CO 68 [E,SC,S_ a b] (.ret (.bool (a.all fun s=>decide (c s≤1) && decide (d s≤1)))):=by
 have e:(a.all fun s=>decide (c s≤1) && decide (d s≤1))=(jr (fun k=>c ((a[k]?).getD [])) (fun k=>d ((a[k]?).getD [])) a.length).all fun x=>decide (x≤1):=by
  have:a=(Xqd a.length).map fun k=>(a[k]?).getD []:=by
   apply List.ext_getElem
   ·simp
   ·intro i f o;simp [ν f]
  conv=>lhs;rw [this]
  simp [jr,List.all_flatMap,List.all_map,Function.comp_def]
 rw [e];refine J6 fun w cargs v g=> ?_
 match cargs,g with
 | [ue,us,un],g=>
  simp only [bi] at g;obtain ⟨f,o,B,_⟩:=g;obtain ⟨y,D,z,rfl⟩:=F.val f;obtain ⟨A,t,C,rfl⟩:=n.val o;obtain ⟨u,l,k,m,rfl,q⟩:=Tc B;exact J7 E SC p a c d hreach hso hsp 9 (by omega) y A u D t z C l k m w v (by simp only [bi];exact ⟨f,o,trivial⟩) fun h=> ⟨(q h).1,fun j r=>rF ((q h).2 j r) rfl⟩
def ay:List Nat:= [13,16,18,22,26,32,34,35,48,49,50,65,68,72,73,74,75,76,77,99,110,111,116,117,118,120,150,157,161,164,167,168,170,173,193,204,225,227,228,229,239,240,250,263,269,315,349]
theorem ZO (a:List AV) (n:Nat) (b:Bool):Om (.sl a n b):= .inr ⟨_,_,_,rfl⟩
theorem ZN:Om .nilS:= .inl rfl
def wz:Lw:=⟨[],0,[],0,[⟨[97],false,1,0,[⟨1,false,[1],[1],[]⟩],false,false,[],[],false,[],[]⟩,⟨[98],false,1,0,[⟨6,false,[],[],[97]⟩,⟨8,false,[],[],[99]⟩,⟨9,false,[],[],[]⟩],false,false,[],[],false,[],[]⟩,⟨[99],false,1,0,[⟨6,false,[],[],[98]⟩],false,false,[],[],false,[],[]⟩,⟨[100],false,1,0,[⟨6,false,[],[],[100]⟩],false,false,[],[],false,[],[]⟩]⟩
theorem SE:bF (.agg [.nilS,.nilS,.sl [.str [97],.bool false,ω 1,ω 0,.sl zcc3_6 1 true,.bool false,.bool false,.str [],.str [],.bool false,.str [],.str [],.str [98],.bool false,ω 1,ω 0,.sl zcc3_1 3 true,.bool false,.bool false,.str [],.str [],.bool false,.str [],.str [],.str [99],.bool false,ω 1,ω 0,.sl zcc3_7 1 true,.bool false,.bool false,.str [],.str [],.bool false,.str [],.str [],.str [100],.bool false,ω 1,ω 0,.sl zcc3_4 1 true,.bool false,.bool false,.str [],.str [],.bool false,.str [],.str []] 4 true]) (.agg (wz.c false false true)):=bF.agg (.cons (bF.nilS false rfl) (.cons (bF.nilS false rfl) (.cons (bF.slP (.same (.same (.same (.same (.sl (.same (.same (.same (.same (.same (.same (.same (.same (.same (.same (.same (.sl (.same (.same (.same (.same (.same (.same (.same (.same (.same (.same (.same (.sl (.same (.same (.same (.same (.same (.same (.same (.same (.same (.same (.same (.sl (.same (.same (.same (.same (.same (.same (.same (.nil)))))))))))))))))))))))))))))))))))))))))))))))))) .nil)))
theorem SG:CP wz:=⟨by decide,fun p hp=>by
 simp only [wz,Xqs,Xq7,or_false] at hp;rcases hp with rfl|rfl|rfl|rfl<;>exact ⟨by decide,fun s w=>Xqg (List.length_filterMap_le _ _) (by decide)⟩⟩
theorem dn:CO 65 [ω 1] (.ret (.str [1])):=cD ay (.nil)
theorem WV:CO 16 [.agg [.nilS,.nilS,.sl [.str [97],.bool false,ω 1,ω 0,.sl zcc3_6 1 true,.bool false,.bool false,.str [],.str [],.bool false,.str [],.str [],.str [98],.bool false,ω 1,ω 0,.sl zcc3_1 3 true,.bool false,.bool false,.str [],.str [],.bool false,.str [],.str [],.str [99],.bool false,ω 1,ω 0,.sl zcc3_7 1 true,.bool false,.bool false,.str [],.str [],.bool false,.str [],.str [],.str [100],.bool false,ω 1,ω 0,.sl zcc3_4 1 true,.bool false,.bool false,.str [],.str [],.bool false,.str [],.str []] 4 true],ω 1,.agg [ω 0,ω 1]] (.ret (.own [ω 0,ω 0] 1 2)):=cD ay (.nil)
theorem WX:CO 16 [.agg [.nilS,.nilS,.sl [.str [97],.bool false,ω 1,ω 0,.sl zcc3_6 1 true,.bool false,.bool false,.str [],.str [],.bool false,.str [],.str [],.str [98],.bool false,ω 1,ω 0,.sl zcc3_1 3 true,.bool false,.bool false,.str [],.str [],.bool false,.str [],.str [],.str [99],.bool false,ω 1,ω 0,.sl zcc3_7 1 true,.bool false,.bool false,.str [],.str [],.bool false,.str [],.str [],.str [100],.bool false,ω 1,ω 0,.sl zcc3_4 1 true,.bool false,.bool false,.str [],.str [],.bool false,.str [],.str []] 4 true],ω 2,.agg [ω 0,ω 1]] (.ret (.own [ω 0,ω 0,ω 1,ω 2] 2 2)):=cD ay (.nil)
theorem WZ:CO 16 [.agg [.nilS,.nilS,.sl [.str [97],.bool false,ω 1,ω 0,.sl zcc3_6 1 true,.bool false,.bool false,.str [],.str [],.bool false,.str [],.str [],.str [98],.bool false,ω 1,ω 0,.sl zcc3_1 3 true,.bool false,.bool false,.str [],.str [],.bool false,.str [],.str [],.str [99],.bool false,ω 1,ω 0,.sl zcc3_7 1 true,.bool false,.bool false,.str [],.str [],.bool false,.str [],.str [],.str [100],.bool false,ω 1,ω 0,.sl zcc3_4 1 true,.bool false,.bool false,.str [],.str [],.bool false,.str [],.str []] 4 true],ω 2,.agg [ω 1,ω 1]] (.ret (.own [ω 0,ω 2,ω 1,ω 0] 2 2)):=cD ay (.nil)
theorem Si:CO 49 [.agg [.nilS,.nilS,.sl [.str [97],.bool false,ω 1,ω 0,.sl zcc3_6 1 true,.bool false,.bool false,.str [],.str [],.bool false,.str [],.str [],.str [98],.bool false,ω 1,ω 0,.sl zcc3_1 3 true,.bool false,.bool false,.str [],.str [],.bool false,.str [],.str [],.str [99],.bool false,ω 1,ω 0,.sl zcc3_7 1 true,.bool false,.bool false,.str [],.str [],.bool false,.str [],.str [],.str [100],.bool false,ω 1,ω 0,.sl zcc3_4 1 true,.bool false,.bool false,.str [],.str [],.bool false,.str [],.str []] 4 true],ω 1] (.ret (.own zcc3_2 4 2)):=cD ay (.nil)
theorem Xa:CO 16 [.agg [.nilS,.nilS,.sl [.str [97],.bool false,ω 1,ω 0,.sl zcc3_6 1 true,.bool false,.bool false,.str [],.str [],.bool false,.str [],.str [],.str [98],.bool false,ω 1,ω 0,.sl zcc3_1 3 true,.bool false,.bool false,.str [],.str [],.bool false,.str [],.str [],.str [99],.bool false,ω 1,ω 0,.sl zcc3_7 1 true,.bool false,.bool false,.str [],.str [],.bool false,.str [],.str [],.str [100],.bool false,ω 1,ω 0,.sl zcc3_4 1 true,.bool false,.bool false,.str [],.str [],.bool false,.str [],.str []] 4 true],ω 1,.agg [ω 0,ω 0]] (.ret (.nilS)):=cD ay (.nil)
theorem Xb:CO 16 [.agg [.nilS,.nilS,.sl [.str [97],.bool false,ω 1,ω 0,.sl zcc3_6 1 true,.bool false,.bool false,.str [],.str [],.bool false,.str [],.str [],.str [98],.bool false,ω 1,ω 0,.sl zcc3_1 3 true,.bool false,.bool false,.str [],.str [],.bool false,.str [],.str [],.str [99],.bool false,ω 1,ω 0,.sl zcc3_7 1 true,.bool false,.bool false,.str [],.str [],.bool false,.str [],.str [],.str [100],.bool false,ω 1,ω 0,.sl zcc3_4 1 true,.bool false,.bool false,.str [],.str [],.bool false,.str [],.str []] 4 true],ω 1,.agg [ω 0,ω 2]] (.ret (.own [ω 0,ω 1] 1 2)):=cD ay (.nil)
theorem Xc:CO 16 [.agg [.nilS,.nilS,.sl [.str [97],.bool false,ω 1,ω 0,.sl zcc3_6 1 true,.bool false,.bool false,.str [],.str [],.bool false,.str [],.str [],.str [98],.bool false,ω 1,ω 0,.sl zcc3_1 3 true,.bool false,.bool false,.str [],.str [],.bool false,.str [],.str [],.str [99],.bool false,ω 1,ω 0,.sl zcc3_7 1 true,.bool false,.bool false,.str [],.str [],.bool false,.str [],.str [],.str [100],.bool false,ω 1,ω 0,.sl zcc3_4 1 true,.bool false,.bool false,.str [],.str [],.bool false,.str [],.str []] 4 true],ω 1,.agg [ω 0,ω 3]] (.ret (.own [ω 0,ω 3] 1 2)):=cD ay (.nil)
theorem Xd:af prog ap 48 [.mp [.agg [ω 0,ω 0],.agg [ω 0,ω 1],.agg [ω 0,ω 2],.agg [ω 0,ω 3]] [.nilS,.sl [ω 0,ω 0] 1 true,.sl [ω 0,ω 1] 1 true,.sl [ω 0,ω 3] 1 true],.ref 0 0 0 4] [⟨zcc3_2,0,false,0,2,true⟩] (.ret (.sl [.bool false,.sl [ω 0,ω 0] 1 true,.bool false,.sl [ω 0,ω 1] 1 true,.bool false,.sl [ω 0,ω 2] 1 true,.bool true,.sl [ω 0,ω 3] 1 true] 4 true)) [⟨zcc3_2,0,false,0,2,true⟩]:=cD ay (.nil)
theorem yC:af prog ap 50 [.ifc 99 (.ptr 0 0 0),.ifc 66 (.agg [.bool false,.sl [ω 0,ω 0] 1 false])] [⟨[.nilS,.ifc 101 (.agg [])],0,false,0,0,true⟩] (.ret (.tup [])) [⟨[.ref 1 0 0 1,.ifc 101 (.agg [])],0,false,0,0,false⟩,⟨[.bool false,.sl [ω 0,ω 0] 1 false],0,false,0,2,true⟩]:=cD ay (.nil)
theorem Xe:af prog ap 50 [.ifc 99 (.ptr 0 0 0),.ifc 66 (.agg [.bool true,.sl [ω 0,ω 3] 1 false])] [⟨[.ref 1 0 0 1,.ifc 101 (.agg [])],0,false,0,0,false⟩,⟨[.bool false,.sl [ω 0,ω 0] 1 false],0,false,0,2,true⟩] (.ret (.tup [])) [⟨[.ref 1 1 0 2,.ifc 101 (.agg [])],0,false,0,0,false⟩,⟨[.bool false,.sl [ω 0,ω 0] 1 false,.bool true,.sl [ω 0,ω 3] 1 false],1,false,0,2,true⟩]:=cD ay (.nil)
theorem Xf:af prog ap 99 [.ifc 99 (.ptr 0 0 0),ω 0,ω 1] [⟨[.ref 1 0 0 2,.ifc 101 (.agg [])],0,false,0,0,false⟩,⟨[.bool true,.sl [ω 0,ω 3] 1 false,.bool false,.sl [ω 0,ω 0] 1 false],0,false,0,2,true⟩] (.ret (.bool false)) [⟨[.ref 1 0 0 2,.ifc 101 (.agg [])],0,false,0,0,false⟩,⟨[.bool true,.sl [ω 0,ω 3] 1 false,.bool false,.sl [ω 0,ω 0] 1 false],0,false,0,2,true⟩]:=cD ay (.nil)
theorem Xg:af prog ap 349 [.ptr 0 0 0] [⟨[.ref 1 0 0 2,.ifc 101 (.agg [])],0,false,0,0,false⟩,⟨[.bool true,.sl [ω 0,ω 3] 1 false,.bool false,.sl [ω 0,ω 0] 1 false],0,false,0,2,true⟩] (.ret (.ifc 66 (.agg [.bool false,.sl [ω 0,ω 0] 1 false]))) [⟨[.ref 1 0 0 1,.ifc 101 (.agg [])],0,false,0,0,false⟩,⟨[.bool true,.sl [ω 0,ω 3] 1 false,.bool false,.sl [ω 0,ω 0] 1 false],0,false,0,2,true⟩]:=cD ay (.nil)
theorem Xh:af prog ap 50 [.ifc 99 (.ptr 0 0 0),.ifc 66 (.agg [.bool false,.sl [ω 0,ω 1] 1 false])] [⟨[.ref 1 0 0 1,.ifc 101 (.agg [])],0,false,0,0,false⟩,⟨[.bool true,.sl [ω 0,ω 3] 1 false,.bool false,.sl [ω 0,ω 0] 1 false],0,false,0,2,true⟩] (.ret (.tup [])) [⟨[.ref 1 1 0 2,.ifc 101 (.agg [])],0,false,0,0,false⟩,⟨[.bool false,.sl [ω 0,ω 1] 1 false,.bool true,.sl [ω 0,ω 3] 1 false],1,false,0,2,true⟩]:=cD ay (.nil)
theorem Xi:af prog ap 99 [.ifc 99 (.ptr 0 0 0),ω 0,ω 1] [⟨[.ref 1 0 0 2,.ifc 101 (.agg [])],0,false,0,0,false⟩,⟨[.bool true,.sl [ω 0,ω 3] 1 false,.bool false,.sl [ω 0,ω 1] 1 false],0,false,0,2,true⟩] (.ret (.bool false)) [⟨[.ref 1 0 0 2,.ifc 101 (.agg [])],0,false,0,0,false⟩,⟨[.bool true,.sl [ω 0,ω 3] 1 false,.bool false,.sl [ω 0,ω 1] 1 false],0,false,0,2,true⟩]:=cD ay (.nil)
theorem Xj:af prog ap 349 [.ptr 0 0 0] [⟨[.ref 1 0 0 2,.ifc 101 (.agg [])],0,false,0,0,false⟩,⟨[.bool true,.sl [ω 0,ω 3] 1 false,.bool false,.sl [ω 0,ω 1] 1 false],0,false,0,2,true⟩] (.ret (.ifc 66 (.agg [.bool false,.sl [ω 0,ω 1] 1 false]))) [⟨[.ref 1 0 0 1,.ifc 101 (.agg [])],0,false,0,0,false⟩,⟨[.bool true,.sl [ω 0,ω 3] 1 false,.bool false,.sl [ω 0,ω 1] 1 false],0,false,0,2,true⟩]:=cD ay (.nil)
theorem Xk:af prog ap 50 [.ifc 99 (.ptr 0 0 0),.ifc 66 (.agg [.bool false,.sl [ω 0,ω 2] 1 false])] [⟨[.ref 1 0 0 1,.ifc 101 (.agg [])],0,false,0,0,false⟩,⟨[.bool true,.sl [ω 0,ω 3] 1 false,.bool false,.sl [ω 0,ω 1] 1 false],0,false,0,2,true⟩] (.ret (.tup [])) [⟨[.ref 1 1 0 2,.ifc 101 (.agg [])],0,false,0,0,false⟩,⟨[.bool false,.sl [ω 0,ω 2] 1 false,.bool true,.sl [ω 0,ω 3] 1 false],1,false,0,2,true⟩]:=cD ay (.nil)
theorem Xl:af prog ap 99 [.ifc 99 (.ptr 0 0 0),ω 0,ω 1] [⟨[.ref 1 0 0 2,.ifc 101 (.agg [])],0,false,0,0,false⟩,⟨[.bool true,.sl [ω 0,ω 3] 1 false,.bool false,.sl [ω 0,ω 2] 1 false],0,false,0,2,true⟩] (.ret (.bool false)) [⟨[.ref 1 0 0 2,.ifc 101 (.agg [])],0,false,0,0,false⟩,⟨[.bool true,.sl [ω 0,ω 3] 1 false,.bool false,.sl [ω 0,ω 2] 1 false],0,false,0,2,true⟩]:=cD ay (.nil)
theorem Xm:af prog ap 349 [.ptr 0 0 0] [⟨[.ref 1 0 0 2,.ifc 101 (.agg [])],0,false,0,0,false⟩,⟨[.bool true,.sl [ω 0,ω 3] 1 false,.bool false,.sl [ω 0,ω 2] 1 false],0,false,0,2,true⟩] (.ret (.ifc 66 (.agg [.bool false,.sl [ω 0,ω 2] 1 false]))) [⟨[.ref 1 0 0 1,.ifc 101 (.agg [])],0,false,0,0,false⟩,⟨[.bool true,.sl [ω 0,ω 3] 1 false,.bool false,.sl [ω 0,ω 2] 1 false],0,false,0,2,true⟩]:=cD ay (.nil)
theorem Xn:af prog ap 99 [.ifc 99 (.ptr 0 0 0),ω 0,ω 0] [⟨[.ref 1 0 0 1,.ifc 101 (.agg [])],0,false,0,0,false⟩,⟨[.bool true,.sl [ω 0,ω 3] 1 false,.bool false,.sl [ω 0,ω 2] 1 false],0,false,0,2,true⟩] (.ret (.bool false)) [⟨[.ref 1 0 0 1,.ifc 101 (.agg [])],0,false,0,0,false⟩,⟨[.bool true,.sl [ω 0,ω 3] 1 false,.bool false,.sl [ω 0,ω 2] 1 false],0,false,0,2,true⟩]:=cD ay (.nil)
theorem Xo:af prog ap 349 [.ptr 0 0 0] [⟨[.ref 1 0 0 1,.ifc 101 (.agg [])],0,false,0,0,false⟩,⟨[.bool true,.sl [ω 0,ω 3] 1 false,.bool false,.sl [ω 0,ω 2] 1 false],0,false,0,2,true⟩] (.ret (.ifc 66 (.agg [.bool true,.sl [ω 0,ω 3] 1 false]))) [⟨[.ref 1 0 0 0,.ifc 101 (.agg [])],0,false,0,0,false⟩,⟨[.bool true,.sl [ω 0,ω 3] 1 false,.bool false,.sl [ω 0,ω 2] 1 false],0,false,0,2,true⟩]:=cD ay (.nil)
theorem Sj:CO 49 [.agg [.nilS,.nilS,.sl [.str [97],.bool false,ω 1,ω 0,.sl zcc3_6 1 true,.bool false,.bool false,.str [],.str [],.bool false,.str [],.str [],.str [98],.bool false,ω 1,ω 0,.sl zcc3_1 3 true,.bool false,.bool false,.str [],.str [],.bool false,.str [],.str [],.str [99],.bool false,ω 1,ω 0,.sl zcc3_7 1 true,.bool false,.bool false,.str [],.str [],.bool false,.str [],.str [],.str [100],.bool false,ω 1,ω 0,.sl zcc3_4 1 true,.bool false,.bool false,.str [],.str [],.bool false,.str [],.str []] 4 true],ω 2] (.ret (.own zcc3_0 8 2)):=cD ay (.nil)
theorem Xq:CO 16 [.agg [.nilS,.nilS,.sl [.str [97],.bool false,ω 1,ω 0,.sl zcc3_6 1 true,.bool false,.bool false,.str [],.str [],.bool false,.str [],.str [],.str [98],.bool false,ω 1,ω 0,.sl zcc3_1 3 true,.bool false,.bool false,.str [],.str [],.bool false,.str [],.str [],.str [99],.bool false,ω 1,ω 0,.sl zcc3_7 1 true,.bool false,.bool false,.str [],.str [],.bool false,.str [],.str [],.str [100],.bool false,ω 1,ω 0,.sl zcc3_4 1 true,.bool false,.bool false,.str [],.str [],.bool false,.str [],.str []] 4 true],ω 2,.agg [ω 0,ω 0]] (.ret (.nilS)):=cD ay (.nil)
theorem Xr:CO 16 [.agg [.nilS,.nilS,.sl [.str [97],.bool false,ω 1,ω 0,.sl zcc3_6 1 true,.bool false,.bool false,.str [],.str [],.bool false,.str [],.str [],.str [98],.bool false,ω 1,ω 0,.sl zcc3_1 3 true,.bool false,.bool false,.str [],.str [],.bool false,.str [],.str [],.str [99],.bool false,ω 1,ω 0,.sl zcc3_7 1 true,.bool false,.bool false,.str [],.str [],.bool false,.str [],.str [],.str [100],.bool false,ω 1,ω 0,.sl zcc3_4 1 true,.bool false,.bool false,.str [],.str [],.bool false,.str [],.str []] 4 true],ω 2,.agg [ω 0,ω 2]] (.ret (.own [ω 0,ω 1] 1 2)):=cD ay (.nil)
theorem Xt:CO 16 [.agg [.nilS,.nilS,.sl [.str [97],.bool false,ω 1,ω 0,.sl zcc3_6 1 true,.bool false,.bool false,.str [],.str [],.bool false,.str [],.str [],.str [98],.bool false,ω 1,ω 0,.sl zcc3_1 3 true,.bool false,.bool false,.str [],.str [],.bool false,.str [],.str [],.str [99],.bool false,ω 1,ω 0,.sl zcc3_7 1 true,.bool false,.bool false,.str [],.str [],.bool false,.str [],.str [],.str [100],.bool false,ω 1,ω 0,.sl zcc3_4 1 true,.bool false,.bool false,.str [],.str [],.bool false,.str [],.str []] 4 true],ω 2,.agg [ω 0,ω 3]] (.ret (.own [ω 0,ω 3] 1 2)):=cD ay (.nil)
theorem Xu:CO 16 [.agg [.nilS,.nilS,.sl [.str [97],.bool false,ω 1,ω 0,.sl zcc3_6 1 true,.bool false,.bool false,.str [],.str [],.bool false,.str [],.str [],.str [98],.bool false,ω 1,ω 0,.sl zcc3_1 3 true,.bool false,.bool false,.str [],.str [],.bool false,.str [],.str [],.str [99],.bool false,ω 1,ω 0,.sl zcc3_7 1 true,.bool false,.bool false,.str [],.str [],.bool false,.str [],.str [],.str [100],.bool false,ω 1,ω 0,.sl zcc3_4 1 true,.bool false,.bool false,.str [],.str [],.bool false,.str [],.str []] 4 true],ω 2,.agg [ω 1,ω 0]] (.ret (.nilS)):=cD ay (.nil)
theorem Xv:CO 16 [.agg [.nilS,.nilS,.sl [.str [97],.bool false,ω 1,ω 0,.sl zcc3_6 1 true,.bool false,.bool false,.str [],.str [],.bool false,.str [],.str [],.str [98],.bool false,ω 1,ω 0,.sl zcc3_1 3 true,.bool false,.bool false,.str [],.str [],.bool false,.str [],.str [],.str [99],.bool false,ω 1,ω 0,.sl zcc3_7 1 true,.bool false,.bool false,.str [],.str [],.bool false,.str [],.str [],.str [100],.bool false,ω 1,ω 0,.sl zcc3_4 1 true,.bool false,.bool false,.str [],.str [],.bool false,.str [],.str []] 4 true],ω 2,.agg [ω 1,ω 2]] (.ret (.own [ω 1,ω 1] 1 2)):=cD ay (.nil)
theorem Xw:CO 16 [.agg [.nilS,.nilS,.sl [.str [97],.bool false,ω 1,ω 0,.sl zcc3_6 1 true,.bool false,.bool false,.str [],.str [],.bool false,.str [],.str [],.str [98],.bool false,ω 1,ω 0,.sl zcc3_1 3 true,.bool false,.bool false,.str [],.str [],.bool false,.str [],.str [],.str [99],.bool false,ω 1,ω 0,.sl zcc3_7 1 true,.bool false,.bool false,.str [],.str [],.bool false,.str [],.str [],.str [100],.bool false,ω 1,ω 0,.sl zcc3_4 1 true,.bool false,.bool false,.str [],.str [],.bool false,.str [],.str []] 4 true],ω 2,.agg [ω 1,ω 3]] (.ret (.own [ω 1,ω 3] 1 2)):=cD ay (.nil)
theorem Xx:af prog ap 48 [.mp [.agg [ω 0,ω 0],.agg [ω 0,ω 1],.agg [ω 0,ω 2],.agg [ω 0,ω 3],.agg [ω 1,ω 0],.agg [ω 1,ω 1],.agg [ω 1,ω 2],.agg [ω 1,ω 3]] [.nilS,.sl [ω 0,ω 0,ω 1,ω 2] 2 true,.sl [ω 0,ω 1] 1 true,.sl [ω 0,ω 3] 1 true,.nilS,.sl [ω 0,ω 2,ω 1,ω 0] 2 true,.sl [ω 1,ω 1] 1 true,.sl [ω 1,ω 3] 1 true],.ref 0 0 0 8] [⟨zcc3_0,0,false,0,2,true⟩] (.ret (.sl [.bool false,.sl [ω 0,ω 0] 1 true,.bool false,.sl [ω 1,ω 0] 1 true,.bool true,.sl zcc3_3 4 true,.bool true,.sl [ω 0,ω 3] 1 true,.bool true,.sl [ω 1,ω 3] 1 true] 5 true)) [⟨zcc3_0,0,false,0,2,true⟩]:=cD ay (.nil)
theorem IJ:af prog ap 50 [.ifc 99 (.ptr 0 0 0),.ifc 66 (.agg [.bool false,.sl [ω 1,ω 0] 1 false])] [⟨[.ref 1 0 0 1,.ifc 101 (.agg [])],0,false,0,0,false⟩,⟨[.bool false,.sl [ω 0,ω 0] 1 false],0,false,0,2,true⟩] (.ret (.tup [])) [⟨[.ref 1 1 0 2,.ifc 101 (.agg [])],0,false,0,0,false⟩,⟨[.bool false,.sl [ω 0,ω 0] 1 false,.bool false,.sl [ω 1,ω 0] 1 false],1,false,0,2,true⟩]:=cD ay (.nil)
theorem Xy:af prog ap 50 [.ifc 99 (.ptr 0 0 0),.ifc 66 (.agg [.bool true,.sl [ω 0,ω 3] 1 false])] [⟨[.ref 1 0 0 2,.ifc 101 (.agg [])],0,false,0,0,false⟩,⟨[.bool false,.sl [ω 0,ω 0] 1 false,.bool false,.sl [ω 1,ω 0] 1 false],0,false,0,2,true⟩] (.ret (.tup [])) [⟨[.ref 1 1 0 3,.ifc 101 (.agg [])],0,false,0,0,false⟩,⟨[.bool false,.sl [ω 0,ω 0] 1 false,.bool false,.sl [ω 1,ω 0] 1 false,.bool true,.sl [ω 0,ω 3] 1 false],1,false,0,2,true⟩]:=cD ay (.nil)
theorem Xz:af prog ap 50 [.ifc 99 (.ptr 0 0 0),.ifc 66 (.agg [.bool true,.sl [ω 1,ω 3] 1 false])] [⟨[.ref 1 0 0 3,.ifc 101 (.agg [])],0,false,0,0,false⟩,⟨[.bool false,.sl [ω 0,ω 0] 1 false,.bool false,.sl [ω 1,ω 0] 1 false,.bool true,.sl [ω 0,ω 3] 1 false],0,false,0,2,true⟩] (.ret (.tup [])) [⟨[.ref 1 1 0 4,.ifc 101 (.agg [])],0,false,0,0,false⟩,⟨[.bool false,.sl [ω 0,ω 0] 1 false,.bool false,.sl [ω 1,ω 0] 1 false,.bool true,.sl [ω 0,ω 3] 1 false,.bool true,.sl [ω 1,ω 3] 1 false],1,false,0,2,true⟩]:=cD ay (.nil)
theorem XB:af prog ap 99 [.ifc 99 (.ptr 0 0 0),ω 0,ω 3] [⟨[.ref 1 0 0 4,.ifc 101 (.agg [])],0,false,0,0,false⟩,⟨[.bool true,.sl [ω 1,ω 3] 1 false,.bool false,.sl [ω 1,ω 0] 1 false,.bool true,.sl [ω 0,ω 3] 1 false,.bool false,.sl [ω 0,ω 0] 1 false],0,false,0,2,true⟩] (.ret (.bool true)) [⟨[.ref 1 0 0 4,.ifc 101 (.agg [])],0,false,0,0,false⟩,⟨[.bool true,.sl [ω 0,ω 3] 1 false,.bool false,.sl [ω 1,ω 0] 1 false,.bool true,.sl [ω 1,ω 3] 1 false,.bool false,.sl [ω 0,ω 0] 1 false],0,false,0,2,true⟩]:=cD ay (.nil)
theorem XC:af prog ap 349 [.ptr 0 0 0] [⟨[.ref 1 0 0 4,.ifc 101 (.agg [])],0,false,0,0,false⟩,⟨[.bool true,.sl [ω 0,ω 3] 1 false,.bool false,.sl [ω 1,ω 0] 1 false,.bool true,.sl [ω 1,ω 3] 1 false,.bool false,.sl [ω 0,ω 0] 1 false],0,false,0,2,true⟩] (.ret (.ifc 66 (.agg [.bool false,.sl [ω 0,ω 0] 1 false]))) [⟨[.ref 1 0 0 3,.ifc 101 (.agg [])],0,false,0,0,false⟩,⟨[.bool true,.sl [ω 0,ω 3] 1 false,.bool false,.sl [ω 1,ω 0] 1 false,.bool true,.sl [ω 1,ω 3] 1 false,.bool false,.sl [ω 0,ω 0] 1 false],0,false,0,2,true⟩]:=cD ay (.nil)
theorem XD:af prog ap 99 [.ifc 99 (.ptr 0 0 0),ω 0,ω 2] [⟨[.ref 1 0 0 3,.ifc 101 (.agg [])],0,false,0,0,false⟩,⟨[.bool true,.sl [ω 1,ω 3] 1 false,.bool false,.sl [ω 1,ω 0] 1 false,.bool true,.sl [ω 0,ω 3] 1 false,.bool false,.sl [ω 0,ω 0] 1 false],0,false,0,2,true⟩] (.ret (.bool true)) [⟨[.ref 1 0 0 3,.ifc 101 (.agg [])],0,false,0,0,false⟩,⟨[.bool false,.sl [ω 1,ω 0] 1 false,.bool true,.sl [ω 1,ω 3] 1 false,.bool true,.sl [ω 0,ω 3] 1 false,.bool false,.sl [ω 0,ω 0] 1 false],0,false,0,2,true⟩]:=cD ay (.nil)
theorem XE:af prog ap 349 [.ptr 0 0 0] [⟨[.ref 1 0 0 3,.ifc 101 (.agg [])],0,false,0,0,false⟩,⟨[.bool false,.sl [ω 1,ω 0] 1 false,.bool true,.sl [ω 1,ω 3] 1 false,.bool true,.sl [ω 0,ω 3] 1 false,.bool false,.sl [ω 0,ω 0] 1 false],0,false,0,2,true⟩] (.ret (.ifc 66 (.agg [.bool true,.sl [ω 0,ω 3] 1 false]))) [⟨[.ref 1 0 0 2,.ifc 101 (.agg [])],0,false,0,0,false⟩,⟨[.bool false,.sl [ω 1,ω 0] 1 false,.bool true,.sl [ω 1,ω 3] 1 false,.bool true,.sl [ω 0,ω 3] 1 false,.bool false,.sl [ω 0,ω 0] 1 false],0,false,0,2,true⟩]:=cD ay (.nil)
theorem XF:af prog ap 99 [.ifc 99 (.ptr 0 0 0),ω 0,ω 1] [⟨[.ref 1 0 0 2,.ifc 101 (.agg [])],0,false,0,0,false⟩,⟨[.bool true,.sl [ω 1,ω 3] 1 false,.bool false,.sl [ω 1,ω 0] 1 false,.bool true,.sl [ω 0,ω 3] 1 false,.bool false,.sl [ω 0,ω 0] 1 false],0,false,0,2,true⟩] (.ret (.bool false)) [⟨[.ref 1 0 0 2,.ifc 101 (.agg [])],0,false,0,0,false⟩,⟨[.bool true,.sl [ω 1,ω 3] 1 false,.bool false,.sl [ω 1,ω 0] 1 false,.bool true,.sl [ω 0,ω 3] 1 false,.bool false,.sl [ω 0,ω 0] 1 false],0,false,0,2,true⟩]:=cD ay (.nil)
theorem XG:af prog ap 349 [.ptr 0 0 0] [⟨[.ref 1 0 0 2,.ifc 101 (.agg [])],0,false,0,0,false⟩,⟨[.bool true,.sl [ω 1,ω 3] 1 false,.bool false,.sl [ω 1,ω 0] 1 false,.bool true,.sl [ω 0,ω 3] 1 false,.bool false,.sl [ω 0,ω 0] 1 false],0,false,0,2,true⟩] (.ret (.ifc 66 (.agg [.bool false,.sl [ω 1,ω 0] 1 false]))) [⟨[.ref 1 0 0 1,.ifc 101 (.agg [])],0,false,0,0,false⟩,⟨[.bool true,.sl [ω 1,ω 3] 1 false,.bool false,.sl [ω 1,ω 0] 1 false,.bool true,.sl [ω 0,ω 3] 1 false,.bool false,.sl [ω 0,ω 0] 1 false],0,false,0,2,true⟩]:=cD ay (.nil)
theorem XH:af prog ap 50 [.ifc 99 (.ptr 0 0 0),.ifc 66 (.agg [.bool true,.sl zcc3_3 4 false])] [⟨[.ref 1 0 0 1,.ifc 101 (.agg [])],0,false,0,0,false⟩,⟨[.bool true,.sl [ω 1,ω 3] 1 false,.bool false,.sl [ω 1,ω 0] 1 false,.bool true,.sl [ω 0,ω 3] 1 false,.bool false,.sl [ω 0,ω 0] 1 false],0,false,0,2,true⟩] (.ret (.tup [])) [⟨[.ref 1 1 0 2,.ifc 101 (.agg [])],0,false,0,0,false⟩,⟨[.bool true,.sl zcc3_3 4 false,.bool true,.sl [ω 1,ω 3] 1 false],1,false,0,2,true⟩]:=cD ay (.nil)
theorem XI:af prog ap 99 [.ifc 99 (.ptr 0 0 0),ω 0,ω 1] [⟨[.ref 1 0 0 2,.ifc 101 (.agg [])],0,false,0,0,false⟩,⟨[.bool true,.sl [ω 1,ω 3] 1 false,.bool true,.sl zcc3_3 4 false],0,false,0,2,true⟩] (.ret (.bool false)) [⟨[.ref 1 0 0 2,.ifc 101 (.agg [])],0,false,0,0,false⟩,⟨[.bool true,.sl [ω 1,ω 3] 1 false,.bool true,.sl zcc3_3 4 false],0,false,0,2,true⟩]:=cD ay (.nil)
theorem XJ:af prog ap 349 [.ptr 0 0 0] [⟨[.ref 1 0 0 2,.ifc 101 (.agg [])],0,false,0,0,false⟩,⟨[.bool true,.sl [ω 1,ω 3] 1 false,.bool true,.sl zcc3_3 4 false],0,false,0,2,true⟩] (.ret (.ifc 66 (.agg [.bool true,.sl zcc3_3 4 false]))) [⟨[.ref 1 0 0 1,.ifc 101 (.agg [])],0,false,0,0,false⟩,⟨[.bool true,.sl [ω 1,ω 3] 1 false,.bool true,.sl zcc3_3 4 false],0,false,0,2,true⟩]:=cD ay (.nil)
theorem XK:af prog ap 99 [.ifc 99 (.ptr 0 0 0),ω 0,ω 0] [⟨[.ref 1 0 0 1,.ifc 101 (.agg [])],0,false,0,0,false⟩,⟨[.bool true,.sl [ω 1,ω 3] 1 false,.bool true,.sl zcc3_3 4 false],0,false,0,2,true⟩] (.ret (.bool false)) [⟨[.ref 1 0 0 1,.ifc 101 (.agg [])],0,false,0,0,false⟩,⟨[.bool true,.sl [ω 1,ω 3] 1 false,.bool true,.sl zcc3_3 4 false],0,false,0,2,true⟩]:=cD ay (.nil)
theorem XL:af prog ap 349 [.ptr 0 0 0] [⟨[.ref 1 0 0 1,.ifc 101 (.agg [])],0,false,0,0,false⟩,⟨[.bool true,.sl [ω 1,ω 3] 1 false,.bool true,.sl zcc3_3 4 false],0,false,0,2,true⟩] (.ret (.ifc 66 (.agg [.bool true,.sl [ω 1,ω 3] 1 false]))) [⟨[.ref 1 0 0 0,.ifc 101 (.agg [])],0,false,0,0,false⟩,⟨[.bool true,.sl [ω 1,ω 3] 1 false,.bool true,.sl zcc3_3 4 false],0,false,0,2,true⟩]:=cD ay (.nil)
theorem Sl:af prog ap 48 [.mp [.agg [ω 0,ω 0],.agg [ω 0,ω 1],.agg [ω 0,ω 2],.agg [ω 1,ω 0],.agg [ω 1,ω 1],.agg [ω 1,ω 2]] [.nilS,.sl [ω 0,ω 0,ω 1,ω 2] 2 true,.sl [ω 0,ω 1] 1 true,.nilS,.sl [ω 0,ω 2,ω 1,ω 0] 2 true,.sl [ω 1,ω 1] 1 true],.ref 0 0 0 6] [⟨[ω 0,ω 0,ω 0,ω 1,ω 0,ω 2,ω 1,ω 0,ω 1,ω 1,ω 1,ω 2],0,false,0,2,true⟩] (.ret (.sl [.bool false,.sl [ω 0,ω 0] 1 true,.bool false,.sl [ω 1,ω 0] 1 true,.bool true,.sl zcc3_3 4 true] 3 true)) [⟨[ω 0,ω 0,ω 0,ω 1,ω 0,ω 2,ω 1,ω 0,ω 1,ω 1,ω 1,ω 2],0,false,0,2,true⟩]:=cD ay (.nil)
theorem Sm:af prog ap 99 [.ifc 99 (.ptr 0 0 0),ω 0,ω 1] [⟨[.ref 1 0 0 2,.ifc 101 (.agg [])],0,false,0,0,false⟩,⟨[.bool false,.sl [ω 1,ω 0] 1 false,.bool false,.sl [ω 0,ω 0] 1 false],0,false,0,2,true⟩] (.ret (.bool false)) [⟨[.ref 1 0 0 2,.ifc 101 (.agg [])],0,false,0,0,false⟩,⟨[.bool false,.sl [ω 1,ω 0] 1 false,.bool false,.sl [ω 0,ω 0] 1 false],0,false,0,2,true⟩]:=cD ay (.nil)
theorem Sr:af prog ap 349 [.ptr 0 0 0] [⟨[.ref 1 0 0 2,.ifc 101 (.agg [])],0,false,0,0,false⟩,⟨[.bool false,.sl [ω 1,ω 0] 1 false,.bool false,.sl [ω 0,ω 0] 1 false],0,false,0,2,true⟩] (.ret (.ifc 66 (.agg [.bool false,.sl [ω 0,ω 0] 1 false]))) [⟨[.ref 1 0 0 1,.ifc 101 (.agg [])],0,false,0,0,false⟩,⟨[.bool false,.sl [ω 1,ω 0] 1 false,.bool false,.sl [ω 0,ω 0] 1 false],0,false,0,2,true⟩]:=cD ay (.nil)
theorem Su:af prog ap 99 [.ifc 99 (.ptr 0 0 0),ω 0,ω 0] [⟨[.ref 1 0 0 1,.ifc 101 (.agg [])],0,false,0,0,false⟩,⟨[.bool false,.sl [ω 1,ω 0] 1 false,.bool false,.sl [ω 0,ω 0] 1 false],0,false,0,2,true⟩] (.ret (.bool false)) [⟨[.ref 1 0 0 1,.ifc 101 (.agg [])],0,false,0,0,false⟩,⟨[.bool false,.sl [ω 1,ω 0] 1 false,.bool false,.sl [ω 0,ω 0] 1 false],0,false,0,2,true⟩]:=cD ay (.nil)
theorem Sv:af prog ap 349 [.ptr 0 0 0] [⟨[.ref 1 0 0 1,.ifc 101 (.agg [])],0,false,0,0,false⟩,⟨[.bool false,.sl [ω 1,ω 0] 1 false,.bool false,.sl [ω 0,ω 0] 1 false],0,false,0,2,true⟩] (.ret (.ifc 66 (.agg [.bool false,.sl [ω 1,ω 0] 1 false]))) [⟨[.ref 1 0 0 0,.ifc 101 (.agg [])],0,false,0,0,false⟩,⟨[.bool false,.sl [ω 1,ω 0] 1 false,.bool false,.sl [ω 0,ω 0] 1 false],0,false,0,2,true⟩]:=cD ay (.nil)
theorem Sz:af prog ap 50 [.ifc 99 (.ptr 0 0 0),.ifc 66 (.agg [.bool true,.sl zcc3_3 4 false])] [⟨[.ref 1 0 0 0,.ifc 101 (.agg [])],0,false,0,0,false⟩,⟨[.bool false,.sl [ω 1,ω 0] 1 false,.bool false,.sl [ω 0,ω 0] 1 false],0,false,0,2,true⟩] (.ret (.tup [])) [⟨[.ref 1 1 0 1,.ifc 101 (.agg [])],0,false,0,0,false⟩,⟨[.bool true,.sl zcc3_3 4 false],1,false,0,2,true⟩]:=cD ay (.nil)
theorem SA:af prog ap 99 [.ifc 99 (.ptr 0 0 0),ω 0,ω 0] [⟨[.ref 1 0 0 1,.ifc 101 (.agg [])],0,false,0,0,false⟩,⟨[.bool true,.sl zcc3_3 4 false],0,false,0,2,true⟩] (.ret (.bool false)) [⟨[.ref 1 0 0 1,.ifc 101 (.agg [])],0,false,0,0,false⟩,⟨[.bool true,.sl zcc3_3 4 false],0,false,0,2,true⟩]:=cD ay (.nil)
theorem SB:af prog ap 349 [.ptr 0 0 0] [⟨[.ref 1 0 0 1,.ifc 101 (.agg [])],0,false,0,0,false⟩,⟨[.bool true,.sl zcc3_3 4 false],0,false,0,2,true⟩] (.ret (.ifc 66 (.agg [.bool true,.sl zcc3_3 4 false]))) [⟨[.ref 1 0 0 0,.ifc 101 (.agg [])],0,false,0,0,false⟩,⟨[.bool true,.sl zcc3_3 4 false],0,false,0,2,true⟩]:=cD ay (.nil)
theorem yD:CO 239 [.str [1],.str [1]] (.ret (.str [1])):=cD ay (.nil)
theorem gm:CO 240 [.str [1],.str [1]] (.ret (.tup [.str [1],.str [],.bool true])):=cD ay (.nil)
theorem yE:CO 193 [ω 0] (.ret (.str [])):=cD ay (.nil)
theorem qU:CO 193 [ω 1] (.ret (.str [1])):=cD ay (.nil)
theorem aeN:CO 150 [.agg [.sl [.str [98],.bool false,ω 0,ω 0] 1 true,.nilS,.sl [.str [97],.bool false,ω 0,ω 0,.sl zcc3_5 1 true,.bool false,.bool false,.str [1],.str [1],.bool false,.str [9],.str [1]] 1 true]] (.ret (ω 0)):=QV
theorem XQ:CO 111 [.sl zcc3_5 1 false] (.ret (ω 0)):=cD ay (.nil)
theorem IK:CO 239 [.str [9],.str [1]] (.ret (.str [1])):=cD ay (.nil)
theorem IL:CO 240 [.str [9],.str [1]] (.ret (.tup [.str [9],.str [],.bool true])):=cD ay (.nil)
theorem aeO:CO 250 [Ω false [9] [1],Ω false [1] [1]] (.ret (.tup [Ω false [9] [1],.bool true])):=cD ay (.c gm (.c IL (.c IK (.c gm (.c gm (.c yD (.c gm (.c IL (.c IK .nil)))))))))
theorem aeP:CO 193 [ω 200] (.ret (.str [200])):=cD ay (.nil)
theorem XR:CO 239 [.str [200],.str [1]] (.ret (.str [1])):=cD ay (.nil)
theorem XT:CO 240 [.str [200],.str [1]] (.ret (.tup [.str [200],.str [],.bool true])):=cD ay (.nil)
theorem aeQ:CO 269 [Ω false [200] [1]] (.ret (Ω true [200] [1])):=cD ay (.c gm (.c XT (.c XR .nil)))
theorem aeR:CO 315 [.sl [.int .u32 200] 1 true,.sl [.int .u32 9] 1 true] (.ret (.sl [.int .u32 191] 1 true)):=cD ay (.nil)
theorem XU:CO 239 [.str [191],.str [1]] (.ret (.str [1])):=cD ay (.nil)
theorem XV:CO 240 [.str [191],.str [1]] (.ret (.tup [.str [191],.str [],.bool true])):=cD ay (.nil)
theorem aeS:CO 204 [Ω false [9] [1],Ω false [200] [1]] (.ret (ω (-1))):=cD ay (.c qU (.c yE (.c gm (.c XV (.c XU (.c gm (.c XV (.c XU (.c aeR (.c gm (.c XT (.c XR (.c gm (.c IL (.c IK (.c aeQ .nil))))))))))))))))
theorem IM:CO 110 [.agg [.sl [.str [98],.bool false,ω 0,ω 0] 1 true,.nilS,.sl [.str [97],.bool false,ω 0,ω 0,.sl zcc3_5 1 true,.bool false,.bool false,.str [1],.str [1],.bool false,.str [9],.str [1]] 1 true]] (.ret (ω 0)):=cD ay (.c aeS (.c qU (.c aeP (.c qU (.c yE (.c gm (.c IL (.c IK (.c qU (.c qU (.c aeO (.c qU (.c yE (.c gm (.c gm (.c yD (.c gm (.c IL (.c IK (.c gm (.c gm (.c yD (.c XQ (.c XQ (.c aeN .nil)))))))))))))))))))))))))
end Go.Proofs.Tryz
namespace Go.Proofs.Tryz
open Go AM
theorem cE (b:List Nat) {ans:List (gK × List aP)} {ps:List Prop} {f:Nat} {args:List AV} {h a:List aP} {out:gK} (hp:PS prog ap ps ans [] [])
  (he:kR ap (F_ prog ap 3000 b 24) 3000 .dead f args h ⟨true,[],[],[],ans,[]⟩= .ok (out,a,.dead) ⟨true,[],[],ps,[],[]⟩:=by kernel_rfl):af prog ap f args h out a:=J9 lG.apok lG.mixed lG.fnok he ⟨fun _ c=>(by cases c),hp.all.mem⟩
theorem cU (b:List Nat) {ans:List (gK × List aP)} {ps:List Prop} {hs:List ng} {f:Nat} {args:List AV} {h a:List aP} {out:gK} (hp:PS prog ap ps ans [] hs)
  (he:kR ap (F_ prog ap 3000 b 24) 3000 .dead f args h ⟨true,[],[],[],ans,hs⟩= .ok (out,a,.dead) ⟨true,[],[],ps,[],[]⟩:=by kernel_rfl):af prog ap f args h out a:=J9 lG.apok lG.mixed lG.fnok he ⟨fun _ c=>(by cases c),hp.all.mem⟩
end Go.Proofs.Tryz
