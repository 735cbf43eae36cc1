/- The abstract machine over the code of the model, and the proof that it is sound. No conditions. -/
import Derived.Test.YtcjindbblhcopaaGreatDoorM2
import Derived.Orders
import Derived.LoopN
import Derived.Scope
set_option linter.unusedSimpArgs false
set_option linter.unusedVariables false
namespace AM
open Go
def an3 (h:List Blk):HpF:=fun b=>h[b]?
def awL (gh gf:HpF) (m:anV) (S:anR):Nat→List AV→List Value→Prop
 |_,[],[]=>True
 |n,.own _ k _::r,v::vs=>VR gf m S (.ref n 0 0 k) v∧awL gh gf m S (n+1) r vs
 |n,x::r,v::vs=>VR gh m S x v∧awL gh gf m S n r vs
 |_,_,_=>False
def aBG (gh gf:HpF) (m:anV) (S:anR) (n:Nat):AV→Value→Prop
 | .tup l,v=> ∃ vs,v= .tuple vs.toArray∧awL gh gf m S n l vs
 | .own _ k _,v=>VR gf m S (.ref n 0 0 k) v
 |x,v=>VR gh m S x v
def axg (n:Nat):Out→List Blk
 | .ret v=>(awY n v).2
 | .pan _=> []
def aTT (h':List Blk) (m':anV) (S':anR):Out→Ending→Prop
 | .ret v,e=> ∃ cv,e= .returned cv∧aBG (an3 h') (an3 (h'++(awY h'.length v).2)) m' S' h'.length v cv
 | .pan v,e=> ∃ cv,e= .panicked [{v:=cv,recovered:=false}]∧VR (an3 h') m' S' v cv
structure aFM (ap:AP) (h:List Blk) (m:anV) (S:anR) (w:World) (out:Out) (h':List Blk) (m':anV) (S':anR) (w':World) (e:Ending):Prop where
 srel:apS ap (an3 (h'++axg h'.length out)) m' S' w'
 fr:Fr (an3 h) m S w (an3 (h'++axg h'.length out)) m' S' w'
 out:aTT h' m' S' out e
def aCq (P:Program) (f:Nat):Prop:=∀ args w,(callFunc f args).run P w= .ok (.enter f args) w
structure ad1 (P:Program) (ap:AP) (f:Nat) (args:List AV) (h:List Blk) (out:Out) (h':List Blk):Prop where
 len:h.length≤h'.length
 ent:aCq P f
 calls:∀ m S w cargs,apS ap (an3 h) m S w→VRL (an3 h) m S args cargs→Calls P f cargs.toArray w fun e w'=> ∃ m' S',aFM ap h m S w out h' m' S' w' e
def awU (P:Program) (ap:AP) (H:aug):Prop:=∀ c f args h out h' md' c',H c .dead f args h= .ok (out,h',md') c'→c'.Ok→c.Ok∧ad1 P ap f args h out h'
section
variable {P:Program} {ap:AP} {g:HpF} {m:anV} {S:anR} {w:World}
mutual
theorem ax2 {m:anV} {S:anR}:∀ (x:AV) {v:Value},VR (an3 []) m S x v→PR S x v
 | .int _ _,_,p=>by simpa only [VR] using p
 | .bool _,_,p=>by simpa only [VR] using p
 | .str _,_,p=>by simpa only [VR] using p
 | .nilS,_,p=>by simpa only [VR] using p
 | .nilP,_,p=>by simpa only [VR] using p
 | .nilF,_,p=>by simpa only [VR] using p
 | .nilI,_,p=>by simpa only [VR] using p
 | .sl _ _ _,_,p=>by simpa only [VR] using p
 | .pp _ _,_,p=>by simpa only [VR] using p
 | .mp _ _,_,p=>by simpa only [VR] using p
 | .dead,_,_=>by simp only [PR]
 | .own _ _ _,_,p=>by simp only [VR] at p
 | .ref _ _ _ _,_,p=>by simp [VR,an3] at p
 | .ptr _ _ _,_,p=>by simp [VR,an3] at p
 | .mr _ _,_,p=>by simp [VR,an3] at p
 | .agg l,_,p=>by
  simp only [VR] at p;simp only [PR]
  obtain ⟨vs,e,q⟩:=p
  exact ⟨vs,e,aw0 l q⟩
 | .tup l,_,p=>by
  simp only [VR] at p;simp only [PR]
  obtain ⟨vs,e,q⟩:=p
  exact ⟨vs,e,aw0 l q⟩
 | .fn f a c,_,p=>by
  simp only [VR] at p;simp only [PR]
  obtain ⟨va,vc,e,q,r⟩:=p
  exact ⟨va,vc,e,aw0 a q,aw0 c r⟩
 | .ifc t x,_,p=>by
  simp only [VR] at p;simp only [PR]
  obtain ⟨u,e,q⟩:=p
  exact ⟨u,e,ax2 x q⟩
theorem aw0 {m:anV} {S:anR}:∀ (l:List AV) {vs:List Value},VRL (an3 []) m S l vs→PRL S l vs
 | [],[],_=>by simp only [PRL]
 |x::r,v::vs,p=>by simp only [VRL] at p;simp only [PRL];exact ⟨ax2 x p.1,aw0 r p.2⟩
 | [],_::_,p=>by simp [VRL] at p
 |_::_,[],p=>by simp [VRL] at p
end
theorem aTt (hS:apS ap g m S w) {gc gc':HpF} {mc mc':anV} {Sp S':anR} {w':World} (hc:apS ap gc' mc' S' w') (hf:Fr gc mc Sp w gc' mc' S' w') (ι:Nat→Nat)
  (hdom:∀ i Bc,gc i=some Bc→∃ B,g (ι i)=some B∧mc i=m (ι i))
  (hSp:SLe S Sp) (hSpN:∀ k o v,Sp k o=some v→S k o=some v∨∃ b B,g b=some B∧(m b).1=k) {gN:HpF} {mN:anV} (ρ:Nat→Nat→Option (Nat × Nat)) (hρ:azR gc' mc' gN mN ρ)
  (hnew:∀ i Bc,gc' i=some Bc→∃ B,gN (ι i)=some B∧mN (ι i)=mc' i∧B.esz=Bc.esz∧B.fro=Bc.fro∧B.fz=Bc.fz∧B.pr=Bc.pr∧(Bc.pr=true→B.cells=Bc.cells)∧(Bc.pr=false→B.cells=axG ρ Bc.cells))
  (hold:∀ b B,gN b=some B→(∃ i Bc,gc' i=some Bc∧b=ι i)∨(∃ B0,g b=some B0∧mN b=m b∧B.cells=B0.cells∧B.pr=B0.pr∧B.esz=B0.esz∧(B.fro=false→B.fz=0)∧B.fz≤B.cells.length∧(∀ i Bc,gc i=some Bc→b ≠ ι i)∧(∀ o v,Sp (m b).1 o=some v→B.fro=true∧o<B.fz)))
  (hge:Ge g m gN mN):apS ap gN mN S' w'∧Fr g m S w gN mN S' w':=by
 have hsle:SLe S S':=hSp.trans hf.sle
 have hcross:∀ b B0 i Bc,g b=some B0→gc' i=some Bc→(∀ i Bc,gc i=some Bc→b ≠ ι i)→(m b).1 ≠ (mc' i).1:=by
  intro b B0 i Bc hb hi hno e
  have hlt:=hS.lt hb
  rcases hf.img i Bc hi with h1|⟨B1,h1,h2⟩
  ·omega
  ·obtain ⟨B2,h3,h4⟩:=hdom i B1 h1
   rw [h4] at h2
   exact hno i B1 h1 (hS.inj b (ι i) B0 B2 hb h3 (e.trans h2))
 constructor
 ·refine ⟨?_, ?_,hc.sealed, ?_,hc.glob⟩
  ·intro b b' B B' hb hb' e
   rcases hold b B hb with ⟨i,Bi,hi,rfl⟩|⟨B0,h0,h1,_,_,_,_,_,h2,_⟩<;>rcases hold b' B' hb' with ⟨j,Bj,hj,rfl⟩|⟨B0',h0',h1',_,_,_,_,_,h2',_⟩
   ·obtain ⟨_,_,e1,_⟩:=hnew i Bi hi
    obtain ⟨_,_,e2,_⟩:=hnew j Bj hj
    rw [e1,e2] at e
    rw [hc.inj i j Bi Bj hi hj e]
   ·obtain ⟨_,_,e1,_⟩:=hnew i Bi hi
    rw [e1,h1'] at e
    exact absurd e.symm (hcross b' B0' i Bi h0' hi h2')
   ·obtain ⟨_,_,e2,_⟩:=hnew j Bj hj
    rw [e2,h1] at e
    exact absurd e (hcross b B0 j Bj h0 hj h2)
   ·rw [h1,h1'] at e
    exact hS.inj b b' B0 B0' h0 h0' e
  ·intro b B hb
   rcases hold b B hb with ⟨i,Bi,hi,rfl⟩|⟨B0,h0,h1,h3,h4,h5,h6,h7,h2,_⟩
   ·obtain ⟨B1,e0,e1,e2,e3,e4,e5,e6,e7⟩:=hnew i Bi hi
    rw [hb] at e0;cases e0
    rw [e1]
    obtain ⟨⟨cur,e,vs,rest,k1,k2,k3,k4,k5,k6⟩,k7,k8⟩:=hc.blk i Bi hi
    cases hp:Bi.pr with
    |true=>
     have hcells:=e6 hp
     refine ⟨⟨cur,e,vs,rest,by rw [e2];exact k1,k2,fun _=>by rw [hcells];exact k3 hp,by rw [hcells];exact aoa _ (k3 hp),by rw [e2];exact k5,by rw [e2];exact k6⟩,by rw [e3,e4];exact k7,by rw [e4,hcells];exact k8⟩
    |false=>
     have hcells:=e7 hp
     have hv:=axc (SLe.refl S') hρ _ k4
     have hlen:B.cells.length=Bi.cells.length:=by rw [auc k4,hcells,auc hv]
     refine ⟨⟨cur,e,vs,rest,by rw [e2];exact k1,k2,(fun h=>by rw [e5,hp] at h;cases h),by rw [hcells];exact hv,by rw [e2];exact k5,by rw [e2];exact k6⟩,by rw [e3,e4];exact k7,by rw [e4,hlen];exact k8⟩
   ·rw [h1]
    have hno:∀ i Bc,gc i=some Bc→(mc i).1 ≠ (m b).1:=by
     intro i Bc hi e
     obtain ⟨B2,h8,h9⟩:=hdom i Bc hi
     rw [h9] at e
     exact h2 i Bc hi (hS.inj b (ι i) B0 B2 h0 h8 e.symm)
    obtain ⟨⟨cur,e,vs,rest,k1,k2,k3,k4,k5,k6⟩,k7,k8⟩:=hS.blk b B0 h0
    refine ⟨⟨cur,e,vs,rest,by rw [h5];exact k1.same (hf.rest _ (hS.lt h0) hno),k2,fun hp=>by rw [h3];rw [h4] at hp;exact an6 hsle _ (k3 hp),by rw [h3];exact axx hsle hge _ k4,by rw [h5];exact k5,by rw [h5];exact k6⟩,h6,h7⟩
  ·intro b B hb o v hv
   rcases hold b B hb with ⟨i,Bi,hi,rfl⟩|⟨B0,h0,h1,h3,h4,h5,h6,h7,h2,h8⟩
   ·obtain ⟨B1,e0,e1,e2,e3,e4,e5,e6,e7⟩:=hnew i Bi hi
    rw [hb] at e0;cases e0
    rw [e1] at hv
    rw [e3,e4]
    exact hc.own i Bi hi o v hv
   ·rw [h1] at hv
    rcases hf.sealN _ _ _ hv with h9|h9|⟨i,Bi,hi,h9⟩
    ·exact h8 o v h9
    ·have:=hS.lt h0;omega
    ·obtain ⟨B2,h10,h11⟩:=hdom i Bi hi
     rw [h11] at h9
     exact absurd (hS.inj b (ι i) B0 B2 h0 h10 h9.symm) (h2 i Bi hi)
 ·refine ⟨hge,hsle,hf.os,hf.tape,hf.output,hf.size, ?_, ?_, ?_⟩
  ·intro k hk hno
   refine hf.rest k hk fun i Bc hi e=> ?_
   obtain ⟨B2,h8,h9⟩:=hdom i Bc hi
   exact hno (ι i) B2 h8 (by rw [← h9];exact e)
  ·intro b B hb
   rcases hold b B hb with ⟨i,Bi,hi,rfl⟩|⟨B0,h0,h1,_⟩
   ·obtain ⟨B1,e0,e1,_⟩:=hnew i Bi hi
    rw [e1]
    rcases hf.img i Bi hi with h1|⟨B2,h1,h2⟩
    ·exact .inl h1
    ·obtain ⟨B3,h3,h4⟩:=hdom i B2 h1
     exact .inr ⟨B3,h3,by rw [h2,h4]⟩
   ·exact .inr ⟨B0,h0,by rw [h1]⟩
  ·intro k o v hv
   rcases hf.sealN _ _ _ hv with h9|h9|⟨i,Bi,hi,h9⟩
   ·rcases hSpN _ _ _ h9 with h|h
    ·exact .inl h
    ·exact .inr (.inr h)
   ·exact .inr (.inl h9)
   ·obtain ⟨B2,h10,h11⟩:=hdom i Bi hi
    exact .inr (.inr ⟨ι i,B2,h10,by rw [← h11];exact h9⟩)
structure aF0 (F:AV→AV):Prop where
 own:∀ xs n e,F (.own xs n e)= .own xs n e
 tup:∀ l,F (.tup l)= .tup (l.map F)
 not:∀ x,(∀ xs n e,x ≠ .own xs n e)→(∀ xs n e,F x ≠ .own xs n e)
 notT:∀ x,(∀ l,x ≠ .tup l)→(∀ l,F x ≠ .tup l)
theorem an4 (n:Nat) {x:AV} (h:∀ xs k e,x ≠ .own xs k e) (r:List AV):avz n (x::r)=(x::(avz n r).1,(avz n r).2):=by
 cases x<;>first|rfl|exact absurd rfl (h _ _ _)
theorem awx (n:Nat) {x:AV} (h:∀ xs k e,x ≠ .own xs k e) (h':∀ l,x ≠ .tup l):awY n x=(x,[]):=by
 cases x<;>first|rfl|exact absurd rfl (h _ _ _)|exact absurd rfl (h' _)
theorem aub {gh gf:HpF} {n:Nat} {x:AV} (h:∀ xs k e,x ≠ .own xs k e) {r:List AV} {v:Value} {vs:List Value}:awL gh gf m S n (x::r) (v::vs)=(VR gh m S x v∧awL gh gf m S n r vs):=by
 cases x<;>first|rfl|exact absurd rfl (h _ _ _)
theorem axl {gh gf:HpF} {n:Nat} {x:AV} (h:∀ xs k e,x ≠ .own xs k e) (h':∀ l,x ≠ .tup l) {v:Value}:aBG gh gf m S n x v=VR gh m S x v:=by
 cases x<;>first|rfl|exact absurd rfl (h _ _ _)|exact absurd rfl (h' _)
theorem awI (x:AV):(∃ xs k e,x= .own xs k e)∨(∀ xs k e,x ≠ .own xs k e):=by
 cases x<;>first|exact .inl ⟨_,_,_,rfl⟩|exact .inr (fun _ _ _ h=>by cases h)
theorem aCR (x:AV):(∃ l,x= .tup l)∨(∀ l,x ≠ .tup l):=by
 cases x<;>first|exact .inl ⟨_,rfl⟩|exact .inr (fun _ h=>by cases h)
theorem azE {F:AV→AV} (hF:aF0 F):∀ (l:List AV) (a b:Nat),(avz a (l.map F)).2=(avz b l).2
 | [],a,b=>rfl
 | x::r,a,b=>by
  rcases awI x with ⟨xs,k,e,rfl⟩|hx
  ·simp only [List.map_cons,hF.own,avz]
   rw [azE hF r (a+1) (b+1)]
  ·rw [List.map_cons,an4 a (hF.not x hx),an4 b hx]
   exact azE hF r a b
theorem aDb {F:AV→AV} (hF:aF0 F) (x:AV) (a b:Nat):(awY a (F x)).2=(awY b x).2:=by
 rcases awI x with ⟨xs,k,e,rfl⟩|hx
 ·rw [hF.own];rfl
 ·rcases aCR x with ⟨l,rfl⟩|ht
  ·rw [hF.tup]
   simp only [awY]
   exact azE hF l a b
  ·rw [awx a (hF.not x hx) (hF.notT x ht),awx b hx ht]
theorem aAp {F:AV→AV} (hF:aF0 F) {gh gf gN:HpF} {m mN:anV} {S:anR} {n nid:Nat} (hx:∀ x v,VR gh m S x v→VR gN mN S (F x) v) (hr:∀ i k v,VR gf m S (.ref (n+i) 0 0 k) v→VR gN mN S (.ref (nid+i) 0 0 k) v):
  ∀ (l:List AV) (vs:List Value) (j:Nat),awL gh gf m S (n+j) l vs→VRL gN mN S (avz (nid+j) (l.map F)).1 vs
 | [],[],j,_=>by simp [avz,VRL]
 | x::r,v::vs,j,h=>by
  rcases awI x with ⟨xs,k,e,rfl⟩|hxo
  ·simp only [awL] at h
   simp only [List.map_cons,hF.own,avz,VRL]
   exact ⟨hr j k v h.1,by have:=aAp hF hx hr r vs (j+1);rw [← Nat.add_assoc,← Nat.add_assoc] at this;exact this h.2⟩
  ·rw [aub hxo] at h
   rw [List.map_cons,an4 _ (hF.not x hxo)]
   simp only [VRL]
   exact ⟨hx x v h.1,aAp hF hx hr r vs j h.2⟩
 | [],_::_,_,h=>by simp [awL] at h
 |x::r,[],_,h=>by cases x<;>simp [awL] at h
theorem aE8 {F:AV→AV} (hF:aF0 F) {gh gf gN:HpF} {m mN:anV} {S:anR} {n nid:Nat} (hx:∀ x v,VR gh m S x v→VR gN mN S (F x) v) (hr:∀ i k v,VR gf m S (.ref (n+i) 0 0 k) v→VR gN mN S (.ref (nid+i) 0 0 k) v)
  {x:AV} {v:Value} (h:aBG gh gf m S n x v):VR gN mN S (awY nid (F x)).1 v:=by
 rcases awI x with ⟨xs,k,e,rfl⟩|hxo
 ·simp only [aBG] at h
  rw [hF.own]
  exact hr 0 k v h
 ·rcases aCR x with ⟨l,rfl⟩|ht
  ·simp only [aBG] at h
   obtain ⟨vs,e,h⟩:=h
   rw [hF.tup]
   simp only [awY,VR]
   exact ⟨vs,e,aAp hF hx hr l vs 0 h⟩
  ·rw [axl hxo ht] at h
   rw [awx _ (hF.not x hxo) (hF.notT x ht)]
   exact hx x v h
theorem aIz:aF0 id:=⟨fun _ _ _=>rfl,fun l=>by simp,fun _ h=>h,fun _ h=>h⟩
theorem aIU (ρ:Nat→Nat→Option (Nat × Nat)):∀ l,axG ρ l=l.map (ren ρ)
 | []=>rfl
 |x::r=>by simp [axG,aIU ρ r]
theorem aGr (ρ:Nat→Nat→Option (Nat × Nat)):aF0 (ren ρ):=by
 refine ⟨fun _ _ _=>rfl,fun l=>by simp [ren,aIU], ?_, ?_⟩
 ·intro x h xs n e hh
  cases x<;>simp only [ren] at hh<;>first
   |(cases hh;done)
   |(split at hh<;>cases hh;done)
   |exact h _ _ _ rfl
 ·intro x h l hh
  cases x<;>simp only [ren] at hh<;>first
   |(cases hh;done)
   |(split at hh<;>cases hh;done)
   |exact h _ rfl
theorem aCC:∀ (bs:List Blk) (n b:Nat),ad9 (aET n bs) b=if n≤b then bs[b - n]? else none
 | [],n,b=>by simp [aET,ad9]
 | B::r,n,b=>by
  simp only [aET,ad9]
  cases h:Nat.beq n b with
  |true=>
   have:=anN h
   subst this
   simp
  | false=>
   have hne:n ≠ b:=by intro e;subst e;simp at h
   rw [aCC r (n+1) b]
   by_cases hle:n≤b
   ·rw [if_pos hle,if_pos (show n+1≤b by omega)]
    obtain ⟨d,hd⟩:∃ d,b - n=d+1:=⟨b - n - 1,by omega⟩
    rw [hd,List.getElem?_cons_succ,show b - (n+1)=d by omega]
   ·rw [if_neg hle,if_neg (show ¬ n+1≤b by omega)]
theorem aGv {rd:HpF} {mk:Blk→Blk}:∀ (fp:List Nat) (b:Nat),ad9 (fp.filterMap fun b=>(rd b).map fun B=>(b,mk B)) b=if b ∈ fp then (rd b).map mk else none
 | [],b=>by simp [ad9]
 | a::r,b=>by
  have ih:=aGv (rd:=rd) (mk:=mk) r b
  cases ha:rd a with
  |none=>
   rw [List.filterMap_cons_none (by simp [ha]),ih]
   by_cases hab:b=a
   ·subst hab;simp [ha]
   ·simp [hab]
  | some B=>
   rw [List.filterMap_cons_some (by simp [ha];rfl)]
   simp only [ad9]
   cases h:Nat.beq a b with
   |true=>have:=anN h;subst this;simp [ha]
   |false=>
    have hne:b ≠ a:=by intro e;subst e;simp at h
    simp only [ih,List.mem_cons,hne,false_or]
end
end AM
namespace AM
open Go
def aTU (g:HpF) (m:anV) (S:anR):Out→Ending→Prop
 | .ret v,e=> ∃ cv,e= .returned cv∧VR g m S v cv
 | .pan v,e=> ∃ cv,e= .panicked [{v:=cv,recovered:=false}]∧VR g m S v cv
def aQk (ap:AP) (g:HpF) (m:anV) (S:anR) (w:World) (out:Out) (ups:List (Nat × Blk)) (e:Ending) (w':World):Prop:=
 ∃ m' S',apS ap (au6 g ups) m' S' w'∧Fr g m S w (au6 g ups) m' S' w'∧aTU (au6 g ups) m' S' out e
theorem avp {h h':List Blk} {b:Nat} (hb:b<h.length):an3 (h++h') b=an3 h b:=by
 simp [an3,List.getElem?_append_left hb]
theorem aws {h h':List Blk} {b:Nat} (hb:h.length≤b):an3 (h++h') b=an3 h' (b - h.length):=by
 simp [an3,List.getElem?_append_right hb]
def azr (l:List Blk):Prop:=∀ B ∈ l,B.pr=true∧B.fro=false∧B.ver=0
theorem azF:∀ (l:List AV) (n:Nat),azr (avz n l).2
 | [],n=>by simp [avz,azr]
 | x::r,n=>by
  rcases awI x with ⟨xs,k,e,rfl⟩|hx
  ·simp only [avz]
   intro B hB
   rcases List.mem_cons.1 hB with rfl|hB
   ·exact ⟨rfl,rfl,rfl⟩
   ·exact azF r (n+1) B hB
  ·rw [an4 n hx];exact azF r n
theorem aIT (x:AV) (n:Nat):azr (awY n x).2:=by
 rcases awI x with ⟨xs,k,e,rfl⟩|hx
 ·intro B hB
  simp [awY] at hB
  subst hB
  exact ⟨rfl,rfl,rfl⟩
 ·rcases aCR x with ⟨l,rfl⟩|ht
  ·simp only [awY];exact azF l n
  ·rw [awx n hx ht];simp [azr]
theorem aDa (o:Out) (n:Nat):azr (axg n o):=by
 cases o with
 |ret v=>exact aIT v n
 |pan v=>simp [axg,azr]
section
variable {P:Program} {ap:AP} {g:HpF} {m:anV} {S:anR} {w:World}
def aHB (nid:Nat) (F:AV→AV):Out→Out
 | .ret v=> .ret (awY nid (F v)).1
 | .pan v=> .pan (F v)
theorem aCZ (hS:apS ap g m S w) {rd:HpF} (hrd:∀ b B,rd b=some B→g b=some B) {fp:List Nat} (hfp:∀ b B,rd b=some B→b ∈ fp) {nid:Nat} {args args':List AV} {cargs:List Value} {out:Out}
  (ha:aw8 (frz rd 6) args=some args') (hv:VRL g m S args cargs) {C:List Value→(Ending→World→Prop)→Prop} (hmono:∀ cargs R R',C cargs R→(∀ e w',R e w'→R' e w')→C cargs R')
  (hc:∀ m1 S1,SLe S S1→apS ap (an3 []) m1 S1 w→VRL (an3 []) m1 S1 args' cargs→C cargs fun e w'=> ∃ m' S',aFM ap [] m1 S1 w out [] m' S' w' e) (hfr:∀ i,i<(axg 0 out).length→g (nid+i)=none):
  C cargs fun e w'=>aQk ap g m S w (aHB nid id out) (aET nid (axg 0 out)++fp.filterMap fun b=>(rd b).map fun B=>(b,{B with fro:=true,fz:=B.cells.length})) e w':=by
 have hpr:PRL (auZ S m rd w) args' cargs:=az3 (fun x v y h1 h2=>axn hS hrd 6 x v y h1 h2) ha hv
 have hle:=axW S m rd w
 let m0:anV:=fun _=>(0,0)
 have hS0:apS ap (an3 []) m0 (auZ S m rd w) w:=by
  refine ⟨fun b b' B B' h=>by simp [an3] at h,fun b B h=>by simp [an3] at h,fun k o v h=>ayJ hS h,fun b B h=>by simp [an3] at h, ?_⟩
  intro k xs hk
  obtain ⟨vs,h1,h2⟩:=hS.glob k xs hk
  exact ⟨vs,an6 hle _ h1,h2.mono hle⟩
 refine hmono _ _ _ (hc m0 (auZ S m rd w) hle hS0 (aoa _ hpr)) ?_
 rintro e w' ⟨m',S',hF⟩
 obtain ⟨hsr,hfr',hout⟩:=hF
 simp only [List.nil_append,List.length_nil] at hsr hfr' hout
 generalize hbs:axg 0 out=bs at hsr hfr' hfr
 have hown:azr bs:=hbs ▸ aDa out 0
 let gN:HpF:=au6 g (aET nid bs++fp.filterMap fun b=>(rd b).map fun B=>(b,{B with fro:=true,fz:=B.cells.length}))
 let mN:anV:=fun b=>if nid≤b∧b - nid<bs.length then m' (b - nid) else m b
 have hgN:∀ b,gN b=if nid≤b∧b - nid<bs.length then bs[b - nid]? else match rd b with|some B=>some {B with fro:=true,fz:=B.cells.length}|none=>g b:=by
  intro b
  show au6 g _ b=_
  unfold au6
  have hmk:∀ mk:Blk→Blk,(if b ∈ fp then (rd b).map mk else none)=(rd b).map mk:=by
   intro mk
   split
   ·rfl
   ·rename_i hb
    cases hr:rd b with
    |none=>rfl
    |some B=>exact absurd (hfp b B hr) hb
  rw [avU,aCC,aGv,hmk]
  by_cases h1:nid≤b
  ·by_cases h2:b - nid<bs.length
   ·have hc:nid≤b∧b - nid<bs.length:=⟨h1,h2⟩
    rw [if_pos h1,if_pos hc,List.getElem?_eq_getElem h2]
   ·have hc:¬ (nid≤b∧b - nid<bs.length):=fun h=>h2 h.2
    rw [if_pos h1,if_neg hc,List.getElem?_eq_none (Nat.le_of_not_lt h2)]
    cases rd b<;>rfl
  ·have hc:¬ (nid≤b∧b - nid<bs.length):=fun h=>h1 h.1
   rw [if_neg h1,if_neg hc]
   cases rd b<;>rfl
 have hnidg:∀ b B,g b=some B→¬ (nid≤b∧b - nid<bs.length):=by
  rintro b B hb ⟨h1,h2⟩
  have:=hfr (b - nid) h2
  rw [show nid+(b - nid)=b by omega,hb] at this
  cases this
 have hge:Ge g m gN mN:=by
  intro b B hb
  have hn:=hnidg b B hb
  have hm:mN b=m b:=if_neg hn
  rw [hgN,if_neg hn]
  cases hr:rd b with
  |none=>exact ⟨B,hb,rfl,.inl ⟨rfl,hm⟩⟩
  |some B1=>
   have:=hrd b B1 hr
   rw [hb] at this;cases this
   exact ⟨_,rfl,rfl,.inl ⟨rfl,hm⟩⟩
 have hmN:∀ i B,bs[i]? =some B→gN (nid+i)=some B∧mN (nid+i)=m' i:=by
  intro i B hi
  have hl:=(List.getElem?_eq_some_iff.1 hi).1
  have hc:nid≤nid+i∧nid+i - nid<bs.length:=by omega
  refine ⟨by rw [hgN,if_pos hc,show nid+i - nid=i by omega];exact hi, ?_⟩
  show (if _ then _ else _)=_
  rw [if_pos hc,show nid+i - nid=i by omega]
 obtain ⟨hsN,hfN⟩:=aTt (g:=g) (m:=m) (S:=S) (w:=w) hS hsr hfr' (fun i=>nid+i) (fun i Bc h=>by simp [an3] at h) hle
  (fun k o v h=>(avC h).imp id fun ⟨_,b,B,h1,h2,_⟩=> ⟨b,B,hrd b B h1,h2⟩) (gN:=gN) (mN:=mN) (fun i v=>some (nid+i,v))
  (by
   intro b ver b' ver' h B hB hver
   simp only [Option.some.injEq,Prod.mk.injEq] at h
   obtain ⟨rfl,rfl⟩:=h
   obtain ⟨h1,h2⟩:=hmN b B hB
   exact ⟨B,h1,hver,fun e=> ⟨e,h2,rfl⟩⟩)
  (by
   intro i Bc hi
   obtain ⟨h1,h2⟩:=hmN i Bc hi
   exact ⟨Bc,h1,h2,rfl,rfl,rfl,rfl,fun _=>rfl,fun hp=>by rw [(hown Bc (List.mem_of_getElem? hi)).1] at hp;cases hp⟩)
  (by
   intro b B hb
   by_cases hc:nid≤b∧b - nid<bs.length
   ·rw [hgN,if_pos hc] at hb
    exact .inl ⟨b - nid,B,hb,by omega⟩
   ·have hm:mN b=m b:=if_neg hc
    rw [hgN,if_neg hc] at hb
    right
    cases hr:rd b with
    | none=>
     rw [hr] at hb
     have hb:g b=some B:=hb
     refine ⟨B,hb,hm,rfl,rfl,rfl,(hS.blk b B hb).fz0,(hS.blk b B hb).fzle,(fun i Bc h=>by simp [an3] at h), ?_⟩
     intro o v ho
     rcases avC ho with h|⟨_,b1,B1,h1,h2,_⟩
     ·exact hS.own b B hb o v h
     ·have:=hS.inj b1 b B1 B (hrd _ _ h1) hb h2
      subst this
      rw [h1] at hr;cases hr
    | some B1=>
     rw [hr] at hb
     have hb:some {B1 with fro:=true,fz:=B1.cells.length}=some B:=hb
     cases hb
     have hg1:=hrd b B1 hr
     refine ⟨B1,hg1,hm,rfl,rfl,rfl,(fun h=>by cases h),Nat.le_refl _,(fun i Bc h=>by simp [an3] at h), ?_⟩
     intro o v ho
     refine ⟨rfl, ?_⟩
     rcases avC ho with h|⟨_,b1,B2,h1,h2,h3⟩
     ·exact Nat.lt_of_lt_of_le (hS.own b B1 hg1 o v h).2 (hS.blk b B1 hg1).fzle
     ·have:=hS.inj b1 b B2 B1 (hrd _ _ h1) hg1 h2
      subst this
      rw [h1] at hr;cases hr
      exact h3)
  hge
 refine ⟨mN,S',hsN,hfN, ?_⟩
 show aTU gN mN S' (aHB nid id out) e
 cases out with
 |ret v=>
  obtain ⟨cv,e1,h1⟩:=hout
  refine ⟨cv,e1, ?_⟩
  have hbs':(awY 0 v).2=bs:=hbs
  simp only [List.length_nil,List.nil_append,hbs'] at h1
  refine aE8 (n:=0) aIz (fun x v hx=>av7 x (ax2 x hx)) ?_ h1
  intro i k v hx
  rw [Nat.zero_add] at hx
  simp only [VR] at hx ⊢
  obtain ⟨B,h2,h3,h4,h5⟩:=hx
  obtain ⟨h6,h7⟩:=hmN i B h2
  exact ⟨B,h6,h3,h4,by rw [h7];exact h5⟩
 |pan v=>
  obtain ⟨cv,e1,h1⟩:=hout
  exact ⟨cv,e1,av7 _ (ax2 _ h1)⟩
end
end AM
namespace AM
open Go
theorem aIK {b:Nat} {r:List Nat} (h:azB (b::r)=true):b ∉ r∧azB r=true:=by
 simp only [azB,Bool.and_eq_true,Bool.not_eq_true'] at h
 refine ⟨fun hb=> ?_,h.2⟩
 rw [awh.2 hb] at h
 cases h.1
theorem azc:∀ {l:List Nat} {b p:Nat},ayN l b=some p→l[p]? =some b
 | [],b,p,h=>by simp [ayN] at h
 | c::r,b,p,h=>by
  simp only [ayN] at h
  split at h
  ·rename_i hc;cases h;rw [anN hc];rfl
  ·simp only [Option.map_eq_some_iff] at h
   obtain ⟨q,hq,rfl⟩:=h
   simpa using azc hq
theorem ayF:∀ {l:List Nat} {b p:Nat},azB l=true→l[p]? =some b→ayN l b=some p
 | [],b,p,_,h=>by simp at h
 |c::r,b,0,hn,h=>by simp at h;subst h;simp [ayN]
 | c::r,b,p+1,hn,h=>by
  obtain ⟨h1,h2⟩:=aIK hn
  have h:r[p]? =some b:=by simpa using h
  have hne:Nat.beq c b=false:=by
   cases hc:Nat.beq c b with
   |false=>rfl
   |true=>exact absurd (anN hc ▸ List.mem_of_getElem? h) h1
  simp [ayN,hne,ayF h2 h]
theorem aIH {mk:Nat→Blk→Blk}:∀ (fp:List Nat) (h':List Blk) (b:Nat),ad9 ((aJm fp h').map fun (b,B)=>(b,mk b B)) b=(ayN fp b).bind fun p=>(h'[p]?).map (mk b)
 | [],h',b=>by cases h'<;>simp [aJm,ad9,ayN]
 |a::r,[],b=>by
  simp only [aJm,List.map_nil,ad9,ayN]
  cases Nat.beq a b with
  |true=>rfl
  |false=>cases ayN r b<;>rfl
 | a::r,B::q,b=>by
  simp only [aJm,List.map_cons,ad9,ayN]
  cases h:Nat.beq a b with
  |true=>have:=anN h;subst this;rfl
  |false=>
   simp only [aIH r q b]
   cases ayN r b<;>simp
section
variable {P:Program} {ap:AP} {g:HpF} {m:anV} {S:anR} {w:World}
def shB (ρ:Nat→Nat→Option (Nat × Nat)) (B:Blk):Blk:={B with cells:=(match B.pr with|true=>B.cells|false=>axG ρ B.cells),ver:=0}
theorem ar1 {a b n i:Nat} (h:b≤a):n+(a+i - b)=n+(a - b)+i:=by omega
theorem ar2 {a b i:Nat} (h:b≤a):b+(a+i - b)=a+i:=by omega
theorem aQE {ρ:Nat→Nat→Option (Nat × Nat)} {l:List Blk} (h:azr l):l.map (bkB ρ 0)=l:=by
 induction l with
 |nil=>rfl
 |cons B r ih=>
  rw [List.map_cons,ih fun B hB=>h B (by simp [hB])]
  obtain ⟨h1,_,h3⟩:=h B (by simp)
  obtain ⟨c,v,f,z,e,p⟩:=B
  simp only at h1 h3
  subst h1 h3
  rfl
theorem aC0 (hS:apS ap g m S w) {rd:HpF} (hrd:∀ b B,rd b=some B→g b=some B) {fp:List Nat} {bl:List Blk} (hbl:aw8 rd fp=some bl) (hnd:azB fp=true) {nid:Nat} {args:List AV} {cargs:List Value} {out:Out}
  {vers:Nat→Nat} (hvers:∀ b B,rd b=some B→vers b=B.ver) {ρ ρ':Nat→Nat→Option (Nat × Nat)} (hρe:∀ b v,ρ b v=match Nat.beq v (vers b) with|true=>(ayN fp b).map fun p=>(p,0)|false=>none)
  {h':List Blk} (hρe':ρ'=aKW nid fp vers h'.length)
  (hv:VRL g m S args cargs) {C:List Value→(Ending→World→Prop)→Prop} (hmono:∀ cargs R R',C cargs R→(∀ e w',R e w'→R' e w')→C cargs R')
  (hc:∀ m1 S1,SLe S S1→apS ap (an3 (bl.map (shB ρ))) m1 S1 w→VRL (an3 (bl.map (shB ρ))) m1 S1 (axG ρ args) cargs→C cargs fun e w'=> ∃ m' S',aFM ap (bl.map (shB ρ)) m1 S1 w out h' m' S' w' e) (hl:fp.length≤h'.length) (hfr:∀ i,i<(h'.length - fp.length)+(axg h'.length out).length→g (nid+i)=none):
  C cargs fun e w'=>aQk ap g m S w (aHB (nid+(h'.length - fp.length)) (ren ρ') out) (aET nid ((h'.drop fp.length).map (bkB ρ' 0)++axg h'.length out)++(aJm fp h').map fun (b,B)=>(b,bkB ρ' (vers b) B)) e w':=by
 have hfpg:∀ p b,fp[p]? =some b→∃ B,rd b=some B∧g b=some B∧an3 (bl.map (shB ρ)) p=some (shB ρ B):=by
  intro p b hp
  obtain ⟨B,h1,h2⟩:=(awt hbl).2 p b hp
  exact ⟨B,h2,hrd b B h2,by simp [an3,h1]⟩
 have hgc:∀ p Bc,an3 (bl.map (shB ρ)) p=some Bc→∃ b B,fp[p]? =some b∧rd b=some B∧g b=some B∧Bc=shB ρ B:=by
  intro p Bc hp
  have hlt:p<fp.length:=by
   have:=(List.getElem?_eq_some_iff.1 hp).1
   rw [List.length_map,(awt hbl).1] at this
   exact this
  obtain ⟨B,h1,h2,h3⟩:=hfpg p _ (List.getElem?_eq_getElem hlt)
  rw [h3] at hp;cases hp
  exact ⟨_,B,List.getElem?_eq_getElem hlt,h1,h2,rfl⟩
 let mc:anV:=fun p=>m (fp.getD p 0)
 have hmc:∀ p b,fp[p]? =some b→mc p=m b:=by
  intro p b hp
  show m (fp.getD p 0)=_
  rw [List.getD_eq_getElem?_getD,hp];rfl
 have hren:azR g m (an3 (bl.map (shB ρ))) mc ρ:=by
  intro b ver b' ver' h B hB hver
  rw [hρe] at h
  split at h
  ·rename_i hve
   simp only [Option.map_eq_some_iff,Prod.mk.injEq] at h
   obtain ⟨p,hp,rfl,rfl⟩:=h
   have hp:=azc hp
   obtain ⟨B1,h1,h2,h3⟩:=hfpg p b hp
   rw [h2] at hB;cases hB
   exact ⟨_,h3,Nat.zero_le _,fun _=> ⟨by rw [anN hve,hvers b _ h1],hmc p b hp,rfl⟩⟩
  ·cases h
 have hSc:apS ap (an3 (bl.map (shB ρ))) mc S w:=by
  refine ⟨?_, ?_,hS.sealed, ?_,hS.glob⟩
  ·intro p q Bp Bq hp hq e
   obtain ⟨b,B,h1,h2,h3,_⟩:=hgc p Bp hp
   obtain ⟨b',B',h1',h2',h3',_⟩:=hgc q Bq hq
   rw [hmc p b h1,hmc q b' h1'] at e
   have:=hS.inj b b' B B' h3 h3' e
   subst this
   have e1:=ayF hnd h1
   rw [ayF hnd h1'] at e1
   cases e1;rfl
  ·intro p Bp hp
   obtain ⟨b,B,h1,h2,h3,rfl⟩:=hgc p Bp hp
   rw [hmc p b h1]
   obtain ⟨⟨cur,e,vs,rest,k1,k2,k3,k4,k5,k6⟩,k7,k8⟩:=hS.blk b B h3
   cases hp:B.pr with
   |true=>exact ⟨⟨cur,e,vs,rest,k1,k2,fun _=>by simpa [shB,hp] using k3 hp,by simpa [shB,hp] using aoa _ (k3 hp),k5,k6⟩,k7,by simpa [shB,hp] using k8⟩
   | false=>
    have hv:=axc (SLe.refl S) hren _ k4
    exact ⟨⟨cur,e,vs,rest,k1,k2,fun h=>by simp [shB,hp] at h,by simpa [shB,hp] using hv,k5,k6⟩,k7,by
     have:(shB ρ B).cells.length=B.cells.length:=by simp only [shB,hp];rw [auc k4,auc hv]
     rw [this];exact k8⟩
  ·intro p Bp hp o v ho
   obtain ⟨b,B,h1,h2,h3,rfl⟩:=hgc p Bp hp
   rw [hmc p b h1] at ho
   exact hS.own b B h3 o v ho
 refine hmono _ _ _ (hc mc S (SLe.refl S) hSc (axc (SLe.refl S) hren _ hv)) ?_
 rintro e w' ⟨m',S',hF⟩
 obtain ⟨hsr,hfr',hout⟩:=hF
 generalize hbs:axg h'.length out=bs0 at hsr hfr' hfr
 have hown:azr bs0:=hbs ▸ aDa out h'.length
 obtain ⟨bs,hbse⟩:∃ bs,bs=h'.drop fp.length++bs0:=⟨_,rfl⟩
 have hbsl:bs.length=(h'.length - fp.length)+bs0.length:=by rw [hbse,List.length_append,List.length_drop]
 rw [← hbsl] at hfr
 let ups:=(aJm fp h').map fun (b,B)=>(b,bkB ρ' (vers b) B)
 rw [show (h'.drop fp.length).map (bkB ρ' 0)++bs0=bs.map (bkB ρ' 0) by rw [hbse,List.map_append,aQE hown]]
 let gN:HpF:=au6 g (aET nid (bs.map (bkB ρ' 0))++ups)
 let mN:anV:=fun b=>if nid≤b∧b - nid<bs.length then m' (fp.length+(b - nid)) else match ayN fp b with|some p=>m' p|none=>m b
 have hgN:∀ b,gN b=if nid≤b∧b - nid<bs.length then (bs[b - nid]?).map (bkB ρ' 0) else match (ayN fp b).bind fun p=>(h'[p]?).map (bkB ρ' (vers b)) with|some B=>some B|none=>g b:=by
  intro b
  show au6 g _ b=_
  unfold au6
  rw [avU,aCC,aIH (mk:=fun b B=>bkB ρ' (vers b) B)]
  by_cases h1:nid≤b
  ·by_cases h2:b - nid<bs.length
   ·have hc:nid≤b∧b - nid<bs.length:=⟨h1,h2⟩
    rw [if_pos h1,if_pos hc,List.getElem?_map,List.getElem?_eq_getElem h2]
    rfl
   ·have hc:¬ (nid≤b∧b - nid<bs.length):=fun h=>h2 h.2
    rw [if_pos h1,if_neg hc,List.getElem?_map,List.getElem?_eq_none (Nat.le_of_not_lt h2)]
    rfl
  ·have hc:¬ (nid≤b∧b - nid<bs.length):=fun h=>h1 h.1
   rw [if_neg h1,if_neg hc]
   rfl
 have hnidg:∀ b B,g b=some B→¬ (nid≤b∧b - nid<bs.length):=by
  rintro b B hb ⟨h1,h2⟩
  have:=hfr (b - nid) h2
  rw [show nid+(b - nid)=b by omega,hb] at this
  cases this
 have hh':∀ p,p<fp.length→∃ B,h'[p]? =some B:=fun p hp=> ⟨_,List.getElem?_eq_getElem (by omega)⟩
 have hsh:∀ p b,fp[p]? =some b→∀ Bc,h'[p]? =some Bc→gN b=some (bkB ρ' (vers b) Bc)∧mN b=m' p:=by
  intro p b hp Bc hB
  obtain ⟨B,h1,h2,h3⟩:=hfpg p b hp
  have hn:=hnidg b B h2
  refine ⟨by rw [hgN,if_neg hn,ayF hnd hp];simp [hB], ?_⟩
  show (if _ then _ else _)=_
  rw [if_neg hn,ayF hnd hp]
 have hmN:∀ i B,bs[i]? =some B→gN (nid+i)=some (bkB ρ' 0 B)∧mN (nid+i)=m' (fp.length+i):=by
  intro i B hi
  have hl:=(List.getElem?_eq_some_iff.1 hi).1
  have hc:nid≤nid+i∧nid+i - nid<bs.length:=by omega
  refine ⟨by rw [hgN,if_pos hc,show nid+i - nid=i by omega,hi];rfl, ?_⟩
  show (if _ then _ else _)=_
  rw [if_pos hc,show nid+i - nid=i by omega]
 have hhi:∀ p,fp.length≤p→an3 (h'++bs0) p=bs[p - fp.length]? :=by
  intro p hp
  have he:h'++bs0=h'.take fp.length++bs:=by rw [hbse,← List.append_assoc,List.take_append_drop]
  have hlt:(h'.take fp.length).length=fp.length:=by rw [List.length_take];omega
  rw [he,aws (by omega),hlt]
  rfl
 have hlow:∀ p Bc,an3 (h'++bs0) p=some Bc→(p<fp.length∧h'[p]? =some Bc)∨(fp.length≤p∧bs[p - fp.length]? =some Bc):=by
  intro p Bc h
  by_cases hp:p<fp.length
  ·rw [avp (by omega)] at h;exact .inl ⟨hp,h⟩
  ·rw [hhi p (by omega)] at h;exact .inr ⟨by omega,h⟩
 have hren':azR (an3 (h'++bs0)) m' gN mN ρ':=by
  intro p ver b' ver' h Bc hB hver
  rw [hρe'] at h
  unfold aKW at h
  split at h
  ·rename_i b hp
   cases h
   rcases hlow p Bc hB with ⟨h1,h2⟩|⟨h1,_⟩
   ·obtain ⟨h3,h4⟩:=hsh p _ hp Bc h2
    exact ⟨_,h3,by simp only [bkB];omega,fun e=> ⟨by simp only [bkB] at e;omega,h4,rfl⟩⟩
   ·have:=(List.getElem?_eq_some_iff.1 hp).1;omega
  ·rename_i hp
   split at h
   ·cases h
    have hge:=List.getElem?_eq_none_iff.1 hp
    rcases hlow p Bc hB with ⟨h1,_⟩|⟨h1,h2⟩
    ·omega
    ·obtain ⟨h3,h4⟩:=hmN _ Bc h2
     exact ⟨_,h3,by simp only [bkB];omega,fun e=> ⟨by simp only [bkB] at e;omega,by rw [h4,show fp.length+(p - fp.length)=p by omega],rfl⟩⟩
   ·cases h
 have hge:Ge g m gN mN:=by
  intro b B hb
  have hn:=hnidg b B hb
  cases hi:ayN fp b with
  | none=>
   have hm:mN b=m b:=by
    show (if _ then _ else _)=_
    rw [if_neg hn,hi]
   refine ⟨B, ?_,rfl,.inl ⟨rfl,hm⟩⟩
   rw [hgN,if_neg hn,hi];exact hb
  | some p=>
   have hp:=azc hi
   obtain ⟨B1,h1,h2,h3⟩:=hfpg p b hp
   rw [h2] at hb;cases hb
   obtain ⟨Bc,h4,h5,h6⟩:=hfr'.ge p _ h3
   rcases hlow p Bc h4 with ⟨_,h7⟩|⟨h7,_⟩
   ·obtain ⟨h8,h9⟩:=hsh p b hp Bc h7
    refine ⟨_,h8,h5, ?_⟩
    rcases h6 with ⟨h6,h6'⟩|h6
    ·left
     refine ⟨?_,by rw [h9,h6',hmc p b hp]⟩
     simp only [bkB,shB] at h6 ⊢
     rw [hvers b _ h1];omega
    ·right
     simp only [bkB,shB] at h6 ⊢
     rw [hvers b _ h1];omega
   ·have:=(List.getElem?_eq_some_iff.1 hp).1;omega
 let ι:Nat→Nat:=fun p=>if p<fp.length then fp.getD p 0 else nid+(p - fp.length)
 have hι:∀ p b,fp[p]? =some b→ι p=b:=by
  intro p b hp
  show (if _ then _ else _)=_
  rw [if_pos (List.getElem?_eq_some_iff.1 hp).1,List.getD_eq_getElem?_getD,hp];rfl
 have hι':∀ i,ι (fp.length+i)=nid+i:=by
  intro i
  show (if _ then _ else _)=_
  rw [if_neg (by omega)];congr 1;omega
 obtain ⟨hsN,hfN⟩:=aTt (g:=g) (m:=m) (S:=S) (w:=w) hS hsr hfr' ι
  (by
   intro p Bc hp
   obtain ⟨b,B,h1,h2,h3,rfl⟩:=hgc p Bc hp
   rw [hι p b h1]
   exact ⟨B,h3,hmc p b h1⟩) (SLe.refl S) (fun k o v h=> .inl h) (gN:=gN) (mN:=mN) ρ' hren'
  (by
   intro p Bc hp
   rcases hlow p Bc hp with ⟨h1,h2⟩|⟨h1,h2⟩
   ·have hp:=List.getElem?_eq_getElem h1
    obtain ⟨h3,h4⟩:=hsh p _ hp Bc h2
    rw [hι p _ hp]
    exact ⟨_,h3,h4,rfl,rfl,rfl,rfl,fun h=>by simp [bkB,h],fun h=>by simp [bkB,h]⟩
   ·obtain ⟨i,rfl⟩:∃ i,p=fp.length+i:=⟨p - fp.length,by omega⟩
    rw [show fp.length+i - fp.length=i by omega] at h2
    obtain ⟨h3,h4⟩:=hmN i Bc h2
    rw [hι' i]
    exact ⟨_,h3,h4,rfl,rfl,rfl,rfl,fun h=>by simp [bkB,h],fun h=>by simp [bkB,h]⟩)
  (by
   intro b B hb
   by_cases hc:nid≤b∧b - nid<bs.length
   ·rw [hgN,if_pos hc,Option.map_eq_some_iff] at hb
    obtain ⟨Bc,hb,_⟩:=hb
    refine .inl ⟨fp.length+(b - nid),Bc, ?_,by rw [hι'];omega⟩
    rw [hhi _ (by omega),show fp.length+(b - nid) - fp.length=b - nid by omega];exact hb
   ·rw [hgN,if_neg hc] at hb
    cases hi:ayN fp b with
    |some p=>
     have hp:=azc hi
     have hlt:=(List.getElem?_eq_some_iff.1 hp).1
     obtain ⟨Bc,h4⟩:=hh' p hlt
     exact .inl ⟨p,Bc,by rw [avp (by omega)];exact h4,(hι p b hp).symm⟩
    | none=>
     have hm:mN b=m b:=by
      show (if _ then _ else _)=_
      rw [if_neg hc,hi]
     rw [hi] at hb
     have hb:g b=some B:=hb
     refine .inr ⟨B,hb,hm,rfl,rfl,rfl,(hS.blk b B hb).fz0,(hS.blk b B hb).fzle, ?_,fun o v ho=>hS.own b B hb o v ho⟩
     intro p Bc hp e
     obtain ⟨b1,B1,h1,_⟩:=hgc p Bc hp
     rw [hι p b1 h1] at e
     subst e
     rw [ayF hnd h1] at hi;cases hi)
  hge
 refine ⟨mN,S',hsN,hfN, ?_⟩
 show aTU gN mN S' (aHB (nid+(h'.length - fp.length)) (ren ρ') out) e
 have hrenh:azR (an3 h') m' gN mN ρ':=by
  intro p ver b' ver' h Bc hB hver
  refine hren' p ver b' ver' h Bc ?_ hver
  rw [avp (List.getElem?_eq_some_iff.1 hB).1];exact hB
 cases out with
 |ret v=>
  obtain ⟨cv,e1,h1⟩:=hout
  refine ⟨cv,e1, ?_⟩
  have hbs':(awY h'.length v).2=bs0:=hbs
  rw [hbs'] at h1
  refine aE8 (n:=h'.length) (aGr ρ') (fun x v hx=>aCr (SLe.refl S') hrenh x hx) ?_ h1
  intro i k v hx
  simp only [VR] at hx ⊢
  obtain ⟨B,h2,h3,h4,h5⟩:=hx
  rw [hhi _ (Nat.le_trans hl (Nat.le_add_right _ _))] at h2
  obtain ⟨h6,h7⟩:=hmN _ B h2
  rw [ar1 hl] at h6 h7
  rw [ar2 hl] at h7
  exact ⟨_,h6,Nat.zero_le _,h4,fun e=>by rw [h7];exact h5 (by simpa [bkB] using e)⟩
 |pan v=>
  obtain ⟨cv,e1,h1⟩:=hout
  exact ⟨cv,e1,aCr (SLe.refl S') hrenh _ h1⟩
end
end AM
namespace AM
open Go
section
variable {P:Program} {ap:AP} {H:aug}
theorem aBQ {rd0:HpF} {nid f:Nat} {args:List AV} {md:AV} {c c':Cx} {r:aNt} (h:az8 ap H rd0 nid md f args c= .ok r c'):
  ∃ args0 h0 out0 h0',H c md f args0 h0= .ok (out0,h0',r.md) c'∧((∃ v,out0= .ret v)↔∃ v,r.out= .ret v)∧
  ∀ g m S w cargs (C:List Value→(Ending→World→Prop)→Prop),(∀ cargs R R',C cargs R→(∀ e w',R e w'→R' e w')→C cargs R')→apS ap g m S w→(∀ b ∈ r.fp,∀ B,rd0 b=some B→g b=some B)→(∀ i,i<4→g (nid+i)=none)→VRL g m S args cargs→
   (∀ m1 S1,SLe S S1→apS ap (an3 h0) m1 S1 w→VRL (an3 h0) m1 S1 args0 cargs→C cargs fun e w'=> ∃ m' S',aFM ap h0 m1 S1 w out0 h0' m' S' w' e)→
   C cargs fun e w'=>aQk ap g m S w r.out r.ups e w':=by
 unfold az8 at h
 simp only at h
 generalize hfp:azX rd0 6 (awv (auh args))=fp at h
 let rd:HpF:=fun b=>match ayQ fp b with|true=>rd0 b|false=>none
 have hmem:∀ b B,rd b=some B→b ∈ fp∧rd0 b=some B:=by
  intro b B hb
  dsimp only [rd] at hb
  split at hb
  ·rename_i hm;exact ⟨awh.1 hm,hb⟩
  ·cases hb
 split at h
 ·split at h
  ·cases h
  ·rename_i args' ha
   obtain ⟨⟨out,h',md⟩,c1,e1,h⟩:=R.bind_ok h
   dsimp only at h
   split at h
   ·cases h
   ·split at h
    ·rename_i v
     split at h
     ·rename_i hle
      cases h
      refine ⟨_,_,_,_,e1,⟨fun _=> ⟨_,rfl⟩,fun _=> ⟨_,rfl⟩⟩, ?_⟩
      intro g m S w cargs C hmono hS hag hfr hv hc
      have hrec:axg 0 (Out.ret v)=(awY nid v).2:=aDb aIz v 0 nid
      have:=aCZ hS (rd:=rd) (fun b B hb=>hag b (hmem b B hb).1 B (hmem b B hb).2) (fun b B hb=>(hmem b B hb).1) (nid:=nid) ha hv hmono hc (fun i hi=>hfr i (by rw [hrec] at hi;have:=avI hle;omega))
      rw [hrec] at this
      exact this
     ·cases h
    ·rename_i v
     cases h
     refine ⟨_,_,_,_,e1,⟨(fun ⟨_,h⟩=>by cases h),(fun ⟨_,h⟩=>by cases h)⟩, ?_⟩
     intro g m S w cargs C hmono hS hag hfr hv hc
     exact aCZ hS (rd:=rd) (fun b B hb=>hag b (hmem b B hb).1 B (hmem b B hb).2) (fun b B hb=>(hmem b B hb).1) (nid:=nid) ha hv hmono hc (fun i hi=>by simp [axg] at hi)
 ·split at h
  ·cases h
  ·rename_i bl hbl
   obtain ⟨⟨out,h',md⟩,c1,e1,h⟩:=R.bind_ok h
   dsimp only at h
   split at h
   ·cases h
   ·rename_i hcond
    simp only [Bool.and_eq_true] at hcond
    have hl:=avI hcond.1
    let vers:Nat→Nat:=fun b=>match rd b with|some B=>B.ver|none=>0
    have hvers':∀ b B,rd b=some B→vers b=B.ver:=by
     intro b B hb;simp only [vers,hb]
    let ρ':Nat→Nat→Option (Nat × Nat):=aKW nid fp vers h'.length
    split at h
    ·rename_i v
     split at h
     ·rename_i hle
      cases h
      refine ⟨_,_,_,_,e1,⟨fun _=> ⟨_,rfl⟩,fun _=> ⟨_,rfl⟩⟩, ?_⟩
      intro g m S w cargs C hmono hS hag hfr hv hc
      have hrec:axg h'.length (Out.ret v)=(awY (nid+(h'.length - fp.length)) (ren ρ' v)).2:=(aDb (aGr ρ') v (nid+(h'.length - fp.length)) h'.length).symm
      have:=aC0 hS (rd:=rd) (fun b B hb=>hag b (hmem b B hb).1 B (hmem b B hb).2) hbl hcond.2 (nid:=nid) hvers' (ρ':=ρ') (fun b v=>rfl) rfl hv hmono hc hl (fun i hi=>hfr i (by rw [hrec] at hi;exact Nat.lt_of_lt_of_le hi (avI hle)))
      rw [hrec] at this
      exact this
     ·cases h
    ·rename_i v
     split at h
     ·rename_i hle
      cases h
      refine ⟨_,_,_,_,e1,⟨(fun ⟨_,h⟩=>by cases h),(fun ⟨_,h⟩=>by cases h)⟩, ?_⟩
      intro g m S w cargs C hmono hS hag hfr hv hc
      exact aC0 hS (rd:=rd) (fun b B hb=>hag b (hmem b B hb).1 B (hmem b B hb).2) hbl hcond.2 (nid:=nid) hvers' (ρ':=ρ') (fun b v=>rfl) rfl hv hmono hc hl (fun i hi=>hfr i (by simp only [axg,List.length_nil,Nat.add_zero] at hi;exact Nat.lt_of_lt_of_le hi (avI hle)))
     ·cases h
theorem aD6 (hH:awU P ap H) {rd0:HpF} {nid f:Nat} {args:List AV} {c c':Cx} {r:aNt} (h:az8 ap H rd0 nid .dead f args c= .ok r c') (hc:c'.Ok):
  c.Ok∧aCq P f∧∀ g m S w cargs,apS ap g m S w→(∀ b ∈ r.fp,∀ B,rd0 b=some B→g b=some B)→(∀ i,i<4→g (nid+i)=none)→VRL g m S args cargs→
   Calls P f cargs.toArray w fun e w'=>aQk ap g m S w r.out r.ups e w':=by
 obtain ⟨args0,h0,out0,h0',e1,_,hg⟩:=aBQ h
 obtain ⟨hc0,hq⟩:=hH _ _ _ _ _ _ _ _ e1 hc
 refine ⟨hc0,hq.ent,fun g m S w cargs hS hag hfr hv=> ?_⟩
 exact hg g m S w cargs (fun cargs R=>Calls P f cargs.toArray w R) (fun _ _ _ h1 h2=>h1.mono h2) hS hag hfr hv fun m1 S1 _ h1 h2=>hq.calls m1 S1 w cargs h1 h2
end
end AM
namespace AM
open Go
def az1 (dec:List (Nat × Bool)) (env:Env):Prop:=∀ t b,ad9 dec t=some b→env.get t= .bool b
def av1 (g:HpF) (m:anV) (S:anR):List (Nat × List AV)→List Deferred→Prop
 | [],[]=>True
 |d::r,cd::cr=>(∃ cap,cd.target= .fn (.func d.1) cap∧VRL g m S d.2 (cd.args++cap).toList)∧av1 g m S r cr
 |_,_=>False
theorem aAw {g g':HpF} {m m':anV} {S S':anR} (hS:SLe S S') (hG:Ge g m g' m'):∀ {l:List (Nat × List AV)} {ds:List Deferred},av1 g m S l ds→av1 g' m' S' l ds
 | [],[],_=>by simp only [av1]
 |d::r,cd::cr,h=>by
  simp only [av1] at h ⊢
  obtain ⟨⟨cap,h1,h2⟩,h3⟩:=h
  exact ⟨⟨cap,h1,axx hS hG _ h2⟩,aAw hS hG h3⟩
 | [],_::_,h=>by simp [av1] at h
 |_::_,[],h=>by simp [av1] at h
theorem aCW {g:HpF} {m:anV} {S:anR}:∀ {l l':List (Nat × List AV)} {ds ds':List Deferred},av1 g m S l ds→av1 g m S l' ds'→av1 g m S (l++l') (ds++ds')
 | [],_,[],_,_,h'=>by simpa using h'
 |d::r,_,cd::cr,_,h,h'=>by
  simp only [av1] at h
  simp only [List.cons_append,av1]
  exact ⟨h.1,aCW h.2 h'⟩
 | [],_,_::_,_,h,_=>by simp [av1] at h
 |_::_,_,[],_,h,_=>by simp [av1] at h
def wpO (P:Program) (ops:Array Oper) (Q:Exit→Act→World→Prop) (o:Oper) (K:Act→World→Prop) (a:Act) (w:World):Prop:=
 if Region.wanted o (yielded ops a.tmps) then o.wp P a w K Q∨(o.asks P a w∧LetsOut Q) else K (a.put o.dst undef) w
def aTa (ap:AP) (o:Oper) (g:HpF) (m:anV) (S:anR) (w:World) (a:Act) (v:AV) (ups:List (Nat × Blk)) (df:List (Nat × List AV)) (Q:Exit→Act→World→Prop) (K:Act→World→Prop):Option AV→Prop
 |none=> ∀ cv m' S' w' ds,apS ap (au6 g ups) m' S' w'→Fr g m S w (au6 g ups) m' S' w'→VR (au6 g ups) m' S' v cv→av1 (au6 g ups) m' S' df ds→K ({a with defers:=ds++a.defers}.put o.dst cv) w'
 |some pv=> ∀ cv m' S' w',apS ap (au6 g ups) m' S' w'→Fr g m S w (au6 g ups) m' S' w'→VR (au6 g ups) m' S' pv cv→Q (.panic [{v:=cv,recovered:=false}]) a w'
def aGW (P:Program) (ap:AP) (ops:Array Oper) (o:Oper) (nid:Nat) (env:Env) (hp:Hp) (rt rb:List Nat) (v:AV) (ups:List (Nat × Blk)) (df:List (Nat × List AV)) (p:Option AV):Prop:=
 ∀ g m S w (a:Act),apS ap g m S w→(∀ t ∈ rt,VR g m S (env.get t) (a.tmps.getD t undef))→(∀ b ∈ rb,∀ B,ad9 hp b=some B→g b=some B)→(∀ i,i<4→g (nid+i)=none)→
  ∀ (Q:Exit→Act→World→Prop) (K:Act→World→Prop),aTa ap o g m S w a v ups df Q K p→wpO P ops Q o K a w
structure aWL (P:Program) (ap:AP) (ops:Array Oper) (o:Oper) (nid:Nat) (s s':RS) (p:Option AV) (v:AV) (rt rb:List Nat) (ups:List (Nat × Blk)) (df:List (Nat × List AV)):Prop where
 env:p=none→s'.env=ayT s.env o.dst v
 envp:p ≠ none→s'.env=s.env∧df= []
 hp:s'.hp=ups++s.hp
 md:s'.md=s.md
 dfs:s'.dfs=df++s.dfs
 dec:p=none→az1 s'.dec s'.env
 feet:p=none→s'.feet={rt,wt:=aHc o,rb,wb:=ups.map (·.1)}::s.feet
 sem:aGW P ap ops o nid s.env s.hp rt rb v ups df p
section
variable {P:Program} {ap:AP} {H:aug}
theorem aOh (e:Array Value) (t:Nat) {v:Value} (h:e.getD t undef=v) (hv:v ≠ undef):e[t]? =some v:=by
 rw [Array.getD_eq_getD_getElem?] at h
 cases he:e[t]? with
 |none=>rw [he] at h;exact absurd h.symm hv
 |some u=>rw [he] at h;simpa using h
theorem aFy {ops:Array Oper} {tmps:Array Value} {j s:Nat} (hs:(ops[j]?).bind (·.dst)=some s) {b:Bool} (h:tmps.getD s undef= .bool b):yielded ops tmps j=some b:=by
 unfold yielded
 rw [hs]
 simp only [Option.bind_some]
 rw [aOh tmps s h (by simp [undef])]
theorem aHU {ops:Array Oper} {tmps:Array Value} {j s:Nat} (hs:(ops[j]?).bind (·.dst)=some s) (h:tmps.getD s undef= .tuple #[]):yielded ops tmps j=none:=by
 unfold yielded
 rw [hs]
 simp only [Option.bind_some]
 rw [Array.getD_eq_getD_getElem?] at h
 cases he:tmps[s]? with
 |none=>rfl
 |some u=>
  rw [he] at h
  simp at h
  rw [h]
theorem aBn {g:HpF} {m:anV} {S:anR} {w:World} (hS:apS ap g m S w) {env:Env} {a:Act} (x:Operand) (h:∀ t,x= .tmp t→VR g m S (env.get t) (a.tmps.getD t undef)):VR g m S (ay_ ap env x) (a.eval x):=by
 cases x with
 |tmp t=>exact h t rfl
 |const v=>exact av7 _ (aH3 S v)
 | global k=>
  simp only [ay_,Act.eval]
  cases hk:(ap.gl[k]?).join with
  |none=>simp only [VR]
  |some xs=>
   obtain ⟨vs,h1,h2⟩:=hS.glob k xs hk
   simp only [VR,PR]
   exact ⟨k,0,vs,rfl,h1,h2⟩
 |func f=>
  simp only [ay_,Act.eval,VR]
  exact ⟨[],[],rfl,by simp [VRL],by simp [VRL]⟩
theorem aEN {l:List Operand} {t:Nat} (h:Operand.tmp t ∈ l):t ∈ aAt l:=by
 simp only [aAt,List.mem_filterMap]
 exact ⟨_,h,rfl⟩
theorem aHk {ops:List Oper} {env:Env} {dec dec':List (Nat × Bool)} {o:Oper} {c c':Cx} {run:Bool} (h:aJ0 ops env dec o c= .ok (run,dec') c') (hc:c'.Ok):
  c.Ok∧(az1 dec env→az1 dec' env∧(∀ t b,ad9 dec t=some b→ad9 dec' t=some b)∧∀ g m S (a:Act),(∀ t ∈ awC ops o,VR g m S (env.get t) (a.tmps.getD t undef))→Region.wanted o (yielded ops.toArray a.tmps)=run):=by
 unfold aJ0 at h
 unfold awC
 unfold Region.wanted
 split at h
 ·rename_i hg
  cases h
  simp only [hg]
  exact ⟨hc,fun hd=> ⟨hd,fun _ _ h=>h,fun _ _ _ _ _=>trivial⟩⟩
 ·rename_i j want hg
  simp only [hg]
  split at h
  ·cases h
  ·rename_i s hs
   have hs':(ops.toArray[j]?).bind (·.dst)=some s:=by simpa using hs
   split at h
   ·rename_i b hb
    cases h
    refine ⟨hc,fun hd=> ⟨hd,fun _ _ h=>h,fun g m S a hv=> ?_⟩⟩
    have h1:=hv s (by simp)
    rw [hd s b hb] at h1
    simp only [VR,PR] at h1
    rw [aFy hs' h1]
    cases want<;>cases b<;>rfl
   ·rename_i hl
    split at h
    ·rename_i b hb
     obtain ⟨b',c1,h1,h2⟩:=R.bind_ok h
     cases h2
     obtain ⟨hc0,rfl⟩:=axm h1 hc
     refine ⟨hc0,fun hd=> ⟨?_, ?_,fun g m S a hv=> ?_⟩⟩
     ·intro t x hx
      simp only [ad9] at hx
      split at hx
      ·rename_i ht
       cases hx
       rw [← anN ht,hb]
      ·exact hd t x hx
     ·intro t x hx
      simp only [ad9]
      split
      ·rename_i ht
       rw [anN ht] at hl
       rw [hl] at hx;cases hx
      ·exact hx
     ·have h1:=hv s (by simp)
      rw [hb] at h1
      simp only [VR,PR] at h1
      rw [aFy hs' h1]
      cases want<;>cases b'<;>rfl
    ·rename_i hb
     cases h
     refine ⟨hc,fun hd=> ⟨hd,fun _ _ h=>h,fun g m S a hv=> ?_⟩⟩
     have h1:=hv s (by simp)
     rw [hb] at h1
     simp only [VR] at h1
     obtain ⟨vs,h1,h2⟩:=h1
     cases vs with
     |nil=>rw [aHU hs' h1];rfl
     |cons v r=>simp [VRL] at h2
    ·cases h
theorem aIs {env:Env} {o:Oper} {v:AV} {t:Nat} (h:∀ d,o.dst=some d→d ≠ t):(ayT env o.dst v).get t=env.get t:=by
 unfold ayT
 split
 ·rename_i d hd
  simp only [Env.get,ad9]
  split
  ·rename_i ht;exact absurd (anN ht) (h d hd)
  ·rfl
 ·rfl
theorem aBR {dec:List (Nat × Bool)} {env:Env} {o:Oper} {v:AV} (hd:az1 dec env) (ho:aN9 dec o=true):az1 dec (ayT env o.dst v):=by
 intro t b hb
 rw [aIs]
 ·exact hd t b hb
 ·rintro d hdd rfl
  unfold aN9 at ho
  rw [hdd] at ho
  simp [hb] at ho
end
end AM
namespace AM
open Go
section
variable {P:Program} {ap:AP} {H:aug}
theorem aOm {c:Cx} {dst:Option Nat} {v:AV} (h:(aEq c dst v).2.Ok):c.Ok∧anX v (aEq c dst v).1:=by
 obtain ⟨cl,orc,bs,ps,ans,hs⟩:=c
 unfold aEq at h ⊢
 dsimp only at h ⊢
 split at h
 ·rename_i d x r d'
  split at h
  ·rename_i he
   have hB:anX v x:=h.ps _ (List.mem_cons_self ..)
   refine ⟨⟨h.bs,fun p hp=>h.ps p (List.mem_cons_of_mem _ hp)⟩, ?_⟩
   simp only [he]
   exact hB
  ·rename_i he
   refine ⟨h, ?_⟩
   simp only [he]
   exact fun _ _ _ _ hv=>hv
 ·rename_i hh
  exact ⟨h,fun _ _ _ _ hv=>hv⟩
theorem aOl {c:Cx} {dst:Option Nat} (h:(aK9 c dst).2.Ok):c.Ok:=by
 obtain ⟨cl,orc,bs,ps,ans,hs⟩:=c
 unfold aK9 at h
 dsimp only at h
 split at h
 ·split at h
  ·exact ⟨h.bs,h.ps⟩
  ·exact h
 ·exact h
theorem aOk {c:Cx} {dst:Option Nat} {ups:List (Nat × Blk)} (h:(aEp c dst ups).2.Ok):c.Ok∧(aEp c dst ups).1=ups:=by
 obtain ⟨cl,orc,bs,ps,ans,hs⟩:=c
 unfold aEp at h ⊢
 dsimp only at h ⊢
 split at h
 ·rename_i d xs r d' b B
  split at h
  ·rename_i he
   have hB:B.cells=xs:=h.ps _ (List.mem_cons_self ..)
   refine ⟨⟨h.bs,fun p hp=>h.ps p (List.mem_cons_of_mem _ hp)⟩, ?_⟩
   simp only [he,← hB]
  ·rename_i he
   refine ⟨h, ?_⟩
   simp only [he]
 ·rename_i hh
  exact ⟨h,rfl⟩
theorem aDd {a:Act} {g:Operand} {args:Array Operand} {argTypes:Array TypeId} {ty:TypeId} {f:Nat} {first cap:Array Value} (h:a.eval g= .func (.func f) first cap) (w:World):
  (resolve a.eval {callee:= .value g,args,argTypes} ty).run P w= .ok {target:= .fn (.func f) cap,args:=first++args.map a.eval} w:=by
 simp only [resolve,h,Deferred.ofValue]
 rfl
theorem aFX {a:Act} {g:Operand} {args:Array Operand} {argTypes:Array TypeId} {ty:TypeId} {f:Nat} {first cap:Array Value} (h:a.eval g= .func (.func f) first cap) (hE:aCq P f) (w:World):
  (do let d ← resolve a.eval {callee:= .value g,args,argTypes} ty;invoke d.target d.args:Sem Next).run P w= .ok (.enter f ((first++args.map a.eval)++cap)) w:=by
 rw [Sem.run_bind,aDd h,Result.andThen_ok]
 exact hE _ _
theorem aH7 {g:HpF} {m:anV} {S:anR} {ρ:Operand→AV} {cρ:Operand→Value} {args:Array Operand} (h:∀ o ∈ args,VR g m S (ρ o) (cρ o)):VRL g m S (args.toList.map ρ) (args.map cρ).toList:=by
 rw [Array.toList_map]
 exact aAy _ fun o ho=>h o (by simpa using ho)
theorem aCD:∀ {l:Hp} {b:Nat} {B:Blk},ad9 l b=some B→(b,B) ∈ l
 | [],_,_,h=>by cases h
 | (k,X)::r,b,B,h=>by
  simp only [ad9] at h
  split at h
  ·rename_i hk
   cases h
   have:=anN hk
   subst this
   exact List.mem_cons_self ..
  ·exact List.mem_cons_of_mem _ (aCD h)
theorem aEK {α β:Type} {f g:α→β}:∀ {l:List α},l.map f=l.map g→∀ {x:α},x ∈ l→f x=g x
 | [],_,_,h=>by cases h
 |a::r,h,x,hx=>by
  simp only [List.map_cons,List.cons.injEq] at h
  rcases List.mem_cons.1 hx with rfl|hx
  ·exact h.1
  ·exact aEK h.2 hx
theorem azK (hap:awf P ap) (hH:awU P ap H) {nid:Nat} {ops:List Oper} {o:Oper} {s s':RS} {p:Option AV} {c c':Cx} (h:aI8 ap H nid ops o s c= .ok (s',p) c') (hc:c'.Ok):
  c.Ok∧(s.md= .dead→az1 s.dec s.env→∃ v rb ups df,aWL P ap ops.toArray o nid s s' p v (aAt o.op.operands.toList++awC ops o) rb ups df):=by
 unfold aI8 at h
 obtain ⟨⟨run,dec⟩,c1,e1,h⟩:=R.bind_ok h
 dsimp only at h
 split at h
 ·cases h
 rename_i hdst
 have hguard:∀ c1ok:c1.Ok,c.Ok∧(az1 s.dec s.env→az1 dec s.env∧(∀ t b,ad9 s.dec t=some b→ad9 dec t=some b)∧∀ g m S (a:Act),(∀ t ∈ awC ops o,VR g m S (s.env.get t) (a.tmps.getD t undef))→Region.wanted o (yielded ops.toArray a.tmps)=run):=fun hk=>aHk e1 hk
 have hopd:∀ {g:HpF} {m:anV} {S:anR} {w:World} {a:Act},apS ap g m S w→(∀ t ∈ aAt o.op.operands.toList++awC ops o,VR g m S (s.env.get t) (a.tmps.getD t undef))→∀ x ∈ o.op.operands,VR g m S (ay_ ap s.env x) (a.eval x):=by
  intro g m S w a hS hv x hx
  refine aBn hS x fun t ht=>hv t ?_
  subst ht
  exact List.mem_append.2 (.inl (aEN (by simpa using hx)))
 split at h
 ·
  cases h
  obtain ⟨hc0,hg⟩:=hguard hc
  refine ⟨hc0,fun hmd hdec=> ?_⟩
  obtain ⟨hd,_,hw⟩:=hg hdec
  refine ⟨.tup [],[],[],[],⟨fun _=>rfl,fun h=>absurd rfl h,rfl,rfl,rfl,fun _=>aBR hd hdst,fun _=>rfl, ?_⟩⟩
  intro g m S w a hS hv _ _ Q K hA
  unfold wpO
  rw [hw g m S a fun t ht=>hv t (List.mem_append.2 (.inr ht))]
  simp only [Bool.false_eq_true,if_false]
  have:=hA undef m S w [] (by rw [avt];exact hS) (by rw [avt];exact Fr.refl _ _ _ _) (by simp only [VR];exact ⟨[],rfl,by simp [VRL]⟩) (by simp [av1])
  exact this
 ·
  have hwant:∀ (Q:Exit→Act→World→Prop) (K:Act→World→Prop) (g:HpF) (m:anV) (S:anR) (a:Act) (w:World),c1.Ok→az1 s.dec s.env→(∀ t ∈ aAt o.op.operands.toList++awC ops o,VR g m S (s.env.get t) (a.tmps.getD t undef))→o.wp P a w K Q→wpO P ops.toArray Q o K a w:=by
   intro Q K g m S a w hk hdec hv hh
   obtain ⟨_,_,hw⟩:=(hguard hk).2 hdec
   unfold wpO
   rw [hw g m S a fun t ht=>hv t (List.mem_append.2 (.inr ht))]
   simp only [if_true]
   exact .inl hh
  split at h
  ·
   rename_i gf args argTypes hop
   split at h
   ·rename_i f first cap hf
    obtain ⟨r,c2,e2,h⟩:=R.bind_ok h
    have hc2:c2.Ok:=by
     revert h
     cases hu:aK9 c2 o.dst with
     | mk u c3=>
      have h3:c3.Ok→c2.Ok:=fun hk=>aOl (by rw [hu];exact hk)
      cases u with
      | true=>
       dsimp only
       cases r.out with
       |ret v=>
        dsimp only
        split
        ·intro h;cases h;exact h3 ⟨hc.bs,fun p hp=>hc.ps p (List.mem_cons_of_mem _ hp)⟩
        ·intro h;cases h
       |pan v=>intro h;cases h
      |false=>dsimp only;cases r.out<;>intro h<;>cases h<;>exact h3 hc
    obtain ⟨hc1,hE,hcall⟩:=aD6 hH e2 hc2
    obtain ⟨hc0,hg⟩:=hguard hc1
    refine ⟨hc0,fun hmd hdec=> ?_⟩
    obtain ⟨hd,_,_⟩:=hg hdec
    have hargs:∀ {g:HpF} {m:anV} {S:anR} {w:World} {a:Act},apS ap g m S w→(∀ t ∈ aAt o.op.operands.toList++awC ops o,VR g m S (s.env.get t) (a.tmps.getD t undef))→
      ∃ vf vc:List Value,a.eval gf= .func (.func f) vf.toArray vc.toArray∧VRL g m S (first++args.toList.map (ay_ ap s.env)++cap) ((vf++(args.map a.eval).toList)++vc):=by
     intro g m S w a hS hv
     have h1:=hopd hS hv
     rw [hop] at h1
     have h2:=h1 gf (by simp [Op.operands,Call.operands])
     rw [hf] at h2
     simp only [VR] at h2
     obtain ⟨vf,vc,h3,h4,h5⟩:=h2
     exact ⟨vf,vc,h3,av2 (av2 h4 (aH7 fun x hx=>h1 x (by simp [Op.operands,Call.operands,hx]))) h5⟩
    have hrun:∀ {a:Act} {vf vc:List Value} (w:World),a.eval gf= .func (.func f) vf.toArray vc.toArray→(execOp a.eval o).run P w= .ok (.enter f (((vf++(args.map a.eval).toList)++vc).toArray)) w:=by
     intro a vf vc w he
     have:=aFX (args:=args) (argTypes:=argTypes) (ty:=o.type) he hE w
     unfold execOp
     rw [hop]
     dsimp only
     rw [this]
     congr 2
     apply Array.toList_inj.1
     simp
    split at h
    ·rename_i c3 hu
     split at h
     ·rename_i v hout
      split at h
      ·rename_i hall
       cases h
       have heq:r.ups.map (fun (q:Nat × Blk)=>some q.2)=r.ups.map (fun (q:Nat × Blk)=>ad9 s.hp q.1):=hc.ps _ (List.mem_cons_self ..)
       refine ⟨v,r.fp,[],[],⟨fun _=>rfl,fun h=>absurd rfl h,rfl,rfl,rfl,fun _=>aBR hd hdst,fun _=>rfl, ?_⟩⟩
       intro g m S w a hS hv hag hfr Q K hA
       have hg':au6 g r.ups=g:=by
        funext b
        unfold au6
        cases hl:ad9 r.ups b with
        |none=>rfl
        |some B=>
         have hm:=aCD hl
         have h1:=aEK heq hm
         exact (hag b (awh.1 (List.all_eq_true.1 hall _ hm)) B h1.symm).symm
       refine hwant Q K g m S a w hc1 hdec hv ?_
       obtain ⟨vf,vc,h1,h2⟩:=hargs hS hv
       unfold Oper.wp
       rw [hrun w h1]
       refine (hcall g m S w _ hS hag hfr h2).mono ?_
       rintro e w' ⟨m',S',h3,h4,h5⟩
       rw [hout] at h5
       obtain ⟨cv,rfl,h6⟩:=h5
       rw [hg'] at h3 h4 h6
       exact hA cv m' S' w' [] h3 h4 h6 (by simp [av1])
      ·cases h
     ·cases h
    ·rename_i c3 hu
     split at h
     ·rename_i v hout
      cases h
      refine ⟨v,r.fp,r.ups,[],⟨fun _=>rfl,fun h=>absurd rfl h,rfl,rfl,rfl,fun _=>aBR hd hdst,fun _=>rfl, ?_⟩⟩
      intro g m S w a hS hv hag hfr Q K hA
      refine hwant Q K g m S a w hc1 hdec hv ?_
      obtain ⟨vf,vc,h1,h2⟩:=hargs hS hv
      unfold Oper.wp
      rw [hrun w h1]
      refine (hcall g m S w _ hS hag hfr h2).mono ?_
      rintro e w' ⟨m',S',h3,h4,h5⟩
      rw [hout] at h5
      obtain ⟨cv,rfl,h6⟩:=h5
      exact hA cv m' S' w' [] h3 h4 h6 (by simp [av1])
     ·rename_i v hout
      cases h
      refine ⟨v,r.fp,r.ups,[],⟨fun h=>(by cases h),fun _=> ⟨rfl,rfl⟩,rfl,rfl,rfl,fun h=>(by cases h),fun h=>(by cases h), ?_⟩⟩
      intro g m S w a hS hv hag hfr Q K hA
      refine hwant Q K g m S a w hc1 hdec hv ?_
      obtain ⟨vf,vc,h1,h2⟩:=hargs hS hv
      unfold Oper.wp
      rw [hrun w h1]
      refine (hcall g m S w _ hS hag hfr h2).mono ?_
      rintro e w' ⟨m',S',h3,h4,h5⟩
      rw [hout] at h5
      obtain ⟨cv,rfl,h6⟩:=h5
      exact hA cv m' S' w' h3 h4 h6
   ·cases h
  ·
   split at h
   ·cases h
    exact ⟨(hguard hc).1,fun hmd=>by simp_all⟩
   ·cases h
    exact ⟨(hguard hc).1,fun hmd=>by simp_all⟩
   ·cases h
  ·
   rename_i gf args argTypes hop
   split at h
   ·rename_i f first cap hf
    cases h
    obtain ⟨hc0,hg⟩:=hguard hc
    refine ⟨hc0,fun hmd hdec=> ?_⟩
    obtain ⟨hd,_,_⟩:=hg hdec
    refine ⟨.dead,[],[],[(f,first++args.toList.map (ay_ ap s.env)++cap)],⟨fun _=>rfl,fun h=>absurd rfl h,rfl,rfl,rfl,fun _=>aBR hd hdst,fun _=>rfl, ?_⟩⟩
    intro g m S w a hS hv hag hfr Q K hA
    refine hwant Q K g m S a w hc hdec hv ?_
    have h1:=hopd hS hv
    rw [hop] at h1
    have h2:=h1 gf (by simp [Op.operands,Call.operands])
    rw [hf] at h2
    simp only [VR] at h2
    obtain ⟨vf,vc,h3,h4,h5⟩:=h2
    unfold Oper.wp
    have hr:(execOp a.eval o).run P w= .ok (.defer {target:= .fn (.func f) vc.toArray,args:=vf.toArray++args.map a.eval}) w:=by
     unfold execOp
     rw [hop]
     dsimp only
     rw [Sem.run_bind,aDd h3,Result.andThen_ok]
     rfl
    rw [hr]
    refine hA undef m S w [{target:= .fn (.func f) vc.toArray,args:=vf.toArray++args.map a.eval}] (by rw [avt];exact hS) (by rw [avt];exact Fr.refl _ _ _ _) (by simp only [VR]) ?_
    simp only [av1,avt,and_true]
    refine ⟨vc.toArray,rfl, ?_⟩
    have:=av2 (av2 h4 (aH7 (args:=args) fun x hx=>h1 x (by simp [Op.operands,Call.operands,hx]))) h5
    simpa using this
   ·cases h
  ·
   rename_i x hop
   split at h
   ·rename_i t v hx
    cases h
    obtain ⟨hc0,hg⟩:=hguard hc
    refine ⟨hc0,fun hmd hdec=> ?_⟩
    obtain ⟨hd,_,_⟩:=hg hdec
    refine ⟨.dead,[],[],[],⟨fun h=>(by cases h),fun _=> ⟨rfl,rfl⟩,rfl,rfl,rfl,fun h=>(by cases h),fun h=>(by cases h), ?_⟩⟩
    intro g m S w a hS hv hag hfr Q K hA
    refine hwant Q K g m S a w hc hdec hv ?_
    have h1:=hopd hS hv
    rw [hop] at h1
    have h2:=h1 x (by simp [Op.operands])
    rw [hx] at h2
    have h2':=h2
    simp only [VR] at h2'
    obtain ⟨u,h3,h4⟩:=h2'
    unfold Oper.wp
    have hr:(execOp a.eval o).run P w= .halt (.panic (a.eval x)) w:=by
     unfold execOp
     rw [hop]
     dsimp only
     rw [h3]
     rfl
    rw [hr]
    exact hA _ m S w (by rw [avt];exact hS) (by rw [avt];exact Fr.refl _ _ _ _) (by rw [avt];exact h2)
   ·cases h
  ·
   rename_i op n1 n2 n3 n4
   obtain ⟨em,c2,e2,h⟩:=R.bind_ok h
   split at h
   ·cases h
   ·rename_i v ups bs hop
    obtain ⟨_,c3,e3,h⟩:=R.bind_ok h
    have hv1:(aEq c3 o.dst v).2.Ok→c3.Ok∧anX v (aEq c3 o.dst v).1:=aOm
    generalize aEq c3 o.dst v=q1 at h hv1
    obtain ⟨v1,c4⟩:=q1
    dsimp only at h hv1
    have hv2:(aEp c4 o.dst ups).2.Ok→c4.Ok∧(aEp c4 o.dst ups).1=ups:=aOk
    generalize aEp c4 o.dst ups=q2 at h hv2
    obtain ⟨ups1,c5⟩:=q2
    dsimp only at h hv2
    cases h
    obtain ⟨hc4,hups⟩:=hv2 hc
    subst hups
    obtain ⟨hc3,hfit⟩:=hv1 hc4
    obtain ⟨hc2,hbs⟩:=aHe e3 hc3
    have hem:c1.Ok∧∀ n,aBV (ay_ ap s.env) o.op=some n→Nat.beq n 0=em:=by
     split at e2
     ·rename_i n hn
      obtain ⟨hk,rfl⟩:=axm e2 hc2
      exact ⟨hk,fun n' hn'=>by rw [hn] at hn';cases hn';rfl⟩
     ·rename_i hn
      cases e2
      exact ⟨hc2,fun n' hn'=>by rw [hn] at hn';cases hn'⟩
    obtain ⟨hc1,hem⟩:=hem
    obtain ⟨hc0,hg⟩:=hguard hc1
    refine ⟨hc0,fun hmd hdec=> ?_⟩
    obtain ⟨hd,_,_⟩:=hg hdec
    refine ⟨v1,aPm (ay_ ap s.env) o.op,ups1,[],⟨fun _=>rfl,fun h=>absurd rfl h,rfl,rfl,rfl,fun _=>aBR hd hdst,fun _=>rfl, ?_⟩⟩
    intro g m S w a hS hv hag hfr Q K hA
    refine hwant Q K g m S a w hc1 hdec hv ?_
    have h1:=hopd hS hv
    have hok:=aMB hap hS (nid:=nid) (hfr 0 (by omega)) (ρ:=ay_ ap s.env) (cρ:=a.eval) (fun b B hb=>by
      split at hb
      ·rename_i hm;exact hag b (awh.1 hm) B hb
      ·cases hb) o h1 (dec:=fun| .tmp t=>ad9 dec t|_=>none) (fun x hx b hb=>by
      split at hb
      ·rename_i t
       have:=hv t (List.mem_append.2 (.inl (aEN (by simpa using hx))))
       rw [hd t b hb] at this
       simp only [VR,PR] at this
       exact this
      ·cases hb) hem hop hbs
    obtain ⟨nx,m',w',h2,h3,h4,h5⟩:=hok
    unfold Oper.wp
    rw [h2]
    rcases h5 with ⟨cv,rfl,h5⟩|⟨rfl,rfl⟩
    ·exact hA cv m' S w' [] h3 h4 (hfit _ _ _ _ h5) (by simp [av1])
    ·exact hA undef m' S w' [] h3 h4 (hfit _ _ _ _ (by simp only [VR])) (by simp [av1])
end
end AM
namespace AM
open Go
theorem azh:∀ {hp:Hp} {b:Nat} {B:Blk},ad9 hp b=some B→b<av3 hp
 | [],b,B,h=>by simp [ad9] at h
 | (c,C)::r,b,B,h=>by
  simp only [ad9] at h
  simp only [av3]
  split at h
  ·rename_i hb
   have hb:=anN hb
   subst hb
   split
   ·rename_i hl;exact avv hl
   ·omega
  ·have ih:=azh h
   split
   ·exact ih
   ·rename_i hl
    have:¬ c<av3 r:=fun hh=>by
     have:Nat.blt c (av3 r)=true:=by
      show Nat.ble (c+1) (av3 r)=true
      exact Nat.ble_eq_true_of_le hh
     rw [this] at hl;cases hl
    omega
theorem aEH:∀ {l:Hp} {b:Nat} {B:Blk},ad9 l b=some B→b ∈ l.map (·.1)
 | [],b,B,h=>by simp [ad9] at h
 |(c,C)::r,b,B,h=>by
  simp only [ad9] at h
  split at h
  ·rename_i hb;simp [anN hb]
  ·simp [aEH h]
structure FR (ap:AP) (env:Env) (hp:Hp) (dfs:List (Nat × List AV)) (nt:Nat) (m:anV) (S:anR) (w:World) (a:Act):Prop where
 srel:apS ap (ad9 hp) m S w
 env:∀ t,VR (ad9 hp) m S (env.get t) (a.tmps.getD t undef)
 dfs:av1 (ad9 hp) m S dfs a.defers
 size:a.tmps.size=nt
theorem aIQ (a:Act) (d:Option Nat) (v:Value):(a.put d v).tmps.size=a.tmps.size:=by
 cases d<;>simp [Act.put]
theorem aE1 (a:Act) (d:Option Nat) (v:Value):(a.put d v).defers=a.defers:=by
 cases d<;>simp [Act.put]
theorem aE3 (a:Act) (d:Option Nat) (v:Value) {t:Nat} (h:d ≠ some t):(a.put d v).tmps.getD t undef=a.tmps.getD t undef:=by
 cases d with
 |none=>rfl
 |some d=>
  have hne:d ≠ t:=fun e=>h (by rw [e])
  simp only [Act.put,Array.getD_eq_getD_getElem?]
  rw [Array.getElem?_setIfInBounds_ne hne]
theorem aE2 (a:Act) (d:Nat) (v:Value) (h:d<a.tmps.size):(a.put (some d) v).tmps.getD d undef=v:=by
 simp only [Act.put,Array.getD_eq_getD_getElem?]
 rw [Array.getElem?_setIfInBounds_self_of_lt h];rfl
theorem awr {env:Env} {d:Nat} {v:AV}:(ayT env (some d) v).get d=v:=by simp [ayT,Env.get,ad9]
theorem aB0 {env:Env} {dst:Option Nat} {v:AV} {t:Nat} (h:dst ≠ some t):(ayT env dst v).get t=env.get t:=by
 cases dst with
 |none=>rfl
 | some d=>
  have hne:Nat.beq d t=false:=by
   cases hb:Nat.beq d t with
   |false=>rfl
   |true=>exact absurd (by rw [anN hb]) h
  simp [ayT,Env.get,ad9,hne]
section
variable {P:Program} {ap:AP} {H:aug}
theorem FR.put {env:Env} {hp ups:Hp} {dfs df:List (Nat × List AV)} {nt:Nat} {m m':anV} {S S':anR} {w w':World} {a:Act} (h:FR ap env hp dfs nt m S w a) {dst:Option Nat} (hd:∀ d,dst=some d→d<nt) {v:AV} {cv:Value} {ds:List Deferred}
  (h1:apS ap (au6 (ad9 hp) ups) m' S' w') (h2:Fr (ad9 hp) m S w (au6 (ad9 hp) ups) m' S' w') (h3:VR (au6 (ad9 hp) ups) m' S' v cv) (h4:av1 (au6 (ad9 hp) ups) m' S' df ds):
  FR ap (ayT env dst v) (ups++hp) (df++dfs) nt m' S' w' ({a with defers:=ds++a.defers}.put dst cv):=by
 rw [aw7] at h1 h2 h3 h4
 refine ⟨h1, ?_, ?_, ?_⟩
 ·intro t
  by_cases ht:dst=some t
  ·subst ht
   rw [awr,aE2 _ _ _ (by have:=hd t rfl;have:=h.size;simpa [this] using hd t rfl)]
   exact h3
  ·rw [aB0 ht,aE3 _ _ _ ht]
   exact ayu h2.sle h2.ge _ (h.env t)
 ·rw [aE1]
  exact aCW h4 (aAw h2.sle h2.ge h.dfs)
 ·rw [aIQ];exact h.size
theorem FR.still {env:Env} {hp ups:Hp} {dfs:List (Nat × List AV)} {nt:Nat} {m m':anV} {S S':anR} {w w':World} {a:Act} (h:FR ap env hp dfs nt m S w a)
  (h1:apS ap (au6 (ad9 hp) ups) m' S' w') (h2:Fr (ad9 hp) m S w (au6 (ad9 hp) ups) m' S' w'):FR ap env (ups++hp) dfs nt m' S' w' a:=by
 rw [aw7] at h1 h2
 exact ⟨h1,fun t=>ayu h2.sle h2.ge _ (h.env t),aAw h2.sle h2.ge h.dfs,h.size⟩
def aBH (ap:AP) (hp0:Hp) (m:anV) (S:anR) (w:World) (nt:Nat) (env:Env) (hp:Hp) (dfs:List (Nat × List AV)) (Q:Exit→Act→World→Prop):Option AV→Prop
 |none=> ∀ m' S' w' a',Fr (ad9 hp0) m S w (ad9 hp) m' S' w'→FR ap env hp dfs nt m' S' w' a'→Q .normal a' w'
 |some v=> ∀ m' S' w' a' cv,Fr (ad9 hp0) m S w (ad9 hp) m' S' w'→FR ap env hp dfs nt m' S' w' a'→VR (ad9 hp) m' S' v cv→Q (.panic [{v:=cv,recovered:=false}]) a' w'
theorem azW {ops:Array Oper} {Q:Exit→Act→World→Prop} {i:Nat} {o:Oper} (ho:ops[i]? =some o) (rest:List Nat) (a:Act) (w:World):wpOps P ops Q (i::rest) a w↔wpO P ops Q o (wpOps P ops Q rest) a w:=by
 simp only [wpOps,ho,wpO]
theorem aJ_ {hp ups:Hp} {nid:Nat} (hk:∀ b B,ad9 hp b=some B→b<nid) (hw:(ups.map (·.1)).all (fun x=>Nat.blt x (nid+4))=true):∀ b B,ad9 (ups++hp) b=some B→b<nid+4:=by
 intro b B hb
 rw [avU] at hb
 split at hb
 ·rename_i x hx
  have hm:b ∈ ups.map (·.1):=aEH hx
  exact avv (List.all_eq_true.1 hw b hm)
 ·have:=hk b B hb;omega
theorem axX (hap:awf P ap) (hH:awU P ap H) {ops:List Oper} {nt:Nat} (hnt:∀ o ∈ ops,∀ d,o.dst=some d→d<nt):∀ (l:List Oper) (i nid:Nat) (s s':RS) (p:Option AV) (c c':Cx),azL ap H ops l nid s c= .ok (s',p) c'→c'.Ok→
  c.Ok∧(s.md= .dead→az1 s.dec s.env→l=ops.drop i→(∀ b B,ad9 s.hp b=some B→b<nid)→
  s'.md= .dead∧∀ m S w a,FR ap s.env s.hp s.dfs nt m S w a→∀ Q,aBH ap s.hp m S w nt s'.env s'.hp s'.dfs Q p→wpOps P ops.toArray Q (List.range' i l.length) a w)
 | [],i,nid,s,s',p,c,c',h,hc=>by
  cases h
  exact ⟨hc,fun hmd _ _ _=> ⟨hmd,fun m S w a hF Q hQ=>hQ m S w a (Fr.refl _ _ _ _) hF⟩⟩
 | o ::r,i,nid,s,s',p,c,c',h,hc=>by
  simp only [azL] at h
  obtain ⟨⟨s1,p1⟩,c1,e1,h⟩:=R.bind_ok h
  dsimp only at h
  have hfresh:(∀ b B,ad9 s.hp b=some B→b<nid)→∀ j,j<4→ad9 s.hp (nid+j)=none:=by
   intro hk j _
   cases hb:ad9 s.hp (nid+j) with
   |none=>rfl
   |some B=>have:=hk _ _ hb;omega
  have hpre:o::r=ops.drop i→ops[i]? =some o∧ops.toArray[i]? =some o∧r=ops.drop (i+1)∧∀ d,o.dst=some d→d<nt:=by
   intro hl
   have hoi:ops[i]? =some o:=by
    have:(ops.drop i)[0]? =some o:=by rw [← hl];rfl
    simpa using this
   have hr:r=ops.drop (i+1):=by
    have:r=(ops.drop i).drop 1:=by rw [← hl];rfl
    rw [this,List.drop_drop]
   exact ⟨hoi,by simpa using hoi,hr,hnt o (List.mem_of_getElem? hoi)⟩
  cases p1 with
  |some v=>
   cases h
   obtain ⟨hc0,hss⟩:=azK hap hH e1 hc
   refine ⟨hc0,fun hmd hdec hl hk=> ?_⟩
   obtain ⟨hoi,hoi',hr,hd⟩:=hpre hl
   obtain ⟨v1,rb,ups,df,hs⟩:=hss hmd hdec
   refine ⟨by rw [hs.md,hmd],fun m S w a hF Q hQ=> ?_⟩
   rw [List.length_cons,List.range'_succ,azW hoi']
   refine hs.sem (ad9 s.hp) m S w a hF.srel (fun t _=>hF.env t) (fun b _ B hB=>hB) (hfresh hk) Q _ ?_
   intro cv m' S' w' h1 h2 h3
   have hst:=hF.still h1 h2
   rw [aw7] at h2 h3
   obtain ⟨henv,rfl⟩:=hs.envp (by simp)
   have hQ:=hQ m' S' w' a cv
   rw [hs.hp,hs.dfs,henv] at hQ
   exact hQ h2 hst h3
  | none=>
   dsimp only at h
   cases hft:s1.feet with
   |nil=>rw [hft] at h;cases h
   | cons ft fr=>
    rw [hft] at h
    dsimp only at h
    split at h
    ·rename_i hwb
     obtain ⟨hc1,ih⟩:=axX hap hH hnt r (i+1) (nid+4) s1 s' p c1 c' h hc
     obtain ⟨hc0,hss⟩:=azK hap hH e1 hc1
     refine ⟨hc0,fun hmd hdec hl hk=> ?_⟩
     obtain ⟨hoi,hoi',hr,hd⟩:=hpre hl
     obtain ⟨v1,rb,ups,df,hs⟩:=hss hmd hdec
     have hfe:=hs.feet rfl
     rw [hft] at hfe
     simp only [List.cons.injEq] at hfe
     rw [hfe.1] at hwb
     obtain ⟨hmd',ih⟩:=ih (by rw [hs.md,hmd]) (hs.dec rfl) hr (by rw [hs.hp];exact aJ_ hk hwb)
     refine ⟨hmd',fun m S w a hF Q hQ=> ?_⟩
     rw [List.length_cons,List.range'_succ,azW hoi']
     refine hs.sem (ad9 s.hp) m S w a hF.srel (fun t _=>hF.env t) (fun b _ B hB=>hB) (hfresh hk) Q _ ?_
     intro cv m' S' w' ds h1 h2 h3 h4
     have hF':=hF.put hd h1 h2 h3 h4
     rw [aw7] at h2
     have henv:=hs.env rfl
     rw [← henv,← hs.hp,← hs.dfs] at hF'
     refine ih m' S' w' _ hF' Q ?_
     rw [← hs.hp] at h2
     cases p with
     |none=>exact fun m2 S2 w2 a2 h5 h6=>hQ m2 S2 w2 a2 (h2.trans h5) h6
     |some v=>exact fun m2 S2 w2 a2 cv2 h5 h6 h7=>hQ m2 S2 w2 a2 cv2 (h2.trans h5) h6 h7
    ·cases h
end
end AM
namespace AM
open Go
structure Rec where
 dst:Option Nat
 v:AV
 rt:List Nat
 rb:List Nat
 ups:List (Nat × Blk)
def aK5 (d:Option Nat):List Nat:=match d with|some d=> [d]|none=> []
def Rec.foot (r:Rec):aBf:={rt:=r.rt,wt:=aK5 r.dst,rb:=r.rb,wb:=r.ups.map (·.1)}
def axE (D:Nat→Bool):Nat→Env→List Rec→Env
 |_,e,[]=>e
 |j,e,r::rs=>axE D (j+1) (match D j with|true=>ayT e r.dst r.v|false=>e) rs
def hpD (D:Nat→Bool):Nat→Hp→List Rec→Hp
 |_,h,[]=>h
 |j,h,r::rs=>hpD D (j+1) (match D j with|true=>r.ups++h|false=>h) rs
theorem ax7 {D D':Nat→Bool} {t:Nat}:∀ (rs:List Rec) (j:Nat) (e e':Env),e.get t=e'.get t→(∀ k r,rs[k]? =some r→r.dst=some t→D (j+k)=D' (j+k))→(axE D j e rs).get t=(axE D' j e' rs).get t
 | [],_,_,_,he,_=>he
 | r::rs,j,e,e',he,h=>by
  simp only [axE]
  refine ax7 rs (j+1) _ _ ?_ fun k r' hk hd=> ?_
  ·by_cases hd:r.dst=some t
   ·have h0:=h 0 r rfl hd
    rw [Nat.add_zero] at h0
    rw [h0]
    cases D' j with
    |true=>simp only [hd,awr]
    |false=>exact he
   ·cases D j<;>cases D' j<;>simp only [aB0 hd,he]
  ·have:=h (k+1) r' (by simpa using hk) hd
   rwa [show j+(k+1)=j+1+k by omega] at this
theorem aHr:∀ {l:Hp} {b:Nat},b ∉ l.map (·.1)→ad9 l b=none:=by
 intro l b h
 cases hl:ad9 l b with
 |none=>rfl
 |some B=>exact absurd (aEH hl) h
theorem azz {ups hp:Hp} {b:Nat} (h:b ∉ ups.map (·.1)):ad9 (ups++hp) b=ad9 hp b:=by
 rw [avU,aHr h]
theorem aAk:∀ {l:Hp} {b:Nat},b ∈ l.map (·.1)→∃ B,ad9 l b=some B
 | [],b,h=>by simp at h
 | (c,C)::r,b,h=>by
  simp only [ad9]
  cases hb:Nat.beq c b with
  |true=>exact ⟨C,rfl⟩
  |false=>
   simp only [List.map_cons,List.mem_cons] at h
   rcases h with h|h
   ·subst h;simp at hb
   ·exact aAk h
theorem aB6 {ups hp hp':Hp} {b:Nat} (h:b ∈ ups.map (·.1)):ad9 (ups++hp) b=ad9 (ups++hp') b:=by
 obtain ⟨B,hB⟩:=aAk h
 rw [avU,avU,hB]
theorem azb {D D':Nat→Bool} {b:Nat}:∀ (rs:List Rec) (j:Nat) (h h':Hp),ad9 h b=ad9 h' b→(∀ k r,rs[k]? =some r→b ∈ r.ups.map (·.1)→D (j+k)=D' (j+k))→ad9 (hpD D j h rs) b=ad9 (hpD D' j h' rs) b
 | [],_,_,_,he,_=>he
 | r::rs,j,e,e',he,h=>by
  simp only [hpD]
  refine azb rs (j+1) _ _ ?_ fun k r' hk hd=> ?_
  ·by_cases hd:b ∈ r.ups.map (·.1)
   ·have h0:=h 0 r rfl hd
    rw [Nat.add_zero] at h0
    rw [h0]
    cases D' j with
    |true=>exact aB6 hd
    |false=>exact he
   ·cases D j<;>cases D' j<;>simp only [azz hd,he]
  ·have:=h (k+1) r' (by simpa using hk) hd
   rwa [show j+(k+1)=j+1+k by omega] at this
theorem aAE:∀ (rs:List Rec) (j:Nat) (e:Env) {D:Nat→Bool},(∀ k,k<rs.length→D (j+k)=false)→axE D j e rs=e
 | [],_,_,_,_=>rfl
 |r::rs,j,e,D,h=>by
  have h0:=h 0 (by simp)
  rw [Nat.add_zero] at h0
  simp only [axE,h0]
  exact aAE rs (j+1) e fun k hk=>by have:=h (k+1) (by simpa using hk);rwa [show j+(k+1)=j+1+k by omega] at this
theorem aya:∀ (rs:List Rec) (j:Nat) (e:Hp) {D:Nat→Bool},(∀ k,k<rs.length→D (j+k)=false)→hpD D j e rs=e
 | [],_,_,_,_=>rfl
 |r::rs,j,e,D,h=>by
  have h0:=h 0 (by simp)
  rw [Nat.add_zero] at h0
  simp only [hpD,h0]
  exact aya rs (j+1) e fun k hk=>by have:=h (k+1) (by simpa using hk);rwa [show j+(k+1)=j+1+k by omega] at this
def ayq (e:Env) (rs:List Rec):Env:=axE (fun _=>true) 0 e rs
def hpL (h:Hp) (rs:List Rec):Hp:=hpD (fun _=>true) 0 h rs
theorem aBm (D:Nat→Bool):∀ (rs:List Rec) (j d:Nat) (e:Env),axE D (j+d) e rs=axE (fun k=>D (k+d)) j e rs
 | [],_,_,_=>rfl
 |r::rs,j,d,e=>by
  simp only [axE]
  rw [show j+d+1=j+1+d by omega]
  exact aBm D rs (j+1) d _
theorem aCy (D:Nat→Bool):∀ (rs:List Rec) (j d:Nat) (e:Hp),hpD D (j+d) e rs=hpD (fun k=>D (k+d)) j e rs
 | [],_,_,_=>rfl
 |r::rs,j,d,e=>by
  simp only [hpD]
  rw [show j+d+1=j+1+d by omega]
  exact aCy D rs (j+1) d _
theorem aAF (e:Env) (r:Rec) (rs:List Rec):ayq e (r::rs)=ayq (ayT e r.dst r.v) rs:=by
 simp only [ayq,axE]
 exact aBm (fun _=>true) rs 0 1 _
theorem aB3 (h:Hp) (r:Rec) (rs:List Rec):hpL h (r::rs)=hpL (r.ups++h) rs:=by
 simp only [hpL,hpD]
 exact aCy (fun _=>true) rs 0 1 _
theorem aBW:∀ (rs:List Rec) (k:Nat) (e:Env),axE (fun j=>decide (j<k)) 0 e rs=ayq e (rs.take k)
 |rs,0,e=>by
  simp only [List.take_zero]
  exact aAE rs 0 e fun _ _=>by simp
 | [],k+1,e=>rfl
 |r::rs,k+1,e=>by
  simp only [List.take_succ_cons,aAF,axE]
  rw [show decide (0<k+1)=true by simp]
  dsimp only
  rw [← aBW rs k]
  have:=aBm (fun j=>decide (j<k+1)) rs 0 1 (ayT e r.dst r.v)
  rw [this]
  congr 1
  funext j
  simp
theorem aJ1:∀ (rs:List Rec) (k:Nat) (e:Hp),hpD (fun j=>decide (j<k)) 0 e rs=hpL e (rs.take k)
 |rs,0,e=>by
  simp only [List.take_zero]
  exact aya rs 0 e fun _ _=>by simp
 | [],k+1,e=>rfl
 |r::rs,k+1,e=>by
  simp only [List.take_succ_cons,aB3,hpD]
  rw [show decide (0<k+1)=true by simp]
  dsimp only
  rw [← aJ1 rs k]
  have:=aCy (fun j=>decide (j<k+1)) rs 0 1 (r.ups++e)
  rw [this]
  congr 1
  funext j
  simp
theorem aGh (e:Env):∀ (rs:List Rec) (k:Nat) (r:Rec),rs[k]? =some r→ayq e (rs.take (k+1))=ayT (ayq e (rs.take k)) r.dst r.v:=by
 intro rs
 induction rs generalizing e with
 |nil=>intro k r h;simp at h
 | cons a rs ih=>
  intro k r h
  cases k with
  |zero=>simp at h;subst h;rfl
  |succ k=>
   simp only [List.take_succ_cons,aAF]
   exact ih _ k r (by simpa using h)
theorem aOp (e:Hp):∀ (rs:List Rec) (k:Nat) (r:Rec),rs[k]? =some r→hpL e (rs.take (k+1))=r.ups++hpL e (rs.take k):=by
 intro rs
 induction rs generalizing e with
 |nil=>intro k r h;simp at h
 | cons a rs ih=>
  intro k r h
  cases k with
  |zero=>simp at h;subst h;rfl
  |succ k=>
   simp only [List.take_succ_cons,aB3]
   exact ih _ k r (by simpa using h)
section
variable {P:Program} {ap:AP} {H:aug}
structure aNx (P:Program) (ap:AP) (ops:List Oper) (i nid:Nat) (s s':RS) (recs:List Rec):Prop where
 env:s'.env=ayq s.env recs
 hp:s'.hp=hpL s.hp recs
 feet:s'.feet=(recs.map Rec.foot).reverse++s.feet
 dle:s.dfs.length≤s'.dfs.length
 bound:∀ (k:Nat) (r:Rec),recs[k]? =some r→∀ b ∈ r.ups.map (·.1),b<nid+4*k+4
 sem:s'.dfs.length=s.dfs.length→s'.dfs=s.dfs∧∀ (k:Nat) (r:Rec),recs[k]? =some r→∃ o,ops[i+k]? =some o∧r.dst=o.dst∧aGW P ap ops.toArray o (nid+4*k) (ayq s.env (recs.take k)) (hpL s.hp (recs.take k)) r.rt r.rb r.v r.ups [] none
theorem aPX (hap:awf P ap) (hH:awU P ap H) {ops:List Oper}:∀ (l:List Oper) (i nid:Nat) (s s':RS) (c c':Cx),azL ap H ops l nid s c= .ok (s',none) c'→c'.Ok→
  c.Ok∧(s.md= .dead→az1 s.dec s.env→l=ops.drop i→s'.md= .dead∧∃ recs:List Rec,recs.length=l.length∧aNx P ap ops i nid s s' recs)
 | [],i,nid,s,s',c,c',h,hc=>by
  cases h
  exact ⟨hc,fun hmd _ _=> ⟨hmd,[],rfl,⟨rfl,rfl,rfl,Nat.le_refl _,fun k r h=>by simp at h,fun _=> ⟨rfl,fun k r h=>by simp at h⟩⟩⟩⟩
 | o :: r,i,nid,s,s',c,c',h,hc=>by
  simp only [azL] at h
  obtain ⟨⟨s1,p1⟩,c1,e1,h⟩:=R.bind_ok h
  dsimp only at h
  cases p1 with
  |some v=>cases h
  | none=>
   dsimp only at h
   cases hft:s1.feet with
   |nil=>rw [hft] at h;cases h
   | cons ft fr=>
    rw [hft] at h
    dsimp only at h
    split at h
    ·rename_i hwb
     obtain ⟨hc1,ih⟩:=aPX hap hH r (i+1) (nid+4) s1 s' c1 c' h hc
     obtain ⟨hc0,hss⟩:=azK hap hH e1 hc1
     refine ⟨hc0,fun hmd hdec hl=> ?_⟩
     have hoi:ops[i]? =some o:=by
      have:(ops.drop i)[0]? =some o:=by rw [← hl];rfl
      simpa using this
     have hr:r=ops.drop (i+1):=by
      have:r=(ops.drop i).drop 1:=by rw [← hl];rfl
      rw [this,List.drop_drop]
     obtain ⟨v1,rb,ups,df,hs⟩:=hss hmd hdec
     have hfe:=hs.feet rfl
     rw [hft] at hfe
     simp only [List.cons.injEq] at hfe
     rw [hfe.1] at hwb
     obtain ⟨hmd',recs,hlen,ht⟩:=ih (by rw [hs.md,hmd]) (hs.dec rfl) hr
     refine ⟨hmd',{dst:=o.dst,v:=v1,rt:=aAt o.op.operands.toList++awC ops o,rb:=rb,ups:=ups}::recs,by simp [hlen], ?_⟩
     have hdl:s.dfs.length≤s1.dfs.length:=by rw [hs.dfs];simp
     refine ⟨?_, ?_, ?_,Nat.le_trans hdl ht.dle, ?_, ?_⟩
     ·rw [ht.env,aAF,hs.env rfl]
     ·rw [ht.hp,aB3,hs.hp]
     ·rw [ht.feet,hs.feet rfl]
      simp [Rec.foot,aK5,aHc]
      cases o.dst<;>rfl
     ·intro k q hk b hb
      cases k with
      |zero=>
       simp at hk
       subst hk
       exact avv (List.all_eq_true.1 hwb b hb)
      |succ k=>
       have:=ht.bound k q (by simpa using hk) b hb
       omega
     ·intro he
      have h1:=ht.dle
      obtain ⟨hd1,hsem⟩:=ht.sem (by omega)
      have hdf:df= []:=by
       have:df.length=0:=by
        have:=hs.dfs
        have h3:s1.dfs.length=df.length+s.dfs.length:=by rw [this];simp
        omega
       exact List.eq_nil_of_length_eq_zero this
      subst hdf
      refine ⟨by rw [hd1,hs.dfs];rfl, ?_⟩
      intro k q hk
      cases k with
      |zero=>
       simp at hk
       subst hk
       exact ⟨o,hoi,rfl,hs.sem⟩
      |succ k=>
       obtain ⟨o2,h4,h5,h6⟩:=hsem k q (by simpa using hk)
       refine ⟨o2,by rw [show i+(k+1)=i+1+k by omega];exact h4,h5, ?_⟩
       rw [List.take_succ_cons,aAF,aB3]
       rw [hs.env rfl,hs.hp] at h6
       rw [show nid+4*(k+1)=nid+4+4*k by omega]
       exact h6
    ·cases h
end
end AM
namespace AM
open Go
theorem aEl {md:Region.Mode} (acc:Array Nat) (i:Nat):∀ (l:List Edge) (s:Nat),(l.foldl (fun s e=>if Region.binds md e then s|||2^e.on|||acc.getD e.on 0 else s) s).testBit i=true→
  s.testBit i=true∨∃ e ∈ l,Region.binds md e=true∧(i=e.on∨(acc.getD e.on 0).testBit i=true)
 | [],s,h=> .inl h
 | e::r,s,h=>by
  simp only [List.foldl_cons] at h
  rcases aEl acc i r _ h with h1|⟨e',h1,h2⟩
  ·split at h1
   ·rename_i hb
    simp only [Nat.testBit_or,Bool.or_eq_true,Nat.testBit_two_pow,decide_eq_true_eq] at h1
    rcases h1 with (h1|h1)|h1
    ·exact .inl h1
    ·exact .inr ⟨e,by simp,hb,.inl h1.symm⟩
    ·exact .inr ⟨e,by simp,hb,.inr h1⟩
   ·exact .inl h1
  ·exact .inr ⟨e',by simp [h1],h2⟩
def ayx (acc:Array Nat) (o:Oper):Array Nat:=acc.push (o.after.toList.foldl (fun s e=>if Region.binds .any e then s|||2^e.on|||acc.getD e.on 0 else s) 0)
theorem aEm (acc:Array Nat) (x:Nat):(acc.push x).getD acc.size 0=x:=by simp [Array.getD_eq_getD_getElem?]
def aDw (ops:List Oper) (D:Nat→Bool):Prop:=∀ (k:Nat) (o:Oper),ops[k]? =some o→D k=true→∀ e ∈ o.after,Region.binds .any e=true→D e.on=true
def aTb (D:Nat→Bool) (acc:Array Nat):Prop:=∀ k,D k=true→∀ i,(acc.getD k 0).testBit i=true→D i=true
theorem aKX {ops:List Oper} {D:Nat→Bool} (hD:aDw ops D):∀ (l:List Oper) (acc:Array Nat),aTb D acc→l=ops.drop acc.size→aTb D (l.foldl ayx acc)
 | [],acc,h,_=>h
 | o ::r,acc,h,hl=>by
  simp only [List.foldl_cons]
  have hoi:ops[acc.size]? =some o:=by
   have:(ops.drop acc.size)[0]? =some o:=by rw [← hl];rfl
   simpa using this
  refine aKX hD r _ ?_ ?_
  ·intro k hk i hi
   by_cases hks:k<acc.size
   ·refine h k hk i ?_
    simpa [ayx,Array.getD_eq_getD_getElem?,Array.getElem?_push,Nat.ne_of_lt hks] using hi
   ·by_cases hke:k=acc.size
    ·subst hke
     rw [ayx,aEm] at hi
     rcases aEl acc i _ _ hi with h1|⟨e,h1,h2,h3⟩
     ·simp at h1
     ·have he:=hD _ o hoi hk e (by simpa using h1) h2
      rcases h3 with rfl|h3
      ·exact he
      ·exact h _ he i h3
    ·have:(ayx acc o)[k]? =none:=by
      simp only [ayx]
      rw [Array.getElem?_eq_none];simp;omega
     simp [Array.getD_eq_getD_getElem?,this] at hi
  ·have:(ayx acc o).size=acc.size+1:=by simp [ayx]
   rw [this,← List.drop_drop,← hl];rfl
theorem aLY (ops:List Oper):Region.before ops.toArray=ops.foldl ayx #[]:=by
 simp only [Region.before,← Array.foldl_toList]
 rfl
theorem ayM {ops:List Oper} {D:Nat→Bool} (hD:aDw ops D) {k i:Nat} (hk:D k=true) (h:((Region.before ops.toArray).toList.getD k 0).testBit i=true):D i=true:=by
 have:=aKX hD ops #[] (fun k _ i hi=>by simp at hi) (by simp)
 rw [← aLY] at this
 refine this k hk i ?_
 rw [List.getD_eq_getElem?_getD] at h
 rw [Array.getD_eq_getD_getElem?]
 simpa using h
theorem aze {a b:List Nat} {x:Nat} (ha:x ∈ a) (hb:x ∈ b):aEL a b=true:=List.any_eq_true.2 ⟨x,ha,awh.2 hb⟩
structure aGV (n:Nat) (bef:Nat→Nat→Bool) (recs:List Rec):Prop where
 ok:∀ i j a b,recs[i]? =some a→recs[j]? =some b→i<j→(aw3 a.foot b.foot=true∨∃ x ∈ b.ups.map (·.1),n+4*i≤x∧x<n+4*i+4)→bef j i=true
theorem aEW {n:Nat} {bef:List Nat} {recs:List Rec} (h:aAn n bef (recs.map Rec.foot).reverse=true):aGV n (fun j i=>(bef.getD j 0).testBit i) recs:=by
 refine ⟨fun i j a b ha hb hij hc=> ?_⟩
 simp only [aAn,List.reverse_reverse,List.all_eq_true] at h
 have h1:=h (a.foot,i) (by rw [List.mem_zipIdx_iff_getElem?];simp [ha]) (b.foot,j) (by rw [List.mem_zipIdx_iff_getElem?];simp [hb])
 simp only [Bool.or_eq_true,Bool.not_eq_true'] at h1
 rcases h1 with (h1|h1)|h1
 ·have:Nat.blt i j=true:=Nat.ble_eq_true_of_le hij
  rw [this] at h1;cases h1
 ·exfalso
  rw [Bool.or_eq_false_iff] at h1
  rcases hc with hc|⟨x,hx,h2,h3⟩
  ·rw [hc] at h1;cases h1.1
  ·have:=List.any_eq_false.1 h1.2 x hx
   simp only [Bool.and_eq_true,not_and] at this
   exact this (Nat.ble_eq_true_of_le h2) (Nat.ble_eq_true_of_le h3)
 ·exact h1
section
variable {P:Program} {ap:AP} {H:aug}
theorem FR.congr {env env':Env} {hp hp':Hp} {dfs:List (Nat × List AV)} {nt:Nat} {m:anV} {S:anR} {w:World} {a:Act} (h:FR ap env hp dfs nt m S w a) (he:∀ t,env'.get t=env.get t) (hh:ad9 hp'=ad9 hp):FR ap env' hp' dfs nt m S w a:=by
 refine ⟨hh ▸ h.srel,fun t=> ?_,hh ▸ h.dfs,h.size⟩
 rw [he,hh];exact h.env t
def dOf (listed:Array Bool):Nat→Bool:=fun k=>listed.getD k false
theorem aQT {listed:Array Bool} {i:Nat} (hi:i<listed.size) (k:Nat):dOf (listed.setIfInBounds i true) k=(if k=i then true else dOf listed k):=by
 simp only [dOf,Array.getD_eq_getD_getElem?]
 by_cases h:k=i
 ·subst h;rw [if_pos rfl,Array.getElem?_setIfInBounds_self_of_lt hi];rfl
 ·rw [if_neg h,Array.getElem?_setIfInBounds_ne (fun e=>h e.symm)]
def aDI (n:Nat) (D:Nat→Bool):Nat:=((List.range n).filter fun i=> !D i).length
theorem aC9 {D D':Nat→Bool} {i:Nat} (hi:D i=false) (hD':∀ k,D' k=if k=i then true else D k):∀ (l:List Nat),l.Nodup→i ∈ l→(l.filter fun k=> !D k).length=(l.filter fun k=> !D' k).length+1
 | [],_,h=>by simp at h
 | a::r,hn,h=>by
  rw [List.nodup_cons] at hn
  by_cases ha:a=i
  ·subst ha
   have hsame:r.filter (fun k=> !D k)=r.filter (fun k=> !D' k):=by
    refine List.filter_congr fun k hk=> ?_
    have:k ≠ a:=fun e=>hn.1 (e ▸ hk)
    rw [hD' k,if_neg this]
   have h1:D' a=true:=by rw [hD' a,if_pos rfl]
   simp [hi,h1,hsame]
  ·have h2:=aC9 hi hD' r hn.2 (by simpa [Ne.symm ha] using h)
   have:D' a=D a:=by rw [hD' a,if_neg ha]
   simp only [List.filter_cons,this]
   split<;>simp [h2]
theorem aPn {ops:List Oper} (hb:azx ops=true) {listed:Array Bool} (hsz:listed.size=ops.length) (hnil:Region.ready .any ops.toArray listed= []):∀ k,k<ops.length→dOf listed k=true:=by
 intro k
 induction k using Nat.strongRecOn with
 | _ k ih=>
  intro hk
  cases hd:dOf listed k with
  |true=>rfl
  | false=>
   exfalso
   have hmem:k ∈ Region.ready .any ops.toArray listed:=by
    simp only [Region.ready,List.mem_filter,List.mem_range,List.size_toArray]
    refine ⟨hk, ?_⟩
    have h1:listed.getD k true=false:=by
     simp only [dOf,Array.getD_eq_getD_getElem?] at hd ⊢
     rw [Array.getElem?_eq_getElem (by omega)] at hd ⊢
     simpa using hd
    have h2:ops.toArray[k]? =some ops[k]:=by simp [hk]
    rw [h1,h2]
    simp only [Bool.not_false,Bool.true_and,Option.map_some,Option.getD_some,Array.all_eq_true',Bool.or_eq_true,Bool.not_eq_true']
    intro e he
    cases hbe:Region.binds .any e with
    |false=>exact .inl rfl
    |true=>
     right
     simp only [azx,List.all_eq_true] at hb
     have h3:=hb (ops[k],k) (by rw [List.mem_zipIdx_iff_getElem?];simp [hk]) e (by simpa using he)
     rw [hbe] at h3
     simp only [Bool.not_true,Bool.false_or] at h3
     have h4:=avv h3
     exact ih e.on h4 (by omega)
   rw [hnil] at hmem
   cases hmem
theorem aE6 {ops:List Oper} {listed:Array Bool} (hsz:listed.size=ops.length) {i:Nat} (h:i ∈ Region.ready .any ops.toArray listed):∃ o,ops[i]? =some o∧dOf listed i=false∧i<ops.length∧∀ e ∈ o.after,Region.binds .any e=true→dOf listed e.on=true:=by
 simp only [Region.ready,List.mem_filter,List.mem_range,List.size_toArray,Bool.and_eq_true,Bool.not_eq_true'] at h
 obtain ⟨hi,h1,h2⟩:=h
 have h3:ops.toArray[i]? =some ops[i]:=by simp [hi]
 rw [h3] at h2
 simp only [Option.map_some,Option.getD_some,Array.all_eq_true',Bool.or_eq_true,Bool.not_eq_true'] at h2
 refine ⟨ops[i],List.getElem?_eq_getElem hi, ?_,hi,fun e he hb=> ?_⟩
 ·simp only [dOf,Array.getD_eq_getD_getElem?] at h1 ⊢
  rw [Array.getElem?_eq_getElem (by omega)] at h1 ⊢
  simpa using h1
 ·rcases h2 e he with h|h
  ·rw [hb] at h;cases h
  ·exact h
end
end AM
namespace AM
open Go
theorem aNL {a b:aBf} {x:Nat} (h:x ∈ a.wt) (h':x ∈ b.rt):aw3 a b=true:=by simp [aw3,aze h h']
theorem aIf {a b:aBf} {x:Nat} (h:x ∈ a.wt) (h':x ∈ b.wt):aw3 a b=true:=by simp [aw3,aze h h']
theorem aNK {a b:aBf} {x:Nat} (h:x ∈ a.rt) (h':x ∈ b.wt):aw3 a b=true:=by simp [aw3,aze h h']
theorem aL2 {a b:aBf} {x:Nat} (h:x ∈ a.wb) (h':x ∈ b.rb):aw3 a b=true:=by simp [aw3,aze h h']
theorem aF9 {a b:aBf} {x:Nat} (h:x ∈ a.wb) (h':x ∈ b.wb):aw3 a b=true:=by simp [aw3,aze h h']
theorem aL1 {a b:aBf} {x:Nat} (h:x ∈ a.rb) (h':x ∈ b.wb):aw3 a b=true:=by simp [aw3,aze h h']
theorem aAl {d:Option Nat} {t:Nat} (h:d=some t):t ∈ aK5 d:=by subst h;simp [aK5]
section
variable {P:Program} {ap:AP} {H:aug}
structure aTS (ap:AP) (ops:List Oper) (recs:List Rec) (e0:Env) (hp0:Hp) (dfs:List (Nat × List AV)) (nt:Nat) (m0:anV) (S0:anR) (w0:World) (listed:Array Bool) (m:anV) (S:anR) (w:World) (a:Act):Prop where
 sz:listed.size=ops.length
 cl:aDw ops (dOf listed)
 fr:Fr (ad9 hp0) m0 S0 w0 (ad9 (hpD (dOf listed) 0 hp0 recs)) m S w
 rel:FR ap (axE (dOf listed) 0 e0 recs) (hpD (dOf listed) 0 hp0 recs) dfs nt m S w a
theorem aIm {ops:List Oper} {recs:List Rec} {s:RS} {n0 nt:Nat} (hnt:∀ o ∈ ops,∀ d,o.dst=some d→d<nt) (hlen:recs.length=ops.length)
  (hbound:∀ (k:Nat) (r:Rec),recs[k]? =some r→∀ b ∈ r.ups.map (·.1),b<n0+4*k+4)
  (hsem:∀ (k:Nat) (r:Rec),recs[k]? =some r→∃ o,ops[k]? =some o∧r.dst=o.dst∧∀ (D:Nat→Bool) m S w (a:Act),apS ap (ad9 (hpD D 0 s.hp recs)) m S w→(∀ t ∈ r.rt,VR (ad9 (hpD D 0 s.hp recs)) m S ((ayq s.env (recs.take k)).get t) (a.tmps.getD t undef))→
   (∀ b ∈ r.rb,ad9 (hpL s.hp (recs.take k)) b=ad9 (hpD D 0 s.hp recs) b)→(∀ j,j<4→ad9 (hpD D 0 s.hp recs) (n0+4*k+j)=none)→(∀ j,((Region.before ops.toArray).toList.getD j 0).testBit k=true→D j=false)→
   ∀ (Q:Exit→Act→World→Prop) (K:Act→World→Prop),aTa ap o (ad9 (hpD D 0 s.hp recs)) m S w a r.v r.ups [] Q K none→wpO P ops.toArray Q o K a w)
  (hord:aGV n0 (fun j i=>((Region.before ops.toArray).toList.getD j 0).testBit i) recs) (hback:azx ops=true) (hn0:∀ b B,ad9 s.hp b=some B→b<n0) {m0:anV} {S0:anR} {w0:World} {Q:Exit→Act→World→Prop}
  (hQ:∀ m S w a,Fr (ad9 s.hp) m0 S0 w0 (ad9 (hpL s.hp recs)) m S w→FR ap (ayq s.env recs) (hpL s.hp recs) s.dfs nt m S w a→Q .normal a w):
  ∀ (fuel:Nat) (listed:Array Bool) (m:anV) (S:anR) (w:World) (a:Act),aTS ap ops recs s.env s.hp s.dfs nt m0 S0 w0 listed m S w a→aDI ops.length (dOf listed)≤fuel→wpAny P .any ops.toArray Q fuel listed a w:=by
 have hdone:∀ (listed:Array Bool) (m:anV) (S:anR) (w:World) (a:Act),aTS ap ops recs s.env s.hp s.dfs nt m0 S0 w0 listed m S w a→(∀ k,k<ops.length→dOf listed k=true)→Q .normal a w:=by
  intro listed m S w a hI hall
  have hh:∀ b,ad9 (hpL s.hp recs) b=ad9 (hpD (dOf listed) 0 s.hp recs) b:=fun b=>
   azb recs 0 _ _ rfl fun k r hk _=>by rw [hall (0+k) (by have:=(List.getElem?_eq_some_iff.1 hk).1;omega)]
  have he:∀ t,(ayq s.env recs).get t=(axE (dOf listed) 0 s.env recs).get t:=fun t=>
   ax7 recs 0 _ _ rfl fun k r hk _=>by rw [hall (0+k) (by have:=(List.getElem?_eq_some_iff.1 hk).1;omega)]
  have hh':=funext hh
  exact hQ m S w a (hh' ▸ hI.fr) (hI.rel.congr he hh')
 intro fuel
 induction fuel with
 | zero=>
  intro listed m S w a hI hm
  have hall:∀ k,k<ops.length→dOf listed k=true:=by
   intro k hk
   cases hd:dOf listed k with
   |true=>rfl
   |false=>
    have hmem:k ∈ (List.range ops.length).filter fun i=> !dOf listed i:=by simp [hk,hd]
    have:(List.range ops.length).filter (fun i=> !dOf listed i)= []:=List.eq_nil_of_length_eq_zero (Nat.le_zero.1 hm)
    rw [this] at hmem
    cases hmem
  refine ⟨?_,hdone listed m S w a hI hall⟩
  cases hr:Region.ready .any ops.toArray listed with
  |nil=>rfl
  |cons i r=>
   obtain ⟨o,_,h2,h3,_⟩:=aE6 hI.sz (i:=i) (by rw [hr];simp)
   rw [hall i h3] at h2;cases h2
 | succ fuel ih=>
  intro listed m S w a hI hm
  refine ⟨fun hnil=>hdone listed m S w a hI (aPn hback hI.sz hnil),fun i hi=> ?_⟩
  obtain ⟨o,hoi,hDi,hlt,hedges⟩:=aE6 hI.sz hi
  have hri:recs[i]? =some recs[i]:=List.getElem?_eq_getElem (by omega)
  generalize recs[i]=r at hri
  obtain ⟨o',ho',hdst,hstep⟩:=hsem i r hri
  rw [hoi] at ho'
  cases ho'
  have hsz':i<listed.size:=by rw [hI.sz];exact hlt
  have hset:=aQT hsz'
  have hcl':aDw ops (dOf (listed.setIfInBounds i true)):=by
   intro k o2 hk hd e he hb
   rw [hset] at hd ⊢
   split
   ·rfl
   ·split at hd
    ·rename_i hki
     subst hki
     rw [hoi] at hk;cases hk
     exact hedges e he hb
    ·exact hI.cl k o2 hk hd e he hb
  have hlow:∀ k q,recs[k]? =some q→k<i→(aw3 q.foot r.foot=true∨∃ x ∈ r.ups.map (·.1),n0+4*k≤x∧x<n0+4*k+4)→dOf listed k=true:=by
   intro k q hk hki hc
   have h1:=hord.ok k i q r hk hri hki hc
   have h2:=ayM hcl' (k:=i) (i:=k) (by rw [hset,if_pos rfl]) h1
   rw [hset,if_neg (by omega)] at h2
   exact h2
  have hhigh:∀ k q,recs[k]? =some q→i<k→(aw3 r.foot q.foot=true∨∃ x ∈ q.ups.map (·.1),n0+4*i≤x∧x<n0+4*i+4)→dOf listed k=false:=by
   intro k q hk hki hc
   cases hd:dOf listed k with
   |false=>rfl
   |true=>
    have h1:=hord.ok i k r q hri hk hki hc
    have h2:=ayM hI.cl hd h1
    rw [hDi] at h2;cases h2
  have hagr:∀ k q,recs[k]? =some q→(k<i→aw3 q.foot r.foot=true)→(i<k→aw3 r.foot q.foot=true)→decide (k<i)=dOf listed k:=by
   intro k q hk h1 h2
   rcases Nat.lt_trichotomy k i with h|h|h
   ·rw [hlow k q hk h (.inl (h1 h))];simp [h]
   ·subst h;rw [hDi];simp
   ·rw [hhigh k q hk h (.inl (h2 h))];simp;omega
  have hagr':∀ k q,recs[k]? =some q→(k<i→aw3 q.foot r.foot=true)→(i<k→aw3 r.foot q.foot=true)→dOf (listed.setIfInBounds i true) k=decide (k<i+1):=by
   intro k q hk h1 h2
   rw [hset]
   rcases Nat.lt_trichotomy k i with h|h|h
   ·rw [if_neg (by omega),hlow k q hk h (.inl (h1 h))];simp;omega
   ·subst h;simp
   ·rw [if_neg (by omega),hhigh k q hk h (.inl (h2 h))];simp;omega
  have henv:∀ t ∈ r.rt,(ayq s.env (recs.take i)).get t=(axE (dOf listed) 0 s.env recs).get t:=by
   intro t ht
   rw [← aBW]
   refine ax7 recs 0 _ _ rfl fun k q hk hd=> ?_
   rw [Nat.zero_add]
   exact hagr k q hk (fun _=>aNL (aAl hd) ht) (fun _=>aNK ht (aAl hd))
  have hhp:∀ b ∈ r.rb,ad9 (hpL s.hp (recs.take i)) b=ad9 (hpD (dOf listed) 0 s.hp recs) b:=by
   intro b hb
   rw [← aJ1]
   refine azb recs 0 _ _ rfl fun k q hk hd=> ?_
   rw [Nat.zero_add]
   exact hagr k q hk (fun _=>aL2 hd hb) (fun _=>aL1 hb hd)
  have hfresh:∀ j,j<4→ad9 (hpD (dOf listed) 0 s.hp recs) (n0+4*i+j)=none:=by
   intro j hj
   have h1:ad9 (hpD (dOf listed) 0 s.hp recs) (n0+4*i+j)=ad9 (hpD (fun _=>false) 0 s.hp recs) (n0+4*i+j):=by
    refine azb recs 0 _ _ rfl fun k q hk hd=> ?_
    rw [Nat.zero_add]
    have hb:=hbound k q hk _ hd
    rcases Nat.lt_trichotomy k i with h|h|h
    ·omega
    ·subst h;exact hDi
    ·exact hhigh k q hk h (.inr ⟨_,hd,by omega,by omega⟩)
   rw [h1,aya recs 0 _ (fun _ _=>rfl)]
   cases hb:ad9 s.hp (n0+4*i+j) with
   |none=>rfl
   |some B=>have:=hn0 _ _ hb;omega
  have hopA:ops.toArray[i]? =some o:=by simpa using hoi
  have hgoal:wpO P ops.toArray Q o (wpAny P .any ops.toArray Q fuel (listed.setIfInBounds i true)) a w:=by
   refine hstep (dOf listed) m S w a hI.rel.srel (fun t ht=>by rw [henv t ht];exact hI.rel.env t) hhp hfresh (fun j hj=>by
    cases hd:dOf listed j with
    |false=>rfl
    |true=>
     have h2:=ayM hI.cl hd hj
     rw [hDi] at h2;cases h2) Q _ ?_
   intro cv m' S' w' ds h1 h2 h3 h4
   have hF:=hI.rel.put (hnt o (List.mem_of_getElem? hoi)) h1 h2 h3 h4
   rw [aw7] at h2
   rw [List.nil_append] at hF
   have he':∀ t,(axE (dOf (listed.setIfInBounds i true)) 0 s.env recs).get t=(ayT (axE (dOf listed) 0 s.env recs) o.dst r.v).get t:=by
    intro t
    by_cases ht:o.dst=some t
    ·have h5:(axE (dOf (listed.setIfInBounds i true)) 0 s.env recs).get t=(axE (fun j=>decide (j<i+1)) 0 s.env recs).get t:=by
      refine ax7 recs 0 _ _ rfl fun k q hk hd=> ?_
      rw [Nat.zero_add]
      have hrt:t ∈ r.foot.wt:=aAl (hdst.trans ht)
      exact hagr' k q hk (fun _=>aIf (aAl hd) hrt) (fun _=>aIf hrt (aAl hd))
     rw [h5,aBW,aGh _ _ _ _ hri,hdst,ht,awr,awr]
    ·rw [aB0 ht]
     refine ax7 recs 0 _ _ rfl fun k q hk hd=> ?_
     rw [Nat.zero_add,hset,if_neg]
     rintro rfl
     rw [hri] at hk;cases hk
     exact ht (hdst ▸ hd)
   have hh':ad9 (hpD (dOf (listed.setIfInBounds i true)) 0 s.hp recs)=ad9 (r.ups++hpD (dOf listed) 0 s.hp recs):=by
    funext b
    by_cases hb:b ∈ r.ups.map (·.1)
    ·have h5:ad9 (hpD (dOf (listed.setIfInBounds i true)) 0 s.hp recs) b=ad9 (hpD (fun j=>decide (j<i+1)) 0 s.hp recs) b:=by
      refine azb recs 0 _ _ rfl fun k q hk hd=> ?_
      rw [Nat.zero_add]
      exact hagr' k q hk (fun _=>aF9 hd hb) (fun _=>aF9 hb hd)
     rw [h5,aJ1,aOp _ _ _ _ hri]
     exact aB6 hb
    ·rw [azz hb]
     refine azb recs 0 _ _ rfl fun k q hk hd=> ?_
     rw [Nat.zero_add,hset,if_neg]
     rintro rfl
     rw [hri] at hk;cases hk
     exact hb hd
   refine ih _ m' S' w' _ ⟨by rw [Array.size_setIfInBounds];exact hI.sz,hcl', ?_,hF.congr he' hh'⟩ ?_
   ·rw [hh'];exact hI.fr.trans h2
   ·have:=aC9 hDi hset (List.range ops.length) List.nodup_range (by simp [hlt])
    simp only [aDI] at hm ⊢
    omega
  simp only [wpOp,hopA]
  exact hgoal
theorem aN6 {ops:List Oper} {recs:List Rec} {s s':RS} {n0 nt:Nat} (hnt:∀ o ∈ ops,∀ d,o.dst=some d→d<nt) (hlen:recs.length=ops.length) (htr:aNx P ap ops 0 n0 s s' recs) (hdl:s'.dfs.length=s.dfs.length)
  (hord:aGV n0 (fun j i=>((Region.before ops.toArray).toList.getD j 0).testBit i) recs) (hback:azx ops=true) (hn0:∀ b B,ad9 s.hp b=some B→b<n0) {m0:anV} {S0:anR} {w0:World} {Q:Exit→Act→World→Prop}
  (hQ:∀ m S w a,Fr (ad9 s.hp) m0 S0 w0 (ad9 (hpL s.hp recs)) m S w→FR ap (ayq s.env recs) (hpL s.hp recs) s.dfs nt m S w a→Q .normal a w):
  ∀ (fuel:Nat) (listed:Array Bool) (m:anV) (S:anR) (w:World) (a:Act),aTS ap ops recs s.env s.hp s.dfs nt m0 S0 w0 listed m S w a→aDI ops.length (dOf listed)≤fuel→wpAny P .any ops.toArray Q fuel listed a w:=by
 obtain ⟨_,hsem⟩:=htr.sem hdl
 refine aIm hnt hlen htr.bound (fun k r hk=> ?_) hord hback hn0 hQ
 obtain ⟨o,h1,h2,h3⟩:=hsem k r hk
 rw [Nat.zero_add] at h1
 exact ⟨o,h1,h2,fun D m S w a hS hv hag hfr _ Q K hA=>h3 _ m S w a hS hv (fun b hb B hB=>by rw [← hag b hb];exact hB) hfr Q K hA⟩
def ayt (ap:AP) (base:Nat) (keep:List Nat) (hp0:Hp) (m:anV) (S:anR) (w:World) (nt:Nat) (s':St) (Q:Exit→Act→World→Prop):an_→Prop
 | .panic v=>match (avh v).isEmpty with
  |true=> ∀ s1:St,s'=norm base keep s1→aBH ap hp0 m S w nt s1.env s1.hp s1.dfs Q (some v)
  |false=>aBH ap hp0 m S w nt s'.env s'.hp s'.dfs Q (some v)
 | .normal=> ∀ s1:St,s'=norm base keep s1→aBH ap hp0 m S w nt s1.env s1.hp s1.dfs Q none
 |_=>True
theorem aHG (hap:awf P ap) (hmix:P.follows .mixedOrders=true) (hH:awU P ap H) {ops:List Oper} {draw:Bool} {nt base:Nat} {keep:List Nat} (hnt:∀ o ∈ ops,∀ d,o.dst=some d→d<nt) {s:St} {e:an_} {s':St} {c c':Cx} {id:Nat}
  (h:aHF ap H base keep ops draw s c= .ok (e,s') c') (hc:c'.Ok):c.Ok∧(s.md= .dead→s'.md= .dead∧(∀ m S w a,FR ap s.env s.hp s.dfs nt m S w a→∀ Q,
   ayt ap base keep s.hp m S w nt s' Q e→(Code.region id ops.toArray draw).wp P Q a w)):=by
 unfold aHF at h
 obtain ⟨⟨s1,p⟩,c1,e1,h⟩:=R.bind_ok h
 dsimp only at h
 have hn0:∀ b B,ad9 s.hp b=some B→b<av3 s.hp:=fun b B hb=>azh hb
 cases p with
 | some v=>
  cases draw with
  |true=>cases h
  | false=>
   dsimp only at h
   split at h
   ·rename_i hre
    cases h
    obtain ⟨hc0,hs⟩:=axX hap hH hnt ops 0 _ _ _ _ _ _ e1 hc
    refine ⟨hc0,fun hmd=> ?_⟩
    obtain ⟨h1,h2⟩:=hs hmd (fun t b hb=>by cases hb) rfl hn0
    refine ⟨h1,fun m S w a hF Q hQ=>wp_region ?_⟩
    simp only [ayt,hre] at hQ
    have:=h2 m S w a hF Q (hQ _ rfl)
    rw [← List.range_eq_range'] at this
    simpa using this
   ·rename_i hre
    cases h
    obtain ⟨hc0,hs⟩:=axX hap hH hnt ops 0 _ _ _ _ _ _ e1 hc
    refine ⟨hc0,fun hmd=> ?_⟩
    obtain ⟨h1,h2⟩:=hs hmd (fun t b hb=>by cases hb) rfl hn0
    refine ⟨h1,fun m S w a hF Q hQ=>wp_region ?_⟩
    simp only [ayt,hre] at hQ
    have:=h2 m S w a hF Q hQ
    rw [← List.range_eq_range'] at this
    simpa using this
 | none=>
  dsimp only at h
  split at h
  ·rename_i hcond
   cases h
   cases draw with
   |false=>
    obtain ⟨hc0,hs⟩:=axX hap hH hnt ops 0 _ _ _ _ _ _ e1 hc
    refine ⟨hc0,fun hmd=> ?_⟩
    obtain ⟨h1,h2⟩:=hs hmd (fun t b hb=>by cases hb) rfl hn0
    refine ⟨h1,fun m S w a hF Q hQ=>wp_region ?_⟩
    have:=h2 m S w a hF Q (hQ _ rfl)
    rw [← List.range_eq_range'] at this
    simpa using this
   | true=>
    obtain ⟨hc0,hs⟩:=aPX hap hH ops 0 _ _ _ _ _ e1 hc
    refine ⟨hc0,fun hmd=> ?_⟩
    obtain ⟨h1,recs,hlen,htr⟩:=hs hmd (fun t b hb=>by cases hb) rfl
    refine ⟨h1,fun m S w a hF Q hQ=>wp_region_any hmix ?_⟩
    simp only [Bool.not_true,Bool.false_or,Bool.and_eq_true] at hcond
    obtain ⟨⟨ho,hback⟩,hdl⟩:=hcond
    have hdl:=anN hdl
    rw [htr.feet,List.append_nil] at ho
    have hst:=hQ _ rfl
    have hdf:=(htr.sem hdl).1
    have hD0:dOf (Array.replicate ops.length false)=fun _=>false:=by
     funext k
     simp only [dOf,Array.getD_eq_getD_getElem?]
     by_cases hk:k<ops.length<;>simp [hk]
    have hsz:ops.toArray.size=ops.length:=by simp
    rw [hsz]
    refine aN6 hnt hlen htr hdl (aEW ho) hback hn0 (m0:=m) (S0:=S) (w0:=w) (Q:=Q) ?_ ops.length _ m S _ a ⟨by simp, ?_, ?_, ?_⟩ ?_
    ·intro m' S' w' a' h3 h4
     refine hst m' S' w' a' ?_ ?_
     ·rw [htr.hp];exact h3
     ·rw [htr.hp,htr.env,hdf];exact h4
    ·intro k o hk hd
     rw [hD0] at hd;cases hd
    ·rw [hD0,aya recs 0 _ (fun _ _=>rfl)]
     exact ⟨Ge.refl _ _,SLe.refl _,rfl,rfl,rfl,Nat.le_refl _,fun _ _ _=>rfl,fun _ B h=> .inr ⟨B,h,rfl⟩,fun _ _ _ h=> .inl h⟩
    ·rw [hD0,aya recs 0 _ (fun _ _=>rfl),aAE recs 0 _ (fun _ _=>rfl)]
     exact ⟨⟨hF.srel.inj,fun b B hb=>hF.srel.blk b B hb|>fun ⟨h1,h2,h3⟩=> ⟨h1,h2,h3⟩,hF.srel.sealed,hF.srel.own,hF.srel.glob⟩,hF.env,hF.dfs,hF.size⟩
    ·exact Nat.le_trans (List.length_filter_le _ _) (by simp)
  ·cases h
end
end AM
namespace AM
open Go
def aDj (acc:List Nat) (b:Nat):List Nat:=if ayQ acc b then acc else acc++ [b]
theorem aLR (acc:List Nat) (b:Nat) (h:acc.Nodup):(aDj acc b).Nodup∧∃ t,aDj acc b=acc++t:=by
 unfold aDj
 split
 ·exact ⟨h,[],by simp⟩
 ·rename_i hb
  refine ⟨?_,[b],rfl⟩
  rw [List.nodup_append]
  refine ⟨h,by simp, ?_⟩
  intro x hx y hy e
  simp at hy
  subst hy;subst e
  exact hb (awh.2 hx)
theorem ayv:∀ (l acc:List Nat),acc.Nodup→(l.foldl aDj acc).Nodup∧∃ t,l.foldl aDj acc=acc++t
 | [],acc,h=> ⟨h,[],by simp⟩
 |b::r,acc,h=>by
  simp only [List.foldl_cons]
  obtain ⟨h1,t1,h2⟩:=aLR acc b h
  obtain ⟨h3,t2,h4⟩:=ayv r _ h1
  exact ⟨h3,t1++t2,by rw [h4,h2,List.append_assoc]⟩
theorem aD0:∀ (l acc:List Nat),l.Nodup→(∀ x ∈ l,x ∉ acc)→l.foldl aDj acc=acc++l
 | [],acc,_,_=>by simp
 | b::r,acc,h,hd=>by
  rw [List.nodup_cons] at h
  have hb:ayQ acc b=false:=by
   cases hm:ayQ acc b with
   |false=>rfl
   |true=>exact absurd (awh.1 hm) (hd b (by simp))
  simp only [List.foldl_cons]
  have:aDj acc b=acc++ [b]:=by simp [aDj,hb]
  rw [this,aD0 r _ h.2]
  ·simp
  ·intro x hx hm
   rcases List.mem_append.1 hm with hm|hm
   ·exact hd x (by simp [hx]) hm
   ·simp at hm;subst hm;exact h.1 hx
theorem aMw (l:List Nat):awv l=l.foldl aDj []:=rfl
theorem aKj (n:Nat) (l:List Nat):(awv (List.range n++l)).Nodup∧∃ t,awv (List.range n++l)=List.range n++t:=by
 rw [aMw,List.foldl_append,aD0 (List.range n) [] List.nodup_range (by simp),List.nil_append]
 exact ayv l _ List.nodup_range
theorem aAa (rd:HpF):∀ (n:Nat) (l:List Nat),l.Nodup→(azX rd n l).Nodup∧∃ t,azX rd n l=l++t
 |0,l,h=> ⟨h,[],by simp [azX]⟩
 | n+1,l,h=>by
  simp only [azX]
  split
  ·exact ⟨h,[],by simp⟩
  ·obtain ⟨h1,t1,h2⟩:=ayv (l.flatMap fun b=>match rd b with|some B=>(match B.pr with|true=> []|false=>auh B.cells)|none=> []) l h
   obtain ⟨h3,t2,h4⟩:=aAa rd n _ h1
   refine ⟨h3,t1++t2, ?_⟩
   exact h4.trans (by rw [h2,List.append_assoc])
theorem aGu {f:Nat→AV}:∀ (keep:List Nat) (t:Nat),ad9 (keep.map fun t=>(t,f t)) t=if t ∈ keep then some (f t) else none
 | [],t=>by simp [ad9]
 | a::r,t=>by
  simp only [List.map_cons,ad9,aGu r t]
  cases h:Nat.beq a t with
  |true=>have:=anN h;subst this;simp
  |false=>
   have hne:t ≠ a:=by intro e;subst e;simp at h
   simp [hne]
theorem aC6 {rd:HpF} {mk:Nat→Blk→Blk}:∀ (ids:List Nat) (j p:Nat),ad9 ((ids.zipIdx j).filterMap fun (b,p)=>(rd b).map fun B=>(p,mk p B)) p=if j≤p then (ids[p - j]?).bind fun b=>(rd b).map (mk p) else none
 | [],j,p=>by simp [ad9]
 | a ::r,j,p=>by
  have ih:=aC6 (rd:=rd) (mk:=mk) r (j+1) p
  rw [List.zipIdx_cons]
  cases ha:rd a with
  | none=>
   rw [List.filterMap_cons_none (by simp [ha]),ih]
   by_cases hj:j+1≤p
   ·rw [if_pos hj,if_pos (by omega)]
    obtain ⟨d,hd⟩:∃ d,p - j=d+1:=⟨p - j - 1,by omega⟩
    rw [hd,List.getElem?_cons_succ,show p - (j+1)=d by omega]
   ·rw [if_neg hj]
    by_cases hjp:j≤p
    ·rw [if_pos hjp,show p - j=0 by omega];simp [ha]
    ·rw [if_neg hjp]
  | some B=>
   rw [List.filterMap_cons_some (by simp [ha];rfl)]
   simp only [ad9]
   cases h:Nat.beq j p with
   |true=>have:=anN h;subst this;simp [ha]
   | false=>
    have hne:j ≠ p:=by intro e;subst e;simp at h
    simp only [ih]
    by_cases hj:j+1≤p
    ·rw [if_pos hj,if_pos (by omega)]
     obtain ⟨d,hd⟩:∃ d,p - j=d+1:=⟨p - j - 1,by omega⟩
     rw [hd,List.getElem?_cons_succ,show p - (j+1)=d by omega]
    ·rw [if_neg hj,if_neg (by omega)]
theorem aGz:∀ {l:List Nat},l.Nodup→azB l=true
 | [],_=>rfl
 |b::r,h=>by
  rw [List.nodup_cons] at h
  simp only [azB,Bool.and_eq_true,Bool.not_eq_true']
  refine ⟨?_,aGz h.2⟩
  cases hm:ayQ r b with
  |false=>rfl
  |true=>exact absurd (awh.1 hm) h.1
section
variable {P:Program} {ap:AP} {H:aug}
theorem aHZ {g g':HpF} {m m':anV} {S S':anR} {ρ:Nat→Nat→Option (Nat × Nat)} (hS:SLe S S') (h:azR g m g' m' ρ):∀ {l:List (Nat × List AV)} {ds:List Deferred},av1 g m S l ds→av1 g' m' S' (l.map fun d=>(d.1,axG ρ d.2)) ds
 | [],[],_=>by simp [av1]
 |d::r,cd::cr,p=>by
  simp only [av1] at p
  obtain ⟨⟨cap,h1,h2⟩,h3⟩:=p
  simp only [List.map_cons,av1]
  exact ⟨⟨cap,h1,axc hS h _ h2⟩,aHZ hS h h3⟩
 | [],_::_,p=>by simp [av1] at p
 |_::_,[],p=>by simp [av1] at p
theorem ayf {h0:List Blk} {keep:List Nat} {s:St} {nt:Nat} {m m0:anV} {S S0:anR} {w w0:World} {a:Act} (hfr:Fr (an3 h0) m0 S0 w0 (ad9 s.hp) m S w) (hF:FR ap s.env s.hp s.dfs nt m S w a):
  ∃ m',Fr (an3 h0) m0 S0 w0 (ad9 (norm h0.length keep s).hp) m' S w∧FR ap (norm h0.length keep s).env (norm h0.length keep s).hp (norm h0.length keep s).dfs nt m' S w a:=by
 obtain ⟨_,t0,ht0⟩:=aAa (ad9 s.hp) 20 (List.range h0.length) List.nodup_range
 generalize hroots:t0++(aEh keep s.env++s.dfs.flatMap (fun d=>auh d.2))=roots
 have hroots':azX (ad9 s.hp) 20 (List.range h0.length)++aEh keep s.env++s.dfs.flatMap (fun d=>auh d.2)=List.range h0.length++roots:=by rw [← hroots,ht0];simp only [List.append_assoc]
 obtain ⟨hn1,t1,ht1⟩:=aKj h0.length roots
 obtain ⟨hn2,t2,ht2⟩:=aAa (ad9 s.hp) 20 _ hn1
 rw [ht1,List.append_assoc] at ht2
 have hsome:∀ b,b<h0.length→∃ B0 B,an3 h0 b=some B0∧ad9 s.hp b=some B∧B.esz=B0.esz∧((B.ver=B0.ver∧m b=m0 b)∨B0.ver<B.ver):=by
  intro b hb
  obtain ⟨B,h1,h2⟩:=hfr.ge b h0[b] (by simp [an3,hb])
  exact ⟨h0[b],B,by simp [an3,hb],h1,h2⟩
 generalize hids:(azX (ad9 s.hp) 20 (awv (List.range h0.length++roots))).filter (fun b=>(ad9 s.hp b).isSome)=ids
 have hnd:ids.Nodup:=by rw [← hids];exact hn2.filter _
 have hndT:=aGz hnd
 have hpre:∃ t,ids=List.range h0.length++t:=by
  rw [← hids,ht1,ht2,List.filter_append]
  refine ⟨_,congrArg (· ++_) ?_⟩
  rw [List.filter_eq_self]
  intro b hb
  obtain ⟨_,B,_,h2,_⟩:=hsome b (by simpa using hb)
  simp [h2]
 obtain ⟨t,hpre⟩:=hpre
 have hlow:∀ b,b<h0.length→ids[b]? =some b:=by
  intro b hb
  rw [hpre,List.getElem?_append_left (by simpa using hb)]
  simp [hb]
 have hget:∀ (p b:Nat),ids[p]? =some b→∃ B,ad9 s.hp b=some B:=by
  intro p b hp
  have:=List.mem_of_getElem? hp
  rw [← hids,List.mem_filter] at this
  exact Option.isSome_iff_exists.1 this.2
 let ρ:Nat→Nat→Option (Nat × Nat):=fun b v=>match ad9 s.hp b with
  |some B=>match Nat.beq B.ver v with
   |true=>(ayN ids b).map fun p=>(p,match Nat.blt p h0.length with|true=>v|false=>0)
   |false=>none
  |none=>none
 let mk:Nat→Blk→Blk:=fun p B=> {B with cells:=(match B.pr with|true=>B.cells|false=>axG ρ B.cells),ver:=match Nat.blt p h0.length with|true=>B.ver|false=>0}
 have hnorm:norm h0.length keep s=⟨keep.map fun t=>(t,ren ρ (s.env.get t)),ids.zipIdx.filterMap fun (b,p)=>(ad9 s.hp b).map fun B=>(p,mk p B),s.md,s.dfs.map fun d=>(d.1,axG ρ d.2)⟩:=by
  unfold norm
  simp only [hroots',hids]
  rfl
 rw [hnorm]
 dsimp only
 have hg2:∀ p,ad9 (ids.zipIdx.filterMap fun (b,p)=>(ad9 s.hp b).map fun B=>(p,mk p B)) p=(ids[p]?).bind fun b=>(ad9 s.hp b).map (mk p):=by
  intro p
  rw [aC6 (rd:=ad9 s.hp) (mk:=mk) ids 0 p,if_pos (Nat.zero_le _),Nat.sub_zero]
 generalize (ids.zipIdx.filterMap fun (b,p)=>(ad9 s.hp b).map fun B=>(p,mk p B))=hp2 at hg2
 have hg2':∀ (p:Nat) (B2:Blk),ad9 hp2 p=some B2→∃ b B,ids[p]? =some b∧ad9 s.hp b=some B∧B2=mk p B:=by
  intro p B2 h
  rw [hg2] at h
  cases hp:ids[p]? with
  |none=>rw [hp] at h;cases h
  |some b=>
   rw [hp] at h
   obtain ⟨B,hB⟩:=hget p b hp
   simp only [Option.bind_some,hB,Option.map_some,Option.some.injEq] at h
   exact ⟨b,B,rfl,hB,h.symm⟩
 let m2:anV:=fun p=>m (ids.getD p 0)
 have hm2:∀ (p b:Nat),ids[p]? =some b→m2 p=m b:=by
  intro p b hp
  show m (ids.getD p 0)=_
  rw [List.getD_eq_getElem?_getD,hp];rfl
 have hren:azR (ad9 s.hp) m (ad9 hp2) m2 ρ:=by
  intro b ver p ver' h B hB hver
  simp only [ρ,hB] at h
  split at h
  ·rename_i hv
   have hv:=anN hv
   simp only [Option.map_eq_some_iff,Prod.mk.injEq] at h
   obtain ⟨q,hq,rfl,rfl⟩:=h
   have hq:=azc hq
   refine ⟨mk q B, ?_, ?_,fun _=> ⟨hv,hm2 q b hq,rfl⟩⟩
   ·rw [hg2,hq];simp [hB]
   ·simp only [mk]
    split
    ·omega
    ·exact Nat.le_refl _
  ·cases h
 have hinj:∀ (p q b:Nat),ids[p]? =some b→ids[q]? =some b→p=q:=by
  intro p q b hp hq
  have e1:=ayF hndT hp
  rw [ayF hndT hq] at e1
  cases e1;rfl
 refine ⟨m2, ?_, ?_, ?_, ?_,hF.size⟩
 ·refine ⟨?_,hfr.sle,hfr.os,hfr.tape,hfr.output,hfr.size,hfr.rest, ?_,hfr.sealN⟩
  ·intro b B0 hb
   have hlt:b<h0.length:=(List.getElem?_eq_some_iff.1 hb).1
   obtain ⟨B0',B,h1,h2,h3,h4⟩:=hsome b hlt
   rw [hb] at h1;cases h1
   have hbl:Nat.blt b h0.length=true:=Nat.ble_eq_true_of_le hlt
   refine ⟨mk b B,by rw [hg2,hlow b hlt];simp [h2],h3, ?_⟩
   simp only [mk,hbl]
   rw [hm2 b b (hlow b hlt)]
   exact h4
  ·intro p B2 hp
   obtain ⟨b,B,h1,h2,rfl⟩:=hg2' p B2 hp
   rw [hm2 p b h1]
   rcases hfr.img b B h2 with h|⟨B0,h3,h4⟩
   ·exact .inl h
   ·have hlt:b<h0.length:=(List.getElem?_eq_some_iff.1 h3).1
    have:=hinj p b b h1 (hlow b hlt)
    subst this
    exact .inr ⟨B0,h3,h4⟩
 ·refine ⟨?_, ?_,hF.srel.sealed, ?_,hF.srel.glob⟩
  ·intro p q B2 B2' hp hq e
   obtain ⟨b,B,h1,h2,rfl⟩:=hg2' p B2 hp
   obtain ⟨b',B',h1',h2',rfl⟩:=hg2' q B2' hq
   rw [hm2 p b h1,hm2 q b' h1'] at e
   have:=hF.srel.inj b b' B B' h2 h2' e
   subst this
   exact hinj p q b h1 h1'
  ·intro p B2 hp
   obtain ⟨b,B,h1,h2,rfl⟩:=hg2' p B2 hp
   rw [hm2 p b h1]
   obtain ⟨⟨cur,e,vs,rest,k1,k2,k3,k4,k5,k6⟩,k7,k8⟩:=hF.srel.blk b B h2
   cases hpr:B.pr with
   |true=>exact ⟨⟨cur,e,vs,rest,k1,k2,fun _=>by simpa [mk,hpr] using k3 hpr,by simpa [mk,hpr] using aoa _ (k3 hpr),k5,k6⟩,k7,by simpa [mk,hpr] using k8⟩
   | false=>
    have hv:=axc (SLe.refl S) hren _ k4
    exact ⟨⟨cur,e,vs,rest,k1,k2,fun h=>by simp [mk,hpr] at h,by simpa [mk,hpr] using hv,k5,k6⟩,k7,by
     have:(mk p B).cells.length=B.cells.length:=by simp only [mk,hpr];rw [auc k4,auc hv]
     rw [this];exact k8⟩
  ·intro p B2 hp o v ho
   obtain ⟨b,B,h1,h2,rfl⟩:=hg2' p B2 hp
   rw [hm2 p b h1] at ho
   exact hF.srel.own b B h2 o v ho
 ·intro t
  simp only [Env.get,aGu]
  by_cases ht:t ∈ keep
  ·rw [if_pos ht]
   exact aCr (SLe.refl S) hren _ (hF.env t)
  ·rw [if_neg ht]
   simp [VR]
 ·exact aHZ (SLe.refl S) hren hF.dfs
end
end AM
namespace AM
open Go
mutual
theorem aBI {g g':HpF} {m m':anV} {S S':anR} (hS:SLe S S'):∀ (x:AV) {v:Value},(∀ b ∈ avh x,g' b=g b∧m' b=m b)→VR g m S x v→VR g' m' S' x v
 | .int _ _,_,_,p=>by simpa only [VR,PR] using p
 | .bool _,_,_,p=>by simpa only [VR,PR] using p
 | .str _,_,_,p=>by simpa only [VR,PR] using p
 | .nilS,_,_,p=>by simpa only [VR,PR] using p
 | .nilP,_,_,p=>by simpa only [VR,PR] using p
 | .nilF,_,_,p=>by simpa only [VR,PR] using p
 | .nilI,_,_,p=>by simpa only [VR,PR] using p
 | .sl _ _ _,_,_,p=>by simp only [VR] at p ⊢;exact auC hS _ p
 | .pp _ _,_,_,p=>by simp only [VR] at p ⊢;exact auC hS _ p
 | .mp _ _,_,_,p=>by simp only [VR] at p ⊢;exact auC hS _ p
 | .dead,_,_,_=>by simp only [VR]
 | .own _ _ _,_,_,p=>by simp only [VR] at p
 | .ref b _ _ _,_,h,p=>by
  obtain ⟨h1,h2⟩:=h b (by simp [avh])
  simp only [VR] at p ⊢
  rw [h1,h2];exact p
 | .ptr b _ _,_,h,p=>by
  obtain ⟨h1,h2⟩:=h b (by simp [avh])
  simp only [VR] at p ⊢
  rw [h1,h2];exact p
 | .mr b _,_,h,p=>by
  obtain ⟨h1,h2⟩:=h b (by simp [avh])
  simp only [VR] at p ⊢
  rw [h1,h2];exact p
 | .agg l,_,h,p=>by
  simp only [VR] at p ⊢
  obtain ⟨vs,e,q⟩:=p
  exact ⟨vs,e,axT hS l (fun b hb=>h b (by simpa [avh] using hb)) q⟩
 | .tup l,_,h,p=>by
  simp only [VR] at p ⊢
  obtain ⟨vs,e,q⟩:=p
  exact ⟨vs,e,axT hS l (fun b hb=>h b (by simpa [avh] using hb)) q⟩
 | .fn f a c,_,h,p=>by
  simp only [VR] at p ⊢
  obtain ⟨va,vc,e,q,r⟩:=p
  exact ⟨va,vc,e,axT hS a (fun b hb=>h b (by simp [avh,hb])) q,axT hS c (fun b hb=>h b (by simp [avh,hb])) r⟩
 | .ifc t x,_,h,p=>by
  simp only [VR] at p ⊢
  obtain ⟨u,e,q⟩:=p
  exact ⟨u,e,aBI hS x (fun b hb=>h b (by simpa [avh] using hb)) q⟩
theorem axT {g g':HpF} {m m':anV} {S S':anR} (hS:SLe S S'):∀ (l:List AV) {vs:List Value},(∀ b ∈ auh l,g' b=g b∧m' b=m b)→VRL g m S l vs→VRL g' m' S' l vs
 | [],[],_,_=>by simp only [VRL]
 |x::r,v::vs,h,p=>by
  simp only [VRL] at p ⊢
  exact ⟨aBI hS x (fun b hb=>h b (by simp [auh,hb])) p.1,axT hS r (fun b hb=>h b (by simp [auh,hb])) p.2⟩
 | [],_::_,_,p=>by simp [VRL] at p
 |_::_,[],_,p=>by simp [VRL] at p
end
theorem axO {g:HpF} {m:anV} {S:anR} {x:AV} {v:Value} (h:(avh x).isEmpty=true) (hv:VR g m S x v):PR S x v:=by
 have he:avh x= []:=by simpa using h
 exact ax2 (m:=m) x (aBI (SLe.refl S) x (fun b hb=>by rw [he] at hb;cases hb) hv)
def aGf (nt:Nat) (o:Oper):Bool:=match o.dst with|some d=>Nat.blt d nt|none=>true
def au3 (nt:Nat):Code→Bool
 | .region _ ops _=>ops.toList.all (aGf nt)
 | .seq a b=>au3 nt a && au3 nt b
 | .cond _ a b=>au3 nt a && au3 nt b
 | .block _ b=>au3 nt b
 | .loop b=>au3 nt b
 | .scope b=>au3 nt b
 |_=>true
section
variable {P:Program} {ap:AP} {H:aug}
def aNu (hp:Hp) (m:anV) (S:anR) (Q:Exit→Act→World→Prop) (a:Act) (w:World):an_→Prop
 | .normal=>Q .normal a w
 | .exit id=>Q (.exit id) a w
 | .ret=>Q .ret a w
 | .panic v=> ∀ cv,VR (ad9 hp) m S v cv→Q (.panic [{v:=cv,recovered:=false}]) a w
def XA (ap:AP) (h0:List Blk) (m0:anV) (S0:anR) (w0:World) (nt:Nat) (s':St) (e:an_) (Q:Exit→Act→World→Prop):Prop:=
 ∀ m' S' w' a',Fr (an3 h0) m0 S0 w0 (ad9 s'.hp) m' S' w'→FR ap s'.env s'.hp s'.dfs nt m' S' w' a'→aNu s'.hp m' S' Q a' w' e
def adY (P:Program) (ap:AP) (h0:List Blk) (nt:Nat) (code:Code) (s:St) (e:an_) (s':St):Prop:=
 s.md= .dead→s'.md= .dead∧∀ m0 S0 w0 m S w a,Fr (an3 h0) m0 S0 w0 (ad9 s.hp) m S w→FR ap s.env s.hp s.dfs nt m S w a→∀ Q,XA ap h0 m0 S0 w0 nt s' e Q→code.wp P Q a w
theorem adY.still {h0:List Blk} {nt:Nat} {code:Code} {s:St} {e:an_} (h:∀ (Q:Exit→Act→World→Prop) hp m S a w,aNu hp m S Q a w e→code.wp P Q a w):adY P ap h0 nt code s e s:=
 fun hmd=> ⟨hmd,fun _ _ _ m S w a hf hF Q hQ=>h Q s.hp m S a w (hQ m S w a hf hF)⟩
theorem aEv {h0:List Blk} {nt:Nat} {b:Code} {f:St→Cx→R (an_ × St)} (hf:∀ s e s' c c',f s c= .ok (e,s') c'→c'.Ok→c.Ok∧adY P ap h0 nt b s e s'):
  ∀ (n:Nat) (s:St) (e:an_) (s':St) (c c':Cx),aLb f n s c= .ok (e,s') c'→c'.Ok→c.Ok∧(s.md= .dead→s'.md= .dead∧∀ m0 S0 w0 m S w a,Fr (an3 h0) m0 S0 w0 (ad9 s.hp) m S w→FR ap s.env s.hp s.dfs nt m S w a→∀ Q,XA ap h0 m0 S0 w0 nt s' e Q→Code.rounds P b Q n a w)
 |0,s,e,s',c,c',h,hc=>by cases h
 | n+1,s,e,s',c,c',h,hc=>by
  simp only [aLb] at h
  obtain ⟨⟨e1,s1⟩,c1,h1,h⟩:=R.bind_ok h
  dsimp only at h
  have hother:e1 ≠ .normal→R.ok (e1,s1) c1=R.ok (e,s') c'→c.Ok∧(s.md= .dead→s'.md= .dead∧∀ m0 S0 w0 m S w a,Fr (an3 h0) m0 S0 w0 (ad9 s.hp) m S w→FR ap s.env s.hp s.dfs nt m S w a→∀ Q,XA ap h0 m0 S0 w0 nt s' e Q→Code.rounds P b Q (n+1) a w):=by
   intro hne he
   cases he
   obtain ⟨hc0,hx⟩:=hf _ _ _ _ _ h1 hc
   refine ⟨hc0,fun hmd=> ?_⟩
   obtain ⟨h3,h4⟩:=hx hmd
   refine ⟨h3,fun m0 S0 w0 m S w a hfr hF Q hQ=>h4 m0 S0 w0 m S w a hfr hF _ ?_⟩
   intro m' S' w' a' h5 h6
   have:=hQ m' S' w' a' h5 h6
   cases e with
   |normal=>exact absurd rfl hne
   |exit id=>exact this
   |ret=>exact this
   |panic v=>exact this
  cases e1 with
  |normal=>
   dsimp only at h
   obtain ⟨hc1,ih⟩:=aEv hf n s1 e s' c1 c' h hc
   obtain ⟨hc0,hx⟩:=hf _ _ _ _ _ h1 hc1
   refine ⟨hc0,fun hmd=> ?_⟩
   obtain ⟨h3,h4⟩:=hx hmd
   obtain ⟨h5,h6⟩:=ih h3
   refine ⟨h5,fun m0 S0 w0 m S w a hfr hF Q hQ=>h4 m0 S0 w0 m S w a hfr hF _ ?_⟩
   intro m' S' w' a' h7 h8
   exact h6 m0 S0 w0 m' S' w' a' h7 h8 Q hQ
  |exit id=>exact hother (by simp) h
  |ret=>exact hother (by simp) h
  |panic v=>exact hother (by simp) h
theorem avn (hap:awf P ap) (hmix:P.follows .mixedOrders=true) (hH:awU P ap H) {h0:List Blk} {keep:List Nat} {lf nt:Nat}:∀ (code:Code),au3 nt code=true→∀ (s:St) (e:an_) (s':St) (c c':Cx),axk ap H h0.length keep lf code s c= .ok (e,s') c'→c'.Ok→c.Ok∧adY P ap h0 nt code s e s'
 | .skip,_,s,e,s',c,c',h,hc=>by
  cases h
  exact ⟨hc,adY.still fun Q hp m S a w hq=>wp_skip hq⟩
 | .label l,_,s,e,s',c,c',h,hc=>by
  cases h
  exact ⟨hc,adY.still fun Q hp m S a w hq=>wp_label hq⟩
 | .exit id,_,s,e,s',c,c',h,hc=>by
  cases h
  exact ⟨hc,adY.still fun Q hp m S a w hq=>wp_exit hq⟩
 | .ret,_,s,e,s',c,c',h,hc=>by
  cases h
  exact ⟨hc,adY.still fun Q hp m S a w hq=>wp_ret hq⟩
 | .region id ops draw,hd,s,e,s',c,c',h,hc=>by
  have hnt:∀ o ∈ ops.toList,∀ d,o.dst=some d→d<nt:=by
   intro o ho d hod
   have:=List.all_eq_true.1 hd o ho
   simp only [aGf,hod] at this
   exact avv this
  obtain ⟨hc0,hr⟩:=aHG hap hmix hH hnt (id:=id) h hc
  refine ⟨hc0,fun hmd=> ?_⟩
  obtain ⟨h1,h2⟩:=hr hmd
  refine ⟨h1,fun m0 S0 w0 m S w a hfr hF Q hQ=> ?_⟩
  have:=h2 m S w a hF Q
  rw [Array.toArray_toList] at this
  refine this ?_
  cases e with
  |normal=>
   intro s1 hs1 m' S' w' a' h3 h4
   obtain ⟨m2,h5,h6⟩:=ayf (keep:=keep) (hfr.trans h3) h4
   rw [← hs1] at h5 h6
   exact hQ m2 S' w' a' h5 h6
  | panic v=>
   simp only [ayt]
   split
   ·rename_i hre
    intro s1 hs1 m' S' w' a' cv h3 h4 h5
    obtain ⟨m2,h6,h7⟩:=ayf (keep:=keep) (hfr.trans h3) h4
    rw [← hs1] at h6 h7
    exact hQ m2 S' w' a' h6 h7 cv (av7 _ (axO hre h5))
   ·intro m' S' w' a' cv h3 h4 h5
    exact hQ m' S' w' a' (hfr.trans h3) h4 cv h5
  |exit id=>trivial
  |ret=>trivial
 | .seq x y,hd,s,e,s',c,c',h,hc=>by
  simp only [au3,Bool.and_eq_true] at hd
  simp only [axk] at h
  obtain ⟨⟨e1,s1⟩,c1,h1,h⟩:=R.bind_ok h
  dsimp only at h
  have hother:e1 ≠ .normal→R.ok (e1,s1) c1=R.ok (e,s') c'→c.Ok∧adY P ap h0 nt (.seq x y) s e s':=by
   intro hne he
   cases he
   obtain ⟨hc0,hx⟩:=avn hap hmix hH x hd.1 _ _ _ _ _ h1 hc
   refine ⟨hc0,fun hmd=> ?_⟩
   obtain ⟨h3,h4⟩:=hx hmd
   refine ⟨h3,fun m0 S0 w0 m S w a hfr hF Q hQ=>wp_seq (h4 m0 S0 w0 m S w a hfr hF _ ?_)⟩
   intro m' S' w' a' h5 h6
   have:=hQ m' S' w' a' h5 h6
   cases e with
   |normal=>exact absurd rfl hne
   |exit id=>exact this
   |ret=>exact this
   |panic v=>exact this
  cases e1 with
  |normal=>
   dsimp only at h
   obtain ⟨hc1,ih⟩:=avn hap hmix hH y hd.2 _ _ _ _ _ h hc
   obtain ⟨hc0,hx⟩:=avn hap hmix hH x hd.1 _ _ _ _ _ h1 hc1
   refine ⟨hc0,fun hmd=> ?_⟩
   obtain ⟨h3,h4⟩:=hx hmd
   obtain ⟨h5,h6⟩:=ih h3
   refine ⟨h5,fun m0 S0 w0 m S w a hfr hF Q hQ=>wp_seq (h4 m0 S0 w0 m S w a hfr hF _ ?_)⟩
   intro m' S' w' a' h7 h8
   exact h6 m0 S0 w0 m' S' w' a' h7 h8 Q hQ
  |exit id=>exact hother (by simp) h
  |ret=>exact hother (by simp) h
  |panic v=>exact hother (by simp) h
 | .cond t x y,hd,s,e,s',c,c',h,hc=>by
  simp only [au3,Bool.and_eq_true] at hd
  simp only [axk] at h
  split at h
  ·rename_i bv hbv
   obtain ⟨b',c1,h1,h⟩:=R.bind_ok h
   have key:∀ (z:Code),(c1.Ok→c1.Ok∧z=if bv then x else y)→c1.Ok∧adY P ap h0 nt z s e s'→c.Ok∧adY P ap h0 nt (.cond t x y) s e s':=by
    rintro z hzz ⟨hc1,ih⟩
    obtain ⟨hc0,hb⟩:=axm h1 hc1
    refine ⟨hc0,fun hmd=> ?_⟩
    obtain ⟨h5,h6⟩:=ih hmd
    refine ⟨h5,fun m0 S0 w0 m S w a hfr hF Q hQ=>wp_cond (t:=bv) ?_ ?_⟩
    ·have:=aBn hF.srel (a:=a) (env:=s.env) t (fun t _=>hF.env t)
     rw [hbv] at this
     simpa only [VR,PR] using this
    ·rw [← (hzz hc1).2]
     exact h6 m0 S0 w0 m S w a hfr hF Q hQ
   cases b' with
   |true=>exact key x (fun hk=> ⟨hk,by rw [← (axm h1 hk).2];rfl⟩) (avn hap hmix hH x hd.1 _ _ _ _ _ h hc)
   |false=>exact key y (fun hk=> ⟨hk,by rw [← (axm h1 hk).2];rfl⟩) (avn hap hmix hH y hd.2 _ _ _ _ _ h hc)
  ·cases h
 | .block id b,hd,s,e,s',c,c',h,hc=>by
  simp only [au3] at hd
  simp only [axk] at h
  obtain ⟨⟨e1,s1⟩,c1,h1,h⟩:=R.bind_ok h
  dsimp only at h
  have hcc:c1=c':=by
   cases e1<;>dsimp only at h
   ·cases h;rfl
   ·split at h<;>cases h<;>rfl
   ·cases h;rfl
   ·cases h;rfl
  subst hcc
  obtain ⟨hc0,hx⟩:=avn hap hmix hH b hd _ _ _ _ _ h1 hc
  refine ⟨hc0,fun hmd=> ?_⟩
  obtain ⟨h3,h4⟩:=hx hmd
  have hs:s1=s':=by
   cases e1<;>dsimp only at h
   ·cases h;rfl
   ·split at h<;>cases h<;>rfl
   ·cases h;rfl
   ·cases h;rfl
  subst hs
  refine ⟨h3,fun m0 S0 w0 m S w a hfr hF Q hQ=>wp_block (h4 m0 S0 w0 m S w a hfr hF _ ?_)⟩
  intro m' S' w' a' h5 h6
  have hq:=hQ m' S' w' a' h5 h6
  cases e1 with
  |normal=>cases h;exact hq
  |ret=>cases h;exact hq
  |panic v=>cases h;exact hq
  | exit id'=>
   dsimp only at h
   split at h
   ·rename_i he
    cases h
    show Exit.inBlock id Q (.exit id') a' w'
    simp only [Exit.inBlock,if_pos (anN he)]
    exact hq
   ·rename_i he
    cases h
    show Exit.inBlock id Q (.exit id') a' w'
    have hne:id' ≠ id:=by intro e;subst e;simp at he
    simp only [Exit.inBlock,if_neg hne]
    exact hq
 | .loop b,hd,s,e,s',c,c',h,hc=>by
  simp only [au3] at hd
  simp only [axk] at h
  obtain ⟨hc0,hx⟩:=aEv (fun s e s' c c' h hc=>avn hap hmix hH b hd s e s' c c' h hc) lf s e s' c c' h hc
  refine ⟨hc0,fun hmd=> ?_⟩
  obtain ⟨h3,h4⟩:=hx hmd
  exact ⟨h3,fun m0 S0 w0 m S w a hfr hF Q hQ=>wp_loop_rounds lf (h4 m0 S0 w0 m S w a hfr hF Q hQ)⟩
 | .scope b,hd,s,e,s',c,c',h,hc=>by
  simp only [au3] at hd
  simp only [axk] at h
  obtain ⟨hc0,hx⟩:=avn hap hmix hH b hd _ _ _ _ _ h hc
  refine ⟨hc0,fun hmd=> ?_⟩
  obtain ⟨h3,h4⟩:=hx hmd
  refine ⟨h3,fun m0 S0 w0 m S w a hfr hF Q hQ=>wp_scope_straight (h4 m0 S0 w0 m S w a hfr hF _ ?_)⟩
  intro m' S' w' a' h5 h6
  have hq:=hQ m' S' w' a' h5 h6
  cases e with
  |normal=>exact hq
  |exit id=>exact hq
  |ret=>exact hq
  |panic v=>exact hq
 | .rangeFunc _ _ _ _,_,s,e,s',c,c',h,hc=>by cases h
 | .goto _,_,s,e,s',c,c',h,hc=>by cases h
 | .refuse _,_,s,e,s',c,c',h,hc=>by cases h
end
end AM
