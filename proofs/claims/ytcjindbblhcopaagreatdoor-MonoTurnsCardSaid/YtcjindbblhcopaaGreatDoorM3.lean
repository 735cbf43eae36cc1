/- The abstract machine over the code of the model, and the proof that it is sound. No conditions. -/
import Derived.Test.YtcjindbblhcopaaGreatDoorM2
import Derived.Orders
import Derived.LoopN
import Derived.Scope
set_option linter.unusedSimpArgs false
set_option linter.unusedVariables false
namespace AM
open Go
def aS (h:List aL):bL:=fun b=>h[b]?
def fu (gh gf:bL) (m:aN) (S:aJ):Nat→List AV→List Value→Prop
 |_,[],[]=>True
 |n,.own _ k _::r,v::vs=>VR gf m S (.ref n 0 0 k) v∧fu gh gf m S (n+1) r vs
 |n,x::r,v::vs=>VR gh m S x v∧fu gh gf m S n r vs
 |_,_,_=>False
def pA (gh gf:bL) (m:aN) (S:aJ) (n:Nat):AV→Value→Prop
 | .tup l,v=> ∃ vs,v= .tuple vs.toArray∧fu gh gf m S n l vs
 | .own _ k _,v=>VR gf m S (.ref n 0 0 k) v
 |x,v=>VR gh m S x v
def gz (n:Nat):gb→List aL
 | .ret v=>(fL n v).2
 | .pan _=> []
def NY (h':List aL) (m':aN) (S':aJ):gb→Ending→Prop
 | .ret v,e=> ∃ cv,e= .returned cv∧pA (aS h') (aS (h'++(fL h'.length v).2)) m' S' h'.length v cv
 | .pan v,e=> ∃ cv,e= .panicked [{v:=cv,recovered:=false}]∧VR (aS h') m' S' v cv
structure wZ (ap:AP) (h:List aL) (m:aN) (S:aJ) (w:World) (out:gb) (h':List aL) (m':aN) (S':aJ) (w':World) (e:Ending):Prop where
 srel:br ap (aS (h'++gz h'.length out)) m' S' w'
 fr:Fr (aS h) m S w (aS (h'++gz h'.length out)) m' S' w'
 out:NY h' m' S' out e
def qJ (P:Program) (f:Nat):Prop:=∀ args w,(callFunc f args).run P w= .ok (.enter f args) w
structure ai (P:Program) (ap:AP) (f:Nat) (args:List AV) (h:List aL) (out:gb) (h':List aL):Prop where
 len:h.length≤h'.length
 ent:qJ P f
 calls:∀ m S w cargs,br ap (aS h) m S w→aQ (aS h) m S args cargs→Calls P f cargs.toArray w fun e w'=> ∃ m' S',wZ ap h m S w out h' m' S' w' e
def fH (P:Program) (ap:AP) (H:bA):Prop:=∀ c f args h out h' md' c',H c .dead f args h= .ok (out,h',md') c'→c'.Ok→c.Ok∧ai P ap f args h out h'
section
variable {P:Program} {ap:AP} {g:bL} {m:aN} {S:aJ} {w:World}
mutual
theorem iQ {m:aN} {S:aJ}:∀ (x:AV) {v:Value},VR (aS []) m S x v→PR S x v
 | .int _ _,_,p=>by simpa only [VR] using p
 | .bool _,_,p=>by simpa only [VR] using p
 | .str _,_,p=>by simpa only [VR] using p
 | .nilS,_,p=>by simpa only [VR] using p
 | .nilP,_,p=>by simpa only [VR] using p
 | .nilF,_,p=>by simpa only [VR] using p
 | .nilI,_,p=>by simpa only [VR] using p
 | .sl _ _ _,_,p=>by simpa only [VR] using p
 | .pp _ _,_,p=>by simpa only [VR] using p
 | .mp _ _,_,p=>by simpa only [VR] using p
 | .dead,_,_=>by simp only [PR]
 | .own _ _ _,_,p=>by simp only [VR] at p
 | .ref _ _ _ _,_,p=>by simp [VR,aS] at p
 | .ptr _ _ _,_,p=>by simp [VR,aS] at p
 | .mr _ _,_,p=>by simp [VR,aS] at p
 | .agg l,_,p=>by
  simp only [VR] at p;simp only [PR]
  obtain ⟨vs,e,q⟩:=p
  exact ⟨vs,e,fP l q⟩
 | .tup l,_,p=>by
  simp only [VR] at p;simp only [PR]
  obtain ⟨vs,e,q⟩:=p
  exact ⟨vs,e,fP l q⟩
 | .fn f a c,_,p=>by
  simp only [VR] at p;simp only [PR]
  obtain ⟨va,vc,e,q,r⟩:=p
  exact ⟨va,vc,e,fP a q,fP c r⟩
 | .ifc t x,_,p=>by
  simp only [VR] at p;simp only [PR]
  obtain ⟨u,e,q⟩:=p
  exact ⟨u,e,iQ x q⟩
theorem fP {m:aN} {S:aJ}:∀ (l:List AV) {vs:List Value},aQ (aS []) m S l vs→bP S l vs
 | [],[],_=>by simp only [bP]
 |x::r,v::vs,p=>by simp only [aQ] at p;simp only [bP];exact ⟨iQ x p.1,fP r p.2⟩
 | [],_::_,p=>by simp [aQ] at p
 |_::_,[],p=>by simp [aQ] at p
end
theorem NA (hS:br ap g m S w) {gc gc':bL} {mc mc':aN} {Sp S':aJ} {w':World} (hc:br ap gc' mc' S' w') (hf:Fr gc mc Sp w gc' mc' S' w') (ι:Nat→Nat)
  (hdom:∀ i Bc,gc i=some Bc→∃ B,g (ι i)=some B∧mc i=m (ι i))
  (hSp:iC S Sp) (hSpN:∀ k o v,Sp k o=some v→S k o=some v∨∃ b B,g b=some B∧(m b).1=k) {gN:bL} {mN:aN} (ρ:Nat→Nat→Option (Nat × Nat)) (hρ:lH gc' mc' gN mN ρ)
  (hnew:∀ i Bc,gc' i=some Bc→∃ B,gN (ι i)=some B∧mN (ι i)=mc' i∧B.esz=Bc.esz∧B.fro=Bc.fro∧B.fz=Bc.fz∧B.pr=Bc.pr∧(Bc.pr=true→B.cells=Bc.cells)∧(Bc.pr=false→B.cells=ic ρ Bc.cells))
  (hold:∀ b B,gN b=some B→(∃ i Bc,gc' i=some Bc∧b=ι i)∨(∃ B0,g b=some B0∧mN b=m b∧B.cells=B0.cells∧B.pr=B0.pr∧B.esz=B0.esz∧(B.fro=false→B.fz=0)∧B.fz≤B.cells.length∧(∀ i Bc,gc i=some Bc→b ≠ ι i)∧(∀ o v,Sp (m b).1 o=some v→B.fro=true∧o<B.fz)))
  (hge:Ge g m gN mN):br ap gN mN S' w'∧Fr g m S w gN mN S' w':=by
 have hsle:iC S S':=hSp.trans hf.sle
 have hcross:∀ b B0 i Bc,g b=some B0→gc' i=some Bc→(∀ i Bc,gc i=some Bc→b ≠ ι i)→(m b).1 ≠ (mc' i).1:=by
  intro b B0 i Bc hb hi hno e
  have hlt:=hS.lt hb
  rcases hf.img i Bc hi with h1|⟨B1,h1,h2⟩
  ·omega
  ·obtain ⟨B2,h3,h4⟩:=hdom i B1 h1
   rw [h4] at h2
   exact hno i B1 h1 (hS.inj b (ι i) B0 B2 hb h3 (e.trans h2))
 constructor
 ·refine ⟨?_, ?_,hc.sealed, ?_,hc.glob⟩
  ·intro b b' B B' hb hb' e
   rcases hold b B hb with ⟨i,Bi,hi,rfl⟩|⟨B0,h0,h1,_,_,_,_,_,h2,_⟩<;>rcases hold b' B' hb' with ⟨j,Bj,hj,rfl⟩|⟨B0',h0',h1',_,_,_,_,_,h2',_⟩
   ·obtain ⟨_,_,e1,_⟩:=hnew i Bi hi
    obtain ⟨_,_,e2,_⟩:=hnew j Bj hj
    rw [e1,e2] at e
    rw [hc.inj i j Bi Bj hi hj e]
   ·obtain ⟨_,_,e1,_⟩:=hnew i Bi hi
    rw [e1,h1'] at e
    exact absurd e.symm (hcross b' B0' i Bi h0' hi h2')
   ·obtain ⟨_,_,e2,_⟩:=hnew j Bj hj
    rw [e2,h1] at e
    exact absurd e (hcross b B0 j Bj h0 hj h2)
   ·rw [h1,h1'] at e
    exact hS.inj b b' B0 B0' h0 h0' e
  ·intro b B hb
   rcases hold b B hb with ⟨i,Bi,hi,rfl⟩|⟨B0,h0,h1,h3,h4,h5,h6,h7,h2,_⟩
   ·obtain ⟨B1,e0,e1,e2,e3,e4,e5,e6,e7⟩:=hnew i Bi hi
    rw [hb] at e0;cases e0
    rw [e1]
    obtain ⟨⟨cur,e,vs,rest,k1,k2,k3,k4,k5,k6⟩,k7,k8⟩:=hc.blk i Bi hi
    cases hp:Bi.pr with
    |true=>
     have hcells:=e6 hp
     refine ⟨⟨cur,e,vs,rest,by rw [e2];exact k1,k2,fun _=>by rw [hcells];exact k3 hp,by rw [hcells];exact bh _ (k3 hp),by rw [e2];exact k5,by rw [e2];exact k6⟩,by rw [e3,e4];exact k7,by rw [e4,hcells];exact k8⟩
    |false=>
     have hcells:=e7 hp
     have hv:=gm (iC.refl S') hρ _ k4
     have hlen:B.cells.length=Bi.cells.length:=by rw [bw k4,hcells,bw hv]
     refine ⟨⟨cur,e,vs,rest,by rw [e2];exact k1,k2,(fun h=>by rw [e5,hp] at h;cases h),by rw [hcells];exact hv,by rw [e2];exact k5,by rw [e2];exact k6⟩,by rw [e3,e4];exact k7,by rw [e4,hlen];exact k8⟩
   ·rw [h1]
    have hno:∀ i Bc,gc i=some Bc→(mc i).1 ≠ (m b).1:=by
     intro i Bc hi e
     obtain ⟨B2,h8,h9⟩:=hdom i Bc hi
     rw [h9] at e
     exact h2 i Bc hi (hS.inj b (ι i) B0 B2 h0 h8 e.symm)
    obtain ⟨⟨cur,e,vs,rest,k1,k2,k3,k4,k5,k6⟩,k7,k8⟩:=hS.blk b B0 h0
    refine ⟨⟨cur,e,vs,rest,by rw [h5];exact k1.same (hf.rest _ (hS.lt h0) hno),k2,fun hp=>by rw [h3];rw [h4] at hp;exact aX hsle _ (k3 hp),by rw [h3];exact gT hsle hge _ k4,by rw [h5];exact k5,by rw [h5];exact k6⟩,h6,h7⟩
  ·intro b B hb o v hv
   rcases hold b B hb with ⟨i,Bi,hi,rfl⟩|⟨B0,h0,h1,h3,h4,h5,h6,h7,h2,h8⟩
   ·obtain ⟨B1,e0,e1,e2,e3,e4,e5,e6,e7⟩:=hnew i Bi hi
    rw [hb] at e0;cases e0
    rw [e1] at hv
    rw [e3,e4]
    exact hc.own i Bi hi o v hv
   ·rw [h1] at hv
    rcases hf.sealN _ _ _ hv with h9|h9|⟨i,Bi,hi,h9⟩
    ·exact h8 o v h9
    ·have:=hS.lt h0;omega
    ·obtain ⟨B2,h10,h11⟩:=hdom i Bi hi
     rw [h11] at h9
     exact absurd (hS.inj b (ι i) B0 B2 h0 h10 h9.symm) (h2 i Bi hi)
 ·refine ⟨hge,hsle,hf.os,hf.tape,hf.output,hf.size, ?_, ?_, ?_⟩
  ·intro k hk hno
   refine hf.rest k hk fun i Bc hi e=> ?_
   obtain ⟨B2,h8,h9⟩:=hdom i Bc hi
   exact hno (ι i) B2 h8 (by rw [← h9];exact e)
  ·intro b B hb
   rcases hold b B hb with ⟨i,Bi,hi,rfl⟩|⟨B0,h0,h1,_⟩
   ·obtain ⟨B1,e0,e1,_⟩:=hnew i Bi hi
    rw [e1]
    rcases hf.img i Bi hi with h1|⟨B2,h1,h2⟩
    ·exact .inl h1
    ·obtain ⟨B3,h3,h4⟩:=hdom i B2 h1
     exact .inr ⟨B3,h3,by rw [h2,h4]⟩
   ·exact .inr ⟨B0,h0,by rw [h1]⟩
  ·intro k o v hv
   rcases hf.sealN _ _ _ hv with h9|h9|⟨i,Bi,hi,h9⟩
   ·rcases hSpN _ _ _ h9 with h|h
    ·exact .inl h
    ·exact .inr (.inr h)
   ·exact .inr (.inl h9)
   ·obtain ⟨B2,h10,h11⟩:=hdom i Bi hi
    exact .inr (.inr ⟨ι i,B2,h10,by rw [← h11];exact h9⟩)
structure xu (F:AV→AV):Prop where
 own:∀ xs n e,F (.own xs n e)= .own xs n e
 tup:∀ l,F (.tup l)= .tup (l.map F)
 not:∀ x,(∀ xs n e,x ≠ .own xs n e)→(∀ xs n e,F x ≠ .own xs n e)
 notT:∀ x,(∀ l,x ≠ .tup l)→(∀ l,F x ≠ .tup l)
theorem aT (n:Nat) {x:AV} (h:∀ xs k e,x ≠ .own xs k e) (r:List AV):dc n (x::r)=(x::(dc n r).1,(dc n r).2):=by
 cases x<;>first|rfl|exact absurd rfl (h _ _ _)
theorem eW (n:Nat) {x:AV} (h:∀ xs k e,x ≠ .own xs k e) (h':∀ l,x ≠ .tup l):fL n x=(x,[]):=by
 cases x<;>first|rfl|exact absurd rfl (h _ _ _)|exact absurd rfl (h' _)
theorem bu {gh gf:bL} {n:Nat} {x:AV} (h:∀ xs k e,x ≠ .own xs k e) {r:List AV} {v:Value} {vs:List Value}:fu gh gf m S n (x::r) (v::vs)=(VR gh m S x v∧fu gh gf m S n r vs):=by
 cases x<;>first|rfl|exact absurd rfl (h _ _ _)
theorem gF {gh gf:bL} {n:Nat} {x:AV} (h:∀ xs k e,x ≠ .own xs k e) (h':∀ l,x ≠ .tup l) {v:Value}:pA gh gf m S n x v=VR gh m S x v:=by
 cases x<;>first|rfl|exact absurd rfl (h _ _ _)|exact absurd rfl (h' _)
theorem fo (x:AV):(∃ xs k e,x= .own xs k e)∨(∀ xs k e,x ≠ .own xs k e):=by
 cases x<;>first|exact .inl ⟨_,_,_,rfl⟩|exact .inr (fun _ _ _ h=>by cases h)
theorem rK (x:AV):(∃ l,x= .tup l)∨(∀ l,x ≠ .tup l):=by
 cases x<;>first|exact .inl ⟨_,rfl⟩|exact .inr (fun _ h=>by cases h)
theorem lg {F:AV→AV} (hF:xu F):∀ (l:List AV) (a b:Nat),(dc a (l.map F)).2=(dc b l).2
 | [],a,b=>rfl
 | x::r,a,b=>by
  rcases fo x with ⟨xs,k,e,rfl⟩|hx
  ·simp only [List.map_cons,hF.own,dc]
   rw [lg hF r (a+1) (b+1)]
  ·rw [List.map_cons,aT a (hF.not x hx),aT b hx]
   exact lg hF r a b
theorem sx {F:AV→AV} (hF:xu F) (x:AV) (a b:Nat):(fL a (F x)).2=(fL b x).2:=by
 rcases fo x with ⟨xs,k,e,rfl⟩|hx
 ·rw [hF.own];rfl
 ·rcases rK x with ⟨l,rfl⟩|ht
  ·rw [hF.tup]
   simp only [fL]
   exact lg hF l a b
  ·rw [eW a (hF.not x hx) (hF.notT x ht),eW b hx ht]
theorem mL {F:AV→AV} (hF:xu F) {gh gf gN:bL} {m mN:aN} {S:aJ} {n nid:Nat} (hx:∀ x v,VR gh m S x v→VR gN mN S (F x) v) (hr:∀ i k v,VR gf m S (.ref (n+i) 0 0 k) v→VR gN mN S (.ref (nid+i) 0 0 k) v):
  ∀ (l:List AV) (vs:List Value) (j:Nat),fu gh gf m S (n+j) l vs→aQ gN mN S (dc (nid+j) (l.map F)).1 vs
 | [],[],j,_=>by simp [dc,aQ]
 | x::r,v::vs,j,h=>by
  rcases fo x with ⟨xs,k,e,rfl⟩|hxo
  ·simp only [fu] at h
   simp only [List.map_cons,hF.own,dc,aQ]
   exact ⟨hr j k v h.1,by have:=mL hF hx hr r vs (j+1);rw [← Nat.add_assoc,← Nat.add_assoc] at this;exact this h.2⟩
  ·rw [bu hxo] at h
   rw [List.map_cons,aT _ (hF.not x hxo)]
   simp only [aQ]
   exact ⟨hx x v h.1,mL hF hx hr r vs j h.2⟩
 | [],_::_,_,h=>by simp [fu] at h
 |x::r,[],_,h=>by cases x<;>simp [fu] at h
theorem vZ {F:AV→AV} (hF:xu F) {gh gf gN:bL} {m mN:aN} {S:aJ} {n nid:Nat} (hx:∀ x v,VR gh m S x v→VR gN mN S (F x) v) (hr:∀ i k v,VR gf m S (.ref (n+i) 0 0 k) v→VR gN mN S (.ref (nid+i) 0 0 k) v)
  {x:AV} {v:Value} (h:pA gh gf m S n x v):VR gN mN S (fL nid (F x)).1 v:=by
 rcases fo x with ⟨xs,k,e,rfl⟩|hxo
 ·simp only [pA] at h
  rw [hF.own]
  exact hr 0 k v h
 ·rcases rK x with ⟨l,rfl⟩|ht
  ·simp only [pA] at h
   obtain ⟨vs,e,h⟩:=h
   rw [hF.tup]
   simp only [fL,VR]
   exact ⟨vs,e,mL hF hx hr l vs 0 h⟩
  ·rw [gF hxo ht] at h
   rw [eW _ (hF.not x hxo) (hF.notT x ht)]
   exact hx x v h
theorem Bb:xu id:=⟨fun _ _ _=>rfl,fun l=>by simp,fun _ h=>h,fun _ h=>h⟩
theorem BF (ρ:Nat→Nat→Option (Nat × Nat)):∀ l,ic ρ l=l.map (ren ρ)
 | []=>rfl
 |x::r=>by simp [ic,BF ρ r]
theorem xV (ρ:Nat→Nat→Option (Nat × Nat)):xu (ren ρ):=by
 refine ⟨fun _ _ _=>rfl,fun l=>by simp [ren,BF], ?_, ?_⟩
 ·intro x h xs n e hh
  cases x<;>simp only [ren] at hh<;>first
   |(cases hh;done)
   |(split at hh<;>cases hh;done)
   |exact h _ _ _ rfl
 ·intro x h l hh
  cases x<;>simp only [ren] at hh<;>first
   |(cases hh;done)
   |(split at hh<;>cases hh;done)
   |exact h _ rfl
theorem qY:∀ (bs:List aL) (n b:Nat),look (vH n bs) b=if n≤b then bs[b - n]? else none
 | [],n,b=>by simp [vH,look]
 | B::r,n,b=>by
  simp only [vH,look]
  cases h:Nat.beq n b with
  |true=>
   have:=ax h
   subst this
   simp
  | false=>
   have hne:n ≠ b:=by intro e;subst e;simp at h
   rw [qY r (n+1) b]
   by_cases hle:n≤b
   ·rw [if_pos hle,if_pos (show n+1≤b by omega)]
    obtain ⟨d,hd⟩:∃ d,b - n=d+1:=⟨b - n - 1,by omega⟩
    rw [hd,List.getElem?_cons_succ,show b - (n+1)=d by omega]
   ·rw [if_neg hle,if_neg (show ¬ n+1≤b by omega)]
theorem yc {rd:bL} {mk:aL→aL}:∀ (fp:List Nat) (b:Nat),look (fp.filterMap fun b=>(rd b).map fun B=>(b,mk B)) b=if b ∈ fp then (rd b).map mk else none
 | [],b=>by simp [look]
 | a::r,b=>by
  have ih:=yc (rd:=rd) (mk:=mk) r b
  cases ha:rd a with
  |none=>
   rw [List.filterMap_cons_none (by simp [ha]),ih]
   by_cases hab:b=a
   ·subst hab;simp [ha]
   ·simp [hab]
  | some B=>
   rw [List.filterMap_cons_some (by simp [ha];rfl)]
   simp only [look]
   cases h:Nat.beq a b with
   |true=>have:=ax h;subst this;simp [ha]
   |false=>
    have hne:b ≠ a:=by intro e;subst e;simp at h
    simp only [ih,List.mem_cons,hne,false_or]
end
end AM
namespace AM
open Go
def NZ (g:bL) (m:aN) (S:aJ):gb→Ending→Prop
 | .ret v,e=> ∃ cv,e= .returned cv∧VR g m S v cv
 | .pan v,e=> ∃ cv,e= .panicked [{v:=cv,recovered:=false}]∧VR g m S v cv
def J6 (ap:AP) (g:bL) (m:aN) (S:aJ) (w:World) (out:gb) (ups:List (Nat × aL)) (e:Ending) (w':World):Prop:=
 ∃ m' S',br ap (bU g ups) m' S' w'∧Fr g m S w (bU g ups) m' S' w'∧NZ (bU g ups) m' S' out e
theorem cT {h h':List aL} {b:Nat} (hb:b<h.length):aS (h++h') b=aS h b:=by
 simp [aS,List.getElem?_append_left hb]
theorem eQ {h h':List aL} {b:Nat} (hb:h.length≤b):aS (h++h') b=aS h' (b - h.length):=by
 simp [aS,List.getElem?_append_right hb]
def kO (l:List aL):Prop:=∀ B ∈ l,B.pr=true∧B.fro=false∧B.ver=0
theorem lh:∀ (l:List AV) (n:Nat),kO (dc n l).2
 | [],n=>by simp [dc,kO]
 | x::r,n=>by
  rcases fo x with ⟨xs,k,e,rfl⟩|hx
  ·simp only [dc]
   intro B hB
   rcases List.mem_cons.1 hB with rfl|hB
   ·exact ⟨rfl,rfl,rfl⟩
   ·exact lh r (n+1) B hB
  ·rw [aT n hx];exact lh r n
theorem BD (x:AV) (n:Nat):kO (fL n x).2:=by
 rcases fo x with ⟨xs,k,e,rfl⟩|hx
 ·intro B hB
  simp [fL] at hB
  subst hB
  exact ⟨rfl,rfl,rfl⟩
 ·rcases rK x with ⟨l,rfl⟩|ht
  ·simp only [fL];exact lh l n
  ·rw [eW n hx ht];simp [kO]
theorem sw (o:gb) (n:Nat):kO (gz n o):=by
 cases o with
 |ret v=>exact BD v n
 |pan v=>simp [gz,kO]
section
variable {P:Program} {ap:AP} {g:bL} {m:aN} {S:aJ} {w:World}
def zS (nid:Nat) (F:AV→AV):gb→gb
 | .ret v=> .ret (fL nid (F v)).1
 | .pan v=> .pan (F v)
theorem rR (hS:br ap g m S w) {rd:bL} (hrd:∀ b B,rd b=some B→g b=some B) {fp:List Nat} (hfp:∀ b B,rd b=some B→b ∈ fp) {nid:Nat} {args args':List AV} {cargs:List Value} {out:gb}
  (ha:fZ (frz rd 6) args=some args') (hv:aQ g m S args cargs) {C:List Value→(Ending→World→Prop)→Prop} (hmono:∀ cargs R R',C cargs R→(∀ e w',R e w'→R' e w')→C cargs R')
  (hc:∀ m1 S1,iC S S1→br ap (aS []) m1 S1 w→aQ (aS []) m1 S1 args' cargs→C cargs fun e w'=> ∃ m' S',wZ ap [] m1 S1 w out [] m' S' w' e) (hfr:∀ i,i<(gz 0 out).length→g (nid+i)=none):
  C cargs fun e w'=>J6 ap g m S w (zS nid id out) (vH nid (gz 0 out)++fp.filterMap fun b=>(rd b).map fun B=>(b,{B with fro:=true,fz:=B.cells.length})) e w':=by
 have hpr:bP (bO S m rd w) args' cargs:=lU (fun x v y h1 h2=>gH hS hrd 6 x v y h1 h2) ha hv
 have hle:=iJ S m rd w
 let m0:aN:=fun _=>(0,0)
 have hS0:br ap (aS []) m0 (bO S m rd w) w:=by
  refine ⟨fun b b' B B' h=>by simp [aS] at h,fun b B h=>by simp [aS] at h,fun k o v h=>jF hS h,fun b B h=>by simp [aS] at h, ?_⟩
  intro k xs hk
  obtain ⟨vs,h1,h2⟩:=hS.glob k xs hk
  exact ⟨vs,aX hle _ h1,h2.mono hle⟩
 refine hmono _ _ _ (hc m0 (bO S m rd w) hle hS0 (bh _ hpr)) ?_
 rintro e w' ⟨m',S',hF⟩
 obtain ⟨hsr,hfr',hout⟩:=hF
 simp only [List.nil_append,List.length_nil] at hsr hfr' hout
 generalize hbs:gz 0 out=bs at hsr hfr' hfr
 have hown:kO bs:=hbs ▸ sw out 0
 let gN:bL:=bU g (vH nid bs++fp.filterMap fun b=>(rd b).map fun B=>(b,{B with fro:=true,fz:=B.cells.length}))
 let mN:aN:=fun b=>if nid≤b∧b - nid<bs.length then m' (b - nid) else m b
 have hgN:∀ b,gN b=if nid≤b∧b - nid<bs.length then bs[b - nid]? else match rd b with|some B=>some {B with fro:=true,fz:=B.cells.length}|none=>g b:=by
  intro b
  show bU g _ b=_
  unfold bU
  have hmk:∀ mk:aL→aL,(if b ∈ fp then (rd b).map mk else none)=(rd b).map mk:=by
   intro mk
   split
   ·rfl
   ·rename_i hb
    cases hr:rd b with
    |none=>rfl
    |some B=>exact absurd (hfp b B hr) hb
  rw [dJ,qY,yc,hmk]
  by_cases h1:nid≤b
  ·by_cases h2:b - nid<bs.length
   ·have hc:nid≤b∧b - nid<bs.length:=⟨h1,h2⟩
    rw [if_pos h1,if_pos hc,List.getElem?_eq_getElem h2]
   ·have hc:¬ (nid≤b∧b - nid<bs.length):=fun h=>h2 h.2
    rw [if_pos h1,if_neg hc,List.getElem?_eq_none (Nat.le_of_not_lt h2)]
    cases rd b<;>rfl
  ·have hc:¬ (nid≤b∧b - nid<bs.length):=fun h=>h1 h.1
   rw [if_neg h1,if_neg hc]
   cases rd b<;>rfl
 have hnidg:∀ b B,g b=some B→¬ (nid≤b∧b - nid<bs.length):=by
  rintro b B hb ⟨h1,h2⟩
  have:=hfr (b - nid) h2
  rw [show nid+(b - nid)=b by omega,hb] at this
  cases this
 have hge:Ge g m gN mN:=by
  intro b B hb
  have hn:=hnidg b B hb
  have hm:mN b=m b:=if_neg hn
  rw [hgN,if_neg hn]
  cases hr:rd b with
  |none=>exact ⟨B,hb,rfl,.inl ⟨rfl,hm⟩⟩
  |some B1=>
   have:=hrd b B1 hr
   rw [hb] at this;cases this
   exact ⟨_,rfl,rfl,.inl ⟨rfl,hm⟩⟩
 have hmN:∀ i B,bs[i]? =some B→gN (nid+i)=some B∧mN (nid+i)=m' i:=by
  intro i B hi
  have hl:=(List.getElem?_eq_some_iff.1 hi).1
  have hc:nid≤nid+i∧nid+i - nid<bs.length:=by omega
  refine ⟨by rw [hgN,if_pos hc,show nid+i - nid=i by omega];exact hi, ?_⟩
  show (if _ then _ else _)=_
  rw [if_pos hc,show nid+i - nid=i by omega]
 obtain ⟨hsN,hfN⟩:=NA (g:=g) (m:=m) (S:=S) (w:=w) hS hsr hfr' (fun i=>nid+i) (fun i Bc h=>by simp [aS] at h) hle
  (fun k o v h=>(dh h).imp id fun ⟨_,b,B,h1,h2,_⟩=> ⟨b,B,hrd b B h1,h2⟩) (gN:=gN) (mN:=mN) (fun i v=>some (nid+i,v))
  (by
   intro b ver b' ver' h B hB hver
   simp only [Option.some.injEq,Prod.mk.injEq] at h
   obtain ⟨rfl,rfl⟩:=h
   obtain ⟨h1,h2⟩:=hmN b B hB
   exact ⟨B,h1,hver,fun e=> ⟨e,h2,rfl⟩⟩)
  (by
   intro i Bc hi
   obtain ⟨h1,h2⟩:=hmN i Bc hi
   exact ⟨Bc,h1,h2,rfl,rfl,rfl,rfl,fun _=>rfl,fun hp=>by rw [(hown Bc (List.mem_of_getElem? hi)).1] at hp;cases hp⟩)
  (by
   intro b B hb
   by_cases hc:nid≤b∧b - nid<bs.length
   ·rw [hgN,if_pos hc] at hb
    exact .inl ⟨b - nid,B,hb,by omega⟩
   ·have hm:mN b=m b:=if_neg hc
    rw [hgN,if_neg hc] at hb
    right
    cases hr:rd b with
    | none=>
     rw [hr] at hb
     have hb:g b=some B:=hb
     refine ⟨B,hb,hm,rfl,rfl,rfl,(hS.blk b B hb).fz0,(hS.blk b B hb).fzle,(fun i Bc h=>by simp [aS] at h), ?_⟩
     intro o v ho
     rcases dh ho with h|⟨_,b1,B1,h1,h2,_⟩
     ·exact hS.own b B hb o v h
     ·have:=hS.inj b1 b B1 B (hrd _ _ h1) hb h2
      subst this
      rw [h1] at hr;cases hr
    | some B1=>
     rw [hr] at hb
     have hb:some {B1 with fro:=true,fz:=B1.cells.length}=some B:=hb
     cases hb
     have hg1:=hrd b B1 hr
     refine ⟨B1,hg1,hm,rfl,rfl,rfl,(fun h=>by cases h),Nat.le_refl _,(fun i Bc h=>by simp [aS] at h), ?_⟩
     intro o v ho
     refine ⟨rfl, ?_⟩
     rcases dh ho with h|⟨_,b1,B2,h1,h2,h3⟩
     ·exact Nat.lt_of_lt_of_le (hS.own b B1 hg1 o v h).2 (hS.blk b B1 hg1).fzle
     ·have:=hS.inj b1 b B2 B1 (hrd _ _ h1) hg1 h2
      subst this
      rw [h1] at hr;cases hr
      exact h3)
  hge
 refine ⟨mN,S',hsN,hfN, ?_⟩
 show NZ gN mN S' (zS nid id out) e
 cases out with
 |ret v=>
  obtain ⟨cv,e1,h1⟩:=hout
  refine ⟨cv,e1, ?_⟩
  have hbs':(fL 0 v).2=bs:=hbs
  simp only [List.length_nil,List.nil_append,hbs'] at h1
  refine vZ (n:=0) Bb (fun x v hx=>d_ x (iQ x hx)) ?_ h1
  intro i k v hx
  rw [Nat.zero_add] at hx
  simp only [VR] at hx ⊢
  obtain ⟨B,h2,h3,h4,h5⟩:=hx
  obtain ⟨h6,h7⟩:=hmN i B h2
  exact ⟨B,h6,h3,h4,by rw [h7];exact h5⟩
 |pan v=>
  obtain ⟨cv,e1,h1⟩:=hout
  exact ⟨cv,e1,d_ _ (iQ _ h1)⟩
end
end AM
namespace AM
open Go
theorem Bu {b:Nat} {r:List Nat} (h:k_ (b::r)=true):b ∉ r∧k_ r=true:=by
 simp only [k_,Bool.and_eq_true,Bool.not_eq_true'] at h
 refine ⟨fun hb=> ?_,h.2⟩
 rw [eF.2 hb] at h
 cases h.1
theorem kw:∀ {l:List Nat} {b p:Nat},jK l b=some p→l[p]? =some b
 | [],b,p,h=>by simp [jK] at h
 | c::r,b,p,h=>by
  simp only [jK] at h
  split at h
  ·rename_i hc;cases h;rw [ax hc];rfl
  ·simp only [Option.map_eq_some_iff] at h
   obtain ⟨q,hq,rfl⟩:=h
   simpa using kw hq
theorem jD:∀ {l:List Nat} {b p:Nat},k_ l=true→l[p]? =some b→jK l b=some p
 | [],b,p,_,h=>by simp at h
 |c::r,b,0,hn,h=>by simp at h;subst h;simp [jK]
 | c::r,b,p+1,hn,h=>by
  obtain ⟨h1,h2⟩:=Bu hn
  have h:r[p]? =some b:=by simpa using h
  have hne:Nat.beq c b=false:=by
   cases hc:Nat.beq c b with
   |false=>rfl
   |true=>exact absurd (ax hc ▸ List.mem_of_getElem? h) h1
  simp [jK,hne,jD h2 h]
theorem Bl {mk:Nat→aL→aL}:∀ (fp:List Nat) (h':List aL) (b:Nat),look ((Ci fp h').map fun (b,B)=>(b,mk b B)) b=(jK fp b).bind fun p=>(h'[p]?).map (mk b)
 | [],h',b=>by cases h'<;>simp [Ci,look,jK]
 |a::r,[],b=>by
  simp only [Ci,List.map_nil,look,jK]
  cases Nat.beq a b with
  |true=>rfl
  |false=>cases jK r b<;>rfl
 | a::r,B::q,b=>by
  simp only [Ci,List.map_cons,look,jK]
  cases h:Nat.beq a b with
  |true=>have:=ax h;subst this;rfl
  |false=>
   simp only [Bl r q b]
   cases jK r b<;>simp
section
variable {P:Program} {ap:AP} {g:bL} {m:aN} {S:aJ} {w:World}
def Ai (ρ:Nat→Nat→Option (Nat × Nat)) (B:aL):aL:={B with cells:=(match B.pr with|true=>B.cells|false=>ic ρ B.cells),ver:=0}
theorem ar1 {a b n i:Nat} (h:b≤a):n+(a+i - b)=n+(a - b)+i:=by omega
theorem ar2 {a b i:Nat} (h:b≤a):b+(a+i - b)=a+i:=by omega
theorem Ku {ρ:Nat→Nat→Option (Nat × Nat)} {l:List aL} (h:kO l):l.map (sK ρ 0)=l:=by
 induction l with
 |nil=>rfl
 |cons B r ih=>
  rw [List.map_cons,ih fun B hB=>h B (by simp [hB])]
  obtain ⟨h1,_,h3⟩:=h B (by simp)
  obtain ⟨c,v,f,z,e,p⟩:=B
  simp only at h1 h3
  subst h1 h3
  rfl
theorem rT (hS:br ap g m S w) {rd:bL} (hrd:∀ b B,rd b=some B→g b=some B) {fp:List Nat} {bl:List aL} (hbl:fZ rd fp=some bl) (hnd:k_ fp=true) {nid:Nat} {args:List AV} {cargs:List Value} {out:gb}
  {vers:Nat→Nat} (hvers:∀ b B,rd b=some B→vers b=B.ver) {ρ ρ':Nat→Nat→Option (Nat × Nat)} (hρe:∀ b v,ρ b v=match Nat.beq v (vers b) with|true=>(jK fp b).map fun p=>(p,0)|false=>none)
  {h':List aL} (hρe':ρ'=D5 nid fp vers h'.length)
  (hv:aQ g m S args cargs) {C:List Value→(Ending→World→Prop)→Prop} (hmono:∀ cargs R R',C cargs R→(∀ e w',R e w'→R' e w')→C cargs R')
  (hc:∀ m1 S1,iC S S1→br ap (aS (bl.map (Ai ρ))) m1 S1 w→aQ (aS (bl.map (Ai ρ))) m1 S1 (ic ρ args) cargs→C cargs fun e w'=> ∃ m' S',wZ ap (bl.map (Ai ρ)) m1 S1 w out h' m' S' w' e) (hl:fp.length≤h'.length) (hfr:∀ i,i<(h'.length - fp.length)+(gz h'.length out).length→g (nid+i)=none):
  C cargs fun e w'=>J6 ap g m S w (zS (nid+(h'.length - fp.length)) (ren ρ') out) (vH nid ((h'.drop fp.length).map (sK ρ' 0)++gz h'.length out)++(Ci fp h').map fun (b,B)=>(b,sK ρ' (vers b) B)) e w':=by
 have hfpg:∀ p b,fp[p]? =some b→∃ B,rd b=some B∧g b=some B∧aS (bl.map (Ai ρ)) p=some (Ai ρ B):=by
  intro p b hp
  obtain ⟨B,h1,h2⟩:=(eS hbl).2 p b hp
  exact ⟨B,h2,hrd b B h2,by simp [aS,h1]⟩
 have hgc:∀ p Bc,aS (bl.map (Ai ρ)) p=some Bc→∃ b B,fp[p]? =some b∧rd b=some B∧g b=some B∧Bc=Ai ρ B:=by
  intro p Bc hp
  have hlt:p<fp.length:=by
   have:=(List.getElem?_eq_some_iff.1 hp).1
   rw [List.length_map,(eS hbl).1] at this
   exact this
  obtain ⟨B,h1,h2,h3⟩:=hfpg p _ (List.getElem?_eq_getElem hlt)
  rw [h3] at hp;cases hp
  exact ⟨_,B,List.getElem?_eq_getElem hlt,h1,h2,rfl⟩
 let mc:aN:=fun p=>m (fp.getD p 0)
 have hmc:∀ p b,fp[p]? =some b→mc p=m b:=by
  intro p b hp
  show m (fp.getD p 0)=_
  rw [List.getD_eq_getElem?_getD,hp];rfl
 have hren:lH g m (aS (bl.map (Ai ρ))) mc ρ:=by
  intro b ver b' ver' h B hB hver
  rw [hρe] at h
  split at h
  ·rename_i hve
   simp only [Option.map_eq_some_iff,Prod.mk.injEq] at h
   obtain ⟨p,hp,rfl,rfl⟩:=h
   have hp:=kw hp
   obtain ⟨B1,h1,h2,h3⟩:=hfpg p b hp
   rw [h2] at hB;cases hB
   exact ⟨_,h3,Nat.zero_le _,fun _=> ⟨by rw [ax hve,hvers b _ h1],hmc p b hp,rfl⟩⟩
  ·cases h
 have hSc:br ap (aS (bl.map (Ai ρ))) mc S w:=by
  refine ⟨?_, ?_,hS.sealed, ?_,hS.glob⟩
  ·intro p q Bp Bq hp hq e
   obtain ⟨b,B,h1,h2,h3,_⟩:=hgc p Bp hp
   obtain ⟨b',B',h1',h2',h3',_⟩:=hgc q Bq hq
   rw [hmc p b h1,hmc q b' h1'] at e
   have:=hS.inj b b' B B' h3 h3' e
   subst this
   have e1:=jD hnd h1
   rw [jD hnd h1'] at e1
   cases e1;rfl
  ·intro p Bp hp
   obtain ⟨b,B,h1,h2,h3,rfl⟩:=hgc p Bp hp
   rw [hmc p b h1]
   obtain ⟨⟨cur,e,vs,rest,k1,k2,k3,k4,k5,k6⟩,k7,k8⟩:=hS.blk b B h3
   cases hp:B.pr with
   |true=>exact ⟨⟨cur,e,vs,rest,k1,k2,fun _=>by simpa [Ai,hp] using k3 hp,by simpa [Ai,hp] using bh _ (k3 hp),k5,k6⟩,k7,by simpa [Ai,hp] using k8⟩
   | false=>
    have hv:=gm (iC.refl S) hren _ k4
    exact ⟨⟨cur,e,vs,rest,k1,k2,fun h=>by simp [Ai,hp] at h,by simpa [Ai,hp] using hv,k5,k6⟩,k7,by
     have:(Ai ρ B).cells.length=B.cells.length:=by simp only [Ai,hp];rw [bw k4,bw hv]
     rw [this];exact k8⟩
  ·intro p Bp hp o v ho
   obtain ⟨b,B,h1,h2,h3,rfl⟩:=hgc p Bp hp
   rw [hmc p b h1] at ho
   exact hS.own b B h3 o v ho
 refine hmono _ _ _ (hc mc S (iC.refl S) hSc (gm (iC.refl S) hren _ hv)) ?_
 rintro e w' ⟨m',S',hF⟩
 obtain ⟨hsr,hfr',hout⟩:=hF
 generalize hbs:gz h'.length out=bs0 at hsr hfr' hfr
 have hown:kO bs0:=hbs ▸ sw out h'.length
 obtain ⟨bs,hbse⟩:∃ bs,bs=h'.drop fp.length++bs0:=⟨_,rfl⟩
 have hbsl:bs.length=(h'.length - fp.length)+bs0.length:=by rw [hbse,List.length_append,List.length_drop]
 rw [← hbsl] at hfr
 let ups:=(Ci fp h').map fun (b,B)=>(b,sK ρ' (vers b) B)
 rw [show (h'.drop fp.length).map (sK ρ' 0)++bs0=bs.map (sK ρ' 0) by rw [hbse,List.map_append,Ku hown]]
 let gN:bL:=bU g (vH nid (bs.map (sK ρ' 0))++ups)
 let mN:aN:=fun b=>if nid≤b∧b - nid<bs.length then m' (fp.length+(b - nid)) else match jK fp b with|some p=>m' p|none=>m b
 have hgN:∀ b,gN b=if nid≤b∧b - nid<bs.length then (bs[b - nid]?).map (sK ρ' 0) else match (jK fp b).bind fun p=>(h'[p]?).map (sK ρ' (vers b)) with|some B=>some B|none=>g b:=by
  intro b
  show bU g _ b=_
  unfold bU
  rw [dJ,qY,Bl (mk:=fun b B=>sK ρ' (vers b) B)]
  by_cases h1:nid≤b
  ·by_cases h2:b - nid<bs.length
   ·have hc:nid≤b∧b - nid<bs.length:=⟨h1,h2⟩
    rw [if_pos h1,if_pos hc,List.getElem?_map,List.getElem?_eq_getElem h2]
    rfl
   ·have hc:¬ (nid≤b∧b - nid<bs.length):=fun h=>h2 h.2
    rw [if_pos h1,if_neg hc,List.getElem?_map,List.getElem?_eq_none (Nat.le_of_not_lt h2)]
    rfl
  ·have hc:¬ (nid≤b∧b - nid<bs.length):=fun h=>h1 h.1
   rw [if_neg h1,if_neg hc]
   rfl
 have hnidg:∀ b B,g b=some B→¬ (nid≤b∧b - nid<bs.length):=by
  rintro b B hb ⟨h1,h2⟩
  have:=hfr (b - nid) h2
  rw [show nid+(b - nid)=b by omega,hb] at this
  cases this
 have hh':∀ p,p<fp.length→∃ B,h'[p]? =some B:=fun p hp=> ⟨_,List.getElem?_eq_getElem (by omega)⟩
 have hsh:∀ p b,fp[p]? =some b→∀ Bc,h'[p]? =some Bc→gN b=some (sK ρ' (vers b) Bc)∧mN b=m' p:=by
  intro p b hp Bc hB
  obtain ⟨B,h1,h2,h3⟩:=hfpg p b hp
  have hn:=hnidg b B h2
  refine ⟨by rw [hgN,if_neg hn,jD hnd hp];simp [hB], ?_⟩
  show (if _ then _ else _)=_
  rw [if_neg hn,jD hnd hp]
 have hmN:∀ i B,bs[i]? =some B→gN (nid+i)=some (sK ρ' 0 B)∧mN (nid+i)=m' (fp.length+i):=by
  intro i B hi
  have hl:=(List.getElem?_eq_some_iff.1 hi).1
  have hc:nid≤nid+i∧nid+i - nid<bs.length:=by omega
  refine ⟨by rw [hgN,if_pos hc,show nid+i - nid=i by omega,hi];rfl, ?_⟩
  show (if _ then _ else _)=_
  rw [if_pos hc,show nid+i - nid=i by omega]
 have hhi:∀ p,fp.length≤p→aS (h'++bs0) p=bs[p - fp.length]? :=by
  intro p hp
  have he:h'++bs0=h'.take fp.length++bs:=by rw [hbse,← List.append_assoc,List.take_append_drop]
  have hlt:(h'.take fp.length).length=fp.length:=by rw [List.length_take];omega
  rw [he,eQ (by omega),hlt]
  rfl
 have hlow:∀ p Bc,aS (h'++bs0) p=some Bc→(p<fp.length∧h'[p]? =some Bc)∨(fp.length≤p∧bs[p - fp.length]? =some Bc):=by
  intro p Bc h
  by_cases hp:p<fp.length
  ·rw [cT (by omega)] at h;exact .inl ⟨hp,h⟩
  ·rw [hhi p (by omega)] at h;exact .inr ⟨by omega,h⟩
 have hren':lH (aS (h'++bs0)) m' gN mN ρ':=by
  intro p ver b' ver' h Bc hB hver
  rw [hρe'] at h
  unfold D5 at h
  split at h
  ·rename_i b hp
   cases h
   rcases hlow p Bc hB with ⟨h1,h2⟩|⟨h1,_⟩
   ·obtain ⟨h3,h4⟩:=hsh p _ hp Bc h2
    exact ⟨_,h3,by simp only [sK];omega,fun e=> ⟨by simp only [sK] at e;omega,h4,rfl⟩⟩
   ·have:=(List.getElem?_eq_some_iff.1 hp).1;omega
  ·rename_i hp
   split at h
   ·cases h
    have hge:=List.getElem?_eq_none_iff.1 hp
    rcases hlow p Bc hB with ⟨h1,_⟩|⟨h1,h2⟩
    ·omega
    ·obtain ⟨h3,h4⟩:=hmN _ Bc h2
     exact ⟨_,h3,by simp only [sK];omega,fun e=> ⟨by simp only [sK] at e;omega,by rw [h4,show fp.length+(p - fp.length)=p by omega],rfl⟩⟩
   ·cases h
 have hge:Ge g m gN mN:=by
  intro b B hb
  have hn:=hnidg b B hb
  cases hi:jK fp b with
  | none=>
   have hm:mN b=m b:=by
    show (if _ then _ else _)=_
    rw [if_neg hn,hi]
   refine ⟨B, ?_,rfl,.inl ⟨rfl,hm⟩⟩
   rw [hgN,if_neg hn,hi];exact hb
  | some p=>
   have hp:=kw hi
   obtain ⟨B1,h1,h2,h3⟩:=hfpg p b hp
   rw [h2] at hb;cases hb
   obtain ⟨Bc,h4,h5,h6⟩:=hfr'.ge p _ h3
   rcases hlow p Bc h4 with ⟨_,h7⟩|⟨h7,_⟩
   ·obtain ⟨h8,h9⟩:=hsh p b hp Bc h7
    refine ⟨_,h8,h5, ?_⟩
    rcases h6 with ⟨h6,h6'⟩|h6
    ·left
     refine ⟨?_,by rw [h9,h6',hmc p b hp]⟩
     simp only [sK,Ai] at h6 ⊢
     rw [hvers b _ h1];omega
    ·right
     simp only [sK,Ai] at h6 ⊢
     rw [hvers b _ h1];omega
   ·have:=(List.getElem?_eq_some_iff.1 hp).1;omega
 let ι:Nat→Nat:=fun p=>if p<fp.length then fp.getD p 0 else nid+(p - fp.length)
 have hι:∀ p b,fp[p]? =some b→ι p=b:=by
  intro p b hp
  show (if _ then _ else _)=_
  rw [if_pos (List.getElem?_eq_some_iff.1 hp).1,List.getD_eq_getElem?_getD,hp];rfl
 have hι':∀ i,ι (fp.length+i)=nid+i:=by
  intro i
  show (if _ then _ else _)=_
  rw [if_neg (by omega)];congr 1;omega
 obtain ⟨hsN,hfN⟩:=NA (g:=g) (m:=m) (S:=S) (w:=w) hS hsr hfr' ι
  (by
   intro p Bc hp
   obtain ⟨b,B,h1,h2,h3,rfl⟩:=hgc p Bc hp
   rw [hι p b h1]
   exact ⟨B,h3,hmc p b h1⟩) (iC.refl S) (fun k o v h=> .inl h) (gN:=gN) (mN:=mN) ρ' hren'
  (by
   intro p Bc hp
   rcases hlow p Bc hp with ⟨h1,h2⟩|⟨h1,h2⟩
   ·have hp:=List.getElem?_eq_getElem h1
    obtain ⟨h3,h4⟩:=hsh p _ hp Bc h2
    rw [hι p _ hp]
    exact ⟨_,h3,h4,rfl,rfl,rfl,rfl,fun h=>by simp [sK,h],fun h=>by simp [sK,h]⟩
   ·obtain ⟨i,rfl⟩:∃ i,p=fp.length+i:=⟨p - fp.length,by omega⟩
    rw [show fp.length+i - fp.length=i by omega] at h2
    obtain ⟨h3,h4⟩:=hmN i Bc h2
    rw [hι' i]
    exact ⟨_,h3,h4,rfl,rfl,rfl,rfl,fun h=>by simp [sK,h],fun h=>by simp [sK,h]⟩)
  (by
   intro b B hb
   by_cases hc:nid≤b∧b - nid<bs.length
   ·rw [hgN,if_pos hc,Option.map_eq_some_iff] at hb
    obtain ⟨Bc,hb,_⟩:=hb
    refine .inl ⟨fp.length+(b - nid),Bc, ?_,by rw [hι'];omega⟩
    rw [hhi _ (by omega),show fp.length+(b - nid) - fp.length=b - nid by omega];exact hb
   ·rw [hgN,if_neg hc] at hb
    cases hi:jK fp b with
    |some p=>
     have hp:=kw hi
     have hlt:=(List.getElem?_eq_some_iff.1 hp).1
     obtain ⟨Bc,h4⟩:=hh' p hlt
     exact .inl ⟨p,Bc,by rw [cT (by omega)];exact h4,(hι p b hp).symm⟩
    | none=>
     have hm:mN b=m b:=by
      show (if _ then _ else _)=_
      rw [if_neg hc,hi]
     rw [hi] at hb
     have hb:g b=some B:=hb
     refine .inr ⟨B,hb,hm,rfl,rfl,rfl,(hS.blk b B hb).fz0,(hS.blk b B hb).fzle, ?_,fun o v ho=>hS.own b B hb o v ho⟩
     intro p Bc hp e
     obtain ⟨b1,B1,h1,_⟩:=hgc p Bc hp
     rw [hι p b1 h1] at e
     subst e
     rw [jD hnd h1] at hi;cases hi)
  hge
 refine ⟨mN,S',hsN,hfN, ?_⟩
 show NZ gN mN S' (zS (nid+(h'.length - fp.length)) (ren ρ') out) e
 have hrenh:lH (aS h') m' gN mN ρ':=by
  intro p ver b' ver' h Bc hB hver
  refine hren' p ver b' ver' h Bc ?_ hver
  rw [cT (List.getElem?_eq_some_iff.1 hB).1];exact hB
 cases out with
 |ret v=>
  obtain ⟨cv,e1,h1⟩:=hout
  refine ⟨cv,e1, ?_⟩
  have hbs':(fL h'.length v).2=bs0:=hbs
  rw [hbs'] at h1
  refine vZ (n:=h'.length) (xV ρ') (fun x v hx=>qK (iC.refl S') hrenh x hx) ?_ h1
  intro i k v hx
  simp only [VR] at hx ⊢
  obtain ⟨B,h2,h3,h4,h5⟩:=hx
  rw [hhi _ (Nat.le_trans hl (Nat.le_add_right _ _))] at h2
  obtain ⟨h6,h7⟩:=hmN _ B h2
  rw [ar1 hl] at h6 h7
  rw [ar2 hl] at h7
  exact ⟨_,h6,Nat.zero_le _,h4,fun e=>by rw [h7];exact h5 (by simpa [sK] using e)⟩
 |pan v=>
  obtain ⟨cv,e1,h1⟩:=hout
  exact ⟨cv,e1,qK (iC.refl S') hrenh _ h1⟩
end
end AM
namespace AM
open Go
section
variable {P:Program} {ap:AP} {H:bA}
theorem pQ {rd0:bL} {nid f:Nat} {args:List AV} {md:AV} {c c':Cx} {r:G8} (h:lZ ap H rd0 nid md f args c= .ok r c'):
  ∃ args0 h0 out0 h0',H c md f args0 h0= .ok (out0,h0',r.md) c'∧((∃ v,out0= .ret v)↔∃ v,r.out= .ret v)∧
  ∀ g m S w cargs (C:List Value→(Ending→World→Prop)→Prop),(∀ cargs R R',C cargs R→(∀ e w',R e w'→R' e w')→C cargs R')→br ap g m S w→(∀ b ∈ r.fp,∀ B,rd0 b=some B→g b=some B)→(∀ i,i<4→g (nid+i)=none)→aQ g m S args cargs→
   (∀ m1 S1,iC S S1→br ap (aS h0) m1 S1 w→aQ (aS h0) m1 S1 args0 cargs→C cargs fun e w'=> ∃ m' S',wZ ap h0 m1 S1 w out0 h0' m' S' w' e)→
   C cargs fun e w'=>J6 ap g m S w r.out r.ups e w':=by
 unfold lZ at h
 simp only at h
 generalize hfp:lN rd0 6 (eU (bq args))=fp at h
 let rd:bL:=fun b=>match jN fp b with|true=>rd0 b|false=>none
 have hmem:∀ b B,rd b=some B→b ∈ fp∧rd0 b=some B:=by
  intro b B hb
  dsimp only [rd] at hb
  split at hb
  ·rename_i hm;exact ⟨eF.1 hm,hb⟩
  ·cases hb
 split at h
 ·split at h
  ·cases h
  ·rename_i args' ha
   obtain ⟨⟨out,h',md⟩,c1,e1,h⟩:=R.bind_ok h
   dsimp only at h
   split at h
   ·cases h
   ·split at h
    ·rename_i v
     split at h
     ·rename_i hle
      cases h
      refine ⟨_,_,_,_,e1,⟨fun _=> ⟨_,rfl⟩,fun _=> ⟨_,rfl⟩⟩, ?_⟩
      intro g m S w cargs C hmono hS hag hfr hv hc
      have hrec:gz 0 (gb.ret v)=(fL nid v).2:=sx Bb v 0 nid
      have:=rR hS (rd:=rd) (fun b B hb=>hag b (hmem b B hb).1 B (hmem b B hb).2) (fun b B hb=>(hmem b B hb).1) (nid:=nid) ha hv hmono hc (fun i hi=>hfr i (by rw [hrec] at hi;have:=dz hle;omega))
      rw [hrec] at this
      exact this
     ·cases h
    ·rename_i v
     cases h
     refine ⟨_,_,_,_,e1,⟨(fun ⟨_,h⟩=>by cases h),(fun ⟨_,h⟩=>by cases h)⟩, ?_⟩
     intro g m S w cargs C hmono hS hag hfr hv hc
     exact rR hS (rd:=rd) (fun b B hb=>hag b (hmem b B hb).1 B (hmem b B hb).2) (fun b B hb=>(hmem b B hb).1) (nid:=nid) ha hv hmono hc (fun i hi=>by simp [gz] at hi)
 ·split at h
  ·cases h
  ·rename_i bl hbl
   obtain ⟨⟨out,h',md⟩,c1,e1,h⟩:=R.bind_ok h
   dsimp only at h
   split at h
   ·cases h
   ·rename_i hcond
    simp only [Bool.and_eq_true] at hcond
    have hl:=dz hcond.1
    let vers:Nat→Nat:=fun b=>match rd b with|some B=>B.ver|none=>0
    have hvers':∀ b B,rd b=some B→vers b=B.ver:=by
     intro b B hb;simp only [vers,hb]
    let ρ':Nat→Nat→Option (Nat × Nat):=D5 nid fp vers h'.length
    split at h
    ·rename_i v
     split at h
     ·rename_i hle
      cases h
      refine ⟨_,_,_,_,e1,⟨fun _=> ⟨_,rfl⟩,fun _=> ⟨_,rfl⟩⟩, ?_⟩
      intro g m S w cargs C hmono hS hag hfr hv hc
      have hrec:gz h'.length (gb.ret v)=(fL (nid+(h'.length - fp.length)) (ren ρ' v)).2:=(sx (xV ρ') v (nid+(h'.length - fp.length)) h'.length).symm
      have:=rT hS (rd:=rd) (fun b B hb=>hag b (hmem b B hb).1 B (hmem b B hb).2) hbl hcond.2 (nid:=nid) hvers' (ρ':=ρ') (fun b v=>rfl) rfl hv hmono hc hl (fun i hi=>hfr i (by rw [hrec] at hi;exact Nat.lt_of_lt_of_le hi (dz hle)))
      rw [hrec] at this
      exact this
     ·cases h
    ·rename_i v
     split at h
     ·rename_i hle
      cases h
      refine ⟨_,_,_,_,e1,⟨(fun ⟨_,h⟩=>by cases h),(fun ⟨_,h⟩=>by cases h)⟩, ?_⟩
      intro g m S w cargs C hmono hS hag hfr hv hc
      exact rT hS (rd:=rd) (fun b B hb=>hag b (hmem b B hb).1 B (hmem b B hb).2) hbl hcond.2 (nid:=nid) hvers' (ρ':=ρ') (fun b v=>rfl) rfl hv hmono hc hl (fun i hi=>hfr i (by simp only [gz,List.length_nil,Nat.add_zero] at hi;exact Nat.lt_of_lt_of_le hi (dz hle)))
     ·cases h
theorem uk (hH:fH P ap H) {rd0:bL} {nid f:Nat} {args:List AV} {c c':Cx} {r:G8} (h:lZ ap H rd0 nid .dead f args c= .ok r c') (hc:c'.Ok):
  c.Ok∧qJ P f∧∀ g m S w cargs,br ap g m S w→(∀ b ∈ r.fp,∀ B,rd0 b=some B→g b=some B)→(∀ i,i<4→g (nid+i)=none)→aQ g m S args cargs→
   Calls P f cargs.toArray w fun e w'=>J6 ap g m S w r.out r.ups e w':=by
 obtain ⟨args0,h0,out0,h0',e1,_,hg⟩:=pQ h
 obtain ⟨hc0,hq⟩:=hH _ _ _ _ _ _ _ _ e1 hc
 refine ⟨hc0,hq.ent,fun g m S w cargs hS hag hfr hv=> ?_⟩
 exact hg g m S w cargs (fun cargs R=>Calls P f cargs.toArray w R) (fun _ _ _ h1 h2=>h1.mono h2) hS hag hfr hv fun m1 S1 _ h1 h2=>hq.calls m1 S1 w cargs h1 h2
end
end AM
namespace AM
open Go
def lS (dec:List (Nat × Bool)) (env:dY):Prop:=∀ t b,look dec t=some b→env.get t= .bool b
def dQ (g:bL) (m:aN) (S:aJ):List (Nat × List AV)→List Deferred→Prop
 | [],[]=>True
 |d::r,cd::cr=>(∃ cap,cd.target= .fn (.func d.1) cap∧aQ g m S d.2 (cd.args++cap).toList)∧dQ g m S r cr
 |_,_=>False
theorem mV {g g':bL} {m m':aN} {S S':aJ} (hS:iC S S') (hG:Ge g m g' m'):∀ {l:List (Nat × List AV)} {ds:List Deferred},dQ g m S l ds→dQ g' m' S' l ds
 | [],[],_=>by simp only [dQ]
 |d::r,cd::cr,h=>by
  simp only [dQ] at h ⊢
  obtain ⟨⟨cap,h1,h2⟩,h3⟩:=h
  exact ⟨⟨cap,h1,gT hS hG _ h2⟩,mV hS hG h3⟩
 | [],_::_,h=>by simp [dQ] at h
 |_::_,[],h=>by simp [dQ] at h
theorem rO {g:bL} {m:aN} {S:aJ}:∀ {l l':List (Nat × List AV)} {ds ds':List Deferred},dQ g m S l ds→dQ g m S l' ds'→dQ g m S (l++l') (ds++ds')
 | [],_,[],_,_,h'=>by simpa using h'
 |d::r,_,cd::cr,_,h,h'=>by
  simp only [dQ] at h
  simp only [List.cons_append,dQ]
  exact ⟨h.1,rO h.2 h'⟩
 | [],_,_::_,_,h,_=>by simp [dQ] at h
 |_::_,_,[],_,h,_=>by simp [dQ] at h
def NV (P:Program) (ops:Array Oper) (Q:Exit→Act→World→Prop) (o:Oper) (K:Act→World→Prop) (a:Act) (w:World):Prop:=
 if Region.wanted o (yielded ops a.tmps) then o.wp P a w K Q∨(o.asks P a w∧LetsOut Q) else K (a.put o.dst undef) w
def Nb (ap:AP) (o:Oper) (g:bL) (m:aN) (S:aJ) (w:World) (a:Act) (v:AV) (ups:List (Nat × aL)) (df:List (Nat × List AV)) (Q:Exit→Act→World→Prop) (K:Act→World→Prop):Option AV→Prop
 |none=> ∀ cv m' S' w' ds,br ap (bU g ups) m' S' w'→Fr g m S w (bU g ups) m' S' w'→VR (bU g ups) m' S' v cv→dQ (bU g ups) m' S' df ds→K ({a with defers:=ds++a.defers}.put o.dst cv) w'
 |some pv=> ∀ cv m' S' w',br ap (bU g ups) m' S' w'→Fr g m S w (bU g ups) m' S' w'→VR (bU g ups) m' S' pv cv→Q (.panic [{v:=cv,recovered:=false}]) a w'
def yJ (P:Program) (ap:AP) (ops:Array Oper) (o:Oper) (nid:Nat) (env:dY) (hp:Hp) (rt rb:List Nat) (v:AV) (ups:List (Nat × aL)) (df:List (Nat × List AV)) (p:Option AV):Prop:=
 ∀ g m S w (a:Act),br ap g m S w→(∀ t ∈ rt,VR g m S (env.get t) (a.tmps.getD t undef))→(∀ b ∈ rb,∀ B,look hp b=some B→g b=some B)→(∀ i,i<4→g (nid+i)=none)→
  ∀ (Q:Exit→Act→World→Prop) (K:Act→World→Prop),Nb ap o g m S w a v ups df Q K p→NV P ops Q o K a w
structure Ra (P:Program) (ap:AP) (ops:Array Oper) (o:Oper) (nid:Nat) (s s':RS) (p:Option AV) (v:AV) (rt rb:List Nat) (ups:List (Nat × aL)) (df:List (Nat × List AV)):Prop where
 env:p=none→s'.env=jQ s.env o.dst v
 envp:p ≠ none→s'.env=s.env∧df= []
 hp:s'.hp=ups++s.hp
 md:s'.md=s.md
 dfs:s'.dfs=df++s.dfs
 dec:p=none→lS s'.dec s'.env
 feet:p=none→s'.feet={rt,wt:=zg o,rb,wb:=ups.map (·.1)}::s.feet
 sem:yJ P ap ops o nid s.env s.hp rt rb v ups df p
section
variable {P:Program} {ap:AP} {H:bA}
theorem HY (e:Array Value) (t:Nat) {v:Value} (h:e.getD t undef=v) (hv:v ≠ undef):e[t]? =some v:=by
 rw [Array.getD_eq_getD_getElem?] at h
 cases he:e[t]? with
 |none=>rw [he] at h;exact absurd h.symm hv
 |some u=>rw [he] at h;simpa using h
theorem wM {ops:Array Oper} {tmps:Array Value} {j s:Nat} (hs:(ops[j]?).bind (·.dst)=some s) {b:Bool} (h:tmps.getD s undef= .bool b):yielded ops tmps j=some b:=by
 unfold yielded
 rw [hs]
 simp only [Option.bind_some]
 rw [HY tmps s h (by simp [undef])]
theorem Af {ops:Array Oper} {tmps:Array Value} {j s:Nat} (hs:(ops[j]?).bind (·.dst)=some s) (h:tmps.getD s undef= .tuple #[]):yielded ops tmps j=none:=by
 unfold yielded
 rw [hs]
 simp only [Option.bind_some]
 rw [Array.getD_eq_getD_getElem?] at h
 cases he:tmps[s]? with
 |none=>rfl
 |some u=>
  rw [he] at h
  simp at h
  rw [h]
theorem oJ {g:bL} {m:aN} {S:aJ} {w:World} (hS:br ap g m S w) {env:dY} {a:Act} (x:Operand) (h:∀ t,x= .tmp t→VR g m S (env.get t) (a.tmps.getD t undef)):VR g m S (kr ap env x) (a.eval x):=by
 cases x with
 |tmp t=>exact h t rfl
 |const v=>exact d_ _ (Ap S v)
 | global k=>
  simp only [kr,Act.eval]
  cases hk:(ap.gl[k]?).join with
  |none=>simp only [VR]
  |some xs=>
   obtain ⟨vs,h1,h2⟩:=hS.glob k xs hk
   simp only [VR,PR]
   exact ⟨k,0,vs,rfl,h1,h2⟩
 |func f=>
  simp only [kr,Act.eval,VR]
  exact ⟨[],[],rfl,by simp [aQ],by simp [aQ]⟩
theorem vD {l:List Operand} {t:Nat} (h:Operand.tmp t ∈ l):t ∈ mS l:=by
 simp only [mS,List.mem_filterMap]
 exact ⟨_,h,rfl⟩
theorem zr {ops:List Oper} {env:dY} {dec dec':List (Nat × Bool)} {o:Oper} {c c':Cx} {run:Bool} (h:C5 ops env dec o c= .ok (run,dec') c') (hc:c'.Ok):
  c.Ok∧(lS dec env→lS dec' env∧(∀ t b,look dec t=some b→look dec' t=some b)∧∀ g m S (a:Act),(∀ t ∈ eZ ops o,VR g m S (env.get t) (a.tmps.getD t undef))→Region.wanted o (yielded ops.toArray a.tmps)=run):=by
 unfold C5 at h
 unfold eZ
 unfold Region.wanted
 split at h
 ·rename_i hg
  cases h
  simp only [hg]
  exact ⟨hc,fun hd=> ⟨hd,fun _ _ h=>h,fun _ _ _ _ _=>trivial⟩⟩
 ·rename_i j want hg
  simp only [hg]
  split at h
  ·cases h
  ·rename_i s hs
   have hs':(ops.toArray[j]?).bind (·.dst)=some s:=by simpa using hs
   split at h
   ·rename_i b hb
    cases h
    refine ⟨hc,fun hd=> ⟨hd,fun _ _ h=>h,fun g m S a hv=> ?_⟩⟩
    have h1:=hv s (by simp)
    rw [hd s b hb] at h1
    simp only [VR,PR] at h1
    rw [wM hs' h1]
    cases want<;>cases b<;>rfl
   ·rename_i hl
    split at h
    ·rename_i b hb
     obtain ⟨b',c1,h1,h2⟩:=R.bind_ok h
     cases h2
     obtain ⟨hc0,rfl⟩:=gG h1 hc
     refine ⟨hc0,fun hd=> ⟨?_, ?_,fun g m S a hv=> ?_⟩⟩
     ·intro t x hx
      simp only [look] at hx
      split at hx
      ·rename_i ht
       cases hx
       rw [← ax ht,hb]
      ·exact hd t x hx
     ·intro t x hx
      simp only [look]
      split
      ·rename_i ht
       rw [ax ht] at hl
       rw [hl] at hx;cases hx
      ·exact hx
     ·have h1:=hv s (by simp)
      rw [hb] at h1
      simp only [VR,PR] at h1
      rw [wM hs' h1]
      cases want<;>cases b'<;>rfl
    ·rename_i hb
     cases h
     refine ⟨hc,fun hd=> ⟨hd,fun _ _ h=>h,fun g m S a hv=> ?_⟩⟩
     have h1:=hv s (by simp)
     rw [hb] at h1
     simp only [VR] at h1
     obtain ⟨vs,h1,h2⟩:=h1
     cases vs with
     |nil=>rw [Af hs' h1];rfl
     |cons v r=>simp [aQ] at h2
    ·cases h
theorem AZ {env:dY} {o:Oper} {v:AV} {t:Nat} (h:∀ d,o.dst=some d→d ≠ t):(jQ env o.dst v).get t=env.get t:=by
 unfold jQ
 split
 ·rename_i d hd
  simp only [dY.get,look]
  split
  ·rename_i ht;exact absurd (ax ht) (h d hd)
  ·rfl
 ·rfl
theorem pT {dec:List (Nat × Bool)} {env:dY} {o:Oper} {v:AV} (hd:lS dec env) (ho:HR dec o=true):lS dec (jQ env o.dst v):=by
 intro t b hb
 rw [AZ]
 ·exact hd t b hb
 ·rintro d hdd rfl
  unfold HR at ho
  rw [hdd] at ho
  simp [hb] at ho
end
end AM
namespace AM
open Go
section
variable {P:Program} {ap:AP} {H:bA}
theorem H4 {c:Cx} {dst:Option Nat} {v:AV} (h:(uP c dst v).2.Ok):c.Ok∧aM v (uP c dst v).1:=by
 obtain ⟨cl,orc,bs,ps,ans,hs⟩:=c
 unfold uP at h ⊢
 dsimp only at h ⊢
 split at h
 ·rename_i d x r d'
  split at h
  ·rename_i he
   have hB:aM v x:=h.ps _ (List.mem_cons_self ..)
   refine ⟨⟨h.bs,fun p hp=>h.ps p (List.mem_cons_of_mem _ hp)⟩, ?_⟩
   simp only [he]
   exact hB
  ·rename_i he
   refine ⟨h, ?_⟩
   simp only [he]
   exact fun _ _ _ _ hv=>hv
 ·rename_i hh
  exact ⟨h,fun _ _ _ _ hv=>hv⟩
theorem H3 {c:Cx} {dst:Option Nat} (h:(Ej c dst).2.Ok):c.Ok:=by
 obtain ⟨cl,orc,bs,ps,ans,hs⟩:=c
 unfold Ej at h
 dsimp only at h
 split at h
 ·split at h
  ·exact ⟨h.bs,h.ps⟩
  ·exact h
 ·exact h
theorem H2 {c:Cx} {dst:Option Nat} {ups:List (Nat × aL)} (h:(uO c dst ups).2.Ok):c.Ok∧(uO c dst ups).1=ups:=by
 obtain ⟨cl,orc,bs,ps,ans,hs⟩:=c
 unfold uO at h ⊢
 dsimp only at h ⊢
 split at h
 ·rename_i d xs r d' b B
  split at h
  ·rename_i he
   have hB:B.cells=xs:=h.ps _ (List.mem_cons_self ..)
   refine ⟨⟨h.bs,fun p hp=>h.ps p (List.mem_cons_of_mem _ hp)⟩, ?_⟩
   simp only [he,← hB]
  ·rename_i he
   refine ⟨h, ?_⟩
   simp only [he]
 ·rename_i hh
  exact ⟨h,rfl⟩
theorem sD {a:Act} {g:Operand} {args:Array Operand} {argTypes:Array TypeId} {ty:TypeId} {f:Nat} {first cap:Array Value} (h:a.eval g= .func (.func f) first cap) (w:World):
  (resolve a.eval {callee:= .value g,args,argTypes} ty).run P w= .ok {target:= .fn (.func f) cap,args:=first++args.map a.eval} w:=by
 simp only [resolve,h,Deferred.ofValue]
 rfl
theorem xn {a:Act} {g:Operand} {args:Array Operand} {argTypes:Array TypeId} {ty:TypeId} {f:Nat} {first cap:Array Value} (h:a.eval g= .func (.func f) first cap) (hE:qJ P f) (w:World):
  (do let d ← resolve a.eval {callee:= .value g,args,argTypes} ty;invoke d.target d.args:Sem Next).run P w= .ok (.enter f ((first++args.map a.eval)++cap)) w:=by
 rw [Sem.run_bind,sD h,Result.andThen_ok]
 exact hE _ _
theorem Au {g:bL} {m:aN} {S:aJ} {ρ:Operand→AV} {cρ:Operand→Value} {args:Array Operand} (h:∀ o ∈ args,VR g m S (ρ o) (cρ o)):aQ g m S (args.toList.map ρ) (args.map cρ).toList:=by
 rw [Array.toList_map]
 exact mX _ fun o ho=>h o (by simpa using ho)
theorem qZ:∀ {l:Hp} {b:Nat} {B:aL},look l b=some B→(b,B) ∈ l
 | [],_,_,h=>by cases h
 | (k,X)::r,b,B,h=>by
  simp only [look] at h
  split at h
  ·rename_i hk
   cases h
   have:=ax hk
   subst this
   exact List.mem_cons_self ..
  ·exact List.mem_cons_of_mem _ (qZ h)
theorem vz {α β:Type} {f g:α→β}:∀ {l:List α},l.map f=l.map g→∀ {x:α},x ∈ l→f x=g x
 | [],_,_,h=>by cases h
 |a::r,h,x,hx=>by
  simp only [List.map_cons,List.cons.injEq] at h
  rcases List.mem_cons.1 hx with rfl|hx
  ·exact h.1
  ·exact vz h.2 hx
theorem lu (hap:eB P ap) (hH:fH P ap H) {nid:Nat} {ops:List Oper} {o:Oper} {s s':RS} {p:Option AV} {c c':Cx} (h:BU ap H nid ops o s c= .ok (s',p) c') (hc:c'.Ok):
  c.Ok∧(s.md= .dead→lS s.dec s.env→∃ v rb ups df,Ra P ap ops.toArray o nid s s' p v (mS o.op.operands.toList++eZ ops o) rb ups df):=by
 unfold BU at h
 obtain ⟨⟨run,dec⟩,c1,e1,h⟩:=R.bind_ok h
 dsimp only at h
 split at h
 ·cases h
 rename_i hdst
 have hguard:∀ c1ok:c1.Ok,c.Ok∧(lS s.dec s.env→lS dec s.env∧(∀ t b,look s.dec t=some b→look dec t=some b)∧∀ g m S (a:Act),(∀ t ∈ eZ ops o,VR g m S (s.env.get t) (a.tmps.getD t undef))→Region.wanted o (yielded ops.toArray a.tmps)=run):=fun hk=>zr e1 hk
 have hopd:∀ {g:bL} {m:aN} {S:aJ} {w:World} {a:Act},br ap g m S w→(∀ t ∈ mS o.op.operands.toList++eZ ops o,VR g m S (s.env.get t) (a.tmps.getD t undef))→∀ x ∈ o.op.operands,VR g m S (kr ap s.env x) (a.eval x):=by
  intro g m S w a hS hv x hx
  refine oJ hS x fun t ht=>hv t ?_
  subst ht
  exact List.mem_append.2 (.inl (vD (by simpa using hx)))
 split at h
 ·
  cases h
  obtain ⟨hc0,hg⟩:=hguard hc
  refine ⟨hc0,fun hmd hdec=> ?_⟩
  obtain ⟨hd,_,hw⟩:=hg hdec
  refine ⟨.tup [],[],[],[],⟨fun _=>rfl,fun h=>absurd rfl h,rfl,rfl,rfl,fun _=>pT hd hdst,fun _=>rfl, ?_⟩⟩
  intro g m S w a hS hv _ _ Q K hA
  unfold NV
  rw [hw g m S a fun t ht=>hv t (List.mem_append.2 (.inr ht))]
  simp only [Bool.false_eq_true,if_false]
  have:=hA undef m S w [] (by rw [cW];exact hS) (by rw [cW];exact Fr.refl _ _ _ _) (by simp only [VR];exact ⟨[],rfl,by simp [aQ]⟩) (by simp [dQ])
  exact this
 ·
  have hwant:∀ (Q:Exit→Act→World→Prop) (K:Act→World→Prop) (g:bL) (m:aN) (S:aJ) (a:Act) (w:World),c1.Ok→lS s.dec s.env→(∀ t ∈ mS o.op.operands.toList++eZ ops o,VR g m S (s.env.get t) (a.tmps.getD t undef))→o.wp P a w K Q→NV P ops.toArray Q o K a w:=by
   intro Q K g m S a w hk hdec hv hh
   obtain ⟨_,_,hw⟩:=(hguard hk).2 hdec
   unfold NV
   rw [hw g m S a fun t ht=>hv t (List.mem_append.2 (.inr ht))]
   simp only [if_true]
   exact .inl hh
  split at h
  ·
   rename_i gf args argTypes hop
   split at h
   ·rename_i f first cap hf
    obtain ⟨r,c2,e2,h⟩:=R.bind_ok h
    have hc2:c2.Ok:=by
     revert h
     cases hu:Ej c2 o.dst with
     | mk u c3=>
      have h3:c3.Ok→c2.Ok:=fun hk=>H3 (by rw [hu];exact hk)
      cases u with
      | true=>
       dsimp only
       cases r.out with
       |ret v=>
        dsimp only
        split
        ·intro h;cases h;exact h3 ⟨hc.bs,fun p hp=>hc.ps p (List.mem_cons_of_mem _ hp)⟩
        ·intro h;cases h
       |pan v=>intro h;cases h
      |false=>dsimp only;cases r.out<;>intro h<;>cases h<;>exact h3 hc
    obtain ⟨hc1,hE,hcall⟩:=uk hH e2 hc2
    obtain ⟨hc0,hg⟩:=hguard hc1
    refine ⟨hc0,fun hmd hdec=> ?_⟩
    obtain ⟨hd,_,_⟩:=hg hdec
    have hargs:∀ {g:bL} {m:aN} {S:aJ} {w:World} {a:Act},br ap g m S w→(∀ t ∈ mS o.op.operands.toList++eZ ops o,VR g m S (s.env.get t) (a.tmps.getD t undef))→
      ∃ vf vc:List Value,a.eval gf= .func (.func f) vf.toArray vc.toArray∧aQ g m S (first++args.toList.map (kr ap s.env)++cap) ((vf++(args.map a.eval).toList)++vc):=by
     intro g m S w a hS hv
     have h1:=hopd hS hv
     rw [hop] at h1
     have h2:=h1 gf (by simp [Op.operands,Call.operands])
     rw [hf] at h2
     simp only [VR] at h2
     obtain ⟨vf,vc,h3,h4,h5⟩:=h2
     exact ⟨vf,vc,h3,dR (dR h4 (Au fun x hx=>h1 x (by simp [Op.operands,Call.operands,hx]))) h5⟩
    have hrun:∀ {a:Act} {vf vc:List Value} (w:World),a.eval gf= .func (.func f) vf.toArray vc.toArray→(execOp a.eval o).run P w= .ok (.enter f (((vf++(args.map a.eval).toList)++vc).toArray)) w:=by
     intro a vf vc w he
     have:=xn (args:=args) (argTypes:=argTypes) (ty:=o.type) he hE w
     unfold execOp
     rw [hop]
     dsimp only
     rw [this]
     congr 2
     apply Array.toList_inj.1
     simp
    split at h
    ·rename_i c3 hu
     split at h
     ·rename_i v hout
      split at h
      ·rename_i hall
       cases h
       have heq:r.ups.map (fun (q:Nat × aL)=>some q.2)=r.ups.map (fun (q:Nat × aL)=>look s.hp q.1):=hc.ps _ (List.mem_cons_self ..)
       refine ⟨v,r.fp,[],[],⟨fun _=>rfl,fun h=>absurd rfl h,rfl,rfl,rfl,fun _=>pT hd hdst,fun _=>rfl, ?_⟩⟩
       intro g m S w a hS hv hag hfr Q K hA
       have hg':bU g r.ups=g:=by
        funext b
        unfold bU
        cases hl:look r.ups b with
        |none=>rfl
        |some B=>
         have hm:=qZ hl
         have h1:=vz heq hm
         exact (hag b (eF.1 (List.all_eq_true.1 hall _ hm)) B h1.symm).symm
       refine hwant Q K g m S a w hc1 hdec hv ?_
       obtain ⟨vf,vc,h1,h2⟩:=hargs hS hv
       unfold Oper.wp
       rw [hrun w h1]
       refine (hcall g m S w _ hS hag hfr h2).mono ?_
       rintro e w' ⟨m',S',h3,h4,h5⟩
       rw [hout] at h5
       obtain ⟨cv,rfl,h6⟩:=h5
       rw [hg'] at h3 h4 h6
       exact hA cv m' S' w' [] h3 h4 h6 (by simp [dQ])
      ·cases h
     ·cases h
    ·rename_i c3 hu
     split at h
     ·rename_i v hout
      cases h
      refine ⟨v,r.fp,r.ups,[],⟨fun _=>rfl,fun h=>absurd rfl h,rfl,rfl,rfl,fun _=>pT hd hdst,fun _=>rfl, ?_⟩⟩
      intro g m S w a hS hv hag hfr Q K hA
      refine hwant Q K g m S a w hc1 hdec hv ?_
      obtain ⟨vf,vc,h1,h2⟩:=hargs hS hv
      unfold Oper.wp
      rw [hrun w h1]
      refine (hcall g m S w _ hS hag hfr h2).mono ?_
      rintro e w' ⟨m',S',h3,h4,h5⟩
      rw [hout] at h5
      obtain ⟨cv,rfl,h6⟩:=h5
      exact hA cv m' S' w' [] h3 h4 h6 (by simp [dQ])
     ·rename_i v hout
      cases h
      refine ⟨v,r.fp,r.ups,[],⟨fun h=>(by cases h),fun _=> ⟨rfl,rfl⟩,rfl,rfl,rfl,fun h=>(by cases h),fun h=>(by cases h), ?_⟩⟩
      intro g m S w a hS hv hag hfr Q K hA
      refine hwant Q K g m S a w hc1 hdec hv ?_
      obtain ⟨vf,vc,h1,h2⟩:=hargs hS hv
      unfold Oper.wp
      rw [hrun w h1]
      refine (hcall g m S w _ hS hag hfr h2).mono ?_
      rintro e w' ⟨m',S',h3,h4,h5⟩
      rw [hout] at h5
      obtain ⟨cv,rfl,h6⟩:=h5
      exact hA cv m' S' w' h3 h4 h6
   ·cases h
  ·
   split at h
   ·cases h
    exact ⟨(hguard hc).1,fun hmd=>by simp_all⟩
   ·cases h
    exact ⟨(hguard hc).1,fun hmd=>by simp_all⟩
   ·cases h
  ·
   rename_i gf args argTypes hop
   split at h
   ·rename_i f first cap hf
    cases h
    obtain ⟨hc0,hg⟩:=hguard hc
    refine ⟨hc0,fun hmd hdec=> ?_⟩
    obtain ⟨hd,_,_⟩:=hg hdec
    refine ⟨.dead,[],[],[(f,first++args.toList.map (kr ap s.env)++cap)],⟨fun _=>rfl,fun h=>absurd rfl h,rfl,rfl,rfl,fun _=>pT hd hdst,fun _=>rfl, ?_⟩⟩
    intro g m S w a hS hv hag hfr Q K hA
    refine hwant Q K g m S a w hc hdec hv ?_
    have h1:=hopd hS hv
    rw [hop] at h1
    have h2:=h1 gf (by simp [Op.operands,Call.operands])
    rw [hf] at h2
    simp only [VR] at h2
    obtain ⟨vf,vc,h3,h4,h5⟩:=h2
    unfold Oper.wp
    have hr:(execOp a.eval o).run P w= .ok (.defer {target:= .fn (.func f) vc.toArray,args:=vf.toArray++args.map a.eval}) w:=by
     unfold execOp
     rw [hop]
     dsimp only
     rw [Sem.run_bind,sD h3,Result.andThen_ok]
     rfl
    rw [hr]
    refine hA undef m S w [{target:= .fn (.func f) vc.toArray,args:=vf.toArray++args.map a.eval}] (by rw [cW];exact hS) (by rw [cW];exact Fr.refl _ _ _ _) (by simp only [VR]) ?_
    simp only [dQ,cW,and_true]
    refine ⟨vc.toArray,rfl, ?_⟩
    have:=dR (dR h4 (Au (args:=args) fun x hx=>h1 x (by simp [Op.operands,Call.operands,hx]))) h5
    simpa using this
   ·cases h
  ·
   rename_i x hop
   split at h
   ·rename_i t v hx
    cases h
    obtain ⟨hc0,hg⟩:=hguard hc
    refine ⟨hc0,fun hmd hdec=> ?_⟩
    obtain ⟨hd,_,_⟩:=hg hdec
    refine ⟨.dead,[],[],[],⟨fun h=>(by cases h),fun _=> ⟨rfl,rfl⟩,rfl,rfl,rfl,fun h=>(by cases h),fun h=>(by cases h), ?_⟩⟩
    intro g m S w a hS hv hag hfr Q K hA
    refine hwant Q K g m S a w hc hdec hv ?_
    have h1:=hopd hS hv
    rw [hop] at h1
    have h2:=h1 x (by simp [Op.operands])
    rw [hx] at h2
    have h2':=h2
    simp only [VR] at h2'
    obtain ⟨u,h3,h4⟩:=h2'
    unfold Oper.wp
    have hr:(execOp a.eval o).run P w= .halt (.panic (a.eval x)) w:=by
     unfold execOp
     rw [hop]
     dsimp only
     rw [h3]
     rfl
    rw [hr]
    exact hA _ m S w (by rw [cW];exact hS) (by rw [cW];exact Fr.refl _ _ _ _) (by rw [cW];exact h2)
   ·cases h
  ·
   rename_i op n1 n2 n3 n4
   obtain ⟨em,c2,e2,h⟩:=R.bind_ok h
   split at h
   ·cases h
   ·rename_i v ups bs hop
    obtain ⟨_,c3,e3,h⟩:=R.bind_ok h
    have hv1:(uP c3 o.dst v).2.Ok→c3.Ok∧aM v (uP c3 o.dst v).1:=H4
    generalize uP c3 o.dst v=q1 at h hv1
    obtain ⟨v1,c4⟩:=q1
    dsimp only at h hv1
    have hv2:(uO c4 o.dst ups).2.Ok→c4.Ok∧(uO c4 o.dst ups).1=ups:=H2
    generalize uO c4 o.dst ups=q2 at h hv2
    obtain ⟨ups1,c5⟩:=q2
    dsimp only at h hv2
    cases h
    obtain ⟨hc4,hups⟩:=hv2 hc
    subst hups
    obtain ⟨hc3,hfit⟩:=hv1 hc4
    obtain ⟨hc2,hbs⟩:=zi e3 hc3
    have hem:c1.Ok∧∀ n,pY (kr ap s.env) o.op=some n→Nat.beq n 0=em:=by
     split at e2
     ·rename_i n hn
      obtain ⟨hk,rfl⟩:=gG e2 hc2
      exact ⟨hk,fun n' hn'=>by rw [hn] at hn';cases hn';rfl⟩
     ·rename_i hn
      cases e2
      exact ⟨hc2,fun n' hn'=>by rw [hn] at hn';cases hn'⟩
    obtain ⟨hc1,hem⟩:=hem
    obtain ⟨hc0,hg⟩:=hguard hc1
    refine ⟨hc0,fun hmd hdec=> ?_⟩
    obtain ⟨hd,_,_⟩:=hg hdec
    refine ⟨v1,Jc (kr ap s.env) o.op,ups1,[],⟨fun _=>rfl,fun h=>absurd rfl h,rfl,rfl,rfl,fun _=>pT hd hdst,fun _=>rfl, ?_⟩⟩
    intro g m S w a hS hv hag hfr Q K hA
    refine hwant Q K g m S a w hc1 hdec hv ?_
    have h1:=hopd hS hv
    have hok:=F6 hap hS (nid:=nid) (hfr 0 (by omega)) (ρ:=kr ap s.env) (cρ:=a.eval) (fun b B hb=>by
      split at hb
      ·rename_i hm;exact hag b (eF.1 hm) B hb
      ·cases hb) o h1 (dec:=fun| .tmp t=>look dec t|_=>none) (fun x hx b hb=>by
      split at hb
      ·rename_i t
       have:=hv t (List.mem_append.2 (.inl (vD (by simpa using hx))))
       rw [hd t b hb] at this
       simp only [VR,PR] at this
       exact this
      ·cases hb) hem hop hbs
    obtain ⟨nx,m',w',h2,h3,h4,h5⟩:=hok
    unfold Oper.wp
    rw [h2]
    rcases h5 with ⟨cv,rfl,h5⟩|⟨rfl,rfl⟩
    ·exact hA cv m' S w' [] h3 h4 (hfit _ _ _ _ h5) (by simp [dQ])
    ·exact hA undef m' S w' [] h3 h4 (hfit _ _ _ _ (by simp only [VR])) (by simp [dQ])
end
end AM
namespace AM
open Go
theorem kC:∀ {hp:Hp} {b:Nat} {B:aL},look hp b=some B→b<dU hp
 | [],b,B,h=>by simp [look] at h
 | (c,C)::r,b,B,h=>by
  simp only [look] at h
  simp only [dU]
  split at h
  ·rename_i hb
   have hb:=ax hb
   subst hb
   split
   ·rename_i hl;exact cZ hl
   ·omega
  ·have ih:=kC h
   split
   ·exact ih
   ·rename_i hl
    have:¬ c<dU r:=fun hh=>by
     have:Nat.blt c (dU r)=true:=by
      show Nat.ble (c+1) (dU r)=true
      exact Nat.ble_eq_true_of_le hh
     rw [this] at hl;cases hl
    omega
theorem vu:∀ {l:Hp} {b:Nat} {B:aL},look l b=some B→b ∈ l.map (·.1)
 | [],b,B,h=>by simp [look] at h
 |(c,C)::r,b,B,h=>by
  simp only [look] at h
  split at h
  ·rename_i hb;simp [ax hb]
  ·simp [vu h]
structure FR (ap:AP) (env:dY) (hp:Hp) (dfs:List (Nat × List AV)) (nt:Nat) (m:aN) (S:aJ) (w:World) (a:Act):Prop where
 srel:br ap (look hp) m S w
 env:∀ t,VR (look hp) m S (env.get t) (a.tmps.getD t undef)
 dfs:dQ (look hp) m S dfs a.defers
 size:a.tmps.size=nt
theorem BA (a:Act) (d:Option Nat) (v:Value):(a.put d v).tmps.size=a.tmps.size:=by
 cases d<;>simp [Act.put]
theorem vR (a:Act) (d:Option Nat) (v:Value):(a.put d v).defers=a.defers:=by
 cases d<;>simp [Act.put]
theorem vT (a:Act) (d:Option Nat) (v:Value) {t:Nat} (h:d ≠ some t):(a.put d v).tmps.getD t undef=a.tmps.getD t undef:=by
 cases d with
 |none=>rfl
 |some d=>
  have hne:d ≠ t:=fun e=>h (by rw [e])
  simp only [Act.put,Array.getD_eq_getD_getElem?]
  rw [Array.getElem?_setIfInBounds_ne hne]
theorem vS (a:Act) (d:Nat) (v:Value) (h:d<a.tmps.size):(a.put (some d) v).tmps.getD d undef=v:=by
 simp only [Act.put,Array.getD_eq_getD_getElem?]
 rw [Array.getElem?_setIfInBounds_self_of_lt h];rfl
theorem eP {env:dY} {d:Nat} {v:AV}:(jQ env (some d) v).get d=v:=by simp [jQ,dY.get,look]
theorem qc {env:dY} {dst:Option Nat} {v:AV} {t:Nat} (h:dst ≠ some t):(jQ env dst v).get t=env.get t:=by
 cases dst with
 |none=>rfl
 | some d=>
  have hne:Nat.beq d t=false:=by
   cases hb:Nat.beq d t with
   |false=>rfl
   |true=>exact absurd (by rw [ax hb]) h
  simp [jQ,dY.get,look,hne]
section
variable {P:Program} {ap:AP} {H:bA}
theorem FR.put {env:dY} {hp ups:Hp} {dfs df:List (Nat × List AV)} {nt:Nat} {m m':aN} {S S':aJ} {w w':World} {a:Act} (h:FR ap env hp dfs nt m S w a) {dst:Option Nat} (hd:∀ d,dst=some d→d<nt) {v:AV} {cv:Value} {ds:List Deferred}
  (h1:br ap (bU (look hp) ups) m' S' w') (h2:Fr (look hp) m S w (bU (look hp) ups) m' S' w') (h3:VR (bU (look hp) ups) m' S' v cv) (h4:dQ (bU (look hp) ups) m' S' df ds):
  FR ap (jQ env dst v) (ups++hp) (df++dfs) nt m' S' w' ({a with defers:=ds++a.defers}.put dst cv):=by
 rw [fW] at h1 h2 h3 h4
 refine ⟨h1, ?_, ?_, ?_⟩
 ·intro t
  by_cases ht:dst=some t
  ·subst ht
   rw [eP,vS _ _ _ (by have:=hd t rfl;have:=h.size;simpa [this] using hd t rfl)]
   exact h3
  ·rw [qc ht,vT _ _ _ ht]
   exact jt h2.sle h2.ge _ (h.env t)
 ·rw [vR]
  exact rO h4 (mV h2.sle h2.ge h.dfs)
 ·rw [BA];exact h.size
theorem FR.still {env:dY} {hp ups:Hp} {dfs:List (Nat × List AV)} {nt:Nat} {m m':aN} {S S':aJ} {w w':World} {a:Act} (h:FR ap env hp dfs nt m S w a)
  (h1:br ap (bU (look hp) ups) m' S' w') (h2:Fr (look hp) m S w (bU (look hp) ups) m' S' w'):FR ap env (ups++hp) dfs nt m' S' w' a:=by
 rw [fW] at h1 h2
 exact ⟨h1,fun t=>jt h2.sle h2.ge _ (h.env t),mV h2.sle h2.ge h.dfs,h.size⟩
def pD (ap:AP) (hp0:Hp) (m:aN) (S:aJ) (w:World) (nt:Nat) (env:dY) (hp:Hp) (dfs:List (Nat × List AV)) (Q:Exit→Act→World→Prop):Option AV→Prop
 |none=> ∀ m' S' w' a',Fr (look hp0) m S w (look hp) m' S' w'→FR ap env hp dfs nt m' S' w' a'→Q .normal a' w'
 |some v=> ∀ m' S' w' a' cv,Fr (look hp0) m S w (look hp) m' S' w'→FR ap env hp dfs nt m' S' w' a'→VR (look hp) m' S' v cv→Q (.panic [{v:=cv,recovered:=false}]) a' w'
theorem lM {ops:Array Oper} {Q:Exit→Act→World→Prop} {i:Nat} {o:Oper} (ho:ops[i]? =some o) (rest:List Nat) (a:Act) (w:World):wpOps P ops Q (i::rest) a w↔NV P ops Q o (wpOps P ops Q rest) a w:=by
 simp only [wpOps,ho,NV]
theorem Dg {hp ups:Hp} {nid:Nat} (hk:∀ b B,look hp b=some B→b<nid) (hw:(ups.map (·.1)).all (fun x=>Nat.blt x (nid+4))=true):∀ b B,look (ups++hp) b=some B→b<nid+4:=by
 intro b B hb
 rw [dJ] at hb
 split at hb
 ·rename_i x hx
  have hm:b ∈ ups.map (·.1):=vu hx
  exact cZ (List.all_eq_true.1 hw b hm)
 ·have:=hk b B hb;omega
theorem iK (hap:eB P ap) (hH:fH P ap H) {ops:List Oper} {nt:Nat} (hnt:∀ o ∈ ops,∀ d,o.dst=some d→d<nt):∀ (l:List Oper) (i nid:Nat) (s s':RS) (p:Option AV) (c c':Cx),lw ap H ops l nid s c= .ok (s',p) c'→c'.Ok→
  c.Ok∧(s.md= .dead→lS s.dec s.env→l=ops.drop i→(∀ b B,look s.hp b=some B→b<nid)→
  s'.md= .dead∧∀ m S w a,FR ap s.env s.hp s.dfs nt m S w a→∀ Q,pD ap s.hp m S w nt s'.env s'.hp s'.dfs Q p→wpOps P ops.toArray Q (List.range' i l.length) a w)
 | [],i,nid,s,s',p,c,c',h,hc=>by
  cases h
  exact ⟨hc,fun hmd _ _ _=> ⟨hmd,fun m S w a hF Q hQ=>hQ m S w a (Fr.refl _ _ _ _) hF⟩⟩
 | o ::r,i,nid,s,s',p,c,c',h,hc=>by
  simp only [lw] at h
  obtain ⟨⟨s1,p1⟩,c1,e1,h⟩:=R.bind_ok h
  dsimp only at h
  have hfresh:(∀ b B,look s.hp b=some B→b<nid)→∀ j,j<4→look s.hp (nid+j)=none:=by
   intro hk j _
   cases hb:look s.hp (nid+j) with
   |none=>rfl
   |some B=>have:=hk _ _ hb;omega
  have hpre:o::r=ops.drop i→ops[i]? =some o∧ops.toArray[i]? =some o∧r=ops.drop (i+1)∧∀ d,o.dst=some d→d<nt:=by
   intro hl
   have hoi:ops[i]? =some o:=by
    have:(ops.drop i)[0]? =some o:=by rw [← hl];rfl
    simpa using this
   have hr:r=ops.drop (i+1):=by
    have:r=(ops.drop i).drop 1:=by rw [← hl];rfl
    rw [this,List.drop_drop]
   exact ⟨hoi,by simpa using hoi,hr,hnt o (List.mem_of_getElem? hoi)⟩
  cases p1 with
  |some v=>
   cases h
   obtain ⟨hc0,hss⟩:=lu hap hH e1 hc
   refine ⟨hc0,fun hmd hdec hl hk=> ?_⟩
   obtain ⟨hoi,hoi',hr,hd⟩:=hpre hl
   obtain ⟨v1,rb,ups,df,hs⟩:=hss hmd hdec
   refine ⟨by rw [hs.md,hmd],fun m S w a hF Q hQ=> ?_⟩
   rw [List.length_cons,List.range'_succ,lM hoi']
   refine hs.sem (look s.hp) m S w a hF.srel (fun t _=>hF.env t) (fun b _ B hB=>hB) (hfresh hk) Q _ ?_
   intro cv m' S' w' h1 h2 h3
   have hst:=hF.still h1 h2
   rw [fW] at h2 h3
   obtain ⟨henv,rfl⟩:=hs.envp (by simp)
   have hQ:=hQ m' S' w' a cv
   rw [hs.hp,hs.dfs,henv] at hQ
   exact hQ h2 hst h3
  | none=>
   dsimp only at h
   cases hft:s1.feet with
   |nil=>rw [hft] at h;cases h
   | cons ft fr=>
    rw [hft] at h
    dsimp only at h
    split at h
    ·rename_i hwb
     obtain ⟨hc1,ih⟩:=iK hap hH hnt r (i+1) (nid+4) s1 s' p c1 c' h hc
     obtain ⟨hc0,hss⟩:=lu hap hH e1 hc1
     refine ⟨hc0,fun hmd hdec hl hk=> ?_⟩
     obtain ⟨hoi,hoi',hr,hd⟩:=hpre hl
     obtain ⟨v1,rb,ups,df,hs⟩:=hss hmd hdec
     have hfe:=hs.feet rfl
     rw [hft] at hfe
     simp only [List.cons.injEq] at hfe
     rw [hfe.1] at hwb
     obtain ⟨hmd',ih⟩:=ih (by rw [hs.md,hmd]) (hs.dec rfl) hr (by rw [hs.hp];exact Dg hk hwb)
     refine ⟨hmd',fun m S w a hF Q hQ=> ?_⟩
     rw [List.length_cons,List.range'_succ,lM hoi']
     refine hs.sem (look s.hp) m S w a hF.srel (fun t _=>hF.env t) (fun b _ B hB=>hB) (hfresh hk) Q _ ?_
     intro cv m' S' w' ds h1 h2 h3 h4
     have hF':=hF.put hd h1 h2 h3 h4
     rw [fW] at h2
     have henv:=hs.env rfl
     rw [← henv,← hs.hp,← hs.dfs] at hF'
     refine ih m' S' w' _ hF' Q ?_
     rw [← hs.hp] at h2
     cases p with
     |none=>exact fun m2 S2 w2 a2 h5 h6=>hQ m2 S2 w2 a2 (h2.trans h5) h6
     |some v=>exact fun m2 S2 w2 a2 cv2 h5 h6 h7=>hQ m2 S2 w2 a2 cv2 (h2.trans h5) h6 h7
    ·cases h
end
end AM
namespace AM
open Go
structure fQ where
 dst:Option Nat
 v:AV
 rt:List Nat
 rb:List Nat
 ups:List (Nat × aL)
def Ed (d:Option Nat):List Nat:=match d with|some d=> [d]|none=> []
def fQ.foot (r:fQ):ou:={rt:=r.rt,wt:=Ed r.dst,rb:=r.rb,wb:=r.ups.map (·.1)}
def ia (D:Nat→Bool):Nat→dY→List fQ→dY
 |_,e,[]=>e
 |j,e,r::rs=>ia D (j+1) (match D j with|true=>jQ e r.dst r.v|false=>e) rs
def jo (D:Nat→Bool):Nat→Hp→List fQ→Hp
 |_,h,[]=>h
 |j,h,r::rs=>jo D (j+1) (match D j with|true=>r.ups++h|false=>h) rs
theorem iV {D D':Nat→Bool} {t:Nat}:∀ (rs:List fQ) (j:Nat) (e e':dY),e.get t=e'.get t→(∀ k r,rs[k]? =some r→r.dst=some t→D (j+k)=D' (j+k))→(ia D j e rs).get t=(ia D' j e' rs).get t
 | [],_,_,_,he,_=>he
 | r::rs,j,e,e',he,h=>by
  simp only [ia]
  refine iV rs (j+1) _ _ ?_ fun k r' hk hd=> ?_
  ·by_cases hd:r.dst=some t
   ·have h0:=h 0 r rfl hd
    rw [Nat.add_zero] at h0
    rw [h0]
    cases D' j with
    |true=>simp only [hd,eP]
    |false=>exact he
   ·cases D j<;>cases D' j<;>simp only [qc hd,he]
  ·have:=h (k+1) r' (by simpa using hk) hd
   rwa [show j+(k+1)=j+1+k by omega] at this
theorem zC:∀ {l:Hp} {b:Nat},b ∉ l.map (·.1)→look l b=none:=by
 intro l b h
 cases hl:look l b with
 |none=>rfl
 |some B=>exact absurd (vu hl) h
theorem kY {ups hp:Hp} {b:Nat} (h:b ∉ ups.map (·.1)):look (ups++hp) b=look hp b:=by
 rw [dJ,zC h]
theorem mG:∀ {l:Hp} {b:Nat},b ∈ l.map (·.1)→∃ B,look l b=some B
 | [],b,h=>by simp at h
 | (c,C)::r,b,h=>by
  simp only [look]
  cases hb:Nat.beq c b with
  |true=>exact ⟨C,rfl⟩
  |false=>
   simp only [List.map_cons,List.mem_cons] at h
   rcases h with h|h
   ·subst h;simp at hb
   ·exact mG h
theorem qj {ups hp hp':Hp} {b:Nat} (h:b ∈ ups.map (·.1)):look (ups++hp) b=look (ups++hp') b:=by
 obtain ⟨B,hB⟩:=mG h
 rw [dJ,dJ,hB]
theorem kv {D D':Nat→Bool} {b:Nat}:∀ (rs:List fQ) (j:Nat) (h h':Hp),look h b=look h' b→(∀ k r,rs[k]? =some r→b ∈ r.ups.map (·.1)→D (j+k)=D' (j+k))→look (jo D j h rs) b=look (jo D' j h' rs) b
 | [],_,_,_,he,_=>he
 | r::rs,j,e,e',he,h=>by
  simp only [jo]
  refine kv rs (j+1) _ _ ?_ fun k r' hk hd=> ?_
  ·by_cases hd:b ∈ r.ups.map (·.1)
   ·have h0:=h 0 r rfl hd
    rw [Nat.add_zero] at h0
    rw [h0]
    cases D' j with
    |true=>exact qj hd
    |false=>exact he
   ·cases D j<;>cases D' j<;>simp only [kY hd,he]
  ·have:=h (k+1) r' (by simpa using hk) hd
   rwa [show j+(k+1)=j+1+k by omega] at this
theorem nj:∀ (rs:List fQ) (j:Nat) (e:dY) {D:Nat→Bool},(∀ k,k<rs.length→D (j+k)=false)→ia D j e rs=e
 | [],_,_,_,_=>rfl
 |r::rs,j,e,D,h=>by
  have h0:=h 0 (by simp)
  rw [Nat.add_zero] at h0
  simp only [ia,h0]
  exact nj rs (j+1) e fun k hk=>by have:=h (k+1) (by simpa using hk);rwa [show j+(k+1)=j+1+k by omega] at this
theorem iY:∀ (rs:List fQ) (j:Nat) (e:Hp) {D:Nat→Bool},(∀ k,k<rs.length→D (j+k)=false)→jo D j e rs=e
 | [],_,_,_,_=>rfl
 |r::rs,j,e,D,h=>by
  have h0:=h 0 (by simp)
  rw [Nat.add_zero] at h0
  simp only [jo,h0]
  exact iY rs (j+1) e fun k hk=>by have:=h (k+1) (by simpa using hk);rwa [show j+(k+1)=j+1+k by omega] at this
def jn (e:dY) (rs:List fQ):dY:=ia (fun _=>true) 0 e rs
def uR (h:Hp) (rs:List fQ):Hp:=jo (fun _=>true) 0 h rs
theorem oI (D:Nat→Bool):∀ (rs:List fQ) (j d:Nat) (e:dY),ia D (j+d) e rs=ia (fun k=>D (k+d)) j e rs
 | [],_,_,_=>rfl
 |r::rs,j,d,e=>by
  simp only [ia]
  rw [show j+d+1=j+1+d by omega]
  exact oI D rs (j+1) d _
theorem qU (D:Nat→Bool):∀ (rs:List fQ) (j d:Nat) (e:Hp),jo D (j+d) e rs=jo (fun k=>D (k+d)) j e rs
 | [],_,_,_=>rfl
 |r::rs,j,d,e=>by
  simp only [jo]
  rw [show j+d+1=j+1+d by omega]
  exact qU D rs (j+1) d _
theorem nk (e:dY) (r:fQ) (rs:List fQ):jn e (r::rs)=jn (jQ e r.dst r.v) rs:=by
 simp only [jn,ia]
 exact oI (fun _=>true) rs 0 1 _
theorem qg (h:Hp) (r:fQ) (rs:List fQ):uR h (r::rs)=uR (r.ups++h) rs:=by
 simp only [uR,jo]
 exact qU (fun _=>true) rs 0 1 _
theorem p_:∀ (rs:List fQ) (k:Nat) (e:dY),ia (fun j=>decide (j<k)) 0 e rs=jn e (rs.take k)
 |rs,0,e=>by
  simp only [List.take_zero]
  exact nj rs 0 e fun _ _=>by simp
 | [],k+1,e=>rfl
 |r::rs,k+1,e=>by
  simp only [List.take_succ_cons,nk,ia]
  rw [show decide (0<k+1)=true by simp]
  dsimp only
  rw [← p_ rs k]
  have:=oI (fun j=>decide (j<k+1)) rs 0 1 (jQ e r.dst r.v)
  rw [this]
  congr 1
  funext j
  simp
theorem C6:∀ (rs:List fQ) (k:Nat) (e:Hp),jo (fun j=>decide (j<k)) 0 e rs=uR e (rs.take k)
 |rs,0,e=>by
  simp only [List.take_zero]
  exact iY rs 0 e fun _ _=>by simp
 | [],k+1,e=>rfl
 |r::rs,k+1,e=>by
  simp only [List.take_succ_cons,qg,jo]
  rw [show decide (0<k+1)=true by simp]
  dsimp only
  rw [← C6 rs k]
  have:=qU (fun j=>decide (j<k+1)) rs 0 1 (r.ups++e)
  rw [this]
  congr 1
  funext j
  simp
theorem xM (e:dY):∀ (rs:List fQ) (k:Nat) (r:fQ),rs[k]? =some r→jn e (rs.take (k+1))=jQ (jn e (rs.take k)) r.dst r.v:=by
 intro rs
 induction rs generalizing e with
 |nil=>intro k r h;simp at h
 | cons a rs ih=>
  intro k r h
  cases k with
  |zero=>simp at h;subst h;rfl
  |succ k=>
   simp only [List.take_succ_cons,nk]
   exact ih _ k r (by simpa using h)
theorem H6 (e:Hp):∀ (rs:List fQ) (k:Nat) (r:fQ),rs[k]? =some r→uR e (rs.take (k+1))=r.ups++uR e (rs.take k):=by
 intro rs
 induction rs generalizing e with
 |nil=>intro k r h;simp at h
 | cons a rs ih=>
  intro k r h
  cases k with
  |zero=>simp at h;subst h;rfl
  |succ k=>
   simp only [List.take_succ_cons,qg]
   exact ih _ k r (by simpa using h)
section
variable {P:Program} {ap:AP} {H:bA}
structure Hb (P:Program) (ap:AP) (ops:List Oper) (i nid:Nat) (s s':RS) (recs:List fQ):Prop where
 env:s'.env=jn s.env recs
 hp:s'.hp=uR s.hp recs
 feet:s'.feet=(recs.map fQ.foot).reverse++s.feet
 dle:s.dfs.length≤s'.dfs.length
 bound:∀ (k:Nat) (r:fQ),recs[k]? =some r→∀ b ∈ r.ups.map (·.1),b<nid+4*k+4
 sem:s'.dfs.length=s.dfs.length→s'.dfs=s.dfs∧∀ (k:Nat) (r:fQ),recs[k]? =some r→∃ o,ops[i+k]? =some o∧r.dst=o.dst∧yJ P ap ops.toArray o (nid+4*k) (jn s.env (recs.take k)) (uR s.hp (recs.take k)) r.rt r.rb r.v r.ups [] none
theorem JK (hap:eB P ap) (hH:fH P ap H) {ops:List Oper}:∀ (l:List Oper) (i nid:Nat) (s s':RS) (c c':Cx),lw ap H ops l nid s c= .ok (s',none) c'→c'.Ok→
  c.Ok∧(s.md= .dead→lS s.dec s.env→l=ops.drop i→s'.md= .dead∧∃ recs:List fQ,recs.length=l.length∧Hb P ap ops i nid s s' recs)
 | [],i,nid,s,s',c,c',h,hc=>by
  cases h
  exact ⟨hc,fun hmd _ _=> ⟨hmd,[],rfl,⟨rfl,rfl,rfl,Nat.le_refl _,fun k r h=>by simp at h,fun _=> ⟨rfl,fun k r h=>by simp at h⟩⟩⟩⟩
 | o :: r,i,nid,s,s',c,c',h,hc=>by
  simp only [lw] at h
  obtain ⟨⟨s1,p1⟩,c1,e1,h⟩:=R.bind_ok h
  dsimp only at h
  cases p1 with
  |some v=>cases h
  | none=>
   dsimp only at h
   cases hft:s1.feet with
   |nil=>rw [hft] at h;cases h
   | cons ft fr=>
    rw [hft] at h
    dsimp only at h
    split at h
    ·rename_i hwb
     obtain ⟨hc1,ih⟩:=JK hap hH r (i+1) (nid+4) s1 s' c1 c' h hc
     obtain ⟨hc0,hss⟩:=lu hap hH e1 hc1
     refine ⟨hc0,fun hmd hdec hl=> ?_⟩
     have hoi:ops[i]? =some o:=by
      have:(ops.drop i)[0]? =some o:=by rw [← hl];rfl
      simpa using this
     have hr:r=ops.drop (i+1):=by
      have:r=(ops.drop i).drop 1:=by rw [← hl];rfl
      rw [this,List.drop_drop]
     obtain ⟨v1,rb,ups,df,hs⟩:=hss hmd hdec
     have hfe:=hs.feet rfl
     rw [hft] at hfe
     simp only [List.cons.injEq] at hfe
     rw [hfe.1] at hwb
     obtain ⟨hmd',recs,hlen,ht⟩:=ih (by rw [hs.md,hmd]) (hs.dec rfl) hr
     refine ⟨hmd',{dst:=o.dst,v:=v1,rt:=mS o.op.operands.toList++eZ ops o,rb:=rb,ups:=ups}::recs,by simp [hlen], ?_⟩
     have hdl:s.dfs.length≤s1.dfs.length:=by rw [hs.dfs];simp
     refine ⟨?_, ?_, ?_,Nat.le_trans hdl ht.dle, ?_, ?_⟩
     ·rw [ht.env,nk,hs.env rfl]
     ·rw [ht.hp,qg,hs.hp]
     ·rw [ht.feet,hs.feet rfl]
      simp [fQ.foot,Ed,zg]
      cases o.dst<;>rfl
     ·intro k q hk b hb
      cases k with
      |zero=>
       simp at hk
       subst hk
       exact cZ (List.all_eq_true.1 hwb b hb)
      |succ k=>
       have:=ht.bound k q (by simpa using hk) b hb
       omega
     ·intro he
      have h1:=ht.dle
      obtain ⟨hd1,hsem⟩:=ht.sem (by omega)
      have hdf:df= []:=by
       have:df.length=0:=by
        have:=hs.dfs
        have h3:s1.dfs.length=df.length+s.dfs.length:=by rw [this];simp
        omega
       exact List.eq_nil_of_length_eq_zero this
      subst hdf
      refine ⟨by rw [hd1,hs.dfs];rfl, ?_⟩
      intro k q hk
      cases k with
      |zero=>
       simp at hk
       subst hk
       exact ⟨o,hoi,rfl,hs.sem⟩
      |succ k=>
       obtain ⟨o2,h4,h5,h6⟩:=hsem k q (by simpa using hk)
       refine ⟨o2,by rw [show i+(k+1)=i+1+k by omega];exact h4,h5, ?_⟩
       rw [List.take_succ_cons,nk,qg]
       rw [hs.env rfl,hs.hp] at h6
       rw [show nid+4*(k+1)=nid+4+4*k by omega]
       exact h6
    ·cases h
end
end AM
namespace AM
open Go
theorem uJ {md:Region.Mode} (acc:Array Nat) (i:Nat):∀ (l:List Edge) (s:Nat),(l.foldl (fun s e=>if Region.binds md e then s|||2^e.on|||acc.getD e.on 0 else s) s).testBit i=true→
  s.testBit i=true∨∃ e ∈ l,Region.binds md e=true∧(i=e.on∨(acc.getD e.on 0).testBit i=true)
 | [],s,h=> .inl h
 | e::r,s,h=>by
  simp only [List.foldl_cons] at h
  rcases uJ acc i r _ h with h1|⟨e',h1,h2⟩
  ·split at h1
   ·rename_i hb
    simp only [Nat.testBit_or,Bool.or_eq_true,Nat.testBit_two_pow,decide_eq_true_eq] at h1
    rcases h1 with (h1|h1)|h1
    ·exact .inl h1
    ·exact .inr ⟨e,by simp,hb,.inl h1.symm⟩
    ·exact .inr ⟨e,by simp,hb,.inr h1⟩
   ·exact .inl h1
  ·exact .inr ⟨e',by simp [h1],h2⟩
def jw (acc:Array Nat) (o:Oper):Array Nat:=acc.push (o.after.toList.foldl (fun s e=>if Region.binds .any e then s|||2^e.on|||acc.getD e.on 0 else s) 0)
theorem uL (acc:Array Nat) (x:Nat):(acc.push x).getD acc.size 0=x:=by simp [Array.getD_eq_getD_getElem?]
def sV (ops:List Oper) (D:Nat→Bool):Prop:=∀ (k:Nat) (o:Oper),ops[k]? =some o→D k=true→∀ e ∈ o.after,Region.binds .any e=true→D e.on=true
def Nc (D:Nat→Bool) (acc:Array Nat):Prop:=∀ k,D k=true→∀ i,(acc.getD k 0).testBit i=true→D i=true
theorem D6 {ops:List Oper} {D:Nat→Bool} (hD:sV ops D):∀ (l:List Oper) (acc:Array Nat),Nc D acc→l=ops.drop acc.size→Nc D (l.foldl jw acc)
 | [],acc,h,_=>h
 | o ::r,acc,h,hl=>by
  simp only [List.foldl_cons]
  have hoi:ops[acc.size]? =some o:=by
   have:(ops.drop acc.size)[0]? =some o:=by rw [← hl];rfl
   simpa using this
  refine D6 hD r _ ?_ ?_
  ·intro k hk i hi
   by_cases hks:k<acc.size
   ·refine h k hk i ?_
    simpa [jw,Array.getD_eq_getD_getElem?,Array.getElem?_push,Nat.ne_of_lt hks] using hi
   ·by_cases hke:k=acc.size
    ·subst hke
     rw [jw,uL] at hi
     rcases uJ acc i _ _ hi with h1|⟨e,h1,h2,h3⟩
     ·simp at h1
     ·have he:=hD _ o hoi hk e (by simpa using h1) h2
      rcases h3 with rfl|h3
      ·exact he
      ·exact h _ he i h3
    ·have:(jw acc o)[k]? =none:=by
      simp only [jw]
      rw [Array.getElem?_eq_none];simp;omega
     simp [Array.getD_eq_getD_getElem?,this] at hi
  ·have:(jw acc o).size=acc.size+1:=by simp [jw]
   rw [this,← List.drop_drop,← hl];rfl
theorem Fl (ops:List Oper):Region.before ops.toArray=ops.foldl jw #[]:=by
 simp only [Region.before,← Array.foldl_toList]
 rfl
theorem jI {ops:List Oper} {D:Nat→Bool} (hD:sV ops D) {k i:Nat} (hk:D k=true) (h:((Region.before ops.toArray).toList.getD k 0).testBit i=true):D i=true:=by
 have:=D6 hD ops #[] (fun k _ i hi=>by simp at hi) (by simp)
 rw [← Fl] at this
 refine this k hk i ?_
 rw [List.getD_eq_getElem?_getD] at h
 rw [Array.getD_eq_getD_getElem?]
 simpa using h
theorem kx {a b:List Nat} {x:Nat} (ha:x ∈ a) (hb:x ∈ b):vB a b=true:=List.any_eq_true.2 ⟨x,ha,eF.2 hb⟩
structure yI (n:Nat) (bef:Nat→Nat→Bool) (recs:List fQ):Prop where
 ok:∀ i j a b,recs[i]? =some a→recs[j]? =some b→i<j→(fS a.foot b.foot=true∨∃ x ∈ b.ups.map (·.1),n+4*i≤x∧x<n+4*i+4)→bef j i=true
theorem vL {n:Nat} {bef:List Nat} {recs:List fQ} (h:mJ n bef (recs.map fQ.foot).reverse=true):yI n (fun j i=>(bef.getD j 0).testBit i) recs:=by
 refine ⟨fun i j a b ha hb hij hc=> ?_⟩
 simp only [mJ,List.reverse_reverse,List.all_eq_true] at h
 have h1:=h (a.foot,i) (by rw [List.mem_zipIdx_iff_getElem?];simp [ha]) (b.foot,j) (by rw [List.mem_zipIdx_iff_getElem?];simp [hb])
 simp only [Bool.or_eq_true,Bool.not_eq_true'] at h1
 rcases h1 with (h1|h1)|h1
 ·have:Nat.blt i j=true:=Nat.ble_eq_true_of_le hij
  rw [this] at h1;cases h1
 ·exfalso
  rw [Bool.or_eq_false_iff] at h1
  rcases hc with hc|⟨x,hx,h2,h3⟩
  ·rw [hc] at h1;cases h1.1
  ·have:=List.any_eq_false.1 h1.2 x hx
   simp only [Bool.and_eq_true,not_and] at this
   exact this (Nat.ble_eq_true_of_le h2) (Nat.ble_eq_true_of_le h3)
 ·exact h1
section
variable {P:Program} {ap:AP} {H:bA}
theorem FR.congr {env env':dY} {hp hp':Hp} {dfs:List (Nat × List AV)} {nt:Nat} {m:aN} {S:aJ} {w:World} {a:Act} (h:FR ap env hp dfs nt m S w a) (he:∀ t,env'.get t=env.get t) (hh:look hp'=look hp):FR ap env' hp' dfs nt m S w a:=by
 refine ⟨hh ▸ h.srel,fun t=> ?_,hh ▸ h.dfs,h.size⟩
 rw [he,hh];exact h.env t
def jA (listed:Array Bool):Nat→Bool:=fun k=>listed.getD k false
theorem KK {listed:Array Bool} {i:Nat} (hi:i<listed.size) (k:Nat):jA (listed.setIfInBounds i true) k=(if k=i then true else jA listed k):=by
 simp only [jA,Array.getD_eq_getD_getElem?]
 by_cases h:k=i
 ·subst h;rw [if_pos rfl,Array.getElem?_setIfInBounds_self_of_lt hi];rfl
 ·rw [if_neg h,Array.getElem?_setIfInBounds_ne (fun e=>h e.symm)]
def tF (n:Nat) (D:Nat→Bool):Nat:=((List.range n).filter fun i=> !D i).length
theorem sn {D D':Nat→Bool} {i:Nat} (hi:D i=false) (hD':∀ k,D' k=if k=i then true else D k):∀ (l:List Nat),l.Nodup→i ∈ l→(l.filter fun k=> !D k).length=(l.filter fun k=> !D' k).length+1
 | [],_,h=>by simp at h
 | a::r,hn,h=>by
  rw [List.nodup_cons] at hn
  by_cases ha:a=i
  ·subst ha
   have hsame:r.filter (fun k=> !D k)=r.filter (fun k=> !D' k):=by
    refine List.filter_congr fun k hk=> ?_
    have:k ≠ a:=fun e=>hn.1 (e ▸ hk)
    rw [hD' k,if_neg this]
   have h1:D' a=true:=by rw [hD' a,if_pos rfl]
   simp [hi,h1,hsame]
  ·have h2:=sn hi hD' r hn.2 (by simpa [Ne.symm ha] using h)
   have:D' a=D a:=by rw [hD' a,if_neg ha]
   simp only [List.filter_cons,this]
   split<;>simp [h2]
theorem Jd {ops:List Oper} (hb:kU ops=true) {listed:Array Bool} (hsz:listed.size=ops.length) (hnil:Region.ready .any ops.toArray listed= []):∀ k,k<ops.length→jA listed k=true:=by
 intro k
 induction k using Nat.strongRecOn with
 | _ k ih=>
  intro hk
  cases hd:jA listed k with
  |true=>rfl
  | false=>
   exfalso
   have hmem:k ∈ Region.ready .any ops.toArray listed:=by
    simp only [Region.ready,List.mem_filter,List.mem_range,List.size_toArray]
    refine ⟨hk, ?_⟩
    have h1:listed.getD k true=false:=by
     simp only [jA,Array.getD_eq_getD_getElem?] at hd ⊢
     rw [Array.getElem?_eq_getElem (by omega)] at hd ⊢
     simpa using hd
    have h2:ops.toArray[k]? =some ops[k]:=by simp [hk]
    rw [h1,h2]
    simp only [Bool.not_false,Bool.true_and,Option.map_some,Option.getD_some,Array.all_eq_true',Bool.or_eq_true,Bool.not_eq_true']
    intro e he
    cases hbe:Region.binds .any e with
    |false=>exact .inl rfl
    |true=>
     right
     simp only [kU,List.all_eq_true] at hb
     have h3:=hb (ops[k],k) (by rw [List.mem_zipIdx_iff_getElem?];simp [hk]) e (by simpa using he)
     rw [hbe] at h3
     simp only [Bool.not_true,Bool.false_or] at h3
     have h4:=cZ h3
     exact ih e.on h4 (by omega)
   rw [hnil] at hmem
   cases hmem
theorem vW {ops:List Oper} {listed:Array Bool} (hsz:listed.size=ops.length) {i:Nat} (h:i ∈ Region.ready .any ops.toArray listed):∃ o,ops[i]? =some o∧jA listed i=false∧i<ops.length∧∀ e ∈ o.after,Region.binds .any e=true→jA listed e.on=true:=by
 simp only [Region.ready,List.mem_filter,List.mem_range,List.size_toArray,Bool.and_eq_true,Bool.not_eq_true'] at h
 obtain ⟨hi,h1,h2⟩:=h
 have h3:ops.toArray[i]? =some ops[i]:=by simp [hi]
 rw [h3] at h2
 simp only [Option.map_some,Option.getD_some,Array.all_eq_true',Bool.or_eq_true,Bool.not_eq_true'] at h2
 refine ⟨ops[i],List.getElem?_eq_getElem hi, ?_,hi,fun e he hb=> ?_⟩
 ·simp only [jA,Array.getD_eq_getD_getElem?] at h1 ⊢
  rw [Array.getElem?_eq_getElem (by omega)] at h1 ⊢
  simpa using h1
 ·rcases h2 e he with h|h
  ·rw [hb] at h;cases h
  ·exact h
end
end AM
namespace AM
open Go
theorem Hq {a b:ou} {x:Nat} (h:x ∈ a.wt) (h':x ∈ b.rt):fS a b=true:=by simp [fS,kx h h']
theorem AH {a b:ou} {x:Nat} (h:x ∈ a.wt) (h':x ∈ b.wt):fS a b=true:=by simp [fS,kx h h']
theorem Ho {a b:ou} {x:Nat} (h:x ∈ a.rt) (h':x ∈ b.wt):fS a b=true:=by simp [fS,kx h h']
theorem Fs {a b:ou} {x:Nat} (h:x ∈ a.wb) (h':x ∈ b.rb):fS a b=true:=by simp [fS,kx h h']
theorem xE {a b:ou} {x:Nat} (h:x ∈ a.wb) (h':x ∈ b.wb):fS a b=true:=by simp [fS,kx h h']
theorem Fq {a b:ou} {x:Nat} (h:x ∈ a.rb) (h':x ∈ b.wb):fS a b=true:=by simp [fS,kx h h']
theorem mH {d:Option Nat} {t:Nat} (h:d=some t):t ∈ Ed d:=by subst h;simp [Ed]
section
variable {P:Program} {ap:AP} {H:bA}
structure NX (ap:AP) (ops:List Oper) (recs:List fQ) (e0:dY) (hp0:Hp) (dfs:List (Nat × List AV)) (nt:Nat) (m0:aN) (S0:aJ) (w0:World) (listed:Array Bool) (m:aN) (S:aJ) (w:World) (a:Act):Prop where
 sz:listed.size=ops.length
 cl:sV ops (jA listed)
 fr:Fr (look hp0) m0 S0 w0 (look (jo (jA listed) 0 hp0 recs)) m S w
 rel:FR ap (ia (jA listed) 0 e0 recs) (jo (jA listed) 0 hp0 recs) dfs nt m S w a
theorem AR {ops:List Oper} {recs:List fQ} {s:RS} {n0 nt:Nat} (hnt:∀ o ∈ ops,∀ d,o.dst=some d→d<nt) (hlen:recs.length=ops.length)
  (hbound:∀ (k:Nat) (r:fQ),recs[k]? =some r→∀ b ∈ r.ups.map (·.1),b<n0+4*k+4)
  (hsem:∀ (k:Nat) (r:fQ),recs[k]? =some r→∃ o,ops[k]? =some o∧r.dst=o.dst∧∀ (D:Nat→Bool) m S w (a:Act),br ap (look (jo D 0 s.hp recs)) m S w→(∀ t ∈ r.rt,VR (look (jo D 0 s.hp recs)) m S ((jn s.env (recs.take k)).get t) (a.tmps.getD t undef))→
   (∀ b ∈ r.rb,look (uR s.hp (recs.take k)) b=look (jo D 0 s.hp recs) b)→(∀ j,j<4→look (jo D 0 s.hp recs) (n0+4*k+j)=none)→(∀ j,((Region.before ops.toArray).toList.getD j 0).testBit k=true→D j=false)→
   ∀ (Q:Exit→Act→World→Prop) (K:Act→World→Prop),Nb ap o (look (jo D 0 s.hp recs)) m S w a r.v r.ups [] Q K none→NV P ops.toArray Q o K a w)
  (hord:yI n0 (fun j i=>((Region.before ops.toArray).toList.getD j 0).testBit i) recs) (hback:kU ops=true) (hn0:∀ b B,look s.hp b=some B→b<n0) {m0:aN} {S0:aJ} {w0:World} {Q:Exit→Act→World→Prop}
  (hQ:∀ m S w a,Fr (look s.hp) m0 S0 w0 (look (uR s.hp recs)) m S w→FR ap (jn s.env recs) (uR s.hp recs) s.dfs nt m S w a→Q .normal a w):
  ∀ (fuel:Nat) (listed:Array Bool) (m:aN) (S:aJ) (w:World) (a:Act),NX ap ops recs s.env s.hp s.dfs nt m0 S0 w0 listed m S w a→tF ops.length (jA listed)≤fuel→wpAny P .any ops.toArray Q fuel listed a w:=by
 have hdone:∀ (listed:Array Bool) (m:aN) (S:aJ) (w:World) (a:Act),NX ap ops recs s.env s.hp s.dfs nt m0 S0 w0 listed m S w a→(∀ k,k<ops.length→jA listed k=true)→Q .normal a w:=by
  intro listed m S w a hI hall
  have hh:∀ b,look (uR s.hp recs) b=look (jo (jA listed) 0 s.hp recs) b:=fun b=>
   kv recs 0 _ _ rfl fun k r hk _=>by rw [hall (0+k) (by have:=(List.getElem?_eq_some_iff.1 hk).1;omega)]
  have he:∀ t,(jn s.env recs).get t=(ia (jA listed) 0 s.env recs).get t:=fun t=>
   iV recs 0 _ _ rfl fun k r hk _=>by rw [hall (0+k) (by have:=(List.getElem?_eq_some_iff.1 hk).1;omega)]
  have hh':=funext hh
  exact hQ m S w a (hh' ▸ hI.fr) (hI.rel.congr he hh')
 intro fuel
 induction fuel with
 | zero=>
  intro listed m S w a hI hm
  have hall:∀ k,k<ops.length→jA listed k=true:=by
   intro k hk
   cases hd:jA listed k with
   |true=>rfl
   |false=>
    have hmem:k ∈ (List.range ops.length).filter fun i=> !jA listed i:=by simp [hk,hd]
    have:(List.range ops.length).filter (fun i=> !jA listed i)= []:=List.eq_nil_of_length_eq_zero (Nat.le_zero.1 hm)
    rw [this] at hmem
    cases hmem
  refine ⟨?_,hdone listed m S w a hI hall⟩
  cases hr:Region.ready .any ops.toArray listed with
  |nil=>rfl
  |cons i r=>
   obtain ⟨o,_,h2,h3,_⟩:=vW hI.sz (i:=i) (by rw [hr];simp)
   rw [hall i h3] at h2;cases h2
 | succ fuel ih=>
  intro listed m S w a hI hm
  refine ⟨fun hnil=>hdone listed m S w a hI (Jd hback hI.sz hnil),fun i hi=> ?_⟩
  obtain ⟨o,hoi,hDi,hlt,hedges⟩:=vW hI.sz hi
  have hri:recs[i]? =some recs[i]:=List.getElem?_eq_getElem (by omega)
  generalize recs[i]=r at hri
  obtain ⟨o',ho',hdst,hstep⟩:=hsem i r hri
  rw [hoi] at ho'
  cases ho'
  have hsz':i<listed.size:=by rw [hI.sz];exact hlt
  have hset:=KK hsz'
  have hcl':sV ops (jA (listed.setIfInBounds i true)):=by
   intro k o2 hk hd e he hb
   rw [hset] at hd ⊢
   split
   ·rfl
   ·split at hd
    ·rename_i hki
     subst hki
     rw [hoi] at hk;cases hk
     exact hedges e he hb
    ·exact hI.cl k o2 hk hd e he hb
  have hlow:∀ k q,recs[k]? =some q→k<i→(fS q.foot r.foot=true∨∃ x ∈ r.ups.map (·.1),n0+4*k≤x∧x<n0+4*k+4)→jA listed k=true:=by
   intro k q hk hki hc
   have h1:=hord.ok k i q r hk hri hki hc
   have h2:=jI hcl' (k:=i) (i:=k) (by rw [hset,if_pos rfl]) h1
   rw [hset,if_neg (by omega)] at h2
   exact h2
  have hhigh:∀ k q,recs[k]? =some q→i<k→(fS r.foot q.foot=true∨∃ x ∈ q.ups.map (·.1),n0+4*i≤x∧x<n0+4*i+4)→jA listed k=false:=by
   intro k q hk hki hc
   cases hd:jA listed k with
   |false=>rfl
   |true=>
    have h1:=hord.ok i k r q hri hk hki hc
    have h2:=jI hI.cl hd h1
    rw [hDi] at h2;cases h2
  have hagr:∀ k q,recs[k]? =some q→(k<i→fS q.foot r.foot=true)→(i<k→fS r.foot q.foot=true)→decide (k<i)=jA listed k:=by
   intro k q hk h1 h2
   rcases Nat.lt_trichotomy k i with h|h|h
   ·rw [hlow k q hk h (.inl (h1 h))];simp [h]
   ·subst h;rw [hDi];simp
   ·rw [hhigh k q hk h (.inl (h2 h))];simp;omega
  have hagr':∀ k q,recs[k]? =some q→(k<i→fS q.foot r.foot=true)→(i<k→fS r.foot q.foot=true)→jA (listed.setIfInBounds i true) k=decide (k<i+1):=by
   intro k q hk h1 h2
   rw [hset]
   rcases Nat.lt_trichotomy k i with h|h|h
   ·rw [if_neg (by omega),hlow k q hk h (.inl (h1 h))];simp;omega
   ·subst h;simp
   ·rw [if_neg (by omega),hhigh k q hk h (.inl (h2 h))];simp;omega
  have henv:∀ t ∈ r.rt,(jn s.env (recs.take i)).get t=(ia (jA listed) 0 s.env recs).get t:=by
   intro t ht
   rw [← p_]
   refine iV recs 0 _ _ rfl fun k q hk hd=> ?_
   rw [Nat.zero_add]
   exact hagr k q hk (fun _=>Hq (mH hd) ht) (fun _=>Ho ht (mH hd))
  have hhp:∀ b ∈ r.rb,look (uR s.hp (recs.take i)) b=look (jo (jA listed) 0 s.hp recs) b:=by
   intro b hb
   rw [← C6]
   refine kv recs 0 _ _ rfl fun k q hk hd=> ?_
   rw [Nat.zero_add]
   exact hagr k q hk (fun _=>Fs hd hb) (fun _=>Fq hb hd)
  have hfresh:∀ j,j<4→look (jo (jA listed) 0 s.hp recs) (n0+4*i+j)=none:=by
   intro j hj
   have h1:look (jo (jA listed) 0 s.hp recs) (n0+4*i+j)=look (jo (fun _=>false) 0 s.hp recs) (n0+4*i+j):=by
    refine kv recs 0 _ _ rfl fun k q hk hd=> ?_
    rw [Nat.zero_add]
    have hb:=hbound k q hk _ hd
    rcases Nat.lt_trichotomy k i with h|h|h
    ·omega
    ·subst h;exact hDi
    ·exact hhigh k q hk h (.inr ⟨_,hd,by omega,by omega⟩)
   rw [h1,iY recs 0 _ (fun _ _=>rfl)]
   cases hb:look s.hp (n0+4*i+j) with
   |none=>rfl
   |some B=>have:=hn0 _ _ hb;omega
  have hopA:ops.toArray[i]? =some o:=by simpa using hoi
  have hgoal:NV P ops.toArray Q o (wpAny P .any ops.toArray Q fuel (listed.setIfInBounds i true)) a w:=by
   refine hstep (jA listed) m S w a hI.rel.srel (fun t ht=>by rw [henv t ht];exact hI.rel.env t) hhp hfresh (fun j hj=>by
    cases hd:jA listed j with
    |false=>rfl
    |true=>
     have h2:=jI hI.cl hd hj
     rw [hDi] at h2;cases h2) Q _ ?_
   intro cv m' S' w' ds h1 h2 h3 h4
   have hF:=hI.rel.put (hnt o (List.mem_of_getElem? hoi)) h1 h2 h3 h4
   rw [fW] at h2
   rw [List.nil_append] at hF
   have he':∀ t,(ia (jA (listed.setIfInBounds i true)) 0 s.env recs).get t=(jQ (ia (jA listed) 0 s.env recs) o.dst r.v).get t:=by
    intro t
    by_cases ht:o.dst=some t
    ·have h5:(ia (jA (listed.setIfInBounds i true)) 0 s.env recs).get t=(ia (fun j=>decide (j<i+1)) 0 s.env recs).get t:=by
      refine iV recs 0 _ _ rfl fun k q hk hd=> ?_
      rw [Nat.zero_add]
      have hrt:t ∈ r.foot.wt:=mH (hdst.trans ht)
      exact hagr' k q hk (fun _=>AH (mH hd) hrt) (fun _=>AH hrt (mH hd))
     rw [h5,p_,xM _ _ _ _ hri,hdst,ht,eP,eP]
    ·rw [qc ht]
     refine iV recs 0 _ _ rfl fun k q hk hd=> ?_
     rw [Nat.zero_add,hset,if_neg]
     rintro rfl
     rw [hri] at hk;cases hk
     exact ht (hdst ▸ hd)
   have hh':look (jo (jA (listed.setIfInBounds i true)) 0 s.hp recs)=look (r.ups++jo (jA listed) 0 s.hp recs):=by
    funext b
    by_cases hb:b ∈ r.ups.map (·.1)
    ·have h5:look (jo (jA (listed.setIfInBounds i true)) 0 s.hp recs) b=look (jo (fun j=>decide (j<i+1)) 0 s.hp recs) b:=by
      refine kv recs 0 _ _ rfl fun k q hk hd=> ?_
      rw [Nat.zero_add]
      exact hagr' k q hk (fun _=>xE hd hb) (fun _=>xE hb hd)
     rw [h5,C6,H6 _ _ _ _ hri]
     exact qj hb
    ·rw [kY hb]
     refine kv recs 0 _ _ rfl fun k q hk hd=> ?_
     rw [Nat.zero_add,hset,if_neg]
     rintro rfl
     rw [hri] at hk;cases hk
     exact hb hd
   refine ih _ m' S' w' _ ⟨by rw [Array.size_setIfInBounds];exact hI.sz,hcl', ?_,hF.congr he' hh'⟩ ?_
   ·rw [hh'];exact hI.fr.trans h2
   ·have:=sn hDi hset (List.range ops.length) List.nodup_range (by simp [hlt])
    simp only [tF] at hm ⊢
    omega
  simp only [wpOp,hopA]
  exact hgoal
theorem HO {ops:List Oper} {recs:List fQ} {s s':RS} {n0 nt:Nat} (hnt:∀ o ∈ ops,∀ d,o.dst=some d→d<nt) (hlen:recs.length=ops.length) (htr:Hb P ap ops 0 n0 s s' recs) (hdl:s'.dfs.length=s.dfs.length)
  (hord:yI n0 (fun j i=>((Region.before ops.toArray).toList.getD j 0).testBit i) recs) (hback:kU ops=true) (hn0:∀ b B,look s.hp b=some B→b<n0) {m0:aN} {S0:aJ} {w0:World} {Q:Exit→Act→World→Prop}
  (hQ:∀ m S w a,Fr (look s.hp) m0 S0 w0 (look (uR s.hp recs)) m S w→FR ap (jn s.env recs) (uR s.hp recs) s.dfs nt m S w a→Q .normal a w):
  ∀ (fuel:Nat) (listed:Array Bool) (m:aN) (S:aJ) (w:World) (a:Act),NX ap ops recs s.env s.hp s.dfs nt m0 S0 w0 listed m S w a→tF ops.length (jA listed)≤fuel→wpAny P .any ops.toArray Q fuel listed a w:=by
 obtain ⟨_,hsem⟩:=htr.sem hdl
 refine AR hnt hlen htr.bound (fun k r hk=> ?_) hord hback hn0 hQ
 obtain ⟨o,h1,h2,h3⟩:=hsem k r hk
 rw [Nat.zero_add] at h1
 exact ⟨o,h1,h2,fun D m S w a hS hv hag hfr _ Q K hA=>h3 _ m S w a hS hv (fun b hb B hB=>by rw [← hag b hb];exact hB) hfr Q K hA⟩
def js (ap:AP) (base:Nat) (keep:List Nat) (hp0:Hp) (m:aN) (S:aJ) (w:World) (nt:Nat) (s':St) (Q:Exit→Act→World→Prop):a_→Prop
 | .panic v=>match (ct v).isEmpty with
  |true=> ∀ s1:St,s'=norm base keep s1→pD ap hp0 m S w nt s1.env s1.hp s1.dfs Q (some v)
  |false=>pD ap hp0 m S w nt s'.env s'.hp s'.dfs Q (some v)
 | .normal=> ∀ s1:St,s'=norm base keep s1→pD ap hp0 m S w nt s1.env s1.hp s1.dfs Q none
 |_=>True
theorem zX (hap:eB P ap) (hmix:P.follows .mixedOrders=true) (hH:fH P ap H) {ops:List Oper} {draw:Bool} {nt base:Nat} {keep:List Nat} (hnt:∀ o ∈ ops,∀ d,o.dst=some d→d<nt) {s:St} {e:a_} {s':St} {c c':Cx} {id:Nat}
  (h:zW ap H base keep ops draw s c= .ok (e,s') c') (hc:c'.Ok):c.Ok∧(s.md= .dead→s'.md= .dead∧(∀ m S w a,FR ap s.env s.hp s.dfs nt m S w a→∀ Q,
   js ap base keep s.hp m S w nt s' Q e→(Code.region id ops.toArray draw).wp P Q a w)):=by
 unfold zW at h
 obtain ⟨⟨s1,p⟩,c1,e1,h⟩:=R.bind_ok h
 dsimp only at h
 have hn0:∀ b B,look s.hp b=some B→b<dU s.hp:=fun b B hb=>kC hb
 cases p with
 | some v=>
  cases draw with
  |true=>cases h
  | false=>
   dsimp only at h
   split at h
   ·rename_i hre
    cases h
    obtain ⟨hc0,hs⟩:=iK hap hH hnt ops 0 _ _ _ _ _ _ e1 hc
    refine ⟨hc0,fun hmd=> ?_⟩
    obtain ⟨h1,h2⟩:=hs hmd (fun t b hb=>by cases hb) rfl hn0
    refine ⟨h1,fun m S w a hF Q hQ=>wp_region ?_⟩
    simp only [js,hre] at hQ
    have:=h2 m S w a hF Q (hQ _ rfl)
    rw [← List.range_eq_range'] at this
    simpa using this
   ·rename_i hre
    cases h
    obtain ⟨hc0,hs⟩:=iK hap hH hnt ops 0 _ _ _ _ _ _ e1 hc
    refine ⟨hc0,fun hmd=> ?_⟩
    obtain ⟨h1,h2⟩:=hs hmd (fun t b hb=>by cases hb) rfl hn0
    refine ⟨h1,fun m S w a hF Q hQ=>wp_region ?_⟩
    simp only [js,hre] at hQ
    have:=h2 m S w a hF Q hQ
    rw [← List.range_eq_range'] at this
    simpa using this
 | none=>
  dsimp only at h
  split at h
  ·rename_i hcond
   cases h
   cases draw with
   |false=>
    obtain ⟨hc0,hs⟩:=iK hap hH hnt ops 0 _ _ _ _ _ _ e1 hc
    refine ⟨hc0,fun hmd=> ?_⟩
    obtain ⟨h1,h2⟩:=hs hmd (fun t b hb=>by cases hb) rfl hn0
    refine ⟨h1,fun m S w a hF Q hQ=>wp_region ?_⟩
    have:=h2 m S w a hF Q (hQ _ rfl)
    rw [← List.range_eq_range'] at this
    simpa using this
   | true=>
    obtain ⟨hc0,hs⟩:=JK hap hH ops 0 _ _ _ _ _ e1 hc
    refine ⟨hc0,fun hmd=> ?_⟩
    obtain ⟨h1,recs,hlen,htr⟩:=hs hmd (fun t b hb=>by cases hb) rfl
    refine ⟨h1,fun m S w a hF Q hQ=>wp_region_any hmix ?_⟩
    simp only [Bool.not_true,Bool.false_or,Bool.and_eq_true] at hcond
    obtain ⟨⟨ho,hback⟩,hdl⟩:=hcond
    have hdl:=ax hdl
    rw [htr.feet,List.append_nil] at ho
    have hst:=hQ _ rfl
    have hdf:=(htr.sem hdl).1
    have hD0:jA (Array.replicate ops.length false)=fun _=>false:=by
     funext k
     simp only [jA,Array.getD_eq_getD_getElem?]
     by_cases hk:k<ops.length<;>simp [hk]
    have hsz:ops.toArray.size=ops.length:=by simp
    rw [hsz]
    refine HO hnt hlen htr hdl (vL ho) hback hn0 (m0:=m) (S0:=S) (w0:=w) (Q:=Q) ?_ ops.length _ m S _ a ⟨by simp, ?_, ?_, ?_⟩ ?_
    ·intro m' S' w' a' h3 h4
     refine hst m' S' w' a' ?_ ?_
     ·rw [htr.hp];exact h3
     ·rw [htr.hp,htr.env,hdf];exact h4
    ·intro k o hk hd
     rw [hD0] at hd;cases hd
    ·rw [hD0,iY recs 0 _ (fun _ _=>rfl)]
     exact ⟨Ge.refl _ _,iC.refl _,rfl,rfl,rfl,Nat.le_refl _,fun _ _ _=>rfl,fun _ B h=> .inr ⟨B,h,rfl⟩,fun _ _ _ h=> .inl h⟩
    ·rw [hD0,iY recs 0 _ (fun _ _=>rfl),nj recs 0 _ (fun _ _=>rfl)]
     exact ⟨⟨hF.srel.inj,fun b B hb=>hF.srel.blk b B hb|>fun ⟨h1,h2,h3⟩=> ⟨h1,h2,h3⟩,hF.srel.sealed,hF.srel.own,hF.srel.glob⟩,hF.env,hF.dfs,hF.size⟩
    ·exact Nat.le_trans (List.length_filter_le _ _) (by simp)
  ·cases h
end
end AM
namespace AM
open Go
def sJ (acc:List Nat) (b:Nat):List Nat:=if jN acc b then acc else acc++ [b]
theorem Fc (acc:List Nat) (b:Nat) (h:acc.Nodup):(sJ acc b).Nodup∧∃ t,sJ acc b=acc++t:=by
 unfold sJ
 split
 ·exact ⟨h,[],by simp⟩
 ·rename_i hb
  refine ⟨?_,[b],rfl⟩
  rw [List.nodup_append]
  refine ⟨h,by simp, ?_⟩
  intro x hx y hy e
  simp at hy
  subst hy;subst e
  exact hb (eF.2 hx)
theorem ju:∀ (l acc:List Nat),acc.Nodup→(l.foldl sJ acc).Nodup∧∃ t,l.foldl sJ acc=acc++t
 | [],acc,h=> ⟨h,[],by simp⟩
 |b::r,acc,h=>by
  simp only [List.foldl_cons]
  obtain ⟨h1,t1,h2⟩:=Fc acc b h
  obtain ⟨h3,t2,h4⟩:=ju r _ h1
  exact ⟨h3,t1++t2,by rw [h4,h2,List.append_assoc]⟩
theorem uf:∀ (l acc:List Nat),l.Nodup→(∀ x ∈ l,x ∉ acc)→l.foldl sJ acc=acc++l
 | [],acc,_,_=>by simp
 | b::r,acc,h,hd=>by
  rw [List.nodup_cons] at h
  have hb:jN acc b=false:=by
   cases hm:jN acc b with
   |false=>rfl
   |true=>exact absurd (eF.1 hm) (hd b (by simp))
  simp only [List.foldl_cons]
  have:sJ acc b=acc++ [b]:=by simp [sJ,hb]
  rw [this,uf r _ h.2]
  ·simp
  ·intro x hx hm
   rcases List.mem_append.1 hm with hm|hm
   ·exact hd x (by simp [hx]) hm
   ·simp at hm;subst hm;exact h.1 hx
theorem FY (l:List Nat):eU l=l.foldl sJ []:=rfl
theorem Dq (n:Nat) (l:List Nat):(eU (List.range n++l)).Nodup∧∃ t,eU (List.range n++l)=List.range n++t:=by
 rw [FY,List.foldl_append,uf (List.range n) [] List.nodup_range (by simp),List.nil_append]
 exact ju l _ List.nodup_range
theorem mb (rd:bL):∀ (n:Nat) (l:List Nat),l.Nodup→(lN rd n l).Nodup∧∃ t,lN rd n l=l++t
 |0,l,h=> ⟨h,[],by simp [lN]⟩
 | n+1,l,h=>by
  simp only [lN]
  split
  ·exact ⟨h,[],by simp⟩
  ·obtain ⟨h1,t1,h2⟩:=ju (l.flatMap fun b=>match rd b with|some B=>(match B.pr with|true=> []|false=>bq B.cells)|none=> []) l h
   obtain ⟨h3,t2,h4⟩:=mb rd n _ h1
   refine ⟨h3,t1++t2, ?_⟩
   exact h4.trans (by rw [h2,List.append_assoc])
theorem x_ {f:Nat→AV}:∀ (keep:List Nat) (t:Nat),look (keep.map fun t=>(t,f t)) t=if t ∈ keep then some (f t) else none
 | [],t=>by simp [look]
 | a::r,t=>by
  simp only [List.map_cons,look,x_ r t]
  cases h:Nat.beq a t with
  |true=>have:=ax h;subst this;simp
  |false=>
   have hne:t ≠ a:=by intro e;subst e;simp at h
   simp [hne]
theorem r_ {rd:bL} {mk:Nat→aL→aL}:∀ (ids:List Nat) (j p:Nat),look ((ids.zipIdx j).filterMap fun (b,p)=>(rd b).map fun B=>(p,mk p B)) p=if j≤p then (ids[p - j]?).bind fun b=>(rd b).map (mk p) else none
 | [],j,p=>by simp [look]
 | a ::r,j,p=>by
  have ih:=r_ (rd:=rd) (mk:=mk) r (j+1) p
  rw [List.zipIdx_cons]
  cases ha:rd a with
  | none=>
   rw [List.filterMap_cons_none (by simp [ha]),ih]
   by_cases hj:j+1≤p
   ·rw [if_pos hj,if_pos (by omega)]
    obtain ⟨d,hd⟩:∃ d,p - j=d+1:=⟨p - j - 1,by omega⟩
    rw [hd,List.getElem?_cons_succ,show p - (j+1)=d by omega]
   ·rw [if_neg hj]
    by_cases hjp:j≤p
    ·rw [if_pos hjp,show p - j=0 by omega];simp [ha]
    ·rw [if_neg hjp]
  | some B=>
   rw [List.filterMap_cons_some (by simp [ha];rfl)]
   simp only [look]
   cases h:Nat.beq j p with
   |true=>have:=ax h;subst this;simp [ha]
   | false=>
    have hne:j ≠ p:=by intro e;subst e;simp at h
    simp only [ih]
    by_cases hj:j+1≤p
    ·rw [if_pos hj,if_pos (by omega)]
     obtain ⟨d,hd⟩:∃ d,p - j=d+1:=⟨p - j - 1,by omega⟩
     rw [hd,List.getElem?_cons_succ,show p - (j+1)=d by omega]
    ·rw [if_neg hj,if_neg (by omega)]
theorem yg:∀ {l:List Nat},l.Nodup→k_ l=true
 | [],_=>rfl
 |b::r,h=>by
  rw [List.nodup_cons] at h
  simp only [k_,Bool.and_eq_true,Bool.not_eq_true']
  refine ⟨?_,yg h.2⟩
  cases hm:jN r b with
  |false=>rfl
  |true=>exact absurd (eF.1 hm) h.1
section
variable {P:Program} {ap:AP} {H:bA}
theorem Ak {g g':bL} {m m':aN} {S S':aJ} {ρ:Nat→Nat→Option (Nat × Nat)} (hS:iC S S') (h:lH g m g' m' ρ):∀ {l:List (Nat × List AV)} {ds:List Deferred},dQ g m S l ds→dQ g' m' S' (l.map fun d=>(d.1,ic ρ d.2)) ds
 | [],[],_=>by simp [dQ]
 |d::r,cd::cr,p=>by
  simp only [dQ] at p
  obtain ⟨⟨cap,h1,h2⟩,h3⟩:=p
  simp only [List.map_cons,dQ]
  exact ⟨⟨cap,h1,gm hS h _ h2⟩,Ak hS h h3⟩
 | [],_::_,p=>by simp [dQ] at p
 |_::_,[],p=>by simp [dQ] at p
theorem gI {h0:List aL} {keep:List Nat} {s:St} {nt:Nat} {m m0:aN} {S S0:aJ} {w w0:World} {a:Act} (hfr:Fr (aS h0) m0 S0 w0 (look s.hp) m S w) (hF:FR ap s.env s.hp s.dfs nt m S w a):
  ∃ m',Fr (aS h0) m0 S0 w0 (look (norm h0.length keep s).hp) m' S w∧FR ap (norm h0.length keep s).env (norm h0.length keep s).hp (norm h0.length keep s).dfs nt m' S w a:=by
 obtain ⟨_,t0,ht0⟩:=mb (look s.hp) 20 (List.range h0.length) List.nodup_range
 generalize hroots:t0++(uD keep s.env++s.dfs.flatMap (fun d=>bq d.2))=roots
 have hroots':lN (look s.hp) 20 (List.range h0.length)++uD keep s.env++s.dfs.flatMap (fun d=>bq d.2)=List.range h0.length++roots:=by rw [← hroots,ht0];simp only [List.append_assoc]
 obtain ⟨hn1,t1,ht1⟩:=Dq h0.length roots
 obtain ⟨hn2,t2,ht2⟩:=mb (look s.hp) 20 _ hn1
 rw [ht1,List.append_assoc] at ht2
 have hsome:∀ b,b<h0.length→∃ B0 B,aS h0 b=some B0∧look s.hp b=some B∧B.esz=B0.esz∧((B.ver=B0.ver∧m b=m0 b)∨B0.ver<B.ver):=by
  intro b hb
  obtain ⟨B,h1,h2⟩:=hfr.ge b h0[b] (by simp [aS,hb])
  exact ⟨h0[b],B,by simp [aS,hb],h1,h2⟩
 generalize hids:(lN (look s.hp) 20 (eU (List.range h0.length++roots))).filter (fun b=>(look s.hp b).isSome)=ids
 have hnd:ids.Nodup:=by rw [← hids];exact hn2.filter _
 have hndT:=yg hnd
 have hpre:∃ t,ids=List.range h0.length++t:=by
  rw [← hids,ht1,ht2,List.filter_append]
  refine ⟨_,congrArg (· ++_) ?_⟩
  rw [List.filter_eq_self]
  intro b hb
  obtain ⟨_,B,_,h2,_⟩:=hsome b (by simpa using hb)
  simp [h2]
 obtain ⟨t,hpre⟩:=hpre
 have hlow:∀ b,b<h0.length→ids[b]? =some b:=by
  intro b hb
  rw [hpre,List.getElem?_append_left (by simpa using hb)]
  simp [hb]
 have hget:∀ (p b:Nat),ids[p]? =some b→∃ B,look s.hp b=some B:=by
  intro p b hp
  have:=List.mem_of_getElem? hp
  rw [← hids,List.mem_filter] at this
  exact Option.isSome_iff_exists.1 this.2
 let ρ:Nat→Nat→Option (Nat × Nat):=fun b v=>match look s.hp b with
  |some B=>match Nat.beq B.ver v with
   |true=>(jK ids b).map fun p=>(p,match Nat.blt p h0.length with|true=>v|false=>0)
   |false=>none
  |none=>none
 let mk:Nat→aL→aL:=fun p B=> {B with cells:=(match B.pr with|true=>B.cells|false=>ic ρ B.cells),ver:=match Nat.blt p h0.length with|true=>B.ver|false=>0}
 have hnorm:norm h0.length keep s=⟨keep.map fun t=>(t,ren ρ (s.env.get t)),ids.zipIdx.filterMap fun (b,p)=>(look s.hp b).map fun B=>(p,mk p B),s.md,s.dfs.map fun d=>(d.1,ic ρ d.2)⟩:=by
  unfold norm
  simp only [hroots',hids]
  rfl
 rw [hnorm]
 dsimp only
 have hg2:∀ p,look (ids.zipIdx.filterMap fun (b,p)=>(look s.hp b).map fun B=>(p,mk p B)) p=(ids[p]?).bind fun b=>(look s.hp b).map (mk p):=by
  intro p
  rw [r_ (rd:=look s.hp) (mk:=mk) ids 0 p,if_pos (Nat.zero_le _),Nat.sub_zero]
 generalize (ids.zipIdx.filterMap fun (b,p)=>(look s.hp b).map fun B=>(p,mk p B))=hp2 at hg2
 have hg2':∀ (p:Nat) (B2:aL),look hp2 p=some B2→∃ b B,ids[p]? =some b∧look s.hp b=some B∧B2=mk p B:=by
  intro p B2 h
  rw [hg2] at h
  cases hp:ids[p]? with
  |none=>rw [hp] at h;cases h
  |some b=>
   rw [hp] at h
   obtain ⟨B,hB⟩:=hget p b hp
   simp only [Option.bind_some,hB,Option.map_some,Option.some.injEq] at h
   exact ⟨b,B,rfl,hB,h.symm⟩
 let m2:aN:=fun p=>m (ids.getD p 0)
 have hm2:∀ (p b:Nat),ids[p]? =some b→m2 p=m b:=by
  intro p b hp
  show m (ids.getD p 0)=_
  rw [List.getD_eq_getElem?_getD,hp];rfl
 have hren:lH (look s.hp) m (look hp2) m2 ρ:=by
  intro b ver p ver' h B hB hver
  simp only [ρ,hB] at h
  split at h
  ·rename_i hv
   have hv:=ax hv
   simp only [Option.map_eq_some_iff,Prod.mk.injEq] at h
   obtain ⟨q,hq,rfl,rfl⟩:=h
   have hq:=kw hq
   refine ⟨mk q B, ?_, ?_,fun _=> ⟨hv,hm2 q b hq,rfl⟩⟩
   ·rw [hg2,hq];simp [hB]
   ·simp only [mk]
    split
    ·omega
    ·exact Nat.le_refl _
  ·cases h
 have hinj:∀ (p q b:Nat),ids[p]? =some b→ids[q]? =some b→p=q:=by
  intro p q b hp hq
  have e1:=jD hndT hp
  rw [jD hndT hq] at e1
  cases e1;rfl
 refine ⟨m2, ?_, ?_, ?_, ?_,hF.size⟩
 ·refine ⟨?_,hfr.sle,hfr.os,hfr.tape,hfr.output,hfr.size,hfr.rest, ?_,hfr.sealN⟩
  ·intro b B0 hb
   have hlt:b<h0.length:=(List.getElem?_eq_some_iff.1 hb).1
   obtain ⟨B0',B,h1,h2,h3,h4⟩:=hsome b hlt
   rw [hb] at h1;cases h1
   have hbl:Nat.blt b h0.length=true:=Nat.ble_eq_true_of_le hlt
   refine ⟨mk b B,by rw [hg2,hlow b hlt];simp [h2],h3, ?_⟩
   simp only [mk,hbl]
   rw [hm2 b b (hlow b hlt)]
   exact h4
  ·intro p B2 hp
   obtain ⟨b,B,h1,h2,rfl⟩:=hg2' p B2 hp
   rw [hm2 p b h1]
   rcases hfr.img b B h2 with h|⟨B0,h3,h4⟩
   ·exact .inl h
   ·have hlt:b<h0.length:=(List.getElem?_eq_some_iff.1 h3).1
    have:=hinj p b b h1 (hlow b hlt)
    subst this
    exact .inr ⟨B0,h3,h4⟩
 ·refine ⟨?_, ?_,hF.srel.sealed, ?_,hF.srel.glob⟩
  ·intro p q B2 B2' hp hq e
   obtain ⟨b,B,h1,h2,rfl⟩:=hg2' p B2 hp
   obtain ⟨b',B',h1',h2',rfl⟩:=hg2' q B2' hq
   rw [hm2 p b h1,hm2 q b' h1'] at e
   have:=hF.srel.inj b b' B B' h2 h2' e
   subst this
   exact hinj p q b h1 h1'
  ·intro p B2 hp
   obtain ⟨b,B,h1,h2,rfl⟩:=hg2' p B2 hp
   rw [hm2 p b h1]
   obtain ⟨⟨cur,e,vs,rest,k1,k2,k3,k4,k5,k6⟩,k7,k8⟩:=hF.srel.blk b B h2
   cases hpr:B.pr with
   |true=>exact ⟨⟨cur,e,vs,rest,k1,k2,fun _=>by simpa [mk,hpr] using k3 hpr,by simpa [mk,hpr] using bh _ (k3 hpr),k5,k6⟩,k7,by simpa [mk,hpr] using k8⟩
   | false=>
    have hv:=gm (iC.refl S) hren _ k4
    exact ⟨⟨cur,e,vs,rest,k1,k2,fun h=>by simp [mk,hpr] at h,by simpa [mk,hpr] using hv,k5,k6⟩,k7,by
     have:(mk p B).cells.length=B.cells.length:=by simp only [mk,hpr];rw [bw k4,bw hv]
     rw [this];exact k8⟩
  ·intro p B2 hp o v ho
   obtain ⟨b,B,h1,h2,rfl⟩:=hg2' p B2 hp
   rw [hm2 p b h1] at ho
   exact hF.srel.own b B h2 o v ho
 ·intro t
  simp only [dY.get,x_]
  by_cases ht:t ∈ keep
  ·rw [if_pos ht]
   exact qK (iC.refl S) hren _ (hF.env t)
  ·rw [if_neg ht]
   simp [VR]
 ·exact Ak (iC.refl S) hren hF.dfs
end
end AM
namespace AM
open Go
mutual
theorem pE {g g':bL} {m m':aN} {S S':aJ} (hS:iC S S'):∀ (x:AV) {v:Value},(∀ b ∈ ct x,g' b=g b∧m' b=m b)→VR g m S x v→VR g' m' S' x v
 | .int _ _,_,_,p=>by simpa only [VR,PR] using p
 | .bool _,_,_,p=>by simpa only [VR,PR] using p
 | .str _,_,_,p=>by simpa only [VR,PR] using p
 | .nilS,_,_,p=>by simpa only [VR,PR] using p
 | .nilP,_,_,p=>by simpa only [VR,PR] using p
 | .nilF,_,_,p=>by simpa only [VR,PR] using p
 | .nilI,_,_,p=>by simpa only [VR,PR] using p
 | .sl _ _ _,_,_,p=>by simp only [VR] at p ⊢;exact bF hS _ p
 | .pp _ _,_,_,p=>by simp only [VR] at p ⊢;exact bF hS _ p
 | .mp _ _,_,_,p=>by simp only [VR] at p ⊢;exact bF hS _ p
 | .dead,_,_,_=>by simp only [VR]
 | .own _ _ _,_,_,p=>by simp only [VR] at p
 | .ref b _ _ _,_,h,p=>by
  obtain ⟨h1,h2⟩:=h b (by simp [ct])
  simp only [VR] at p ⊢
  rw [h1,h2];exact p
 | .ptr b _ _,_,h,p=>by
  obtain ⟨h1,h2⟩:=h b (by simp [ct])
  simp only [VR] at p ⊢
  rw [h1,h2];exact p
 | .mr b _,_,h,p=>by
  obtain ⟨h1,h2⟩:=h b (by simp [ct])
  simp only [VR] at p ⊢
  rw [h1,h2];exact p
 | .agg l,_,h,p=>by
  simp only [VR] at p ⊢
  obtain ⟨vs,e,q⟩:=p
  exact ⟨vs,e,iG hS l (fun b hb=>h b (by simpa [ct] using hb)) q⟩
 | .tup l,_,h,p=>by
  simp only [VR] at p ⊢
  obtain ⟨vs,e,q⟩:=p
  exact ⟨vs,e,iG hS l (fun b hb=>h b (by simpa [ct] using hb)) q⟩
 | .fn f a c,_,h,p=>by
  simp only [VR] at p ⊢
  obtain ⟨va,vc,e,q,r⟩:=p
  exact ⟨va,vc,e,iG hS a (fun b hb=>h b (by simp [ct,hb])) q,iG hS c (fun b hb=>h b (by simp [ct,hb])) r⟩
 | .ifc t x,_,h,p=>by
  simp only [VR] at p ⊢
  obtain ⟨u,e,q⟩:=p
  exact ⟨u,e,pE hS x (fun b hb=>h b (by simpa [ct] using hb)) q⟩
theorem iG {g g':bL} {m m':aN} {S S':aJ} (hS:iC S S'):∀ (l:List AV) {vs:List Value},(∀ b ∈ bq l,g' b=g b∧m' b=m b)→aQ g m S l vs→aQ g' m' S' l vs
 | [],[],_,_=>by simp only [aQ]
 |x::r,v::vs,h,p=>by
  simp only [aQ] at p ⊢
  exact ⟨pE hS x (fun b hb=>h b (by simp [bq,hb])) p.1,iG hS r (fun b hb=>h b (by simp [bq,hb])) p.2⟩
 | [],_::_,_,p=>by simp [aQ] at p
 |_::_,[],_,p=>by simp [aQ] at p
end
theorem iB {g:bL} {m:aN} {S:aJ} {x:AV} {v:Value} (h:(ct x).isEmpty=true) (hv:VR g m S x v):PR S x v:=by
 have he:ct x= []:=by simpa using h
 exact iQ (m:=m) x (pE (iC.refl S) x (fun b hb=>by rw [he] at hb;cases hb) hv)
def xK (nt:Nat) (o:Oper):Bool:=match o.dst with|some d=>Nat.blt d nt|none=>true
def bR (nt:Nat):Code→Bool
 | .region _ ops _=>ops.toList.all (xK nt)
 | .seq a b=>bR nt a && bR nt b
 | .cond _ a b=>bR nt a && bR nt b
 | .block _ b=>bR nt b
 | .loop b=>bR nt b
 | .scope b=>bR nt b
 |_=>true
section
variable {P:Program} {ap:AP} {H:bA}
def G9 (hp:Hp) (m:aN) (S:aJ) (Q:Exit→Act→World→Prop) (a:Act) (w:World):a_→Prop
 | .normal=>Q .normal a w
 | .exit id=>Q (.exit id) a w
 | .ret=>Q .ret a w
 | .panic v=> ∀ cv,VR (look hp) m S v cv→Q (.panic [{v:=cv,recovered:=false}]) a w
def XA (ap:AP) (h0:List aL) (m0:aN) (S0:aJ) (w0:World) (nt:Nat) (s':St) (e:a_) (Q:Exit→Act→World→Prop):Prop:=
 ∀ m' S' w' a',Fr (aS h0) m0 S0 w0 (look s'.hp) m' S' w'→FR ap s'.env s'.hp s'.dfs nt m' S' w' a'→G9 s'.hp m' S' Q a' w' e
def ah (P:Program) (ap:AP) (h0:List aL) (nt:Nat) (code:Code) (s:St) (e:a_) (s':St):Prop:=
 s.md= .dead→s'.md= .dead∧∀ m0 S0 w0 m S w a,Fr (aS h0) m0 S0 w0 (look s.hp) m S w→FR ap s.env s.hp s.dfs nt m S w a→∀ Q,XA ap h0 m0 S0 w0 nt s' e Q→code.wp P Q a w
theorem ah.still {h0:List aL} {nt:Nat} {code:Code} {s:St} {e:a_} (h:∀ (Q:Exit→Act→World→Prop) hp m S a w,G9 hp m S Q a w e→code.wp P Q a w):ah P ap h0 nt code s e s:=
 fun hmd=> ⟨hmd,fun _ _ _ m S w a hf hF Q hQ=>h Q s.hp m S a w (hQ m S w a hf hF)⟩
theorem uU {h0:List aL} {nt:Nat} {b:Code} {f:St→Cx→R (a_ × St)} (hf:∀ s e s' c c',f s c= .ok (e,s') c'→c'.Ok→c.Ok∧ah P ap h0 nt b s e s'):
  ∀ (n:Nat) (s:St) (e:a_) (s':St) (c c':Cx),Eo f n s c= .ok (e,s') c'→c'.Ok→c.Ok∧(s.md= .dead→s'.md= .dead∧∀ m0 S0 w0 m S w a,Fr (aS h0) m0 S0 w0 (look s.hp) m S w→FR ap s.env s.hp s.dfs nt m S w a→∀ Q,XA ap h0 m0 S0 w0 nt s' e Q→Code.rounds P b Q n a w)
 |0,s,e,s',c,c',h,hc=>by cases h
 | n+1,s,e,s',c,c',h,hc=>by
  simp only [Eo] at h
  obtain ⟨⟨e1,s1⟩,c1,h1,h⟩:=R.bind_ok h
  dsimp only at h
  have hother:e1 ≠ .normal→R.ok (e1,s1) c1=R.ok (e,s') c'→c.Ok∧(s.md= .dead→s'.md= .dead∧∀ m0 S0 w0 m S w a,Fr (aS h0) m0 S0 w0 (look s.hp) m S w→FR ap s.env s.hp s.dfs nt m S w a→∀ Q,XA ap h0 m0 S0 w0 nt s' e Q→Code.rounds P b Q (n+1) a w):=by
   intro hne he
   cases he
   obtain ⟨hc0,hx⟩:=hf _ _ _ _ _ h1 hc
   refine ⟨hc0,fun hmd=> ?_⟩
   obtain ⟨h3,h4⟩:=hx hmd
   refine ⟨h3,fun m0 S0 w0 m S w a hfr hF Q hQ=>h4 m0 S0 w0 m S w a hfr hF _ ?_⟩
   intro m' S' w' a' h5 h6
   have:=hQ m' S' w' a' h5 h6
   cases e with
   |normal=>exact absurd rfl hne
   |exit id=>exact this
   |ret=>exact this
   |panic v=>exact this
  cases e1 with
  |normal=>
   dsimp only at h
   obtain ⟨hc1,ih⟩:=uU hf n s1 e s' c1 c' h hc
   obtain ⟨hc0,hx⟩:=hf _ _ _ _ _ h1 hc1
   refine ⟨hc0,fun hmd=> ?_⟩
   obtain ⟨h3,h4⟩:=hx hmd
   obtain ⟨h5,h6⟩:=ih h3
   refine ⟨h5,fun m0 S0 w0 m S w a hfr hF Q hQ=>h4 m0 S0 w0 m S w a hfr hF _ ?_⟩
   intro m' S' w' a' h7 h8
   exact h6 m0 S0 w0 m' S' w' a' h7 h8 Q hQ
  |exit id=>exact hother (by simp) h
  |ret=>exact hother (by simp) h
  |panic v=>exact hother (by simp) h
theorem cP (hap:eB P ap) (hmix:P.follows .mixedOrders=true) (hH:fH P ap H) {h0:List aL} {keep:List Nat} {lf nt:Nat}:∀ (code:Code),bR nt code=true→∀ (s:St) (e:a_) (s':St) (c c':Cx),gC ap H h0.length keep lf code s c= .ok (e,s') c'→c'.Ok→c.Ok∧ah P ap h0 nt code s e s'
 | .skip,_,s,e,s',c,c',h,hc=>by
  cases h
  exact ⟨hc,ah.still fun Q hp m S a w hq=>wp_skip hq⟩
 | .label l,_,s,e,s',c,c',h,hc=>by
  cases h
  exact ⟨hc,ah.still fun Q hp m S a w hq=>wp_label hq⟩
 | .exit id,_,s,e,s',c,c',h,hc=>by
  cases h
  exact ⟨hc,ah.still fun Q hp m S a w hq=>wp_exit hq⟩
 | .ret,_,s,e,s',c,c',h,hc=>by
  cases h
  exact ⟨hc,ah.still fun Q hp m S a w hq=>wp_ret hq⟩
 | .region id ops draw,hd,s,e,s',c,c',h,hc=>by
  have hnt:∀ o ∈ ops.toList,∀ d,o.dst=some d→d<nt:=by
   intro o ho d hod
   have:=List.all_eq_true.1 hd o ho
   simp only [xK,hod] at this
   exact cZ this
  obtain ⟨hc0,hr⟩:=zX hap hmix hH hnt (id:=id) h hc
  refine ⟨hc0,fun hmd=> ?_⟩
  obtain ⟨h1,h2⟩:=hr hmd
  refine ⟨h1,fun m0 S0 w0 m S w a hfr hF Q hQ=> ?_⟩
  have:=h2 m S w a hF Q
  rw [Array.toArray_toList] at this
  refine this ?_
  cases e with
  |normal=>
   intro s1 hs1 m' S' w' a' h3 h4
   obtain ⟨m2,h5,h6⟩:=gI (keep:=keep) (hfr.trans h3) h4
   rw [← hs1] at h5 h6
   exact hQ m2 S' w' a' h5 h6
  | panic v=>
   simp only [js]
   split
   ·rename_i hre
    intro s1 hs1 m' S' w' a' cv h3 h4 h5
    obtain ⟨m2,h6,h7⟩:=gI (keep:=keep) (hfr.trans h3) h4
    rw [← hs1] at h6 h7
    exact hQ m2 S' w' a' h6 h7 cv (d_ _ (iB hre h5))
   ·intro m' S' w' a' cv h3 h4 h5
    exact hQ m' S' w' a' (hfr.trans h3) h4 cv h5
  |exit id=>trivial
  |ret=>trivial
 | .seq x y,hd,s,e,s',c,c',h,hc=>by
  simp only [bR,Bool.and_eq_true] at hd
  simp only [gC] at h
  obtain ⟨⟨e1,s1⟩,c1,h1,h⟩:=R.bind_ok h
  dsimp only at h
  have hother:e1 ≠ .normal→R.ok (e1,s1) c1=R.ok (e,s') c'→c.Ok∧ah P ap h0 nt (.seq x y) s e s':=by
   intro hne he
   cases he
   obtain ⟨hc0,hx⟩:=cP hap hmix hH x hd.1 _ _ _ _ _ h1 hc
   refine ⟨hc0,fun hmd=> ?_⟩
   obtain ⟨h3,h4⟩:=hx hmd
   refine ⟨h3,fun m0 S0 w0 m S w a hfr hF Q hQ=>wp_seq (h4 m0 S0 w0 m S w a hfr hF _ ?_)⟩
   intro m' S' w' a' h5 h6
   have:=hQ m' S' w' a' h5 h6
   cases e with
   |normal=>exact absurd rfl hne
   |exit id=>exact this
   |ret=>exact this
   |panic v=>exact this
  cases e1 with
  |normal=>
   dsimp only at h
   obtain ⟨hc1,ih⟩:=cP hap hmix hH y hd.2 _ _ _ _ _ h hc
   obtain ⟨hc0,hx⟩:=cP hap hmix hH x hd.1 _ _ _ _ _ h1 hc1
   refine ⟨hc0,fun hmd=> ?_⟩
   obtain ⟨h3,h4⟩:=hx hmd
   obtain ⟨h5,h6⟩:=ih h3
   refine ⟨h5,fun m0 S0 w0 m S w a hfr hF Q hQ=>wp_seq (h4 m0 S0 w0 m S w a hfr hF _ ?_)⟩
   intro m' S' w' a' h7 h8
   exact h6 m0 S0 w0 m' S' w' a' h7 h8 Q hQ
  |exit id=>exact hother (by simp) h
  |ret=>exact hother (by simp) h
  |panic v=>exact hother (by simp) h
 | .cond t x y,hd,s,e,s',c,c',h,hc=>by
  simp only [bR,Bool.and_eq_true] at hd
  simp only [gC] at h
  split at h
  ·rename_i bv hbv
   obtain ⟨b',c1,h1,h⟩:=R.bind_ok h
   have key:∀ (z:Code),(c1.Ok→c1.Ok∧z=if bv then x else y)→c1.Ok∧ah P ap h0 nt z s e s'→c.Ok∧ah P ap h0 nt (.cond t x y) s e s':=by
    rintro z hzz ⟨hc1,ih⟩
    obtain ⟨hc0,hb⟩:=gG h1 hc1
    refine ⟨hc0,fun hmd=> ?_⟩
    obtain ⟨h5,h6⟩:=ih hmd
    refine ⟨h5,fun m0 S0 w0 m S w a hfr hF Q hQ=>wp_cond (t:=bv) ?_ ?_⟩
    ·have:=oJ hF.srel (a:=a) (env:=s.env) t (fun t _=>hF.env t)
     rw [hbv] at this
     simpa only [VR,PR] using this
    ·rw [← (hzz hc1).2]
     exact h6 m0 S0 w0 m S w a hfr hF Q hQ
   cases b' with
   |true=>exact key x (fun hk=> ⟨hk,by rw [← (gG h1 hk).2];rfl⟩) (cP hap hmix hH x hd.1 _ _ _ _ _ h hc)
   |false=>exact key y (fun hk=> ⟨hk,by rw [← (gG h1 hk).2];rfl⟩) (cP hap hmix hH y hd.2 _ _ _ _ _ h hc)
  ·cases h
 | .block id b,hd,s,e,s',c,c',h,hc=>by
  simp only [bR] at hd
  simp only [gC] at h
  obtain ⟨⟨e1,s1⟩,c1,h1,h⟩:=R.bind_ok h
  dsimp only at h
  have hcc:c1=c':=by
   cases e1<;>dsimp only at h
   ·cases h;rfl
   ·split at h<;>cases h<;>rfl
   ·cases h;rfl
   ·cases h;rfl
  subst hcc
  obtain ⟨hc0,hx⟩:=cP hap hmix hH b hd _ _ _ _ _ h1 hc
  refine ⟨hc0,fun hmd=> ?_⟩
  obtain ⟨h3,h4⟩:=hx hmd
  have hs:s1=s':=by
   cases e1<;>dsimp only at h
   ·cases h;rfl
   ·split at h<;>cases h<;>rfl
   ·cases h;rfl
   ·cases h;rfl
  subst hs
  refine ⟨h3,fun m0 S0 w0 m S w a hfr hF Q hQ=>wp_block (h4 m0 S0 w0 m S w a hfr hF _ ?_)⟩
  intro m' S' w' a' h5 h6
  have hq:=hQ m' S' w' a' h5 h6
  cases e1 with
  |normal=>cases h;exact hq
  |ret=>cases h;exact hq
  |panic v=>cases h;exact hq
  | exit id'=>
   dsimp only at h
   split at h
   ·rename_i he
    cases h
    show Exit.inBlock id Q (.exit id') a' w'
    simp only [Exit.inBlock,if_pos (ax he)]
    exact hq
   ·rename_i he
    cases h
    show Exit.inBlock id Q (.exit id') a' w'
    have hne:id' ≠ id:=by intro e;subst e;simp at he
    simp only [Exit.inBlock,if_neg hne]
    exact hq
 | .loop b,hd,s,e,s',c,c',h,hc=>by
  simp only [bR] at hd
  simp only [gC] at h
  obtain ⟨hc0,hx⟩:=uU (fun s e s' c c' h hc=>cP hap hmix hH b hd s e s' c c' h hc) lf s e s' c c' h hc
  refine ⟨hc0,fun hmd=> ?_⟩
  obtain ⟨h3,h4⟩:=hx hmd
  exact ⟨h3,fun m0 S0 w0 m S w a hfr hF Q hQ=>wp_loop_rounds lf (h4 m0 S0 w0 m S w a hfr hF Q hQ)⟩
 | .scope b,hd,s,e,s',c,c',h,hc=>by
  simp only [bR] at hd
  simp only [gC] at h
  obtain ⟨hc0,hx⟩:=cP hap hmix hH b hd _ _ _ _ _ h hc
  refine ⟨hc0,fun hmd=> ?_⟩
  obtain ⟨h3,h4⟩:=hx hmd
  refine ⟨h3,fun m0 S0 w0 m S w a hfr hF Q hQ=>wp_scope_straight (h4 m0 S0 w0 m S w a hfr hF _ ?_)⟩
  intro m' S' w' a' h5 h6
  have hq:=hQ m' S' w' a' h5 h6
  cases e with
  |normal=>exact hq
  |exit id=>exact hq
  |ret=>exact hq
  |panic v=>exact hq
 | .rangeFunc _ _ _ _,_,s,e,s',c,c',h,hc=>by cases h
 | .goto _,_,s,e,s',c,c',h,hc=>by cases h
 | .refuse _,_,s,e,s',c,c',h,hc=>by cases h
end
end AM
