/- The abstract machine over the code of the model, and the proof that it is sound. No conditions. -/
import Derived.Test.YtcjindbblhcopaaGreatDoorM2
import Derived.Orders
import Derived.LoopN
import Derived.Scope
set_option linter.unusedSimpArgs false
set_option linter.unusedVariables false
namespace AM
open Go
def bI (h:List bi):dR:=fun b=>h[b]?
def jO (gh gf:dR) (m:bf) (S:aW):Nat→List AV→List Value→Prop
 |_,[],[]=>True
 |n,.own _ k _::r,v::vs=>VR gf m S (.ref n 0 0 k) v∧jO gh gf m S (n+1) r vs
 |n,x::r,v::vs=>VR gh m S x v∧jO gh gf m S n r vs
 |_,_,_=>False
def xk (gh gf:dR) (m:bf) (S:aW) (n:Nat):AV→Value→Prop
 | .tup l,v=> ∃ vs,v= .tuple vs.toArray∧jO gh gf m S n l vs
 | .own _ k _,v=>VR gf m S (.ref n 0 0 k) v
 |x,v=>VR gh m S x v
def kT (n:Nat):kM→List bi
 | .ret v=>(jZ n v).2
 | .pan _=> []
def aar (h':List bi) (m':bf) (S':aW):kM→Ending→Prop
 | .ret v,e=> ∃ cv,e= .returned cv∧xk (bI h') (bI (h'++(jZ h'.length v).2)) m' S' h'.length v cv
 | .pan v,e=> ∃ cv,e= .panicked [{v:=cv,recovered:=false}]∧VR (bI h') m' S' v cv
structure E8 (ap:AP) (h:List bi) (m:bf) (S:aW) (w:World) (out:kM) (h':List bi) (m':bf) (S':aW) (w':World) (e:Ending):Prop where
 srel:bY ap (bI (h'++kT h'.length out)) m' S' w'
 fr:Fr (bI h) m S w (bI (h'++kT h'.length out)) m' S' w'
 out:aar h' m' S' out e
def yI (P:Program) (f:Nat):Prop:=∀ args w,(callFunc f args).run P w= .ok (.enter f args) w
structure au (P:Program) (ap:AP) (f:Nat) (args:List AV) (h:List bi) (out:kM) (h':List bi):Prop where
 len:h.length≤h'.length
 ent:yI P f
 calls:∀ m S w cargs,bY ap (bI h) m S w→bF (bI h) m S args cargs→Calls P f cargs.toArray w fun e w'=> ∃ m' S',E8 ap h m S w out h' m' S' w' e
def jX (P:Program) (ap:AP) (H:di):Prop:=∀ c f args h out h' md' c',H c .dead f args h= .ok (out,h',md') c'→c'.Ok→c.Ok∧au P ap f args h out h'
section
variable {P:Program} {ap:AP} {g:dR} {m:bf} {S:aW} {w:World}
mutual
theorem mY {m:bf} {S:aW}:∀ (x:AV) {v:Value},VR (bI []) m S x v→PR S x v
 | .int _ _,_,p=>by simpa only [VR] using p
 | .bool _,_,p=>by simpa only [VR] using p
 | .str _,_,p=>by simpa only [VR] using p
 | .nilS,_,p=>by simpa only [VR] using p
 | .nilP,_,p=>by simpa only [VR] using p
 | .nilF,_,p=>by simpa only [VR] using p
 | .nilI,_,p=>by simpa only [VR] using p
 | .sl _ _ _,_,p=>by simpa only [VR] using p
 | .pp _ _,_,p=>by simpa only [VR] using p
 | .mp _ _,_,p=>by simpa only [VR] using p
 | .dead,_,_=>by simp only [PR]
 | .own _ _ _,_,p=>by simp only [VR] at p
 | .ref _ _ _ _,_,p=>by simp [VR,bI] at p
 | .ptr _ _ _,_,p=>by simp [VR,bI] at p
 | .mr _ _,_,p=>by simp [VR,bI] at p
 | .agg l,_,p=>by
  simp only [VR] at p;simp only [PR]
  obtain ⟨vs,e,q⟩:=p
  exact ⟨vs,e,kw l q⟩
 | .tup l,_,p=>by
  simp only [VR] at p;simp only [PR]
  obtain ⟨vs,e,q⟩:=p
  exact ⟨vs,e,kw l q⟩
 | .fn f a c,_,p=>by
  simp only [VR] at p;simp only [PR]
  obtain ⟨b,d,e,q,r⟩:=p
  exact ⟨b,d,e,kw a q,kw c r⟩
 | .ifc t x,_,p=>by
  simp only [VR] at p;simp only [PR]
  obtain ⟨u,e,q⟩:=p
  exact ⟨u,e,mY x q⟩
theorem kw {m:bf} {S:aW}:∀ (l:List AV) {vs:List Value},bF (bI []) m S l vs→dK S l vs
 | [],[],_=>by simp only [dK]
 |x::r,v::vs,p=>by simp only [bF] at p;simp only [dK];exact ⟨mY x p.1,kw r p.2⟩
 | [],_::_,p=>by simp [bF] at p
 |_::_,[],p=>by simp [bF] at p
end
theorem ZX (z:bY ap g m S w) {N l:dR} {U s:bf} {Sp S':aW} {w':World} (I:bY ap l s S' w') (t:Fr N U Sp w l s S' w') (ι:Nat→Nat)
  (hdom:∀ i Bc,N i=some Bc→∃ B,g (ι i)=some B∧U i=m (ι i))
  (hSp:mi S Sp) (hSpN:∀ k o v,Sp k o=some v→S k o=some v∨∃ b B,g b=some B∧(m b).1=k) {gN:dR} {mN:bf} (ρ:Nat→Nat→Option (Nat × Nat)) (hρ:r_ l s gN mN ρ)
  (hnew:∀ i Bc,l i=some Bc→∃ B,gN (ι i)=some B∧mN (ι i)=s i∧B.esz=Bc.esz∧B.fro=Bc.fro∧B.fz=Bc.fz∧B.pr=Bc.pr∧(Bc.pr=true→B.cells=Bc.cells)∧(Bc.pr=false→B.cells=lU ρ Bc.cells))
  (c:∀ b B,gN b=some B→(∃ i Bc,l i=some Bc∧b=ι i)∨(∃ B0,g b=some B0∧mN b=m b∧B.cells=B0.cells∧B.pr=B0.pr∧B.esz=B0.esz∧(B.fro=false→B.fz=0)∧B.fz≤B.cells.length∧(∀ i Bc,N i=some Bc→b ≠ ι i)∧(∀ o v,Sp (m b).1 o=some v→B.fro=true∧o<B.fz)))
  (hge:Ge g m gN mN):bY ap gN mN S' w'∧Fr g m S w gN mN S' w':=by
 have r:mi S S':=hSp.trans t.sle
 have hcross:∀ b B0 i Bc,g b=some B0→l i=some Bc→(∀ i Bc,N i=some Bc→b ≠ ι i)→(m b).1 ≠ (s i).1:=by
  intro b B0 i Bc n a p e
  have hlt:=z.lt n
  rcases t.img i Bc a with d|⟨B1,d,u⟩
  ·omega
  ·obtain ⟨B2,A,F⟩:=hdom i B1 d
   rw [F] at u
   exact p i B1 d (z.inj b (ι i) B0 B2 n A (e.trans u))
 constructor
 ·refine ⟨?_, ?_,I.sealed, ?_,I.glob⟩
  ·intro b W B B' n V e
   rcases c b B n with ⟨i,Bi,a,rfl⟩|⟨B0,h0,d,_,_,_,_,_,u,_⟩<;>rcases c W B' V with ⟨j,Bj,Q,rfl⟩|⟨B0',M,L,_,_,_,_,_,T,_⟩
   ·obtain ⟨_,_,x,_⟩:=hnew i Bi a
    obtain ⟨_,_,q,_⟩:=hnew j Bj Q
    rw [x,q] at e
    rw [I.inj i j Bi Bj a Q e]
   ·obtain ⟨_,_,x,_⟩:=hnew i Bi a
    rw [x,L] at e
    exact absurd e.symm (hcross W B0' i Bi M a T)
   ·obtain ⟨_,_,q,_⟩:=hnew j Bj Q
    rw [q,d] at e
    exact absurd e (hcross b B0 j Bj h0 Q u)
   ·rw [d,L] at e
    exact z.inj b W B0 B0' h0 M e
  ·intro b B n
   rcases c b B n with ⟨i,Bi,a,rfl⟩|⟨B0,h0,d,A,F,R,Z,h7,u,_⟩
   ·obtain ⟨B1,E,x,q,O,G,Y,e6,X⟩:=hnew i Bi a
    rw [n] at E;cases E
    rw [x]
    obtain ⟨⟨cur,e,vs,rest,k1,k2,k3,k4,k5,k6⟩,k7,k8⟩:=I.blk i Bi a
    cases hp:Bi.pr with
    |true=>
     have hcells:=e6 hp
     refine ⟨⟨cur,e,vs,rest,by rw [q];exact k1,k2,fun _=>by rw [hcells];exact k3 hp,by rw [hcells];exact bV _ (k3 hp),by rw [q];exact k5,by rw [q];exact k6⟩,by rw [O,G];exact k7,by rw [G,hcells];exact k8⟩
    |false=>
     have hcells:=X hp
     have y:=kQ (mi.refl S') hρ _ k4
     have K:B.cells.length=Bi.cells.length:=by rw [cO k4,hcells,cO y]
     refine ⟨⟨cur,e,vs,rest,by rw [q];exact k1,k2,(fun h=>by rw [Y,hp] at h;cases h),by rw [hcells];exact y,by rw [q];exact k5,by rw [q];exact k6⟩,by rw [O,G];exact k7,by rw [G,K];exact k8⟩
   ·rw [d]
    have p:∀ i Bc,N i=some Bc→(U i).1 ≠ (m b).1:=by
     intro i Bc a e
     obtain ⟨B2,J,f⟩:=hdom i Bc a
     rw [f] at e
     exact u i Bc a (z.inj b (ι i) B0 B2 h0 J e.symm)
    obtain ⟨⟨cur,e,vs,rest,k1,k2,k3,k4,k5,k6⟩,k7,k8⟩:=z.blk b B0 h0
    refine ⟨⟨cur,e,vs,rest,by rw [R];exact k1.same (t.rest _ (z.lt h0) p),k2,fun hp=>by rw [A];rw [F] at hp;exact bP r _ (k3 hp),by rw [A];exact lJ r hge _ k4,by rw [R];exact k5,by rw [R];exact k6⟩,Z,h7⟩
  ·intro b B n o v y
   rcases c b B n with ⟨i,Bi,a,rfl⟩|⟨B0,h0,d,A,F,R,Z,h7,u,J⟩
   ·obtain ⟨B1,E,x,q,O,G,Y,e6,X⟩:=hnew i Bi a
    rw [n] at E;cases E
    rw [x] at y
    rw [O,G]
    exact I.own i Bi a o v y
   ·rw [d] at y
    rcases t.sealN _ _ _ y with f|f|⟨i,Bi,a,f⟩
    ·exact J o v f
    ·have:=z.lt h0;omega
    ·obtain ⟨B2,C,D⟩:=hdom i Bi a
     rw [D] at f
     exact absurd (z.inj b (ι i) B0 B2 h0 C f.symm) (u i Bi a)
 ·refine ⟨hge,r,t.os,t.tape,t.output,t.size, ?_, ?_, ?_⟩
  ·intro k hk p
   refine t.rest k hk fun i Bc a e=> ?_
   obtain ⟨B2,J,f⟩:=hdom i Bc a
   exact p (ι i) B2 J (by rw [← f];exact e)
  ·intro b B n
   rcases c b B n with ⟨i,Bi,a,rfl⟩|⟨B0,h0,d,_⟩
   ·obtain ⟨B1,E,x,_⟩:=hnew i Bi a
    rw [x]
    rcases t.img i Bi a with d|⟨B2,d,u⟩
    ·exact .inl d
    ·obtain ⟨B3,A,F⟩:=hdom i B2 d
     exact .inr ⟨B3,A,by rw [u,F]⟩
   ·exact .inr ⟨B0,h0,by rw [d]⟩
  ·intro k o v y
   rcases t.sealN _ _ _ y with f|f|⟨i,Bi,a,f⟩
   ·rcases hSpN _ _ _ f with h|h
    ·exact .inl h
    ·exact .inr (.inr h)
   ·exact .inr (.inl f)
   ·obtain ⟨B2,C,D⟩:=hdom i Bi a
    exact .inr (.inr ⟨ι i,B2,C,by rw [← D];exact f⟩)
structure FC (F:AV→AV):Prop where
 own:∀ xs n e,F (.own xs n e)= .own xs n e
 tup:∀ l,F (.tup l)= .tup (l.map F)
 not:∀ x,(∀ xs n e,x ≠ .own xs n e)→(∀ xs n e,F x ≠ .own xs n e)
 notT:∀ x,(∀ l,x ≠ .tup l)→(∀ l,F x ≠ .tup l)
theorem bJ (n:Nat) {x:AV} (h:∀ xs k e,x ≠ .own xs k e) (r:List AV):gy n (x::r)=(x::(gy n r).1,(gy n r).2):=by
 cases x<;>first|rfl|exact absurd rfl (h _ _ _)
theorem jB (n:Nat) {x:AV} (h:∀ xs k e,x ≠ .own xs k e) (a:∀ l,x ≠ .tup l):jZ n x=(x,[]):=by
 cases x<;>first|rfl|exact absurd rfl (h _ _ _)|exact absurd rfl (a _)
theorem b_ {gh gf:dR} {n:Nat} {x:AV} (h:∀ xs k e,x ≠ .own xs k e) {r:List AV} {v:Value} {vs:List Value}:jO gh gf m S n (x::r) (v::vs)=(VR gh m S x v∧jO gh gf m S n r vs):=by
 cases x<;>first|rfl|exact absurd rfl (h _ _ _)
theorem kY {gh gf:dR} {n:Nat} {x:AV} (h:∀ xs k e,x ≠ .own xs k e) (a:∀ l,x ≠ .tup l) {v:Value}:xk gh gf m S n x v=VR gh m S x v:=by
 cases x<;>first|rfl|exact absurd rfl (h _ _ _)|exact absurd rfl (a _)
theorem jL (x:AV):(∃ xs k e,x= .own xs k e)∨(∀ xs k e,x ≠ .own xs k e):=by
 cases x<;>first|exact .inl ⟨_,_,_,rfl⟩|exact .inr (fun _ _ _ h=>by cases h)
theorem zA (x:AV):(∃ l,x= .tup l)∨(∀ l,x ≠ .tup l):=by
 cases x<;>first|exact .inl ⟨_,rfl⟩|exact .inr (fun _ h=>by cases h)
theorem rD {F:AV→AV} (c:FC F):∀ (l:List AV) (a b:Nat),(gy a (l.map F)).2=(gy b l).2
 | [],a,b=>rfl
 | x::r,a,b=>by
  rcases jL x with ⟨d,k,e,rfl⟩|hx
  ·simp only [List.map_cons,c.own,gy]
   rw [rD c r (a+1) (b+1)]
  ·rw [List.map_cons,bJ a (c.not x hx),bJ b hx]
   exact rD c r a b
theorem z_ {F:AV→AV} (c:FC F) (x:AV) (a b:Nat):(jZ a (F x)).2=(jZ b x).2:=by
 rcases jL x with ⟨d,k,e,rfl⟩|hx
 ·rw [c.own];rfl
 ·rcases zA x with ⟨l,rfl⟩|ht
  ·rw [c.tup]
   simp only [jZ]
   exact rD c l a b
  ·rw [jB a (c.not x hx) (c.notT x ht),jB b hx ht]
theorem uq {F:AV→AV} (a:FC F) {gh gf gN:dR} {m mN:bf} {S:aW} {n nid:Nat} (b:∀ x v,VR gh m S x v→VR gN mN S (F x) v) (c:∀ i k v,VR gf m S (.ref (n+i) 0 0 k) v→VR gN mN S (.ref (nid+i) 0 0 k) v):
  ∀ (l:List AV) (vs:List Value) (j:Nat),jO gh gf m S (n+j) l vs→bF gN mN S (gy (nid+j) (l.map F)).1 vs
 | [],[],j,_=>by simp [gy,bF]
 | x::r,v::vs,j,h=>by
  rcases jL x with ⟨d,k,e,rfl⟩|hxo
  ·simp only [jO] at h
   simp only [List.map_cons,a.own,gy,bF]
   exact ⟨c j k v h.1,by have:=uq a b c r vs (j+1);rw [← Nat.add_assoc,← Nat.add_assoc] at this;exact this h.2⟩
  ·rw [b_ hxo] at h
   rw [List.map_cons,bJ _ (a.not x hxo)]
   simp only [bF]
   exact ⟨b x v h.1,uq a b c r vs j h.2⟩
 | [],_::_,_,h=>by simp [jO] at h
 |x::r,[],_,h=>by cases x<;>simp [jO] at h
theorem D_ {F:AV→AV} (a:FC F) {gh gf gN:dR} {m mN:bf} {S:aW} {n nid:Nat} (b:∀ x v,VR gh m S x v→VR gN mN S (F x) v) (c:∀ i k v,VR gf m S (.ref (n+i) 0 0 k) v→VR gN mN S (.ref (nid+i) 0 0 k) v)
  {x:AV} {v:Value} (h:xk gh gf m S n x v):VR gN mN S (jZ nid (F x)).1 v:=by
 rcases jL x with ⟨d,k,e,rfl⟩|hxo
 ·simp only [xk] at h
  rw [a.own]
  exact c 0 k v h
 ·rcases zA x with ⟨l,rfl⟩|ht
  ·simp only [xk] at h
   obtain ⟨vs,e,h⟩:=h
   rw [a.tup]
   simp only [jZ,VR]
   exact ⟨vs,e,uq a b c l vs 0 h⟩
  ·rw [kY hxo ht] at h
   rw [jB _ (a.not x hxo) (a.notT x ht)]
   exact b x v h
theorem Ko:FC id:=⟨fun _ _ _=>rfl,fun l=>by simp,fun _ h=>h,fun _ h=>h⟩
theorem KU (ρ:Nat→Nat→Option (Nat × Nat)):∀ l,lU ρ l=l.map (ren ρ)
 | []=>rfl
 |x::r=>by simp [lU,KU ρ r]
theorem Gq (ρ:Nat→Nat→Option (Nat × Nat)):FC (ren ρ):=by
 refine ⟨fun _ _ _=>rfl,fun l=>by simp [ren,KU], ?_, ?_⟩
 ·intro x h b n e a
  cases x<;>simp only [ren] at a<;>first
   |(cases a;done)
   |(split at a<;>cases a;done)
   |exact h _ _ _ rfl
 ·intro x h l a
  cases x<;>simp only [ren] at a<;>first
   |(cases a;done)
   |(split at a<;>cases a;done)
   |exact h _ rfl
theorem yV:∀ (bs:List bi) (n b:Nat),aG (DK n bs) b=if n≤b then bs[b - n]? else none
 | [],n,b=>by simp [DK,aG]
 | B::r,n,b=>by
  simp only [DK,aG]
  cases h:Nat.beq n b with
  |true=>
   have:=aO h
   subst this
   simp
  | false=>
   have a:n ≠ b:=by intro e;subst e;simp at h
   rw [yV r (n+1) b]
   by_cases hle:n≤b
   ·rw [if_pos hle,if_pos (show n+1≤b by omega)]
    obtain ⟨d,c⟩:∃ d,b - n=d+1:=⟨b - n - 1,by omega⟩
    rw [c,List.getElem?_cons_succ,show b - (n+1)=d by omega]
   ·rw [if_neg hle,if_neg (show ¬ n+1≤b by omega)]
theorem Gv {rd:dR} {mk:bi→bi}:∀ (fp:List Nat) (b:Nat),aG (fp.filterMap fun b=>(rd b).map fun B=>(b,mk B)) b=if b ∈ fp then (rd b).map mk else none
 | [],b=>by simp [aG]
 | a::r,b=>by
  have f:=Gv (rd:=rd) (mk:=mk) r b
  cases c:rd a with
  |none=>
   rw [List.filterMap_cons_none (by simp [c]),f]
   by_cases hab:b=a
   ·subst hab;simp [c]
   ·simp [hab]
  | some B=>
   rw [List.filterMap_cons_some (by simp [c];rfl)]
   simp only [aG]
   cases h:Nat.beq a b with
   |true=>have:=aO h;subst this;simp [c]
   |false=>
    have d:b ≠ a:=by intro e;subst e;simp at h
    simp only [f,List.mem_cons,d,false_or]
end
end AM
namespace AM
open Go
def aas (g:dR) (m:bf) (S:aW):kM→Ending→Prop
 | .ret v,e=> ∃ cv,e= .returned cv∧VR g m S v cv
 | .pan v,e=> ∃ cv,e= .panicked [{v:=cv,recovered:=false}]∧VR g m S v cv
def Wx (ap:AP) (g:dR) (m:bf) (S:aW) (w:World) (out:kM) (ups:List (Nat × bi)) (e:Ending) (w':World):Prop:=
 ∃ m' S',bY ap (dZ g ups) m' S' w'∧Fr g m S w (dZ g ups) m' S' w'∧aas (dZ g ups) m' S' out e
theorem fO {h a:List bi} {b:Nat} (c:b<h.length):bI (h++a) b=bI h b:=by
 simp [bI,List.getElem?_append_left c]
theorem jq {h a:List bi} {b:Nat} (c:h.length≤b):bI (h++a) b=bI a (b - h.length):=by
 simp [bI,List.getElem?_append_right c]
def qN (l:List bi):Prop:=∀ B ∈ l,B.pr=true∧B.fro=false∧B.ver=0
theorem rF:∀ (l:List AV) (n:Nat),qN (gy n l).2
 | [],n=>by simp [gy,qN]
 | x::r,n=>by
  rcases jL x with ⟨b,k,e,rfl⟩|hx
  ·simp only [gy]
   intro B a
   rcases List.mem_cons.1 a with rfl|a
   ·exact ⟨rfl,rfl,rfl⟩
   ·exact rF r (n+1) B a
  ·rw [bJ n hx];exact rF r n
theorem KT (x:AV) (n:Nat):qN (jZ n x).2:=by
 rcases jL x with ⟨b,k,e,rfl⟩|hx
 ·intro B a
  simp [jZ] at a
  subst a
  exact ⟨rfl,rfl,rfl⟩
 ·rcases zA x with ⟨l,rfl⟩|ht
  ·simp only [jZ];exact rF l n
  ·rw [jB n hx ht];simp [qN]
theorem zZ (o:kM) (n:Nat):qN (kT n o):=by
 cases o with
 |ret v=>exact KT v n
 |pan v=>simp [kT,qN]
section
variable {P:Program} {ap:AP} {g:dR} {m:bf} {S:aW} {w:World}
def IU (nid:Nat) (F:AV→AV):kM→kM
 | .ret v=> .ret (jZ nid (F v)).1
 | .pan v=> .pan (F v)
theorem zI (q:bY ap g m S w) {rd:dR} (j:∀ b B,rd b=some B→g b=some B) {L:List Nat} (U:∀ b B,rd b=some B→b ∈ L) {nid:Nat} {args args':List AV} {cargs:List Value} {out:kM}
  (ha:kK (frz rd 6) args=some args') (hv:bF g m S args cargs) {C:List Value→(Ending→World→Prop)→Prop} (hmono:∀ cargs R R',C cargs R→(∀ e w',R e w'→R' e w')→C cargs R')
  (f:∀ m1 S1,mi S S1→bY ap (bI []) m1 S1 w→bF (bI []) m1 S1 args' cargs→C cargs fun e w'=> ∃ m' S',E8 ap [] m1 S1 w out [] m' S' w' e) (hfr:∀ i,i<(kT 0 out).length→g (nid+i)=none):
  C cargs fun e w'=>Wx ap g m S w (IU nid id out) (DK nid (kT 0 out)++L.filterMap fun b=>(rd b).map fun B=>(b,{B with fro:=true,fz:=B.cells.length})) e w':=by
 have T:dK (dU S m rd w) args' cargs:=sV (fun x v y a d=>lh q j 6 x v y a d) ha hv
 have t:=mO S m rd w
 let m0:bf:=fun _=>(0,0)
 have Y:bY ap (bI []) m0 (dU S m rd w) w:=by
  refine ⟨fun b b' B B' h=>by simp [bI] at h,fun b B h=>by simp [bI] at h,fun k o v h=>oV q h,fun b B h=>by simp [bI] at h, ?_⟩
  intro k xs hk
  obtain ⟨vs,a,d⟩:=q.glob k xs hk
  exact ⟨vs,bP t _ a,d.mono t⟩
 refine hmono _ _ _ (f m0 (dU S m rd w) t Y (bV _ T)) ?_
 rintro e w' ⟨m',S',hF⟩
 obtain ⟨z,r,l⟩:=hF
 simp only [List.nil_append,List.length_nil] at z r l
 generalize J:kT 0 out=bs at z r hfr
 have E:qN bs:=J ▸ zZ out 0
 let gN:dR:=dZ g (DK nid bs++L.filterMap fun b=>(rd b).map fun B=>(b,{B with fro:=true,fz:=B.cells.length}))
 let mN:bf:=fun b=>if nid≤b∧b - nid<bs.length then m' (b - nid) else m b
 have s:∀ b,gN b=if nid≤b∧b - nid<bs.length then bs[b - nid]? else match rd b with|some B=>some {B with fro:=true,fz:=B.cells.length}|none=>g b:=by
  intro b
  show dZ g _ b=_
  unfold dZ
  have M:∀ mk:bi→bi,(if b ∈ L then (rd b).map mk else none)=(rd b).map mk:=by
   intro mk
   split
   ·rfl
   ·rename_i c
    cases p:rd b with
    |none=>rfl
    |some B=>exact absurd (U b B p) c
  rw [iw,yV,Gv,M]
  by_cases a:nid≤b
  ·by_cases d:b - nid<bs.length
   ·have f:nid≤b∧b - nid<bs.length:=⟨a,d⟩
    rw [if_pos a,if_pos f,List.getElem?_eq_getElem d]
   ·have f:¬ (nid≤b∧b - nid<bs.length):=fun h=>d h.2
    rw [if_pos a,if_neg f,List.getElem?_eq_none (Nat.le_of_not_lt d)]
    cases rd b<;>rfl
  ·have f:¬ (nid≤b∧b - nid<bs.length):=fun h=>a h.1
   rw [if_neg a,if_neg f]
   cases rd b<;>rfl
 have hnidg:∀ b B,g b=some B→¬ (nid≤b∧b - nid<bs.length):=by
  rintro b B c ⟨a,d⟩
  have:=hfr (b - nid) d
  rw [show nid+(b - nid)=b by omega,c] at this
  cases this
 have Z:Ge g m gN mN:=by
  intro b B c
  have hn:=hnidg b B c
  have K:mN b=m b:=if_neg hn
  rw [s,if_neg hn]
  cases p:rd b with
  |none=>exact ⟨B,c,rfl,.inl ⟨rfl,K⟩⟩
  |some B1=>
   have:=j b B1 p
   rw [c] at this;cases this
   exact ⟨_,rfl,rfl,.inl ⟨rfl,K⟩⟩
 have A:∀ i B,bs[i]? =some B→gN (nid+i)=some B∧mN (nid+i)=m' i:=by
  intro i B G
  have hl:=(List.getElem?_eq_some_iff.1 G).1
  have f:nid≤nid+i∧nid+i - nid<bs.length:=by omega
  refine ⟨by rw [s,if_pos f,show nid+i - nid=i by omega];exact G, ?_⟩
  show (if _ then _ else _)=_
  rw [if_pos f,show nid+i - nid=i by omega]
 obtain ⟨V,W⟩:=ZX (g:=g) (m:=m) (S:=S) (w:=w) q z r (fun i=>nid+i) (fun i Bc h=>by simp [bI] at h) t
  (fun k o v h=>(gz h).imp id fun ⟨_,b,B,a,d,_⟩=> ⟨b,B,j b B a,d⟩) (gN:=gN) (mN:=mN) (fun i v=>some (nid+i,v))
  (by
   intro b ver b' ver' h B hB I
   simp only [Option.some.injEq,Prod.mk.injEq] at h
   obtain ⟨rfl,rfl⟩:=h
   obtain ⟨a,d⟩:=A b B hB
   exact ⟨B,a,I,fun e=> ⟨e,d,rfl⟩⟩)
  (by
   intro i Bc G
   obtain ⟨a,d⟩:=A i Bc G
   exact ⟨Bc,a,d,rfl,rfl,rfl,rfl,fun _=>rfl,fun hp=>by rw [(E Bc (List.mem_of_getElem? G)).1] at hp;cases hp⟩)
  (by
   intro b B c
   by_cases f:nid≤b∧b - nid<bs.length
   ·rw [s,if_pos f] at c
    exact .inl ⟨b - nid,B,c,by omega⟩
   ·have K:mN b=m b:=if_neg f
    rw [s,if_neg f] at c
    right
    cases p:rd b with
    | none=>
     rw [p] at c
     have c:g b=some B:=c
     refine ⟨B,c,K,rfl,rfl,rfl,(q.blk b B c).fz0,(q.blk b B c).fzle,(fun i Bc h=>by simp [bI] at h), ?_⟩
     intro o v X
     rcases gz X with h|⟨_,Q,B1,a,d,_⟩
     ·exact q.own b B c o v h
     ·have:=q.inj Q b B1 B (j _ _ a) c d
      subst this
      rw [a] at p;cases p
    | some B1=>
     rw [p] at c
     have c:some {B1 with fro:=true,fz:=B1.cells.length}=some B:=c
     cases c
     have u:=j b B1 p
     refine ⟨B1,u,K,rfl,rfl,rfl,(fun h=>by cases h),Nat.le_refl _,(fun i Bc h=>by simp [bI] at h), ?_⟩
     intro o v X
     refine ⟨rfl, ?_⟩
     rcases gz X with h|⟨_,Q,B2,a,d,N⟩
     ·exact Nat.lt_of_lt_of_le (q.own b B1 u o v h).2 (q.blk b B1 u).fzle
     ·have:=q.inj Q b B2 B1 (j _ _ a) u d
      subst this
      rw [a] at p;cases p
      exact N)
  Z
 refine ⟨mN,S',V,W, ?_⟩
 show aas gN mN S' (IU nid id out) e
 cases out with
 |ret v=>
  obtain ⟨cv,O,a⟩:=l
  refine ⟨cv,O, ?_⟩
  have F:(jZ 0 v).2=bs:=J
  simp only [List.length_nil,List.nil_append,F] at a
  refine D_ (n:=0) Ko (fun x v D=>iP x (mY x D)) ?_ a
  intro i k v D
  rw [Nat.zero_add] at D
  simp only [VR] at D ⊢
  obtain ⟨B,d,N,h4,h5⟩:=D
  obtain ⟨h6,h7⟩:=A i B d
  exact ⟨B,h6,N,h4,by rw [h7];exact h5⟩
 |pan v=>
  obtain ⟨cv,O,a⟩:=l
  exact ⟨cv,O,iP _ (mY _ a)⟩
end
end AM
namespace AM
open Go
theorem KE {b:Nat} {r:List Nat} (h:rf (b::r)=true):b ∉ r∧rf r=true:=by
 simp only [rf,Bool.and_eq_true,Bool.not_eq_true'] at h
 refine ⟨fun a=> ?_,h.2⟩
 rw [jf.2 a] at h
 cases h.1
theorem qx:∀ {l:List Nat} {b p:Nat},pq l b=some p→l[p]? =some b
 | [],b,p,h=>by simp [pq] at h
 | c::r,b,p,h=>by
  simp only [pq] at h
  split at h
  ·rename_i d;cases h;rw [aO d];rfl
  ·simp only [Option.map_eq_some_iff] at h
   obtain ⟨q,a,rfl⟩:=h
   simpa using qx a
theorem oO:∀ {l:List Nat} {b p:Nat},rf l=true→l[p]? =some b→pq l b=some p
 | [],b,p,_,h=>by simp at h
 |c::r,b,0,hn,h=>by simp at h;subst h;simp [pq]
 | c::r,b,p+1,hn,h=>by
  obtain ⟨e,d⟩:=KE hn
  have h:r[p]? =some b:=by simpa using h
  have a:Nat.beq c b=false:=by
   cases f:Nat.beq c b with
   |false=>rfl
   |true=>exact absurd (aO f ▸ List.mem_of_getElem? h) e
  simp [pq,a,oO d h]
theorem Kz {mk:Nat→bi→bi}:∀ (fp:List Nat) (h':List bi) (b:Nat),aG ((LQ fp h').map fun (b,B)=>(b,mk b B)) b=(pq fp b).bind fun p=>(h'[p]?).map (mk b)
 | [],h',b=>by cases h'<;>simp [LQ,aG,pq]
 |a::r,[],b=>by
  simp only [LQ,List.map_nil,aG,pq]
  cases Nat.beq a b with
  |true=>rfl
  |false=>cases pq r b<;>rfl
 | a::r,B::q,b=>by
  simp only [LQ,List.map_cons,aG,pq]
  cases h:Nat.beq a b with
  |true=>have:=aO h;subst this;rfl
  |false=>
   simp only [Kz r q b]
   cases pq r b<;>simp
section
variable {P:Program} {ap:AP} {g:dR} {m:bf} {S:aW} {w:World}
def Jl (ρ:Nat→Nat→Option (Nat × Nat)) (B:bi):bi:={B with cells:=(match B.pr with|true=>B.cells|false=>lU ρ B.cells),ver:=0}
theorem ar1 {a b n i:Nat} (h:b≤a):n+(a+i - b)=n+(a - b)+i:=by omega
theorem ar2 {a b i:Nat} (h:b≤a):b+(a+i - b)=a+i:=by omega
theorem WU {ρ:Nat→Nat→Option (Nat × Nat)} {l:List bi} (h:qN l):l.map (Aj ρ 0)=l:=by
 induction l with
 |nil=>rfl
 |cons B r ih=>
  rw [List.map_cons,ih fun B d=>h B (by simp [d])]
  obtain ⟨b,_,a⟩:=h B (by simp)
  obtain ⟨c,v,f,z,e,p⟩:=B
  simp only at b a
  subst b a
  rfl
theorem zJ (L:bY ap g m S w) {rd:dR} (hrd:∀ b B,rd b=some B→g b=some B) {a:List Nat} {O:List bi} (hbl:kK rd a=some O) (F:rf a=true) {nid:Nat} {args:List AV} {cargs:List Value} {out:kM}
  {vers:Nat→Nat} (hvers:∀ b B,rd b=some B→vers b=B.ver) {ρ ρ':Nat→Nat→Option (Nat × Nat)} (hρe:∀ b v,ρ b v=match Nat.beq v (vers b) with|true=>(pq a b).map fun p=>(p,0)|false=>none)
  {h':List bi} (hρe':ρ'=OD nid a vers h'.length)
  (hv:bF g m S args cargs) {C:List Value→(Ending→World→Prop)→Prop} (hmono:∀ cargs R R',C cargs R→(∀ e w',R e w'→R' e w')→C cargs R')
  (r:∀ m1 S1,mi S S1→bY ap (bI (O.map (Jl ρ))) m1 S1 w→bF (bI (O.map (Jl ρ))) m1 S1 (lU ρ args) cargs→C cargs fun e w'=> ∃ m' S',E8 ap (O.map (Jl ρ)) m1 S1 w out h' m' S' w' e) (hl:a.length≤h'.length) (hfr:∀ i,i<(h'.length - a.length)+(kT h'.length out).length→g (nid+i)=none):
  C cargs fun e w'=>Wx ap g m S w (IU (nid+(h'.length - a.length)) (ren ρ') out) (DK nid ((h'.drop a.length).map (Aj ρ' 0)++kT h'.length out)++(LQ a h').map fun (b,B)=>(b,Aj ρ' (vers b) B)) e w':=by
 have s:∀ p b,a[p]? =some b→∃ B,rd b=some B∧g b=some B∧bI (O.map (Jl ρ)) p=some (Jl ρ B):=by
  intro p b hp
  obtain ⟨B,c,d⟩:=(jv hbl).2 p b hp
  exact ⟨B,d,hrd b B d,by simp [bI,c]⟩
 have z:∀ p Bc,bI (O.map (Jl ρ)) p=some Bc→∃ b B,a[p]? =some b∧rd b=some B∧g b=some B∧Bc=Jl ρ B:=by
  intro p Bc hp
  have y:p<a.length:=by
   have:=(List.getElem?_eq_some_iff.1 hp).1
   rw [List.length_map,(jv hbl).1] at this
   exact this
  obtain ⟨B,c,d,f⟩:=s p _ (List.getElem?_eq_getElem y)
  rw [f] at hp;cases hp
  exact ⟨_,B,List.getElem?_eq_getElem y,c,d,rfl⟩
 let mc:bf:=fun p=>m (a.getD p 0)
 have l:∀ p b,a[p]? =some b→mc p=m b:=by
  intro p b hp
  show m (a.getD p 0)=_
  rw [List.getD_eq_getElem?_getD,hp];rfl
 have M:r_ g m (bI (O.map (Jl ρ))) mc ρ:=by
  intro b ver Y J h B K I
  rw [hρe] at h
  split at h
  ·rename_i hve
   simp only [Option.map_eq_some_iff,Prod.mk.injEq] at h
   obtain ⟨p,hp,rfl,rfl⟩:=h
   have hp:=qx hp
   obtain ⟨B1,c,d,f⟩:=s p b hp
   rw [d] at K;cases K
   exact ⟨_,f,Nat.zero_le _,fun _=> ⟨by rw [aO hve,hvers b _ c],l p b hp,rfl⟩⟩
  ·cases h
 have hSc:bY ap (bI (O.map (Jl ρ))) mc S w:=by
  refine ⟨?_, ?_,L.sealed, ?_,L.glob⟩
  ·intro p q Bp Bq hp hq e
   obtain ⟨b,B,c,d,f,_⟩:=z p Bp hp
   obtain ⟨Y,B',h1',h2',h3',_⟩:=z q Bq hq
   rw [l p b c,l q Y h1'] at e
   have:=L.inj b Y B B' f h3' e
   subst this
   have W:=oO F c
   rw [oO F h1'] at W
   cases W;rfl
  ·intro p Bp hp
   obtain ⟨b,B,c,d,f,rfl⟩:=z p Bp hp
   rw [l p b c]
   obtain ⟨⟨cur,e,vs,rest,k1,k2,k3,k4,k5,k6⟩,k7,k8⟩:=L.blk b B f
   cases hp:B.pr with
   |true=>exact ⟨⟨cur,e,vs,rest,k1,k2,fun _=>by simpa [Jl,hp] using k3 hp,by simpa [Jl,hp] using bV _ (k3 hp),k5,k6⟩,k7,by simpa [Jl,hp] using k8⟩
   | false=>
    have hv:=kQ (mi.refl S) M _ k4
    exact ⟨⟨cur,e,vs,rest,k1,k2,fun h=>by simp [Jl,hp] at h,by simpa [Jl,hp] using hv,k5,k6⟩,k7,by
     have:(Jl ρ B).cells.length=B.cells.length:=by simp only [Jl,hp];rw [cO k4,cO hv]
     rw [this];exact k8⟩
  ·intro p Bp hp o v ho
   obtain ⟨b,B,c,d,f,rfl⟩:=z p Bp hp
   rw [l p b c] at ho
   exact L.own b B f o v ho
 refine hmono _ _ _ (r mc S (mi.refl S) hSc (kQ (mi.refl S) M _ hv)) ?_
 rintro e w' ⟨m',S',hF⟩
 obtain ⟨hsr,G,N⟩:=hF
 generalize hbs:kT h'.length out=bs0 at hsr G hfr
 have hown:qN bs0:=hbs ▸ zZ out h'.length
 obtain ⟨bs,D⟩:∃ bs,bs=h'.drop a.length++bs0:=⟨_,rfl⟩
 have hbsl:bs.length=(h'.length - a.length)+bs0.length:=by rw [D,List.length_append,List.length_drop]
 rw [← hbsl] at hfr
 let ups:=(LQ a h').map fun (b,B)=>(b,Aj ρ' (vers b) B)
 rw [show (h'.drop a.length).map (Aj ρ' 0)++bs0=bs.map (Aj ρ' 0) by rw [D,List.map_append,WU hown]]
 let gN:dR:=dZ g (DK nid (bs.map (Aj ρ' 0))++ups)
 let mN:bf:=fun b=>if nid≤b∧b - nid<bs.length then m' (a.length+(b - nid)) else match pq a b with|some p=>m' p|none=>m b
 have E:∀ b,gN b=if nid≤b∧b - nid<bs.length then (bs[b - nid]?).map (Aj ρ' 0) else match (pq a b).bind fun p=>(h'[p]?).map (Aj ρ' (vers b)) with|some B=>some B|none=>g b:=by
  intro b
  show dZ g _ b=_
  unfold dZ
  rw [iw,yV,Kz (mk:=fun b B=>Aj ρ' (vers b) B)]
  by_cases c:nid≤b
  ·by_cases d:b - nid<bs.length
   ·have r:nid≤b∧b - nid<bs.length:=⟨c,d⟩
    rw [if_pos c,if_pos r,List.getElem?_map,List.getElem?_eq_getElem d]
    rfl
   ·have r:¬ (nid≤b∧b - nid<bs.length):=fun h=>d h.2
    rw [if_pos c,if_neg r,List.getElem?_map,List.getElem?_eq_none (Nat.le_of_not_lt d)]
    rfl
  ·have r:¬ (nid≤b∧b - nid<bs.length):=fun h=>c h.1
   rw [if_neg c,if_neg r]
   rfl
 have hnidg:∀ b B,g b=some B→¬ (nid≤b∧b - nid<bs.length):=by
  rintro b B j ⟨c,d⟩
  have:=hfr (b - nid) d
  rw [show nid+(b - nid)=b by omega,j] at this
  cases this
 have hh':∀ p,p<a.length→∃ B,h'[p]? =some B:=fun p hp=> ⟨_,List.getElem?_eq_getElem (by omega)⟩
 have T:∀ p b,a[p]? =some b→∀ Bc,h'[p]? =some Bc→gN b=some (Aj ρ' (vers b) Bc)∧mN b=m' p:=by
  intro p b hp Bc K
  obtain ⟨B,c,d,f⟩:=s p b hp
  have hn:=hnidg b B d
  refine ⟨by rw [E,if_neg hn,oO F hp];simp [K], ?_⟩
  show (if _ then _ else _)=_
  rw [if_neg hn,oO F hp]
 have V:∀ i B,bs[i]? =some B→gN (nid+i)=some (Aj ρ' 0 B)∧mN (nid+i)=m' (a.length+i):=by
  intro i B A
  have hl:=(List.getElem?_eq_some_iff.1 A).1
  have r:nid≤nid+i∧nid+i - nid<bs.length:=by omega
  refine ⟨by rw [E,if_pos r,show nid+i - nid=i by omega,A];rfl, ?_⟩
  show (if _ then _ else _)=_
  rw [if_pos r,show nid+i - nid=i by omega]
 have U:∀ p,a.length≤p→bI (h'++bs0) p=bs[p - a.length]? :=by
  intro p hp
  have he:h'++bs0=h'.take a.length++bs:=by rw [D,← List.append_assoc,List.take_append_drop]
  have y:(h'.take a.length).length=a.length:=by rw [List.length_take];omega
  rw [he,jq (by omega),y]
  rfl
 have t:∀ p Bc,bI (h'++bs0) p=some Bc→(p<a.length∧h'[p]? =some Bc)∨(a.length≤p∧bs[p - a.length]? =some Bc):=by
  intro p Bc h
  by_cases hp:p<a.length
  ·rw [fO (by omega)] at h;exact .inl ⟨hp,h⟩
  ·rw [U p (by omega)] at h;exact .inr ⟨by omega,h⟩
 have hren':r_ (bI (h'++bs0)) m' gN mN ρ':=by
  intro p ver Y J h Bc K I
  rw [hρe'] at h
  unfold OD at h
  split at h
  ·rename_i b hp
   cases h
   rcases t p Bc K with ⟨c,d⟩|⟨c,_⟩
   ·obtain ⟨f,u⟩:=T p _ hp Bc d
    exact ⟨_,f,by simp only [Aj];omega,fun e=> ⟨by simp only [Aj] at e;omega,u,rfl⟩⟩
   ·have:=(List.getElem?_eq_some_iff.1 hp).1;omega
  ·rename_i hp
   split at h
   ·cases h
    have hge:=List.getElem?_eq_none_iff.1 hp
    rcases t p Bc K with ⟨c,_⟩|⟨c,d⟩
    ·omega
    ·obtain ⟨f,u⟩:=V _ Bc d
     exact ⟨_,f,by simp only [Aj];omega,fun e=> ⟨by simp only [Aj] at e;omega,by rw [u,show a.length+(p - a.length)=p by omega],rfl⟩⟩
   ·cases h
 have hge:Ge g m gN mN:=by
  intro b B j
  have hn:=hnidg b B j
  cases A:pq a b with
  | none=>
   have hm:mN b=m b:=by
    show (if _ then _ else _)=_
    rw [if_neg hn,A]
   refine ⟨B, ?_,rfl,.inl ⟨rfl,hm⟩⟩
   rw [E,if_neg hn,A];exact j
  | some p=>
   have hp:=qx A
   obtain ⟨B1,c,d,f⟩:=s p b hp
   rw [d] at j;cases j
   obtain ⟨Bc,u,h5,Q⟩:=G.ge p _ f
   rcases t p Bc u with ⟨_,X⟩|⟨X,_⟩
   ·obtain ⟨h8,h9⟩:=T p b hp Bc X
    refine ⟨_,h8,h5, ?_⟩
    rcases Q with ⟨Q,h6'⟩|Q
    ·left
     refine ⟨?_,by rw [h9,h6',l p b hp]⟩
     simp only [Aj,Jl] at Q ⊢
     rw [hvers b _ c];omega
    ·right
     simp only [Aj,Jl] at Q ⊢
     rw [hvers b _ c];omega
   ·have:=(List.getElem?_eq_some_iff.1 hp).1;omega
 let ι:Nat→Nat:=fun p=>if p<a.length then a.getD p 0 else nid+(p - a.length)
 have hι:∀ p b,a[p]? =some b→ι p=b:=by
  intro p b hp
  show (if _ then _ else _)=_
  rw [if_pos (List.getElem?_eq_some_iff.1 hp).1,List.getD_eq_getElem?_getD,hp];rfl
 have hι':∀ i,ι (a.length+i)=nid+i:=by
  intro i
  show (if _ then _ else _)=_
  rw [if_neg (by omega)];congr 1;omega
 obtain ⟨hsN,hfN⟩:=ZX (g:=g) (m:=m) (S:=S) (w:=w) L hsr G ι
  (by
   intro p Bc hp
   obtain ⟨b,B,c,d,f,rfl⟩:=z p Bc hp
   rw [hι p b c]
   exact ⟨B,f,l p b c⟩) (mi.refl S) (fun k o v h=> .inl h) (gN:=gN) (mN:=mN) ρ' hren'
  (by
   intro p Bc hp
   rcases t p Bc hp with ⟨c,d⟩|⟨c,d⟩
   ·have hp:=List.getElem?_eq_getElem c
    obtain ⟨f,u⟩:=T p _ hp Bc d
    rw [hι p _ hp]
    exact ⟨_,f,u,rfl,rfl,rfl,rfl,fun h=>by simp [Aj,h],fun h=>by simp [Aj,h]⟩
   ·obtain ⟨i,rfl⟩:∃ i,p=a.length+i:=⟨p - a.length,by omega⟩
    rw [show a.length+i - a.length=i by omega] at d
    obtain ⟨f,u⟩:=V i Bc d
    rw [hι' i]
    exact ⟨_,f,u,rfl,rfl,rfl,rfl,fun h=>by simp [Aj,h],fun h=>by simp [Aj,h]⟩)
  (by
   intro b B j
   by_cases r:nid≤b∧b - nid<bs.length
   ·rw [E,if_pos r,Option.map_eq_some_iff] at j
    obtain ⟨Bc,j,_⟩:=j
    refine .inl ⟨a.length+(b - nid),Bc, ?_,by rw [hι'];omega⟩
    rw [U _ (by omega),show a.length+(b - nid) - a.length=b - nid by omega];exact j
   ·rw [E,if_neg r] at j
    cases A:pq a b with
    |some p=>
     have hp:=qx A
     have y:=(List.getElem?_eq_some_iff.1 hp).1
     obtain ⟨Bc,u⟩:=hh' p y
     exact .inl ⟨p,Bc,by rw [fO (by omega)];exact u,(hι p b hp).symm⟩
    | none=>
     have hm:mN b=m b:=by
      show (if _ then _ else _)=_
      rw [if_neg r,A]
     rw [A] at j
     have j:g b=some B:=j
     refine .inr ⟨B,j,hm,rfl,rfl,rfl,(L.blk b B j).fz0,(L.blk b B j).fzle, ?_,fun o v ho=>L.own b B j o v ho⟩
     intro p Bc hp e
     obtain ⟨b1,B1,c,_⟩:=z p Bc hp
     rw [hι p b1 c] at e
     subst e
     rw [oO F c] at A;cases A)
  hge
 refine ⟨mN,S',hsN,hfN, ?_⟩
 show aas gN mN S' (IU (nid+(h'.length - a.length)) (ren ρ') out) e
 have hrenh:r_ (bI h') m' gN mN ρ':=by
  intro p ver Y J h Bc K I
  refine hren' p ver Y J h Bc ?_ I
  rw [fO (List.getElem?_eq_some_iff.1 K).1];exact K
 cases out with
 |ret v=>
  obtain ⟨cv,W,c⟩:=N
  refine ⟨cv,W, ?_⟩
  have Z:(jZ h'.length v).2=bs0:=hbs
  rw [Z] at c
  refine D_ (n:=h'.length) (Gq ρ') (fun x v hx=>yJ (mi.refl S') hrenh x hx) ?_ c
  intro i k v hx
  simp only [VR] at hx ⊢
  obtain ⟨B,d,f,u,h5⟩:=hx
  rw [U _ (Nat.le_trans hl (Nat.le_add_right _ _))] at d
  obtain ⟨Q,X⟩:=V _ B d
  rw [ar1 hl] at Q X
  rw [ar2 hl] at X
  exact ⟨_,Q,Nat.zero_le _,u,fun e=>by rw [X];exact h5 (by simpa [Aj] using e)⟩
 |pan v=>
  obtain ⟨cv,W,c⟩:=N
  exact ⟨cv,W,yJ (mi.refl S') hrenh _ c⟩
end
end AM
namespace AM
open Go
section
variable {P:Program} {ap:AP} {H:di}
theorem xE {n:dR} {nid f:Nat} {args:List AV} {md:AV} {c A:Cx} {r:SE} (h:tC ap H n nid md f args c= .ok r A):
  ∃ args0 h0 out0 h0',H c md f args0 h0= .ok (out0,h0',r.md) A∧((∃ v,out0= .ret v)↔∃ v,r.out= .ret v)∧
  ∀ g m S w cargs (C:List Value→(Ending→World→Prop)→Prop),(∀ cargs R R',C cargs R→(∀ e w',R e w'→R' e w')→C cargs R')→bY ap g m S w→(∀ b ∈ r.fp,∀ B,n b=some B→g b=some B)→(∀ i,i<4→g (nid+i)=none)→bF g m S args cargs→
   (∀ m1 S1,mi S S1→bY ap (bI h0) m1 S1 w→bF (bI h0) m1 S1 args0 cargs→C cargs fun e w'=> ∃ m' S',E8 ap h0 m1 S1 w out0 h0' m' S' w' e)→
   C cargs fun e w'=>Wx ap g m S w r.out r.ups e w':=by
 unfold tC at h
 simp only at h
 generalize E:sN n 6 (jy (dn args))=fp at h
 let rd:dR:=fun b=>match pG fp b with|true=>n b|false=>none
 have a:∀ b B,rd b=some B→b ∈ fp∧n b=some B:=by
  intro b B d
  dsimp only [rd] at d
  split at d
  ·rename_i G;exact ⟨jf.1 G,d⟩
  ·cases d
 split at h
 ·split at h
  ·cases h
  ·rename_i args' z
   obtain ⟨⟨out,u,md⟩,F,x,h⟩:=R.bind_ok h
   dsimp only at h
   split at h
   ·cases h
   ·split at h
    ·rename_i v
     split at h
     ·rename_i o
      cases h
      refine ⟨_,_,_,_,x,⟨fun _=> ⟨_,rfl⟩,fun _=> ⟨_,rfl⟩⟩, ?_⟩
      intro g m S w cargs C hmono t k l q s
      have j:kT 0 (kM.ret v)=(jZ nid v).2:=z_ Ko v 0 nid
      have:=zI t (rd:=rd) (fun b B d=>k b (a b B d).1 B (a b B d).2) (fun b B d=>(a b B d).1) (nid:=nid) z q hmono s (fun i p=>l i (by rw [j] at p;have:=gQ o;omega))
      rw [j] at this
      exact this
     ·cases h
    ·rename_i v
     cases h
     refine ⟨_,_,_,_,x,⟨(fun ⟨_,h⟩=>by cases h),(fun ⟨_,h⟩=>by cases h)⟩, ?_⟩
     intro g m S w cargs C hmono t k l q s
     exact zI t (rd:=rd) (fun b B d=>k b (a b B d).1 B (a b B d).2) (fun b B d=>(a b B d).1) (nid:=nid) z q hmono s (fun i p=>by simp [kT] at p)
 ·split at h
  ·cases h
  ·rename_i I y
   obtain ⟨⟨out,u,md⟩,F,x,h⟩:=R.bind_ok h
   dsimp only at h
   split at h
   ·cases h
   ·rename_i hcond
    simp only [Bool.and_eq_true] at hcond
    have D:=gQ hcond.1
    let vers:Nat→Nat:=fun b=>match rd b with|some B=>B.ver|none=>0
    have hvers':∀ b B,rd b=some B→vers b=B.ver:=by
     intro b B d;simp only [vers,d]
    let ρ':Nat→Nat→Option (Nat × Nat):=OD nid fp vers u.length
    split at h
    ·rename_i v
     split at h
     ·rename_i o
      cases h
      refine ⟨_,_,_,_,x,⟨fun _=> ⟨_,rfl⟩,fun _=> ⟨_,rfl⟩⟩, ?_⟩
      intro g m S w cargs C hmono t k l q s
      have j:kT u.length (kM.ret v)=(jZ (nid+(u.length - fp.length)) (ren ρ' v)).2:=(z_ (Gq ρ') v (nid+(u.length - fp.length)) u.length).symm
      have:=zJ t (rd:=rd) (fun b B d=>k b (a b B d).1 B (a b B d).2) y hcond.2 (nid:=nid) hvers' (ρ':=ρ') (fun b v=>rfl) rfl q hmono s D (fun i p=>l i (by rw [j] at p;exact Nat.lt_of_lt_of_le p (gQ o)))
      rw [j] at this
      exact this
     ·cases h
    ·rename_i v
     split at h
     ·rename_i o
      cases h
      refine ⟨_,_,_,_,x,⟨(fun ⟨_,h⟩=>by cases h),(fun ⟨_,h⟩=>by cases h)⟩, ?_⟩
      intro g m S w cargs C hmono t k l q s
      exact zJ t (rd:=rd) (fun b B d=>k b (a b B d).1 B (a b B d).2) y hcond.2 (nid:=nid) hvers' (ρ':=ρ') (fun b v=>rfl) rfl q hmono s D (fun i p=>l i (by simp only [kT,List.length_nil,Nat.add_zero] at p;exact Nat.lt_of_lt_of_le p (gQ o)))
     ·cases h
theorem BU (z:jX P ap H) {a:dR} {nid f:Nat} {args:List AV} {c q:Cx} {r:SE} (h:tC ap H a nid .dead f args c= .ok r q) (y:q.Ok):
  c.Ok∧yI P f∧∀ g m S w cargs,bY ap g m S w→(∀ b ∈ r.fp,∀ B,a b=some B→g b=some B)→(∀ i,i<4→g (nid+i)=none)→bF g m S args cargs→
   Calls P f cargs.toArray w fun e w'=>Wx ap g m S w r.out r.ups e w':=by
 obtain ⟨args0,h0,o,t,u,_,v⟩:=xE h
 obtain ⟨k,p⟩:=z _ _ _ _ _ _ _ _ u y
 refine ⟨k,p.ent,fun g m S w cargs A j l x=> ?_⟩
 exact v g m S w cargs (fun cargs R=>Calls P f cargs.toArray w R) (fun _ _ _ n d=>n.mono d) A j l x fun s S1 _ n d=>p.calls s S1 w cargs n d
end
end AM
namespace AM
open Go
def sS (dec:List (Nat × Bool)) (env:iV):Prop:=∀ t b,aG dec t=some b→env.get t= .bool b
def iG (g:dR) (m:bf) (S:aW):List (Nat × List AV)→List Deferred→Prop
 | [],[]=>True
 |d::r,cd::cr=>(∃ cap,cd.target= .fn (.func d.1) cap∧bF g m S d.2 (cd.args++cap).toList)∧iG g m S r cr
 |_,_=>False
theorem uD {g g':dR} {m e:bf} {S S':aW} (c:mi S S') (b:Ge g m g' e):∀ {l:List (Nat × List AV)} {ds:List Deferred},iG g m S l ds→iG g' e S' l ds
 | [],[],_=>by simp only [iG]
 |d::r,cd::cr,h=>by
  simp only [iG] at h ⊢
  obtain ⟨⟨a,f,i⟩,j⟩:=h
  exact ⟨⟨a,f,lJ c b _ i⟩,uD c b j⟩
 | [],_::_,h=>by simp [iG] at h
 |_::_,[],h=>by simp [iG] at h
theorem zF {g:dR} {m:bf} {S:aW}:∀ {l l':List (Nat × List AV)} {ds ds':List Deferred},iG g m S l ds→iG g m S l' ds'→iG g m S (l++l') (ds++ds')
 | [],_,[],_,_,h'=>by simpa using h'
 |d::r,_,cd::cr,_,h,h'=>by
  simp only [iG] at h
  simp only [List.cons_append,iG]
  exact ⟨h.1,zF h.2 h'⟩
 | [],_,_::_,_,h,_=>by simp [iG] at h
 |_::_,_,[],_,h,_=>by simp [iG] at h
def wpO (P:Program) (ops:Array Oper) (Q:Exit→Act→World→Prop) (o:Oper) (K:Act→World→Prop) (a:Act) (w:World):Prop:=
 if Region.wanted o (yielded ops a.tmps) then o.wp P a w K Q∨(o.asks P a w∧LetsOut Q) else K (a.put o.dst undef) w
def ZC (ap:AP) (o:Oper) (g:dR) (m:bf) (S:aW) (w:World) (a:Act) (v:AV) (ups:List (Nat × bi)) (df:List (Nat × List AV)) (Q:Exit→Act→World→Prop) (K:Act→World→Prop):Option AV→Prop
 |none=> ∀ cv m' S' w' ds,bY ap (dZ g ups) m' S' w'→Fr g m S w (dZ g ups) m' S' w'→VR (dZ g ups) m' S' v cv→iG (dZ g ups) m' S' df ds→K ({a with defers:=ds++a.defers}.put o.dst cv) w'
 |some pv=> ∀ cv m' S' w',bY ap (dZ g ups) m' S' w'→Fr g m S w (dZ g ups) m' S' w'→VR (dZ g ups) m' S' pv cv→Q (.panic [{v:=cv,recovered:=false}]) a w'
def Ho (P:Program) (ap:AP) (ops:Array Oper) (o:Oper) (nid:Nat) (env:iV) (hp:Hp) (rt rb:List Nat) (v:AV) (ups:List (Nat × bi)) (df:List (Nat × List AV)) (p:Option AV):Prop:=
 ∀ g m S w (a:Act),bY ap g m S w→(∀ t ∈ rt,VR g m S (env.get t) (a.tmps.getD t undef))→(∀ b ∈ rb,∀ B,aG hp b=some B→g b=some B)→(∀ i,i<4→g (nid+i)=none)→
  ∀ (Q:Exit→Act→World→Prop) (K:Act→World→Prop),ZC ap o g m S w a v ups df Q K p→wpO P ops Q o K a w
structure adY (P:Program) (ap:AP) (ops:Array Oper) (o:Oper) (nid:Nat) (s s':RS) (p:Option AV) (v:AV) (rt rb:List Nat) (ups:List (Nat × bi)) (df:List (Nat × List AV)):Prop where
 env:p=none→s'.env=pO s.env o.dst v
 envp:p ≠ none→s'.env=s.env∧df= []
 hp:s'.hp=ups++s.hp
 md:s'.md=s.md
 dfs:s'.dfs=df++s.dfs
 dec:p=none→sS s'.dec s'.env
 feet:p=none→s'.feet={rt,wt:=Ig o,rb,wb:=ups.map (·.1)}::s.feet
 sem:Ho P ap ops o nid s.env s.hp rt rb v ups df p
section
variable {P:Program} {ap:AP} {H:di}
theorem T_ (e:Array Value) (t:Nat) {v:Value} (h:e.getD t undef=v) (b:v ≠ undef):e[t]? =some v:=by
 rw [Array.getD_eq_getD_getElem?] at h
 cases a:e[t]? with
 |none=>rw [a] at h;exact absurd h.symm b
 |some u=>rw [a] at h;simpa using h
theorem EN {ops:Array Oper} {tmps:Array Value} {j s:Nat} (hs:(ops[j]?).bind (·.dst)=some s) {b:Bool} (h:tmps.getD s undef= .bool b):yielded ops tmps j=some b:=by
 unfold yielded
 rw [hs]
 simp only [Option.bind_some]
 rw [T_ tmps s h (by simp [undef])]
theorem Jf {ops:Array Oper} {tmps:Array Value} {j s:Nat} (hs:(ops[j]?).bind (·.dst)=some s) (h:tmps.getD s undef= .tuple #[]):yielded ops tmps j=none:=by
 unfold yielded
 rw [hs]
 simp only [Option.bind_some]
 rw [Array.getD_eq_getD_getElem?] at h
 cases a:tmps[s]? with
 |none=>rfl
 |some u=>
  rw [a] at h
  simp at h
  rw [h]
theorem wL {g:dR} {m:bf} {S:aW} {w:World} (d:bY ap g m S w) {env:iV} {a:Act} (x:Operand) (h:∀ t,x= .tmp t→VR g m S (env.get t) (a.tmps.getD t undef)):VR g m S (qo ap env x) (a.eval x):=by
 cases x with
 |tmp t=>exact h t rfl
 |const v=>exact iP _ (Js S v)
 | global k=>
  simp only [qo,Act.eval]
  cases c:(ap.gl[k]?).join with
  |none=>simp only [VR]
  |some xs=>
   obtain ⟨vs,e,b⟩:=d.glob k xs c
   simp only [VR,PR]
   exact ⟨k,0,vs,rfl,e,b⟩
 |func f=>
  simp only [qo,Act.eval,VR]
  exact ⟨[],[],rfl,by simp [bF],by simp [bF]⟩
theorem DF {l:List Operand} {t:Nat} (h:Operand.tmp t ∈ l):t ∈ uB l:=by
 simp only [uB,List.mem_filterMap]
 exact ⟨_,h,rfl⟩
theorem Ip {ops:List Oper} {env:iV} {dec e:List (Nat × Bool)} {o:Oper} {c C:Cx} {q:Bool} (h:Nc ops env dec o c= .ok (q,e) C) (u:C.Ok):
  c.Ok∧(sS dec env→sS e env∧(∀ t b,aG dec t=some b→aG e t=some b)∧∀ g m S (a:Act),(∀ t ∈ jF ops o,VR g m S (env.get t) (a.tmps.getD t undef))→Region.wanted o (yielded ops.toArray a.tmps)=q):=by
 unfold Nc at h
 unfold jF
 unfold Region.wanted
 split at h
 ·rename_i B
  cases h
  simp only [B]
  exact ⟨u,fun k=> ⟨k,fun _ _ h=>h,fun _ _ _ _ _=>trivial⟩⟩
 ·rename_i j i B
  simp only [B]
  split at h
  ·cases h
  ·rename_i s hs
   have l:(ops.toArray[j]?).bind (·.dst)=some s:=by simpa using hs
   split at h
   ·rename_i b n
    cases h
    refine ⟨u,fun k=> ⟨k,fun _ _ h=>h,fun g m S a p=> ?_⟩⟩
    have d:=p s (by simp)
    rw [k s b n] at d
    simp only [VR,PR] at d
    rw [EN l d]
    cases i<;>cases b<;>rfl
   ·rename_i D
    split at h
    ·rename_i b n
     obtain ⟨E,F,d,y⟩:=R.bind_ok h
     cases y
     obtain ⟨z,rfl⟩:=lg d u
     refine ⟨z,fun k=> ⟨?_, ?_,fun g m S a p=> ?_⟩⟩
     ·intro t x f
      simp only [aG] at f
      split at f
      ·rename_i A
       cases f
       rw [← aO A,n]
      ·exact k t x f
     ·intro t x f
      simp only [aG]
      split
      ·rename_i A
       rw [aO A] at D
       rw [D] at f;cases f
      ·exact f
     ·have d:=p s (by simp)
      rw [n] at d
      simp only [VR,PR] at d
      rw [EN l d]
      cases i<;>cases E<;>rfl
    ·rename_i n
     cases h
     refine ⟨u,fun k=> ⟨k,fun _ _ h=>h,fun g m S a p=> ?_⟩⟩
     have d:=p s (by simp)
     rw [n] at d
     simp only [VR] at d
     obtain ⟨vs,d,y⟩:=d
     cases vs with
     |nil=>rw [Jf l d];rfl
     |cons v r=>simp [bF] at y
    ·cases h
theorem J5 {env:iV} {o:Oper} {v:AV} {t:Nat} (h:∀ d,o.dst=some d→d ≠ t):(pO env o.dst v).get t=env.get t:=by
 unfold pO
 split
 ·rename_i d a
  simp only [iV.get,aG]
  split
  ·rename_i b;exact absurd (aO b) (h d a)
  ·rfl
 ·rfl
theorem xI {dec:List (Nat × Bool)} {env:iV} {o:Oper} {v:AV} (e:sS dec env) (a:TS dec o=true):sS dec (pO env o.dst v):=by
 intro t b c
 rw [J5]
 ·exact e t b c
 ·rintro d hdd rfl
  unfold TS at a
  rw [hdd] at a
  simp [c] at a
end
end AM
namespace AM
open Go
section
variable {P:Program} {ap:AP} {H:di}
theorem Ue {c:Cx} {dst:Option Nat} {v:AV} (h:(CY c dst v).2.Ok):c.Ok∧aZ v (CY c dst v).1:=by
 obtain ⟨cl,orc,bs,ps,ans,hs⟩:=c
 unfold CY at h ⊢
 dsimp only at h ⊢
 split at h
 ·rename_i d x r i
  split at h
  ·rename_i a
   have e:aZ v x:=h.ps _ (List.mem_cons_self ..)
   refine ⟨⟨h.bs,fun p hp=>h.ps p (List.mem_cons_of_mem _ hp)⟩, ?_⟩
   simp only [a]
   exact e
  ·rename_i a
   refine ⟨h, ?_⟩
   simp only [a]
   exact fun _ _ _ _ b=>b
 ·rename_i f
  exact ⟨h,fun _ _ _ _ b=>b⟩
theorem Ud {c:Cx} {dst:Option Nat} (h:(OW c dst).2.Ok):c.Ok:=by
 obtain ⟨cl,orc,bs,ps,ans,hs⟩:=c
 unfold OW at h
 dsimp only at h
 split at h
 ·split at h
  ·exact ⟨h.bs,h.ps⟩
  ·exact h
 ·exact h
theorem Uc {c:Cx} {dst:Option Nat} {ups:List (Nat × bi)} (h:(CX c dst ups).2.Ok):c.Ok∧(CX c dst ups).1=ups:=by
 obtain ⟨cl,orc,bs,ps,ans,hs⟩:=c
 unfold CX at h ⊢
 dsimp only at h ⊢
 split at h
 ·rename_i d e r j b B
  split at h
  ·rename_i a
   have f:B.cells=e:=h.ps _ (List.mem_cons_self ..)
   refine ⟨⟨h.bs,fun p hp=>h.ps p (List.mem_cons_of_mem _ hp)⟩, ?_⟩
   simp only [a,← f]
  ·rename_i a
   refine ⟨h, ?_⟩
   simp only [a]
 ·rename_i i
  exact ⟨h,rfl⟩
theorem Ac {a:Act} {g:Operand} {args:Array Operand} {argTypes:Array TypeId} {ty:TypeId} {f:Nat} {first b:Array Value} (h:a.eval g= .func (.func f) first b) (w:World):
  (resolve a.eval {callee:= .value g,args,argTypes} ty).run P w= .ok {target:= .fn (.func f) b,args:=first++args.map a.eval} w:=by
 simp only [resolve,h,Deferred.ofValue]
 rfl
theorem Fq {a:Act} {g:Operand} {args:Array Operand} {argTypes:Array TypeId} {ty:TypeId} {f:Nat} {first b:Array Value} (h:a.eval g= .func (.func f) first b) (c:yI P f) (w:World):
  (do let d ← resolve a.eval {callee:= .value g,args,argTypes} ty;invoke d.target d.args:Sem Next).run P w= .ok (.enter f ((first++args.map a.eval)++b)) w:=by
 rw [Sem.run_bind,Ac h,Result.andThen_ok]
 exact c _ _
theorem Jv {g:dR} {m:bf} {S:aW} {ρ:Operand→AV} {cρ:Operand→Value} {args:Array Operand} (h:∀ o ∈ args,VR g m S (ρ o) (cρ o)):bF g m S (args.toList.map ρ) (args.map cρ).toList:=by
 rw [Array.toList_map]
 exact uG _ fun o a=>h o (by simpa using a)
theorem yX:∀ {l:Hp} {b:Nat} {B:bi},aG l b=some B→(b,B) ∈ l
 | [],_,_,h=>by cases h
 | (k,X)::r,b,B,h=>by
  simp only [aG] at h
  split at h
  ·rename_i a
   cases h
   have:=aO a
   subst this
   exact List.mem_cons_self ..
  ·exact List.mem_cons_of_mem _ (yX h)
theorem Dz {α β:Type} {f g:α→β}:∀ {l:List α},l.map f=l.map g→∀ {x:α},x ∈ l→f x=g x
 | [],_,_,h=>by cases h
 |a::r,h,x,hx=>by
  simp only [List.map_cons,List.cons.injEq] at h
  rcases List.mem_cons.1 hx with rfl|hx
  ·exact h.1
  ·exact Dz h.2 hx
theorem rP (hap:jd P ap) (hH:jX P ap H) {nid:Nat} {ops:List Oper} {o:Oper} {s s':RS} {p:Option AV} {c c':Cx} (h:Lj ap H nid ops o s c= .ok (s',p) c') (U:c'.Ok):
  c.Ok∧(s.md= .dead→sS s.dec s.env→∃ v rb ups df,adY P ap ops.toArray o nid s s' p v (uB o.op.operands.toList++jF ops o) rb ups df):=by
 unfold Lj at h
 obtain ⟨⟨run,dec⟩,c1,e1,h⟩:=R.bind_ok h
 dsimp only at h
 split at h
 ·cases h
 rename_i F
 have hguard:∀ c1ok:c1.Ok,c.Ok∧(sS s.dec s.env→sS dec s.env∧(∀ t b,aG s.dec t=some b→aG dec t=some b)∧∀ g m S (a:Act),(∀ t ∈ jF ops o,VR g m S (s.env.get t) (a.tmps.getD t undef))→Region.wanted o (yielded ops.toArray a.tmps)=run):=fun hk=>Ip e1 hk
 have N:∀ {g:dR} {m:bf} {S:aW} {w:World} {a:Act},bY ap g m S w→(∀ t ∈ uB o.op.operands.toList++jF ops o,VR g m S (s.env.get t) (a.tmps.getD t undef))→∀ x ∈ o.op.operands,VR g m S (qo ap s.env x) (a.eval x):=by
  intro g m S w a j i x Y
  refine wL j x fun t ht=>i t ?_
  subst ht
  exact List.mem_append.2 (.inl (DF (by simpa using Y)))
 split at h
 ·
  cases h
  obtain ⟨A,hg⟩:=hguard U
  refine ⟨A,fun T d=> ?_⟩
  obtain ⟨X,_,hw⟩:=hg d
  refine ⟨.tup [],[],[],[],⟨fun _=>rfl,fun h=>absurd rfl h,rfl,rfl,rfl,fun _=>xI X F,fun _=>rfl, ?_⟩⟩
  intro g m S w a j i _ _ Q K O
  unfold wpO
  rw [hw g m S a fun t ht=>i t (List.mem_append.2 (.inr ht))]
  simp only [Bool.false_eq_true,if_false]
  have:=O undef m S w [] (by rw [f_];exact j) (by rw [f_];exact Fr.refl _ _ _ _) (by simp only [VR];exact ⟨[],rfl,by simp [bF]⟩) (by simp [iG])
  exact this
 ·
  have hwant:∀ (Q:Exit→Act→World→Prop) (K:Act→World→Prop) (g:dR) (m:bf) (S:aW) (a:Act) (w:World),c1.Ok→sS s.dec s.env→(∀ t ∈ uB o.op.operands.toList++jF ops o,VR g m S (s.env.get t) (a.tmps.getD t undef))→o.wp P a w K Q→wpO P ops.toArray Q o K a w:=by
   intro Q K g m S a w hk d i hh
   obtain ⟨_,_,hw⟩:=(hguard hk).2 d
   unfold wpO
   rw [hw g m S a fun t ht=>i t (List.mem_append.2 (.inr ht))]
   simp only [if_true]
   exact .inl hh
  split at h
  ·
   rename_i gf args argTypes k
   split at h
   ·rename_i f first cap hf
    obtain ⟨r,c2,e2,h⟩:=R.bind_ok h
    have Z:c2.Ok:=by
     revert h
     cases hu:OW c2 o.dst with
     | mk u c3=>
      have D:c3.Ok→c2.Ok:=fun hk=>Ud (by rw [hu];exact hk)
      cases u with
      | true=>
       dsimp only
       cases r.out with
       |ret v=>
        dsimp only
        split
        ·intro h;cases h;exact D ⟨U.bs,fun p hp=>U.ps p (List.mem_cons_of_mem _ hp)⟩
        ·intro h;cases h
       |pan v=>intro h;cases h
      |false=>dsimp only;cases r.out<;>intro h<;>cases h<;>exact D U
    obtain ⟨I,hE,hcall⟩:=BU hH e2 Z
    obtain ⟨A,hg⟩:=hguard I
    refine ⟨A,fun T d=> ?_⟩
    obtain ⟨X,_,_⟩:=hg d
    have hargs:∀ {g:dR} {m:bf} {S:aW} {w:World} {a:Act},bY ap g m S w→(∀ t ∈ uB o.op.operands.toList++jF ops o,VR g m S (s.env.get t) (a.tmps.getD t undef))→
      ∃ M J:List Value,a.eval gf= .func (.func f) M.toArray J.toArray∧bF g m S (first++args.toList.map (qo ap s.env)++cap) ((M++(args.map a.eval).toList)++J):=by
     intro g m S w a j i
     have y:=N j i
     rw [k] at y
     have z:=y gf (by simp [Op.operands,Call.operands])
     rw [hf] at z
     simp only [VR] at z
     obtain ⟨M,J,D,L,G⟩:=z
     exact ⟨M,J,D,iH (iH L (Jv fun x Y=>y x (by simp [Op.operands,Call.operands,Y]))) G⟩
    have W:∀ {a:Act} {M J:List Value} (w:World),a.eval gf= .func (.func f) M.toArray J.toArray→(execOp a.eval o).run P w= .ok (.enter f (((M++(args.map a.eval).toList)++J).toArray)) w:=by
     intro a M J w he
     have:=Fq (args:=args) (argTypes:=argTypes) (ty:=o.type) he hE w
     unfold execOp
     rw [k]
     dsimp only
     rw [this]
     congr 2
     apply Array.toList_inj.1
     simp
    split at h
    ·rename_i c3 hu
     split at h
     ·rename_i v E
      split at h
      ·rename_i hall
       cases h
       have heq:r.ups.map (fun (q:Nat × bi)=>some q.2)=r.ups.map (fun (q:Nat × bi)=>aG s.hp q.1):=U.ps _ (List.mem_cons_self ..)
       refine ⟨v,r.fp,[],[],⟨fun _=>rfl,fun h=>absurd rfl h,rfl,rfl,rfl,fun _=>xI X F,fun _=>rfl, ?_⟩⟩
       intro g m S w a j i l C Q K O
       have hg':dZ g r.ups=g:=by
        funext b
        unfold dZ
        cases hl:aG r.ups b with
        |none=>rfl
        |some B=>
         have hm:=yX hl
         have y:=Dz heq hm
         exact (l b (jf.1 (List.all_eq_true.1 hall _ hm)) B y.symm).symm
       refine hwant Q K g m S a w I d i ?_
       obtain ⟨M,J,y,z⟩:=hargs j i
       unfold Oper.wp
       rw [W w y]
       refine (hcall g m S w _ j l C z).mono ?_
       rintro e w' ⟨m',S',D,L,G⟩
       rw [E] at G
       obtain ⟨cv,rfl,h6⟩:=G
       rw [hg'] at D L h6
       exact O cv m' S' w' [] D L h6 (by simp [iG])
      ·cases h
     ·cases h
    ·rename_i c3 hu
     split at h
     ·rename_i v E
      cases h
      refine ⟨v,r.fp,r.ups,[],⟨fun _=>rfl,fun h=>absurd rfl h,rfl,rfl,rfl,fun _=>xI X F,fun _=>rfl, ?_⟩⟩
      intro g m S w a j i l C Q K O
      refine hwant Q K g m S a w I d i ?_
      obtain ⟨M,J,y,z⟩:=hargs j i
      unfold Oper.wp
      rw [W w y]
      refine (hcall g m S w _ j l C z).mono ?_
      rintro e w' ⟨m',S',D,L,G⟩
      rw [E] at G
      obtain ⟨cv,rfl,h6⟩:=G
      exact O cv m' S' w' [] D L h6 (by simp [iG])
     ·rename_i v E
      cases h
      refine ⟨v,r.fp,r.ups,[],⟨fun h=>(by cases h),fun _=> ⟨rfl,rfl⟩,rfl,rfl,rfl,fun h=>(by cases h),fun h=>(by cases h), ?_⟩⟩
      intro g m S w a j i l C Q K O
      refine hwant Q K g m S a w I d i ?_
      obtain ⟨M,J,y,z⟩:=hargs j i
      unfold Oper.wp
      rw [W w y]
      refine (hcall g m S w _ j l C z).mono ?_
      rintro e w' ⟨m',S',D,L,G⟩
      rw [E] at G
      obtain ⟨cv,rfl,h6⟩:=G
      exact O cv m' S' w' D L h6
   ·cases h
  ·
   split at h
   ·cases h
    exact ⟨(hguard U).1,fun T=>by simp_all⟩
   ·cases h
    exact ⟨(hguard U).1,fun T=>by simp_all⟩
   ·cases h
  ·
   rename_i gf args argTypes k
   split at h
   ·rename_i f first cap hf
    cases h
    obtain ⟨A,hg⟩:=hguard U
    refine ⟨A,fun T d=> ?_⟩
    obtain ⟨X,_,_⟩:=hg d
    refine ⟨.dead,[],[],[(f,first++args.toList.map (qo ap s.env)++cap)],⟨fun _=>rfl,fun h=>absurd rfl h,rfl,rfl,rfl,fun _=>xI X F,fun _=>rfl, ?_⟩⟩
    intro g m S w a j i l C Q K O
    refine hwant Q K g m S a w U d i ?_
    have y:=N j i
    rw [k] at y
    have z:=y gf (by simp [Op.operands,Call.operands])
    rw [hf] at z
    simp only [VR] at z
    obtain ⟨M,J,D,L,G⟩:=z
    unfold Oper.wp
    have hr:(execOp a.eval o).run P w= .ok (.defer {target:= .fn (.func f) J.toArray,args:=M.toArray++args.map a.eval}) w:=by
     unfold execOp
     rw [k]
     dsimp only
     rw [Sem.run_bind,Ac D,Result.andThen_ok]
     rfl
    rw [hr]
    refine O undef m S w [{target:= .fn (.func f) J.toArray,args:=M.toArray++args.map a.eval}] (by rw [f_];exact j) (by rw [f_];exact Fr.refl _ _ _ _) (by simp only [VR]) ?_
    simp only [iG,f_,and_true]
    refine ⟨J.toArray,rfl, ?_⟩
    have:=iH (iH L (Jv (args:=args) fun x Y=>y x (by simp [Op.operands,Call.operands,Y]))) G
    simpa using this
   ·cases h
  ·
   rename_i x k
   split at h
   ·rename_i t v Y
    cases h
    obtain ⟨A,hg⟩:=hguard U
    refine ⟨A,fun T d=> ?_⟩
    obtain ⟨X,_,_⟩:=hg d
    refine ⟨.dead,[],[],[],⟨fun h=>(by cases h),fun _=> ⟨rfl,rfl⟩,rfl,rfl,rfl,fun h=>(by cases h),fun h=>(by cases h), ?_⟩⟩
    intro g m S w a j i l C Q K O
    refine hwant Q K g m S a w U d i ?_
    have y:=N j i
    rw [k] at y
    have z:=y x (by simp [Op.operands])
    rw [Y] at z
    have h2':=z
    simp only [VR] at h2'
    obtain ⟨u,D,L⟩:=h2'
    unfold Oper.wp
    have hr:(execOp a.eval o).run P w= .halt (.panic (a.eval x)) w:=by
     unfold execOp
     rw [k]
     dsimp only
     rw [D]
     rfl
    rw [hr]
    exact O _ m S w (by rw [f_];exact j) (by rw [f_];exact Fr.refl _ _ _ _) (by rw [f_];exact z)
   ·cases h
  ·
   rename_i op n1 n2 n3 n4
   obtain ⟨em,c2,e2,h⟩:=R.bind_ok h
   split at h
   ·cases h
   ·rename_i v ups bs k
    obtain ⟨_,c3,e3,h⟩:=R.bind_ok h
    have hv1:(CY c3 o.dst v).2.Ok→c3.Ok∧aZ v (CY c3 o.dst v).1:=Ue
    generalize CY c3 o.dst v=q1 at h hv1
    obtain ⟨v1,c4⟩:=q1
    dsimp only at h hv1
    have hv2:(CX c4 o.dst ups).2.Ok→c4.Ok∧(CX c4 o.dst ups).1=ups:=Uc
    generalize CX c4 o.dst ups=q2 at h hv2
    obtain ⟨ups1,c5⟩:=q2
    dsimp only at h hv2
    cases h
    obtain ⟨hc4,hups⟩:=hv2 U
    subst hups
    obtain ⟨hc3,hfit⟩:=hv1 hc4
    obtain ⟨Z,hbs⟩:=Ii e3 hc3
    have hem:c1.Ok∧∀ n,xN (qo ap s.env) o.op=some n→Nat.beq n 0=em:=by
     split at e2
     ·rename_i n hn
      obtain ⟨hk,rfl⟩:=lg e2 Z
      exact ⟨hk,fun n' V=>by rw [hn] at V;cases V;rfl⟩
     ·rename_i hn
      cases e2
      exact ⟨Z,fun n' V=>by rw [hn] at V;cases V⟩
    obtain ⟨I,hem⟩:=hem
    obtain ⟨A,hg⟩:=hguard I
    refine ⟨A,fun T d=> ?_⟩
    obtain ⟨X,_,_⟩:=hg d
    refine ⟨v1,Vh (qo ap s.env) o.op,ups1,[],⟨fun _=>rfl,fun h=>absurd rfl h,rfl,rfl,rfl,fun _=>xI X F,fun _=>rfl, ?_⟩⟩
    intro g m S w a j i l C Q K O
    refine hwant Q K g m S a w I d i ?_
    have y:=N j i
    have hok:=QM hap j (nid:=nid) (C 0 (by omega)) (ρ:=qo ap s.env) (cρ:=a.eval) (fun b B hb=>by
      split at hb
      ·rename_i hm;exact l b (jf.1 hm) B hb
      ·cases hb) o y (dec:=fun| .tmp t=>aG dec t|_=>none) (fun x Y b hb=>by
      split at hb
      ·rename_i t
       have:=i t (List.mem_append.2 (.inl (DF (by simpa using Y))))
       rw [X t b hb] at this
       simp only [VR,PR] at this
       exact this
      ·cases hb) hem k hbs
    obtain ⟨nx,m',w',z,D,L,G⟩:=hok
    unfold Oper.wp
    rw [z]
    rcases G with ⟨cv,rfl,G⟩|⟨rfl,rfl⟩
    ·exact O cv m' S w' [] D L (hfit _ _ _ _ G) (by simp [iG])
    ·exact O undef m' S w' [] D L (hfit _ _ _ _ (by simp only [VR])) (by simp [iG])
end
end AM
namespace AM
open Go
theorem qF:∀ {hp:Hp} {b:Nat} {B:bi},aG hp b=some B→b<iI hp
 | [],b,B,h=>by simp [aG] at h
 | (c,C)::r,b,B,h=>by
  simp only [aG] at h
  simp only [iI]
  split at h
  ·rename_i d
   have d:=aO d
   subst d
   split
   ·rename_i a;exact gm a
   ·omega
  ·have f:=qF h
   split
   ·exact f
   ·rename_i a
    have:¬ c<iI r:=fun e=>by
     have:Nat.blt c (iI r)=true:=by
      show Nat.ble (c+1) (iI r)=true
      exact Nat.ble_eq_true_of_le e
     rw [this] at a;cases a
    omega
theorem Dw:∀ {l:Hp} {b:Nat} {B:bi},aG l b=some B→b ∈ l.map (·.1)
 | [],b,B,h=>by simp [aG] at h
 |(c,C)::r,b,B,h=>by
  simp only [aG] at h
  split at h
  ·rename_i a;simp [aO a]
  ·simp [Dw h]
structure FR (ap:AP) (env:iV) (hp:Hp) (dfs:List (Nat × List AV)) (nt:Nat) (m:bf) (S:aW) (w:World) (a:Act):Prop where
 srel:bY ap (aG hp) m S w
 env:∀ t,VR (aG hp) m S (env.get t) (a.tmps.getD t undef)
 dfs:iG (aG hp) m S dfs a.defers
 size:a.tmps.size=nt
theorem KN (a:Act) (d:Option Nat) (v:Value):(a.put d v).tmps.size=a.tmps.size:=by
 cases d<;>simp [Act.put]
theorem DX (a:Act) (d:Option Nat) (v:Value):(a.put d v).defers=a.defers:=by
 cases d<;>simp [Act.put]
theorem DZ (a:Act) (d:Option Nat) (v:Value) {t:Nat} (h:d ≠ some t):(a.put d v).tmps.getD t undef=a.tmps.getD t undef:=by
 cases d with
 |none=>rfl
 |some d=>
  have b:d ≠ t:=fun e=>h (by rw [e])
  simp only [Act.put,Array.getD_eq_getD_getElem?]
  rw [Array.getElem?_setIfInBounds_ne b]
theorem DY (a:Act) (d:Nat) (v:Value) (h:d<a.tmps.size):(a.put (some d) v).tmps.getD d undef=v:=by
 simp only [Act.put,Array.getD_eq_getD_getElem?]
 rw [Array.getElem?_setIfInBounds_self_of_lt h];rfl
theorem jo {env:iV} {d:Nat} {v:AV}:(pO env (some d) v).get d=v:=by simp [pO,iV.get,aG]
theorem xU {env:iV} {dst:Option Nat} {v:AV} {t:Nat} (h:dst ≠ some t):(pO env dst v).get t=env.get t:=by
 cases dst with
 |none=>rfl
 | some d=>
  have a:Nat.beq d t=false:=by
   cases b:Nat.beq d t with
   |false=>rfl
   |true=>exact absurd (by rw [aO b]) h
  simp [pO,iV.get,aG,a]
section
variable {P:Program} {ap:AP} {H:di}
theorem FR.put {env:iV} {hp ups:Hp} {dfs e:List (Nat × List AV)} {nt:Nat} {m b:bf} {S S':aW} {w w':World} {a:Act} (h:FR ap env hp dfs nt m S w a) {dst:Option Nat} (f:∀ d,dst=some d→d<nt) {v:AV} {cv:Value} {c:List Deferred}
  (h1:bY ap (dZ (aG hp) ups) b S' w') (h2:Fr (aG hp) m S w (dZ (aG hp) ups) b S' w') (h3:VR (dZ (aG hp) ups) b S' v cv) (h4:iG (dZ (aG hp) ups) b S' e c):
  FR ap (pO env dst v) (ups++hp) (e++dfs) nt b S' w' ({a with defers:=c++a.defers}.put dst cv):=by
 rw [kJ] at h1 h2 h3 h4
 refine ⟨h1, ?_, ?_, ?_⟩
 ·intro t
  by_cases ht:dst=some t
  ·subst ht
   rw [jo,DY _ _ _ (by have:=f t rfl;have:=h.size;simpa [this] using f t rfl)]
   exact h3
  ·rw [xU ht,DZ _ _ _ ht]
   exact oq h2.sle h2.ge _ (h.env t)
 ·rw [DX]
  exact zF h4 (uD h2.sle h2.ge h.dfs)
 ·rw [KN];exact h.size
theorem FR.still {env:iV} {hp ups:Hp} {dfs:List (Nat × List AV)} {nt:Nat} {m b:bf} {S S':aW} {w w':World} {a:Act} (h:FR ap env hp dfs nt m S w a)
  (h1:bY ap (dZ (aG hp) ups) b S' w') (h2:Fr (aG hp) m S w (dZ (aG hp) ups) b S' w'):FR ap env (ups++hp) dfs nt b S' w' a:=by
 rw [kJ] at h1 h2
 exact ⟨h1,fun t=>oq h2.sle h2.ge _ (h.env t),uD h2.sle h2.ge h.dfs,h.size⟩
def xq (ap:AP) (hp0:Hp) (m:bf) (S:aW) (w:World) (nt:Nat) (env:iV) (hp:Hp) (dfs:List (Nat × List AV)) (Q:Exit→Act→World→Prop):Option AV→Prop
 |none=> ∀ m' S' w' a',Fr (aG hp0) m S w (aG hp) m' S' w'→FR ap env hp dfs nt m' S' w' a'→Q .normal a' w'
 |some v=> ∀ m' S' w' a' cv,Fr (aG hp0) m S w (aG hp) m' S' w'→FR ap env hp dfs nt m' S' w' a'→VR (aG hp) m' S' v cv→Q (.panic [{v:=cv,recovered:=false}]) a' w'
theorem sK {ops:Array Oper} {Q:Exit→Act→World→Prop} {i:Nat} {o:Oper} (b:ops[i]? =some o) (rest:List Nat) (a:Act) (w:World):wpOps P ops Q (i::rest) a w↔wpO P ops Q o (wpOps P ops Q rest) a w:=by
 simp only [wpOps,b,wpO]
theorem Ny {hp ups:Hp} {nid:Nat} (d:∀ b B,aG hp b=some B→b<nid) (f:(ups.map (·.1)).all (fun x=>Nat.blt x (nid+4))=true):∀ b B,aG (ups++hp) b=some B→b<nid+4:=by
 intro b B a
 rw [iw] at a
 split at a
 ·rename_i x c
  have e:b ∈ ups.map (·.1):=Dw c
  exact gm (List.all_eq_true.1 f b e)
 ·have:=d b B a;omega
theorem mP (C:jd P ap) (hH:jX P ap H) {ops:List Oper} {nt:Nat} (L:∀ o ∈ ops,∀ d,o.dst=some d→d<nt):∀ (l:List Oper) (i nid:Nat) (s s':RS) (p:Option AV) (c c':Cx),rQ ap H ops l nid s c= .ok (s',p) c'→c'.Ok→
  c.Ok∧(s.md= .dead→sS s.dec s.env→l=ops.drop i→(∀ b B,aG s.hp b=some B→b<nid)→
  s'.md= .dead∧∀ m S w a,FR ap s.env s.hp s.dfs nt m S w a→∀ Q,xq ap s.hp m S w nt s'.env s'.hp s'.dfs Q p→wpOps P ops.toArray Q (List.range' i l.length) a w)
 | [],i,nid,s,s',p,c,c',h,hc=>by
  cases h
  exact ⟨hc,fun e _ _ _=> ⟨e,fun m S w a y Q x=>x m S w a (Fr.refl _ _ _ _) y⟩⟩
 | o ::r,i,nid,s,s',p,c,c',h,hc=>by
  simp only [rQ] at h
  obtain ⟨⟨s1,p1⟩,c1,e1,h⟩:=R.bind_ok h
  dsimp only at h
  have hfresh:(∀ b B,aG s.hp b=some B→b<nid)→∀ j,j<4→aG s.hp (nid+j)=none:=by
   intro G j _
   cases hb:aG s.hp (nid+j) with
   |none=>rfl
   |some B=>have:=G _ _ hb;omega
  have z:o::r=ops.drop i→ops[i]? =some o∧ops.toArray[i]? =some o∧r=ops.drop (i+1)∧∀ d,o.dst=some d→d<nt:=by
   intro I
   have n:ops[i]? =some o:=by
    have:(ops.drop i)[0]? =some o:=by rw [← I];rfl
    simpa using this
   have O:r=ops.drop (i+1):=by
    have:r=(ops.drop i).drop 1:=by rw [← I];rfl
    rw [this,List.drop_drop]
   exact ⟨n,by simpa using n,O,L o (List.mem_of_getElem? n)⟩
  cases p1 with
  |some v=>
   cases h
   obtain ⟨D,F⟩:=rP C hH e1 hc
   refine ⟨D,fun e f I G=> ?_⟩
   obtain ⟨n,k,O,hd⟩:=z I
   obtain ⟨v1,rb,ups,df,hs⟩:=F e f
   refine ⟨by rw [hs.md,e],fun m S w a y Q x=> ?_⟩
   rw [List.length_cons,List.range'_succ,sK k]
   refine hs.sem (aG s.hp) m S w a y.srel (fun t _=>y.env t) (fun b _ B hB=>hB) (hfresh G) Q _ ?_
   intro cv V S' w' h1 u N
   have U:=y.still h1 u
   rw [kJ] at u N
   obtain ⟨q,rfl⟩:=hs.envp (by simp)
   have x:=x V S' w' a cv
   rw [hs.hp,hs.dfs,q] at x
   exact x u U N
  | none=>
   dsimp only at h
   cases A:s1.feet with
   |nil=>rw [A] at h;cases h
   | cons ft fr=>
    rw [A] at h
    dsimp only at h
    split at h
    ·rename_i K
     obtain ⟨hc1,Z⟩:=mP C hH L r (i+1) (nid+4) s1 s' p c1 c' h hc
     obtain ⟨D,F⟩:=rP C hH e1 hc1
     refine ⟨D,fun e f I G=> ?_⟩
     obtain ⟨n,k,O,hd⟩:=z I
     obtain ⟨v1,rb,ups,df,hs⟩:=F e f
     have E:=hs.feet rfl
     rw [A] at E
     simp only [List.cons.injEq] at E
     rw [E.1] at K
     obtain ⟨M,Z⟩:=Z (by rw [hs.md,e]) (hs.dec rfl) O (by rw [hs.hp];exact Ny G K)
     refine ⟨M,fun m S w a y Q x=> ?_⟩
     rw [List.length_cons,List.range'_succ,sK k]
     refine hs.sem (aG s.hp) m S w a y.srel (fun t _=>y.env t) (fun b _ B hB=>hB) (hfresh G) Q _ ?_
     intro cv V S' w' ds h1 u N h4
     have J:=y.put hd h1 u N h4
     rw [kJ] at u
     have q:=hs.env rfl
     rw [← q,← hs.hp,← hs.dfs] at J
     refine Z V S' w' _ J Q ?_
     rw [← hs.hp] at u
     cases p with
     |none=>exact fun X S2 Y a2 W T=>x X S2 Y a2 (u.trans W) T
     |some v=>exact fun X S2 Y a2 cv2 W T h7=>x X S2 Y a2 cv2 (u.trans W) T h7
    ·cases h
end
end AM
namespace AM
open Go
structure kz where
 dst:Option Nat
 v:AV
 rt:List Nat
 rb:List Nat
 ups:List (Nat × bi)
def OQ (d:Option Nat):List Nat:=match d with|some d=> [d]|none=> []
def kz.foot (r:kz):wC:={rt:=r.rt,wt:=OQ r.dst,rb:=r.rb,wb:=r.ups.map (·.1)}
def lS (D:Nat→Bool):Nat→iV→List kz→iV
 |_,e,[]=>e
 |j,e,r::rs=>lS D (j+1) (match D j with|true=>pO e r.dst r.v|false=>e) rs
def n_ (D:Nat→Bool):Nat→Hp→List kz→Hp
 |_,h,[]=>h
 |j,h,r::rs=>n_ D (j+1) (match D j with|true=>r.ups++h|false=>h) rs
theorem ny {D D':Nat→Bool} {t:Nat}:∀ (rs:List kz) (j:Nat) (e e':iV),e.get t=e'.get t→(∀ k r,rs[k]? =some r→r.dst=some t→D (j+k)=D' (j+k))→(lS D j e rs).get t=(lS D' j e' rs).get t
 | [],_,_,_,he,_=>he
 | r::rs,j,e,e',he,h=>by
  simp only [lS]
  refine ny rs (j+1) _ _ ?_ fun k r' b a=> ?_
  ·by_cases a:r.dst=some t
   ·have h0:=h 0 r rfl a
    rw [Nat.add_zero] at h0
    rw [h0]
    cases D' j with
    |true=>simp only [a,jo]
    |false=>exact he
   ·cases D j<;>cases D' j<;>simp only [xU a,he]
  ·have:=h (k+1) r' (by simpa using b) a
   rwa [show j+(k+1)=j+1+k by omega] at this
theorem IA:∀ {l:Hp} {b:Nat},b ∉ l.map (·.1)→aG l b=none:=by
 intro l b h
 cases a:aG l b with
 |none=>rfl
 |some B=>exact absurd (Dw a) h
theorem qX {ups hp:Hp} {b:Nat} (h:b ∉ ups.map (·.1)):aG (ups++hp) b=aG hp b:=by
 rw [iw,IA h]
theorem uj:∀ {l:Hp} {b:Nat},b ∈ l.map (·.1)→∃ B,aG l b=some B
 | [],b,h=>by simp at h
 | (c,C)::r,b,h=>by
  simp only [aG]
  cases a:Nat.beq c b with
  |true=>exact ⟨C,rfl⟩
  |false=>
   simp only [List.map_cons,List.mem_cons] at h
   rcases h with h|h
   ·subst h;simp at a
   ·exact uj h
theorem yc {ups hp hp':Hp} {b:Nat} (h:b ∈ ups.map (·.1)):aG (ups++hp) b=aG (ups++hp') b:=by
 obtain ⟨B,a⟩:=uj h
 rw [iw,iw,a]
theorem qw {D D':Nat→Bool} {b:Nat}:∀ (rs:List kz) (j:Nat) (h h':Hp),aG h b=aG h' b→(∀ k r,rs[k]? =some r→b ∈ r.ups.map (·.1)→D (j+k)=D' (j+k))→aG (n_ D j h rs) b=aG (n_ D' j h' rs) b
 | [],_,_,_,he,_=>he
 | r::rs,j,e,e',he,h=>by
  simp only [n_]
  refine qw rs (j+1) _ _ ?_ fun k r' c a=> ?_
  ·by_cases a:b ∈ r.ups.map (·.1)
   ·have h0:=h 0 r rfl a
    rw [Nat.add_zero] at h0
    rw [h0]
    cases D' j with
    |true=>exact yc a
    |false=>exact he
   ·cases D j<;>cases D' j<;>simp only [qX a,he]
  ·have:=h (k+1) r' (by simpa using c) a
   rwa [show j+(k+1)=j+1+k by omega] at this
theorem uO:∀ (a:List kz) (j:Nat) (e:iV) {D:Nat→Bool},(∀ k,k<a.length→D (j+k)=false)→lS D j e a=e
 | [],_,_,_,_=>rfl
 |r::a,j,e,D,h=>by
  have h0:=h 0 (by simp)
  rw [Nat.add_zero] at h0
  simp only [lS,h0]
  exact uO a (j+1) e fun k b=>by have:=h (k+1) (by simpa using b);rwa [show j+(k+1)=j+1+k by omega] at this
theorem nG:∀ (a:List kz) (j:Nat) (e:Hp) {D:Nat→Bool},(∀ k,k<a.length→D (j+k)=false)→n_ D j e a=e
 | [],_,_,_,_=>rfl
 |r::a,j,e,D,h=>by
  have h0:=h 0 (by simp)
  rw [Nat.add_zero] at h0
  simp only [n_,h0]
  exact nG a (j+1) e fun k b=>by have:=h (k+1) (by simpa using b);rwa [show j+(k+1)=j+1+k by omega] at this
def nZ (e:iV) (rs:List kz):iV:=lS (fun _=>true) 0 e rs
def C9 (h:Hp) (rs:List kz):Hp:=n_ (fun _=>true) 0 h rs
theorem wK (D:Nat→Bool):∀ (rs:List kz) (j d:Nat) (e:iV),lS D (j+d) e rs=lS (fun k=>D (k+d)) j e rs
 | [],_,_,_=>rfl
 |r::rs,j,d,e=>by
  simp only [lS]
  rw [show j+d+1=j+1+d by omega]
  exact wK D rs (j+1) d _
theorem yR (D:Nat→Bool):∀ (rs:List kz) (j d:Nat) (e:Hp),n_ D (j+d) e rs=n_ (fun k=>D (k+d)) j e rs
 | [],_,_,_=>rfl
 |r::rs,j,d,e=>by
  simp only [n_]
  rw [show j+d+1=j+1+d by omega]
  exact yR D rs (j+1) d _
theorem uP (e:iV) (r:kz) (a:List kz):nZ e (r::a)=nZ (pO e r.dst r.v) a:=by
 simp only [nZ,lS]
 exact wK (fun _=>true) a 0 1 _
theorem xY (h:Hp) (r:kz) (a:List kz):C9 h (r::a)=C9 (r.ups++h) a:=by
 simp only [C9,n_]
 exact yR (fun _=>true) a 0 1 _
theorem xO:∀ (a:List kz) (k:Nat) (e:iV),lS (fun j=>decide (j<k)) 0 e a=nZ e (a.take k)
 |a,0,e=>by
  simp only [List.take_zero]
  exact uO a 0 e fun _ _=>by simp
 | [],k+1,e=>rfl
 |r::a,k+1,e=>by
  simp only [List.take_succ_cons,uP,lS]
  rw [show decide (0<k+1)=true by simp]
  dsimp only
  rw [← xO a k]
  have:=wK (fun j=>decide (j<k+1)) a 0 1 (pO e r.dst r.v)
  rw [this]
  congr 1
  funext j
  simp
theorem Nh:∀ (a:List kz) (k:Nat) (e:Hp),n_ (fun j=>decide (j<k)) 0 e a=C9 e (a.take k)
 |a,0,e=>by
  simp only [List.take_zero]
  exact nG a 0 e fun _ _=>by simp
 | [],k+1,e=>rfl
 |r::a,k+1,e=>by
  simp only [List.take_succ_cons,xY,n_]
  rw [show decide (0<k+1)=true by simp]
  dsimp only
  rw [← Nh a k]
  have:=yR (fun j=>decide (j<k+1)) a 0 1 (r.ups++e)
  rw [this]
  congr 1
  funext j
  simp
theorem Gf (e:iV):∀ (b:List kz) (k:Nat) (r:kz),b[k]? =some r→nZ e (b.take (k+1))=pO (nZ e (b.take k)) r.dst r.v:=by
 intro b
 induction b generalizing e with
 |nil=>intro k r h;simp at h
 | cons a b ih=>
  intro k r h
  cases k with
  |zero=>simp at h;subst h;rfl
  |succ k=>
   simp only [List.take_succ_cons,uP]
   exact ih _ k r (by simpa using h)
theorem Ug (e:Hp):∀ (b:List kz) (k:Nat) (r:kz),b[k]? =some r→C9 e (b.take (k+1))=r.ups++C9 e (b.take k):=by
 intro b
 induction b generalizing e with
 |nil=>intro k r h;simp at h
 | cons a b ih=>
  intro k r h
  cases k with
  |zero=>simp at h;subst h;rfl
  |succ k=>
   simp only [List.take_succ_cons,xY]
   exact ih _ k r (by simpa using h)
section
variable {P:Program} {ap:AP} {H:di}
structure SK (P:Program) (ap:AP) (ops:List Oper) (i nid:Nat) (s s':RS) (recs:List kz):Prop where
 env:s'.env=nZ s.env recs
 hp:s'.hp=C9 s.hp recs
 feet:s'.feet=(recs.map kz.foot).reverse++s.feet
 dle:s.dfs.length≤s'.dfs.length
 bound:∀ (k:Nat) (r:kz),recs[k]? =some r→∀ b ∈ r.ups.map (·.1),b<nid+4*k+4
 sem:s'.dfs.length=s.dfs.length→s'.dfs=s.dfs∧∀ (k:Nat) (r:kz),recs[k]? =some r→∃ o,ops[i+k]? =some o∧r.dst=o.dst∧Ho P ap ops.toArray o (nid+4*k) (nZ s.env (recs.take k)) (C9 s.hp (recs.take k)) r.rt r.rb r.v r.ups [] none
theorem VX (n:jd P ap) (M:jX P ap H) {ops:List Oper}:∀ (l:List Oper) (i nid:Nat) (s s':RS) (c c':Cx),rQ ap H ops l nid s c= .ok (s',none) c'→c'.Ok→
  c.Ok∧(s.md= .dead→sS s.dec s.env→l=ops.drop i→s'.md= .dead∧∃ recs:List kz,recs.length=l.length∧SK P ap ops i nid s s' recs)
 | [],i,nid,s,s',c,c',h,hc=>by
  cases h
  exact ⟨hc,fun a _ _=> ⟨a,[],rfl,⟨rfl,rfl,rfl,Nat.le_refl _,fun k r h=>by simp at h,fun _=> ⟨rfl,fun k r h=>by simp at h⟩⟩⟩⟩
 | o :: r,i,nid,s,s',c,c',h,hc=>by
  simp only [rQ] at h
  obtain ⟨⟨z,W⟩,U,N,h⟩:=R.bind_ok h
  dsimp only at h
  cases W with
  |some v=>cases h
  | none=>
   dsimp only at h
   cases d:z.feet with
   |nil=>rw [d] at h;cases h
   | cons ft fr=>
    rw [d] at h
    dsimp only at h
    split at h
    ·rename_i x
     obtain ⟨I,V⟩:=VX n M r (i+1) (nid+4) z s' U c' h hc
     obtain ⟨A,G⟩:=rP n M N I
     refine ⟨A,fun a p K=> ?_⟩
     have F:ops[i]? =some o:=by
      have:(ops.drop i)[0]? =some o:=by rw [← K];rfl
      simpa using this
     have O:r=ops.drop (i+1):=by
      have:r=(ops.drop i).drop 1:=by rw [← K];rfl
      rw [this,List.drop_drop]
     obtain ⟨v1,rb,ups,C,hs⟩:=G a p
     have j:=hs.feet rfl
     rw [d] at j
     simp only [List.cons.injEq] at j
     rw [j.1] at x
     obtain ⟨y,recs,t,e⟩:=V (by rw [hs.md,a]) (hs.dec rfl) O
     refine ⟨y,{dst:=o.dst,v:=v1,rt:=uB o.op.operands.toList++jF ops o,rb:=rb,ups:=ups}::recs,by simp [t], ?_⟩
     have B:s.dfs.length≤z.dfs.length:=by rw [hs.dfs];simp
     refine ⟨?_, ?_, ?_,Nat.le_trans B e.dle, ?_, ?_⟩
     ·rw [e.env,uP,hs.env rfl]
     ·rw [e.hp,xY,hs.hp]
     ·rw [e.feet,hs.feet rfl]
      simp [kz.foot,OQ,Ig]
      cases o.dst<;>rfl
     ·intro k q f b L
      cases k with
      |zero=>
       simp at f
       subst f
       exact gm (List.all_eq_true.1 x b L)
      |succ k=>
       have:=e.bound k q (by simpa using f) b L
       omega
     ·intro Z
      have h1:=e.dle
      obtain ⟨D,u⟩:=e.sem (by omega)
      have E:C= []:=by
       have:C.length=0:=by
        have:=hs.dfs
        have Y:z.dfs.length=C.length+s.dfs.length:=by rw [this];simp
        omega
       exact List.eq_nil_of_length_eq_zero this
      subst E
      refine ⟨by rw [D,hs.dfs];rfl, ?_⟩
      intro k q f
      cases k with
      |zero=>
       simp at f
       subst f
       exact ⟨o,F,rfl,hs.sem⟩
      |succ k=>
       obtain ⟨X,Q,T,J⟩:=u k q (by simpa using f)
       refine ⟨X,by rw [show i+(k+1)=i+1+k by omega];exact Q,T, ?_⟩
       rw [List.take_succ_cons,uP,xY]
       rw [hs.env rfl,hs.hp] at J
       rw [show nid+4*(k+1)=nid+4+4*k by omega]
       exact J
    ·cases h
end
end AM
namespace AM
open Go
theorem CS {md:Region.Mode} (b:Array Nat) (i:Nat):∀ (l:List Edge) (s:Nat),(l.foldl (fun s e=>if Region.binds md e then s|||2^e.on|||b.getD e.on 0 else s) s).testBit i=true→
  s.testBit i=true∨∃ e ∈ l,Region.binds md e=true∧(i=e.on∨(b.getD e.on 0).testBit i=true)
 | [],s,h=> .inl h
 | e::r,s,h=>by
  simp only [List.foldl_cons] at h
  rcases CS b i r _ h with a|⟨f,a,d⟩
  ·split at a
   ·rename_i c
    simp only [Nat.testBit_or,Bool.or_eq_true,Nat.testBit_two_pow,decide_eq_true_eq] at a
    rcases a with (a|a)|a
    ·exact .inl a
    ·exact .inr ⟨e,by simp,c,.inl a.symm⟩
    ·exact .inr ⟨e,by simp,c,.inr a⟩
   ·exact .inl a
  ·exact .inr ⟨f,by simp [a],d⟩
def oG (acc:Array Nat) (o:Oper):Array Nat:=acc.push (o.after.toList.foldl (fun s e=>if Region.binds .any e then s|||2^e.on|||acc.getD e.on 0 else s) 0)
theorem CU (a:Array Nat) (x:Nat):(a.push x).getD a.size 0=x:=by simp [Array.getD_eq_getD_getElem?]
def Az (ops:List Oper) (D:Nat→Bool):Prop:=∀ (k:Nat) (o:Oper),ops[k]? =some o→D k=true→∀ e ∈ o.after,Region.binds .any e=true→D e.on=true
def ZE (D:Nat→Bool) (acc:Array Nat):Prop:=∀ k,D k=true→∀ i,(acc.getD k 0).testBit i=true→D i=true
theorem OE {ops:List Oper} {D:Nat→Bool} (n:Az ops D):∀ (l:List Oper) (acc:Array Nat),ZE D acc→l=ops.drop acc.size→ZE D (l.foldl oG acc)
 | [],acc,h,_=>h
 | o ::r,acc,h,hl=>by
  simp only [List.foldl_cons]
  have c:ops[acc.size]? =some o:=by
   have:(ops.drop acc.size)[0]? =some o:=by rw [← hl];rfl
   simpa using this
  refine OE n r _ ?_ ?_
  ·intro k j i a
   by_cases hks:k<acc.size
   ·refine h k j i ?_
    simpa [oG,Array.getD_eq_getD_getElem?,Array.getElem?_push,Nat.ne_of_lt hks] using a
   ·by_cases hke:k=acc.size
    ·subst hke
     rw [oG,CU] at a
     rcases CS acc i _ _ a with d|⟨e,d,p,b⟩
     ·simp at d
     ·have f:=n _ o c j e (by simpa using d) p
      rcases b with rfl|b
      ·exact f
      ·exact h _ f i b
    ·have:(oG acc o)[k]? =none:=by
      simp only [oG]
      rw [Array.getElem?_eq_none];simp;omega
     simp [Array.getD_eq_getD_getElem?,this] at a
  ·have:(oG acc o).size=acc.size+1:=by simp [oG]
   rw [this,← List.drop_drop,← hl];rfl
theorem P_ (ops:List Oper):Region.before ops.toArray=ops.foldl oG #[]:=by
 simp only [Region.before,← Array.foldl_toList]
 rfl
theorem o_ {ops:List Oper} {D:Nat→Bool} (b:Az ops D) {k i:Nat} (a:D k=true) (h:((Region.before ops.toArray).toList.getD k 0).testBit i=true):D i=true:=by
 have:=OE b ops #[] (fun k _ i c=>by simp at c) (by simp)
 rw [← P_] at this
 refine this k a i ?_
 rw [List.getD_eq_getElem?_getD] at h
 rw [Array.getD_eq_getD_getElem?]
 simpa using h
theorem qy {a b:List Nat} {x:Nat} (d:x ∈ a) (c:x ∈ b):DC a b=true:=List.any_eq_true.2 ⟨x,d,jf.2 c⟩
structure Hl (n:Nat) (bef:Nat→Nat→Bool) (recs:List kz):Prop where
 ok:∀ i j a b,recs[i]? =some a→recs[j]? =some b→i<j→(kD a.foot b.foot=true∨∃ x ∈ b.ups.map (·.1),n+4*i≤x∧x<n+4*i+4)→bef j i=true
theorem DR {n:Nat} {d:List Nat} {recs:List kz} (h:um n d (recs.map kz.foot).reverse=true):Hl n (fun j i=>(d.getD j 0).testBit i) recs:=by
 refine ⟨fun i j a b q o f e=> ?_⟩
 simp only [um,List.reverse_reverse,List.all_eq_true] at h
 have c:=h (a.foot,i) (by rw [List.mem_zipIdx_iff_getElem?];simp [q]) (b.foot,j) (by rw [List.mem_zipIdx_iff_getElem?];simp [o])
 simp only [Bool.or_eq_true,Bool.not_eq_true'] at c
 rcases c with (c|c)|c
 ·have:Nat.blt i j=true:=Nat.ble_eq_true_of_le f
  rw [this] at c;cases c
 ·exfalso
  rw [Bool.or_eq_false_iff] at c
  rcases e with e|⟨x,p,k,l⟩
  ·rw [e] at c;cases c.1
  ·have:=List.any_eq_false.1 c.2 x p
   simp only [Bool.and_eq_true,not_and] at this
   exact this (Nat.ble_eq_true_of_le k) (Nat.ble_eq_true_of_le l)
 ·exact c
section
variable {P:Program} {ap:AP} {H:di}
theorem FR.congr {env b:iV} {hp hp':Hp} {dfs:List (Nat × List AV)} {nt:Nat} {m:bf} {S:aW} {w:World} {a:Act} (h:FR ap env hp dfs nt m S w a) (d:∀ t,b.get t=env.get t) (c:aG hp'=aG hp):FR ap b hp' dfs nt m S w a:=by
 refine ⟨c ▸ h.srel,fun t=> ?_,c ▸ h.dfs,h.size⟩
 rw [d,c];exact h.env t
def oK (listed:Array Bool):Nat→Bool:=fun k=>listed.getD k false
theorem Xd {listed:Array Bool} {i:Nat} (a:i<listed.size) (k:Nat):oK (listed.setIfInBounds i true) k=(if k=i then true else oK listed k):=by
 simp only [oK,Array.getD_eq_getD_getElem?]
 by_cases h:k=i
 ·subst h;rw [if_pos rfl,Array.getElem?_setIfInBounds_self_of_lt a];rfl
 ·rw [if_neg h,Array.getElem?_setIfInBounds_ne (fun e=>h e.symm)]
def A_ (n:Nat) (D:Nat→Bool):Nat:=((List.range n).filter fun i=> !D i).length
theorem zW {D D':Nat→Bool} {i:Nat} (c:D i=false) (b:∀ k,D' k=if k=i then true else D k):∀ (l:List Nat),l.Nodup→i ∈ l→(l.filter fun k=> !D k).length=(l.filter fun k=> !D' k).length+1
 | [],_,h=>by simp at h
 | a::r,hn,h=>by
  rw [List.nodup_cons] at hn
  by_cases ha:a=i
  ·subst ha
   have hsame:r.filter (fun k=> !D k)=r.filter (fun k=> !D' k):=by
    refine List.filter_congr fun k f=> ?_
    have:k ≠ a:=fun e=>hn.1 (e ▸ f)
    rw [b k,if_neg this]
   have j:D' a=true:=by rw [b a,if_pos rfl]
   simp [c,j,hsame]
  ·have d:=zW c b r hn.2 (by simpa [Ne.symm ha] using h)
   have:D' a=D a:=by rw [b a,if_neg ha]
   simp only [List.filter_cons,this]
   split<;>simp [d]
theorem Vj {ops:List Oper} (i:qU ops=true) {listed:Array Bool} (p:listed.size=ops.length) (b:Region.ready .any ops.toArray listed= []):∀ k,k<ops.length→oK listed k=true:=by
 intro k
 induction k using Nat.strongRecOn with
 | _ k ih=>
  intro h
  cases f:oK listed k with
  |true=>rfl
  | false=>
   exfalso
   have a:k ∈ Region.ready .any ops.toArray listed:=by
    simp only [Region.ready,List.mem_filter,List.mem_range,List.size_toArray]
    refine ⟨h, ?_⟩
    have n:listed.getD k true=false:=by
     simp only [oK,Array.getD_eq_getD_getElem?] at f ⊢
     rw [Array.getElem?_eq_getElem (by omega)] at f ⊢
     simpa using f
    have j:ops.toArray[k]? =some ops[k]:=by simp [h]
    rw [n,j]
    simp only [Bool.not_false,Bool.true_and,Option.map_some,Option.getD_some,Array.all_eq_true',Bool.or_eq_true,Bool.not_eq_true']
    intro e l
    cases d:Region.binds .any e with
    |false=>exact .inl rfl
    |true=>
     right
     simp only [qU,List.all_eq_true] at i
     have c:=i (ops[k],k) (by rw [List.mem_zipIdx_iff_getElem?];simp [h]) e (by simpa using l)
     rw [d] at c
     simp only [Bool.not_true,Bool.false_or] at c
     have o:=gm c
     exact ih e.on o (by omega)
   rw [b] at a
   cases a
theorem D8 {ops:List Oper} {listed:Array Bool} (k:listed.size=ops.length) {i:Nat} (h:i ∈ Region.ready .any ops.toArray listed):∃ o,ops[i]? =some o∧oK listed i=false∧i<ops.length∧∀ e ∈ o.after,Region.binds .any e=true→oK listed e.on=true:=by
 simp only [Region.ready,List.mem_filter,List.mem_range,List.size_toArray,Bool.and_eq_true,Bool.not_eq_true'] at h
 obtain ⟨c,b,a⟩:=h
 have d:ops.toArray[i]? =some ops[i]:=by simp [c]
 rw [d] at a
 simp only [Option.map_some,Option.getD_some,Array.all_eq_true',Bool.or_eq_true,Bool.not_eq_true'] at a
 refine ⟨ops[i],List.getElem?_eq_getElem c, ?_,c,fun e f j=> ?_⟩
 ·simp only [oK,Array.getD_eq_getD_getElem?] at b ⊢
  rw [Array.getElem?_eq_getElem (by omega)] at b ⊢
  simpa using b
 ·rcases a e f with h|h
  ·rw [j] at h;cases h
  ·exact h
end
end AM
namespace AM
open Go
theorem Tf {a b:wC} {x:Nat} (h:x ∈ a.wt) (c:x ∈ b.rt):kD a b=true:=by simp [kD,qy h c]
theorem JG {a b:wC} {x:Nat} (h:x ∈ a.wt) (c:x ∈ b.wt):kD a b=true:=by simp [kD,qy h c]
theorem Td {a b:wC} {x:Nat} (h:x ∈ a.rt) (c:x ∈ b.wt):kD a b=true:=by simp [kD,qy h c]
theorem Qd {a b:wC} {x:Nat} (h:x ∈ a.wb) (c:x ∈ b.rb):kD a b=true:=by simp [kD,qy h c]
theorem FW {a b:wC} {x:Nat} (h:x ∈ a.wb) (c:x ∈ b.wb):kD a b=true:=by simp [kD,qy h c]
theorem Qc {a b:wC} {x:Nat} (h:x ∈ a.rb) (c:x ∈ b.wb):kD a b=true:=by simp [kD,qy h c]
theorem uk {d:Option Nat} {t:Nat} (h:d=some t):t ∈ OQ d:=by subst h;simp [OQ]
section
variable {P:Program} {ap:AP} {H:di}
structure aaq (ap:AP) (ops:List Oper) (recs:List kz) (e0:iV) (hp0:Hp) (dfs:List (Nat × List AV)) (nt:Nat) (m0:bf) (S0:aW) (w0:World) (listed:Array Bool) (m:bf) (S:aW) (w:World) (a:Act):Prop where
 sz:listed.size=ops.length
 cl:Az ops (oK listed)
 fr:Fr (aG hp0) m0 S0 w0 (aG (n_ (oK listed) 0 hp0 recs)) m S w
 rel:FR ap (lS (oK listed) 0 e0 recs) (n_ (oK listed) 0 hp0 recs) dfs nt m S w a
theorem JX {ops:List Oper} {recs:List kz} {s:RS} {A nt:Nat} (hnt:∀ o ∈ ops,∀ d,o.dst=some d→d<nt) (hlen:recs.length=ops.length)
  (hbound:∀ (k:Nat) (r:kz),recs[k]? =some r→∀ b ∈ r.ups.map (·.1),b<A+4*k+4)
  (hsem:∀ (k:Nat) (r:kz),recs[k]? =some r→∃ o,ops[k]? =some o∧r.dst=o.dst∧∀ (D:Nat→Bool) m S w (a:Act),bY ap (aG (n_ D 0 s.hp recs)) m S w→(∀ t ∈ r.rt,VR (aG (n_ D 0 s.hp recs)) m S ((nZ s.env (recs.take k)).get t) (a.tmps.getD t undef))→
   (∀ b ∈ r.rb,aG (C9 s.hp (recs.take k)) b=aG (n_ D 0 s.hp recs) b)→(∀ j,j<4→aG (n_ D 0 s.hp recs) (A+4*k+j)=none)→(∀ j,((Region.before ops.toArray).toList.getD j 0).testBit k=true→D j=false)→
   ∀ (Q:Exit→Act→World→Prop) (K:Act→World→Prop),ZC ap o (aG (n_ D 0 s.hp recs)) m S w a r.v r.ups [] Q K none→wpO P ops.toArray Q o K a w)
  (hord:Hl A (fun j i=>((Region.before ops.toArray).toList.getD j 0).testBit i) recs) (hback:qU ops=true) (hn0:∀ b B,aG s.hp b=some B→b<A) {m0:bf} {S0:aW} {w0:World} {Q:Exit→Act→World→Prop}
  (hQ:∀ m S w a,Fr (aG s.hp) m0 S0 w0 (aG (C9 s.hp recs)) m S w→FR ap (nZ s.env recs) (C9 s.hp recs) s.dfs nt m S w a→Q .normal a w):
  ∀ (n:Nat) (listed:Array Bool) (m:bf) (S:aW) (w:World) (a:Act),aaq ap ops recs s.env s.hp s.dfs nt m0 S0 w0 listed m S w a→A_ ops.length (oK listed)≤n→wpAny P .any ops.toArray Q n listed a w:=by
 have hdone:∀ (listed:Array Bool) (m:bf) (S:aW) (w:World) (a:Act),aaq ap ops recs s.env s.hp s.dfs nt m0 S0 w0 listed m S w a→(∀ k,k<ops.length→oK listed k=true)→Q .normal a w:=by
  intro listed m S w a u v
  have hh:∀ b,aG (C9 s.hp recs) b=aG (n_ (oK listed) 0 s.hp recs) b:=fun b=>
   qw recs 0 _ _ rfl fun k r c _=>by rw [v (0+k) (by have:=(List.getElem?_eq_some_iff.1 c).1;omega)]
  have he:∀ t,(nZ s.env recs).get t=(lS (oK listed) 0 s.env recs).get t:=fun t=>
   ny recs 0 _ _ rfl fun k r c _=>by rw [v (0+k) (by have:=(List.getElem?_eq_some_iff.1 c).1;omega)]
  have F:=funext hh
  exact hQ m S w a (F ▸ u.fr) (u.rel.congr he F)
 intro n
 induction n with
 | zero=>
  intro listed m S w a u hm
  have v:∀ k,k<ops.length→oK listed k=true:=by
   intro k c
   cases f:oK listed k with
   |true=>rfl
   |false=>
    have R:k ∈ (List.range ops.length).filter fun i=> !oK listed i:=by simp [c,f]
    have:(List.range ops.length).filter (fun i=> !oK listed i)= []:=List.eq_nil_of_length_eq_zero (Nat.le_zero.1 hm)
    rw [this] at R
    cases R
  refine ⟨?_,hdone listed m S w a u v⟩
  cases hr:Region.ready .any ops.toArray listed with
  |nil=>rfl
  |cons i r=>
   obtain ⟨o,_,p,h3,_⟩:=D8 u.sz (i:=i) (by rw [hr];simp)
   rw [v i h3] at p;cases p
 | succ n ih=>
  intro listed m S w a u hm
  refine ⟨fun U=>hdone listed m S w a u (Vj hback u.sz U),fun i hi=> ?_⟩
  obtain ⟨o,J,C,V,hedges⟩:=D8 u.sz hi
  have y:recs[i]? =some recs[i]:=List.getElem?_eq_getElem (by omega)
  generalize recs[i]=r at y
  obtain ⟨o',T,G,hstep⟩:=hsem i r y
  rw [J] at T
  cases T
  have Z:i<listed.size:=by rw [u.sz];exact V
  have l:=Xd Z
  have M:Az ops (oK (listed.setIfInBounds i true)):=by
   intro k o2 c f e he z
   rw [l] at f ⊢
   split
   ·rfl
   ·split at f
    ·rename_i E
     subst E
     rw [J] at c;cases c
     exact hedges e he z
    ·exact u.cl k o2 c f e he z
  have N:∀ k q,recs[k]? =some q→k<i→(kD q.foot r.foot=true∨∃ x ∈ r.ups.map (·.1),A+4*k≤x∧x<A+4*k+4)→oK listed k=true:=by
   intro k q c E hc
   have I:=hord.ok k i q r c y E hc
   have p:=o_ M (k:=i) (i:=k) (by rw [l,if_pos rfl]) I
   rw [l,if_neg (by omega)] at p
   exact p
  have hhigh:∀ k q,recs[k]? =some q→i<k→(kD r.foot q.foot=true∨∃ x ∈ q.ups.map (·.1),A+4*i≤x∧x<A+4*i+4)→oK listed k=false:=by
   intro k q c E hc
   cases f:oK listed k with
   |false=>rfl
   |true=>
    have I:=hord.ok i k r q y c E hc
    have p:=o_ u.cl f I
    rw [C] at p;cases p
  have O:∀ k q,recs[k]? =some q→(k<i→kD q.foot r.foot=true)→(i<k→kD r.foot q.foot=true)→decide (k<i)=oK listed k:=by
   intro k q c I p
   rcases Nat.lt_trichotomy k i with h|h|h
   ·rw [N k q c h (.inl (I h))];simp [h]
   ·subst h;rw [C];simp
   ·rw [hhigh k q c h (.inl (p h))];simp;omega
  have hagr':∀ k q,recs[k]? =some q→(k<i→kD q.foot r.foot=true)→(i<k→kD r.foot q.foot=true)→oK (listed.setIfInBounds i true) k=decide (k<i+1):=by
   intro k q c I p
   rw [l]
   rcases Nat.lt_trichotomy k i with h|h|h
   ·rw [if_neg (by omega),N k q c h (.inl (I h))];simp;omega
   ·subst h;simp
   ·rw [if_neg (by omega),hhigh k q c h (.inl (p h))];simp;omega
  have Y:∀ t ∈ r.rt,(nZ s.env (recs.take i)).get t=(lS (oK listed) 0 s.env recs).get t:=by
   intro t L
   rw [← xO]
   refine ny recs 0 _ _ rfl fun k q c f=> ?_
   rw [Nat.zero_add]
   exact O k q c (fun _=>Tf (uk f) L) (fun _=>Td L (uk f))
  have hhp:∀ b ∈ r.rb,aG (C9 s.hp (recs.take i)) b=aG (n_ (oK listed) 0 s.hp recs) b:=by
   intro b z
   rw [← Nh]
   refine qw recs 0 _ _ rfl fun k q c f=> ?_
   rw [Nat.zero_add]
   exact O k q c (fun _=>Qd f z) (fun _=>Qc z f)
  have hfresh:∀ j,j<4→aG (n_ (oK listed) 0 s.hp recs) (A+4*i+j)=none:=by
   intro j hj
   have I:aG (n_ (oK listed) 0 s.hp recs) (A+4*i+j)=aG (n_ (fun _=>false) 0 s.hp recs) (A+4*i+j):=by
    refine qw recs 0 _ _ rfl fun k q c f=> ?_
    rw [Nat.zero_add]
    have z:=hbound k q c _ f
    rcases Nat.lt_trichotomy k i with h|h|h
    ·omega
    ·subst h;exact C
    ·exact hhigh k q c h (.inr ⟨_,f,by omega,by omega⟩)
   rw [I,nG recs 0 _ (fun _ _=>rfl)]
   cases z:aG s.hp (A+4*i+j) with
   |none=>rfl
   |some B=>have:=hn0 _ _ z;omega
  have W:ops.toArray[i]? =some o:=by simpa using J
  have hgoal:wpO P ops.toArray Q o (wpAny P .any ops.toArray Q n (listed.setIfInBounds i true)) a w:=by
   refine hstep (oK listed) m S w a u.rel.srel (fun t L=>by rw [Y t L];exact u.rel.env t) hhp hfresh (fun j hj=>by
    cases f:oK listed j with
    |false=>rfl
    |true=>
     have p:=o_ u.cl f hj
     rw [C] at p;cases p) Q _ ?_
   intro cv m' S' w' ds I p h3 h4
   have hF:=u.rel.put (hnt o (List.mem_of_getElem? J)) I p h3 h4
   rw [kJ] at p
   rw [List.nil_append] at hF
   have he':∀ t,(lS (oK (listed.setIfInBounds i true)) 0 s.env recs).get t=(pO (lS (oK listed) 0 s.env recs) o.dst r.v).get t:=by
    intro t
    by_cases L:o.dst=some t
    ·have h5:(lS (oK (listed.setIfInBounds i true)) 0 s.env recs).get t=(lS (fun j=>decide (j<i+1)) 0 s.env recs).get t:=by
      refine ny recs 0 _ _ rfl fun k q c f=> ?_
      rw [Nat.zero_add]
      have X:t ∈ r.foot.wt:=uk (G.trans L)
      exact hagr' k q c (fun _=>JG (uk f) X) (fun _=>JG X (uk f))
     rw [h5,xO,Gf _ _ _ _ y,G,L,jo,jo]
    ·rw [xU L]
     refine ny recs 0 _ _ rfl fun k q c f=> ?_
     rw [Nat.zero_add,l,if_neg]
     rintro rfl
     rw [y] at c;cases c
     exact L (G ▸ f)
   have F:aG (n_ (oK (listed.setIfInBounds i true)) 0 s.hp recs)=aG (r.ups++n_ (oK listed) 0 s.hp recs):=by
    funext b
    by_cases z:b ∈ r.ups.map (·.1)
    ·have h5:aG (n_ (oK (listed.setIfInBounds i true)) 0 s.hp recs) b=aG (n_ (fun j=>decide (j<i+1)) 0 s.hp recs) b:=by
      refine qw recs 0 _ _ rfl fun k q c f=> ?_
      rw [Nat.zero_add]
      exact hagr' k q c (fun _=>FW f z) (fun _=>FW z f)
     rw [h5,Nh,Ug _ _ _ _ y]
     exact yc z
    ·rw [qX z]
     refine qw recs 0 _ _ rfl fun k q c f=> ?_
     rw [Nat.zero_add,l,if_neg]
     rintro rfl
     rw [y] at c;cases c
     exact z f
   refine ih _ m' S' w' _ ⟨by rw [Array.size_setIfInBounds];exact u.sz,M, ?_,hF.congr he' F⟩ ?_
   ·rw [F];exact u.fr.trans p
   ·have:=zW C l (List.range ops.length) List.nodup_range (by simp [V])
    simp only [A_] at hm ⊢
    omega
  simp only [wpOp,W]
  exact hgoal
theorem TP {ops:List Oper} {recs:List kz} {s s':RS} {n nt:Nat} (p:∀ o ∈ ops,∀ d,o.dst=some d→d<nt) (f:recs.length=ops.length) (e:SK P ap ops 0 n s s' recs) (h:s'.dfs.length=s.dfs.length)
  (hord:Hl n (fun j i=>((Region.before ops.toArray).toList.getD j 0).testBit i) recs) (hback:qU ops=true) (hn0:∀ b B,aG s.hp b=some B→b<n) {m0:bf} {S0:aW} {w0:World} {Q:Exit→Act→World→Prop}
  (hQ:∀ m S w a,Fr (aG s.hp) m0 S0 w0 (aG (C9 s.hp recs)) m S w→FR ap (nZ s.env recs) (C9 s.hp recs) s.dfs nt m S w a→Q .normal a w):
  ∀ (fuel:Nat) (listed:Array Bool) (m:bf) (S:aW) (w:World) (a:Act),aaq ap ops recs s.env s.hp s.dfs nt m0 S0 w0 listed m S w a→A_ ops.length (oK listed)≤fuel→wpAny P .any ops.toArray Q fuel listed a w:=by
 obtain ⟨_,c⟩:=e.sem h
 refine JX p f e.bound (fun k r x=> ?_) hord hback hn0 hQ
 obtain ⟨o,t,u,v⟩:=c k r x
 rw [Nat.zero_add] at t
 exact ⟨o,t,u,fun D m S w a C z l q _ Q K E=>v _ m S w a C z (fun b A B y=>by rw [← l b A];exact y) q Q K E⟩
def oh (ap:AP) (base:Nat) (keep:List Nat) (hp0:Hp) (m:bf) (S:aW) (w:World) (nt:Nat) (s':St) (Q:Exit→Act→World→Prop):bM→Prop
 | .panic v=>match (fD v).isEmpty with
  |true=> ∀ s1:St,s'=norm base keep s1→xq ap hp0 m S w nt s1.env s1.hp s1.dfs Q (some v)
  |false=>xq ap hp0 m S w nt s'.env s'.hp s'.dfs Q (some v)
 | .normal=> ∀ s1:St,s'=norm base keep s1→xq ap hp0 m S w nt s1.env s1.hp s1.dfs Q none
 |_=>True
theorem I4 (r:jd P ap) (G:P.follows .mixedOrders=true) (J:jX P ap H) {ops:List Oper} {j:Bool} {nt base:Nat} {keep:List Nat} (y:∀ o ∈ ops,∀ d,o.dst=some d→d<nt) {s:St} {e:bM} {s':St} {c O:Cx} {id:Nat}
  (h:IZ ap H base keep ops j s c= .ok (e,s') O) (hc:O.Ok):c.Ok∧(s.md= .dead→s'.md= .dead∧(∀ m S w a,FR ap s.env s.hp s.dfs nt m S w a→∀ Q,
   oh ap base keep s.hp m S w nt s' Q e→(Code.region id ops.toArray j).wp P Q a w)):=by
 unfold IZ at h
 obtain ⟨⟨s1,p⟩,Z,I,h⟩:=R.bind_ok h
 dsimp only at h
 have z:∀ b B,aG s.hp b=some B→b<iI s.hp:=fun b B q=>qF q
 cases p with
 | some v=>
  cases j with
  |true=>cases h
  | false=>
   dsimp only at h
   split at h
   ·rename_i D
    cases h
    obtain ⟨f,hs⟩:=mP r J y ops 0 _ _ _ _ _ _ I hc
    refine ⟨f,fun i=> ?_⟩
    obtain ⟨A,C⟩:=hs i (fun t b q=>by cases q) rfl z
    refine ⟨A,fun m S w a l Q x=>wp_region ?_⟩
    simp only [oh,D] at x
    have:=C m S w a l Q (x _ rfl)
    rw [← List.range_eq_range'] at this
    simpa using this
   ·rename_i D
    cases h
    obtain ⟨f,hs⟩:=mP r J y ops 0 _ _ _ _ _ _ I hc
    refine ⟨f,fun i=> ?_⟩
    obtain ⟨A,C⟩:=hs i (fun t b q=>by cases q) rfl z
    refine ⟨A,fun m S w a l Q x=>wp_region ?_⟩
    simp only [oh,D] at x
    have:=C m S w a l Q x
    rw [← List.range_eq_range'] at this
    simpa using this
 | none=>
  dsimp only at h
  split at h
  ·rename_i hcond
   cases h
   cases j with
   |false=>
    obtain ⟨f,hs⟩:=mP r J y ops 0 _ _ _ _ _ _ I hc
    refine ⟨f,fun i=> ?_⟩
    obtain ⟨A,C⟩:=hs i (fun t b q=>by cases q) rfl z
    refine ⟨A,fun m S w a l Q x=>wp_region ?_⟩
    have:=C m S w a l Q (x _ rfl)
    rw [← List.range_eq_range'] at this
    simpa using this
   | true=>
    obtain ⟨f,hs⟩:=VX r J ops 0 _ _ _ _ _ I hc
    refine ⟨f,fun i=> ?_⟩
    obtain ⟨A,recs,F,n⟩:=hs i (fun t b q=>by cases q) rfl
    refine ⟨A,fun m S w a l Q x=>wp_region_any G ?_⟩
    simp only [Bool.not_true,Bool.false_or,Bool.and_eq_true] at hcond
    obtain ⟨⟨V,hback⟩,u⟩:=hcond
    have u:=aO u
    rw [n.feet,List.append_nil] at V
    have L:=x _ rfl
    have M:=(n.sem u).1
    have E:oK (Array.replicate ops.length false)=fun _=>false:=by
     funext k
     simp only [oK,Array.getD_eq_getD_getElem?]
     by_cases U:k<ops.length<;>simp [U]
    have N:ops.toArray.size=ops.length:=by simp
    rw [N]
    refine TP y F n u (DR V) hback z (m0:=m) (S0:=S) (w0:=w) (Q:=Q) ?_ ops.length _ m S _ a ⟨by simp, ?_, ?_, ?_⟩ ?_
    ·intro X S' w' W K Y
     refine L X S' w' W ?_ ?_
     ·rw [n.hp];exact K
     ·rw [n.hp,n.env,M];exact Y
    ·intro k o U T
     rw [E] at T;cases T
    ·rw [E,nG recs 0 _ (fun _ _=>rfl)]
     exact ⟨Ge.refl _ _,mi.refl _,rfl,rfl,rfl,Nat.le_refl _,fun _ _ _=>rfl,fun _ B h=> .inr ⟨B,h,rfl⟩,fun _ _ _ h=> .inl h⟩
    ·rw [E,nG recs 0 _ (fun _ _=>rfl),uO recs 0 _ (fun _ _=>rfl)]
     exact ⟨⟨l.srel.inj,fun b B q=>l.srel.blk b B q|>fun ⟨A,C,K⟩=> ⟨A,C,K⟩,l.srel.sealed,l.srel.own,l.srel.glob⟩,l.env,l.dfs,l.size⟩
    ·exact Nat.le_trans (List.length_filter_le _ _) (by simp)
  ·cases h
end
end AM
namespace AM
open Go
def Ai (acc:List Nat) (b:Nat):List Nat:=if pG acc b then acc else acc++ [b]
theorem PZ (a:List Nat) (b:Nat) (h:a.Nodup):(Ai a b).Nodup∧∃ t,Ai a b=a++t:=by
 unfold Ai
 split
 ·exact ⟨h,[],by simp⟩
 ·rename_i f
  refine ⟨?_,[b],rfl⟩
  rw [List.nodup_append]
  refine ⟨h,by simp, ?_⟩
  intro x d y c e
  simp at c
  subst c;subst e
  exact f (jf.2 d)
theorem ou:∀ (l a:List Nat),a.Nodup→(l.foldl Ai a).Nodup∧∃ t,l.foldl Ai a=a++t
 | [],a,h=> ⟨h,[],by simp⟩
 |b::r,a,h=>by
  simp only [List.foldl_cons]
  obtain ⟨f,d,c⟩:=PZ a b h
  obtain ⟨e,i,j⟩:=ou r _ f
  exact ⟨e,d++i,by rw [j,c,List.append_assoc]⟩
theorem BL:∀ (l a:List Nat),l.Nodup→(∀ x ∈ l,x ∉ a)→l.foldl Ai a=a++l
 | [],a,_,_=>by simp
 | b::r,a,h,hd=>by
  rw [List.nodup_cons] at h
  have e:pG a b=false:=by
   cases c:pG a b with
   |false=>rfl
   |true=>exact absurd (jf.1 c) (hd b (by simp))
  simp only [List.foldl_cons]
  have:Ai a b=a++ [b]:=by simp [Ai,e]
  rw [this,BL r _ h.2]
  ·simp
  ·intro x d c
   rcases List.mem_append.1 c with c|c
   ·exact hd x (by simp [d]) c
   ·simp at c;subst c;exact h.1 d
theorem QH (l:List Nat):jy l=l.foldl Ai []:=rfl
theorem NK (n:Nat) (l:List Nat):(jy (List.range n++l)).Nodup∧∃ t,jy (List.range n++l)=List.range n++t:=by
 rw [QH,List.foldl_append,BL (List.range n) [] List.nodup_range (by simp),List.nil_append]
 exact ou l _ List.nodup_range
theorem tJ (rd:dR):∀ (n:Nat) (l:List Nat),l.Nodup→(sN rd n l).Nodup∧∃ t,sN rd n l=l++t
 |0,l,h=> ⟨h,[],by simp [sN]⟩
 | n+1,l,h=>by
  simp only [sN]
  split
  ·exact ⟨h,[],by simp⟩
  ·obtain ⟨e,d,a⟩:=ou (l.flatMap fun b=>match rd b with|some B=>(match B.pr with|true=> []|false=>dn B.cells)|none=> []) l h
   obtain ⟨c,f,i⟩:=tJ rd n _ e
   refine ⟨c,d++f, ?_⟩
   exact i.trans (by rw [a,List.append_assoc])
theorem Gu {f:Nat→AV}:∀ (keep:List Nat) (t:Nat),aG (keep.map fun t=>(t,f t)) t=if t ∈ keep then some (f t) else none
 | [],t=>by simp [aG]
 | a::r,t=>by
  simp only [List.map_cons,aG,Gu r t]
  cases h:Nat.beq a t with
  |true=>have:=aO h;subst this;simp
  |false=>
   have b:t ≠ a:=by intro e;subst e;simp at h
   simp [b]
theorem zT {rd:dR} {mk:Nat→bi→bi}:∀ (ids:List Nat) (j p:Nat),aG ((ids.zipIdx j).filterMap fun (b,p)=>(rd b).map fun B=>(p,mk p B)) p=if j≤p then (ids[p - j]?).bind fun b=>(rd b).map (mk p) else none
 | [],j,p=>by simp [aG]
 | a ::r,j,p=>by
  have i:=zT (rd:=rd) (mk:=mk) r (j+1) p
  rw [List.zipIdx_cons]
  cases c:rd a with
  | none=>
   rw [List.filterMap_cons_none (by simp [c]),i]
   by_cases hj:j+1≤p
   ·rw [if_pos hj,if_pos (by omega)]
    obtain ⟨d,f⟩:∃ d,p - j=d+1:=⟨p - j - 1,by omega⟩
    rw [f,List.getElem?_cons_succ,show p - (j+1)=d by omega]
   ·rw [if_neg hj]
    by_cases hjp:j≤p
    ·rw [if_pos hjp,show p - j=0 by omega];simp [c]
    ·rw [if_neg hjp]
  | some B=>
   rw [List.filterMap_cons_some (by simp [c];rfl)]
   simp only [aG]
   cases h:Nat.beq j p with
   |true=>have:=aO h;subst this;simp [c]
   | false=>
    have k:j ≠ p:=by intro e;subst e;simp at h
    simp only [i]
    by_cases hj:j+1≤p
    ·rw [if_pos hj,if_pos (by omega)]
     obtain ⟨d,f⟩:∃ d,p - j=d+1:=⟨p - j - 1,by omega⟩
     rw [f,List.getElem?_cons_succ,show p - (j+1)=d by omega]
    ·rw [if_neg hj,if_neg (by omega)]
theorem Gz:∀ {l:List Nat},l.Nodup→rf l=true
 | [],_=>rfl
 |b::r,h=>by
  rw [List.nodup_cons] at h
  simp only [rf,Bool.and_eq_true,Bool.not_eq_true']
  refine ⟨?_,Gz h.2⟩
  cases a:pG r b with
  |false=>rfl
  |true=>exact absurd (jf.1 a) h.1
section
variable {P:Program} {ap:AP} {H:di}
theorem Jo {g g':dR} {m c:bf} {S S':aW} {ρ:Nat→Nat→Option (Nat × Nat)} (b:mi S S') (h:r_ g m g' c ρ):∀ {l:List (Nat × List AV)} {ds:List Deferred},iG g m S l ds→iG g' c S' (l.map fun d=>(d.1,lU ρ d.2)) ds
 | [],[],_=>by simp [iG]
 |d::r,cd::cr,p=>by
  simp only [iG] at p
  obtain ⟨⟨a,e,f⟩,i⟩:=p
  simp only [List.map_cons,iG]
  exact ⟨⟨a,e,kQ b h _ f⟩,Jo b h i⟩
 | [],_::_,p=>by simp [iG] at p
 |_::_,[],p=>by simp [iG] at p
theorem nM {h0:List bi} {keep:List Nat} {s:St} {nt:Nat} {m m0:bf} {S S0:aW} {w w0:World} {a:Act} (c:Fr (bI h0) m0 S0 w0 (aG s.hp) m S w) (F:FR ap s.env s.hp s.dfs nt m S w a):
  ∃ m',Fr (bI h0) m0 S0 w0 (aG (norm h0.length keep s).hp) m' S w∧FR ap (norm h0.length keep s).env (norm h0.length keep s).hp (norm h0.length keep s).dfs nt m' S w a:=by
 obtain ⟨_,t0,V⟩:=tJ (aG s.hp) 20 (List.range h0.length) List.nodup_range
 generalize hroots:t0++(CG keep s.env++s.dfs.flatMap (fun d=>dn d.2))=roots
 have hroots':sN (aG s.hp) 20 (List.range h0.length)++CG keep s.env++s.dfs.flatMap (fun d=>dn d.2)=List.range h0.length++roots:=by rw [← hroots,V];simp only [List.append_assoc]
 obtain ⟨T,t1,I⟩:=NK h0.length roots
 obtain ⟨U,t2,K⟩:=tJ (aG s.hp) 20 _ T
 rw [I,List.append_assoc] at K
 have hsome:∀ b,b<h0.length→∃ B0 B,bI h0 b=some B0∧aG s.hp b=some B∧B.esz=B0.esz∧((B.ver=B0.ver∧m b=m0 b)∨B0.ver<B.ver):=by
  intro b z
  obtain ⟨B,l,n⟩:=c.ge b h0[b] (by simp [bI,z])
  exact ⟨h0[b],B,by simp [bI,z],l,n⟩
 generalize k:(sN (aG s.hp) 20 (jy (List.range h0.length++roots))).filter (fun b=>(aG s.hp b).isSome)=ids
 have R:ids.Nodup:=by rw [← k];exact U.filter _
 have C:=Gz R
 have x:∃ t,ids=List.range h0.length++t:=by
  rw [← k,I,K,List.filter_append]
  refine ⟨_,congrArg (· ++_) ?_⟩
  rw [List.filter_eq_self]
  intro b z
  obtain ⟨_,B,_,n,_⟩:=hsome b (by simpa using z)
  simp [n]
 obtain ⟨t,x⟩:=x
 have y:∀ b,b<h0.length→ids[b]? =some b:=by
  intro b z
  rw [x,List.getElem?_append_left (by simpa using z)]
  simp [z]
 have J:∀ (p b:Nat),ids[p]? =some b→∃ B,aG s.hp b=some B:=by
  intro p b hp
  have:=List.mem_of_getElem? hp
  rw [← k,List.mem_filter] at this
  exact Option.isSome_iff_exists.1 this.2
 let ρ:Nat→Nat→Option (Nat × Nat):=fun b v=>match aG s.hp b with
  |some B=>match Nat.beq B.ver v with
   |true=>(pq ids b).map fun p=>(p,match Nat.blt p h0.length with|true=>v|false=>0)
   |false=>none
  |none=>none
 let mk:Nat→bi→bi:=fun p B=> {B with cells:=(match B.pr with|true=>B.cells|false=>lU ρ B.cells),ver:=match Nat.blt p h0.length with|true=>B.ver|false=>0}
 have hnorm:norm h0.length keep s=⟨keep.map fun t=>(t,ren ρ (s.env.get t)),ids.zipIdx.filterMap fun (b,p)=>(aG s.hp b).map fun B=>(p,mk p B),s.md,s.dfs.map fun d=>(d.1,lU ρ d.2)⟩:=by
  unfold norm
  simp only [hroots',k]
  rfl
 rw [hnorm]
 dsimp only
 have A:∀ p,aG (ids.zipIdx.filterMap fun (b,p)=>(aG s.hp b).map fun B=>(p,mk p B)) p=(ids[p]?).bind fun b=>(aG s.hp b).map (mk p):=by
  intro p
  rw [zT (rd:=aG s.hp) (mk:=mk) ids 0 p,if_pos (Nat.zero_le _),Nat.sub_zero]
 generalize (ids.zipIdx.filterMap fun (b,p)=>(aG s.hp b).map fun B=>(p,mk p B))=hp2 at A
 have i:∀ (p:Nat) (B2:bi),aG hp2 p=some B2→∃ b B,ids[p]? =some b∧aG s.hp b=some B∧B2=mk p B:=by
  intro p B2 h
  rw [A] at h
  cases hp:ids[p]? with
  |none=>rw [hp] at h;cases h
  |some b=>
   rw [hp] at h
   obtain ⟨B,M⟩:=J p b hp
   simp only [Option.bind_some,M,Option.map_some,Option.some.injEq] at h
   exact ⟨b,B,rfl,M,h.symm⟩
 let m2:bf:=fun p=>m (ids.getD p 0)
 have j:∀ (p b:Nat),ids[p]? =some b→m2 p=m b:=by
  intro p b hp
  show m (ids.getD p 0)=_
  rw [List.getD_eq_getElem?_getD,hp];rfl
 have u:r_ (aG s.hp) m (aG hp2) m2 ρ:=by
  intro b ver p ver' h B M Y
  simp only [ρ,M] at h
  split at h
  ·rename_i G
   have G:=aO G
   simp only [Option.map_eq_some_iff,Prod.mk.injEq] at h
   obtain ⟨q,E,rfl,rfl⟩:=h
   have E:=qx E
   refine ⟨mk q B, ?_, ?_,fun _=> ⟨G,j q b E,rfl⟩⟩
   ·rw [A,E];simp [M]
   ·simp only [mk]
    split
    ·omega
    ·exact Nat.le_refl _
  ·cases h
 have D:∀ (p q b:Nat),ids[p]? =some b→ids[q]? =some b→p=q:=by
  intro p q b hp E
  have Z:=oO C hp
  rw [oO C E] at Z
  cases Z;rfl
 refine ⟨m2, ?_, ?_, ?_, ?_,F.size⟩
 ·refine ⟨?_,c.sle,c.os,c.tape,c.output,c.size,c.rest, ?_,c.sealN⟩
  ·intro b B0 z
   have r:b<h0.length:=(List.getElem?_eq_some_iff.1 z).1
   obtain ⟨B0',B,l,n,N,Q⟩:=hsome b r
   rw [z] at l;cases l
   have W:Nat.blt b h0.length=true:=Nat.ble_eq_true_of_le r
   refine ⟨mk b B,by rw [A,y b r];simp [n],N, ?_⟩
   simp only [mk,W]
   rw [j b b (y b r)]
   exact Q
  ·intro p B2 hp
   obtain ⟨b,B,l,n,rfl⟩:=i p B2 hp
   rw [j p b l]
   rcases c.img b B n with h|⟨B0,N,Q⟩
   ·exact .inl h
   ·have r:b<h0.length:=(List.getElem?_eq_some_iff.1 N).1
    have:=D p b b l (y b r)
    subst this
    exact .inr ⟨B0,N,Q⟩
 ·refine ⟨?_, ?_,F.srel.sealed, ?_,F.srel.glob⟩
  ·intro p q B2 B2' hp E e
   obtain ⟨b,B,l,n,rfl⟩:=i p B2 hp
   obtain ⟨b',B',L,O,rfl⟩:=i q B2' E
   rw [j p b l,j q b' L] at e
   have:=F.srel.inj b b' B B' n O e
   subst this
   exact D p q b l L
  ·intro p B2 hp
   obtain ⟨b,B,l,n,rfl⟩:=i p B2 hp
   rw [j p b l]
   obtain ⟨⟨cur,e,vs,rest,k1,k2,k3,k4,k5,k6⟩,k7,k8⟩:=F.srel.blk b B n
   cases f:B.pr with
   |true=>exact ⟨⟨cur,e,vs,rest,k1,k2,fun _=>by simpa [mk,f] using k3 f,by simpa [mk,f] using bV _ (k3 f),k5,k6⟩,k7,by simpa [mk,f] using k8⟩
   | false=>
    have G:=kQ (mi.refl S) u _ k4
    exact ⟨⟨cur,e,vs,rest,k1,k2,fun h=>by simp [mk,f] at h,by simpa [mk,f] using G,k5,k6⟩,k7,by
     have:(mk p B).cells.length=B.cells.length:=by simp only [mk,f];rw [cO k4,cO G]
     rw [this];exact k8⟩
  ·intro p B2 hp o v X
   obtain ⟨b,B,l,n,rfl⟩:=i p B2 hp
   rw [j p b l] at X
   exact F.srel.own b B n o v X
 ·intro t
  simp only [iV.get,Gu]
  by_cases ht:t ∈ keep
  ·rw [if_pos ht]
   exact yJ (mi.refl S) u _ (F.env t)
  ·rw [if_neg ht]
   simp [VR]
 ·exact Jo (mi.refl S) u F.dfs
end
end AM
namespace AM
open Go
mutual
theorem xu {g g':dR} {m n:bf} {S S':aW} (i:mi S S'):∀ (x:AV) {v:Value},(∀ b ∈ fD x,g' b=g b∧n b=m b)→VR g m S x v→VR g' n S' x v
 | .int _ _,_,_,p=>by simpa only [VR,PR] using p
 | .bool _,_,_,p=>by simpa only [VR,PR] using p
 | .str _,_,_,p=>by simpa only [VR,PR] using p
 | .nilS,_,_,p=>by simpa only [VR,PR] using p
 | .nilP,_,_,p=>by simpa only [VR,PR] using p
 | .nilF,_,_,p=>by simpa only [VR,PR] using p
 | .nilI,_,_,p=>by simpa only [VR,PR] using p
 | .sl _ _ _,_,_,p=>by simp only [VR] at p ⊢;exact dC i _ p
 | .pp _ _,_,_,p=>by simp only [VR] at p ⊢;exact dC i _ p
 | .mp _ _,_,_,p=>by simp only [VR] at p ⊢;exact dC i _ p
 | .dead,_,_,_=>by simp only [VR]
 | .own _ _ _,_,_,p=>by simp only [VR] at p
 | .ref b _ _ _,_,h,p=>by
  obtain ⟨k,j⟩:=h b (by simp [fD])
  simp only [VR] at p ⊢
  rw [k,j];exact p
 | .ptr b _ _,_,h,p=>by
  obtain ⟨k,j⟩:=h b (by simp [fD])
  simp only [VR] at p ⊢
  rw [k,j];exact p
 | .mr b _,_,h,p=>by
  obtain ⟨k,j⟩:=h b (by simp [fD])
  simp only [VR] at p ⊢
  rw [k,j];exact p
 | .agg l,_,h,p=>by
  simp only [VR] at p ⊢
  obtain ⟨vs,e,q⟩:=p
  exact ⟨vs,e,mJ i l (fun b d=>h b (by simpa [fD] using d)) q⟩
 | .tup l,_,h,p=>by
  simp only [VR] at p ⊢
  obtain ⟨vs,e,q⟩:=p
  exact ⟨vs,e,mJ i l (fun b d=>h b (by simpa [fD] using d)) q⟩
 | .fn f a c,_,h,p=>by
  simp only [VR] at p ⊢
  obtain ⟨o,s,e,q,r⟩:=p
  exact ⟨o,s,e,mJ i a (fun b d=>h b (by simp [fD,d])) q,mJ i c (fun b d=>h b (by simp [fD,d])) r⟩
 | .ifc t x,_,h,p=>by
  simp only [VR] at p ⊢
  obtain ⟨u,e,q⟩:=p
  exact ⟨u,e,xu i x (fun b d=>h b (by simpa [fD] using d)) q⟩
theorem mJ {g g':dR} {m d:bf} {S S':aW} (c:mi S S'):∀ (l:List AV) {vs:List Value},(∀ b ∈ dn l,g' b=g b∧d b=m b)→bF g m S l vs→bF g' d S' l vs
 | [],[],_,_=>by simp only [bF]
 |x::r,v::vs,h,p=>by
  simp only [bF] at p ⊢
  exact ⟨xu c x (fun b a=>h b (by simp [dn,a])) p.1,mJ c r (fun b a=>h b (by simp [dn,a])) p.2⟩
 | [],_::_,_,p=>by simp [bF] at p
 |_::_,[],_,p=>by simp [bF] at p
end
theorem mg {g:dR} {m:bf} {S:aW} {x:AV} {v:Value} (h:(fD x).isEmpty=true) (d:VR g m S x v):PR S x v:=by
 have c:fD x= []:=by simpa using h
 exact mY (m:=m) x (xu (mi.refl S) x (fun b a=>by rw [c] at a;cases a) d)
def F9 (nt:Nat) (o:Oper):Bool:=match o.dst with|some d=>Nat.blt d nt|none=>true
def dX (nt:Nat):Code→Bool
 | .region _ ops _=>ops.toList.all (F9 nt)
 | .seq a b=>dX nt a && dX nt b
 | .cond _ a b=>dX nt a && dX nt b
 | .block _ b=>dX nt b
 | .loop b=>dX nt b
 | .scope b=>dX nt b
 |_=>true
section
variable {P:Program} {ap:AP} {H:di}
def SG (hp:Hp) (m:bf) (S:aW) (Q:Exit→Act→World→Prop) (a:Act) (w:World):bM→Prop
 | .normal=>Q .normal a w
 | .exit id=>Q (.exit id) a w
 | .ret=>Q .ret a w
 | .panic v=> ∀ cv,VR (aG hp) m S v cv→Q (.panic [{v:=cv,recovered:=false}]) a w
def XA (ap:AP) (h0:List bi) (m0:bf) (S0:aW) (w0:World) (nt:Nat) (s':St) (e:bM) (Q:Exit→Act→World→Prop):Prop:=
 ∀ m' S' w' a',Fr (bI h0) m0 S0 w0 (aG s'.hp) m' S' w'→FR ap s'.env s'.hp s'.dfs nt m' S' w' a'→SG s'.hp m' S' Q a' w' e
def aj (P:Program) (ap:AP) (h0:List bi) (nt:Nat) (code:Code) (s:St) (e:bM) (s':St):Prop:=
 s.md= .dead→s'.md= .dead∧∀ m0 S0 w0 m S w a,Fr (bI h0) m0 S0 w0 (aG s.hp) m S w→FR ap s.env s.hp s.dfs nt m S w a→∀ Q,XA ap h0 m0 S0 w0 nt s' e Q→code.wp P Q a w
theorem aj.still {h0:List bi} {nt:Nat} {b:Code} {s:St} {e:bM} (h:∀ (Q:Exit→Act→World→Prop) hp m S a w,SG hp m S Q a w e→b.wp P Q a w):aj P ap h0 nt b s e s:=
 fun c=> ⟨c,fun _ _ _ m S w a f d Q i=>h Q s.hp m S a w (i m S w a f d)⟩
theorem Df {h0:List bi} {nt:Nat} {b:Code} {f:St→Cx→R (bM × St)} (y:∀ s e s' c c',f s c= .ok (e,s') c'→c'.Ok→c.Ok∧aj P ap h0 nt b s e s'):
  ∀ (n:Nat) (s:St) (e:bM) (s':St) (c c':Cx),OZ f n s c= .ok (e,s') c'→c'.Ok→c.Ok∧(s.md= .dead→s'.md= .dead∧∀ m0 S0 w0 m S w a,Fr (bI h0) m0 S0 w0 (aG s.hp) m S w→FR ap s.env s.hp s.dfs nt m S w a→∀ Q,XA ap h0 m0 S0 w0 nt s' e Q→Code.rounds P b Q n a w)
 |0,s,e,s',c,c',h,hc=>by cases h
 | n+1,s,e,s',c,c',h,hc=>by
  simp only [OZ] at h
  obtain ⟨⟨o,D⟩,C,E,h⟩:=R.bind_ok h
  dsimp only at h
  have hother:o ≠ .normal→R.ok (o,D) C=R.ok (e,s') c'→c.Ok∧(s.md= .dead→s'.md= .dead∧∀ m0 S0 w0 m S w a,Fr (bI h0) m0 S0 w0 (aG s.hp) m S w→FR ap s.env s.hp s.dfs nt m S w a→∀ Q,XA ap h0 m0 S0 w0 nt s' e Q→Code.rounds P b Q (n+1) a w):=by
   intro k J
   cases J
   obtain ⟨d,p⟩:=y _ _ _ _ _ E hc
   refine ⟨d,fun j=> ?_⟩
   obtain ⟨l,u⟩:=p j
   refine ⟨l,fun m0 S0 w0 m S w a i B Q z=>u m0 S0 w0 m S w a i B _ ?_⟩
   intro t S' w' q x r
   have:=z t S' w' q x r
   cases e with
   |normal=>exact absurd rfl k
   |exit id=>exact this
   |ret=>exact this
   |panic v=>exact this
  cases o with
  |normal=>
   dsimp only at h
   obtain ⟨A,I⟩:=Df y n D e s' C c' h hc
   obtain ⟨d,p⟩:=y _ _ _ _ _ E A
   refine ⟨d,fun j=> ?_⟩
   obtain ⟨l,u⟩:=p j
   obtain ⟨x,r⟩:=I l
   refine ⟨x,fun m0 S0 w0 m S w a i B Q z=>u m0 S0 w0 m S w a i B _ ?_⟩
   intro t S' w' q G F
   exact r m0 S0 w0 t S' w' q G F Q z
  |exit id=>exact hother (by simp) h
  |ret=>exact hother (by simp) h
  |panic v=>exact hother (by simp) h
theorem fJ (q:jd P ap) (i:P.follows .mixedOrders=true) (L:jX P ap H) {h0:List bi} {keep:List Nat} {lf nt:Nat}:∀ (code:Code),dX nt code=true→∀ (s:St) (e:bM) (s':St) (c p:Cx),kX ap H h0.length keep lf code s c= .ok (e,s') p→p.Ok→c.Ok∧aj P ap h0 nt code s e s'
 | .skip,_,s,e,s',c,p,h,n=>by
  cases h
  exact ⟨n,aj.still fun Q hp m S a w r=>wp_skip r⟩
 | .label l,_,s,e,s',c,p,h,n=>by
  cases h
  exact ⟨n,aj.still fun Q hp m S a w r=>wp_label r⟩
 | .exit id,_,s,e,s',c,p,h,n=>by
  cases h
  exact ⟨n,aj.still fun Q hp m S a w r=>wp_exit r⟩
 | .ret,_,s,e,s',c,p,h,n=>by
  cases h
  exact ⟨n,aj.still fun Q hp m S a w r=>wp_ret r⟩
 | .region id ops draw,hd,s,e,s',c,p,h,n=>by
  have hnt:∀ o ∈ ops.toList,∀ d,o.dst=some d→d<nt:=by
   intro o ho d Y
   have:=List.all_eq_true.1 hd o ho
   simp only [F9,Y] at this
   exact gm this
  obtain ⟨j,hr⟩:=I4 q i L hnt (id:=id) h n
  refine ⟨j,fun k=> ?_⟩
  obtain ⟨I,h2⟩:=hr k
  refine ⟨I,fun m0 S0 w0 m S w a f F Q E=> ?_⟩
  have:=h2 m S w a F Q
  rw [Array.toArray_toList] at this
  refine this ?_
  cases e with
  |normal=>
   intro V T G S' w' B A D
   obtain ⟨m2,u,C⟩:=nM (keep:=keep) (f.trans A) D
   rw [← T] at u C
   exact E m2 S' w' B u C
  | panic v=>
   simp only [oh]
   split
   ·rename_i Z
    intro V T G S' w' B cv A D u
    obtain ⟨m2,C,X⟩:=nM (keep:=keep) (f.trans A) D
    rw [← T] at C X
    exact E m2 S' w' B C X cv (iP _ (mg Z u))
   ·intro G S' w' B cv A D u
    exact E G S' w' B (f.trans A) D cv u
  |exit id=>trivial
  |ret=>trivial
 | .seq x y,hd,s,e,s',c,p,h,n=>by
  simp only [dX,Bool.and_eq_true] at hd
  simp only [kX] at h
  obtain ⟨⟨N,V⟩,O,I,h⟩:=R.bind_ok h
  dsimp only at h
  have hother:N ≠ .normal→R.ok (N,V) O=R.ok (e,s') p→c.Ok∧aj P ap h0 nt (.seq x y) s e s':=by
   intro M W
   cases W
   obtain ⟨j,J⟩:=fJ q i L x hd.1 _ _ _ _ _ I n
   refine ⟨j,fun k=> ?_⟩
   obtain ⟨A,D⟩:=J k
   refine ⟨A,fun m0 S0 w0 m S w a f F Q E=>wp_seq (D m0 S0 w0 m S w a f F _ ?_)⟩
   intro G S' w' B u C
   have:=E G S' w' B u C
   cases e with
   |normal=>exact absurd rfl M
   |exit id=>exact this
   |ret=>exact this
   |panic v=>exact this
  cases N with
  |normal=>
   dsimp only at h
   obtain ⟨K,ih⟩:=fJ q i L y hd.2 _ _ _ _ _ h n
   obtain ⟨j,J⟩:=fJ q i L x hd.1 _ _ _ _ _ I K
   refine ⟨j,fun k=> ?_⟩
   obtain ⟨A,D⟩:=J k
   obtain ⟨u,C⟩:=ih A
   refine ⟨u,fun m0 S0 w0 m S w a f F Q E=>wp_seq (D m0 S0 w0 m S w a f F _ ?_)⟩
   intro G S' w' B X h8
   exact C m0 S0 w0 G S' w' B X h8 Q E
  |exit id=>exact hother (by simp) h
  |ret=>exact hother (by simp) h
  |panic v=>exact hother (by simp) h
 | .cond t x y,hd,s,e,s',c,p,h,n=>by
  simp only [dX,Bool.and_eq_true] at hd
  simp only [kX] at h
  split at h
  ·rename_i bv hbv
   obtain ⟨b',O,I,h⟩:=R.bind_ok h
   have key:∀ (z:Code),(O.Ok→O.Ok∧z=if bv then x else y)→O.Ok∧aj P ap h0 nt z s e s'→c.Ok∧aj P ap h0 nt (.cond t x y) s e s':=by
    rintro z hzz ⟨K,ih⟩
    obtain ⟨j,hb⟩:=lg I K
    refine ⟨j,fun k=> ?_⟩
    obtain ⟨u,C⟩:=ih k
    refine ⟨u,fun m0 S0 w0 m S w a f F Q E=>wp_cond (t:=bv) ?_ ?_⟩
    ·have:=wL F.srel (a:=a) (env:=s.env) t (fun t _=>F.env t)
     rw [hbv] at this
     simpa only [VR,PR] using this
    ·rw [← (hzz K).2]
     exact C m0 S0 w0 m S w a f F Q E
   cases b' with
   |true=>exact key x (fun U=> ⟨U,by rw [← (lg I U).2];rfl⟩) (fJ q i L x hd.1 _ _ _ _ _ h n)
   |false=>exact key y (fun U=> ⟨U,by rw [← (lg I U).2];rfl⟩) (fJ q i L y hd.2 _ _ _ _ _ h n)
  ·cases h
 | .block id b,hd,s,e,s',c,p,h,n=>by
  simp only [dX] at hd
  simp only [kX] at h
  obtain ⟨⟨N,V⟩,O,I,h⟩:=R.bind_ok h
  dsimp only at h
  have hcc:O=p:=by
   cases N<;>dsimp only at h
   ·cases h;rfl
   ·split at h<;>cases h<;>rfl
   ·cases h;rfl
   ·cases h;rfl
  subst hcc
  obtain ⟨j,J⟩:=fJ q i L b hd _ _ _ _ _ I n
  refine ⟨j,fun k=> ?_⟩
  obtain ⟨A,D⟩:=J k
  have hs:V=s':=by
   cases N<;>dsimp only at h
   ·cases h;rfl
   ·split at h<;>cases h<;>rfl
   ·cases h;rfl
   ·cases h;rfl
  subst hs
  refine ⟨A,fun m0 S0 w0 m S w a f F Q E=>wp_block (D m0 S0 w0 m S w a f F _ ?_)⟩
  intro G S' w' B u C
  have r:=E G S' w' B u C
  cases N with
  |normal=>cases h;exact r
  |ret=>cases h;exact r
  |panic v=>cases h;exact r
  | exit id'=>
   dsimp only at h
   split at h
   ·rename_i W
    cases h
    show Exit.inBlock id Q (.exit id') B w'
    simp only [Exit.inBlock,if_pos (aO W)]
    exact r
   ·rename_i W
    cases h
    show Exit.inBlock id Q (.exit id') B w'
    have M:id' ≠ id:=by intro e;subst e;simp at W
    simp only [Exit.inBlock,if_neg M]
    exact r
 | .loop b,hd,s,e,s',c,p,h,n=>by
  simp only [dX] at hd
  simp only [kX] at h
  obtain ⟨j,J⟩:=Df (fun s e s' c p h n=>fJ q i L b hd s e s' c p h n) lf s e s' c p h n
  refine ⟨j,fun k=> ?_⟩
  obtain ⟨A,D⟩:=J k
  exact ⟨A,fun m0 S0 w0 m S w a f F Q E=>wp_loop_rounds lf (D m0 S0 w0 m S w a f F Q E)⟩
 | .scope b,hd,s,e,s',c,p,h,n=>by
  simp only [dX] at hd
  simp only [kX] at h
  obtain ⟨j,J⟩:=fJ q i L b hd _ _ _ _ _ h n
  refine ⟨j,fun k=> ?_⟩
  obtain ⟨A,D⟩:=J k
  refine ⟨A,fun m0 S0 w0 m S w a f F Q E=>wp_scope_straight (D m0 S0 w0 m S w a f F _ ?_)⟩
  intro G S' w' B u C
  have r:=E G S' w' B u C
  cases e with
  |normal=>exact r
  |exit id=>exact r
  |ret=>exact r
  |panic v=>exact r
 | .rangeFunc _ _ _ _,_,s,e,s',c,p,h,n=>by cases h
 | .goto _,_,s,e,s',c,p,h,n=>by cases h
 | .refuse _,_,s,e,s',c,p,h,n=>by cases h
end
end AM
