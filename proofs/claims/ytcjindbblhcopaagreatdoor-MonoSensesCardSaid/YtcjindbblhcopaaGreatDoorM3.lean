/- The abstract machine over the code of the model, and the proof that it is sound. No conditions. -/
import Derived.Test.YtcjindbblhcopaaGreatDoorM2
import Derived.Orders
import Derived.LoopN
import Derived.Scope
set_option linter.unusedSimpArgs false
set_option linter.unusedVariables false
namespace AM
open Go
def bI (h:List bi):dR:=fun b=>h[b]?
def jO (gh gf:dR) (m:bf) (S:aW):Nat→List AV→List Value→Prop
 |_,[],[]=>True
 |n,.own _ k _::r,v::vs=>VR gf m S (.ref n 0 0 k) v∧jO gh gf m S (n+1) r vs
 |n,x::r,v::vs=>VR gh m S x v∧jO gh gf m S n r vs
 |_,_,_=>False
def xq (gh gf:dR) (m:bf) (S:aW) (n:Nat):AV→Value→Prop
 | .tup l,v=> ∃ vs,v= .tuple vs.toArray∧jO gh gf m S n l vs
 | .own _ k _,v=>VR gf m S (.ref n 0 0 k) v
 |x,v=>VR gh m S x v
def kT (n:Nat):kM→List bi
 | .ret v=>(jZ n v).2
 | .pan _=> []
def aar (h':List bi) (m':bf) (S':aW):kM→Ending→Prop
 | .ret v,e=> ∃ cv,e= .returned cv∧xq (bI h') (bI (h'++(jZ h'.length v).2)) m' S' h'.length v cv
 | .pan v,e=> ∃ cv,e= .panicked [{v:=cv,recovered:=false}]∧VR (bI h') m' S' v cv
structure E8 (ap:AP) (h:List bi) (m:bf) (S:aW) (w:World) (out:kM) (h':List bi) (m':bf) (S':aW) (w':World) (e:Ending):Prop where
 srel:bY ap (bI (h'++kT h'.length out)) m' S' w'
 fr:Fr (bI h) m S w (bI (h'++kT h'.length out)) m' S' w'
 out:aar h' m' S' out e
def yJ (P:Program) (f:Nat):Prop:=∀ args w,(callFunc f args).run P w= .ok (.enter f args) w
structure au (P:Program) (ap:AP) (f:Nat) (args:List AV) (h:List bi) (out:kM) (h':List bi):Prop where
 len:h.length≤h'.length
 ent:yJ P f
 calls:∀ m S w cargs,bY ap (bI h) m S w→bF (bI h) m S args cargs→Calls P f cargs.toArray w fun e w'=> ∃ m' S',E8 ap h m S w out h' m' S' w' e
def jX (P:Program) (ap:AP) (H:di):Prop:=∀ c f args h out h' md' c',H c .dead f args h= .ok (out,h',md') c'→c'.Ok→c.Ok∧au P ap f args h out h'
section
variable {P:Program} {ap:AP} {g:dR} {m:bf} {S:aW} {w:World}
mutual
theorem mY {m:bf} {S:aW}:∀ (x:AV) {v:Value},VR (bI []) m S x v→PR S x v
 | .int _ _,_,p=>by simpa only [VR] using p
 | .bool _,_,p=>by simpa only [VR] using p
 | .str _,_,p=>by simpa only [VR] using p
 | .nilS,_,p=>by simpa only [VR] using p
 | .nilP,_,p=>by simpa only [VR] using p
 | .nilF,_,p=>by simpa only [VR] using p
 | .nilI,_,p=>by simpa only [VR] using p
 | .sl _ _ _,_,p=>by simpa only [VR] using p
 | .pp _ _,_,p=>by simpa only [VR] using p
 | .mp _ _,_,p=>by simpa only [VR] using p
 | .dead,_,_=>by simp only [PR]
 | .own _ _ _,_,p=>by simp only [VR] at p
 | .ref _ _ _ _,_,p=>by simp [VR,bI] at p
 | .ptr _ _ _,_,p=>by simp [VR,bI] at p
 | .mr _ _,_,p=>by simp [VR,bI] at p
 | .agg l,_,p=>by
  simp only [VR] at p;simp only [PR]
  obtain ⟨vs,e,q⟩:=p
  exact ⟨vs,e,kw l q⟩
 | .tup l,_,p=>by
  simp only [VR] at p;simp only [PR]
  obtain ⟨vs,e,q⟩:=p
  exact ⟨vs,e,kw l q⟩
 | .fn f a c,_,p=>by
  simp only [VR] at p;simp only [PR]
  obtain ⟨b,d,e,q,r⟩:=p
  exact ⟨b,d,e,kw a q,kw c r⟩
 | .ifc t x,_,p=>by
  simp only [VR] at p;simp only [PR]
  obtain ⟨u,e,q⟩:=p
  exact ⟨u,e,mY x q⟩
theorem kw {m:bf} {S:aW}:∀ (l:List AV) {vs:List Value},bF (bI []) m S l vs→dK S l vs
 | [],[],_=>by simp only [dK]
 |x::r,v::vs,p=>by simp only [bF] at p;simp only [dK];exact ⟨mY x p.1,kw r p.2⟩
 | [],_::_,p=>by simp [bF] at p
 |_::_,[],p=>by simp [bF] at p
end
theorem ZX (z:bY ap g m S w) {J l:dR} {V p:bf} {Sp S':aW} {w':World} (L:bY ap l p S' w') (r:Fr J V Sp w l p S' w') (ι:Nat→Nat)
  (hdom:∀ i Bc,J i=some Bc→∃ B,g (ι i)=some B∧V i=m (ι i))
  (hSp:mi S Sp) (hSpN:∀ k o v,Sp k o=some v→S k o=some v∨∃ b B,g b=some B∧(m b).1=k) {gN:dR} {mN:bf} (ρ:Nat→Nat→Option (Nat × Nat)) (hρ:su l p gN mN ρ)
  (hnew:∀ i Bc,l i=some Bc→∃ B,gN (ι i)=some B∧mN (ι i)=p i∧B.esz=Bc.esz∧B.fro=Bc.fro∧B.fz=Bc.fz∧B.pr=Bc.pr∧(Bc.pr=true→B.cells=Bc.cells)∧(Bc.pr=false→B.cells=lU ρ Bc.cells))
  (c:∀ b B,gN b=some B→(∃ i Bc,l i=some Bc∧b=ι i)∨(∃ B0,g b=some B0∧mN b=m b∧B.cells=B0.cells∧B.pr=B0.pr∧B.esz=B0.esz∧(B.fro=false→B.fz=0)∧B.fz≤B.cells.length∧(∀ i Bc,J i=some Bc→b ≠ ι i)∧(∀ o v,Sp (m b).1 o=some v→B.fro=true∧o<B.fz)))
  (hge:Ge g m gN mN):bY ap gN mN S' w'∧Fr g m S w gN mN S' w':=by
 have t:mi S S':=hSp.trans r.sle
 have hcross:∀ b B0 i Bc,g b=some B0→l i=some Bc→(∀ i Bc,J i=some Bc→b ≠ ι i)→(m b).1 ≠ (p i).1:=by
  intro b B0 i Bc n a s e
  have hlt:=z.lt n
  rcases r.img i Bc a with d|⟨B1,d,u⟩
  ·omega
  ·obtain ⟨B2,C,E⟩:=hdom i B1 d
   rw [E] at u
   exact s i B1 d (z.inj b (ι i) B0 B2 n C (e.trans u))
 constructor
 ·refine ⟨?_, ?_,L.sealed, ?_,L.glob⟩
  ·intro b U B B' n T e
   rcases c b B n with ⟨i,Bi,a,rfl⟩|⟨B0,h0,d,_,_,_,_,_,u,_⟩<;>rcases c U B' T with ⟨j,Bj,Q,rfl⟩|⟨B0',I,N,_,_,_,_,_,W,_⟩
   ·obtain ⟨_,_,y,_⟩:=hnew i Bi a
    obtain ⟨_,_,q,_⟩:=hnew j Bj Q
    rw [y,q] at e
    rw [L.inj i j Bi Bj a Q e]
   ·obtain ⟨_,_,y,_⟩:=hnew i Bi a
    rw [y,N] at e
    exact absurd e.symm (hcross U B0' i Bi I a W)
   ·obtain ⟨_,_,q,_⟩:=hnew j Bj Q
    rw [q,d] at e
    exact absurd e (hcross b B0 j Bj h0 Q u)
   ·rw [d,N] at e
    exact z.inj b U B0 B0' h0 I e
  ·intro b B n
   rcases c b B n with ⟨i,Bi,a,rfl⟩|⟨B0,h0,d,C,E,O,h6,Z,u,_⟩
   ·obtain ⟨B1,G,y,q,R,F,X,e6,Y⟩:=hnew i Bi a
    rw [n] at G;cases G
    rw [y]
    obtain ⟨⟨cur,e,vs,rest,k1,k2,k3,k4,k5,k6⟩,k7,k8⟩:=L.blk i Bi a
    cases hp:Bi.pr with
    |true=>
     have hcells:=e6 hp
     refine ⟨⟨cur,e,vs,rest,by rw [q];exact k1,k2,fun _=>by rw [hcells];exact k3 hp,by rw [hcells];exact bV _ (k3 hp),by rw [q];exact k5,by rw [q];exact k6⟩,by rw [R,F];exact k7,by rw [F,hcells];exact k8⟩
    |false=>
     have hcells:=Y hp
     have x:=kQ (mi.refl S') hρ _ k4
     have K:B.cells.length=Bi.cells.length:=by rw [cO k4,hcells,cO x]
     refine ⟨⟨cur,e,vs,rest,by rw [q];exact k1,k2,(fun h=>by rw [X,hp] at h;cases h),by rw [hcells];exact x,by rw [q];exact k5,by rw [q];exact k6⟩,by rw [R,F];exact k7,by rw [F,K];exact k8⟩
   ·rw [d]
    have s:∀ i Bc,J i=some Bc→(V i).1 ≠ (m b).1:=by
     intro i Bc a e
     obtain ⟨B2,M,f⟩:=hdom i Bc a
     rw [f] at e
     exact u i Bc a (z.inj b (ι i) B0 B2 h0 M e.symm)
    obtain ⟨⟨cur,e,vs,rest,k1,k2,k3,k4,k5,k6⟩,k7,k8⟩:=z.blk b B0 h0
    refine ⟨⟨cur,e,vs,rest,by rw [O];exact k1.same (r.rest _ (z.lt h0) s),k2,fun hp=>by rw [C];rw [E] at hp;exact bP t _ (k3 hp),by rw [C];exact lJ t hge _ k4,by rw [O];exact k5,by rw [O];exact k6⟩,h6,Z⟩
  ·intro b B n o v x
   rcases c b B n with ⟨i,Bi,a,rfl⟩|⟨B0,h0,d,C,E,O,h6,Z,u,M⟩
   ·obtain ⟨B1,G,y,q,R,F,X,e6,Y⟩:=hnew i Bi a
    rw [n] at G;cases G
    rw [y] at x
    rw [R,F]
    exact L.own i Bi a o v x
   ·rw [d] at x
    rcases r.sealN _ _ _ x with f|f|⟨i,Bi,a,f⟩
    ·exact M o v f
    ·have:=z.lt h0;omega
    ·obtain ⟨B2,A,D⟩:=hdom i Bi a
     rw [D] at f
     exact absurd (z.inj b (ι i) B0 B2 h0 A f.symm) (u i Bi a)
 ·refine ⟨hge,t,r.os,r.tape,r.output,r.size, ?_, ?_, ?_⟩
  ·intro k hk s
   refine r.rest k hk fun i Bc a e=> ?_
   obtain ⟨B2,M,f⟩:=hdom i Bc a
   exact s (ι i) B2 M (by rw [← f];exact e)
  ·intro b B n
   rcases c b B n with ⟨i,Bi,a,rfl⟩|⟨B0,h0,d,_⟩
   ·obtain ⟨B1,G,y,_⟩:=hnew i Bi a
    rw [y]
    rcases r.img i Bi a with d|⟨B2,d,u⟩
    ·exact .inl d
    ·obtain ⟨B3,C,E⟩:=hdom i B2 d
     exact .inr ⟨B3,C,by rw [u,E]⟩
   ·exact .inr ⟨B0,h0,by rw [d]⟩
  ·intro k o v x
   rcases r.sealN _ _ _ x with f|f|⟨i,Bi,a,f⟩
   ·rcases hSpN _ _ _ f with h|h
    ·exact .inl h
    ·exact .inr (.inr h)
   ·exact .inr (.inl f)
   ·obtain ⟨B2,A,D⟩:=hdom i Bi a
    exact .inr (.inr ⟨ι i,B2,A,by rw [← D];exact f⟩)
structure FC (F:AV→AV):Prop where
 own:∀ xs n e,F (.own xs n e)= .own xs n e
 tup:∀ l,F (.tup l)= .tup (l.map F)
 not:∀ x,(∀ xs n e,x ≠ .own xs n e)→(∀ xs n e,F x ≠ .own xs n e)
 notT:∀ x,(∀ l,x ≠ .tup l)→(∀ l,F x ≠ .tup l)
theorem bJ (n:Nat) {x:AV} (h:∀ xs k e,x ≠ .own xs k e) (r:List AV):gy n (x::r)=(x::(gy n r).1,(gy n r).2):=by
 cases x<;>first|rfl|exact absurd rfl (h _ _ _)
theorem jB (n:Nat) {x:AV} (h:∀ xs k e,x ≠ .own xs k e) (a:∀ l,x ≠ .tup l):jZ n x=(x,[]):=by
 cases x<;>first|rfl|exact absurd rfl (h _ _ _)|exact absurd rfl (a _)
theorem b_ {gh gf:dR} {n:Nat} {x:AV} (h:∀ xs k e,x ≠ .own xs k e) {r:List AV} {v:Value} {vs:List Value}:jO gh gf m S n (x::r) (v::vs)=(VR gh m S x v∧jO gh gf m S n r vs):=by
 cases x<;>first|rfl|exact absurd rfl (h _ _ _)
theorem kY {gh gf:dR} {n:Nat} {x:AV} (h:∀ xs k e,x ≠ .own xs k e) (a:∀ l,x ≠ .tup l) {v:Value}:xq gh gf m S n x v=VR gh m S x v:=by
 cases x<;>first|rfl|exact absurd rfl (h _ _ _)|exact absurd rfl (a _)
theorem jL (x:AV):(∃ xs k e,x= .own xs k e)∨(∀ xs k e,x ≠ .own xs k e):=by
 cases x<;>first|exact .inl ⟨_,_,_,rfl⟩|exact .inr (fun _ _ _ h=>by cases h)
theorem zA (x:AV):(∃ l,x= .tup l)∨(∀ l,x ≠ .tup l):=by
 cases x<;>first|exact .inl ⟨_,rfl⟩|exact .inr (fun _ h=>by cases h)
theorem rF {F:AV→AV} (c:FC F):∀ (l:List AV) (a b:Nat),(gy a (l.map F)).2=(gy b l).2
 | [],a,b=>rfl
 | x::r,a,b=>by
  rcases jL x with ⟨d,k,e,rfl⟩|hx
  ·simp only [List.map_cons,c.own,gy]
   rw [rF c r (a+1) (b+1)]
  ·rw [List.map_cons,bJ a (c.not x hx),bJ b hx]
   exact rF c r a b
theorem z_ {F:AV→AV} (c:FC F) (x:AV) (a b:Nat):(jZ a (F x)).2=(jZ b x).2:=by
 rcases jL x with ⟨d,k,e,rfl⟩|hx
 ·rw [c.own];rfl
 ·rcases zA x with ⟨l,rfl⟩|ht
  ·rw [c.tup]
   simp only [jZ]
   exact rF c l a b
  ·rw [jB a (c.not x hx) (c.notT x ht),jB b hx ht]
theorem ut {F:AV→AV} (a:FC F) {gh gf gN:dR} {m mN:bf} {S:aW} {n nid:Nat} (b:∀ x v,VR gh m S x v→VR gN mN S (F x) v) (c:∀ i k v,VR gf m S (.ref (n+i) 0 0 k) v→VR gN mN S (.ref (nid+i) 0 0 k) v):
  ∀ (l:List AV) (vs:List Value) (j:Nat),jO gh gf m S (n+j) l vs→bF gN mN S (gy (nid+j) (l.map F)).1 vs
 | [],[],j,_=>by simp [gy,bF]
 | x::r,v::vs,j,h=>by
  rcases jL x with ⟨d,k,e,rfl⟩|hxo
  ·simp only [jO] at h
   simp only [List.map_cons,a.own,gy,bF]
   exact ⟨c j k v h.1,by have:=ut a b c r vs (j+1);rw [← Nat.add_assoc,← Nat.add_assoc] at this;exact this h.2⟩
  ·rw [b_ hxo] at h
   rw [List.map_cons,bJ _ (a.not x hxo)]
   simp only [bF]
   exact ⟨b x v h.1,ut a b c r vs j h.2⟩
 | [],_::_,_,h=>by simp [jO] at h
 |x::r,[],_,h=>by cases x<;>simp [jO] at h
theorem D_ {F:AV→AV} (a:FC F) {gh gf gN:dR} {m mN:bf} {S:aW} {n nid:Nat} (b:∀ x v,VR gh m S x v→VR gN mN S (F x) v) (c:∀ i k v,VR gf m S (.ref (n+i) 0 0 k) v→VR gN mN S (.ref (nid+i) 0 0 k) v)
  {x:AV} {v:Value} (h:xq gh gf m S n x v):VR gN mN S (jZ nid (F x)).1 v:=by
 rcases jL x with ⟨d,k,e,rfl⟩|hxo
 ·simp only [xq] at h
  rw [a.own]
  exact c 0 k v h
 ·rcases zA x with ⟨l,rfl⟩|ht
  ·simp only [xq] at h
   obtain ⟨vs,e,h⟩:=h
   rw [a.tup]
   simp only [jZ,VR]
   exact ⟨vs,e,ut a b c l vs 0 h⟩
  ·rw [kY hxo ht] at h
   rw [jB _ (a.not x hxo) (a.notT x ht)]
   exact b x v h
theorem Ko:FC id:=⟨fun _ _ _=>rfl,fun l=>by simp,fun _ h=>h,fun _ h=>h⟩
theorem KU (ρ:Nat→Nat→Option (Nat × Nat)):∀ l,lU ρ l=l.map (ren ρ)
 | []=>rfl
 |x::r=>by simp [lU,KU ρ r]
theorem Gq (ρ:Nat→Nat→Option (Nat × Nat)):FC (ren ρ):=by
 refine ⟨fun _ _ _=>rfl,fun l=>by simp [ren,KU], ?_, ?_⟩
 ·intro x h b n e a
  cases x<;>simp only [ren] at a<;>first
   |(cases a;done)
   |(split at a<;>cases a;done)
   |exact h _ _ _ rfl
 ·intro x h l a
  cases x<;>simp only [ren] at a<;>first
   |(cases a;done)
   |(split at a<;>cases a;done)
   |exact h _ rfl
theorem yV:∀ (bs:List bi) (n b:Nat),aG (DK n bs) b=if n≤b then bs[b - n]? else none
 | [],n,b=>by simp [DK,aG]
 | B::r,n,b=>by
  simp only [DK,aG]
  cases h:Nat.beq n b with
  |true=>
   have:=aO h
   subst this
   simp
  | false=>
   have c:n ≠ b:=by intro e;subst e;simp at h
   rw [yV r (n+1) b]
   by_cases hle:n≤b
   ·rw [if_pos hle,if_pos (show n+1≤b by omega)]
    obtain ⟨d,a⟩:∃ d,b - n=d+1:=⟨b - n - 1,by omega⟩
    rw [a,List.getElem?_cons_succ,show b - (n+1)=d by omega]
   ·rw [if_neg hle,if_neg (show ¬ n+1≤b by omega)]
theorem Gv {rd:dR} {mk:bi→bi}:∀ (fp:List Nat) (b:Nat),aG (fp.filterMap fun b=>(rd b).map fun B=>(b,mk B)) b=if b ∈ fp then (rd b).map mk else none
 | [],b=>by simp [aG]
 | a::r,b=>by
  have f:=Gv (rd:=rd) (mk:=mk) r b
  cases c:rd a with
  |none=>
   rw [List.filterMap_cons_none (by simp [c]),f]
   by_cases hab:b=a
   ·subst hab;simp [c]
   ·simp [hab]
  | some B=>
   rw [List.filterMap_cons_some (by simp [c];rfl)]
   simp only [aG]
   cases h:Nat.beq a b with
   |true=>have:=aO h;subst this;simp [c]
   |false=>
    have d:b ≠ a:=by intro e;subst e;simp at h
    simp only [f,List.mem_cons,d,false_or]
end
end AM
namespace AM
open Go
def aas (g:dR) (m:bf) (S:aW):kM→Ending→Prop
 | .ret v,e=> ∃ cv,e= .returned cv∧VR g m S v cv
 | .pan v,e=> ∃ cv,e= .panicked [{v:=cv,recovered:=false}]∧VR g m S v cv
def Wx (ap:AP) (g:dR) (m:bf) (S:aW) (w:World) (out:kM) (ups:List (Nat × bi)) (e:Ending) (w':World):Prop:=
 ∃ m' S',bY ap (dZ g ups) m' S' w'∧Fr g m S w (dZ g ups) m' S' w'∧aas (dZ g ups) m' S' out e
theorem fO {h a:List bi} {b:Nat} (c:b<h.length):bI (h++a) b=bI h b:=by
 simp [bI,List.getElem?_append_left c]
theorem jq {h a:List bi} {b:Nat} (c:h.length≤b):bI (h++a) b=bI a (b - h.length):=by
 simp [bI,List.getElem?_append_right c]
def qO (l:List bi):Prop:=∀ B ∈ l,B.pr=true∧B.fro=false∧B.ver=0
theorem rG:∀ (l:List AV) (n:Nat),qO (gy n l).2
 | [],n=>by simp [gy,qO]
 | x::r,n=>by
  rcases jL x with ⟨b,k,e,rfl⟩|hx
  ·simp only [gy]
   intro B a
   rcases List.mem_cons.1 a with rfl|a
   ·exact ⟨rfl,rfl,rfl⟩
   ·exact rG r (n+1) B a
  ·rw [bJ n hx];exact rG r n
theorem KT (x:AV) (n:Nat):qO (jZ n x).2:=by
 rcases jL x with ⟨b,k,e,rfl⟩|hx
 ·intro B a
  simp [jZ] at a
  subst a
  exact ⟨rfl,rfl,rfl⟩
 ·rcases zA x with ⟨l,rfl⟩|ht
  ·simp only [jZ];exact rG l n
  ·rw [jB n hx ht];simp [qO]
theorem zZ (o:kM) (n:Nat):qO (kT n o):=by
 cases o with
 |ret v=>exact KT v n
 |pan v=>simp [kT,qO]
section
variable {P:Program} {ap:AP} {g:dR} {m:bf} {S:aW} {w:World}
def IU (nid:Nat) (F:AV→AV):kM→kM
 | .ret v=> .ret (jZ nid (F v)).1
 | .pan v=> .pan (F v)
theorem zI (p:bY ap g m S w) {rd:dR} (j:∀ b B,rd b=some B→g b=some B) {L:List Nat} (N:∀ b B,rd b=some B→b ∈ L) {nid:Nat} {args args':List AV} {cargs:List Value} {out:kM}
  (ha:kK (frz rd 6) args=some args') (hv:bF g m S args cargs) {C:List Value→(Ending→World→Prop)→Prop} (hmono:∀ cargs R R',C cargs R→(∀ e w',R e w'→R' e w')→C cargs R')
  (f:∀ m1 S1,mi S S1→bY ap (bI []) m1 S1 w→bF (bI []) m1 S1 args' cargs→C cargs fun e w'=> ∃ m' S',E8 ap [] m1 S1 w out [] m' S' w' e) (hfr:∀ i,i<(kT 0 out).length→g (nid+i)=none):
  C cargs fun e w'=>Wx ap g m S w (IU nid id out) (DK nid (kT 0 out)++L.filterMap fun b=>(rd b).map fun B=>(b,{B with fro:=true,fz:=B.cells.length})) e w':=by
 have Q:dK (dU S m rd w) args' cargs:=sW (fun x v y a d=>lh p j 6 x v y a d) ha hv
 have t:=mO S m rd w
 let m0:bf:=fun _=>(0,0)
 have Y:bY ap (bI []) m0 (dU S m rd w) w:=by
  refine ⟨fun b b' B B' h=>by simp [bI] at h,fun b B h=>by simp [bI] at h,fun k o v h=>oV p h,fun b B h=>by simp [bI] at h, ?_⟩
  intro k xs hk
  obtain ⟨vs,a,d⟩:=p.glob k xs hk
  exact ⟨vs,bP t _ a,d.mono t⟩
 refine hmono _ _ _ (f m0 (dU S m rd w) t Y (bV _ Q)) ?_
 rintro e w' ⟨m',S',hF⟩
 obtain ⟨z,r,l⟩:=hF
 simp only [List.nil_append,List.length_nil] at z r l
 generalize F:kT 0 out=bs at z r hfr
 have D:qO bs:=F ▸ zZ out 0
 let gN:dR:=dZ g (DK nid bs++L.filterMap fun b=>(rd b).map fun B=>(b,{B with fro:=true,fz:=B.cells.length}))
 let mN:bf:=fun b=>if nid≤b∧b - nid<bs.length then m' (b - nid) else m b
 have u:∀ b,gN b=if nid≤b∧b - nid<bs.length then bs[b - nid]? else match rd b with|some B=>some {B with fro:=true,fz:=B.cells.length}|none=>g b:=by
  intro b
  show dZ g _ b=_
  unfold dZ
  have X:∀ mk:bi→bi,(if b ∈ L then (rd b).map mk else none)=(rd b).map mk:=by
   intro mk
   split
   ·rfl
   ·rename_i c
    cases q:rd b with
    |none=>rfl
    |some B=>exact absurd (N b B q) c
  rw [iw,yV,Gv,X]
  by_cases a:nid≤b
  ·by_cases d:b - nid<bs.length
   ·have f:nid≤b∧b - nid<bs.length:=⟨a,d⟩
    rw [if_pos a,if_pos f,List.getElem?_eq_getElem d]
   ·have f:¬ (nid≤b∧b - nid<bs.length):=fun h=>d h.2
    rw [if_pos a,if_neg f,List.getElem?_eq_none (Nat.le_of_not_lt d)]
    cases rd b<;>rfl
  ·have f:¬ (nid≤b∧b - nid<bs.length):=fun h=>a h.1
   rw [if_neg a,if_neg f]
   cases rd b<;>rfl
 have hnidg:∀ b B,g b=some B→¬ (nid≤b∧b - nid<bs.length):=by
  rintro b B c ⟨a,d⟩
  have:=hfr (b - nid) d
  rw [show nid+(b - nid)=b by omega,c] at this
  cases this
 have W:Ge g m gN mN:=by
  intro b B c
  have hn:=hnidg b B c
  have J:mN b=m b:=if_neg hn
  rw [u,if_neg hn]
  cases q:rd b with
  |none=>exact ⟨B,c,rfl,.inl ⟨rfl,J⟩⟩
  |some B1=>
   have:=j b B1 q
   rw [c] at this;cases this
   exact ⟨_,rfl,rfl,.inl ⟨rfl,J⟩⟩
 have A:∀ i B,bs[i]? =some B→gN (nid+i)=some B∧mN (nid+i)=m' i:=by
  intro i B G
  have hl:=(List.getElem?_eq_some_iff.1 G).1
  have f:nid≤nid+i∧nid+i - nid<bs.length:=by omega
  refine ⟨by rw [u,if_pos f,show nid+i - nid=i by omega];exact G, ?_⟩
  show (if _ then _ else _)=_
  rw [if_pos f,show nid+i - nid=i by omega]
 obtain ⟨U,M⟩:=ZX (g:=g) (m:=m) (S:=S) (w:=w) p z r (fun i=>nid+i) (fun i Bc h=>by simp [bI] at h) t
  (fun k o v h=>(gz h).imp id fun ⟨_,b,B,a,d,_⟩=> ⟨b,B,j b B a,d⟩) (gN:=gN) (mN:=mN) (fun i v=>some (nid+i,v))
  (by
   intro b ver b' ver' h B hB E
   simp only [Option.some.injEq,Prod.mk.injEq] at h
   obtain ⟨rfl,rfl⟩:=h
   obtain ⟨a,d⟩:=A b B hB
   exact ⟨B,a,E,fun e=> ⟨e,d,rfl⟩⟩)
  (by
   intro i Bc G
   obtain ⟨a,d⟩:=A i Bc G
   exact ⟨Bc,a,d,rfl,rfl,rfl,rfl,fun _=>rfl,fun hp=>by rw [(D Bc (List.mem_of_getElem? G)).1] at hp;cases hp⟩)
  (by
   intro b B c
   by_cases f:nid≤b∧b - nid<bs.length
   ·rw [u,if_pos f] at c
    exact .inl ⟨b - nid,B,c,by omega⟩
   ·have J:mN b=m b:=if_neg f
    rw [u,if_neg f] at c
    right
    cases q:rd b with
    | none=>
     rw [q] at c
     have c:g b=some B:=c
     refine ⟨B,c,J,rfl,rfl,rfl,(p.blk b B c).fz0,(p.blk b B c).fzle,(fun i Bc h=>by simp [bI] at h), ?_⟩
     intro o v O
     rcases gz O with h|⟨_,V,B1,a,d,_⟩
     ·exact p.own b B c o v h
     ·have:=p.inj V b B1 B (j _ _ a) c d
      subst this
      rw [a] at q;cases q
    | some B1=>
     rw [q] at c
     have c:some {B1 with fro:=true,fz:=B1.cells.length}=some B:=c
     cases c
     have s:=j b B1 q
     refine ⟨B1,s,J,rfl,rfl,rfl,(fun h=>by cases h),Nat.le_refl _,(fun i Bc h=>by simp [bI] at h), ?_⟩
     intro o v O
     refine ⟨rfl, ?_⟩
     rcases gz O with h|⟨_,V,B2,a,d,T⟩
     ·exact Nat.lt_of_lt_of_le (p.own b B1 s o v h).2 (p.blk b B1 s).fzle
     ·have:=p.inj V b B2 B1 (j _ _ a) s d
      subst this
      rw [a] at q;cases q
      exact T)
  W
 refine ⟨mN,S',U,M, ?_⟩
 show aas gN mN S' (IU nid id out) e
 cases out with
 |ret v=>
  obtain ⟨cv,Z,a⟩:=l
  refine ⟨cv,Z, ?_⟩
  have I:(jZ 0 v).2=bs:=F
  simp only [List.length_nil,List.nil_append,I] at a
  refine D_ (n:=0) Ko (fun x v K=>iP x (mY x K)) ?_ a
  intro i k v K
  rw [Nat.zero_add] at K
  simp only [VR] at K ⊢
  obtain ⟨B,d,T,h4,h5⟩:=K
  obtain ⟨h6,h7⟩:=A i B d
  exact ⟨B,h6,T,h4,by rw [h7];exact h5⟩
 |pan v=>
  obtain ⟨cv,Z,a⟩:=l
  exact ⟨cv,Z,iP _ (mY _ a)⟩
end
end AM
namespace AM
open Go
theorem KE {b:Nat} {r:List Nat} (h:rq (b::r)=true):b ∉ r∧rq r=true:=by
 simp only [rq,Bool.and_eq_true,Bool.not_eq_true'] at h
 refine ⟨fun a=> ?_,h.2⟩
 rw [jf.2 a] at h
 cases h.1
theorem qy:∀ {l:List Nat} {b p:Nat},pq l b=some p→l[p]? =some b
 | [],b,p,h=>by simp [pq] at h
 | c::r,b,p,h=>by
  simp only [pq] at h
  split at h
  ·rename_i a;cases h;rw [aO a];rfl
  ·simp only [Option.map_eq_some_iff] at h
   obtain ⟨q,d,rfl⟩:=h
   simpa using qy d
theorem oO:∀ {l:List Nat} {b p:Nat},rq l=true→l[p]? =some b→pq l b=some p
 | [],b,p,_,h=>by simp at h
 |c::r,b,0,hn,h=>by simp at h;subst h;simp [pq]
 | c::r,b,p+1,hn,h=>by
  obtain ⟨e,f⟩:=KE hn
  have h:r[p]? =some b:=by simpa using h
  have a:Nat.beq c b=false:=by
   cases d:Nat.beq c b with
   |false=>rfl
   |true=>exact absurd (aO d ▸ List.mem_of_getElem? h) e
  simp [pq,a,oO f h]
theorem Kz {mk:Nat→bi→bi}:∀ (fp:List Nat) (h':List bi) (b:Nat),aG ((LQ fp h').map fun (b,B)=>(b,mk b B)) b=(pq fp b).bind fun p=>(h'[p]?).map (mk b)
 | [],h',b=>by cases h'<;>simp [LQ,aG,pq]
 |a::r,[],b=>by
  simp only [LQ,List.map_nil,aG,pq]
  cases Nat.beq a b with
  |true=>rfl
  |false=>cases pq r b<;>rfl
 | a::r,B::q,b=>by
  simp only [LQ,List.map_cons,aG,pq]
  cases h:Nat.beq a b with
  |true=>have:=aO h;subst this;rfl
  |false=>
   simp only [Kz r q b]
   cases pq r b<;>simp
section
variable {P:Program} {ap:AP} {g:dR} {m:bf} {S:aW} {w:World}
def Jl (ρ:Nat→Nat→Option (Nat × Nat)) (B:bi):bi:={B with cells:=(match B.pr with|true=>B.cells|false=>lU ρ B.cells),ver:=0}
theorem ar1 {a b n i:Nat} (h:b≤a):n+(a+i - b)=n+(a - b)+i:=by omega
theorem ar2 {a b i:Nat} (h:b≤a):b+(a+i - b)=a+i:=by omega
theorem WU {ρ:Nat→Nat→Option (Nat × Nat)} {l:List bi} (h:qO l):l.map (Aj ρ 0)=l:=by
 induction l with
 |nil=>rfl
 |cons B r ih=>
  rw [List.map_cons,ih fun B d=>h B (by simp [d])]
  obtain ⟨a,_,b⟩:=h B (by simp)
  obtain ⟨c,v,f,z,e,p⟩:=B
  simp only at a b
  subst a b
  rfl
theorem zJ (L:bY ap g m S w) {rd:dR} (hrd:∀ b B,rd b=some B→g b=some B) {a:List Nat} {M:List bi} (hbl:kK rd a=some M) (G:rq a=true) {nid:Nat} {args:List AV} {cargs:List Value} {out:kM}
  {vers:Nat→Nat} (hvers:∀ b B,rd b=some B→vers b=B.ver) {ρ ρ':Nat→Nat→Option (Nat × Nat)} (hρe:∀ b v,ρ b v=match Nat.beq v (vers b) with|true=>(pq a b).map fun p=>(p,0)|false=>none)
  {h':List bi} (hρe':ρ'=OD nid a vers h'.length)
  (hv:bF g m S args cargs) {C:List Value→(Ending→World→Prop)→Prop} (hmono:∀ cargs R R',C cargs R→(∀ e w',R e w'→R' e w')→C cargs R')
  (t:∀ m1 S1,mi S S1→bY ap (bI (M.map (Jl ρ))) m1 S1 w→bF (bI (M.map (Jl ρ))) m1 S1 (lU ρ args) cargs→C cargs fun e w'=> ∃ m' S',E8 ap (M.map (Jl ρ)) m1 S1 w out h' m' S' w' e) (hl:a.length≤h'.length) (hfr:∀ i,i<(h'.length - a.length)+(kT h'.length out).length→g (nid+i)=none):
  C cargs fun e w'=>Wx ap g m S w (IU (nid+(h'.length - a.length)) (ren ρ') out) (DK nid ((h'.drop a.length).map (Aj ρ' 0)++kT h'.length out)++(LQ a h').map fun (b,B)=>(b,Aj ρ' (vers b) B)) e w':=by
 have r:∀ p b,a[p]? =some b→∃ B,rd b=some B∧g b=some B∧bI (M.map (Jl ρ)) p=some (Jl ρ B):=by
  intro p b hp
  obtain ⟨B,c,d⟩:=(jv hbl).2 p b hp
  exact ⟨B,d,hrd b B d,by simp [bI,c]⟩
 have y:∀ p Bc,bI (M.map (Jl ρ)) p=some Bc→∃ b B,a[p]? =some b∧rd b=some B∧g b=some B∧Bc=Jl ρ B:=by
  intro p Bc hp
  have z:p<a.length:=by
   have:=(List.getElem?_eq_some_iff.1 hp).1
   rw [List.length_map,(jv hbl).1] at this
   exact this
  obtain ⟨B,c,d,f⟩:=r p _ (List.getElem?_eq_getElem z)
  rw [f] at hp;cases hp
  exact ⟨_,B,List.getElem?_eq_getElem z,c,d,rfl⟩
 let mc:bf:=fun p=>m (a.getD p 0)
 have l:∀ p b,a[p]? =some b→mc p=m b:=by
  intro p b hp
  show m (a.getD p 0)=_
  rw [List.getD_eq_getElem?_getD,hp];rfl
 have Q:su g m (bI (M.map (Jl ρ))) mc ρ:=by
  intro b ver W F h B K I
  rw [hρe] at h
  split at h
  ·rename_i hve
   simp only [Option.map_eq_some_iff,Prod.mk.injEq] at h
   obtain ⟨p,hp,rfl,rfl⟩:=h
   have hp:=qy hp
   obtain ⟨B1,c,d,f⟩:=r p b hp
   rw [d] at K;cases K
   exact ⟨_,f,Nat.zero_le _,fun _=> ⟨by rw [aO hve,hvers b _ c],l p b hp,rfl⟩⟩
  ·cases h
 have hSc:bY ap (bI (M.map (Jl ρ))) mc S w:=by
  refine ⟨?_, ?_,L.sealed, ?_,L.glob⟩
  ·intro p q Bp Bq hp hq e
   obtain ⟨b,B,c,d,f,_⟩:=y p Bp hp
   obtain ⟨W,B',h1',h2',h3',_⟩:=y q Bq hq
   rw [l p b c,l q W h1'] at e
   have:=L.inj b W B B' f h3' e
   subst this
   have Y:=oO G c
   rw [oO G h1'] at Y
   cases Y;rfl
  ·intro p Bp hp
   obtain ⟨b,B,c,d,f,rfl⟩:=y p Bp hp
   rw [l p b c]
   obtain ⟨⟨cur,e,vs,rest,k1,k2,k3,k4,k5,k6⟩,k7,k8⟩:=L.blk b B f
   cases hp:B.pr with
   |true=>exact ⟨⟨cur,e,vs,rest,k1,k2,fun _=>by simpa [Jl,hp] using k3 hp,by simpa [Jl,hp] using bV _ (k3 hp),k5,k6⟩,k7,by simpa [Jl,hp] using k8⟩
   | false=>
    have hv:=kQ (mi.refl S) Q _ k4
    exact ⟨⟨cur,e,vs,rest,k1,k2,fun h=>by simp [Jl,hp] at h,by simpa [Jl,hp] using hv,k5,k6⟩,k7,by
     have:(Jl ρ B).cells.length=B.cells.length:=by simp only [Jl,hp];rw [cO k4,cO hv]
     rw [this];exact k8⟩
  ·intro p Bp hp o v ho
   obtain ⟨b,B,c,d,f,rfl⟩:=y p Bp hp
   rw [l p b c] at ho
   exact L.own b B f o v ho
 refine hmono _ _ _ (t mc S (mi.refl S) hSc (kQ (mi.refl S) Q _ hv)) ?_
 rintro e w' ⟨m',S',hF⟩
 obtain ⟨hsr,J,O⟩:=hF
 generalize hbs:kT h'.length out=bs0 at hsr J hfr
 have hown:qO bs0:=hbs ▸ zZ out h'.length
 obtain ⟨bs,E⟩:∃ bs,bs=h'.drop a.length++bs0:=⟨_,rfl⟩
 have hbsl:bs.length=(h'.length - a.length)+bs0.length:=by rw [E,List.length_append,List.length_drop]
 rw [← hbsl] at hfr
 let ups:=(LQ a h').map fun (b,B)=>(b,Aj ρ' (vers b) B)
 rw [show (h'.drop a.length).map (Aj ρ' 0)++bs0=bs.map (Aj ρ' 0) by rw [E,List.map_append,WU hown]]
 let gN:dR:=dZ g (DK nid (bs.map (Aj ρ' 0))++ups)
 let mN:bf:=fun b=>if nid≤b∧b - nid<bs.length then m' (a.length+(b - nid)) else match pq a b with|some p=>m' p|none=>m b
 have D:∀ b,gN b=if nid≤b∧b - nid<bs.length then (bs[b - nid]?).map (Aj ρ' 0) else match (pq a b).bind fun p=>(h'[p]?).map (Aj ρ' (vers b)) with|some B=>some B|none=>g b:=by
  intro b
  show dZ g _ b=_
  unfold dZ
  rw [iw,yV,Kz (mk:=fun b B=>Aj ρ' (vers b) B)]
  by_cases c:nid≤b
  ·by_cases d:b - nid<bs.length
   ·have t:nid≤b∧b - nid<bs.length:=⟨c,d⟩
    rw [if_pos c,if_pos t,List.getElem?_map,List.getElem?_eq_getElem d]
    rfl
   ·have t:¬ (nid≤b∧b - nid<bs.length):=fun h=>d h.2
    rw [if_pos c,if_neg t,List.getElem?_map,List.getElem?_eq_none (Nat.le_of_not_lt d)]
    rfl
  ·have t:¬ (nid≤b∧b - nid<bs.length):=fun h=>c h.1
   rw [if_neg c,if_neg t]
   rfl
 have hnidg:∀ b B,g b=some B→¬ (nid≤b∧b - nid<bs.length):=by
  rintro b B j ⟨c,d⟩
  have:=hfr (b - nid) d
  rw [show nid+(b - nid)=b by omega,j] at this
  cases this
 have hh':∀ p,p<a.length→∃ B,h'[p]? =some B:=fun p hp=> ⟨_,List.getElem?_eq_getElem (by omega)⟩
 have V:∀ p b,a[p]? =some b→∀ Bc,h'[p]? =some Bc→gN b=some (Aj ρ' (vers b) Bc)∧mN b=m' p:=by
  intro p b hp Bc K
  obtain ⟨B,c,d,f⟩:=r p b hp
  have hn:=hnidg b B d
  refine ⟨by rw [D,if_neg hn,oO G hp];simp [K], ?_⟩
  show (if _ then _ else _)=_
  rw [if_neg hn,oO G hp]
 have T:∀ i B,bs[i]? =some B→gN (nid+i)=some (Aj ρ' 0 B)∧mN (nid+i)=m' (a.length+i):=by
  intro i B A
  have hl:=(List.getElem?_eq_some_iff.1 A).1
  have t:nid≤nid+i∧nid+i - nid<bs.length:=by omega
  refine ⟨by rw [D,if_pos t,show nid+i - nid=i by omega,A];rfl, ?_⟩
  show (if _ then _ else _)=_
  rw [if_pos t,show nid+i - nid=i by omega]
 have U:∀ p,a.length≤p→bI (h'++bs0) p=bs[p - a.length]? :=by
  intro p hp
  have he:h'++bs0=h'.take a.length++bs:=by rw [E,← List.append_assoc,List.take_append_drop]
  have z:(h'.take a.length).length=a.length:=by rw [List.length_take];omega
  rw [he,jq (by omega),z]
  rfl
 have s:∀ p Bc,bI (h'++bs0) p=some Bc→(p<a.length∧h'[p]? =some Bc)∨(a.length≤p∧bs[p - a.length]? =some Bc):=by
  intro p Bc h
  by_cases hp:p<a.length
  ·rw [fO (by omega)] at h;exact .inl ⟨hp,h⟩
  ·rw [U p (by omega)] at h;exact .inr ⟨by omega,h⟩
 have hren':su (bI (h'++bs0)) m' gN mN ρ':=by
  intro p ver W F h Bc K I
  rw [hρe'] at h
  unfold OD at h
  split at h
  ·rename_i b hp
   cases h
   rcases s p Bc K with ⟨c,d⟩|⟨c,_⟩
   ·obtain ⟨f,u⟩:=V p _ hp Bc d
    exact ⟨_,f,by simp only [Aj];omega,fun e=> ⟨by simp only [Aj] at e;omega,u,rfl⟩⟩
   ·have:=(List.getElem?_eq_some_iff.1 hp).1;omega
  ·rename_i hp
   split at h
   ·cases h
    have Z:=List.getElem?_eq_none_iff.1 hp
    rcases s p Bc K with ⟨c,_⟩|⟨c,d⟩
    ·omega
    ·obtain ⟨f,u⟩:=T _ Bc d
     exact ⟨_,f,by simp only [Aj];omega,fun e=> ⟨by simp only [Aj] at e;omega,by rw [u,show a.length+(p - a.length)=p by omega],rfl⟩⟩
   ·cases h
 have Z:Ge g m gN mN:=by
  intro b B j
  have hn:=hnidg b B j
  cases A:pq a b with
  | none=>
   have hm:mN b=m b:=by
    show (if _ then _ else _)=_
    rw [if_neg hn,A]
   refine ⟨B, ?_,rfl,.inl ⟨rfl,hm⟩⟩
   rw [D,if_neg hn,A];exact j
  | some p=>
   have hp:=qy A
   obtain ⟨B1,c,d,f⟩:=r p b hp
   rw [d] at j;cases j
   obtain ⟨Bc,u,h5,N⟩:=J.ge p _ f
   rcases s p Bc u with ⟨_,X⟩|⟨X,_⟩
   ·obtain ⟨h8,h9⟩:=V p b hp Bc X
    refine ⟨_,h8,h5, ?_⟩
    rcases N with ⟨N,h6'⟩|N
    ·left
     refine ⟨?_,by rw [h9,h6',l p b hp]⟩
     simp only [Aj,Jl] at N ⊢
     rw [hvers b _ c];omega
    ·right
     simp only [Aj,Jl] at N ⊢
     rw [hvers b _ c];omega
   ·have:=(List.getElem?_eq_some_iff.1 hp).1;omega
 let ι:Nat→Nat:=fun p=>if p<a.length then a.getD p 0 else nid+(p - a.length)
 have hι:∀ p b,a[p]? =some b→ι p=b:=by
  intro p b hp
  show (if _ then _ else _)=_
  rw [if_pos (List.getElem?_eq_some_iff.1 hp).1,List.getD_eq_getElem?_getD,hp];rfl
 have hι':∀ i,ι (a.length+i)=nid+i:=by
  intro i
  show (if _ then _ else _)=_
  rw [if_neg (by omega)];congr 1;omega
 obtain ⟨hsN,hfN⟩:=ZX (g:=g) (m:=m) (S:=S) (w:=w) L hsr J ι
  (by
   intro p Bc hp
   obtain ⟨b,B,c,d,f,rfl⟩:=y p Bc hp
   rw [hι p b c]
   exact ⟨B,f,l p b c⟩) (mi.refl S) (fun k o v h=> .inl h) (gN:=gN) (mN:=mN) ρ' hren'
  (by
   intro p Bc hp
   rcases s p Bc hp with ⟨c,d⟩|⟨c,d⟩
   ·have hp:=List.getElem?_eq_getElem c
    obtain ⟨f,u⟩:=V p _ hp Bc d
    rw [hι p _ hp]
    exact ⟨_,f,u,rfl,rfl,rfl,rfl,fun h=>by simp [Aj,h],fun h=>by simp [Aj,h]⟩
   ·obtain ⟨i,rfl⟩:∃ i,p=a.length+i:=⟨p - a.length,by omega⟩
    rw [show a.length+i - a.length=i by omega] at d
    obtain ⟨f,u⟩:=T i Bc d
    rw [hι' i]
    exact ⟨_,f,u,rfl,rfl,rfl,rfl,fun h=>by simp [Aj,h],fun h=>by simp [Aj,h]⟩)
  (by
   intro b B j
   by_cases t:nid≤b∧b - nid<bs.length
   ·rw [D,if_pos t,Option.map_eq_some_iff] at j
    obtain ⟨Bc,j,_⟩:=j
    refine .inl ⟨a.length+(b - nid),Bc, ?_,by rw [hι'];omega⟩
    rw [U _ (by omega),show a.length+(b - nid) - a.length=b - nid by omega];exact j
   ·rw [D,if_neg t] at j
    cases A:pq a b with
    |some p=>
     have hp:=qy A
     have z:=(List.getElem?_eq_some_iff.1 hp).1
     obtain ⟨Bc,u⟩:=hh' p z
     exact .inl ⟨p,Bc,by rw [fO (by omega)];exact u,(hι p b hp).symm⟩
    | none=>
     have hm:mN b=m b:=by
      show (if _ then _ else _)=_
      rw [if_neg t,A]
     rw [A] at j
     have j:g b=some B:=j
     refine .inr ⟨B,j,hm,rfl,rfl,rfl,(L.blk b B j).fz0,(L.blk b B j).fzle, ?_,fun o v ho=>L.own b B j o v ho⟩
     intro p Bc hp e
     obtain ⟨b1,B1,c,_⟩:=y p Bc hp
     rw [hι p b1 c] at e
     subst e
     rw [oO G c] at A;cases A)
  Z
 refine ⟨mN,S',hsN,hfN, ?_⟩
 show aas gN mN S' (IU (nid+(h'.length - a.length)) (ren ρ') out) e
 have hrenh:su (bI h') m' gN mN ρ':=by
  intro p ver W F h Bc K I
  refine hren' p ver W F h Bc ?_ I
  rw [fO (List.getElem?_eq_some_iff.1 K).1];exact K
 cases out with
 |ret v=>
  obtain ⟨cv,Y,c⟩:=O
  refine ⟨cv,Y, ?_⟩
  have hbs':(jZ h'.length v).2=bs0:=hbs
  rw [hbs'] at c
  refine D_ (n:=h'.length) (Gq ρ') (fun x v hx=>yK (mi.refl S') hrenh x hx) ?_ c
  intro i k v hx
  simp only [VR] at hx ⊢
  obtain ⟨B,d,f,u,h5⟩:=hx
  rw [U _ (Nat.le_trans hl (Nat.le_add_right _ _))] at d
  obtain ⟨N,X⟩:=T _ B d
  rw [ar1 hl] at N X
  rw [ar2 hl] at X
  exact ⟨_,N,Nat.zero_le _,u,fun e=>by rw [X];exact h5 (by simpa [Aj] using e)⟩
 |pan v=>
  obtain ⟨cv,Y,c⟩:=O
  exact ⟨cv,Y,yK (mi.refl S') hrenh _ c⟩
end
end AM
namespace AM
open Go
section
variable {P:Program} {ap:AP} {H:di}
theorem xF {o:dR} {nid f:Nat} {args:List AV} {md:AV} {c A:Cx} {r:SE} (h:tH ap H o nid md f args c= .ok r A):
  ∃ args0 h0 out0 h0',H c md f args0 h0= .ok (out0,h0',r.md) A∧((∃ v,out0= .ret v)↔∃ v,r.out= .ret v)∧
  ∀ g m S w cargs (C:List Value→(Ending→World→Prop)→Prop),(∀ cargs R R',C cargs R→(∀ e w',R e w'→R' e w')→C cargs R')→bY ap g m S w→(∀ b ∈ r.fp,∀ B,o b=some B→g b=some B)→(∀ i,i<4→g (nid+i)=none)→bF g m S args cargs→
   (∀ m1 S1,mi S S1→bY ap (bI h0) m1 S1 w→bF (bI h0) m1 S1 args0 cargs→C cargs fun e w'=> ∃ m' S',E8 ap h0 m1 S1 w out0 h0' m' S' w' e)→
   C cargs fun e w'=>Wx ap g m S w r.out r.ups e w':=by
 unfold tH at h
 simp only at h
 generalize E:sO o 6 (jy (dn args))=fp at h
 let rd:dR:=fun b=>match pG fp b with|true=>o b|false=>none
 have a:∀ b B,rd b=some B→b ∈ fp∧o b=some B:=by
  intro b B d
  dsimp only [rd] at d
  split at d
  ·rename_i G;exact ⟨jf.1 G,d⟩
  ·cases d
 split at h
 ·split at h
  ·cases h
  ·rename_i args' z
   obtain ⟨⟨out,u,md⟩,F,y,h⟩:=R.bind_ok h
   dsimp only at h
   split at h
   ·cases h
   ·split at h
    ·rename_i v
     split at h
     ·rename_i n
      cases h
      refine ⟨_,_,_,_,y,⟨fun _=> ⟨_,rfl⟩,fun _=> ⟨_,rfl⟩⟩, ?_⟩
      intro g m S w cargs C hmono s k l t q
      have j:kT 0 (kM.ret v)=(jZ nid v).2:=z_ Ko v 0 nid
      have:=zI s (rd:=rd) (fun b B d=>k b (a b B d).1 B (a b B d).2) (fun b B d=>(a b B d).1) (nid:=nid) z t hmono q (fun i p=>l i (by rw [j] at p;have:=gQ n;omega))
      rw [j] at this
      exact this
     ·cases h
    ·rename_i v
     cases h
     refine ⟨_,_,_,_,y,⟨(fun ⟨_,h⟩=>by cases h),(fun ⟨_,h⟩=>by cases h)⟩, ?_⟩
     intro g m S w cargs C hmono s k l t q
     exact zI s (rd:=rd) (fun b B d=>k b (a b B d).1 B (a b B d).2) (fun b B d=>(a b B d).1) (nid:=nid) z t hmono q (fun i p=>by simp [kT] at p)
 ·split at h
  ·cases h
  ·rename_i I x
   obtain ⟨⟨out,u,md⟩,F,y,h⟩:=R.bind_ok h
   dsimp only at h
   split at h
   ·cases h
   ·rename_i hcond
    simp only [Bool.and_eq_true] at hcond
    have D:=gQ hcond.1
    let vers:Nat→Nat:=fun b=>match rd b with|some B=>B.ver|none=>0
    have hvers':∀ b B,rd b=some B→vers b=B.ver:=by
     intro b B d;simp only [vers,d]
    let ρ':Nat→Nat→Option (Nat × Nat):=OD nid fp vers u.length
    split at h
    ·rename_i v
     split at h
     ·rename_i n
      cases h
      refine ⟨_,_,_,_,y,⟨fun _=> ⟨_,rfl⟩,fun _=> ⟨_,rfl⟩⟩, ?_⟩
      intro g m S w cargs C hmono s k l t q
      have j:kT u.length (kM.ret v)=(jZ (nid+(u.length - fp.length)) (ren ρ' v)).2:=(z_ (Gq ρ') v (nid+(u.length - fp.length)) u.length).symm
      have:=zJ s (rd:=rd) (fun b B d=>k b (a b B d).1 B (a b B d).2) x hcond.2 (nid:=nid) hvers' (ρ':=ρ') (fun b v=>rfl) rfl t hmono q D (fun i p=>l i (by rw [j] at p;exact Nat.lt_of_lt_of_le p (gQ n)))
      rw [j] at this
      exact this
     ·cases h
    ·rename_i v
     split at h
     ·rename_i n
      cases h
      refine ⟨_,_,_,_,y,⟨(fun ⟨_,h⟩=>by cases h),(fun ⟨_,h⟩=>by cases h)⟩, ?_⟩
      intro g m S w cargs C hmono s k l t q
      exact zJ s (rd:=rd) (fun b B d=>k b (a b B d).1 B (a b B d).2) x hcond.2 (nid:=nid) hvers' (ρ':=ρ') (fun b v=>rfl) rfl t hmono q D (fun i p=>l i (by simp only [kT,List.length_nil,Nat.add_zero] at p;exact Nat.lt_of_lt_of_le p (gQ n)))
     ·cases h
theorem BU (u:jX P ap H) {a:dR} {nid f:Nat} {args:List AV} {c o:Cx} {r:SE} (h:tH ap H a nid .dead f args c= .ok r o) (A:o.Ok):
  c.Ok∧yJ P f∧∀ g m S w cargs,bY ap g m S w→(∀ b ∈ r.fp,∀ B,a b=some B→g b=some B)→(∀ i,i<4→g (nid+i)=none)→bF g m S args cargs→
   Calls P f cargs.toArray w fun e w'=>Wx ap g m S w r.out r.ups e w':=by
 obtain ⟨args0,h0,p,s,y,_,v⟩:=xF h
 obtain ⟨l,q⟩:=u _ _ _ _ _ _ _ _ y A
 refine ⟨l,q.ent,fun g m S w cargs t d j z=> ?_⟩
 exact v g m S w cargs (fun cargs R=>Calls P f cargs.toArray w R) (fun _ _ _ k n=>k.mono n) t d j z fun x S1 _ k n=>q.calls x S1 w cargs k n
end
end AM
namespace AM
open Go
def sU (dec:List (Nat × Bool)) (env:iV):Prop:=∀ t b,aG dec t=some b→env.get t= .bool b
def iG (g:dR) (m:bf) (S:aW):List (Nat × List AV)→List Deferred→Prop
 | [],[]=>True
 |d::r,cd::cr=>(∃ cap,cd.target= .fn (.func d.1) cap∧bF g m S d.2 (cd.args++cap).toList)∧iG g m S r cr
 |_,_=>False
theorem uF {g g':dR} {m b:bf} {S S':aW} (c:mi S S') (e:Ge g m g' b):∀ {l:List (Nat × List AV)} {ds:List Deferred},iG g m S l ds→iG g' b S' l ds
 | [],[],_=>by simp only [iG]
 |d::r,cd::cr,h=>by
  simp only [iG] at h ⊢
  obtain ⟨⟨a,f,j⟩,i⟩:=h
  exact ⟨⟨a,f,lJ c e _ j⟩,uF c e i⟩
 | [],_::_,h=>by simp [iG] at h
 |_::_,[],h=>by simp [iG] at h
theorem zF {g:dR} {m:bf} {S:aW}:∀ {l l':List (Nat × List AV)} {ds ds':List Deferred},iG g m S l ds→iG g m S l' ds'→iG g m S (l++l') (ds++ds')
 | [],_,[],_,_,h'=>by simpa using h'
 |d::r,_,cd::cr,_,h,h'=>by
  simp only [iG] at h
  simp only [List.cons_append,iG]
  exact ⟨h.1,zF h.2 h'⟩
 | [],_,_::_,_,h,_=>by simp [iG] at h
 |_::_,_,[],_,h,_=>by simp [iG] at h
def wpO (P:Program) (ops:Array Oper) (Q:Exit→Act→World→Prop) (o:Oper) (K:Act→World→Prop) (a:Act) (w:World):Prop:=
 if Region.wanted o (yielded ops a.tmps) then o.wp P a w K Q∨(o.asks P a w∧LetsOut Q) else K (a.put o.dst undef) w
def ZC (ap:AP) (o:Oper) (g:dR) (m:bf) (S:aW) (w:World) (a:Act) (v:AV) (ups:List (Nat × bi)) (df:List (Nat × List AV)) (Q:Exit→Act→World→Prop) (K:Act→World→Prop):Option AV→Prop
 |none=> ∀ cv m' S' w' ds,bY ap (dZ g ups) m' S' w'→Fr g m S w (dZ g ups) m' S' w'→VR (dZ g ups) m' S' v cv→iG (dZ g ups) m' S' df ds→K ({a with defers:=ds++a.defers}.put o.dst cv) w'
 |some pv=> ∀ cv m' S' w',bY ap (dZ g ups) m' S' w'→Fr g m S w (dZ g ups) m' S' w'→VR (dZ g ups) m' S' pv cv→Q (.panic [{v:=cv,recovered:=false}]) a w'
def Ho (P:Program) (ap:AP) (ops:Array Oper) (o:Oper) (nid:Nat) (env:iV) (hp:Hp) (rt rb:List Nat) (v:AV) (ups:List (Nat × bi)) (df:List (Nat × List AV)) (p:Option AV):Prop:=
 ∀ g m S w (a:Act),bY ap g m S w→(∀ t ∈ rt,VR g m S (env.get t) (a.tmps.getD t undef))→(∀ b ∈ rb,∀ B,aG hp b=some B→g b=some B)→(∀ i,i<4→g (nid+i)=none)→
  ∀ (Q:Exit→Act→World→Prop) (K:Act→World→Prop),ZC ap o g m S w a v ups df Q K p→wpO P ops Q o K a w
structure adY (P:Program) (ap:AP) (ops:Array Oper) (o:Oper) (nid:Nat) (s s':RS) (p:Option AV) (v:AV) (rt rb:List Nat) (ups:List (Nat × bi)) (df:List (Nat × List AV)):Prop where
 env:p=none→s'.env=pO s.env o.dst v
 envp:p ≠ none→s'.env=s.env∧df= []
 hp:s'.hp=ups++s.hp
 md:s'.md=s.md
 dfs:s'.dfs=df++s.dfs
 dec:p=none→sU s'.dec s'.env
 feet:p=none→s'.feet={rt,wt:=Ig o,rb,wb:=ups.map (·.1)}::s.feet
 sem:Ho P ap ops o nid s.env s.hp rt rb v ups df p
section
variable {P:Program} {ap:AP} {H:di}
theorem T_ (e:Array Value) (t:Nat) {v:Value} (h:e.getD t undef=v) (b:v ≠ undef):e[t]? =some v:=by
 rw [Array.getD_eq_getD_getElem?] at h
 cases a:e[t]? with
 |none=>rw [a] at h;exact absurd h.symm b
 |some u=>rw [a] at h;simpa using h
theorem EN {ops:Array Oper} {tmps:Array Value} {j s:Nat} (hs:(ops[j]?).bind (·.dst)=some s) {b:Bool} (h:tmps.getD s undef= .bool b):yielded ops tmps j=some b:=by
 unfold yielded
 rw [hs]
 simp only [Option.bind_some]
 rw [T_ tmps s h (by simp [undef])]
theorem Jf {ops:Array Oper} {tmps:Array Value} {j s:Nat} (hs:(ops[j]?).bind (·.dst)=some s) (h:tmps.getD s undef= .tuple #[]):yielded ops tmps j=none:=by
 unfold yielded
 rw [hs]
 simp only [Option.bind_some]
 rw [Array.getD_eq_getD_getElem?] at h
 cases a:tmps[s]? with
 |none=>rfl
 |some u=>
  rw [a] at h
  simp at h
  rw [h]
theorem wM {g:dR} {m:bf} {S:aW} {w:World} (c:bY ap g m S w) {env:iV} {a:Act} (x:Operand) (h:∀ t,x= .tmp t→VR g m S (env.get t) (a.tmps.getD t undef)):VR g m S (qp ap env x) (a.eval x):=by
 cases x with
 |tmp t=>exact h t rfl
 |const v=>exact iP _ (Js S v)
 | global k=>
  simp only [qp,Act.eval]
  cases e:(ap.gl[k]?).join with
  |none=>simp only [VR]
  |some xs=>
   obtain ⟨vs,b,d⟩:=c.glob k xs e
   simp only [VR,PR]
   exact ⟨k,0,vs,rfl,b,d⟩
 |func f=>
  simp only [qp,Act.eval,VR]
  exact ⟨[],[],rfl,by simp [bF],by simp [bF]⟩
theorem DF {l:List Operand} {t:Nat} (h:Operand.tmp t ∈ l):t ∈ uC l:=by
 simp only [uC,List.mem_filterMap]
 exact ⟨_,h,rfl⟩
theorem Ip {ops:List Oper} {env:iV} {dec e:List (Nat × Bool)} {o:Oper} {c C:Cx} {p:Bool} (h:Nc ops env dec o c= .ok (p,e) C) (u:C.Ok):
  c.Ok∧(sU dec env→sU e env∧(∀ t b,aG dec t=some b→aG e t=some b)∧∀ g m S (a:Act),(∀ t ∈ jF ops o,VR g m S (env.get t) (a.tmps.getD t undef))→Region.wanted o (yielded ops.toArray a.tmps)=p):=by
 unfold Nc at h
 unfold jF
 unfold Region.wanted
 split at h
 ·rename_i z
  cases h
  simp only [z]
  exact ⟨u,fun f=> ⟨f,fun _ _ h=>h,fun _ _ _ _ _=>trivial⟩⟩
 ·rename_i j i z
  simp only [z]
  split at h
  ·cases h
  ·rename_i s hs
   have l:(ops.toArray[j]?).bind (·.dst)=some s:=by simpa using hs
   split at h
   ·rename_i b n
    cases h
    refine ⟨u,fun f=> ⟨f,fun _ _ h=>h,fun g m S a q=> ?_⟩⟩
    have d:=q s (by simp)
    rw [f s b n] at d
    simp only [VR,PR] at d
    rw [EN l d]
    cases i<;>cases b<;>rfl
   ·rename_i D
    split at h
    ·rename_i b n
     obtain ⟨E,F,d,A⟩:=R.bind_ok h
     cases A
     obtain ⟨B,rfl⟩:=lg d u
     refine ⟨B,fun f=> ⟨?_, ?_,fun g m S a q=> ?_⟩⟩
     ·intro t x k
      simp only [aG] at k
      split at k
      ·rename_i y
       cases k
       rw [← aO y,n]
      ·exact f t x k
     ·intro t x k
      simp only [aG]
      split
      ·rename_i y
       rw [aO y] at D
       rw [D] at k;cases k
      ·exact k
     ·have d:=q s (by simp)
      rw [n] at d
      simp only [VR,PR] at d
      rw [EN l d]
      cases i<;>cases E<;>rfl
    ·rename_i n
     cases h
     refine ⟨u,fun f=> ⟨f,fun _ _ h=>h,fun g m S a q=> ?_⟩⟩
     have d:=q s (by simp)
     rw [n] at d
     simp only [VR] at d
     obtain ⟨vs,d,A⟩:=d
     cases vs with
     |nil=>rw [Jf l d];rfl
     |cons v r=>simp [bF] at A
    ·cases h
theorem J5 {env:iV} {o:Oper} {v:AV} {t:Nat} (h:∀ d,o.dst=some d→d ≠ t):(pO env o.dst v).get t=env.get t:=by
 unfold pO
 split
 ·rename_i d a
  simp only [iV.get,aG]
  split
  ·rename_i b;exact absurd (aO b) (h d a)
  ·rfl
 ·rfl
theorem xJ {dec:List (Nat × Bool)} {env:iV} {o:Oper} {v:AV} (e:sU dec env) (a:TS dec o=true):sU dec (pO env o.dst v):=by
 intro t b c
 rw [J5]
 ·exact e t b c
 ·rintro d hdd rfl
  unfold TS at a
  rw [hdd] at a
  simp [c] at a
end
end AM
namespace AM
open Go
section
variable {P:Program} {ap:AP} {H:di}
theorem Ue {c:Cx} {dst:Option Nat} {v:AV} (h:(CY c dst v).2.Ok):c.Ok∧aZ v (CY c dst v).1:=by
 obtain ⟨cl,orc,bs,ps,ans,hs⟩:=c
 unfold CY at h ⊢
 dsimp only at h ⊢
 split at h
 ·rename_i d x r i
  split at h
  ·rename_i b
   have e:aZ v x:=h.ps _ (List.mem_cons_self ..)
   refine ⟨⟨h.bs,fun p hp=>h.ps p (List.mem_cons_of_mem _ hp)⟩, ?_⟩
   simp only [b]
   exact e
  ·rename_i b
   refine ⟨h, ?_⟩
   simp only [b]
   exact fun _ _ _ _ a=>a
 ·rename_i f
  exact ⟨h,fun _ _ _ _ a=>a⟩
theorem Ud {c:Cx} {dst:Option Nat} (h:(OW c dst).2.Ok):c.Ok:=by
 obtain ⟨cl,orc,bs,ps,ans,hs⟩:=c
 unfold OW at h
 dsimp only at h
 split at h
 ·split at h
  ·exact ⟨h.bs,h.ps⟩
  ·exact h
 ·exact h
theorem Uc {c:Cx} {dst:Option Nat} {ups:List (Nat × bi)} (h:(CX c dst ups).2.Ok):c.Ok∧(CX c dst ups).1=ups:=by
 obtain ⟨cl,orc,bs,ps,ans,hs⟩:=c
 unfold CX at h ⊢
 dsimp only at h ⊢
 split at h
 ·rename_i d e r j b B
  split at h
  ·rename_i a
   have f:B.cells=e:=h.ps _ (List.mem_cons_self ..)
   refine ⟨⟨h.bs,fun p hp=>h.ps p (List.mem_cons_of_mem _ hp)⟩, ?_⟩
   simp only [a,← f]
  ·rename_i a
   refine ⟨h, ?_⟩
   simp only [a]
 ·rename_i i
  exact ⟨h,rfl⟩
theorem Ac {a:Act} {g:Operand} {args:Array Operand} {argTypes:Array TypeId} {ty:TypeId} {f:Nat} {first b:Array Value} (h:a.eval g= .func (.func f) first b) (w:World):
  (resolve a.eval {callee:= .value g,args,argTypes} ty).run P w= .ok {target:= .fn (.func f) b,args:=first++args.map a.eval} w:=by
 simp only [resolve,h,Deferred.ofValue]
 rfl
theorem Fq {a:Act} {g:Operand} {args:Array Operand} {argTypes:Array TypeId} {ty:TypeId} {f:Nat} {first b:Array Value} (h:a.eval g= .func (.func f) first b) (c:yJ P f) (w:World):
  (do let d ← resolve a.eval {callee:= .value g,args,argTypes} ty;invoke d.target d.args:Sem Next).run P w= .ok (.enter f ((first++args.map a.eval)++b)) w:=by
 rw [Sem.run_bind,Ac h,Result.andThen_ok]
 exact c _ _
theorem Jv {g:dR} {m:bf} {S:aW} {ρ:Operand→AV} {cρ:Operand→Value} {args:Array Operand} (h:∀ o ∈ args,VR g m S (ρ o) (cρ o)):bF g m S (args.toList.map ρ) (args.map cρ).toList:=by
 rw [Array.toList_map]
 exact uI _ fun o a=>h o (by simpa using a)
theorem yX:∀ {l:Hp} {b:Nat} {B:bi},aG l b=some B→(b,B) ∈ l
 | [],_,_,h=>by cases h
 | (k,X)::r,b,B,h=>by
  simp only [aG] at h
  split at h
  ·rename_i a
   cases h
   have:=aO a
   subst this
   exact List.mem_cons_self ..
  ·exact List.mem_cons_of_mem _ (yX h)
theorem Dz {α β:Type} {f g:α→β}:∀ {l:List α},l.map f=l.map g→∀ {x:α},x ∈ l→f x=g x
 | [],_,_,h=>by cases h
 |a::r,h,x,hx=>by
  simp only [List.map_cons,List.cons.injEq] at h
  rcases List.mem_cons.1 hx with rfl|hx
  ·exact h.1
  ·exact Dz h.2 hx
theorem rQ (hap:jd P ap) (hH:jX P ap H) {nid:Nat} {ops:List Oper} {o:Oper} {s s':RS} {p:Option AV} {c c':Cx} (h:Lj ap H nid ops o s c= .ok (s',p) c') (U:c'.Ok):
  c.Ok∧(s.md= .dead→sU s.dec s.env→∃ v rb ups df,adY P ap ops.toArray o nid s s' p v (uC o.op.operands.toList++jF ops o) rb ups df):=by
 unfold Lj at h
 obtain ⟨⟨run,dec⟩,c1,e1,h⟩:=R.bind_ok h
 dsimp only at h
 split at h
 ·cases h
 rename_i E
 have hguard:∀ c1ok:c1.Ok,c.Ok∧(sU s.dec s.env→sU dec s.env∧(∀ t b,aG s.dec t=some b→aG dec t=some b)∧∀ g m S (a:Act),(∀ t ∈ jF ops o,VR g m S (s.env.get t) (a.tmps.getD t undef))→Region.wanted o (yielded ops.toArray a.tmps)=run):=fun hk=>Ip e1 hk
 have M:∀ {g:dR} {m:bf} {S:aW} {w:World} {a:Act},bY ap g m S w→(∀ t ∈ uC o.op.operands.toList++jF ops o,VR g m S (s.env.get t) (a.tmps.getD t undef))→∀ x ∈ o.op.operands,VR g m S (qp ap s.env x) (a.eval x):=by
  intro g m S w a j i x Y
  refine wM j x fun t ht=>i t ?_
  subst ht
  exact List.mem_append.2 (.inl (DF (by simpa using Y)))
 split at h
 ·
  cases h
  obtain ⟨C,Z⟩:=hguard U
  refine ⟨C,fun T d=> ?_⟩
  obtain ⟨X,_,hw⟩:=Z d
  refine ⟨.tup [],[],[],[],⟨fun _=>rfl,fun h=>absurd rfl h,rfl,rfl,rfl,fun _=>xJ X E,fun _=>rfl, ?_⟩⟩
  intro g m S w a j i _ _ Q K N
  unfold wpO
  rw [hw g m S a fun t ht=>i t (List.mem_append.2 (.inr ht))]
  simp only [Bool.false_eq_true,if_false]
  have:=N undef m S w [] (by rw [f_];exact j) (by rw [f_];exact Fr.refl _ _ _ _) (by simp only [VR];exact ⟨[],rfl,by simp [bF]⟩) (by simp [iG])
  exact this
 ·
  have hwant:∀ (Q:Exit→Act→World→Prop) (K:Act→World→Prop) (g:dR) (m:bf) (S:aW) (a:Act) (w:World),c1.Ok→sU s.dec s.env→(∀ t ∈ uC o.op.operands.toList++jF ops o,VR g m S (s.env.get t) (a.tmps.getD t undef))→o.wp P a w K Q→wpO P ops.toArray Q o K a w:=by
   intro Q K g m S a w hk d i hh
   obtain ⟨_,_,hw⟩:=(hguard hk).2 d
   unfold wpO
   rw [hw g m S a fun t ht=>i t (List.mem_append.2 (.inr ht))]
   simp only [if_true]
   exact .inl hh
  split at h
  ·
   rename_i gf args argTypes k
   split at h
   ·rename_i f first cap hf
    obtain ⟨r,c2,e2,h⟩:=R.bind_ok h
    have hc2:c2.Ok:=by
     revert h
     cases hu:OW c2 o.dst with
     | mk u c3=>
      have D:c3.Ok→c2.Ok:=fun hk=>Ud (by rw [hu];exact hk)
      cases u with
      | true=>
       dsimp only
       cases r.out with
       |ret v=>
        dsimp only
        split
        ·intro h;cases h;exact D ⟨U.bs,fun p hp=>U.ps p (List.mem_cons_of_mem _ hp)⟩
        ·intro h;cases h
       |pan v=>intro h;cases h
      |false=>dsimp only;cases r.out<;>intro h<;>cases h<;>exact D U
    obtain ⟨I,hE,hcall⟩:=BU hH e2 hc2
    obtain ⟨C,Z⟩:=hguard I
    refine ⟨C,fun T d=> ?_⟩
    obtain ⟨X,_,_⟩:=Z d
    have hargs:∀ {g:dR} {m:bf} {S:aW} {w:World} {a:Act},bY ap g m S w→(∀ t ∈ uC o.op.operands.toList++jF ops o,VR g m S (s.env.get t) (a.tmps.getD t undef))→
      ∃ O J:List Value,a.eval gf= .func (.func f) O.toArray J.toArray∧bF g m S (first++args.toList.map (qp ap s.env)++cap) ((O++(args.map a.eval).toList)++J):=by
     intro g m S w a j i
     have y:=M j i
     rw [k] at y
     have A:=y gf (by simp [Op.operands,Call.operands])
     rw [hf] at A
     simp only [VR] at A
     obtain ⟨O,J,D,L,G⟩:=A
     exact ⟨O,J,D,iH (iH L (Jv fun x Y=>y x (by simp [Op.operands,Call.operands,Y]))) G⟩
    have W:∀ {a:Act} {O J:List Value} (w:World),a.eval gf= .func (.func f) O.toArray J.toArray→(execOp a.eval o).run P w= .ok (.enter f (((O++(args.map a.eval).toList)++J).toArray)) w:=by
     intro a O J w he
     have:=Fq (args:=args) (argTypes:=argTypes) (ty:=o.type) he hE w
     unfold execOp
     rw [k]
     dsimp only
     rw [this]
     congr 2
     apply Array.toList_inj.1
     simp
    split at h
    ·rename_i c3 hu
     split at h
     ·rename_i v F
      split at h
      ·rename_i hall
       cases h
       have heq:r.ups.map (fun (q:Nat × bi)=>some q.2)=r.ups.map (fun (q:Nat × bi)=>aG s.hp q.1):=U.ps _ (List.mem_cons_self ..)
       refine ⟨v,r.fp,[],[],⟨fun _=>rfl,fun h=>absurd rfl h,rfl,rfl,rfl,fun _=>xJ X E,fun _=>rfl, ?_⟩⟩
       intro g m S w a j i l z Q K N
       have hg':dZ g r.ups=g:=by
        funext b
        unfold dZ
        cases hl:aG r.ups b with
        |none=>rfl
        |some B=>
         have hm:=yX hl
         have y:=Dz heq hm
         exact (l b (jf.1 (List.all_eq_true.1 hall _ hm)) B y.symm).symm
       refine hwant Q K g m S a w I d i ?_
       obtain ⟨O,J,y,A⟩:=hargs j i
       unfold Oper.wp
       rw [W w y]
       refine (hcall g m S w _ j l z A).mono ?_
       rintro e w' ⟨m',S',D,L,G⟩
       rw [F] at G
       obtain ⟨cv,rfl,h6⟩:=G
       rw [hg'] at D L h6
       exact N cv m' S' w' [] D L h6 (by simp [iG])
      ·cases h
     ·cases h
    ·rename_i c3 hu
     split at h
     ·rename_i v F
      cases h
      refine ⟨v,r.fp,r.ups,[],⟨fun _=>rfl,fun h=>absurd rfl h,rfl,rfl,rfl,fun _=>xJ X E,fun _=>rfl, ?_⟩⟩
      intro g m S w a j i l z Q K N
      refine hwant Q K g m S a w I d i ?_
      obtain ⟨O,J,y,A⟩:=hargs j i
      unfold Oper.wp
      rw [W w y]
      refine (hcall g m S w _ j l z A).mono ?_
      rintro e w' ⟨m',S',D,L,G⟩
      rw [F] at G
      obtain ⟨cv,rfl,h6⟩:=G
      exact N cv m' S' w' [] D L h6 (by simp [iG])
     ·rename_i v F
      cases h
      refine ⟨v,r.fp,r.ups,[],⟨fun h=>(by cases h),fun _=> ⟨rfl,rfl⟩,rfl,rfl,rfl,fun h=>(by cases h),fun h=>(by cases h), ?_⟩⟩
      intro g m S w a j i l z Q K N
      refine hwant Q K g m S a w I d i ?_
      obtain ⟨O,J,y,A⟩:=hargs j i
      unfold Oper.wp
      rw [W w y]
      refine (hcall g m S w _ j l z A).mono ?_
      rintro e w' ⟨m',S',D,L,G⟩
      rw [F] at G
      obtain ⟨cv,rfl,h6⟩:=G
      exact N cv m' S' w' D L h6
   ·cases h
  ·
   split at h
   ·cases h
    exact ⟨(hguard U).1,fun T=>by simp_all⟩
   ·cases h
    exact ⟨(hguard U).1,fun T=>by simp_all⟩
   ·cases h
  ·
   rename_i gf args argTypes k
   split at h
   ·rename_i f first cap hf
    cases h
    obtain ⟨C,Z⟩:=hguard U
    refine ⟨C,fun T d=> ?_⟩
    obtain ⟨X,_,_⟩:=Z d
    refine ⟨.dead,[],[],[(f,first++args.toList.map (qp ap s.env)++cap)],⟨fun _=>rfl,fun h=>absurd rfl h,rfl,rfl,rfl,fun _=>xJ X E,fun _=>rfl, ?_⟩⟩
    intro g m S w a j i l z Q K N
    refine hwant Q K g m S a w U d i ?_
    have y:=M j i
    rw [k] at y
    have A:=y gf (by simp [Op.operands,Call.operands])
    rw [hf] at A
    simp only [VR] at A
    obtain ⟨O,J,D,L,G⟩:=A
    unfold Oper.wp
    have hr:(execOp a.eval o).run P w= .ok (.defer {target:= .fn (.func f) J.toArray,args:=O.toArray++args.map a.eval}) w:=by
     unfold execOp
     rw [k]
     dsimp only
     rw [Sem.run_bind,Ac D,Result.andThen_ok]
     rfl
    rw [hr]
    refine N undef m S w [{target:= .fn (.func f) J.toArray,args:=O.toArray++args.map a.eval}] (by rw [f_];exact j) (by rw [f_];exact Fr.refl _ _ _ _) (by simp only [VR]) ?_
    simp only [iG,f_,and_true]
    refine ⟨J.toArray,rfl, ?_⟩
    have:=iH (iH L (Jv (args:=args) fun x Y=>y x (by simp [Op.operands,Call.operands,Y]))) G
    simpa using this
   ·cases h
  ·
   rename_i x k
   split at h
   ·rename_i t v Y
    cases h
    obtain ⟨C,Z⟩:=hguard U
    refine ⟨C,fun T d=> ?_⟩
    obtain ⟨X,_,_⟩:=Z d
    refine ⟨.dead,[],[],[],⟨fun h=>(by cases h),fun _=> ⟨rfl,rfl⟩,rfl,rfl,rfl,fun h=>(by cases h),fun h=>(by cases h), ?_⟩⟩
    intro g m S w a j i l z Q K N
    refine hwant Q K g m S a w U d i ?_
    have y:=M j i
    rw [k] at y
    have A:=y x (by simp [Op.operands])
    rw [Y] at A
    have h2':=A
    simp only [VR] at h2'
    obtain ⟨u,D,L⟩:=h2'
    unfold Oper.wp
    have hr:(execOp a.eval o).run P w= .halt (.panic (a.eval x)) w:=by
     unfold execOp
     rw [k]
     dsimp only
     rw [D]
     rfl
    rw [hr]
    exact N _ m S w (by rw [f_];exact j) (by rw [f_];exact Fr.refl _ _ _ _) (by rw [f_];exact A)
   ·cases h
  ·
   rename_i op n1 n2 n3 n4
   obtain ⟨em,c2,e2,h⟩:=R.bind_ok h
   split at h
   ·cases h
   ·rename_i v ups bs k
    obtain ⟨_,c3,e3,h⟩:=R.bind_ok h
    have hv1:(CY c3 o.dst v).2.Ok→c3.Ok∧aZ v (CY c3 o.dst v).1:=Ue
    generalize CY c3 o.dst v=q1 at h hv1
    obtain ⟨v1,c4⟩:=q1
    dsimp only at h hv1
    have hv2:(CX c4 o.dst ups).2.Ok→c4.Ok∧(CX c4 o.dst ups).1=ups:=Uc
    generalize CX c4 o.dst ups=q2 at h hv2
    obtain ⟨ups1,c5⟩:=q2
    dsimp only at h hv2
    cases h
    obtain ⟨hc4,hups⟩:=hv2 U
    subst hups
    obtain ⟨hc3,hfit⟩:=hv1 hc4
    obtain ⟨hc2,hbs⟩:=Ii e3 hc3
    have hem:c1.Ok∧∀ n,xO (qp ap s.env) o.op=some n→Nat.beq n 0=em:=by
     split at e2
     ·rename_i n hn
      obtain ⟨hk,rfl⟩:=lg e2 hc2
      exact ⟨hk,fun n' V=>by rw [hn] at V;cases V;rfl⟩
     ·rename_i hn
      cases e2
      exact ⟨hc2,fun n' V=>by rw [hn] at V;cases V⟩
    obtain ⟨I,hem⟩:=hem
    obtain ⟨C,Z⟩:=hguard I
    refine ⟨C,fun T d=> ?_⟩
    obtain ⟨X,_,_⟩:=Z d
    refine ⟨v1,Vh (qp ap s.env) o.op,ups1,[],⟨fun _=>rfl,fun h=>absurd rfl h,rfl,rfl,rfl,fun _=>xJ X E,fun _=>rfl, ?_⟩⟩
    intro g m S w a j i l z Q K N
    refine hwant Q K g m S a w I d i ?_
    have y:=M j i
    have hok:=QM hap j (nid:=nid) (z 0 (by omega)) (ρ:=qp ap s.env) (cρ:=a.eval) (fun b B hb=>by
      split at hb
      ·rename_i hm;exact l b (jf.1 hm) B hb
      ·cases hb) o y (dec:=fun| .tmp t=>aG dec t|_=>none) (fun x Y b hb=>by
      split at hb
      ·rename_i t
       have:=i t (List.mem_append.2 (.inl (DF (by simpa using Y))))
       rw [X t b hb] at this
       simp only [VR,PR] at this
       exact this
      ·cases hb) hem k hbs
    obtain ⟨nx,m',w',A,D,L,G⟩:=hok
    unfold Oper.wp
    rw [A]
    rcases G with ⟨cv,rfl,G⟩|⟨rfl,rfl⟩
    ·exact N cv m' S w' [] D L (hfit _ _ _ _ G) (by simp [iG])
    ·exact N undef m' S w' [] D L (hfit _ _ _ _ (by simp only [VR])) (by simp [iG])
end
end AM
namespace AM
open Go
theorem qG:∀ {hp:Hp} {b:Nat} {B:bi},aG hp b=some B→b<iI hp
 | [],b,B,h=>by simp [aG] at h
 | (c,C)::r,b,B,h=>by
  simp only [aG] at h
  simp only [iI]
  split at h
  ·rename_i d
   have d:=aO d
   subst d
   split
   ·rename_i a;exact gm a
   ·omega
  ·have e:=qG h
   split
   ·exact e
   ·rename_i a
    have:¬ c<iI r:=fun f=>by
     have:Nat.blt c (iI r)=true:=by
      show Nat.ble (c+1) (iI r)=true
      exact Nat.ble_eq_true_of_le f
     rw [this] at a;cases a
    omega
theorem Dw:∀ {l:Hp} {b:Nat} {B:bi},aG l b=some B→b ∈ l.map (·.1)
 | [],b,B,h=>by simp [aG] at h
 |(c,C)::r,b,B,h=>by
  simp only [aG] at h
  split at h
  ·rename_i a;simp [aO a]
  ·simp [Dw h]
structure FR (ap:AP) (env:iV) (hp:Hp) (dfs:List (Nat × List AV)) (nt:Nat) (m:bf) (S:aW) (w:World) (a:Act):Prop where
 srel:bY ap (aG hp) m S w
 env:∀ t,VR (aG hp) m S (env.get t) (a.tmps.getD t undef)
 dfs:iG (aG hp) m S dfs a.defers
 size:a.tmps.size=nt
theorem KN (a:Act) (d:Option Nat) (v:Value):(a.put d v).tmps.size=a.tmps.size:=by
 cases d<;>simp [Act.put]
theorem DX (a:Act) (d:Option Nat) (v:Value):(a.put d v).defers=a.defers:=by
 cases d<;>simp [Act.put]
theorem DZ (a:Act) (d:Option Nat) (v:Value) {t:Nat} (h:d ≠ some t):(a.put d v).tmps.getD t undef=a.tmps.getD t undef:=by
 cases d with
 |none=>rfl
 |some d=>
  have b:d ≠ t:=fun e=>h (by rw [e])
  simp only [Act.put,Array.getD_eq_getD_getElem?]
  rw [Array.getElem?_setIfInBounds_ne b]
theorem DY (a:Act) (d:Nat) (v:Value) (h:d<a.tmps.size):(a.put (some d) v).tmps.getD d undef=v:=by
 simp only [Act.put,Array.getD_eq_getD_getElem?]
 rw [Array.getElem?_setIfInBounds_self_of_lt h];rfl
theorem jo {env:iV} {d:Nat} {v:AV}:(pO env (some d) v).get d=v:=by simp [pO,iV.get,aG]
theorem xW {env:iV} {dst:Option Nat} {v:AV} {t:Nat} (h:dst ≠ some t):(pO env dst v).get t=env.get t:=by
 cases dst with
 |none=>rfl
 | some d=>
  have a:Nat.beq d t=false:=by
   cases b:Nat.beq d t with
   |false=>rfl
   |true=>exact absurd (by rw [aO b]) h
  simp [pO,iV.get,aG,a]
section
variable {P:Program} {ap:AP} {H:di}
theorem FR.put {env:iV} {hp ups:Hp} {dfs f:List (Nat × List AV)} {nt:Nat} {m b:bf} {S S':aW} {w w':World} {a:Act} (h:FR ap env hp dfs nt m S w a) {dst:Option Nat} (c:∀ d,dst=some d→d<nt) {v:AV} {cv:Value} {e:List Deferred}
  (h1:bY ap (dZ (aG hp) ups) b S' w') (h2:Fr (aG hp) m S w (dZ (aG hp) ups) b S' w') (h3:VR (dZ (aG hp) ups) b S' v cv) (h4:iG (dZ (aG hp) ups) b S' f e):
  FR ap (pO env dst v) (ups++hp) (f++dfs) nt b S' w' ({a with defers:=e++a.defers}.put dst cv):=by
 rw [kJ] at h1 h2 h3 h4
 refine ⟨h1, ?_, ?_, ?_⟩
 ·intro t
  by_cases ht:dst=some t
  ·subst ht
   rw [jo,DY _ _ _ (by have:=c t rfl;have:=h.size;simpa [this] using c t rfl)]
   exact h3
  ·rw [xW ht,DZ _ _ _ ht]
   exact oq h2.sle h2.ge _ (h.env t)
 ·rw [DX]
  exact zF h4 (uF h2.sle h2.ge h.dfs)
 ·rw [KN];exact h.size
theorem FR.still {env:iV} {hp ups:Hp} {dfs:List (Nat × List AV)} {nt:Nat} {m b:bf} {S S':aW} {w w':World} {a:Act} (h:FR ap env hp dfs nt m S w a)
  (h1:bY ap (dZ (aG hp) ups) b S' w') (h2:Fr (aG hp) m S w (dZ (aG hp) ups) b S' w'):FR ap env (ups++hp) dfs nt b S' w' a:=by
 rw [kJ] at h1 h2
 exact ⟨h1,fun t=>oq h2.sle h2.ge _ (h.env t),uF h2.sle h2.ge h.dfs,h.size⟩
def xu (ap:AP) (hp0:Hp) (m:bf) (S:aW) (w:World) (nt:Nat) (env:iV) (hp:Hp) (dfs:List (Nat × List AV)) (Q:Exit→Act→World→Prop):Option AV→Prop
 |none=> ∀ m' S' w' a',Fr (aG hp0) m S w (aG hp) m' S' w'→FR ap env hp dfs nt m' S' w' a'→Q .normal a' w'
 |some v=> ∀ m' S' w' a' cv,Fr (aG hp0) m S w (aG hp) m' S' w'→FR ap env hp dfs nt m' S' w' a'→VR (aG hp) m' S' v cv→Q (.panic [{v:=cv,recovered:=false}]) a' w'
theorem sN {ops:Array Oper} {Q:Exit→Act→World→Prop} {i:Nat} {o:Oper} (b:ops[i]? =some o) (rest:List Nat) (a:Act) (w:World):wpOps P ops Q (i::rest) a w↔wpO P ops Q o (wpOps P ops Q rest) a w:=by
 simp only [wpOps,b,wpO]
theorem Ny {hp ups:Hp} {nid:Nat} (f:∀ b B,aG hp b=some B→b<nid) (e:(ups.map (·.1)).all (fun x=>Nat.blt x (nid+4))=true):∀ b B,aG (ups++hp) b=some B→b<nid+4:=by
 intro b B a
 rw [iw] at a
 split at a
 ·rename_i x d
  have c:b ∈ ups.map (·.1):=Dw d
  exact gm (List.all_eq_true.1 e b c)
 ·have:=f b B a;omega
theorem mP (C:jd P ap) (hH:jX P ap H) {ops:List Oper} {nt:Nat} (J:∀ o ∈ ops,∀ d,o.dst=some d→d<nt):∀ (l:List Oper) (i nid:Nat) (s s':RS) (p:Option AV) (c c':Cx),rU ap H ops l nid s c= .ok (s',p) c'→c'.Ok→
  c.Ok∧(s.md= .dead→sU s.dec s.env→l=ops.drop i→(∀ b B,aG s.hp b=some B→b<nid)→
  s'.md= .dead∧∀ m S w a,FR ap s.env s.hp s.dfs nt m S w a→∀ Q,xu ap s.hp m S w nt s'.env s'.hp s'.dfs Q p→wpOps P ops.toArray Q (List.range' i l.length) a w)
 | [],i,nid,s,s',p,c,c',h,hc=>by
  cases h
  exact ⟨hc,fun e _ _ _=> ⟨e,fun m S w a x Q u=>u m S w a (Fr.refl _ _ _ _) x⟩⟩
 | o ::r,i,nid,s,s',p,c,c',h,hc=>by
  simp only [rU] at h
  obtain ⟨⟨s1,p1⟩,c1,e1,h⟩:=R.bind_ok h
  dsimp only at h
  have hfresh:(∀ b B,aG s.hp b=some B→b<nid)→∀ j,j<4→aG s.hp (nid+j)=none:=by
   intro G j _
   cases hb:aG s.hp (nid+j) with
   |none=>rfl
   |some B=>have:=G _ _ hb;omega
  have z:o::r=ops.drop i→ops[i]? =some o∧ops.toArray[i]? =some o∧r=ops.drop (i+1)∧∀ d,o.dst=some d→d<nt:=by
   intro I
   have n:ops[i]? =some o:=by
    have:(ops.drop i)[0]? =some o:=by rw [← I];rfl
    simpa using this
   have O:r=ops.drop (i+1):=by
    have:r=(ops.drop i).drop 1:=by rw [← I];rfl
    rw [this,List.drop_drop]
   exact ⟨n,by simpa using n,O,J o (List.mem_of_getElem? n)⟩
  cases p1 with
  |some v=>
   cases h
   obtain ⟨D,F⟩:=rQ C hH e1 hc
   refine ⟨D,fun e q I G=> ?_⟩
   obtain ⟨n,k,O,hd⟩:=z I
   obtain ⟨v1,rb,ups,df,hs⟩:=F e q
   refine ⟨by rw [hs.md,e],fun m S w a x Q u=> ?_⟩
   rw [List.length_cons,List.range'_succ,sN k]
   refine hs.sem (aG s.hp) m S w a x.srel (fun t _=>x.env t) (fun b _ B hB=>hB) (hfresh G) Q _ ?_
   intro cv U S' w' X y N
   have hst:=x.still X y
   rw [kJ] at y N
   obtain ⟨f,rfl⟩:=hs.envp (by simp)
   have u:=u U S' w' a cv
   rw [hs.hp,hs.dfs,f] at u
   exact u y hst N
  | none=>
   dsimp only at h
   cases A:s1.feet with
   |nil=>rw [A] at h;cases h
   | cons ft fr=>
    rw [A] at h
    dsimp only at h
    split at h
    ·rename_i L
     obtain ⟨V,ih⟩:=mP C hH J r (i+1) (nid+4) s1 s' p c1 c' h hc
     obtain ⟨D,F⟩:=rQ C hH e1 V
     refine ⟨D,fun e q I G=> ?_⟩
     obtain ⟨n,k,O,hd⟩:=z I
     obtain ⟨v1,rb,ups,df,hs⟩:=F e q
     have E:=hs.feet rfl
     rw [A] at E
     simp only [List.cons.injEq] at E
     rw [E.1] at L
     obtain ⟨M,ih⟩:=ih (by rw [hs.md,e]) (hs.dec rfl) O (by rw [hs.hp];exact Ny G L)
     refine ⟨M,fun m S w a x Q u=> ?_⟩
     rw [List.length_cons,List.range'_succ,sN k]
     refine hs.sem (aG s.hp) m S w a x.srel (fun t _=>x.env t) (fun b _ B hB=>hB) (hfresh G) Q _ ?_
     intro cv U S' w' ds X y N h4
     have K:=x.put hd X y N h4
     rw [kJ] at y
     have f:=hs.env rfl
     rw [← f,← hs.hp,← hs.dfs] at K
     refine ih U S' w' _ K Q ?_
     rw [← hs.hp] at y
     cases p with
     |none=>exact fun Y S2 w2 Z T W=>u Y S2 w2 Z (y.trans T) W
     |some v=>exact fun Y S2 w2 Z cv2 T W h7=>u Y S2 w2 Z cv2 (y.trans T) W h7
    ·cases h
end
end AM
namespace AM
open Go
structure kz where
 dst:Option Nat
 v:AV
 rt:List Nat
 rb:List Nat
 ups:List (Nat × bi)
def OQ (d:Option Nat):List Nat:=match d with|some d=> [d]|none=> []
def kz.foot (r:kz):wE:={rt:=r.rt,wt:=OQ r.dst,rb:=r.rb,wb:=r.ups.map (·.1)}
def lS (D:Nat→Bool):Nat→iV→List kz→iV
 |_,e,[]=>e
 |j,e,r::rs=>lS D (j+1) (match D j with|true=>pO e r.dst r.v|false=>e) rs
def n_ (D:Nat→Bool):Nat→Hp→List kz→Hp
 |_,h,[]=>h
 |j,h,r::rs=>n_ D (j+1) (match D j with|true=>r.ups++h|false=>h) rs
theorem ny {D D':Nat→Bool} {t:Nat}:∀ (rs:List kz) (j:Nat) (e e':iV),e.get t=e'.get t→(∀ k r,rs[k]? =some r→r.dst=some t→D (j+k)=D' (j+k))→(lS D j e rs).get t=(lS D' j e' rs).get t
 | [],_,_,_,he,_=>he
 | r::rs,j,e,e',he,h=>by
  simp only [lS]
  refine ny rs (j+1) _ _ ?_ fun k r' b a=> ?_
  ·by_cases a:r.dst=some t
   ·have h0:=h 0 r rfl a
    rw [Nat.add_zero] at h0
    rw [h0]
    cases D' j with
    |true=>simp only [a,jo]
    |false=>exact he
   ·cases D j<;>cases D' j<;>simp only [xW a,he]
  ·have:=h (k+1) r' (by simpa using b) a
   rwa [show j+(k+1)=j+1+k by omega] at this
theorem IA:∀ {l:Hp} {b:Nat},b ∉ l.map (·.1)→aG l b=none:=by
 intro l b h
 cases a:aG l b with
 |none=>rfl
 |some B=>exact absurd (Dw a) h
theorem qY {ups hp:Hp} {b:Nat} (h:b ∉ ups.map (·.1)):aG (ups++hp) b=aG hp b:=by
 rw [iw,IA h]
theorem uk:∀ {l:Hp} {b:Nat},b ∈ l.map (·.1)→∃ B,aG l b=some B
 | [],b,h=>by simp at h
 | (c,C)::r,b,h=>by
  simp only [aG]
  cases a:Nat.beq c b with
  |true=>exact ⟨C,rfl⟩
  |false=>
   simp only [List.map_cons,List.mem_cons] at h
   rcases h with h|h
   ·subst h;simp at a
   ·exact uk h
theorem yf {ups hp hp':Hp} {b:Nat} (h:b ∈ ups.map (·.1)):aG (ups++hp) b=aG (ups++hp') b:=by
 obtain ⟨B,a⟩:=uk h
 rw [iw,iw,a]
theorem qx {D D':Nat→Bool} {b:Nat}:∀ (rs:List kz) (j:Nat) (h h':Hp),aG h b=aG h' b→(∀ k r,rs[k]? =some r→b ∈ r.ups.map (·.1)→D (j+k)=D' (j+k))→aG (n_ D j h rs) b=aG (n_ D' j h' rs) b
 | [],_,_,_,he,_=>he
 | r::rs,j,e,e',he,h=>by
  simp only [n_]
  refine qx rs (j+1) _ _ ?_ fun k r' c a=> ?_
  ·by_cases a:b ∈ r.ups.map (·.1)
   ·have h0:=h 0 r rfl a
    rw [Nat.add_zero] at h0
    rw [h0]
    cases D' j with
    |true=>exact yf a
    |false=>exact he
   ·cases D j<;>cases D' j<;>simp only [qY a,he]
  ·have:=h (k+1) r' (by simpa using c) a
   rwa [show j+(k+1)=j+1+k by omega] at this
theorem uP:∀ (a:List kz) (j:Nat) (e:iV) {D:Nat→Bool},(∀ k,k<a.length→D (j+k)=false)→lS D j e a=e
 | [],_,_,_,_=>rfl
 |r::a,j,e,D,h=>by
  have h0:=h 0 (by simp)
  rw [Nat.add_zero] at h0
  simp only [lS,h0]
  exact uP a (j+1) e fun k b=>by have:=h (k+1) (by simpa using b);rwa [show j+(k+1)=j+1+k by omega] at this
theorem nG:∀ (a:List kz) (j:Nat) (e:Hp) {D:Nat→Bool},(∀ k,k<a.length→D (j+k)=false)→n_ D j e a=e
 | [],_,_,_,_=>rfl
 |r::a,j,e,D,h=>by
  have h0:=h 0 (by simp)
  rw [Nat.add_zero] at h0
  simp only [n_,h0]
  exact nG a (j+1) e fun k b=>by have:=h (k+1) (by simpa using b);rwa [show j+(k+1)=j+1+k by omega] at this
def nZ (e:iV) (rs:List kz):iV:=lS (fun _=>true) 0 e rs
def C9 (h:Hp) (rs:List kz):Hp:=n_ (fun _=>true) 0 h rs
theorem wL (D:Nat→Bool):∀ (rs:List kz) (j d:Nat) (e:iV),lS D (j+d) e rs=lS (fun k=>D (k+d)) j e rs
 | [],_,_,_=>rfl
 |r::rs,j,d,e=>by
  simp only [lS]
  rw [show j+d+1=j+1+d by omega]
  exact wL D rs (j+1) d _
theorem yR (D:Nat→Bool):∀ (rs:List kz) (j d:Nat) (e:Hp),n_ D (j+d) e rs=n_ (fun k=>D (k+d)) j e rs
 | [],_,_,_=>rfl
 |r::rs,j,d,e=>by
  simp only [n_]
  rw [show j+d+1=j+1+d by omega]
  exact yR D rs (j+1) d _
theorem uQ (e:iV) (r:kz) (a:List kz):nZ e (r::a)=nZ (pO e r.dst r.v) a:=by
 simp only [nZ,lS]
 exact wL (fun _=>true) a 0 1 _
theorem xZ (h:Hp) (r:kz) (a:List kz):C9 h (r::a)=C9 (r.ups++h) a:=by
 simp only [C9,n_]
 exact yR (fun _=>true) a 0 1 _
theorem xP:∀ (a:List kz) (k:Nat) (e:iV),lS (fun j=>decide (j<k)) 0 e a=nZ e (a.take k)
 |a,0,e=>by
  simp only [List.take_zero]
  exact uP a 0 e fun _ _=>by simp
 | [],k+1,e=>rfl
 |r::a,k+1,e=>by
  simp only [List.take_succ_cons,uQ,lS]
  rw [show decide (0<k+1)=true by simp]
  dsimp only
  rw [← xP a k]
  have:=wL (fun j=>decide (j<k+1)) a 0 1 (pO e r.dst r.v)
  rw [this]
  congr 1
  funext j
  simp
theorem Nh:∀ (a:List kz) (k:Nat) (e:Hp),n_ (fun j=>decide (j<k)) 0 e a=C9 e (a.take k)
 |a,0,e=>by
  simp only [List.take_zero]
  exact nG a 0 e fun _ _=>by simp
 | [],k+1,e=>rfl
 |r::a,k+1,e=>by
  simp only [List.take_succ_cons,xZ,n_]
  rw [show decide (0<k+1)=true by simp]
  dsimp only
  rw [← Nh a k]
  have:=yR (fun j=>decide (j<k+1)) a 0 1 (r.ups++e)
  rw [this]
  congr 1
  funext j
  simp
theorem Gf (e:iV):∀ (b:List kz) (k:Nat) (r:kz),b[k]? =some r→nZ e (b.take (k+1))=pO (nZ e (b.take k)) r.dst r.v:=by
 intro b
 induction b generalizing e with
 |nil=>intro k r h;simp at h
 | cons a b ih=>
  intro k r h
  cases k with
  |zero=>simp at h;subst h;rfl
  |succ k=>
   simp only [List.take_succ_cons,uQ]
   exact ih _ k r (by simpa using h)
theorem Ug (e:Hp):∀ (b:List kz) (k:Nat) (r:kz),b[k]? =some r→C9 e (b.take (k+1))=r.ups++C9 e (b.take k):=by
 intro b
 induction b generalizing e with
 |nil=>intro k r h;simp at h
 | cons a b ih=>
  intro k r h
  cases k with
  |zero=>simp at h;subst h;rfl
  |succ k=>
   simp only [List.take_succ_cons,xZ]
   exact ih _ k r (by simpa using h)
section
variable {P:Program} {ap:AP} {H:di}
structure SK (P:Program) (ap:AP) (ops:List Oper) (i nid:Nat) (s s':RS) (recs:List kz):Prop where
 env:s'.env=nZ s.env recs
 hp:s'.hp=C9 s.hp recs
 feet:s'.feet=(recs.map kz.foot).reverse++s.feet
 dle:s.dfs.length≤s'.dfs.length
 bound:∀ (k:Nat) (r:kz),recs[k]? =some r→∀ b ∈ r.ups.map (·.1),b<nid+4*k+4
 sem:s'.dfs.length=s.dfs.length→s'.dfs=s.dfs∧∀ (k:Nat) (r:kz),recs[k]? =some r→∃ o,ops[i+k]? =some o∧r.dst=o.dst∧Ho P ap ops.toArray o (nid+4*k) (nZ s.env (recs.take k)) (C9 s.hp (recs.take k)) r.rt r.rb r.v r.ups [] none
theorem VX (t:jd P ap) (K:jX P ap H) {ops:List Oper}:∀ (l:List Oper) (i nid:Nat) (s s':RS) (c c':Cx),rU ap H ops l nid s c= .ok (s',none) c'→c'.Ok→
  c.Ok∧(s.md= .dead→sU s.dec s.env→l=ops.drop i→s'.md= .dead∧∃ recs:List kz,recs.length=l.length∧SK P ap ops i nid s s' recs)
 | [],i,nid,s,s',c,c',h,hc=>by
  cases h
  exact ⟨hc,fun a _ _=> ⟨a,[],rfl,⟨rfl,rfl,rfl,Nat.le_refl _,fun k r h=>by simp at h,fun _=> ⟨rfl,fun k r h=>by simp at h⟩⟩⟩⟩
 | o :: r,i,nid,s,s',c,c',h,hc=>by
  simp only [rU] at h
  obtain ⟨⟨z,T⟩,V,W,h⟩:=R.bind_ok h
  dsimp only at h
  cases T with
  |some v=>cases h
  | none=>
   dsimp only at h
   cases d:z.feet with
   |nil=>rw [d] at h;cases h
   | cons ft fr=>
    rw [d] at h
    dsimp only at h
    split at h
    ·rename_i u
     obtain ⟨B,U⟩:=VX t K r (i+1) (nid+4) z s' V c' h hc
     obtain ⟨I,D⟩:=rQ t K W B
     refine ⟨I,fun a y L=> ?_⟩
     have F:ops[i]? =some o:=by
      have:(ops.drop i)[0]? =some o:=by rw [← L];rfl
      simpa using this
     have X:r=ops.drop (i+1):=by
      have:r=(ops.drop i).drop 1:=by rw [← L];rfl
      rw [this,List.drop_drop]
     obtain ⟨v1,rb,ups,E,hs⟩:=D a y
     have j:=hs.feet rfl
     rw [d] at j
     simp only [List.cons.injEq] at j
     rw [j.1] at u
     obtain ⟨x,recs,n,e⟩:=U (by rw [hs.md,a]) (hs.dec rfl) X
     refine ⟨x,{dst:=o.dst,v:=v1,rt:=uC o.op.operands.toList++jF ops o,rb:=rb,ups:=ups}::recs,by simp [n], ?_⟩
     have C:s.dfs.length≤z.dfs.length:=by rw [hs.dfs];simp
     refine ⟨?_, ?_, ?_,Nat.le_trans C e.dle, ?_, ?_⟩
     ·rw [e.env,uQ,hs.env rfl]
     ·rw [e.hp,xZ,hs.hp]
     ·rw [e.feet,hs.feet rfl]
      simp [kz.foot,OQ,Ig]
      cases o.dst<;>rfl
     ·intro k q f b M
      cases k with
      |zero=>
       simp at f
       subst f
       exact gm (List.all_eq_true.1 u b M)
      |succ k=>
       have:=e.bound k q (by simpa using f) b M
       omega
     ·intro Z
      have Y:=e.dle
      obtain ⟨A,p⟩:=e.sem (by omega)
      have G:E= []:=by
       have:E.length=0:=by
        have:=hs.dfs
        have h3:z.dfs.length=E.length+s.dfs.length:=by rw [this];simp
        omega
       exact List.eq_nil_of_length_eq_zero this
      subst G
      refine ⟨by rw [A,hs.dfs];rfl, ?_⟩
      intro k q f
      cases k with
      |zero=>
       simp at f
       subst f
       exact ⟨o,F,rfl,hs.sem⟩
      |succ k=>
       obtain ⟨O,Q,N,J⟩:=p k q (by simpa using f)
       refine ⟨O,by rw [show i+(k+1)=i+1+k by omega];exact Q,N, ?_⟩
       rw [List.take_succ_cons,uQ,xZ]
       rw [hs.env rfl,hs.hp] at J
       rw [show nid+4*(k+1)=nid+4+4*k by omega]
       exact J
    ·cases h
end
end AM
namespace AM
open Go
theorem CS {md:Region.Mode} (b:Array Nat) (i:Nat):∀ (l:List Edge) (s:Nat),(l.foldl (fun s e=>if Region.binds md e then s|||2^e.on|||b.getD e.on 0 else s) s).testBit i=true→
  s.testBit i=true∨∃ e ∈ l,Region.binds md e=true∧(i=e.on∨(b.getD e.on 0).testBit i=true)
 | [],s,h=> .inl h
 | e::r,s,h=>by
  simp only [List.foldl_cons] at h
  rcases CS b i r _ h with a|⟨f,a,d⟩
  ·split at a
   ·rename_i c
    simp only [Nat.testBit_or,Bool.or_eq_true,Nat.testBit_two_pow,decide_eq_true_eq] at a
    rcases a with (a|a)|a
    ·exact .inl a
    ·exact .inr ⟨e,by simp,c,.inl a.symm⟩
    ·exact .inr ⟨e,by simp,c,.inr a⟩
   ·exact .inl a
  ·exact .inr ⟨f,by simp [a],d⟩
def oG (acc:Array Nat) (o:Oper):Array Nat:=acc.push (o.after.toList.foldl (fun s e=>if Region.binds .any e then s|||2^e.on|||acc.getD e.on 0 else s) 0)
theorem CU (a:Array Nat) (x:Nat):(a.push x).getD a.size 0=x:=by simp [Array.getD_eq_getD_getElem?]
def Az (ops:List Oper) (D:Nat→Bool):Prop:=∀ (k:Nat) (o:Oper),ops[k]? =some o→D k=true→∀ e ∈ o.after,Region.binds .any e=true→D e.on=true
def ZE (D:Nat→Bool) (acc:Array Nat):Prop:=∀ k,D k=true→∀ i,(acc.getD k 0).testBit i=true→D i=true
theorem OE {ops:List Oper} {D:Nat→Bool} (j:Az ops D):∀ (l:List Oper) (acc:Array Nat),ZE D acc→l=ops.drop acc.size→ZE D (l.foldl oG acc)
 | [],acc,h,_=>h
 | o ::r,acc,h,hl=>by
  simp only [List.foldl_cons]
  have b:ops[acc.size]? =some o:=by
   have:(ops.drop acc.size)[0]? =some o:=by rw [← hl];rfl
   simpa using this
  refine OE j r _ ?_ ?_
  ·intro k n i a
   by_cases hks:k<acc.size
   ·refine h k n i ?_
    simpa [oG,Array.getD_eq_getD_getElem?,Array.getElem?_push,Nat.ne_of_lt hks] using a
   ·by_cases hke:k=acc.size
    ·subst hke
     rw [oG,CU] at a
     rcases CS acc i _ _ a with c|⟨e,c,p,d⟩
     ·simp at c
     ·have f:=j _ o b n e (by simpa using c) p
      rcases d with rfl|d
      ·exact f
      ·exact h _ f i d
    ·have:(oG acc o)[k]? =none:=by
      simp only [oG]
      rw [Array.getElem?_eq_none];simp;omega
     simp [Array.getD_eq_getD_getElem?,this] at a
  ·have:(oG acc o).size=acc.size+1:=by simp [oG]
   rw [this,← List.drop_drop,← hl];rfl
theorem P_ (ops:List Oper):Region.before ops.toArray=ops.foldl oG #[]:=by
 simp only [Region.before,← Array.foldl_toList]
 rfl
theorem o_ {ops:List Oper} {D:Nat→Bool} (a:Az ops D) {k i:Nat} (c:D k=true) (h:((Region.before ops.toArray).toList.getD k 0).testBit i=true):D i=true:=by
 have:=OE a ops #[] (fun k _ i b=>by simp at b) (by simp)
 rw [← P_] at this
 refine this k c i ?_
 rw [List.getD_eq_getElem?_getD] at h
 rw [Array.getD_eq_getD_getElem?]
 simpa using h
theorem qB {a b:List Nat} {x:Nat} (c:x ∈ a) (d:x ∈ b):DC a b=true:=List.any_eq_true.2 ⟨x,c,jf.2 d⟩
structure Hl (n:Nat) (bef:Nat→Nat→Bool) (recs:List kz):Prop where
 ok:∀ i j a b,recs[i]? =some a→recs[j]? =some b→i<j→(kD a.foot b.foot=true∨∃ x ∈ b.ups.map (·.1),n+4*i≤x∧x<n+4*i+4)→bef j i=true
theorem DR {n:Nat} {d:List Nat} {recs:List kz} (h:uo n d (recs.map kz.foot).reverse=true):Hl n (fun j i=>(d.getD j 0).testBit i) recs:=by
 refine ⟨fun i j a b l p e f=> ?_⟩
 simp only [uo,List.reverse_reverse,List.all_eq_true] at h
 have c:=h (a.foot,i) (by rw [List.mem_zipIdx_iff_getElem?];simp [l]) (b.foot,j) (by rw [List.mem_zipIdx_iff_getElem?];simp [p])
 simp only [Bool.or_eq_true,Bool.not_eq_true'] at c
 rcases c with (c|c)|c
 ·have:Nat.blt i j=true:=Nat.ble_eq_true_of_le e
  rw [this] at c;cases c
 ·exfalso
  rw [Bool.or_eq_false_iff] at c
  rcases f with f|⟨x,k,q,o⟩
  ·rw [f] at c;cases c.1
  ·have:=List.any_eq_false.1 c.2 x k
   simp only [Bool.and_eq_true,not_and] at this
   exact this (Nat.ble_eq_true_of_le q) (Nat.ble_eq_true_of_le o)
 ·exact c
section
variable {P:Program} {ap:AP} {H:di}
theorem FR.congr {env b:iV} {hp hp':Hp} {dfs:List (Nat × List AV)} {nt:Nat} {m:bf} {S:aW} {w:World} {a:Act} (h:FR ap env hp dfs nt m S w a) (d:∀ t,b.get t=env.get t) (c:aG hp'=aG hp):FR ap b hp' dfs nt m S w a:=by
 refine ⟨c ▸ h.srel,fun t=> ?_,c ▸ h.dfs,h.size⟩
 rw [d,c];exact h.env t
def oK (listed:Array Bool):Nat→Bool:=fun k=>listed.getD k false
theorem Xd {listed:Array Bool} {i:Nat} (a:i<listed.size) (k:Nat):oK (listed.setIfInBounds i true) k=(if k=i then true else oK listed k):=by
 simp only [oK,Array.getD_eq_getD_getElem?]
 by_cases h:k=i
 ·subst h;rw [if_pos rfl,Array.getElem?_setIfInBounds_self_of_lt a];rfl
 ·rw [if_neg h,Array.getElem?_setIfInBounds_ne (fun e=>h e.symm)]
def A_ (n:Nat) (D:Nat→Bool):Nat:=((List.range n).filter fun i=> !D i).length
theorem zW {D D':Nat→Bool} {i:Nat} (c:D i=false) (b:∀ k,D' k=if k=i then true else D k):∀ (l:List Nat),l.Nodup→i ∈ l→(l.filter fun k=> !D k).length=(l.filter fun k=> !D' k).length+1
 | [],_,h=>by simp at h
 | a::r,hn,h=>by
  rw [List.nodup_cons] at hn
  by_cases ha:a=i
  ·subst ha
   have hsame:r.filter (fun k=> !D k)=r.filter (fun k=> !D' k):=by
    refine List.filter_congr fun k j=> ?_
    have:k ≠ a:=fun e=>hn.1 (e ▸ j)
    rw [b k,if_neg this]
   have d:D' a=true:=by rw [b a,if_pos rfl]
   simp [c,d,hsame]
  ·have f:=zW c b r hn.2 (by simpa [Ne.symm ha] using h)
   have:D' a=D a:=by rw [b a,if_neg ha]
   simp only [List.filter_cons,this]
   split<;>simp [f]
theorem Vj {ops:List Oper} (i:qV ops=true) {listed:Array Bool} (o:listed.size=ops.length) (b:Region.ready .any ops.toArray listed= []):∀ k,k<ops.length→oK listed k=true:=by
 intro k
 induction k using Nat.strongRecOn with
 | _ k ih=>
  intro h
  cases d:oK listed k with
  |true=>rfl
  | false=>
   exfalso
   have a:k ∈ Region.ready .any ops.toArray listed:=by
    simp only [Region.ready,List.mem_filter,List.mem_range,List.size_toArray]
    refine ⟨h, ?_⟩
    have l:listed.getD k true=false:=by
     simp only [oK,Array.getD_eq_getD_getElem?] at d ⊢
     rw [Array.getElem?_eq_getElem (by omega)] at d ⊢
     simpa using d
    have p:ops.toArray[k]? =some ops[k]:=by simp [h]
    rw [l,p]
    simp only [Bool.not_false,Bool.true_and,Option.map_some,Option.getD_some,Array.all_eq_true',Bool.or_eq_true,Bool.not_eq_true']
    intro e n
    cases c:Region.binds .any e with
    |false=>exact .inl rfl
    |true=>
     right
     simp only [qV,List.all_eq_true] at i
     have f:=i (ops[k],k) (by rw [List.mem_zipIdx_iff_getElem?];simp [h]) e (by simpa using n)
     rw [c] at f
     simp only [Bool.not_true,Bool.false_or] at f
     have j:=gm f
     exact ih e.on j (by omega)
   rw [b] at a
   cases a
theorem D8 {ops:List Oper} {listed:Array Bool} (k:listed.size=ops.length) {i:Nat} (h:i ∈ Region.ready .any ops.toArray listed):∃ o,ops[i]? =some o∧oK listed i=false∧i<ops.length∧∀ e ∈ o.after,Region.binds .any e=true→oK listed e.on=true:=by
 simp only [Region.ready,List.mem_filter,List.mem_range,List.size_toArray,Bool.and_eq_true,Bool.not_eq_true'] at h
 obtain ⟨b,a,c⟩:=h
 have f:ops.toArray[i]? =some ops[i]:=by simp [b]
 rw [f] at c
 simp only [Option.map_some,Option.getD_some,Array.all_eq_true',Bool.or_eq_true,Bool.not_eq_true'] at c
 refine ⟨ops[i],List.getElem?_eq_getElem b, ?_,b,fun e d j=> ?_⟩
 ·simp only [oK,Array.getD_eq_getD_getElem?] at a ⊢
  rw [Array.getElem?_eq_getElem (by omega)] at a ⊢
  simpa using a
 ·rcases c e d with h|h
  ·rw [j] at h;cases h
  ·exact h
end
end AM
namespace AM
open Go
theorem Tf {a b:wE} {x:Nat} (h:x ∈ a.wt) (c:x ∈ b.rt):kD a b=true:=by simp [kD,qB h c]
theorem JG {a b:wE} {x:Nat} (h:x ∈ a.wt) (c:x ∈ b.wt):kD a b=true:=by simp [kD,qB h c]
theorem Td {a b:wE} {x:Nat} (h:x ∈ a.rt) (c:x ∈ b.wt):kD a b=true:=by simp [kD,qB h c]
theorem Qd {a b:wE} {x:Nat} (h:x ∈ a.wb) (c:x ∈ b.rb):kD a b=true:=by simp [kD,qB h c]
theorem FW {a b:wE} {x:Nat} (h:x ∈ a.wb) (c:x ∈ b.wb):kD a b=true:=by simp [kD,qB h c]
theorem Qc {a b:wE} {x:Nat} (h:x ∈ a.rb) (c:x ∈ b.wb):kD a b=true:=by simp [kD,qB h c]
theorem ul {d:Option Nat} {t:Nat} (h:d=some t):t ∈ OQ d:=by subst h;simp [OQ]
section
variable {P:Program} {ap:AP} {H:di}
structure aaq (ap:AP) (ops:List Oper) (recs:List kz) (e0:iV) (hp0:Hp) (dfs:List (Nat × List AV)) (nt:Nat) (m0:bf) (S0:aW) (w0:World) (listed:Array Bool) (m:bf) (S:aW) (w:World) (a:Act):Prop where
 sz:listed.size=ops.length
 cl:Az ops (oK listed)
 fr:Fr (aG hp0) m0 S0 w0 (aG (n_ (oK listed) 0 hp0 recs)) m S w
 rel:FR ap (lS (oK listed) 0 e0 recs) (n_ (oK listed) 0 hp0 recs) dfs nt m S w a
theorem JX {ops:List Oper} {recs:List kz} {s:RS} {A nt:Nat} (hnt:∀ o ∈ ops,∀ d,o.dst=some d→d<nt) (hlen:recs.length=ops.length)
  (hbound:∀ (k:Nat) (r:kz),recs[k]? =some r→∀ b ∈ r.ups.map (·.1),b<A+4*k+4)
  (hsem:∀ (k:Nat) (r:kz),recs[k]? =some r→∃ o,ops[k]? =some o∧r.dst=o.dst∧∀ (D:Nat→Bool) m S w (a:Act),bY ap (aG (n_ D 0 s.hp recs)) m S w→(∀ t ∈ r.rt,VR (aG (n_ D 0 s.hp recs)) m S ((nZ s.env (recs.take k)).get t) (a.tmps.getD t undef))→
   (∀ b ∈ r.rb,aG (C9 s.hp (recs.take k)) b=aG (n_ D 0 s.hp recs) b)→(∀ j,j<4→aG (n_ D 0 s.hp recs) (A+4*k+j)=none)→(∀ j,((Region.before ops.toArray).toList.getD j 0).testBit k=true→D j=false)→
   ∀ (Q:Exit→Act→World→Prop) (K:Act→World→Prop),ZC ap o (aG (n_ D 0 s.hp recs)) m S w a r.v r.ups [] Q K none→wpO P ops.toArray Q o K a w)
  (hord:Hl A (fun j i=>((Region.before ops.toArray).toList.getD j 0).testBit i) recs) (hback:qV ops=true) (hn0:∀ b B,aG s.hp b=some B→b<A) {m0:bf} {S0:aW} {w0:World} {Q:Exit→Act→World→Prop}
  (hQ:∀ m S w a,Fr (aG s.hp) m0 S0 w0 (aG (C9 s.hp recs)) m S w→FR ap (nZ s.env recs) (C9 s.hp recs) s.dfs nt m S w a→Q .normal a w):
  ∀ (n:Nat) (listed:Array Bool) (m:bf) (S:aW) (w:World) (a:Act),aaq ap ops recs s.env s.hp s.dfs nt m0 S0 w0 listed m S w a→A_ ops.length (oK listed)≤n→wpAny P .any ops.toArray Q n listed a w:=by
 have hdone:∀ (listed:Array Bool) (m:bf) (S:aW) (w:World) (a:Act),aaq ap ops recs s.env s.hp s.dfs nt m0 S0 w0 listed m S w a→(∀ k,k<ops.length→oK listed k=true)→Q .normal a w:=by
  intro listed m S w a u v
  have hh:∀ b,aG (C9 s.hp recs) b=aG (n_ (oK listed) 0 s.hp recs) b:=fun b=>
   qx recs 0 _ _ rfl fun k r c _=>by rw [v (0+k) (by have:=(List.getElem?_eq_some_iff.1 c).1;omega)]
  have he:∀ t,(nZ s.env recs).get t=(lS (oK listed) 0 s.env recs).get t:=fun t=>
   ny recs 0 _ _ rfl fun k r c _=>by rw [v (0+k) (by have:=(List.getElem?_eq_some_iff.1 c).1;omega)]
  have F:=funext hh
  exact hQ m S w a (F ▸ u.fr) (u.rel.congr he F)
 intro n
 induction n with
 | zero=>
  intro listed m S w a u hm
  have v:∀ k,k<ops.length→oK listed k=true:=by
   intro k c
   cases f:oK listed k with
   |true=>rfl
   |false=>
    have M:k ∈ (List.range ops.length).filter fun i=> !oK listed i:=by simp [c,f]
    have:(List.range ops.length).filter (fun i=> !oK listed i)= []:=List.eq_nil_of_length_eq_zero (Nat.le_zero.1 hm)
    rw [this] at M
    cases M
  refine ⟨?_,hdone listed m S w a u v⟩
  cases hr:Region.ready .any ops.toArray listed with
  |nil=>rfl
  |cons i r=>
   obtain ⟨o,_,p,h3,_⟩:=D8 u.sz (i:=i) (by rw [hr];simp)
   rw [v i h3] at p;cases p
 | succ n ih=>
  intro listed m S w a u hm
  refine ⟨fun W=>hdone listed m S w a u (Vj hback u.sz W),fun i hi=> ?_⟩
  obtain ⟨o,L,G,V,hedges⟩:=D8 u.sz hi
  have y:recs[i]? =some recs[i]:=List.getElem?_eq_getElem (by omega)
  generalize recs[i]=r at y
  obtain ⟨o',U,E,hstep⟩:=hsem i r y
  rw [L] at U
  cases U
  have Y:i<listed.size:=by rw [u.sz];exact V
  have l:=Xd Y
  have R:Az ops (oK (listed.setIfInBounds i true)):=by
   intro k o2 c f e he z
   rw [l] at f ⊢
   split
   ·rfl
   ·split at f
    ·rename_i C
     subst C
     rw [L] at c;cases c
     exact hedges e he z
    ·exact u.cl k o2 c f e he z
  have O:∀ k q,recs[k]? =some q→k<i→(kD q.foot r.foot=true∨∃ x ∈ r.ups.map (·.1),A+4*k≤x∧x<A+4*k+4)→oK listed k=true:=by
   intro k q c C hc
   have I:=hord.ok k i q r c y C hc
   have p:=o_ R (k:=i) (i:=k) (by rw [l,if_pos rfl]) I
   rw [l,if_neg (by omega)] at p
   exact p
  have hhigh:∀ k q,recs[k]? =some q→i<k→(kD r.foot q.foot=true∨∃ x ∈ q.ups.map (·.1),A+4*i≤x∧x<A+4*i+4)→oK listed k=false:=by
   intro k q c C hc
   cases f:oK listed k with
   |false=>rfl
   |true=>
    have I:=hord.ok i k r q y c C hc
    have p:=o_ u.cl f I
    rw [G] at p;cases p
  have N:∀ k q,recs[k]? =some q→(k<i→kD q.foot r.foot=true)→(i<k→kD r.foot q.foot=true)→decide (k<i)=oK listed k:=by
   intro k q c I p
   rcases Nat.lt_trichotomy k i with h|h|h
   ·rw [O k q c h (.inl (I h))];simp [h]
   ·subst h;rw [G];simp
   ·rw [hhigh k q c h (.inl (p h))];simp;omega
  have hagr':∀ k q,recs[k]? =some q→(k<i→kD q.foot r.foot=true)→(i<k→kD r.foot q.foot=true)→oK (listed.setIfInBounds i true) k=decide (k<i+1):=by
   intro k q c I p
   rw [l]
   rcases Nat.lt_trichotomy k i with h|h|h
   ·rw [if_neg (by omega),O k q c h (.inl (I h))];simp;omega
   ·subst h;simp
   ·rw [if_neg (by omega),hhigh k q c h (.inl (p h))];simp;omega
  have T:∀ t ∈ r.rt,(nZ s.env (recs.take i)).get t=(lS (oK listed) 0 s.env recs).get t:=by
   intro t J
   rw [← xP]
   refine ny recs 0 _ _ rfl fun k q c f=> ?_
   rw [Nat.zero_add]
   exact N k q c (fun _=>Tf (ul f) J) (fun _=>Td J (ul f))
  have hhp:∀ b ∈ r.rb,aG (C9 s.hp (recs.take i)) b=aG (n_ (oK listed) 0 s.hp recs) b:=by
   intro b z
   rw [← Nh]
   refine qx recs 0 _ _ rfl fun k q c f=> ?_
   rw [Nat.zero_add]
   exact N k q c (fun _=>Qd f z) (fun _=>Qc z f)
  have hfresh:∀ j,j<4→aG (n_ (oK listed) 0 s.hp recs) (A+4*i+j)=none:=by
   intro j hj
   have I:aG (n_ (oK listed) 0 s.hp recs) (A+4*i+j)=aG (n_ (fun _=>false) 0 s.hp recs) (A+4*i+j):=by
    refine qx recs 0 _ _ rfl fun k q c f=> ?_
    rw [Nat.zero_add]
    have z:=hbound k q c _ f
    rcases Nat.lt_trichotomy k i with h|h|h
    ·omega
    ·subst h;exact G
    ·exact hhigh k q c h (.inr ⟨_,f,by omega,by omega⟩)
   rw [I,nG recs 0 _ (fun _ _=>rfl)]
   cases z:aG s.hp (A+4*i+j) with
   |none=>rfl
   |some B=>have:=hn0 _ _ z;omega
  have X:ops.toArray[i]? =some o:=by simpa using L
  have hgoal:wpO P ops.toArray Q o (wpAny P .any ops.toArray Q n (listed.setIfInBounds i true)) a w:=by
   refine hstep (oK listed) m S w a u.rel.srel (fun t J=>by rw [T t J];exact u.rel.env t) hhp hfresh (fun j hj=>by
    cases f:oK listed j with
    |false=>rfl
    |true=>
     have p:=o_ u.cl f hj
     rw [G] at p;cases p) Q _ ?_
   intro cv m' S' w' ds I p h3 h4
   have hF:=u.rel.put (hnt o (List.mem_of_getElem? L)) I p h3 h4
   rw [kJ] at p
   rw [List.nil_append] at hF
   have he':∀ t,(lS (oK (listed.setIfInBounds i true)) 0 s.env recs).get t=(pO (lS (oK listed) 0 s.env recs) o.dst r.v).get t:=by
    intro t
    by_cases J:o.dst=some t
    ·have h5:(lS (oK (listed.setIfInBounds i true)) 0 s.env recs).get t=(lS (fun j=>decide (j<i+1)) 0 s.env recs).get t:=by
      refine ny recs 0 _ _ rfl fun k q c f=> ?_
      rw [Nat.zero_add]
      have Z:t ∈ r.foot.wt:=ul (E.trans J)
      exact hagr' k q c (fun _=>JG (ul f) Z) (fun _=>JG Z (ul f))
     rw [h5,xP,Gf _ _ _ _ y,E,J,jo,jo]
    ·rw [xW J]
     refine ny recs 0 _ _ rfl fun k q c f=> ?_
     rw [Nat.zero_add,l,if_neg]
     rintro rfl
     rw [y] at c;cases c
     exact J (E ▸ f)
   have F:aG (n_ (oK (listed.setIfInBounds i true)) 0 s.hp recs)=aG (r.ups++n_ (oK listed) 0 s.hp recs):=by
    funext b
    by_cases z:b ∈ r.ups.map (·.1)
    ·have h5:aG (n_ (oK (listed.setIfInBounds i true)) 0 s.hp recs) b=aG (n_ (fun j=>decide (j<i+1)) 0 s.hp recs) b:=by
      refine qx recs 0 _ _ rfl fun k q c f=> ?_
      rw [Nat.zero_add]
      exact hagr' k q c (fun _=>FW f z) (fun _=>FW z f)
     rw [h5,Nh,Ug _ _ _ _ y]
     exact yf z
    ·rw [qY z]
     refine qx recs 0 _ _ rfl fun k q c f=> ?_
     rw [Nat.zero_add,l,if_neg]
     rintro rfl
     rw [y] at c;cases c
     exact z f
   refine ih _ m' S' w' _ ⟨by rw [Array.size_setIfInBounds];exact u.sz,R, ?_,hF.congr he' F⟩ ?_
   ·rw [F];exact u.fr.trans p
   ·have:=zW G l (List.range ops.length) List.nodup_range (by simp [V])
    simp only [A_] at hm ⊢
    omega
  simp only [wpOp,X]
  exact hgoal
theorem TP {ops:List Oper} {recs:List kz} {s s':RS} {l nt:Nat} (q:∀ o ∈ ops,∀ d,o.dst=some d→d<nt) (c:recs.length=ops.length) (f:SK P ap ops 0 l s s' recs) (h:s'.dfs.length=s.dfs.length)
  (hord:Hl l (fun j i=>((Region.before ops.toArray).toList.getD j 0).testBit i) recs) (hback:qV ops=true) (hn0:∀ b B,aG s.hp b=some B→b<l) {m0:bf} {S0:aW} {w0:World} {Q:Exit→Act→World→Prop}
  (hQ:∀ m S w a,Fr (aG s.hp) m0 S0 w0 (aG (C9 s.hp recs)) m S w→FR ap (nZ s.env recs) (C9 s.hp recs) s.dfs nt m S w a→Q .normal a w):
  ∀ (fuel:Nat) (listed:Array Bool) (m:bf) (S:aW) (w:World) (a:Act),aaq ap ops recs s.env s.hp s.dfs nt m0 S0 w0 listed m S w a→A_ ops.length (oK listed)≤fuel→wpAny P .any ops.toArray Q fuel listed a w:=by
 obtain ⟨_,e⟩:=f.sem h
 refine JX q c f.bound (fun k r E=> ?_) hord hback hn0 hQ
 obtain ⟨o,t,C,A⟩:=e k r E
 rw [Nat.zero_add] at t
 exact ⟨o,t,C,fun D m S w a u x n p _ Q K v=>A _ m S w a u x (fun b y B z=>by rw [← n b y];exact z) p Q K v⟩
def oh (ap:AP) (base:Nat) (keep:List Nat) (hp0:Hp) (m:bf) (S:aW) (w:World) (nt:Nat) (s':St) (Q:Exit→Act→World→Prop):bM→Prop
 | .panic v=>match (fD v).isEmpty with
  |true=> ∀ s1:St,s'=norm base keep s1→xu ap hp0 m S w nt s1.env s1.hp s1.dfs Q (some v)
  |false=>xu ap hp0 m S w nt s'.env s'.hp s'.dfs Q (some v)
 | .normal=> ∀ s1:St,s'=norm base keep s1→xu ap hp0 m S w nt s1.env s1.hp s1.dfs Q none
 |_=>True
theorem I4 (x:jd P ap) (G:P.follows .mixedOrders=true) (I:jX P ap H) {ops:List Oper} {l:Bool} {nt base:Nat} {keep:List Nat} (z:∀ o ∈ ops,∀ d,o.dst=some d→d<nt) {s:St} {e:bM} {s':St} {c U:Cx} {id:Nat}
  (h:IZ ap H base keep ops l s c= .ok (e,s') U) (hc:U.Ok):c.Ok∧(s.md= .dead→s'.md= .dead∧(∀ m S w a,FR ap s.env s.hp s.dfs nt m S w a→∀ Q,
   oh ap base keep s.hp m S w nt s' Q e→(Code.region id ops.toArray l).wp P Q a w)):=by
 unfold IZ at h
 obtain ⟨⟨s1,p⟩,Z,J,h⟩:=R.bind_ok h
 dsimp only at h
 have u:∀ b B,aG s.hp b=some B→b<iI s.hp:=fun b B q=>qG q
 cases p with
 | some v=>
  cases l with
  |true=>cases h
  | false=>
   dsimp only at h
   split at h
   ·rename_i D
    cases h
    obtain ⟨i,hs⟩:=mP x I z ops 0 _ _ _ _ _ _ J hc
    refine ⟨i,fun f=> ?_⟩
    obtain ⟨y,E⟩:=hs f (fun t b q=>by cases q) rfl u
    refine ⟨y,fun m S w a j Q r=>wp_region ?_⟩
    simp only [oh,D] at r
    have:=E m S w a j Q (r _ rfl)
    rw [← List.range_eq_range'] at this
    simpa using this
   ·rename_i D
    cases h
    obtain ⟨i,hs⟩:=mP x I z ops 0 _ _ _ _ _ _ J hc
    refine ⟨i,fun f=> ?_⟩
    obtain ⟨y,E⟩:=hs f (fun t b q=>by cases q) rfl u
    refine ⟨y,fun m S w a j Q r=>wp_region ?_⟩
    simp only [oh,D] at r
    have:=E m S w a j Q r
    rw [← List.range_eq_range'] at this
    simpa using this
 | none=>
  dsimp only at h
  split at h
  ·rename_i hcond
   cases h
   cases l with
   |false=>
    obtain ⟨i,hs⟩:=mP x I z ops 0 _ _ _ _ _ _ J hc
    refine ⟨i,fun f=> ?_⟩
    obtain ⟨y,E⟩:=hs f (fun t b q=>by cases q) rfl u
    refine ⟨y,fun m S w a j Q r=>wp_region ?_⟩
    have:=E m S w a j Q (r _ rfl)
    rw [← List.range_eq_range'] at this
    simpa using this
   | true=>
    obtain ⟨i,hs⟩:=VX x I ops 0 _ _ _ _ _ J hc
    refine ⟨i,fun f=> ?_⟩
    obtain ⟨y,recs,F,n⟩:=hs f (fun t b q=>by cases q) rfl
    refine ⟨y,fun m S w a j Q r=>wp_region_any G ?_⟩
    simp only [Bool.not_true,Bool.false_or,Bool.and_eq_true] at hcond
    obtain ⟨⟨O,hback⟩,A⟩:=hcond
    have A:=aO A
    rw [n.feet,List.append_nil] at O
    have L:=r _ rfl
    have N:=(n.sem A).1
    have C:oK (Array.replicate ops.length false)=fun _=>false:=by
     funext k
     simp only [oK,Array.getD_eq_getD_getElem?]
     by_cases V:k<ops.length<;>simp [V]
    have M:ops.toArray.size=ops.length:=by simp
    rw [M]
    refine TP z F n A (DR O) hback u (m0:=m) (S0:=S) (w0:=w) (Q:=Q) ?_ ops.length _ m S _ a ⟨by simp, ?_, ?_, ?_⟩ ?_
    ·intro W S' w' Y K X
     refine L W S' w' Y ?_ ?_
     ·rw [n.hp];exact K
     ·rw [n.hp,n.env,N];exact X
    ·intro k o V T
     rw [C] at T;cases T
    ·rw [C,nG recs 0 _ (fun _ _=>rfl)]
     exact ⟨Ge.refl _ _,mi.refl _,rfl,rfl,rfl,Nat.le_refl _,fun _ _ _=>rfl,fun _ B h=> .inr ⟨B,h,rfl⟩,fun _ _ _ h=> .inl h⟩
    ·rw [C,nG recs 0 _ (fun _ _=>rfl),uP recs 0 _ (fun _ _=>rfl)]
     exact ⟨⟨j.srel.inj,fun b B q=>j.srel.blk b B q|>fun ⟨y,E,K⟩=> ⟨y,E,K⟩,j.srel.sealed,j.srel.own,j.srel.glob⟩,j.env,j.dfs,j.size⟩
    ·exact Nat.le_trans (List.length_filter_le _ _) (by simp)
  ·cases h
end
end AM
namespace AM
open Go
def Ai (acc:List Nat) (b:Nat):List Nat:=if pG acc b then acc else acc++ [b]
theorem PZ (a:List Nat) (b:Nat) (h:a.Nodup):(Ai a b).Nodup∧∃ t,Ai a b=a++t:=by
 unfold Ai
 split
 ·exact ⟨h,[],by simp⟩
 ·rename_i f
  refine ⟨?_,[b],rfl⟩
  rw [List.nodup_append]
  refine ⟨h,by simp, ?_⟩
  intro x d y c e
  simp at c
  subst c;subst e
  exact f (jf.2 d)
theorem ou:∀ (l a:List Nat),a.Nodup→(l.foldl Ai a).Nodup∧∃ t,l.foldl Ai a=a++t
 | [],a,h=> ⟨h,[],by simp⟩
 |b::r,a,h=>by
  simp only [List.foldl_cons]
  obtain ⟨i,j,f⟩:=PZ a b h
  obtain ⟨c,d,e⟩:=ou r _ i
  exact ⟨c,j++d,by rw [e,f,List.append_assoc]⟩
theorem BL:∀ (l a:List Nat),l.Nodup→(∀ x ∈ l,x ∉ a)→l.foldl Ai a=a++l
 | [],a,_,_=>by simp
 | b::r,a,h,hd=>by
  rw [List.nodup_cons] at h
  have e:pG a b=false:=by
   cases c:pG a b with
   |false=>rfl
   |true=>exact absurd (jf.1 c) (hd b (by simp))
  simp only [List.foldl_cons]
  have:Ai a b=a++ [b]:=by simp [Ai,e]
  rw [this,BL r _ h.2]
  ·simp
  ·intro x d c
   rcases List.mem_append.1 c with c|c
   ·exact hd x (by simp [d]) c
   ·simp at c;subst c;exact h.1 d
theorem QH (l:List Nat):jy l=l.foldl Ai []:=rfl
theorem NK (n:Nat) (l:List Nat):(jy (List.range n++l)).Nodup∧∃ t,jy (List.range n++l)=List.range n++t:=by
 rw [QH,List.foldl_append,BL (List.range n) [] List.nodup_range (by simp),List.nil_append]
 exact ou l _ List.nodup_range
theorem tK (rd:dR):∀ (n:Nat) (l:List Nat),l.Nodup→(sO rd n l).Nodup∧∃ t,sO rd n l=l++t
 |0,l,h=> ⟨h,[],by simp [sO]⟩
 | n+1,l,h=>by
  simp only [sO]
  split
  ·exact ⟨h,[],by simp⟩
  ·obtain ⟨e,i,f⟩:=ou (l.flatMap fun b=>match rd b with|some B=>(match B.pr with|true=> []|false=>dn B.cells)|none=> []) l h
   obtain ⟨a,d,c⟩:=tK rd n _ e
   refine ⟨a,i++d, ?_⟩
   exact c.trans (by rw [f,List.append_assoc])
theorem Gu {f:Nat→AV}:∀ (keep:List Nat) (t:Nat),aG (keep.map fun t=>(t,f t)) t=if t ∈ keep then some (f t) else none
 | [],t=>by simp [aG]
 | a::r,t=>by
  simp only [List.map_cons,aG,Gu r t]
  cases h:Nat.beq a t with
  |true=>have:=aO h;subst this;simp
  |false=>
   have b:t ≠ a:=by intro e;subst e;simp at h
   simp [b]
theorem zT {rd:dR} {mk:Nat→bi→bi}:∀ (ids:List Nat) (j p:Nat),aG ((ids.zipIdx j).filterMap fun (b,p)=>(rd b).map fun B=>(p,mk p B)) p=if j≤p then (ids[p - j]?).bind fun b=>(rd b).map (mk p) else none
 | [],j,p=>by simp [aG]
 | a ::r,j,p=>by
  have i:=zT (rd:=rd) (mk:=mk) r (j+1) p
  rw [List.zipIdx_cons]
  cases c:rd a with
  | none=>
   rw [List.filterMap_cons_none (by simp [c]),i]
   by_cases hj:j+1≤p
   ·rw [if_pos hj,if_pos (by omega)]
    obtain ⟨d,f⟩:∃ d,p - j=d+1:=⟨p - j - 1,by omega⟩
    rw [f,List.getElem?_cons_succ,show p - (j+1)=d by omega]
   ·rw [if_neg hj]
    by_cases hjp:j≤p
    ·rw [if_pos hjp,show p - j=0 by omega];simp [c]
    ·rw [if_neg hjp]
  | some B=>
   rw [List.filterMap_cons_some (by simp [c];rfl)]
   simp only [aG]
   cases h:Nat.beq j p with
   |true=>have:=aO h;subst this;simp [c]
   | false=>
    have k:j ≠ p:=by intro e;subst e;simp at h
    simp only [i]
    by_cases hj:j+1≤p
    ·rw [if_pos hj,if_pos (by omega)]
     obtain ⟨d,f⟩:∃ d,p - j=d+1:=⟨p - j - 1,by omega⟩
     rw [f,List.getElem?_cons_succ,show p - (j+1)=d by omega]
    ·rw [if_neg hj,if_neg (by omega)]
theorem Gz:∀ {l:List Nat},l.Nodup→rq l=true
 | [],_=>rfl
 |b::r,h=>by
  rw [List.nodup_cons] at h
  simp only [rq,Bool.and_eq_true,Bool.not_eq_true']
  refine ⟨?_,Gz h.2⟩
  cases a:pG r b with
  |false=>rfl
  |true=>exact absurd (jf.1 a) h.1
section
variable {P:Program} {ap:AP} {H:di}
theorem Jo {g g':dR} {m b:bf} {S S':aW} {ρ:Nat→Nat→Option (Nat × Nat)} (c:mi S S') (h:su g m g' b ρ):∀ {l:List (Nat × List AV)} {ds:List Deferred},iG g m S l ds→iG g' b S' (l.map fun d=>(d.1,lU ρ d.2)) ds
 | [],[],_=>by simp [iG]
 |d::r,cd::cr,p=>by
  simp only [iG] at p
  obtain ⟨⟨a,e,i⟩,f⟩:=p
  simp only [List.map_cons,iG]
  exact ⟨⟨a,e,kQ c h _ i⟩,Jo c h f⟩
 | [],_::_,p=>by simp [iG] at p
 |_::_,[],p=>by simp [iG] at p
theorem nM {h0:List bi} {keep:List Nat} {s:St} {nt:Nat} {m m0:bf} {S S0:aW} {w w0:World} {a:Act} (c:Fr (bI h0) m0 S0 w0 (aG s.hp) m S w) (D:FR ap s.env s.hp s.dfs nt m S w a):
  ∃ m',Fr (bI h0) m0 S0 w0 (aG (norm h0.length keep s).hp) m' S w∧FR ap (norm h0.length keep s).env (norm h0.length keep s).hp (norm h0.length keep s).dfs nt m' S w a:=by
 obtain ⟨_,t0,U⟩:=tK (aG s.hp) 20 (List.range h0.length) List.nodup_range
 generalize hroots:t0++(CG keep s.env++s.dfs.flatMap (fun d=>dn d.2))=roots
 have hroots':sO (aG s.hp) 20 (List.range h0.length)++CG keep s.env++s.dfs.flatMap (fun d=>dn d.2)=List.range h0.length++roots:=by rw [← hroots,U];simp only [List.append_assoc]
 obtain ⟨Q,t1,J⟩:=NK h0.length roots
 obtain ⟨W,t2,I⟩:=tK (aG s.hp) 20 _ Q
 rw [J,List.append_assoc] at I
 have hsome:∀ b,b<h0.length→∃ B0 B,bI h0 b=some B0∧aG s.hp b=some B∧B.esz=B0.esz∧((B.ver=B0.ver∧m b=m0 b)∨B0.ver<B.ver):=by
  intro b z
  obtain ⟨B,l,r⟩:=c.ge b h0[b] (by simp [bI,z])
  exact ⟨h0[b],B,by simp [bI,z],l,r⟩
 generalize k:(sO (aG s.hp) 20 (jy (List.range h0.length++roots))).filter (fun b=>(aG s.hp b).isSome)=ids
 have T:ids.Nodup:=by rw [← k];exact W.filter _
 have C:=Gz T
 have x:∃ t,ids=List.range h0.length++t:=by
  rw [← k,J,I,List.filter_append]
  refine ⟨_,congrArg (· ++_) ?_⟩
  rw [List.filter_eq_self]
  intro b z
  obtain ⟨_,B,_,r,_⟩:=hsome b (by simpa using z)
  simp [r]
 obtain ⟨t,x⟩:=x
 have u:∀ b,b<h0.length→ids[b]? =some b:=by
  intro b z
  rw [x,List.getElem?_append_left (by simpa using z)]
  simp [z]
 have M:∀ (p b:Nat),ids[p]? =some b→∃ B,aG s.hp b=some B:=by
  intro p b hp
  have:=List.mem_of_getElem? hp
  rw [← k,List.mem_filter] at this
  exact Option.isSome_iff_exists.1 this.2
 let ρ:Nat→Nat→Option (Nat × Nat):=fun b v=>match aG s.hp b with
  |some B=>match Nat.beq B.ver v with
   |true=>(pq ids b).map fun p=>(p,match Nat.blt p h0.length with|true=>v|false=>0)
   |false=>none
  |none=>none
 let mk:Nat→bi→bi:=fun p B=> {B with cells:=(match B.pr with|true=>B.cells|false=>lU ρ B.cells),ver:=match Nat.blt p h0.length with|true=>B.ver|false=>0}
 have hnorm:norm h0.length keep s=⟨keep.map fun t=>(t,ren ρ (s.env.get t)),ids.zipIdx.filterMap fun (b,p)=>(aG s.hp b).map fun B=>(p,mk p B),s.md,s.dfs.map fun d=>(d.1,lU ρ d.2)⟩:=by
  unfold norm
  simp only [hroots',k]
  rfl
 rw [hnorm]
 dsimp only
 have A:∀ p,aG (ids.zipIdx.filterMap fun (b,p)=>(aG s.hp b).map fun B=>(p,mk p B)) p=(ids[p]?).bind fun b=>(aG s.hp b).map (mk p):=by
  intro p
  rw [zT (rd:=aG s.hp) (mk:=mk) ids 0 p,if_pos (Nat.zero_le _),Nat.sub_zero]
 generalize (ids.zipIdx.filterMap fun (b,p)=>(aG s.hp b).map fun B=>(p,mk p B))=hp2 at A
 have i:∀ (p:Nat) (B2:bi),aG hp2 p=some B2→∃ b B,ids[p]? =some b∧aG s.hp b=some B∧B2=mk p B:=by
  intro p B2 h
  rw [A] at h
  cases hp:ids[p]? with
  |none=>rw [hp] at h;cases h
  |some b=>
   rw [hp] at h
   obtain ⟨B,K⟩:=M p b hp
   simp only [Option.bind_some,K,Option.map_some,Option.some.injEq] at h
   exact ⟨b,B,rfl,K,h.symm⟩
 let m2:bf:=fun p=>m (ids.getD p 0)
 have j:∀ (p b:Nat),ids[p]? =some b→m2 p=m b:=by
  intro p b hp
  show m (ids.getD p 0)=_
  rw [List.getD_eq_getElem?_getD,hp];rfl
 have y:su (aG s.hp) m (aG hp2) m2 ρ:=by
  intro b ver p Y h B K hver
  simp only [ρ,K] at h
  split at h
  ·rename_i G
   have G:=aO G
   simp only [Option.map_eq_some_iff,Prod.mk.injEq] at h
   obtain ⟨q,F,rfl,rfl⟩:=h
   have F:=qy F
   refine ⟨mk q B, ?_, ?_,fun _=> ⟨G,j q b F,rfl⟩⟩
   ·rw [A,F];simp [K]
   ·simp only [mk]
    split
    ·omega
    ·exact Nat.le_refl _
  ·cases h
 have E:∀ (p q b:Nat),ids[p]? =some b→ids[q]? =some b→p=q:=by
  intro p q b hp F
  have e1:=oO C hp
  rw [oO C F] at e1
  cases e1;rfl
 refine ⟨m2, ?_, ?_, ?_, ?_,D.size⟩
 ·refine ⟨?_,c.sle,c.os,c.tape,c.output,c.size,c.rest, ?_,c.sealN⟩
  ·intro b B0 z
   have n:b<h0.length:=(List.getElem?_eq_some_iff.1 z).1
   obtain ⟨B0',B,l,r,N,O⟩:=hsome b n
   rw [z] at l;cases l
   have V:Nat.blt b h0.length=true:=Nat.ble_eq_true_of_le n
   refine ⟨mk b B,by rw [A,u b n];simp [r],N, ?_⟩
   simp only [mk,V]
   rw [j b b (u b n)]
   exact O
  ·intro p B2 hp
   obtain ⟨b,B,l,r,rfl⟩:=i p B2 hp
   rw [j p b l]
   rcases c.img b B r with h|⟨B0,N,O⟩
   ·exact .inl h
   ·have n:b<h0.length:=(List.getElem?_eq_some_iff.1 N).1
    have:=E p b b l (u b n)
    subst this
    exact .inr ⟨B0,N,O⟩
 ·refine ⟨?_, ?_,D.srel.sealed, ?_,D.srel.glob⟩
  ·intro p q B2 B2' hp F e
   obtain ⟨b,B,l,r,rfl⟩:=i p B2 hp
   obtain ⟨Z,B',L,R,rfl⟩:=i q B2' F
   rw [j p b l,j q Z L] at e
   have:=D.srel.inj b Z B B' r R e
   subst this
   exact E p q b l L
  ·intro p B2 hp
   obtain ⟨b,B,l,r,rfl⟩:=i p B2 hp
   rw [j p b l]
   obtain ⟨⟨cur,e,vs,rest,k1,k2,k3,k4,k5,k6⟩,k7,k8⟩:=D.srel.blk b B r
   cases f:B.pr with
   |true=>exact ⟨⟨cur,e,vs,rest,k1,k2,fun _=>by simpa [mk,f] using k3 f,by simpa [mk,f] using bV _ (k3 f),k5,k6⟩,k7,by simpa [mk,f] using k8⟩
   | false=>
    have G:=kQ (mi.refl S) y _ k4
    exact ⟨⟨cur,e,vs,rest,k1,k2,fun h=>by simp [mk,f] at h,by simpa [mk,f] using G,k5,k6⟩,k7,by
     have:(mk p B).cells.length=B.cells.length:=by simp only [mk,f];rw [cO k4,cO G]
     rw [this];exact k8⟩
  ·intro p B2 hp o v X
   obtain ⟨b,B,l,r,rfl⟩:=i p B2 hp
   rw [j p b l] at X
   exact D.srel.own b B r o v X
 ·intro t
  simp only [iV.get,Gu]
  by_cases ht:t ∈ keep
  ·rw [if_pos ht]
   exact yK (mi.refl S) y _ (D.env t)
  ·rw [if_neg ht]
   simp [VR]
 ·exact Jo (mi.refl S) y D.dfs
end
end AM
namespace AM
open Go
mutual
theorem xw {g g':dR} {m n:bf} {S S':aW} (i:mi S S'):∀ (x:AV) {v:Value},(∀ b ∈ fD x,g' b=g b∧n b=m b)→VR g m S x v→VR g' n S' x v
 | .int _ _,_,_,p=>by simpa only [VR,PR] using p
 | .bool _,_,_,p=>by simpa only [VR,PR] using p
 | .str _,_,_,p=>by simpa only [VR,PR] using p
 | .nilS,_,_,p=>by simpa only [VR,PR] using p
 | .nilP,_,_,p=>by simpa only [VR,PR] using p
 | .nilF,_,_,p=>by simpa only [VR,PR] using p
 | .nilI,_,_,p=>by simpa only [VR,PR] using p
 | .sl _ _ _,_,_,p=>by simp only [VR] at p ⊢;exact dC i _ p
 | .pp _ _,_,_,p=>by simp only [VR] at p ⊢;exact dC i _ p
 | .mp _ _,_,_,p=>by simp only [VR] at p ⊢;exact dC i _ p
 | .dead,_,_,_=>by simp only [VR]
 | .own _ _ _,_,_,p=>by simp only [VR] at p
 | .ref b _ _ _,_,h,p=>by
  obtain ⟨j,k⟩:=h b (by simp [fD])
  simp only [VR] at p ⊢
  rw [j,k];exact p
 | .ptr b _ _,_,h,p=>by
  obtain ⟨j,k⟩:=h b (by simp [fD])
  simp only [VR] at p ⊢
  rw [j,k];exact p
 | .mr b _,_,h,p=>by
  obtain ⟨j,k⟩:=h b (by simp [fD])
  simp only [VR] at p ⊢
  rw [j,k];exact p
 | .agg l,_,h,p=>by
  simp only [VR] at p ⊢
  obtain ⟨vs,e,q⟩:=p
  exact ⟨vs,e,mJ i l (fun b d=>h b (by simpa [fD] using d)) q⟩
 | .tup l,_,h,p=>by
  simp only [VR] at p ⊢
  obtain ⟨vs,e,q⟩:=p
  exact ⟨vs,e,mJ i l (fun b d=>h b (by simpa [fD] using d)) q⟩
 | .fn f a c,_,h,p=>by
  simp only [VR] at p ⊢
  obtain ⟨o,s,e,q,r⟩:=p
  exact ⟨o,s,e,mJ i a (fun b d=>h b (by simp [fD,d])) q,mJ i c (fun b d=>h b (by simp [fD,d])) r⟩
 | .ifc t x,_,h,p=>by
  simp only [VR] at p ⊢
  obtain ⟨u,e,q⟩:=p
  exact ⟨u,e,xw i x (fun b d=>h b (by simpa [fD] using d)) q⟩
theorem mJ {g g':dR} {m c:bf} {S S':aW} (d:mi S S'):∀ (l:List AV) {vs:List Value},(∀ b ∈ dn l,g' b=g b∧c b=m b)→bF g m S l vs→bF g' c S' l vs
 | [],[],_,_=>by simp only [bF]
 |x::r,v::vs,h,p=>by
  simp only [bF] at p ⊢
  exact ⟨xw d x (fun b a=>h b (by simp [dn,a])) p.1,mJ d r (fun b a=>h b (by simp [dn,a])) p.2⟩
 | [],_::_,_,p=>by simp [bF] at p
 |_::_,[],_,p=>by simp [bF] at p
end
theorem mg {g:dR} {m:bf} {S:aW} {x:AV} {v:Value} (h:(fD x).isEmpty=true) (c:VR g m S x v):PR S x v:=by
 have d:fD x= []:=by simpa using h
 exact mY (m:=m) x (xw (mi.refl S) x (fun b a=>by rw [d] at a;cases a) c)
def F9 (nt:Nat) (o:Oper):Bool:=match o.dst with|some d=>Nat.blt d nt|none=>true
def dX (nt:Nat):Code→Bool
 | .region _ ops _=>ops.toList.all (F9 nt)
 | .seq a b=>dX nt a && dX nt b
 | .cond _ a b=>dX nt a && dX nt b
 | .block _ b=>dX nt b
 | .loop b=>dX nt b
 | .scope b=>dX nt b
 |_=>true
section
variable {P:Program} {ap:AP} {H:di}
def SG (hp:Hp) (m:bf) (S:aW) (Q:Exit→Act→World→Prop) (a:Act) (w:World):bM→Prop
 | .normal=>Q .normal a w
 | .exit id=>Q (.exit id) a w
 | .ret=>Q .ret a w
 | .panic v=> ∀ cv,VR (aG hp) m S v cv→Q (.panic [{v:=cv,recovered:=false}]) a w
def XA (ap:AP) (h0:List bi) (m0:bf) (S0:aW) (w0:World) (nt:Nat) (s':St) (e:bM) (Q:Exit→Act→World→Prop):Prop:=
 ∀ m' S' w' a',Fr (bI h0) m0 S0 w0 (aG s'.hp) m' S' w'→FR ap s'.env s'.hp s'.dfs nt m' S' w' a'→SG s'.hp m' S' Q a' w' e
def aj (P:Program) (ap:AP) (h0:List bi) (nt:Nat) (code:Code) (s:St) (e:bM) (s':St):Prop:=
 s.md= .dead→s'.md= .dead∧∀ m0 S0 w0 m S w a,Fr (bI h0) m0 S0 w0 (aG s.hp) m S w→FR ap s.env s.hp s.dfs nt m S w a→∀ Q,XA ap h0 m0 S0 w0 nt s' e Q→code.wp P Q a w
theorem aj.still {h0:List bi} {nt:Nat} {b:Code} {s:St} {e:bM} (h:∀ (Q:Exit→Act→World→Prop) hp m S a w,SG hp m S Q a w e→b.wp P Q a w):aj P ap h0 nt b s e s:=
 fun c=> ⟨c,fun _ _ _ m S w a d i Q f=>h Q s.hp m S a w (f m S w a d i)⟩
theorem Df {h0:List bi} {nt:Nat} {b:Code} {f:St→Cx→R (bM × St)} (x:∀ s e s' c c',f s c= .ok (e,s') c'→c'.Ok→c.Ok∧aj P ap h0 nt b s e s'):
  ∀ (n:Nat) (s:St) (e:bM) (s':St) (c c':Cx),OZ f n s c= .ok (e,s') c'→c'.Ok→c.Ok∧(s.md= .dead→s'.md= .dead∧∀ m0 S0 w0 m S w a,Fr (bI h0) m0 S0 w0 (aG s.hp) m S w→FR ap s.env s.hp s.dfs nt m S w a→∀ Q,XA ap h0 m0 S0 w0 nt s' e Q→Code.rounds P b Q n a w)
 |0,s,e,s',c,c',h,hc=>by cases h
 | n+1,s,e,s',c,c',h,hc=>by
  simp only [OZ] at h
  obtain ⟨⟨A,E⟩,D,C,h⟩:=R.bind_ok h
  dsimp only at h
  have hother:A ≠ .normal→R.ok (A,E) D=R.ok (e,s') c'→c.Ok∧(s.md= .dead→s'.md= .dead∧∀ m0 S0 w0 m S w a,Fr (bI h0) m0 S0 w0 (aG s.hp) m S w→FR ap s.env s.hp s.dfs nt m S w a→∀ Q,XA ap h0 m0 S0 w0 nt s' e Q→Code.rounds P b Q (n+1) a w):=by
   intro p G
   cases G
   obtain ⟨j,B⟩:=x _ _ _ _ _ C hc
   refine ⟨j,fun i=> ?_⟩
   obtain ⟨u,r⟩:=B i
   refine ⟨u,fun m0 S0 w0 m S w a d y Q o=>r m0 S0 w0 m S w a d y _ ?_⟩
   intro l S' w' z k t
   have:=o l S' w' z k t
   cases e with
   |normal=>exact absurd rfl p
   |exit id=>exact this
   |ret=>exact this
   |panic v=>exact this
  cases A with
  |normal=>
   dsimp only at h
   obtain ⟨q,I⟩:=Df x n E e s' D c' h hc
   obtain ⟨j,B⟩:=x _ _ _ _ _ C q
   refine ⟨j,fun i=> ?_⟩
   obtain ⟨u,r⟩:=B i
   obtain ⟨k,t⟩:=I u
   refine ⟨k,fun m0 S0 w0 m S w a d y Q o=>r m0 S0 w0 m S w a d y _ ?_⟩
   intro l S' w' z F J
   exact t m0 S0 w0 l S' w' z F J Q o
  |exit id=>exact hother (by simp) h
  |ret=>exact hother (by simp) h
  |panic v=>exact hother (by simp) h
theorem fJ (q:jd P ap) (i:P.follows .mixedOrders=true) (K:jX P ap H) {h0:List bi} {keep:List Nat} {lf nt:Nat}:∀ (code:Code),dX nt code=true→∀ (s:St) (e:bM) (s':St) (c p:Cx),kX ap H h0.length keep lf code s c= .ok (e,s') p→p.Ok→c.Ok∧aj P ap h0 nt code s e s'
 | .skip,_,s,e,s',c,p,h,n=>by
  cases h
  exact ⟨n,aj.still fun Q hp m S a w r=>wp_skip r⟩
 | .label l,_,s,e,s',c,p,h,n=>by
  cases h
  exact ⟨n,aj.still fun Q hp m S a w r=>wp_label r⟩
 | .exit id,_,s,e,s',c,p,h,n=>by
  cases h
  exact ⟨n,aj.still fun Q hp m S a w r=>wp_exit r⟩
 | .ret,_,s,e,s',c,p,h,n=>by
  cases h
  exact ⟨n,aj.still fun Q hp m S a w r=>wp_ret r⟩
 | .region id ops draw,hd,s,e,s',c,p,h,n=>by
  have hnt:∀ o ∈ ops.toList,∀ d,o.dst=some d→d<nt:=by
   intro o ho d Y
   have:=List.all_eq_true.1 hd o ho
   simp only [F9,Y] at this
   exact gm this
  obtain ⟨k,hr⟩:=I4 q i K hnt (id:=id) h n
  refine ⟨k,fun j=> ?_⟩
  obtain ⟨I,h2⟩:=hr j
  refine ⟨I,fun m0 S0 w0 m S w a f E Q A=> ?_⟩
  have:=h2 m S w a E Q
  rw [Array.toArray_toList] at this
  refine this ?_
  cases e with
  |normal=>
   intro V N G S' w' F D B
   obtain ⟨m2,u,C⟩:=nM (keep:=keep) (f.trans D) B
   rw [← N] at u C
   exact A m2 S' w' F u C
  | panic v=>
   simp only [oh]
   split
   ·rename_i hre
    intro V N G S' w' F cv D B u
    obtain ⟨m2,C,X⟩:=nM (keep:=keep) (f.trans D) B
    rw [← N] at C X
    exact A m2 S' w' F C X cv (iP _ (mg hre u))
   ·intro G S' w' F cv D B u
    exact A G S' w' F (f.trans D) B cv u
  |exit id=>trivial
  |ret=>trivial
 | .seq x y,hd,s,e,s',c,p,h,n=>by
  simp only [dX,Bool.and_eq_true] at hd
  simp only [kX] at h
  obtain ⟨⟨T,V⟩,O,I,h⟩:=R.bind_ok h
  dsimp only at h
  have hother:T ≠ .normal→R.ok (T,V) O=R.ok (e,s') p→c.Ok∧aj P ap h0 nt (.seq x y) s e s':=by
   intro M U
   cases U
   obtain ⟨k,L⟩:=fJ q i K x hd.1 _ _ _ _ _ I n
   refine ⟨k,fun j=> ?_⟩
   obtain ⟨D,B⟩:=L j
   refine ⟨D,fun m0 S0 w0 m S w a f E Q A=>wp_seq (B m0 S0 w0 m S w a f E _ ?_)⟩
   intro G S' w' F u C
   have:=A G S' w' F u C
   cases e with
   |normal=>exact absurd rfl M
   |exit id=>exact this
   |ret=>exact this
   |panic v=>exact this
  cases T with
  |normal=>
   dsimp only at h
   obtain ⟨J,ih⟩:=fJ q i K y hd.2 _ _ _ _ _ h n
   obtain ⟨k,L⟩:=fJ q i K x hd.1 _ _ _ _ _ I J
   refine ⟨k,fun j=> ?_⟩
   obtain ⟨D,B⟩:=L j
   obtain ⟨u,C⟩:=ih D
   refine ⟨u,fun m0 S0 w0 m S w a f E Q A=>wp_seq (B m0 S0 w0 m S w a f E _ ?_)⟩
   intro G S' w' F X h8
   exact C m0 S0 w0 G S' w' F X h8 Q A
  |exit id=>exact hother (by simp) h
  |ret=>exact hother (by simp) h
  |panic v=>exact hother (by simp) h
 | .cond t x y,hd,s,e,s',c,p,h,n=>by
  simp only [dX,Bool.and_eq_true] at hd
  simp only [kX] at h
  split at h
  ·rename_i bv Z
   obtain ⟨b',O,I,h⟩:=R.bind_ok h
   have key:∀ (z:Code),(O.Ok→O.Ok∧z=if bv then x else y)→O.Ok∧aj P ap h0 nt z s e s'→c.Ok∧aj P ap h0 nt (.cond t x y) s e s':=by
    rintro z hzz ⟨J,ih⟩
    obtain ⟨k,hb⟩:=lg I J
    refine ⟨k,fun j=> ?_⟩
    obtain ⟨u,C⟩:=ih j
    refine ⟨u,fun m0 S0 w0 m S w a f E Q A=>wp_cond (t:=bv) ?_ ?_⟩
    ·have:=wM E.srel (a:=a) (env:=s.env) t (fun t _=>E.env t)
     rw [Z] at this
     simpa only [VR,PR] using this
    ·rw [← (hzz J).2]
     exact C m0 S0 w0 m S w a f E Q A
   cases b' with
   |true=>exact key x (fun W=> ⟨W,by rw [← (lg I W).2];rfl⟩) (fJ q i K x hd.1 _ _ _ _ _ h n)
   |false=>exact key y (fun W=> ⟨W,by rw [← (lg I W).2];rfl⟩) (fJ q i K y hd.2 _ _ _ _ _ h n)
  ·cases h
 | .block id b,hd,s,e,s',c,p,h,n=>by
  simp only [dX] at hd
  simp only [kX] at h
  obtain ⟨⟨T,V⟩,O,I,h⟩:=R.bind_ok h
  dsimp only at h
  have hcc:O=p:=by
   cases T<;>dsimp only at h
   ·cases h;rfl
   ·split at h<;>cases h<;>rfl
   ·cases h;rfl
   ·cases h;rfl
  subst hcc
  obtain ⟨k,L⟩:=fJ q i K b hd _ _ _ _ _ I n
  refine ⟨k,fun j=> ?_⟩
  obtain ⟨D,B⟩:=L j
  have hs:V=s':=by
   cases T<;>dsimp only at h
   ·cases h;rfl
   ·split at h<;>cases h<;>rfl
   ·cases h;rfl
   ·cases h;rfl
  subst hs
  refine ⟨D,fun m0 S0 w0 m S w a f E Q A=>wp_block (B m0 S0 w0 m S w a f E _ ?_)⟩
  intro G S' w' F u C
  have r:=A G S' w' F u C
  cases T with
  |normal=>cases h;exact r
  |ret=>cases h;exact r
  |panic v=>cases h;exact r
  | exit id'=>
   dsimp only at h
   split at h
   ·rename_i U
    cases h
    show Exit.inBlock id Q (.exit id') F w'
    simp only [Exit.inBlock,if_pos (aO U)]
    exact r
   ·rename_i U
    cases h
    show Exit.inBlock id Q (.exit id') F w'
    have M:id' ≠ id:=by intro e;subst e;simp at U
    simp only [Exit.inBlock,if_neg M]
    exact r
 | .loop b,hd,s,e,s',c,p,h,n=>by
  simp only [dX] at hd
  simp only [kX] at h
  obtain ⟨k,L⟩:=Df (fun s e s' c p h n=>fJ q i K b hd s e s' c p h n) lf s e s' c p h n
  refine ⟨k,fun j=> ?_⟩
  obtain ⟨D,B⟩:=L j
  exact ⟨D,fun m0 S0 w0 m S w a f E Q A=>wp_loop_rounds lf (B m0 S0 w0 m S w a f E Q A)⟩
 | .scope b,hd,s,e,s',c,p,h,n=>by
  simp only [dX] at hd
  simp only [kX] at h
  obtain ⟨k,L⟩:=fJ q i K b hd _ _ _ _ _ h n
  refine ⟨k,fun j=> ?_⟩
  obtain ⟨D,B⟩:=L j
  refine ⟨D,fun m0 S0 w0 m S w a f E Q A=>wp_scope_straight (B m0 S0 w0 m S w a f E _ ?_)⟩
  intro G S' w' F u C
  have r:=A G S' w' F u C
  cases e with
  |normal=>exact r
  |exit id=>exact r
  |ret=>exact r
  |panic v=>exact r
 | .rangeFunc _ _ _ _,_,s,e,s',c,p,h,n=>by cases h
 | .goto _,_,s,e,s',c,p,h,n=>by cases h
 | .refuse _,_,s,e,s',c,p,h,n=>by cases h
end
end AM
