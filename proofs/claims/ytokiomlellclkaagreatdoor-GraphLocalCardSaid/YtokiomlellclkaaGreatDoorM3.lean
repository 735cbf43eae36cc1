/- The abstract machine over the code of the model, and the proof that it is sound. No conditions. -/
import Derived.Test.YtokiomlellclkaaGreatDoorM2
import Derived.Orders
import Derived.LoopN
import Derived.Scope
set_option linter.unusedSimpArgs false
set_option linter.unusedVariables false
namespace AM
open Go
def aC (h:List aJ):bD:=fun b=>h[b]?
def fF (gh gf:bD) (m:aF) (S:ay):Nat→List AV→List Value→Prop
 |_,[],[]=>True
 |n,.own _ k _::r,v::vs=>VR gf m S (.ref n 0 0 k) v∧fF gh gf m S (n+1) r vs
 |n,x::r,v::vs=>VR gh m S x v∧fF gh gf m S n r vs
 |_,_,_=>False
def qL (gh gf:bD) (m:aF) (S:ay) (n:Nat):AV→Value→Prop
 | .tup l,v=> ∃ vs,v= .tuple vs.toArray∧fF gh gf m S n l vs
 | .own _ k _,v=>VR gf m S (.ref n 0 0 k) v
 |x,v=>VR gh m S x v
def f_ (n:Nat):fP→List aJ
 | .ret v=>(gG n v).2
 | .pan _=> []
def NL (h':List aJ) (m':aF) (S':ay):fP→Ending→Prop
 | .ret v,e=> ∃ cv,e= .returned cv∧qL (aC h') (aC (h'++(gG h'.length v).2)) m' S' h'.length v cv
 | .pan v,e=> ∃ cv,e= .panicked [{v:=cv,recovered:=false}]∧VR (aC h') m' S' v cv
structure wG (ap:AP) (h:List aJ) (m:aF) (S:ay) (w:World) (out:fP) (h':List aJ) (m':aF) (S':ay) (w':World) (e:Ending):Prop where
 srel:aV ap (aC (h'++f_ h'.length out)) m' S' w'
 fr:Fr (aC h) m S w (aC (h'++f_ h'.length out)) m' S' w'
 out:NL h' m' S' out e
def nT (P:Program) (f:Nat):Prop:=∀ args w,(callFunc f args).run P w= .ok (.enter f args) w
structure ae (P:Program) (ap:AP) (f:Nat) (args:List AV) (h:List aJ) (out:fP) (h':List aJ):Prop where
 len:h.length≤h'.length
 ent:nT P f
 calls:∀ m S w cargs,aV ap (aC h) m S w→aO (aC h) m S args cargs→Calls P f cargs.toArray w fun e w'=> ∃ m' S',wG ap h m S w out h' m' S' w' e
def fC (P:Program) (ap:AP) (H:bg):Prop:=∀ c f args h out h' md' c',H c .dead f args h= .ok (out,h',md') c'→c'.Ok→c.Ok∧ae P ap f args h out h'
section
variable {P:Program} {ap:AP} {g:bD} {m:aF} {S:ay} {w:World}
mutual
theorem jF {m:aF} {S:ay}:∀ (x:AV) {v:Value},VR (aC []) m S x v→PR S x v
 | .int _ _,_,p=>by simpa only [VR] using p
 | .bool _,_,p=>by simpa only [VR] using p
 | .str _,_,p=>by simpa only [VR] using p
 | .nilS,_,p=>by simpa only [VR] using p
 | .nilP,_,p=>by simpa only [VR] using p
 | .raw _,_,p=>by simpa only [VR] using p
 | .nilF,_,p=>by simpa only [VR] using p
 | .nilI,_,p=>by simpa only [VR] using p
 | .sl _ _ _,_,p=>by simpa only [VR] using p
 | .pp _ _,_,p=>by simpa only [VR] using p
 | .mp _ _,_,p=>by simpa only [VR] using p
 | .dead,_,_=>by simp only [PR]
 | .own _ _ _,_,p=>by simp only [VR] at p
 | .ref _ _ _ _,_,p=>by simp [VR,aC] at p
 | .ptr _ _ _,_,p=>by simp [VR,aC] at p
 | .mr _ _,_,p=>by simp [VR,aC] at p
 | .agg l,_,p=>by
  simp only [VR] at p;simp only [PR]
  obtain ⟨vs,e,q⟩:=p
  exact ⟨vs,e,gQ l q⟩
 | .tup l,_,p=>by
  simp only [VR] at p;simp only [PR]
  obtain ⟨vs,e,q⟩:=p
  exact ⟨vs,e,gQ l q⟩
 | .fn f a c,_,p=>by
  simp only [VR] at p;simp only [PR]
  obtain ⟨d,b,e,q,r⟩:=p
  exact ⟨d,b,e,gQ a q,gQ c r⟩
 | .ifc t x,_,p=>by
  simp only [VR] at p;simp only [PR]
  obtain ⟨u,e,q⟩:=p
  exact ⟨u,e,jF x q⟩
theorem gQ {m:aF} {S:ay}:∀ (l:List AV) {vs:List Value},aO (aC []) m S l vs→aZ S l vs
 | [],[],_=>by simp only [aZ]
 |x::r,v::vs,p=>by simp only [aO] at p;simp only [aZ];exact ⟨jF x p.1,gQ r p.2⟩
 | [],_::_,p=>by simp [aO] at p
 |_::_,[],p=>by simp [aO] at p
end
theorem P7 (z:aV ap g m S w) {N p:bD} {W t:aF} {Sp S':ay} {w':World} (Q:aV ap p t S' w') (r:Fr N W Sp w p t S' w') (ι:Nat→Nat)
  (hdom:∀ i Bc,N i=some Bc→∃ B,g (ι i)=some B∧W i=m (ι i))
  (hSp:gy S Sp) (hSpN:∀ k o v,Sp k o=some v→S k o=some v∨∃ b B,g b=some B∧(m b).1=k) {gN:bD} {mN:aF} (ρ:Nat→Nat→Option (Nat × Nat)) (hρ:nH p t gN mN ρ)
  (hnew:∀ i Bc,p i=some Bc→∃ B,gN (ι i)=some B∧mN (ι i)=t i∧B.esz=Bc.esz∧B.fro=Bc.fro∧B.fz=Bc.fz∧B.pr=Bc.pr∧(Bc.pr=true→B.cells=Bc.cells)∧(Bc.pr=false→B.cells=jA ρ Bc.cells))
  (c:∀ b B,gN b=some B→(∃ i Bc,p i=some Bc∧b=ι i)∨(∃ B0,g b=some B0∧mN b=m b∧B.cells=B0.cells∧B.pr=B0.pr∧B.esz=B0.esz∧(B.fro=false→B.fz=0)∧B.fz≤B.cells.length∧(∀ i Bc,N i=some Bc→b ≠ ι i)∧(∀ o v,Sp (m b).1 o=some v→B.fro=true∧o<B.fz)))
  (hge:Ge g m gN mN):aV ap gN mN S' w'∧Fr g m S w gN mN S' w':=by
 have s:gy S S':=hSp.trans r.sle
 have hcross:∀ b B0 i Bc,g b=some B0→p i=some Bc→(∀ i Bc,N i=some Bc→b ≠ ι i)→(m b).1 ≠ (t i).1:=by
  intro b B0 i Bc n a l e
  have L:=z.lt n
  rcases r.img i Bc a with d|⟨B1,d,y⟩
  ·omega
  ·obtain ⟨B2,E,K⟩:=hdom i B1 d
   rw [K] at y
   exact l i B1 d (z.inj b (ι i) B0 B2 n E (e.trans y))
 constructor
 ·refine ⟨?_, ?_,Q.sealed, ?_,Q.glob⟩
  ·intro b Y B B' n X e
   rcases c b B n with ⟨i,Bi,a,rfl⟩|⟨B0,h0,d,_,_,_,_,_,y,_⟩<;>rcases c Y B' X with ⟨j,Bj,T,rfl⟩|⟨B0',R,O,_,_,_,_,_,Z,_⟩
   ·obtain ⟨_,_,x,_⟩:=hnew i Bi a
    obtain ⟨_,_,u,_⟩:=hnew j Bj T
    rw [x,u] at e
    rw [Q.inj i j Bi Bj a T e]
   ·obtain ⟨_,_,x,_⟩:=hnew i Bi a
    rw [x,O] at e
    exact absurd e.symm (hcross Y B0' i Bi R a Z)
   ·obtain ⟨_,_,u,_⟩:=hnew j Bj T
    rw [u,d] at e
    exact absurd e (hcross b B0 j Bj h0 T y)
   ·rw [d,O] at e
    exact z.inj b Y B0 B0' h0 R e
  ·intro b B n
   rcases c b B n with ⟨i,Bi,a,rfl⟩|⟨B0,h0,d,E,K,U,h6,h7,y,_⟩
   ·obtain ⟨B1,G,x,u,V,J,e5,e6,e7⟩:=hnew i Bi a
    rw [n] at G;cases G
    rw [x]
    obtain ⟨⟨cur,e,vs,rest,k1,k2,k3,k4,k5,k6⟩,k7,k8⟩:=Q.blk i Bi a
    cases hp:Bi.pr with
    |true=>
     have hcells:=e6 hp
     refine ⟨⟨cur,e,vs,rest,by rw [u];exact k1,k2,fun _=>by rw [hcells];exact k3 hp,by rw [hcells];exact aX _ (k3 hp),by rw [u];exact k5,by rw [u];exact k6⟩,by rw [V,J];exact k7,by rw [J,hcells];exact k8⟩
    |false=>
     have hcells:=e7 hp
     have A:=ig (gy.refl S') hρ _ k4
     have M:B.cells.length=Bi.cells.length:=by rw [aW k4,hcells,aW A]
     refine ⟨⟨cur,e,vs,rest,by rw [u];exact k1,k2,(fun h=>by rw [e5,hp] at h;cases h),by rw [hcells];exact A,by rw [u];exact k5,by rw [u];exact k6⟩,by rw [V,J];exact k7,by rw [J,M];exact k8⟩
   ·rw [d]
    have l:∀ i Bc,N i=some Bc→(W i).1 ≠ (m b).1:=by
     intro i Bc a e
     obtain ⟨B2,I,f⟩:=hdom i Bc a
     rw [f] at e
     exact y i Bc a (z.inj b (ι i) B0 B2 h0 I e.symm)
    obtain ⟨⟨cur,e,vs,rest,k1,k2,k3,k4,k5,k6⟩,k7,k8⟩:=z.blk b B0 h0
    refine ⟨⟨cur,e,vs,rest,by rw [U];exact k1.same (r.rest _ (z.lt h0) l),k2,fun hp=>by rw [E];rw [K] at hp;exact aP s _ (k3 hp),by rw [E];exact fU s hge _ k4,by rw [U];exact k5,by rw [U];exact k6⟩,h6,h7⟩
  ·intro b B n o v A
   rcases c b B n with ⟨i,Bi,a,rfl⟩|⟨B0,h0,d,E,K,U,h6,h7,y,I⟩
   ·obtain ⟨B1,G,x,u,V,J,e5,e6,e7⟩:=hnew i Bi a
    rw [n] at G;cases G
    rw [x] at A
    rw [V,J]
    exact Q.own i Bi a o v A
   ·rw [d] at A
    rcases r.sealN _ _ _ A with f|f|⟨i,Bi,a,f⟩
    ·exact I o v f
    ·have:=z.lt h0;omega
    ·obtain ⟨B2,F,C⟩:=hdom i Bi a
     rw [C] at f
     exact absurd (z.inj b (ι i) B0 B2 h0 F f.symm) (y i Bi a)
 ·refine ⟨hge,s,r.os,r.tape,r.output,r.size, ?_, ?_, ?_, ?_⟩
  ·intro k D l
   refine r.rest k D fun i Bc a e=> ?_
   obtain ⟨B2,I,f⟩:=hdom i Bc a
   exact l (ι i) B2 I (by rw [← f];exact e)
  ·intro b B n
   rcases c b B n with ⟨i,Bi,a,rfl⟩|⟨B0,h0,d,_⟩
   ·obtain ⟨B1,G,x,_⟩:=hnew i Bi a
    rw [x]
    rcases r.img i Bi a with d|⟨B2,d,y⟩
    ·exact .inl d
    ·obtain ⟨B3,E,K⟩:=hdom i B2 d
     exact .inr ⟨B3,E,by rw [y,K]⟩
   ·exact .inr ⟨B0,h0,by rw [d]⟩
  ·intro k o v A
   rcases r.sealN _ _ _ A with f|f|⟨i,Bi,a,f⟩
   ·rcases hSpN _ _ _ f with h|h
    ·exact .inl h
    ·exact .inr (.inr h)
   ·exact .inr (.inl f)
   ·obtain ⟨B2,F,C⟩:=hdom i Bi a
    exact .inr (.inr ⟨ι i,B2,F,by rw [← C];exact f⟩)
  ·intro b B n es clk D
   rcases c b B n with ⟨i,Bi,a,rfl⟩|⟨B0,h0,d,_,_,_,_,_,l,_⟩
   ·obtain ⟨B1,G,x,_⟩:=hnew i Bi a
    rw [x] at D ⊢
    exact r.mw i Bi a es clk D
   ·rw [d] at D ⊢
    have L:=z.lt h0
    have he:w'.heap[(m b).1]? =w.heap[(m b).1]? :=r.rest _ L fun i Bc a e=>by
     obtain ⟨B2,I,f⟩:=hdom i Bc a
     exact l i Bc a (z.inj b (ι i) B0 B2 h0 I (by rw [← f];exact e.symm))
    rw [he] at D
    exact .inl ⟨es,clk,D,fun q=>q⟩
structure Ah (F:AV→AV):Prop where
 own:∀ xs n e,F (.own xs n e)= .own xs n e
 tup:∀ l,F (.tup l)= .tup (l.map F)
 not:∀ x,(∀ xs n e,x ≠ .own xs n e)→(∀ xs n e,F x ≠ .own xs n e)
 notT:∀ x,(∀ l,x ≠ .tup l)→(∀ l,F x ≠ .tup l)
theorem bG (n:Nat) {x:AV} (h:∀ xs k e,x ≠ .own xs k e) (r:List AV):dS n (x::r)=(x::(dS n r).1,(dS n r).2):=by
 cases x<;>first|rfl|exact absurd rfl (h _ _ _)
theorem fJ (n:Nat) {x:AV} (h:∀ xs k e,x ≠ .own xs k e) (a:∀ l,x ≠ .tup l):gG n x=(x,[]):=by
 cases x<;>first|rfl|exact absurd rfl (h _ _ _)|exact absurd rfl (a _)
theorem bV {gh gf:bD} {n:Nat} {x:AV} (h:∀ xs k e,x ≠ .own xs k e) {r:List AV} {v:Value} {vs:List Value}:fF gh gf m S n (x::r) (v::vs)=(VR gh m S x v∧fF gh gf m S n r vs):=by
 cases x<;>first|rfl|exact absurd rfl (h _ _ _)
theorem iO {gh gf:bD} {n:Nat} {x:AV} (h:∀ xs k e,x ≠ .own xs k e) (a:∀ l,x ≠ .tup l) {v:Value}:qL gh gf m S n x v=VR gh m S x v:=by
 cases x<;>first|rfl|exact absurd rfl (h _ _ _)|exact absurd rfl (a _)
theorem iD (x:AV):(∃ xs k e,x= .own xs k e)∨(∀ xs k e,x ≠ .own xs k e):=by
 cases x<;>first|exact .inl ⟨_,_,_,rfl⟩|exact .inr (fun _ _ _ h=>by cases h)
theorem uZ (x:AV):(∃ l,x= .tup l)∨(∀ l,x ≠ .tup l):=by
 cases x<;>first|exact .inl ⟨_,rfl⟩|exact .inr (fun _ h=>by cases h)
theorem mV {F:AV→AV} (c:Ah F):∀ (l:List AV) (a b:Nat),(dS a (l.map F)).2=(dS b l).2
 | [],a,b=>rfl
 | x::r,a,b=>by
  rcases iD x with ⟨d,k,e,rfl⟩|hx
  ·simp only [List.map_cons,c.own,dS]
   rw [mV c r (a+1) (b+1)]
  ·rw [List.map_cons,bG a (c.not x hx),bG b hx]
   exact mV c r a b
theorem vZ {F:AV→AV} (c:Ah F) (x:AV) (a b:Nat):(gG a (F x)).2=(gG b x).2:=by
 rcases iD x with ⟨d,k,e,rfl⟩|hx
 ·rw [c.own];rfl
 ·rcases uZ x with ⟨l,rfl⟩|ht
  ·rw [c.tup]
   simp only [gG]
   exact mV c l a b
  ·rw [fJ a (c.not x hx) (c.notT x ht),fJ b hx ht]
theorem oJ {F:AV→AV} (a:Ah F) {gh gf gN:bD} {m mN:aF} {S:ay} {n nid:Nat} (c:∀ x v,VR gh m S x v→VR gN mN S (F x) v) (b:∀ i k v,VR gf m S (.ref (n+i) 0 0 k) v→VR gN mN S (.ref (nid+i) 0 0 k) v):
  ∀ (l:List AV) (vs:List Value) (j:Nat),fF gh gf m S (n+j) l vs→aO gN mN S (dS (nid+j) (l.map F)).1 vs
 | [],[],j,_=>by simp [dS,aO]
 | x::r,v::vs,j,h=>by
  rcases iD x with ⟨d,k,e,rfl⟩|hxo
  ·simp only [fF] at h
   simp only [List.map_cons,a.own,dS,aO]
   exact ⟨b j k v h.1,by have:=oJ a c b r vs (j+1);rw [← Nat.add_assoc,← Nat.add_assoc] at this;exact this h.2⟩
  ·rw [bV hxo] at h
   rw [List.map_cons,bG _ (a.not x hxo)]
   simp only [aO]
   exact ⟨c x v h.1,oJ a c b r vs j h.2⟩
 | [],_::_,_,h=>by simp [fF] at h
 |x::r,[],_,h=>by cases x<;>simp [fF] at h
theorem zo {F:AV→AV} (a:Ah F) {gh gf gN:bD} {m mN:aF} {S:ay} {n nid:Nat} (c:∀ x v,VR gh m S x v→VR gN mN S (F x) v) (b:∀ i k v,VR gf m S (.ref (n+i) 0 0 k) v→VR gN mN S (.ref (nid+i) 0 0 k) v)
  {x:AV} {v:Value} (h:qL gh gf m S n x v):VR gN mN S (gG nid (F x)).1 v:=by
 rcases iD x with ⟨d,k,e,rfl⟩|hxo
 ·simp only [qL] at h
  rw [a.own]
  exact b 0 k v h
 ·rcases uZ x with ⟨l,rfl⟩|ht
  ·simp only [qL] at h
   obtain ⟨vs,e,h⟩:=h
   rw [a.tup]
   simp only [gG,VR]
   exact ⟨vs,e,oJ a c b l vs 0 h⟩
  ·rw [iO hxo ht] at h
   rw [fJ _ (a.not x hxo) (a.notT x ht)]
   exact c x v h
theorem Eg:Ah id:=⟨fun _ _ _=>rfl,fun l=>by simp,fun _ h=>h,fun _ h=>h⟩
theorem EF (ρ:Nat→Nat→Option (Nat × Nat)):∀ l,jA ρ l=l.map (ren ρ)
 | []=>rfl
 |x::r=>by simp [jA,EF ρ r]
theorem AY (ρ:Nat→Nat→Option (Nat × Nat)):Ah (ren ρ):=by
 refine ⟨fun _ _ _=>rfl,fun l=>by simp [ren,EF], ?_, ?_⟩
 ·intro x h b n e a
  cases x<;>simp only [ren] at a<;>first
   |(cases a;done)
   |(split at a<;>cases a;done)
   |exact h _ _ _ rfl
 ·intro x h l a
  cases x<;>simp only [ren] at a<;>first
   |(cases a;done)
   |(split at a<;>cases a;done)
   |exact h _ rfl
theorem uC:∀ (bs:List aJ) (n b:Nat),ai (yT n bs) b=if n≤b then bs[b - n]? else none
 | [],n,b=>by simp [yT,ai]
 | B::r,n,b=>by
  simp only [yT,ai]
  cases h:Nat.beq n b with
  |true=>
   have:=az h
   subst this
   simp
  | false=>
   have a:n ≠ b:=by intro e;subst e;simp at h
   rw [uC r (n+1) b]
   by_cases hle:n≤b
   ·rw [if_pos hle,if_pos (show n+1≤b by omega)]
    obtain ⟨d,c⟩:∃ d,b - n=d+1:=⟨b - n - 1,by omega⟩
    rw [c,List.getElem?_cons_succ,show b - (n+1)=d by omega]
   ·rw [if_neg hle,if_neg (show ¬ n+1≤b by omega)]
theorem Bd {rd:bD} {mk:aJ→aJ}:∀ (fp:List Nat) (b:Nat),ai (fp.filterMap fun b=>(rd b).map fun B=>(b,mk B)) b=if b ∈ fp then (rd b).map mk else none
 | [],b=>by simp [ai]
 | a::r,b=>by
  have f:=Bd (rd:=rd) (mk:=mk) r b
  cases c:rd a with
  |none=>
   rw [List.filterMap_cons_none (by simp [c]),f]
   by_cases hab:b=a
   ·subst hab;simp [c]
   ·simp [hab]
  | some B=>
   rw [List.filterMap_cons_some (by simp [c];rfl)]
   simp only [ai]
   cases h:Nat.beq a b with
   |true=>have:=az h;subst this;simp [c]
   |false=>
    have d:b ≠ a:=by intro e;subst e;simp at h
    simp only [f,List.mem_cons,d,false_or]
end
end AM
namespace AM
open Go
def Rw (g:bD) (m:aF) (S:ay):fP→Ending→Prop
 | .ret v,e=> ∃ cv,e= .returned cv∧VR g m S v cv
 | .pan v,e=> ∃ cv,e= .panicked [{v:=cv,recovered:=false}]∧VR g m S v cv
def NJ (ap:AP) (g:bD) (m:aF) (S:ay) (w:World) (out:fP) (ups:List (Nat × aJ)) (e:Ending) (w':World):Prop:=
 ∃ m' S',aV ap (bi g ups) m' S' w'∧Fr g m S w (bi g ups) m' S' w'∧Rw (bi g ups) m' S' out e
theorem dD {h a:List aJ} {b:Nat} (c:b<h.length):aC (h++a) b=aC h b:=by
 simp [aC,List.getElem?_append_left c]
theorem fH {h a:List aJ} {b:Nat} (c:h.length≤b):aC (h++a) b=aC a (b - h.length):=by
 simp [aC,List.getElem?_append_right c]
def lZ (l:List aJ):Prop:=∀ B ∈ l,B.pr=true∧B.fro=false∧B.ver=0
theorem mW:∀ (l:List AV) (n:Nat),lZ (dS n l).2
 | [],n=>by simp [dS,lZ]
 | x::r,n=>by
  rcases iD x with ⟨b,k,e,rfl⟩|hx
  ·simp only [dS]
   intro B a
   rcases List.mem_cons.1 a with rfl|a
   ·exact ⟨rfl,rfl,rfl⟩
   ·exact mW r (n+1) B a
  ·rw [bG n hx];exact mW r n
theorem ED (x:AV) (n:Nat):lZ (gG n x).2:=by
 rcases iD x with ⟨b,k,e,rfl⟩|hx
 ·intro B a
  simp [gG] at a
  subst a
  exact ⟨rfl,rfl,rfl⟩
 ·rcases uZ x with ⟨l,rfl⟩|ht
  ·simp only [gG];exact mW l n
  ·rw [fJ n hx ht];simp [lZ]
theorem vX (o:fP) (n:Nat):lZ (f_ n o):=by
 cases o with
 |ret v=>exact ED v n
 |pan v=>simp [f_,lZ]
section
variable {P:Program} {ap:AP} {g:bD} {m:aF} {S:ay} {w:World}
def CW (nid:Nat) (F:AV→AV):fP→fP
 | .ret v=> .ret (gG nid (F v)).1
 | .pan v=> .pan (F v)
theorem vF (p:aV ap g m S w) {rd:bD} (j:∀ b B,rd b=some B→g b=some B) {K:List Nat} (O:∀ b B,rd b=some B→b ∈ K) {nid:Nat} {args args':List AV} {cargs:List Value} {out:fP}
  (ha:eH (frz rd 6) args=some args') (hv:aO g m S args cargs) {C:List Value→(Ending→World→Prop)→Prop} (hmono:∀ cargs R R',C cargs R→(∀ e w',R e w'→R' e w')→C cargs R')
  (f:∀ m1 S1,gy S S1→aV ap (aC []) m1 S1 w→aO (aC []) m1 S1 args' cargs→C cargs fun e w'=> ∃ m' S',wG ap [] m1 S1 w out [] m' S' w' e) (hfr:∀ i,i<(f_ 0 out).length→g (nid+i)=none):
  C cargs fun e w'=>NJ ap g m S w (CW nid id out) (yT nid (f_ 0 out)++K.filterMap fun b=>(rd b).map fun B=>(b,{B with fro:=true,fz:=B.cells.length})) e w':=by
 have L:aZ (bI S m rd w) args' cargs:=nU (fun x v y a d=>gW p j 6 x v y a d) ha hv
 have s:=iW S m rd w
 let m0:aF:=fun _=>(0,0)
 have U:aV ap (aC []) m0 (bI S m rd w) w:=by
  refine ⟨fun b b' B B' h=>by simp [aC] at h,fun b B h=>by simp [aC] at h,fun k o v h=>jg p h,fun b B h=>by simp [aC] at h, ?_⟩
  intro k xs hk
  obtain ⟨vs,a,d⟩:=p.glob k xs hk
  exact ⟨vs,aP s _ a,d.mono s⟩
 refine hmono _ _ _ (f m0 (bI S m rd w) s U (aX _ L)) ?_
 rintro e w' ⟨m',S',hF⟩
 obtain ⟨z,q,r⟩:=hF
 simp only [List.nil_append,List.length_nil] at z q r
 generalize F:f_ 0 out=bs at z q hfr
 have G:lZ bs:=F ▸ vX out 0
 let gN:bD:=bi g (yT nid bs++K.filterMap fun b=>(rd b).map fun B=>(b,{B with fro:=true,fz:=B.cells.length}))
 let mN:aF:=fun b=>if nid≤b∧b - nid<bs.length then m' (b - nid) else m b
 have u:∀ b,gN b=if nid≤b∧b - nid<bs.length then bs[b - nid]? else match rd b with|some B=>some {B with fro:=true,fz:=B.cells.length}|none=>g b:=by
  intro b
  show bi g _ b=_
  unfold bi
  have Y:∀ mk:aJ→aJ,(if b ∈ K then (rd b).map mk else none)=(rd b).map mk:=by
   intro mk
   split
   ·rfl
   ·rename_i c
    cases l:rd b with
    |none=>rfl
    |some B=>exact absurd (O b B l) c
  rw [dX,uC,Bd,Y]
  by_cases a:nid≤b
  ·by_cases d:b - nid<bs.length
   ·have f:nid≤b∧b - nid<bs.length:=⟨a,d⟩
    rw [if_pos a,if_pos f,List.getElem?_eq_getElem d]
   ·have f:¬ (nid≤b∧b - nid<bs.length):=fun h=>d h.2
    rw [if_pos a,if_neg f,List.getElem?_eq_none (Nat.le_of_not_lt d)]
    cases rd b<;>rfl
  ·have f:¬ (nid≤b∧b - nid<bs.length):=fun h=>a h.1
   rw [if_neg a,if_neg f]
   cases rd b<;>rfl
 have hnidg:∀ b B,g b=some B→¬ (nid≤b∧b - nid<bs.length):=by
  rintro b B c ⟨a,d⟩
  have:=hfr (b - nid) d
  rw [show nid+(b - nid)=b by omega,c] at this
  cases this
 have V:Ge g m gN mN:=by
  intro b B c
  have hn:=hnidg b B c
  have hm:mN b=m b:=if_neg hn
  rw [u,if_neg hn]
  cases l:rd b with
  |none=>exact ⟨B,c,rfl,.inl ⟨rfl,hm⟩⟩
  |some B1=>
   have:=j b B1 l
   rw [c] at this;cases this
   exact ⟨_,rfl,rfl,.inl ⟨rfl,hm⟩⟩
 have A:∀ i B,bs[i]? =some B→gN (nid+i)=some B∧mN (nid+i)=m' i:=by
  intro i B J
  have hl:=(List.getElem?_eq_some_iff.1 J).1
  have f:nid≤nid+i∧nid+i - nid<bs.length:=by omega
  refine ⟨by rw [u,if_pos f,show nid+i - nid=i by omega];exact J, ?_⟩
  show (if _ then _ else _)=_
  rw [if_pos f,show nid+i - nid=i by omega]
 obtain ⟨M,T⟩:=P7 (g:=g) (m:=m) (S:=S) (w:=w) p z q (fun i=>nid+i) (fun i Bc h=>by simp [aC] at h) s
  (fun k o v h=>(dM h).imp id fun ⟨_,b,B,a,d,_⟩=> ⟨b,B,j b B a,d⟩) (gN:=gN) (mN:=mN) (fun i v=>some (nid+i,v))
  (by
   intro b ver b' Z h B hB E
   simp only [Option.some.injEq,Prod.mk.injEq] at h
   obtain ⟨rfl,rfl⟩:=h
   obtain ⟨a,d⟩:=A b B hB
   exact ⟨B,a,E,fun e=> ⟨e,d,rfl⟩⟩)
  (by
   intro i Bc J
   obtain ⟨a,d⟩:=A i Bc J
   exact ⟨Bc,a,d,rfl,rfl,rfl,rfl,fun _=>rfl,fun hp=>by rw [(G Bc (List.mem_of_getElem? J)).1] at hp;cases hp⟩)
  (by
   intro b B c
   by_cases f:nid≤b∧b - nid<bs.length
   ·rw [u,if_pos f] at c
    exact .inl ⟨b - nid,B,c,by omega⟩
   ·have hm:mN b=m b:=if_neg f
    rw [u,if_neg f] at c
    right
    cases l:rd b with
    | none=>
     rw [l] at c
     have c:g b=some B:=c
     refine ⟨B,c,hm,rfl,rfl,rfl,(p.blk b B c).fz0,(p.blk b B c).fzle,(fun i Bc h=>by simp [aC] at h), ?_⟩
     intro o v W
     rcases dM W with h|⟨_,Q,B1,a,d,_⟩
     ·exact p.own b B c o v h
     ·have:=p.inj Q b B1 B (j _ _ a) c d
      subst this
      rw [a] at l;cases l
    | some B1=>
     rw [l] at c
     have c:some {B1 with fro:=true,fz:=B1.cells.length}=some B:=c
     cases c
     have t:=j b B1 l
     refine ⟨B1,t,hm,rfl,rfl,rfl,(fun h=>by cases h),Nat.le_refl _,(fun i Bc h=>by simp [aC] at h), ?_⟩
     intro o v W
     refine ⟨rfl, ?_⟩
     rcases dM W with h|⟨_,Q,B2,a,d,X⟩
     ·exact Nat.lt_of_lt_of_le (p.own b B1 t o v h).2 (p.blk b B1 t).fzle
     ·have:=p.inj Q b B2 B1 (j _ _ a) t d
      subst this
      rw [a] at l;cases l
      exact X)
  V
 refine ⟨mN,S',M,T, ?_⟩
 show Rw gN mN S' (CW nid id out) e
 cases out with
 |ret v=>
  obtain ⟨cv,N,a⟩:=r
  refine ⟨cv,N, ?_⟩
  have D:(gG 0 v).2=bs:=F
  simp only [List.length_nil,List.nil_append,D] at a
  refine zo (n:=0) Eg (fun x v I=>dG x (jF x I)) ?_ a
  intro i k v I
  rw [Nat.zero_add] at I
  simp only [VR] at I ⊢
  obtain ⟨B,d,X,h4,h5⟩:=I
  obtain ⟨h6,h7⟩:=A i B d
  exact ⟨B,h6,X,h4,by rw [h7];exact h5⟩
 |pan v=>
  obtain ⟨cv,N,a⟩:=r
  exact ⟨cv,N,dG _ (jF _ a)⟩
end
end AM
namespace AM
open Go
theorem Es {b:Nat} {r:List Nat} (h:mO (b::r)=true):b ∉ r∧mO r=true:=by
 simp only [mO,Bool.and_eq_true,Bool.not_eq_true'] at h
 refine ⟨fun a=> ?_,h.2⟩
 rw [eX.2 a] at h
 cases h.1
theorem lL:∀ {l:List Nat} {b p:Nat},kX l b=some p→l[p]? =some b
 | [],b,p,h=>by simp [kX] at h
 | c::r,b,p,h=>by
  simp only [kX] at h
  split at h
  ·rename_i a;cases h;rw [az a];rfl
  ·simp only [Option.map_eq_some_iff] at h
   obtain ⟨q,d,rfl⟩:=h
   simpa using lL d
theorem kQ:∀ {l:List Nat} {b p:Nat},mO l=true→l[p]? =some b→kX l b=some p
 | [],b,p,_,h=>by simp at h
 |c::r,b,0,hn,h=>by simp at h;subst h;simp [kX]
 | c::r,b,p+1,hn,h=>by
  obtain ⟨f,e⟩:=Es hn
  have h:r[p]? =some b:=by simpa using h
  have a:Nat.beq c b=false:=by
   cases d:Nat.beq c b with
   |false=>rfl
   |true=>exact absurd (az d ▸ List.mem_of_getElem? h) f
  simp [kX,a,kQ e h]
theorem En {mk:Nat→aJ→aJ}:∀ (fp:List Nat) (h':List aJ) (b:Nat),ai ((E_ fp h').map fun (b,B)=>(b,mk b B)) b=(kX fp b).bind fun p=>(h'[p]?).map (mk b)
 | [],h',b=>by cases h'<;>simp [E_,ai,kX]
 |a::r,[],b=>by
  simp only [E_,List.map_nil,ai,kX]
  cases Nat.beq a b with
  |true=>rfl
  |false=>cases kX r b<;>rfl
 | a::r,B::q,b=>by
  simp only [E_,List.map_cons,ai,kX]
  cases h:Nat.beq a b with
  |true=>have:=az h;subst this;rfl
  |false=>
   simp only [En r q b]
   cases kX r b<;>simp
section
variable {P:Program} {ap:AP} {g:bD} {m:aF} {S:ay} {w:World}
def Du (ρ:Nat→Nat→Option (Nat × Nat)) (B:aJ):aJ:={B with cells:=(match B.pr with|true=>B.cells|false=>jA ρ B.cells),ver:=0}
theorem ar1 {a b n i:Nat} (h:b≤a):n+(a+i - b)=n+(a - b)+i:=by omega
theorem ar2 {a b i:Nat} (h:b≤a):b+(a+i - b)=a+i:=by omega
theorem NU {ρ:Nat→Nat→Option (Nat × Nat)} {l:List aJ} (h:lZ l):l.map (wI ρ 0)=l:=by
 induction l with
 |nil=>rfl
 |cons B r ih=>
  rw [List.map_cons,ih fun B d=>h B (by simp [d])]
  obtain ⟨b,_,a⟩:=h B (by simp)
  obtain ⟨c,v,f,z,e,p⟩:=B
  simp only at b a
  subst b a
  rfl
theorem vG (L:aV ap g m S w) {rd:bD} (hrd:∀ b B,rd b=some B→g b=some B) {a:List Nat} {N:List aJ} (hbl:eH rd a=some N) (F:mO a=true) {nid:Nat} {args:List AV} {cargs:List Value} {out:fP}
  {vers:Nat→Nat} (hvers:∀ b B,rd b=some B→vers b=B.ver) {ρ ρ':Nat→Nat→Option (Nat × Nat)} (hρe:∀ b v,ρ b v=match Nat.beq v (vers b) with|true=>(kX a b).map fun p=>(p,0)|false=>none)
  {h':List aJ} (hρe':ρ'=Gz nid a vers h'.length)
  (hv:aO g m S args cargs) {C:List Value→(Ending→World→Prop)→Prop} (hmono:∀ cargs R R',C cargs R→(∀ e w',R e w'→R' e w')→C cargs R')
  (t:∀ m1 S1,gy S S1→aV ap (aC (N.map (Du ρ))) m1 S1 w→aO (aC (N.map (Du ρ))) m1 S1 (jA ρ args) cargs→C cargs fun e w'=> ∃ m' S',wG ap (N.map (Du ρ)) m1 S1 w out h' m' S' w' e) (hl:a.length≤h'.length) (hfr:∀ i,i<(h'.length - a.length)+(f_ h'.length out).length→g (nid+i)=none):
  C cargs fun e w'=>NJ ap g m S w (CW (nid+(h'.length - a.length)) (ren ρ') out) (yT nid ((h'.drop a.length).map (wI ρ' 0)++f_ h'.length out)++(E_ a h').map fun (b,B)=>(b,wI ρ' (vers b) B)) e w':=by
 have s:∀ p b,a[p]? =some b→∃ B,rd b=some B∧g b=some B∧aC (N.map (Du ρ)) p=some (Du ρ B):=by
  intro p b hp
  obtain ⟨B,c,d⟩:=(dQ hbl).2 p b hp
  exact ⟨B,d,hrd b B d,by simp [aC,c]⟩
 have y:∀ p Bc,aC (N.map (Du ρ)) p=some Bc→∃ b B,a[p]? =some b∧rd b=some B∧g b=some B∧Bc=Du ρ B:=by
  intro p Bc hp
  have u:p<a.length:=by
   have:=(List.getElem?_eq_some_iff.1 hp).1
   rw [List.length_map,(dQ hbl).1] at this
   exact this
  obtain ⟨B,c,d,f⟩:=s p _ (List.getElem?_eq_getElem u)
  rw [f] at hp;cases hp
  exact ⟨_,B,List.getElem?_eq_getElem u,c,d,rfl⟩
 let mc:aF:=fun p=>m (a.getD p 0)
 have l:∀ p b,a[p]? =some b→mc p=m b:=by
  intro p b hp
  show m (a.getD p 0)=_
  rw [List.getD_eq_getElem?_getD,hp];rfl
 have M:nH g m (aC (N.map (Du ρ))) mc ρ:=by
  intro b ver Y D h B K E
  rw [hρe] at h
  split at h
  ·rename_i hve
   simp only [Option.map_eq_some_iff,Prod.mk.injEq] at h
   obtain ⟨p,hp,rfl,rfl⟩:=h
   have hp:=lL hp
   obtain ⟨B1,c,d,f⟩:=s p b hp
   rw [d] at K;cases K
   exact ⟨_,f,Nat.zero_le _,fun _=> ⟨by rw [az hve,hvers b _ c],l p b hp,rfl⟩⟩
  ·cases h
 have hSc:aV ap (aC (N.map (Du ρ))) mc S w:=by
  refine ⟨?_, ?_,L.sealed, ?_,L.glob⟩
  ·intro p q Bp Bq hp hq e
   obtain ⟨b,B,c,d,f,_⟩:=y p Bp hp
   obtain ⟨Y,B',h1',h2',h3',_⟩:=y q Bq hq
   rw [l p b c,l q Y h1'] at e
   have:=L.inj b Y B B' f h3' e
   subst this
   have X:=kQ F c
   rw [kQ F h1'] at X
   cases X;rfl
  ·intro p Bp hp
   obtain ⟨b,B,c,d,f,rfl⟩:=y p Bp hp
   rw [l p b c]
   obtain ⟨⟨cur,e,vs,rest,k1,k2,k3,k4,k5,k6⟩,k7,k8⟩:=L.blk b B f
   cases hp:B.pr with
   |true=>exact ⟨⟨cur,e,vs,rest,k1,k2,fun _=>by simpa [Du,hp] using k3 hp,by simpa [Du,hp] using aX _ (k3 hp),k5,k6⟩,k7,by simpa [Du,hp] using k8⟩
   | false=>
    have hv:=ig (gy.refl S) M _ k4
    exact ⟨⟨cur,e,vs,rest,k1,k2,fun h=>by simp [Du,hp] at h,by simpa [Du,hp] using hv,k5,k6⟩,k7,by
     have:(Du ρ B).cells.length=B.cells.length:=by simp only [Du,hp];rw [aW k4,aW hv]
     rw [this];exact k8⟩
  ·intro p Bp hp o v ho
   obtain ⟨b,B,c,d,f,rfl⟩:=y p Bp hp
   rw [l p b c] at ho
   exact L.own b B f o v ho
 refine hmono _ _ _ (t mc S (gy.refl S) hSc (ig (gy.refl S) M _ hv)) ?_
 rintro e w' ⟨m',S',hF⟩
 obtain ⟨hsr,J,O⟩:=hF
 generalize hbs:f_ h'.length out=bs0 at hsr J hfr
 have hown:lZ bs0:=hbs ▸ vX out h'.length
 obtain ⟨bs,G⟩:∃ bs,bs=h'.drop a.length++bs0:=⟨_,rfl⟩
 have hbsl:bs.length=(h'.length - a.length)+bs0.length:=by rw [G,List.length_append,List.length_drop]
 rw [← hbsl] at hfr
 let ups:=(E_ a h').map fun (b,B)=>(b,wI ρ' (vers b) B)
 rw [show (h'.drop a.length).map (wI ρ' 0)++bs0=bs.map (wI ρ' 0) by rw [G,List.map_append,NU hown]]
 let gN:bD:=bi g (yT nid (bs.map (wI ρ' 0))++ups)
 let mN:aF:=fun b=>if nid≤b∧b - nid<bs.length then m' (a.length+(b - nid)) else match kX a b with|some p=>m' p|none=>m b
 have I:∀ b,gN b=if nid≤b∧b - nid<bs.length then (bs[b - nid]?).map (wI ρ' 0) else match (kX a b).bind fun p=>(h'[p]?).map (wI ρ' (vers b)) with|some B=>some B|none=>g b:=by
  intro b
  show bi g _ b=_
  unfold bi
  rw [dX,uC,En (mk:=fun b B=>wI ρ' (vers b) B)]
  by_cases c:nid≤b
  ·by_cases d:b - nid<bs.length
   ·have t:nid≤b∧b - nid<bs.length:=⟨c,d⟩
    rw [if_pos c,if_pos t,List.getElem?_map,List.getElem?_eq_getElem d]
    rfl
   ·have t:¬ (nid≤b∧b - nid<bs.length):=fun h=>d h.2
    rw [if_pos c,if_neg t,List.getElem?_map,List.getElem?_eq_none (Nat.le_of_not_lt d)]
    rfl
  ·have t:¬ (nid≤b∧b - nid<bs.length):=fun h=>c h.1
   rw [if_neg c,if_neg t]
   rfl
 have hnidg:∀ b B,g b=some B→¬ (nid≤b∧b - nid<bs.length):=by
  rintro b B j ⟨c,d⟩
  have:=hfr (b - nid) d
  rw [show nid+(b - nid)=b by omega,j] at this
  cases this
 have hh':∀ p,p<a.length→∃ B,h'[p]? =some B:=fun p hp=> ⟨_,List.getElem?_eq_getElem (by omega)⟩
 have V:∀ p b,a[p]? =some b→∀ Bc,h'[p]? =some Bc→gN b=some (wI ρ' (vers b) Bc)∧mN b=m' p:=by
  intro p b hp Bc K
  obtain ⟨B,c,d,f⟩:=s p b hp
  have hn:=hnidg b B d
  refine ⟨by rw [I,if_neg hn,kQ F hp];simp [K], ?_⟩
  show (if _ then _ else _)=_
  rw [if_neg hn,kQ F hp]
 have T:∀ i B,bs[i]? =some B→gN (nid+i)=some (wI ρ' 0 B)∧mN (nid+i)=m' (a.length+i):=by
  intro i B A
  have hl:=(List.getElem?_eq_some_iff.1 A).1
  have t:nid≤nid+i∧nid+i - nid<bs.length:=by omega
  refine ⟨by rw [I,if_pos t,show nid+i - nid=i by omega,A];rfl, ?_⟩
  show (if _ then _ else _)=_
  rw [if_pos t,show nid+i - nid=i by omega]
 have U:∀ p,a.length≤p→aC (h'++bs0) p=bs[p - a.length]? :=by
  intro p hp
  have he:h'++bs0=h'.take a.length++bs:=by rw [G,← List.append_assoc,List.take_append_drop]
  have u:(h'.take a.length).length=a.length:=by rw [List.length_take];omega
  rw [he,fH (by omega),u]
  rfl
 have r:∀ p Bc,aC (h'++bs0) p=some Bc→(p<a.length∧h'[p]? =some Bc)∨(a.length≤p∧bs[p - a.length]? =some Bc):=by
  intro p Bc h
  by_cases hp:p<a.length
  ·rw [dD (by omega)] at h;exact .inl ⟨hp,h⟩
  ·rw [U p (by omega)] at h;exact .inr ⟨by omega,h⟩
 have hren':nH (aC (h'++bs0)) m' gN mN ρ':=by
  intro p ver Y D h Bc K E
  rw [hρe'] at h
  unfold Gz at h
  split at h
  ·rename_i b hp
   cases h
   rcases r p Bc K with ⟨c,d⟩|⟨c,_⟩
   ·obtain ⟨f,z⟩:=V p _ hp Bc d
    exact ⟨_,f,by simp only [wI];omega,fun e=> ⟨by simp only [wI] at e;omega,z,rfl⟩⟩
   ·have:=(List.getElem?_eq_some_iff.1 hp).1;omega
  ·rename_i hp
   split at h
   ·cases h
    have hge:=List.getElem?_eq_none_iff.1 hp
    rcases r p Bc K with ⟨c,_⟩|⟨c,d⟩
    ·omega
    ·obtain ⟨f,z⟩:=T _ Bc d
     exact ⟨_,f,by simp only [wI];omega,fun e=> ⟨by simp only [wI] at e;omega,by rw [z,show a.length+(p - a.length)=p by omega],rfl⟩⟩
   ·cases h
 have hge:Ge g m gN mN:=by
  intro b B j
  have hn:=hnidg b B j
  cases A:kX a b with
  | none=>
   have hm:mN b=m b:=by
    show (if _ then _ else _)=_
    rw [if_neg hn,A]
   refine ⟨B, ?_,rfl,.inl ⟨rfl,hm⟩⟩
   rw [I,if_neg hn,A];exact j
  | some p=>
   have hp:=lL A
   obtain ⟨B1,c,d,f⟩:=s p b hp
   rw [d] at j;cases j
   obtain ⟨Bc,z,h5,Q⟩:=J.ge p _ f
   rcases r p Bc z with ⟨_,W⟩|⟨W,_⟩
   ·obtain ⟨h8,h9⟩:=V p b hp Bc W
    refine ⟨_,h8,h5, ?_⟩
    rcases Q with ⟨Q,h6'⟩|Q
    ·left
     refine ⟨?_,by rw [h9,h6',l p b hp]⟩
     simp only [wI,Du] at Q ⊢
     rw [hvers b _ c];omega
    ·right
     simp only [wI,Du] at Q ⊢
     rw [hvers b _ c];omega
   ·have:=(List.getElem?_eq_some_iff.1 hp).1;omega
 let ι:Nat→Nat:=fun p=>if p<a.length then a.getD p 0 else nid+(p - a.length)
 have hι:∀ p b,a[p]? =some b→ι p=b:=by
  intro p b hp
  show (if _ then _ else _)=_
  rw [if_pos (List.getElem?_eq_some_iff.1 hp).1,List.getD_eq_getElem?_getD,hp];rfl
 have hι':∀ i,ι (a.length+i)=nid+i:=by
  intro i
  show (if _ then _ else _)=_
  rw [if_neg (by omega)];congr 1;omega
 obtain ⟨hsN,hfN⟩:=P7 (g:=g) (m:=m) (S:=S) (w:=w) L hsr J ι
  (by
   intro p Bc hp
   obtain ⟨b,B,c,d,f,rfl⟩:=y p Bc hp
   rw [hι p b c]
   exact ⟨B,f,l p b c⟩) (gy.refl S) (fun k o v h=> .inl h) (gN:=gN) (mN:=mN) ρ' hren'
  (by
   intro p Bc hp
   rcases r p Bc hp with ⟨c,d⟩|⟨c,d⟩
   ·have hp:=List.getElem?_eq_getElem c
    obtain ⟨f,z⟩:=V p _ hp Bc d
    rw [hι p _ hp]
    exact ⟨_,f,z,rfl,rfl,rfl,rfl,fun h=>by simp [wI,h],fun h=>by simp [wI,h]⟩
   ·obtain ⟨i,rfl⟩:∃ i,p=a.length+i:=⟨p - a.length,by omega⟩
    rw [show a.length+i - a.length=i by omega] at d
    obtain ⟨f,z⟩:=T i Bc d
    rw [hι' i]
    exact ⟨_,f,z,rfl,rfl,rfl,rfl,fun h=>by simp [wI,h],fun h=>by simp [wI,h]⟩)
  (by
   intro b B j
   by_cases t:nid≤b∧b - nid<bs.length
   ·rw [I,if_pos t,Option.map_eq_some_iff] at j
    obtain ⟨Bc,j,_⟩:=j
    refine .inl ⟨a.length+(b - nid),Bc, ?_,by rw [hι'];omega⟩
    rw [U _ (by omega),show a.length+(b - nid) - a.length=b - nid by omega];exact j
   ·rw [I,if_neg t] at j
    cases A:kX a b with
    |some p=>
     have hp:=lL A
     have u:=(List.getElem?_eq_some_iff.1 hp).1
     obtain ⟨Bc,z⟩:=hh' p u
     exact .inl ⟨p,Bc,by rw [dD (by omega)];exact z,(hι p b hp).symm⟩
    | none=>
     have hm:mN b=m b:=by
      show (if _ then _ else _)=_
      rw [if_neg t,A]
     rw [A] at j
     have j:g b=some B:=j
     refine .inr ⟨B,j,hm,rfl,rfl,rfl,(L.blk b B j).fz0,(L.blk b B j).fzle, ?_,fun o v ho=>L.own b B j o v ho⟩
     intro p Bc hp e
     obtain ⟨b1,B1,c,_⟩:=y p Bc hp
     rw [hι p b1 c] at e
     subst e
     rw [kQ F c] at A;cases A)
  hge
 refine ⟨mN,S',hsN,hfN, ?_⟩
 show Rw gN mN S' (CW (nid+(h'.length - a.length)) (ren ρ') out) e
 have hrenh:nH (aC h') m' gN mN ρ':=by
  intro p ver Y D h Bc K E
  refine hren' p ver Y D h Bc ?_ E
  rw [dD (List.getElem?_eq_some_iff.1 K).1];exact K
 cases out with
 |ret v=>
  obtain ⟨cv,X,c⟩:=O
  refine ⟨cv,X, ?_⟩
  have Z:(gG h'.length v).2=bs0:=hbs
  rw [Z] at c
  refine zo (n:=h'.length) (AY ρ') (fun x v hx=>uf (gy.refl S') hrenh x hx) ?_ c
  intro i k v hx
  simp only [VR] at hx ⊢
  obtain ⟨B,d,f,z,h5⟩:=hx
  rw [U _ (Nat.le_trans hl (Nat.le_add_right _ _))] at d
  obtain ⟨Q,W⟩:=T _ B d
  rw [ar1 hl] at Q W
  rw [ar2 hl] at W
  exact ⟨_,Q,Nat.zero_le _,z,fun e=>by rw [W];exact h5 (by simpa [wI] using e)⟩
 |pan v=>
  obtain ⟨cv,X,c⟩:=O
  exact ⟨cv,X,uf (gy.refl S') hrenh _ c⟩
end
end AM
namespace AM
open Go
section
variable {P:Program} {ap:AP} {H:bg}
theorem rV {o:bD} {nid f:Nat} {args:List AV} {md:AV} {c c':Cx} {r:JE} (h:n_ ap H o nid md f args c= .ok r c'):
  ∃ args0 h0 out0 h0',H c md f args0 h0= .ok (out0,h0',r.md) c'∧((∃ v,out0= .ret v)↔∃ v,r.out= .ret v)∧
  ∀ g m S w cargs (C:List Value→(Ending→World→Prop)→Prop),(∀ cargs R R',C cargs R→(∀ e w',R e w'→R' e w')→C cargs R')→aV ap g m S w→(∀ b ∈ r.fp,∀ B,o b=some B→g b=some B)→(∀ i,i<4→g (nid+i)=none)→aO g m S args cargs→
   (∀ m1 S1,gy S S1→aV ap (aC h0) m1 S1 w→aO (aC h0) m1 S1 args0 cargs→C cargs fun e w'=> ∃ m' S',wG ap h0 m1 S1 w out0 h0' m' S' w' e)→
   C cargs fun e w'=>NJ ap g m S w r.out r.ups e w':=by
 unfold n_ at h
 simp only at h
 generalize D:kV o 6 (eF (a_ args))=fp at h
 let rd:bD:=fun b=>match j_ fp b with|true=>o b|false=>none
 have a:∀ b B,rd b=some B→b ∈ fp∧o b=some B:=by
  intro b B d
  dsimp only [rd] at d
  split at d
  ·rename_i hm;exact ⟨eX.1 hm,d⟩
  ·cases d
 split at h
 ·split at h
  ·cases h
  ·rename_i args' A
   obtain ⟨⟨out,u,md⟩,E,x,h⟩:=R.bind_ok h
   dsimp only at h
   split at h
   ·cases h
   ·split at h
    ·rename_i v
     split at h
     ·rename_i n
      cases h
      refine ⟨_,_,_,_,x,⟨fun _=> ⟨_,rfl⟩,fun _=> ⟨_,rfl⟩⟩, ?_⟩
      intro g m S w cargs C hmono t k l q s
      have j:f_ 0 (fP.ret v)=(gG nid v).2:=vZ Eg v 0 nid
      have:=vF t (rd:=rd) (fun b B d=>k b (a b B d).1 B (a b B d).2) (fun b B d=>(a b B d).1) (nid:=nid) A q hmono s (fun i p=>l i (by rw [j] at p;have:=dK n;omega))
      rw [j] at this
      exact this
     ·cases h
    ·rename_i v
     cases h
     refine ⟨_,_,_,_,x,⟨(fun ⟨_,h⟩=>by cases h),(fun ⟨_,h⟩=>by cases h)⟩, ?_⟩
     intro g m S w cargs C hmono t k l q s
     exact vF t (rd:=rd) (fun b B d=>k b (a b B d).1 B (a b B d).2) (fun b B d=>(a b B d).1) (nid:=nid) A q hmono s (fun i p=>by simp [f_] at p)
 ·split at h
  ·cases h
  ·rename_i F y
   obtain ⟨⟨out,u,md⟩,E,x,h⟩:=R.bind_ok h
   dsimp only at h
   split at h
   ·cases h
   ·rename_i hcond
    simp only [Bool.and_eq_true] at hcond
    have z:=dK hcond.1
    let vers:Nat→Nat:=fun b=>match rd b with|some B=>B.ver|none=>0
    have hvers':∀ b B,rd b=some B→vers b=B.ver:=by
     intro b B d;simp only [vers,d]
    let ρ':Nat→Nat→Option (Nat × Nat):=Gz nid fp vers u.length
    split at h
    ·rename_i v
     split at h
     ·rename_i n
      cases h
      refine ⟨_,_,_,_,x,⟨fun _=> ⟨_,rfl⟩,fun _=> ⟨_,rfl⟩⟩, ?_⟩
      intro g m S w cargs C hmono t k l q s
      have j:f_ u.length (fP.ret v)=(gG (nid+(u.length - fp.length)) (ren ρ' v)).2:=(vZ (AY ρ') v (nid+(u.length - fp.length)) u.length).symm
      have:=vG t (rd:=rd) (fun b B d=>k b (a b B d).1 B (a b B d).2) y hcond.2 (nid:=nid) hvers' (ρ':=ρ') (fun b v=>rfl) rfl q hmono s z (fun i p=>l i (by rw [j] at p;exact Nat.lt_of_lt_of_le p (dK n)))
      rw [j] at this
      exact this
     ·cases h
    ·rename_i v
     split at h
     ·rename_i n
      cases h
      refine ⟨_,_,_,_,x,⟨(fun ⟨_,h⟩=>by cases h),(fun ⟨_,h⟩=>by cases h)⟩, ?_⟩
      intro g m S w cargs C hmono t k l q s
      exact vG t (rd:=rd) (fun b B d=>k b (a b B d).1 B (a b B d).2) y hcond.2 (nid:=nid) hvers' (ρ':=ρ') (fun b v=>rfl) rfl q hmono s z (fun i p=>l i (by simp only [f_,List.length_nil,Nat.add_zero] at p;exact Nat.lt_of_lt_of_le p (dK n)))
     ·cases h
theorem xJ (u:fC P ap H) {a:bD} {nid f:Nat} {args:List AV} {c c':Cx} {r:JE} (h:n_ ap H a nid .dead f args c= .ok r c') (q:c'.Ok):
  c.Ok∧nT P f∧∀ g m S w cargs,aV ap g m S w→(∀ b ∈ r.fp,∀ B,a b=some B→g b=some B)→(∀ i,i<4→g (nid+i)=none)→aO g m S args cargs→
   Calls P f cargs.toArray w fun e w'=>NJ ap g m S w r.out r.ups e w':=by
 obtain ⟨args0,h0,o,t,x,_,y⟩:=rV h
 obtain ⟨l,p⟩:=u _ _ _ _ _ _ _ _ x q
 refine ⟨l,p.ent,fun g m S w cargs s d n z=> ?_⟩
 exact y g m S w cargs (fun cargs R=>Calls P f cargs.toArray w R) (fun _ _ _ k j=>k.mono j) s d n z fun v S1 _ k j=>p.calls v S1 w cargs k j
end
end AM
namespace AM
open Go
def nG (dec:List (Nat × Bool)) (env:dF):Prop:=∀ t b,ai dec t=some b→env.get t= .bool b
def dJ (g:bD) (m:aF) (S:ay):List (Nat × List AV)→List Deferred→Prop
 | [],[]=>True
 |d::r,cd::cr=>(∃ cap,cd.target= .fn (.func d.1) cap∧aO g m S d.2 (cd.args++cap).toList)∧dJ g m S r cr
 |_,_=>False
theorem oQ {g g':bD} {m b:aF} {S S':ay} (c:gy S S') (e:Ge g m g' b):∀ {l:List (Nat × List AV)} {ds:List Deferred},dJ g m S l ds→dJ g' b S' l ds
 | [],[],_=>by simp only [dJ]
 |d::r,cd::cr,h=>by
  simp only [dJ] at h ⊢
  obtain ⟨⟨a,j,f⟩,i⟩:=h
  exact ⟨⟨a,j,fU c e _ f⟩,oQ c e i⟩
 | [],_::_,h=>by simp [dJ] at h
 |_::_,[],h=>by simp [dJ] at h
theorem vg {g:bD} {m:aF} {S:ay}:∀ {l l':List (Nat × List AV)} {ds ds':List Deferred},dJ g m S l ds→dJ g m S l' ds'→dJ g m S (l++l') (ds++ds')
 | [],_,[],_,_,h'=>by simpa using h'
 |d::r,_,cd::cr,_,h,h'=>by
  simp only [dJ] at h
  simp only [List.cons_append,dJ]
  exact ⟨h.1,vg h.2 h'⟩
 | [],_,_::_,_,h,_=>by simp [dJ] at h
 |_::_,_,[],_,h,_=>by simp [dJ] at h
def Pg (P:Program) (ops:Array Oper) (Q:Exit→Act→World→Prop) (o:Oper) (K:Act→World→Prop) (a:Act) (w:World):Prop:=
 if Region.wanted o (yielded ops a.tmps) then o.wp P a w K Q∨(o.asks P a w∧LetsOut Q) else K (a.put o.dst undef) w
def Ph (ap:AP) (o:Oper) (g:bD) (m:aF) (S:ay) (w:World) (a:Act) (v:AV) (ups:List (Nat × aJ)) (df:List (Nat × List AV)) (Q:Exit→Act→World→Prop) (K:Act→World→Prop):Option AV→Prop
 |none=> ∀ cv m' S' w' ds,aV ap (bi g ups) m' S' w'→Fr g m S w (bi g ups) m' S' w'→VR (bi g ups) m' S' v cv→dJ (bi g ups) m' S' df ds→K ({a with defers:=ds++a.defers}.put o.dst cv) w'
 |some pv=> ∀ cv m' S' w',aV ap (bi g ups) m' S' w'→Fr g m S w (bi g ups) m' S' w'→VR (bi g ups) m' S' pv cv→Q (.panic [{v:=cv,recovered:=false}]) a w'
def BJ (P:Program) (ap:AP) (ops:Array Oper) (o:Oper) (nid:Nat) (env:dF) (hp:Hp) (rt rb:List Nat) (v:AV) (ups:List (Nat × aJ)) (df:List (Nat × List AV)) (p:Option AV):Prop:=
 ∀ g m S w (a:Act),aV ap g m S w→(∀ t ∈ rt,VR g m S (env.get t) (a.tmps.getD t undef))→(∀ b ∈ rb,∀ B,ai hp b=some B→g b=some B)→(∀ i,i<4→g (nid+i)=none)→
  ∀ (Q:Exit→Act→World→Prop) (K:Act→World→Prop),Ph ap o g m S w a v ups df Q K p→Pg P ops Q o K a w
structure Pq (P:Program) (ap:AP) (ops:Array Oper) (o:Oper) (nid:Nat) (s s':RS) (p:Option AV) (v:AV) (rt rb:List Nat) (ups:List (Nat × aJ)) (df:List (Nat × List AV)):Prop where
 env:p=none→s'.env=lm s.env o.dst v
 envp:p ≠ none→s'.env=s.env∧df= []
 hp:s'.hp=ups++s.hp
 md:s'.md=s.md
 dfs:s'.dfs=df++s.dfs
 dec:p=none→nG s'.dec s'.env
 feet:p=none→s'.feet={rt,wt:=BZ o,rb,wb:=ups.map (·.1)}::s.feet
 sem:BJ P ap ops o nid s.env s.hp rt rb v ups df p
section
variable {P:Program} {ap:AP} {H:bg}
theorem J8 (e:Array Value) (t:Nat) {v:Value} (h:e.getD t undef=v) (b:v ≠ undef):e[t]? =some v:=by
 rw [Array.getD_eq_getD_getElem?] at h
 cases a:e[t]? with
 |none=>rw [a] at h;exact absurd h.symm b
 |some u=>rw [a] at h;simpa using h
theorem zM {ops:Array Oper} {tmps:Array Value} {j s:Nat} (hs:(ops[j]?).bind (·.dst)=some s) {b:Bool} (h:tmps.getD s undef= .bool b):yielded ops tmps j=some b:=by
 unfold yielded
 rw [hs]
 simp only [Option.bind_some]
 rw [J8 tmps s h (by simp [undef])]
theorem Dq {ops:Array Oper} {tmps:Array Value} {j s:Nat} (hs:(ops[j]?).bind (·.dst)=some s) (h:tmps.getD s undef= .tuple #[]):yielded ops tmps j=none:=by
 unfold yielded
 rw [hs]
 simp only [Option.bind_some]
 rw [Array.getD_eq_getD_getElem?] at h
 cases a:tmps[s]? with
 |none=>rfl
 |some u=>
  rw [a] at h
  simp at h
  rw [h]
theorem qR {g:bD} {m:aF} {S:ay} {w:World} (c:aV ap g m S w) {env:dF} {a:Act} (x:Operand) (h:∀ t,x= .tmp t→VR g m S (env.get t) (a.tmps.getD t undef)):VR g m S (nK ap env x) (a.eval x):=by
 cases x with
 |tmp t=>exact h t rfl
 |const v=>exact dG _ (DC S v)
 | global k=>
  simp only [nK,Act.eval]
  cases e:(ap.gl[k]?).join with
  |none=>simp only [VR]
  |some xs=>
   obtain ⟨vs,d,b⟩:=c.glob k xs e
   simp only [VR,PR]
   exact ⟨k,0,vs,rfl,d,b⟩
 |func f=>
  simp only [nK,Act.eval,VR]
  exact ⟨[],[],rfl,by simp [aO],by simp [aO]⟩
theorem yR {l:List Operand} {t:Nat} (h:Operand.tmp t ∈ l):t ∈ jV l:=by
 simp only [jV,List.mem_filterMap]
 exact ⟨_,h,rfl⟩
theorem Cf {ops:List Oper} {env:dF} {dec e:List (Nat × Bool)} {o:Oper} {c c':Cx} {run:Bool} (h:FP ops env dec o c= .ok (run,e) c') (q:c'.Ok):
  c.Ok∧(nG dec env→nG e env∧(∀ t b,ai dec t=some b→ai e t=some b)∧∀ g m S (a:Act),(∀ t ∈ dV ops o,VR g m S (env.get t) (a.tmps.getD t undef))→Region.wanted o (yielded ops.toArray a.tmps)=run):=by
 unfold FP at h
 unfold dV
 unfold Region.wanted
 split at h
 ·rename_i y
  cases h
  simp only [y]
  exact ⟨q,fun k=> ⟨k,fun _ _ h=>h,fun _ _ _ _ _=>trivial⟩⟩
 ·rename_i j f y
  simp only [y]
  split at h
  ·cases h
  ·rename_i s hs
   have l:(ops.toArray[j]?).bind (·.dst)=some s:=by simpa using hs
   split at h
   ·rename_i b n
    cases h
    refine ⟨q,fun k=> ⟨k,fun _ _ h=>h,fun g m S a p=> ?_⟩⟩
    have d:=p s (by simp)
    rw [k s b n] at d
    simp only [VR,PR] at d
    rw [zM l d]
    cases f<;>cases b<;>rfl
   ·rename_i B
    split at h
    ·rename_i b n
     obtain ⟨C,D,d,z⟩:=R.bind_ok h
     cases z
     obtain ⟨A,rfl⟩:=iR d q
     refine ⟨A,fun k=> ⟨?_, ?_,fun g m S a p=> ?_⟩⟩
     ·intro t x i
      simp only [ai] at i
      split at i
      ·rename_i u
       cases i
       rw [← az u,n]
      ·exact k t x i
     ·intro t x i
      simp only [ai]
      split
      ·rename_i u
       rw [az u] at B
       rw [B] at i;cases i
      ·exact i
     ·have d:=p s (by simp)
      rw [n] at d
      simp only [VR,PR] at d
      rw [zM l d]
      cases f<;>cases C<;>rfl
    ·rename_i n
     cases h
     refine ⟨q,fun k=> ⟨k,fun _ _ h=>h,fun g m S a p=> ?_⟩⟩
     have d:=p s (by simp)
     rw [n] at d
     simp only [VR] at d
     obtain ⟨vs,d,z⟩:=d
     cases vs with
     |nil=>rw [Dq l d];rfl
     |cons v r=>simp [aO] at z
    ·cases h
theorem D6 {env:dF} {o:Oper} {v:AV} {t:Nat} (h:∀ d,o.dst=some d→d ≠ t):(lm env o.dst v).get t=env.get t:=by
 unfold lm
 split
 ·rename_i d b
  simp only [dF.get,ai]
  split
  ·rename_i a;exact absurd (az a) (h d b)
  ·rfl
 ·rfl
theorem r_ {dec:List (Nat × Bool)} {env:dF} {o:Oper} {v:AV} (e:nG dec env) (a:GU dec o=true):nG dec (lm env o.dst v):=by
 intro t b c
 rw [D6]
 ·exact e t b c
 ·rintro d hdd rfl
  unfold GU at a
  rw [hdd] at a
  simp [c] at a
end
end AM
namespace AM
open Go
section
variable {P:Program} {ap:AP} {H:bg}
theorem KI {c:Cx} {dst:Option Nat} {v:AV} (h:(yz c dst v).2.Ok):c.Ok∧bC v (yz c dst v).1:=by
 obtain ⟨cl,orc,bs,ps,ans,hs⟩:=c
 unfold yz at h ⊢
 dsimp only at h ⊢
 split at h
 ·rename_i d x r i
  split at h
  ·rename_i a
   have e:bC v x:=h.ps _ (List.mem_cons_self ..)
   refine ⟨⟨h.bs,fun p hp=>h.ps p (List.mem_cons_of_mem _ hp)⟩, ?_⟩
   simp only [a]
   exact e
  ·rename_i a
   refine ⟨h, ?_⟩
   simp only [a]
   exact fun _ _ _ _ b=>b
 ·rename_i f
  exact ⟨h,fun _ _ _ _ b=>b⟩
theorem KH {c:Cx} {dst:Option Nat} (h:(Hf c dst).2.Ok):c.Ok:=by
 obtain ⟨cl,orc,bs,ps,ans,hs⟩:=c
 unfold Hf at h
 dsimp only at h
 split at h
 ·split at h
  ·exact ⟨h.bs,h.ps⟩
  ·exact h
 ·exact h
theorem KF {c:Cx} {dst:Option Nat} {ups:List (Nat × aJ)} (h:(yx c dst ups).2.Ok):c.Ok∧(yx c dst ups).1=ups:=by
 obtain ⟨cl,orc,bs,ps,ans,hs⟩:=c
 unfold yx at h ⊢
 dsimp only at h ⊢
 split at h
 ·rename_i d e r j b B
  split at h
  ·rename_i a
   have f:B.cells=e:=h.ps _ (List.mem_cons_self ..)
   refine ⟨⟨h.bs,fun p hp=>h.ps p (List.mem_cons_of_mem _ hp)⟩, ?_⟩
   simp only [a,← f]
  ·rename_i a
   refine ⟨h, ?_⟩
   simp only [a]
 ·rename_i i
  exact ⟨h,rfl⟩
theorem KG {nid:Nat} {c:Cx} {dst:Option Nat} {v:AV} {ups:List (Nat × aJ)} (h:(sN nid c dst v ups).2.2.Ok):c.Ok∧(((sN nid c dst v ups).1=v∧(sN nid c dst v ups).2.1=ups)∨
  ∃ n B,v= .ref nid B.ver 0 n∧ups= [(nid,B)]∧B.pr=true∧B.fro=false∧B.cells.length=n*B.esz∧0<n∧(sN nid c dst v ups).1= .sl B.cells n true∧(sN nid c dst v ups).2.1= [(nid,{B with fro:=true,fz:=B.cells.length})]):=by
 obtain ⟨cl,orc,bs,ps,ans,hs⟩:=c
 unfold sN at h ⊢
 dsimp only at h ⊢
 split at h
 ·rename_i d r s b ver n q B
  split at h
  ·rename_i a
   refine ⟨⟨h.bs,h.ps⟩,.inr ?_⟩
   simp only [Bool.and_eq_true,Bool.not_eq_true'] at a
   obtain ⟨_,⟨⟨⟨⟨⟨i,f⟩,k⟩,l⟩,p⟩,j⟩,o⟩:=a
   have i:=Nat.eq_of_beq_eq_true i
   have f:=Nat.eq_of_beq_eq_true f
   have k:=Nat.eq_of_beq_eq_true k
   have j:=Nat.eq_of_beq_eq_true j
   subst i f k
   exact ⟨n,B,rfl,rfl,l,p,j,Nat.pos_of_ne_zero fun e=>by subst e;simp at o,rfl,rfl⟩
  ·rename_i a
   refine ⟨h,.inl ?_⟩
   simp [a]
 ·exact ⟨h,.inl ⟨rfl,rfl⟩⟩
theorem d_.shut {g:bD} {m:aF} {S:ay} {w:World} {s:Sem Next} {b n:Nat} {B:aJ} (Z:g b=none) (R:B.pr=true) (M:B.fro=false) (hn:B.cells.length=n*B.esz) (h0:0<n) (h:d_ P ap g m S w s (.ref b B.ver 0 n) [(b,B)]):
  ∃ K c S' w',s.run P w= .ok K w'∧aV ap (bi g [(b,{B with fro:=true,fz:=B.cells.length})]) c S' w'∧Fr g m S w (bi g [(b,{B with fro:=true,fz:=B.cells.length})]) c S' w'∧((∃ cv,K= .value cv∧VR (bi g [(b,{B with fro:=true,fz:=B.cells.length})]) c S' (.sl B.cells n true) cv)∨(K= .skip∧AV.ref b B.ver 0 n= .dead)):=by
 obtain ⟨K,c,w',N,A,p,l⟩:=h
 have t:bi g [(b,B)] b=some B:=by simp [bi,ai]
 have I:∀ x,x ≠ b→∀ C:aJ,bi g [(b,C)] x=g x:=fun x a C=>by
  have:Nat.beq b x=false:=by rw [Bool.eq_false_iff];exact fun e=>a (Nat.eq_of_beq_eq_true e).symm
  simp [bi,ai,this]
 have J:bi g [(b,{B with fro:=true,fz:=B.cells.length})] b=some {B with fro:=true,fz:=B.cells.length}:=by simp [bi,ai]
 have i:∀ x C,bi g [(b,{B with fro:=true,fz:=B.cells.length})] x=some C→(x=b∧C={B with fro:=true,fz:=B.cells.length})∨(x ≠ b∧bi g [(b,B)] x=some C):=fun x C a=>by
  by_cases e:x=b
  ·subst e;rw [J] at a;cases a;exact .inl ⟨rfl,rfl⟩
  ·rw [I x e] at a;exact .inr ⟨e,by rw [I x e];exact a⟩
 have fresh:w.heap.size≤(c b).1:=by
  rcases p.img b B t with e|⟨B0,e,_⟩
  ·exact e
  ·rw [Z] at e;cases e
 have Y:∀ o,S (c b).1 o=none:=fun o=>by
  cases hs:S (c b).1 o with
  |none=>rfl
  |some v=>have:=(A.own b B t o v hs).1;rw [M] at this;cases this
 obtain ⟨⟨cur,e,vs,rest,r1,r2,L,r4,W,r6⟩,_,_⟩:=A.blk b B t
 have L:=L R
 have T:=iP L
 let S':ay:=fun k o=>if k=(c b).1 then vs[o]? else S k o
 have f:gy S S':=fun k o v E=>by
  show (if k=(c b).1 then vs[o]? else S k o)=some v
  split
  ·rename_i e;subst e;rw [Y] at E;cases E
  ·exact E
 have O:Ge (bi g [(b,B)]) c (bi g [(b,{B with fro:=true,fz:=B.cells.length})]) c:=fun x C a=>by
  by_cases e:x=b
  ·subst e;rw [t] at a;cases a;exact ⟨_,J,rfl,.inl ⟨rfl,rfl⟩⟩
  ·rw [I x e] at a;exact ⟨C,by rw [I x e];exact a,rfl,.inl ⟨rfl,rfl⟩⟩
 have X:0<B.esz∧B.esz ≠ dw:=by
  rcases l with ⟨cv,_,l⟩|⟨_,e⟩
  ·simp only [VR] at l
   obtain ⟨B1,F,_,_,l⟩:=l
   rw [t] at F;cases F
   obtain ⟨_,_,_,_,h3,U⟩:=l rfl
   exact ⟨h3,U⟩
  ·cases e
 have hcell:∀ o v,vs[o]? =some v→bK w' (c b).1 o=some v:=fun o v r=>by
  refine mg ?_ (W X.2 v (List.mem_of_getElem? r))
  rw [iq (r1.cells X.2),r2,List.getElem?_append_left (List.getElem?_eq_some_iff.1 r).1]
  exact r
 refine ⟨K,c,S',w',N,⟨fun x y C D a hy V=> ?_,fun x C a=> ?_,fun k o v E=> ?_,fun x C a o v r=> ?_,fun q xs hq=> ?_⟩,⟨fun x C a=> ?_,p.sle.trans f,p.os,p.tape,p.output,p.size,p.rest,fun x C a=> ?_,fun k o v E=> ?_,fun x C a=> ?_⟩, ?_⟩
 ·have z:∃ C',bi g [(b,B)] x=some C':=by
   rcases i x C a with ⟨e,_⟩|⟨_,e⟩
   ·exact ⟨B,by rw [e];exact t⟩
   ·exact ⟨C,e⟩
  have G:∃ C',bi g [(b,B)] y=some C':=by
   rcases i y D hy with ⟨e,_⟩|⟨_,e⟩
   ·exact ⟨B,by rw [e];exact t⟩
   ·exact ⟨D,e⟩
  obtain ⟨_,z⟩:=z
  obtain ⟨_,G⟩:=G
  exact A.inj x y _ _ z G V
 ·rcases i x C a with ⟨rfl,rfl⟩|⟨_,e⟩
  ·exact ⟨⟨cur,e,vs,rest,r1,r2,fun _=>aP f _ L,fU f O _ r4,W,r6⟩,fun h=>(by cases h),Nat.le_refl _⟩
  ·exact (A.blk x C e).mono f O rfl
 ·have d:(if k=(c b).1 then vs[o]? else S k o)=some v:=E
  by_cases e:k=(c b).1
  ·rw [if_pos e] at d;rw [e];exact hcell o v d
  ·rw [if_neg e] at d;exact A.sealed k o v d
 ·have r:(if (c x).1=(c b).1 then vs[o]? else S (c x).1 o)=some v:=r
  rcases i x C a with ⟨rfl,rfl⟩|⟨Q,e⟩
  ·rw [if_pos rfl] at r
   exact ⟨rfl,by show o<B.cells.length;rw [T];exact (List.getElem?_eq_some_iff.1 r).1⟩
  ·rw [if_neg fun F=>Q (A.inj x b _ _ e t F)] at r
   exact A.own x C e o v r
 ·obtain ⟨us,k1,k2⟩:=A.glob q xs hq
  exact ⟨us,aP f _ k1,k2.mono f⟩
 ·obtain ⟨C',z,G⟩:=p.ge x C a
  have Q:x ≠ b:=fun e=>by subst e;rw [Z] at a;cases a
  exact ⟨C',by rw [I x Q];rw [I x Q] at z;exact z,G⟩
 ·rcases i x C a with ⟨rfl,rfl⟩|⟨_,e⟩
  ·exact .inl fresh
  ·exact p.img x C e
 ·have d:(if k=(c b).1 then vs[o]? else S k o)=some v:=E
  by_cases e:k=(c b).1
  ·rw [e];exact .inr (.inl fresh)
  ·rw [if_neg e] at d;exact p.sealN k o v d
 ·rcases i x C a with ⟨rfl,rfl⟩|⟨_,e⟩
  ·exact p.mw x B t
  ·exact p.mw x C e
 ·rcases l with ⟨cv,z,l⟩|⟨_,e⟩
  ·refine .inl ⟨cv,z, ?_⟩
   simp only [VR] at l
   obtain ⟨B1,F,_,_,l⟩:=l
   rw [t] at F;cases F
   obtain ⟨o,G,h3,U,_⟩:=l rfl
   have r:=U (by omega)
   simp only [VR,PR]
   refine ⟨_,_,G,by omega,.inr ⟨_,_,vs,rfl,aP f _ L,fun j u hj=> ⟨?_,W X.2 u (List.mem_of_getElem? hj)⟩⟩⟩
   show (if (c b).1=(c b).1 then vs[o+j]? else S (c b).1 (o+j))=some u
   rw [if_pos rfl,r]
   simpa using hj
  ·cases e
theorem wo {a:Act} {g:Operand} {args:Array Operand} {argTypes:Array TypeId} {ty:TypeId} {f:Nat} {first b:Array Value} (h:a.eval g= .func (.func f) first b) (w:World):
  (resolve a.eval {callee:= .value g,args,argTypes} ty).run P w= .ok {target:= .fn (.func f) b,args:=first++args.map a.eval} w:=by
 simp only [resolve,h,Deferred.ofValue]
 rfl
theorem Ac {a:Act} {g:Operand} {args:Array Operand} {argTypes:Array TypeId} {ty:TypeId} {f:Nat} {first b:Array Value} (h:a.eval g= .func (.func f) first b) (c:nT P f) (w:World):
  (do let d ← resolve a.eval {callee:= .value g,args,argTypes} ty;invoke d.target d.args:Sem Next).run P w= .ok (.enter f ((first++args.map a.eval)++b)) w:=by
 rw [Sem.run_bind,wo h,Result.andThen_ok]
 exact c _ _
theorem xE {g:bD} {m:aF} {S:ay} {ρ:Operand→AV} {cρ:Operand→Value} {args:Array Operand} (h:∀ o ∈ args,VR g m S (ρ o) (cρ o)):aO g m S (args.toList.map ρ) (args.map cρ).toList:=by
 rw [Array.toList_map]
 exact oU _ fun o a=>h o (by simpa using a)
theorem uD:∀ {l:Hp} {b:Nat} {B:aJ},ai l b=some B→(b,B) ∈ l
 | [],_,_,h=>by cases h
 | (k,X)::r,b,B,h=>by
  simp only [ai] at h
  split at h
  ·rename_i a
   cases h
   have:=az a
   subst this
   exact List.mem_cons_self ..
  ·exact List.mem_cons_of_mem _ (uD h)
theorem yO {α β:Type} {f g:α→β}:∀ {l:List α},l.map f=l.map g→∀ {x:α},x ∈ l→f x=g x
 | [],_,_,h=>by cases h
 |a::r,h,x,hx=>by
  simp only [List.map_cons,List.cons.injEq] at h
  rcases List.mem_cons.1 hx with rfl|hx
  ·exact h.1
  ·exact yO h.2 hx
theorem Gn {t:Nat} {b:String} {f:Nat} (o:dn P ap) (h:ap.mtAt t b=some f) (v:Value) (n:Nat) (w:World):(method (n+1) t v b).run P w= .ok (f,v) w:=by
 unfold AP.mtAt at h
 obtain ⟨q,p,rfl⟩:=Option.map_eq_some_iff.1 h
 have r:=List.find?_some p
 have a:=List.all_eq_true.1 o.mt _ (List.mem_of_find?_eq_some p)
 simp only [Bool.and_eq_true,beq_iff_eq] at r
 obtain ⟨c,s⟩:=r
 have c:=az c
 subst c
 subst s
 unfold mtB at a
 split at a
 ·rename_i i u
  split at a
  ·rename_i m hm
   rw [Bool.and_eq_true] at a
   obtain ⟨hp,a⟩:=a
   have hpath:m.path.toList= []:=by simpa using hp
   unfold method
   rw [Sem.run_bind,run_typeInfo w u,Result.andThen_ok]
   simp only [hm,hpath,follow]
   split at a
   ·rename_i f e l k
    have:=az a
    subst this
    simp [l,receiverAt,run_underlying k w,Place.get]
   ·cases a
   ·rename_i f d j l k
    have:=az a
    subst this
    cases d<;>first|exact (j _ rfl).elim|simp [l,receiverAt,run_underlying k w,Place.get]
   ·cases a
  ·cases a
 ·cases a
theorem zy {a:Act} {g:Operand} {b:String} {args:Array Operand} {argTypes:Array TypeId} {ty:TypeId} {t f:Nat} {cv:Value} (e:dn P ap) (c:ap.mtAt t b=some f) (h:a.eval g= .iface t cv) (j:nT P f) (w:World):
  (do let d ← resolve a.eval {callee:= .invoke g b,args,argTypes} ty;invoke d.target d.args:Sem Next).run P w= .ok (.enter f (cv::(args.map a.eval).toList).toArray) w:=by
 have hm:(method (P.types.size+Made.depth) t cv b).run P w= .ok (f,cv) w:=Gn e c cv (P.types.size+Made.depth - 1) w
 have h0:(#[Value.iface t cv]++args.map a.eval)[0]? =some (.iface t cv):=by rw [Array.getElem?_append_left (by simp)];rfl
 simp only [resolve,h,Sem.run_bind,Sem.run_pure,Result.andThen_ok,invoke,h0,callMethod]
 have i:#[cv]++(#[Value.iface t cv]++args.map a.eval).extract 1 (#[Value.iface t cv]++args.map a.eval).size=(cv::(args.map a.eval).toList).toArray:=by
  apply Array.toList_inj.1
  simp
  exact List.take_of_length_le (by simp)
 rw [show (program.run P w)= .ok P w from rfl,Result.andThen_ok,hm,Result.andThen_ok,i]
 exact j _ _
theorem rW (X:fC P ap H) {nid:Nat} {ops:List Oper} {o:Oper} {s s':RS} {dec:List (Nat × Bool)} {f:Nat} {U:List AV} {p:Option AV} {T c':Cx} (h:BP ap H nid o s (jV o.op.operands.toList++dV ops o) dec f U T= .ok (s',p) c') (E:c'.Ok) (n:GU dec o=true)
  (hex:nT P f→∀ {g:bD} {m:aF} {S:ay} {w:World} {a:Act},aV ap g m S w→(∀ t ∈ jV o.op.operands.toList++dV ops o,VR g m S (s.env.get t) (a.tmps.getD t undef))→∃ cargs:List Value,(execOp a.eval o).run P w= .ok (.enter f cargs.toArray) w∧aO g m S U cargs):
  T.Ok∧(s.md= .dead→nG dec s.env→(∀ (Q:Exit→Act→World→Prop) (K:Act→World→Prop) (g:bD) (m:aF) (S:ay) (a:Act) (w:World),(∀ t ∈ jV o.op.operands.toList++dV ops o,VR g m S (s.env.get t) (a.tmps.getD t undef))→o.wp P a w K Q→Pg P ops.toArray Q o K a w)→
   ∃ v rb ups df,Pq P ap ops.toArray o nid s s' p v (jV o.op.operands.toList++dV ops o) rb ups df):=by
 unfold BP at h
 obtain ⟨r,N,V,h⟩:=R.bind_ok h
 have J:N.Ok:=by
  revert h
  cases I:Hf N o.dst with
  | mk u F=>
   have j:F.Ok→N.Ok:=fun Z=>KH (by rw [I];exact Z)
   cases u with
   | true=>
    dsimp only
    cases r.out with
    |ret v=>
     dsimp only
     split
     ·intro h;cases h;exact j ⟨E.bs,fun p hp=>E.ps p (List.mem_cons_of_mem _ hp)⟩
     ·intro h;cases h
    |pan v=>intro h;cases h
   |false=>dsimp only;cases r.out<;>intro h<;>cases h<;>exact j E
 obtain ⟨G,M,hcall⟩:=xJ X V J
 refine ⟨G,fun Y z hwant=> ?_⟩
 split at h
 ·rename_i F I
  split at h
  ·rename_i v c
   split at h
   ·rename_i A
    cases h
    have L:r.ups.map (fun (q:Nat × aJ)=>some q.2)=r.ups.map (fun (q:Nat × aJ)=>ai s.hp q.1):=E.ps _ (List.mem_cons_self ..)
    refine ⟨v,r.fp,[],[],⟨fun _=>rfl,fun h=>absurd rfl h,rfl,rfl,rfl,fun _=>r_ z n,fun _=>rfl, ?_⟩⟩
    intro g m S w a l k d i Q K D
    have O:bi g r.ups=g:=by
     funext b
     unfold bi
     cases W:ai r.ups b with
     |none=>rfl
     |some B=>
      have hm:=uD W
      have x:=yO L hm
      exact (d b (eX.1 (List.all_eq_true.1 A _ hm)) B x.symm).symm
    refine hwant Q K g m S a w k ?_
    obtain ⟨cargs,x,C⟩:=hex M l k
    unfold Oper.wp
    rw [x]
    refine (hcall g m S w _ l d i C).mono ?_
    rintro e w' ⟨m',S',j,h4,h5⟩
    rw [c] at h5
    obtain ⟨cv,rfl,y⟩:=h5
    rw [O] at j h4 y
    exact D cv m' S' w' [] j h4 y (by simp [dJ])
   ·cases h
  ·cases h
 ·rename_i F I
  split at h
  ·rename_i v c
   cases h
   refine ⟨v,r.fp,r.ups,[],⟨fun _=>rfl,fun h=>absurd rfl h,rfl,rfl,rfl,fun _=>r_ z n,fun _=>rfl, ?_⟩⟩
   intro g m S w a l k d i Q K D
   refine hwant Q K g m S a w k ?_
   obtain ⟨cargs,x,C⟩:=hex M l k
   unfold Oper.wp
   rw [x]
   refine (hcall g m S w _ l d i C).mono ?_
   rintro e w' ⟨m',S',j,h4,h5⟩
   rw [c] at h5
   obtain ⟨cv,rfl,y⟩:=h5
   exact D cv m' S' w' [] j h4 y (by simp [dJ])
  ·rename_i v c
   cases h
   refine ⟨v,r.fp,r.ups,[],⟨fun h=>(by cases h),fun _=> ⟨rfl,rfl⟩,rfl,rfl,rfl,fun h=>(by cases h),fun h=>(by cases h), ?_⟩⟩
   intro g m S w a l k d i Q K D
   refine hwant Q K g m S a w k ?_
   obtain ⟨cargs,x,C⟩:=hex M l k
   unfold Oper.wp
   rw [x]
   refine (hcall g m S w _ l d i C).mono ?_
   rintro e w' ⟨m',S',j,h4,h5⟩
   rw [c] at h5
   obtain ⟨cv,rfl,y⟩:=h5
   exact D cv m' S' w' j h4 y
theorem ng (hap:dn P ap) (hH:fC P ap H) {nid:Nat} {ops:List Oper} {o:Oper} {s s':RS} {p:Option AV} {c c':Cx} (h:E5 ap H nid ops o s c= .ok (s',p) c') (N:c'.Ok):
  c.Ok∧(s.md= .dead→nG s.dec s.env→∃ v rb ups df,Pq P ap ops.toArray o nid s s' p v (jV o.op.operands.toList++dV ops o) rb ups df):=by
 unfold E5 at h
 obtain ⟨⟨run,dec⟩,c1,e1,h⟩:=R.bind_ok h
 dsimp only at h
 split at h
 ·cases h
 rename_i r
 have hguard:∀ c1ok:c1.Ok,c.Ok∧(nG s.dec s.env→nG dec s.env∧(∀ t b,ai s.dec t=some b→ai dec t=some b)∧∀ g m S (a:Act),(∀ t ∈ dV ops o,VR g m S (s.env.get t) (a.tmps.getD t undef))→Region.wanted o (yielded ops.toArray a.tmps)=run):=fun hk=>Cf e1 hk
 have z:∀ {g:bD} {m:aF} {S:ay} {w:World} {a:Act},aV ap g m S w→(∀ t ∈ jV o.op.operands.toList++dV ops o,VR g m S (s.env.get t) (a.tmps.getD t undef))→∀ x ∈ o.op.operands,VR g m S (nK ap s.env x) (a.eval x):=by
  intro g m S w a C j x J
  refine qR C x fun t ht=>j t ?_
  subst ht
  exact List.mem_append.2 (.inl (yR (by simpa using J)))
 split at h
 ·
  cases h
  obtain ⟨k,I⟩:=hguard N
  refine ⟨k,fun q d=> ?_⟩
  obtain ⟨hd,_,hw⟩:=I d
  refine ⟨.tup [],[],[],[],⟨fun _=>rfl,fun h=>absurd rfl h,rfl,rfl,rfl,fun _=>r_ hd r,fun _=>rfl, ?_⟩⟩
  intro g m S w a C j _ _ Q K X
  unfold Pg
  rw [hw g m S a fun t ht=>j t (List.mem_append.2 (.inr ht))]
  simp only [Bool.false_eq_true,if_false]
  have:=X undef m S w [] (by rw [dh];exact C) (by rw [dh];exact Fr.refl _ _ _ _) (by simp only [VR];exact ⟨[],rfl,by simp [aO]⟩) (by simp [dJ])
  exact this
 ·
  have hwant:∀ (Q:Exit→Act→World→Prop) (K:Act→World→Prop) (g:bD) (m:aF) (S:ay) (a:Act) (w:World),c1.Ok→nG s.dec s.env→(∀ t ∈ jV o.op.operands.toList++dV ops o,VR g m S (s.env.get t) (a.tmps.getD t undef))→o.wp P a w K Q→Pg P ops.toArray Q o K a w:=by
   intro Q K g m S a w hk d j hh
   obtain ⟨_,_,hw⟩:=(hguard hk).2 d
   unfold Pg
   rw [hw g m S a fun t ht=>j t (List.mem_append.2 (.inr ht))]
   simp only [if_true]
   exact .inl hh
  split at h
  ·
   rename_i gf args argTypes i
   split at h
   ·rename_i f first cap hf
    obtain ⟨y,hs⟩:=rW hH h N r (fun hE {g m S w a} C j=>by
     have A:=z C j
     rw [i] at A
     have l:=A gf (by simp [Op.operands,Call.operands])
     rw [hf] at l
     simp only [VR] at l
     obtain ⟨vf,vc,E,G,L⟩:=l
     refine ⟨(vf++(args.map a.eval).toList)++vc, ?_,dZ (dZ G (xE fun x J=>A x (by simp [Op.operands,Call.operands,J]))) L⟩
     have:=Ac (args:=args) (argTypes:=argTypes) (ty:=o.type) E hE w
     unfold execOp
     rw [i]
     dsimp only
     rw [this]
     congr 2
     apply Array.toList_inj.1
     simp)
    obtain ⟨k,I⟩:=hguard y
    refine ⟨k,fun q d=> ?_⟩
    exact hs q (I d).1 fun Q K g m S a w j hh=>hwant Q K g m S a w y d j hh
   ·cases h
  ·
   rename_i gf name args argTypes i
   split at h
   ·rename_i ty vv hf
    split at h
    ·rename_i f hmt
     obtain ⟨y,hs⟩:=rW hH h N r (fun hE {g m S w a} C j=>by
      have A:=z C j
      rw [i] at A
      have l:=A gf (by simp [Op.operands,Call.operands])
      rw [hf] at l
      simp only [VR] at l
      obtain ⟨cv,E,G⟩:=l
      refine ⟨cv::(args.map a.eval).toList, ?_, ?_⟩
      ·have:=zy hap hmt (args:=args) (argTypes:=argTypes) (ty:=o.type) E hE w
       unfold execOp
       rw [i]
       dsimp only
       rw [this]
      ·simp only [aO]
       exact ⟨G,xE fun x J=>A x (by simp [Op.operands,Call.operands,J])⟩)
     obtain ⟨k,I⟩:=hguard y
     refine ⟨k,fun q d=> ?_⟩
     exact hs q (I d).1 fun Q K g m S a w j hh=>hwant Q K g m S a w y d j hh
    ·cases h
   ·cases h
  ·
   split at h
   ·cases h
    exact ⟨(hguard N).1,fun q=>by simp_all⟩
   ·cases h
    exact ⟨(hguard N).1,fun q=>by simp_all⟩
   ·cases h
  ·
   rename_i gf args argTypes i
   split at h
   ·rename_i f first cap hf
    cases h
    obtain ⟨k,I⟩:=hguard N
    refine ⟨k,fun q d=> ?_⟩
    obtain ⟨hd,_,_⟩:=I d
    refine ⟨.dead,[],[],[(f,first++args.toList.map (nK ap s.env)++cap)],⟨fun _=>rfl,fun h=>absurd rfl h,rfl,rfl,rfl,fun _=>r_ hd r,fun _=>rfl, ?_⟩⟩
    intro g m S w a C j hag V Q K X
    refine hwant Q K g m S a w N d j ?_
    have A:=z C j
    rw [i] at A
    have l:=A gf (by simp [Op.operands,Call.operands])
    rw [hf] at l
    simp only [VR] at l
    obtain ⟨vf,vc,E,G,L⟩:=l
    unfold Oper.wp
    have hr:(execOp a.eval o).run P w= .ok (.defer {target:= .fn (.func f) vc.toArray,args:=vf.toArray++args.map a.eval}) w:=by
     unfold execOp
     rw [i]
     dsimp only
     rw [Sem.run_bind,wo E,Result.andThen_ok]
     rfl
    rw [hr]
    refine X undef m S w [{target:= .fn (.func f) vc.toArray,args:=vf.toArray++args.map a.eval}] (by rw [dh];exact C) (by rw [dh];exact Fr.refl _ _ _ _) (by simp only [VR]) ?_
    simp only [dJ,dh,and_true]
    refine ⟨vc.toArray,rfl, ?_⟩
    have:=dZ (dZ G (xE (args:=args) fun x J=>A x (by simp [Op.operands,Call.operands,J]))) L
    simpa using this
   ·cases h
  ·
   rename_i x i
   split at h
   ·rename_i t v J
    cases h
    obtain ⟨k,I⟩:=hguard N
    refine ⟨k,fun q d=> ?_⟩
    obtain ⟨hd,_,_⟩:=I d
    refine ⟨.dead,[],[],[],⟨fun h=>(by cases h),fun _=> ⟨rfl,rfl⟩,rfl,rfl,rfl,fun h=>(by cases h),fun h=>(by cases h), ?_⟩⟩
    intro g m S w a C j hag V Q K X
    refine hwant Q K g m S a w N d j ?_
    have A:=z C j
    rw [i] at A
    have l:=A x (by simp [Op.operands])
    rw [J] at l
    have h2':=l
    simp only [VR] at h2'
    obtain ⟨u,E,G⟩:=h2'
    unfold Oper.wp
    have hr:(execOp a.eval o).run P w= .halt (.panic (a.eval x)) w:=by
     unfold execOp
     rw [i]
     dsimp only
     rw [E]
     rfl
    rw [hr]
    exact X _ m S w (by rw [dh];exact C) (by rw [dh];exact Fr.refl _ _ _ _) (by rw [dh];exact l)
   ·cases h
  ·
   rename_i op n1 n2 n3 n4
   obtain ⟨em,c2,e2,h⟩:=R.bind_ok h
   split at h
   ·cases h
   ·rename_i v ups bs i
    obtain ⟨_,c3,e3,h⟩:=R.bind_ok h
    have hv0:(sN nid c3 o.dst v ups).2.2.Ok→_:=KG
    generalize sN nid c3 o.dst v ups=q0 at h hv0
    obtain ⟨v0,F,T⟩:=q0
    dsimp only at h hv0
    have hv1:(yz T o.dst v0).2.Ok→T.Ok∧bC v0 (yz T o.dst v0).1:=KI
    generalize yz T o.dst v0=q1 at h hv1
    obtain ⟨v1,c4⟩:=q1
    dsimp only at h hv1
    have hv2:(yx c4 o.dst F).2.Ok→c4.Ok∧(yx c4 o.dst F).1=F:=KF
    generalize yx c4 o.dst F=q2 at h hv2
    obtain ⟨D,c5⟩:=q2
    dsimp only at h hv2
    cases h
    obtain ⟨hc4,hups⟩:=hv2 N
    subst hups
    obtain ⟨hc30,Y⟩:=hv1 hc4
    obtain ⟨hc3,hf⟩:=hv0 hc30
    obtain ⟨hc2,hbs⟩:=B_ e3 hc3
    have hem:c1.Ok∧∀ n,su (nK ap s.env) o.op=some n→Nat.beq n 0=em:=by
     split at e2
     ·rename_i n hn
      obtain ⟨hk,rfl⟩:=iR e2 hc2
      exact ⟨hk,fun n' M=>by rw [hn] at M;cases M;rfl⟩
     ·rename_i hn
      cases e2
      exact ⟨hc2,fun n' M=>by rw [hn] at M;cases M⟩
    obtain ⟨y,hem⟩:=hem
    obtain ⟨k,I⟩:=hguard y
    refine ⟨k,fun q d=> ?_⟩
    obtain ⟨hd,_,_⟩:=I d
    refine ⟨v1,LQ (nK ap s.env) o.op,D,[],⟨fun _=>rfl,fun h=>absurd rfl h,rfl,rfl,rfl,fun _=>r_ hd r,fun _=>rfl, ?_⟩⟩
    intro g m S w a C j hag V Q K X
    refine hwant Q K g m S a w y d j ?_
    have A:=z C j
    have U:=Ji hap C (nid:=nid) (V 0 (by omega)) (ρ:=nK ap s.env) (cρ:=a.eval) (fun b B Z=>by
      split at Z
      ·rename_i hm;exact hag b (eX.1 hm) B Z
      ·cases Z) o A (dec:=fun| .tmp t=>ai dec t|_=>none) (fun x J b Z=>by
      split at Z
      ·rename_i t
       have:=j t (List.mem_append.2 (.inl (yR (by simpa using J))))
       rw [hd t b Z] at this
       simp only [VR,PR] at this
       exact this
      ·cases Z) hem i hbs
    have U:∃ W O S' w',(execOp a.eval o).run P w= .ok W w'∧aV ap (bi g D) O S' w'∧Fr g m S w (bi g D) O S' w'∧((∃ cv,W= .value cv∧VR (bi g D) O S' v0 cv)∨(W= .skip∧v0= .dead)):=by
     rcases hf with ⟨e1,e2⟩|⟨n,B,e1,e2,e3,e4,e5,e6,e7,e8⟩
     ·subst e1 e2
      obtain ⟨W,O,w',l,E,G,L⟩:=U
      exact ⟨W,O,S,w',l,E,G,L⟩
     ·subst e1 e2 e7 e8
      obtain ⟨W,O,S',w',l,E,G,L⟩:=d_.shut (V 0 (by omega)) e3 e4 e5 e6 U
      exact ⟨W,O,S',w',l,E,G,L.imp id fun ⟨_,e⟩=>by cases e⟩
    obtain ⟨W,O,S',w',l,E,G,L⟩:=U
    unfold Oper.wp
    rw [l]
    rcases L with ⟨cv,rfl,L⟩|⟨rfl,rfl⟩
    ·exact X cv O S' w' [] E G (Y _ _ _ _ L) (by simp [dJ])
    ·exact X undef O S' w' [] E G (Y _ _ _ _ (by simp only [VR])) (by simp [dJ])
end
end AM
namespace AM
open Go
theorem jC:∀ {hp:Hp} {b:Nat} {B:aJ},ai hp b=some B→b<dR hp
 | [],b,B,h=>by simp [ai] at h
 | (c,C)::r,b,B,h=>by
  simp only [ai] at h
  simp only [dR]
  split at h
  ·rename_i d
   have d:=az d
   subst d
   split
   ·rename_i a;exact dL a
   ·omega
  ·have e:=jC h
   split
   ·exact e
   ·rename_i a
    have:¬ c<dR r:=fun f=>by
     have:Nat.blt c (dR r)=true:=by
      show Nat.ble (c+1) (dR r)=true
      exact Nat.ble_eq_true_of_le f
     rw [this] at a;cases a
    omega
theorem yN:∀ {l:Hp} {b:Nat} {B:aJ},ai l b=some B→b ∈ l.map (·.1)
 | [],b,B,h=>by simp [ai] at h
 |(c,C)::r,b,B,h=>by
  simp only [ai] at h
  split at h
  ·rename_i a;simp [az a]
  ·simp [yN h]
structure FR (ap:AP) (env:dF) (hp:Hp) (dfs:List (Nat × List AV)) (nt:Nat) (m:aF) (S:ay) (w:World) (a:Act):Prop where
 srel:aV ap (ai hp) m S w
 env:∀ t,VR (ai hp) m S (env.get t) (a.tmps.getD t undef)
 dfs:dJ (ai hp) m S dfs a.defers
 size:a.tmps.size=nt
theorem aA (a:Act) (d:Option Nat) (v:Value):(a.put d v).tmps.size=a.tmps.size:=by
 cases d<;>simp [Act.put]
theorem jU (a:Act) (d:Option Nat) (v:Value):(a.put d v).defers=a.defers:=by
 cases d<;>simp [Act.put]
theorem iV (a:Act) (d:Option Nat) (v:Value) {t:Nat} (h:d ≠ some t):(a.put d v).tmps.getD t undef=a.tmps.getD t undef:=by
 cases d with
 |none=>rfl
 |some d=>
  have b:d ≠ t:=fun e=>h (by rw [e])
  simp only [Act.put,Array.getD_eq_getD_getElem?]
  rw [Array.getElem?_setIfInBounds_ne b]
theorem bT (a:Act) (d:Nat) (v:Value) (h:d<a.tmps.size):(a.put (some d) v).tmps.getD d undef=v:=by
 simp only [Act.put,Array.getD_eq_getD_getElem?]
 rw [Array.getElem?_setIfInBounds_self_of_lt h];rfl
theorem fG {env:dF} {d:Nat} {v:AV}:(lm env (some d) v).get d=v:=by simp [lm,dF.get,ai]
theorem sG {env:dF} {dst:Option Nat} {v:AV} {t:Nat} (h:dst ≠ some t):(lm env dst v).get t=env.get t:=by
 cases dst with
 |none=>rfl
 | some d=>
  have a:Nat.beq d t=false:=by
   cases b:Nat.beq d t with
   |false=>rfl
   |true=>exact absurd (by rw [az b]) h
  simp [lm,dF.get,ai,a]
section
variable {P:Program} {ap:AP} {H:bg}
theorem FR.put {env:dF} {hp ups:Hp} {dfs c:List (Nat × List AV)} {nt:Nat} {m b:aF} {S S':ay} {w w':World} {a:Act} (h:FR ap env hp dfs nt m S w a) {dst:Option Nat} (f:∀ d,dst=some d→d<nt) {v:AV} {cv:Value} {e:List Deferred}
  (h1:aV ap (bi (ai hp) ups) b S' w') (h2:Fr (ai hp) m S w (bi (ai hp) ups) b S' w') (h3:VR (bi (ai hp) ups) b S' v cv) (h4:dJ (bi (ai hp) ups) b S' c e):
  FR ap (lm env dst v) (ups++hp) (c++dfs) nt b S' w' ({a with defers:=e++a.defers}.put dst cv):=by
 rw [g_] at h1 h2 h3 h4
 refine ⟨h1, ?_, ?_, ?_⟩
 ·intro t
  by_cases ht:dst=some t
  ·subst ht
   rw [fG,bT _ _ _ (by have:=f t rfl;have:=h.size;simpa [this] using f t rfl)]
   exact h3
  ·rw [sG ht,iV _ _ _ ht]
   exact jb h2.sle h2.ge _ (h.env t)
 ·rw [jU]
  exact vg h4 (oQ h2.sle h2.ge h.dfs)
 ·rw [aA];exact h.size
theorem FR.still {env:dF} {hp ups:Hp} {dfs:List (Nat × List AV)} {nt:Nat} {m b:aF} {S S':ay} {w w':World} {a:Act} (h:FR ap env hp dfs nt m S w a)
  (h1:aV ap (bi (ai hp) ups) b S' w') (h2:Fr (ai hp) m S w (bi (ai hp) ups) b S' w'):FR ap env (ups++hp) dfs nt b S' w' a:=by
 rw [g_] at h1 h2
 exact ⟨h1,fun t=>jb h2.sle h2.ge _ (h.env t),oQ h2.sle h2.ge h.dfs,h.size⟩
def rH (ap:AP) (hp0:Hp) (m:aF) (S:ay) (w:World) (nt:Nat) (env:dF) (hp:Hp) (dfs:List (Nat × List AV)) (Q:Exit→Act→World→Prop):Option AV→Prop
 |none=> ∀ m' S' w' a',Fr (ai hp0) m S w (ai hp) m' S' w'→FR ap env hp dfs nt m' S' w' a'→Q .normal a' w'
 |some v=> ∀ m' S' w' a' cv,Fr (ai hp0) m S w (ai hp) m' S' w'→FR ap env hp dfs nt m' S' w' a'→VR (ai hp) m' S' v cv→Q (.panic [{v:=cv,recovered:=false}]) a' w'
theorem nS {ops:Array Oper} {Q:Exit→Act→World→Prop} {i:Nat} {o:Oper} (b:ops[i]? =some o) (rest:List Nat) (a:Act) (w:World):wpOps P ops Q (i::rest) a w↔Pg P ops Q o (wpOps P ops Q rest) a w:=by
 simp only [wpOps,b,Pg]
theorem FV {hp ups:Hp} {nid:Nat} (e:∀ b B,ai hp b=some B→b<nid) (c:(ups.map (·.1)).all (fun x=>Nat.blt x (nid+4))=true):∀ b B,ai (ups++hp) b=some B→b<nid+4:=by
 intro b B a
 rw [dX] at a
 split at a
 ·rename_i x d
  have hm:b ∈ ups.map (·.1):=yN d
  exact dL (List.all_eq_true.1 c b hm)
 ·have:=e b B a;omega
theorem iY (F:dn P ap) (U:fC P ap H) {ops:List Oper} {nt:Nat} (K:∀ o ∈ ops,∀ d,o.dst=some d→d<nt):∀ (l:List Oper) (i nid:Nat) (s s':RS) (p:Option AV) (c c':Cx),lu ap H ops l nid s c= .ok (s',p) c'→c'.Ok→
  c.Ok∧(s.md= .dead→nG s.dec s.env→l=ops.drop i→(∀ b B,ai s.hp b=some B→b<nid)→
  s'.md= .dead∧∀ m S w a,FR ap s.env s.hp s.dfs nt m S w a→∀ Q,rH ap s.hp m S w nt s'.env s'.hp s'.dfs Q p→wpOps P ops.toArray Q (List.range' i l.length) a w)
 | [],i,nid,s,s',p,c,c',h,hc=>by
  cases h
  exact ⟨hc,fun e _ _ _=> ⟨e,fun m S w a x Q y=>y m S w a (Fr.refl _ _ _ _) x⟩⟩
 | o ::r,i,nid,s,s',p,c,c',h,hc=>by
  simp only [lu] at h
  obtain ⟨⟨s1,p1⟩,c1,e1,h⟩:=R.bind_ok h
  dsimp only at h
  have hfresh:(∀ b B,ai s.hp b=some B→b<nid)→∀ j,j<4→ai s.hp (nid+j)=none:=by
   intro I j _
   cases hb:ai s.hp (nid+j) with
   |none=>rfl
   |some B=>have:=I _ _ hb;omega
  have z:o::r=ops.drop i→ops[i]? =some o∧ops.toArray[i]? =some o∧r=ops.drop (i+1)∧∀ d,o.dst=some d→d<nt:=by
   intro G
   have k:ops[i]? =some o:=by
    have:(ops.drop i)[0]? =some o:=by rw [← G];rfl
    simpa using this
   have N:r=ops.drop (i+1):=by
    have:r=(ops.drop i).drop 1:=by rw [← G];rfl
    rw [this,List.drop_drop]
   exact ⟨k,by simpa using k,N,K o (List.mem_of_getElem? k)⟩
  cases p1 with
  |some v=>
   cases h
   obtain ⟨E,C⟩:=ng F U e1 hc
   refine ⟨E,fun e n G I=> ?_⟩
   obtain ⟨k,q,N,hd⟩:=z G
   obtain ⟨v1,rb,ups,df,hs⟩:=C e n
   refine ⟨by rw [hs.md,e],fun m S w a x Q y=> ?_⟩
   rw [List.length_cons,List.range'_succ,nS q]
   refine hs.sem (ai s.hp) m S w a x.srel (fun t _=>x.env t) (fun b _ B W=>W) (hfresh I) Q _ ?_
   intro cv m' S' w' T u O
   have Z:=x.still T u
   rw [g_] at u O
   obtain ⟨f,rfl⟩:=hs.envp (by simp)
   have y:=y m' S' w' a cv
   rw [hs.hp,hs.dfs,f] at y
   exact y u Z O
  | none=>
   dsimp only at h
   cases A:s1.feet with
   |nil=>rw [A] at h;cases h
   | cons ft fr=>
    rw [A] at h
    dsimp only at h
    split at h
    ·rename_i M
     obtain ⟨V,ih⟩:=iY F U K r (i+1) (nid+4) s1 s' p c1 c' h hc
     obtain ⟨E,C⟩:=ng F U e1 V
     refine ⟨E,fun e n G I=> ?_⟩
     obtain ⟨k,q,N,hd⟩:=z G
     obtain ⟨v1,rb,ups,df,hs⟩:=C e n
     have D:=hs.feet rfl
     rw [A] at D
     simp only [List.cons.injEq] at D
     rw [D.1] at M
     obtain ⟨J,ih⟩:=ih (by rw [hs.md,e]) (hs.dec rfl) N (by rw [hs.hp];exact FV I M)
     refine ⟨J,fun m S w a x Q y=> ?_⟩
     rw [List.length_cons,List.range'_succ,nS q]
     refine hs.sem (ai s.hp) m S w a x.srel (fun t _=>x.env t) (fun b _ B W=>W) (hfresh I) Q _ ?_
     intro cv m' S' w' ds T u O h4
     have L:=x.put hd T u O h4
     rw [g_] at u
     have f:=hs.env rfl
     rw [← f,← hs.hp,← hs.dfs] at L
     refine ih m' S' w' _ L Q ?_
     rw [← hs.hp] at u
     cases p with
     |none=>exact fun Y S2 w2 a2 X h6=>y Y S2 w2 a2 (u.trans X) h6
     |some v=>exact fun Y S2 w2 a2 cv2 X h6 h7=>y Y S2 w2 a2 cv2 (u.trans X) h6 h7
    ·cases h
end
end AM
namespace AM
open Go
structure gU where
 dst:Option Nat
 v:AV
 rt:List Nat
 rb:List Nat
 ups:List (Nat × aJ)
def GV (d:Option Nat):List Nat:=match d with|some d=> [d]|none=> []
def gU.foot (r:gU):qJ:={rt:=r.rt,wt:=GV r.dst,rb:=r.rb,wb:=r.ups.map (·.1)}
def ji (D:Nat→Bool):Nat→dF→List gU→dF
 |_,e,[]=>e
 |j,e,r::rs=>ji D (j+1) (match D j with|true=>lm e r.dst r.v|false=>e) rs
def jZ (D:Nat→Bool):Nat→Hp→List gU→Hp
 |_,h,[]=>h
 |j,h,r::rs=>jZ D (j+1) (match D j with|true=>r.ups++h|false=>h) rs
theorem jJ {D D':Nat→Bool} {t:Nat}:∀ (rs:List gU) (j:Nat) (e e':dF),e.get t=e'.get t→(∀ k r,rs[k]? =some r→r.dst=some t→D (j+k)=D' (j+k))→(ji D j e rs).get t=(ji D' j e' rs).get t
 | [],_,_,_,he,_=>he
 | r::rs,j,e,e',he,h=>by
  simp only [ji]
  refine jJ rs (j+1) _ _ ?_ fun k r' b a=> ?_
  ·by_cases a:r.dst=some t
   ·have h0:=h 0 r rfl a
    rw [Nat.add_zero] at h0
    rw [h0]
    cases D' j with
    |true=>simp only [a,fG]
    |false=>exact he
   ·cases D j<;>cases D' j<;>simp only [sG a,he]
  ·have:=h (k+1) r' (by simpa using b) a
   rwa [show j+(k+1)=j+1+k by omega] at this
theorem CG:∀ {l:Hp} {b:Nat},b ∉ l.map (·.1)→ai l b=none:=by
 intro l b h
 cases a:ai l b with
 |none=>rfl
 |some B=>exact absurd (yN a) h
theorem mM {ups hp:Hp} {b:Nat} (h:b ∉ ups.map (·.1)):ai (ups++hp) b=ai hp b:=by
 rw [dX,CG h]
theorem oD:∀ {l:Hp} {b:Nat},b ∈ l.map (·.1)→∃ B,ai l b=some B
 | [],b,h=>by simp at h
 | (c,C)::r,b,h=>by
  simp only [ai]
  cases a:Nat.beq c b with
  |true=>exact ⟨C,rfl⟩
  |false=>
   simp only [List.map_cons,List.mem_cons] at h
   rcases h with h|h
   ·subst h;simp at a
   ·exact oD h
theorem sU {ups hp hp':Hp} {b:Nat} (h:b ∈ ups.map (·.1)):ai (ups++hp) b=ai (ups++hp') b:=by
 obtain ⟨B,a⟩:=oD h
 rw [dX,dX,a]
theorem lJ {D D':Nat→Bool} {b:Nat}:∀ (rs:List gU) (j:Nat) (h h':Hp),ai h b=ai h' b→(∀ k r,rs[k]? =some r→b ∈ r.ups.map (·.1)→D (j+k)=D' (j+k))→ai (jZ D j h rs) b=ai (jZ D' j h' rs) b
 | [],_,_,_,he,_=>he
 | r::rs,j,e,e',he,h=>by
  simp only [jZ]
  refine lJ rs (j+1) _ _ ?_ fun k r' c a=> ?_
  ·by_cases a:b ∈ r.ups.map (·.1)
   ·have h0:=h 0 r rfl a
    rw [Nat.add_zero] at h0
    rw [h0]
    cases D' j with
    |true=>exact sU a
    |false=>exact he
   ·cases D j<;>cases D' j<;>simp only [mM a,he]
  ·have:=h (k+1) r' (by simpa using c) a
   rwa [show j+(k+1)=j+1+k by omega] at this
theorem pF:∀ (a:List gU) (j:Nat) (e:dF) {D:Nat→Bool},(∀ k,k<a.length→D (j+k)=false)→ji D j e a=e
 | [],_,_,_,_=>rfl
 |r::a,j,e,D,h=>by
  have h0:=h 0 (by simp)
  rw [Nat.add_zero] at h0
  simp only [ji,h0]
  exact pF a (j+1) e fun k b=>by have:=h (k+1) (by simpa using b);rwa [show j+(k+1)=j+1+k by omega] at this
theorem jO:∀ (a:List gU) (j:Nat) (e:Hp) {D:Nat→Bool},(∀ k,k<a.length→D (j+k)=false)→jZ D j e a=e
 | [],_,_,_,_=>rfl
 |r::a,j,e,D,h=>by
  have h0:=h 0 (by simp)
  rw [Nat.add_zero] at h0
  simp only [jZ,h0]
  exact jO a (j+1) e fun k b=>by have:=h (k+1) (by simpa using b);rwa [show j+(k+1)=j+1+k by omega] at this
def jX (e:dF) (rs:List gU):dF:=ji (fun _=>true) 0 e rs
def yB (h:Hp) (rs:List gU):Hp:=jZ (fun _=>true) 0 h rs
theorem qP (D:Nat→Bool):∀ (rs:List gU) (j d:Nat) (e:dF),ji D (j+d) e rs=ji (fun k=>D (k+d)) j e rs
 | [],_,_,_=>rfl
 |r::rs,j,d,e=>by
  simp only [ji]
  rw [show j+d+1=j+1+d by omega]
  exact qP D rs (j+1) d _
theorem uu (D:Nat→Bool):∀ (rs:List gU) (j d:Nat) (e:Hp),jZ D (j+d) e rs=jZ (fun k=>D (k+d)) j e rs
 | [],_,_,_=>rfl
 |r::rs,j,d,e=>by
  simp only [jZ]
  rw [show j+d+1=j+1+d by omega]
  exact uu D rs (j+1) d _
theorem pG (e:dF) (r:gU) (a:List gU):jX e (r::a)=jX (lm e r.dst r.v) a:=by
 simp only [jX,ji]
 exact qP (fun _=>true) a 0 1 _
theorem sO (h:Hp) (r:gU) (a:List gU):yB h (r::a)=yB (r.ups++h) a:=by
 simp only [yB,jZ]
 exact uu (fun _=>true) a 0 1 _
theorem sD:∀ (a:List gU) (k:Nat) (e:dF),ji (fun j=>decide (j<k)) 0 e a=jX e (a.take k)
 |a,0,e=>by
  simp only [List.take_zero]
  exact pF a 0 e fun _ _=>by simp
 | [],k+1,e=>rfl
 |r::a,k+1,e=>by
  simp only [List.take_succ_cons,pG,ji]
  rw [show decide (0<k+1)=true by simp]
  dsimp only
  rw [← sD a k]
  have:=qP (fun j=>decide (j<k+1)) a 0 1 (lm e r.dst r.v)
  rw [this]
  congr 1
  funext j
  simp
theorem FQ:∀ (a:List gU) (k:Nat) (e:Hp),jZ (fun j=>decide (j<k)) 0 e a=yB e (a.take k)
 |a,0,e=>by
  simp only [List.take_zero]
  exact jO a 0 e fun _ _=>by simp
 | [],k+1,e=>rfl
 |r::a,k+1,e=>by
  simp only [List.take_succ_cons,sO,jZ]
  rw [show decide (0<k+1)=true by simp]
  dsimp only
  rw [← FQ a k]
  have:=uu (fun j=>decide (j<k+1)) a 0 1 (r.ups++e)
  rw [this]
  congr 1
  funext j
  simp
theorem AC (e:dF):∀ (b:List gU) (k:Nat) (r:gU),b[k]? =some r→jX e (b.take (k+1))=lm (jX e (b.take k)) r.dst r.v:=by
 intro b
 induction b generalizing e with
 |nil=>intro k r h;simp at h
 | cons a b ih=>
  intro k r h
  cases k with
  |zero=>simp at h;subst h;rfl
  |succ k=>
   simp only [List.take_succ_cons,pG]
   exact ih _ k r (by simpa using h)
theorem KL (e:Hp):∀ (b:List gU) (k:Nat) (r:gU),b[k]? =some r→yB e (b.take (k+1))=r.ups++yB e (b.take k):=by
 intro b
 induction b generalizing e with
 |nil=>intro k r h;simp at h
 | cons a b ih=>
  intro k r h
  cases k with
  |zero=>simp at h;subst h;rfl
  |succ k=>
   simp only [List.take_succ_cons,sO]
   exact ih _ k r (by simpa using h)
section
variable {P:Program} {ap:AP} {H:bg}
structure JK (P:Program) (ap:AP) (ops:List Oper) (i nid:Nat) (s s':RS) (recs:List gU):Prop where
 env:s'.env=jX s.env recs
 hp:s'.hp=yB s.hp recs
 feet:s'.feet=(recs.map gU.foot).reverse++s.feet
 dle:s.dfs.length≤s'.dfs.length
 bound:∀ (k:Nat) (r:gU),recs[k]? =some r→∀ b ∈ r.ups.map (·.1),b<nid+4*k+4
 sem:s'.dfs.length=s.dfs.length→s'.dfs=s.dfs∧∀ (k:Nat) (r:gU),recs[k]? =some r→∃ o,ops[i+k]? =some o∧r.dst=o.dst∧BJ P ap ops.toArray o (nid+4*k) (jX s.env (recs.take k)) (yB s.hp (recs.take k)) r.rt r.rb r.v r.ups [] none
theorem Nu (y:dn P ap) (K:fC P ap H) {ops:List Oper}:∀ (l:List Oper) (i nid:Nat) (s s':RS) (c c':Cx),lu ap H ops l nid s c= .ok (s',none) c'→c'.Ok→
  c.Ok∧(s.md= .dead→nG s.dec s.env→l=ops.drop i→s'.md= .dead∧∃ recs:List gU,recs.length=l.length∧JK P ap ops i nid s s' recs)
 | [],i,nid,s,s',c,c',h,hc=>by
  cases h
  exact ⟨hc,fun a _ _=> ⟨a,[],rfl,⟨rfl,rfl,rfl,Nat.le_refl _,fun k r h=>by simp at h,fun _=> ⟨rfl,fun k r h=>by simp at h⟩⟩⟩⟩
 | o :: r,i,nid,s,s',c,c',h,hc=>by
  simp only [lu] at h
  obtain ⟨⟨z,V⟩,W,T,h⟩:=R.bind_ok h
  dsimp only at h
  cases V with
  |some v=>cases h
  | none=>
   dsimp only at h
   cases d:z.feet with
   |nil=>rw [d] at h;cases h
   | cons ft fr=>
    rw [d] at h
    dsimp only at h
    split at h
    ·rename_i x
     obtain ⟨C,Q⟩:=Nu y K r (i+1) (nid+4) z s' W c' h hc
     obtain ⟨I,B⟩:=ng y K T C
     refine ⟨I,fun a u J=> ?_⟩
     have D:ops[i]? =some o:=by
      have:(ops.drop i)[0]? =some o:=by rw [← J];rfl
      simpa using this
     have U:r=ops.drop (i+1):=by
      have:r=(ops.drop i).drop 1:=by rw [← J];rfl
      rw [this,List.drop_drop]
     obtain ⟨X,rb,ups,A,hs⟩:=B a u
     have f:=hs.feet rfl
     rw [d] at f
     simp only [List.cons.injEq] at f
     rw [f.1] at x
     obtain ⟨p,recs,n,e⟩:=Q (by rw [hs.md,a]) (hs.dec rfl) U
     refine ⟨p,{dst:=o.dst,v:=X,rt:=jV o.op.operands.toList++dV ops o,rb:=rb,ups:=ups}::recs,by simp [n], ?_⟩
     have G:s.dfs.length≤z.dfs.length:=by rw [hs.dfs];simp
     refine ⟨?_, ?_, ?_,Nat.le_trans G e.dle, ?_, ?_⟩
     ·rw [e.env,pG,hs.env rfl]
     ·rw [e.hp,sO,hs.hp]
     ·rw [e.feet,hs.feet rfl]
      simp [gU.foot,GV,BZ]
      cases o.dst<;>rfl
     ·intro k q j b M
      cases k with
      |zero=>
       simp at j
       subst j
       exact dL (List.all_eq_true.1 x b M)
      |succ k=>
       have:=e.bound k q (by simpa using j) b M
       omega
     ·intro he
      have Z:=e.dle
      obtain ⟨F,t⟩:=e.sem (by omega)
      have E:A= []:=by
       have:A.length=0:=by
        have:=hs.dfs
        have h3:z.dfs.length=A.length+s.dfs.length:=by rw [this];simp
        omega
       exact List.eq_nil_of_length_eq_zero this
      subst E
      refine ⟨by rw [F,hs.dfs];rfl, ?_⟩
      intro k q j
      cases k with
      |zero=>
       simp at j
       subst j
       exact ⟨o,D,rfl,hs.sem⟩
      |succ k=>
       obtain ⟨Y,N,O,L⟩:=t k q (by simpa using j)
       refine ⟨Y,by rw [show i+(k+1)=i+1+k by omega];exact N,O, ?_⟩
       rw [List.take_succ_cons,pG,sO]
       rw [hs.env rfl,hs.hp] at L
       rw [show nid+4*(k+1)=nid+4+4*k by omega]
       exact L
    ·cases h
end
end AM
namespace AM
open Go
theorem yg {md:Region.Mode} (b:Array Nat) (i:Nat):∀ (l:List Edge) (s:Nat),(l.foldl (fun s e=>if Region.binds md e then s|||2^e.on|||b.getD e.on 0 else s) s).testBit i=true→
  s.testBit i=true∨∃ e ∈ l,Region.binds md e=true∧(i=e.on∨(b.getD e.on 0).testBit i=true)
 | [],s,h=> .inl h
 | e::r,s,h=>by
  simp only [List.foldl_cons] at h
  rcases yg b i r _ h with a|⟨e',a,d⟩
  ·split at a
   ·rename_i c
    simp only [Nat.testBit_or,Bool.or_eq_true,Nat.testBit_two_pow,decide_eq_true_eq] at a
    rcases a with (a|a)|a
    ·exact .inl a
    ·exact .inr ⟨e,by simp,c,.inl a.symm⟩
    ·exact .inr ⟨e,by simp,c,.inr a⟩
   ·exact .inl a
  ·exact .inr ⟨e',by simp [a],d⟩
def kF (acc:Array Nat) (o:Oper):Array Nat:=acc.push (o.after.toList.foldl (fun s e=>if Region.binds .any e then s|||2^e.on|||acc.getD e.on 0 else s) 0)
theorem yh (a:Array Nat) (x:Nat):(a.push x).getD a.size 0=x:=by simp [Array.getD_eq_getD_getElem?]
def wQ (ops:List Oper) (D:Nat→Bool):Prop:=∀ (k:Nat) (o:Oper),ops[k]? =some o→D k=true→∀ e ∈ o.after,Region.binds .any e=true→D e.on=true
def Pi (D:Nat→Bool) (acc:Array Nat):Prop:=∀ k,D k=true→∀ i,(acc.getD k 0).testBit i=true→D i=true
theorem GG {ops:List Oper} {D:Nat→Bool} (n:wQ ops D):∀ (l:List Oper) (acc:Array Nat),Pi D acc→l=ops.drop acc.size→Pi D (l.foldl kF acc)
 | [],acc,h,_=>h
 | o ::r,acc,h,hl=>by
  simp only [List.foldl_cons]
  have d:ops[acc.size]? =some o:=by
   have:(ops.drop acc.size)[0]? =some o:=by rw [← hl];rfl
   simpa using this
  refine GG n r _ ?_ ?_
  ·intro k f i a
   by_cases hks:k<acc.size
   ·refine h k f i ?_
    simpa [kF,Array.getD_eq_getD_getElem?,Array.getElem?_push,Nat.ne_of_lt hks] using a
   ·by_cases hke:k=acc.size
    ·subst hke
     rw [kF,yh] at a
     rcases yg acc i _ _ a with c|⟨e,c,p,b⟩
     ·simp at c
     ·have j:=n _ o d f e (by simpa using c) p
      rcases b with rfl|b
      ·exact j
      ·exact h _ j i b
    ·have:(kF acc o)[k]? =none:=by
      simp only [kF]
      rw [Array.getElem?_eq_none];simp;omega
     simp [Array.getD_eq_getD_getElem?,this] at a
  ·have:(kF acc o).size=acc.size+1:=by simp [kF]
   rw [this,← List.drop_drop,← hl];rfl
theorem II (ops:List Oper):Region.before ops.toArray=ops.foldl kF #[]:=by
 simp only [Region.before,← Array.foldl_toList]
 rfl
theorem kT {ops:List Oper} {D:Nat→Bool} (c:wQ ops D) {k i:Nat} (a:D k=true) (h:((Region.before ops.toArray).toList.getD k 0).testBit i=true):D i=true:=by
 have:=GG c ops #[] (fun k _ i b=>by simp at b) (by simp)
 rw [← II] at this
 refine this k a i ?_
 rw [List.getD_eq_getElem?_getD] at h
 rw [Array.getD_eq_getD_getElem?]
 simpa using h
theorem lM {a b:List Nat} {x:Nat} (c:x ∈ a) (d:x ∈ b):yP a b=true:=List.any_eq_true.2 ⟨x,c,eX.2 d⟩
structure BI (n:Nat) (bef:Nat→Nat→Bool) (recs:List gU):Prop where
 ok:∀ i j a b,recs[i]? =some a→recs[j]? =some b→i<j→(gV a.foot b.foot=true∨∃ x ∈ b.ups.map (·.1),n+4*i≤x∧x<n+4*i+4)→bef j i=true
theorem yY {n:Nat} {d:List Nat} {recs:List gU} (h:oH n d (recs.map gU.foot).reverse=true):BI n (fun j i=>(d.getD j 0).testBit i) recs:=by
 refine ⟨fun i j a b l q f e=> ?_⟩
 simp only [oH,List.reverse_reverse,List.all_eq_true] at h
 have c:=h (a.foot,i) (by rw [List.mem_zipIdx_iff_getElem?];simp [l]) (b.foot,j) (by rw [List.mem_zipIdx_iff_getElem?];simp [q])
 simp only [Bool.or_eq_true,Bool.not_eq_true'] at c
 rcases c with (c|c)|c
 ·have:Nat.blt i j=true:=Nat.ble_eq_true_of_le f
  rw [this] at c;cases c
 ·exfalso
  rw [Bool.or_eq_false_iff] at c
  rcases e with e|⟨x,p,k,o⟩
  ·rw [e] at c;cases c.1
  ·have:=List.any_eq_false.1 c.2 x p
   simp only [Bool.and_eq_true,not_and] at this
   exact this (Nat.ble_eq_true_of_le k) (Nat.ble_eq_true_of_le o)
 ·exact c
section
variable {P:Program} {ap:AP} {H:bg}
theorem FR.congr {env env':dF} {hp hp':Hp} {dfs:List (Nat × List AV)} {nt:Nat} {m:aF} {S:ay} {w:World} {a:Act} (h:FR ap env hp dfs nt m S w a) (c:∀ t,env'.get t=env.get t) (b:ai hp'=ai hp):FR ap env' hp' dfs nt m S w a:=by
 refine ⟨b ▸ h.srel,fun t=> ?_,b ▸ h.dfs,h.size⟩
 rw [c,b];exact h.env t
def kH (listed:Array Bool):Nat→Bool:=fun k=>listed.getD k false
theorem N7 {listed:Array Bool} {i:Nat} (a:i<listed.size) (k:Nat):kH (listed.setIfInBounds i true) k=(if k=i then true else kH listed k):=by
 simp only [kH,Array.getD_eq_getD_getElem?]
 by_cases h:k=i
 ·subst h;rw [if_pos rfl,Array.getElem?_setIfInBounds_self_of_lt a];rfl
 ·rw [if_neg h,Array.getElem?_setIfInBounds_ne (fun e=>h e.symm)]
def xe (n:Nat) (D:Nat→Bool):Nat:=((List.range n).filter fun i=> !D i).length
theorem vW {D D':Nat→Bool} {i:Nat} (c:D i=false) (b:∀ k,D' k=if k=i then true else D k):∀ (l:List Nat),l.Nodup→i ∈ l→(l.filter fun k=> !D k).length=(l.filter fun k=> !D' k).length+1
 | [],_,h=>by simp at h
 | a::r,hn,h=>by
  rw [List.nodup_cons] at hn
  by_cases ha:a=i
  ·subst ha
   have hsame:r.filter (fun k=> !D k)=r.filter (fun k=> !D' k):=by
    refine List.filter_congr fun k d=> ?_
    have:k ≠ a:=fun e=>hn.1 (e ▸ d)
    rw [b k,if_neg this]
   have j:D' a=true:=by rw [b a,if_pos rfl]
   simp [c,j,hsame]
  ·have f:=vW c b r hn.2 (by simpa [Ne.symm ha] using h)
   have:D' a=D a:=by rw [b a,if_neg ha]
   simp only [List.filter_cons,this]
   split<;>simp [f]
theorem LU {ops:List Oper} (i:mD ops=true) {listed:Array Bool} (o:listed.size=ops.length) (b:Region.ready .any ops.toArray listed= []):∀ k,k<ops.length→kH listed k=true:=by
 intro k
 induction k using Nat.strongRecOn with
 | _ k ih=>
  intro f
  cases h:kH listed k with
  |true=>rfl
  | false=>
   exfalso
   have a:k ∈ Region.ready .any ops.toArray listed:=by
    simp only [Region.ready,List.mem_filter,List.mem_range,List.size_toArray]
    refine ⟨f, ?_⟩
    have l:listed.getD k true=false:=by
     simp only [kH,Array.getD_eq_getD_getElem?] at h ⊢
     rw [Array.getElem?_eq_getElem (by omega)] at h ⊢
     simpa using h
    have j:ops.toArray[k]? =some ops[k]:=by simp [f]
    rw [l,j]
    simp only [Bool.not_false,Bool.true_and,Option.map_some,Option.getD_some,Array.all_eq_true',Bool.or_eq_true,Bool.not_eq_true']
    intro e n
    cases d:Region.binds .any e with
    |false=>exact .inl rfl
    |true=>
     right
     simp only [mD,List.all_eq_true] at i
     have c:=i (ops[k],k) (by rw [List.mem_zipIdx_iff_getElem?];simp [f]) e (by simpa using n)
     rw [d] at c
     simp only [Bool.not_true,Bool.false_or] at c
     have p:=dL c
     exact ih e.on p (by omega)
   rw [b] at a
   cases a
theorem zi {ops:List Oper} {listed:Array Bool} (j:listed.size=ops.length) {i:Nat} (h:i ∈ Region.ready .any ops.toArray listed):∃ o,ops[i]? =some o∧kH listed i=false∧i<ops.length∧∀ e ∈ o.after,Region.binds .any e=true→kH listed e.on=true:=by
 simp only [Region.ready,List.mem_filter,List.mem_range,List.size_toArray,Bool.and_eq_true,Bool.not_eq_true'] at h
 obtain ⟨c,b,a⟩:=h
 have d:ops.toArray[i]? =some ops[i]:=by simp [c]
 rw [d] at a
 simp only [Option.map_some,Option.getD_some,Array.all_eq_true',Bool.or_eq_true,Bool.not_eq_true'] at a
 refine ⟨ops[i],List.getElem?_eq_getElem c, ?_,c,fun e f k=> ?_⟩
 ·simp only [kH,Array.getD_eq_getD_getElem?] at b ⊢
  rw [Array.getElem?_eq_getElem (by omega)] at b ⊢
  simpa using b
 ·rcases a e f with h|h
  ·rw [k] at h;cases h
  ·exact h
end
end AM
namespace AM
open Go
theorem JS {a b:qJ} {x:Nat} (h:x ∈ a.wt) (c:x ∈ b.rt):gV a b=true:=by simp [gV,lM h c]
theorem DL {a b:qJ} {x:Nat} (h:x ∈ a.wt) (c:x ∈ b.wt):gV a b=true:=by simp [gV,lM h c]
theorem JR {a b:qJ} {x:Nat} (h:x ∈ a.rt) (c:x ∈ b.wt):gV a b=true:=by simp [gV,lM h c]
theorem IL {a b:qJ} {x:Nat} (h:x ∈ a.wb) (c:x ∈ b.rb):gV a b=true:=by simp [gV,lM h c]
theorem Aw {a b:qJ} {x:Nat} (h:x ∈ a.wb) (c:x ∈ b.wb):gV a b=true:=by simp [gV,lM h c]
theorem IK {a b:qJ} {x:Nat} (h:x ∈ a.rb) (c:x ∈ b.wb):gV a b=true:=by simp [gV,lM h c]
theorem oG {d:Option Nat} {t:Nat} (h:d=some t):t ∈ GV d:=by subst h;simp [GV]
section
variable {P:Program} {ap:AP} {H:bg}
structure Ru (ap:AP) (ops:List Oper) (recs:List gU) (e0:dF) (hp0:Hp) (dfs:List (Nat × List AV)) (nt:Nat) (m0:aF) (S0:ay) (w0:World) (listed:Array Bool) (m:aF) (S:ay) (w:World) (a:Act):Prop where
 sz:listed.size=ops.length
 cl:wQ ops (kH listed)
 fr:Fr (ai hp0) m0 S0 w0 (ai (jZ (kH listed) 0 hp0 recs)) m S w
 rel:FR ap (ji (kH listed) 0 e0 recs) (jZ (kH listed) 0 hp0 recs) dfs nt m S w a
theorem DV {ops:List Oper} {recs:List gU} {s:RS} {A nt:Nat} (hnt:∀ o ∈ ops,∀ d,o.dst=some d→d<nt) (hlen:recs.length=ops.length)
  (hbound:∀ (k:Nat) (r:gU),recs[k]? =some r→∀ b ∈ r.ups.map (·.1),b<A+4*k+4)
  (hsem:∀ (k:Nat) (r:gU),recs[k]? =some r→∃ o,ops[k]? =some o∧r.dst=o.dst∧∀ (D:Nat→Bool) m S w (a:Act),aV ap (ai (jZ D 0 s.hp recs)) m S w→(∀ t ∈ r.rt,VR (ai (jZ D 0 s.hp recs)) m S ((jX s.env (recs.take k)).get t) (a.tmps.getD t undef))→
   (∀ b ∈ r.rb,ai (yB s.hp (recs.take k)) b=ai (jZ D 0 s.hp recs) b)→(∀ j,j<4→ai (jZ D 0 s.hp recs) (A+4*k+j)=none)→(∀ j,((Region.before ops.toArray).toList.getD j 0).testBit k=true→D j=false)→
   ∀ (Q:Exit→Act→World→Prop) (K:Act→World→Prop),Ph ap o (ai (jZ D 0 s.hp recs)) m S w a r.v r.ups [] Q K none→Pg P ops.toArray Q o K a w)
  (hord:BI A (fun j i=>((Region.before ops.toArray).toList.getD j 0).testBit i) recs) (hback:mD ops=true) (hn0:∀ b B,ai s.hp b=some B→b<A) {m0:aF} {S0:ay} {w0:World} {Q:Exit→Act→World→Prop}
  (hQ:∀ m S w a,Fr (ai s.hp) m0 S0 w0 (ai (yB s.hp recs)) m S w→FR ap (jX s.env recs) (yB s.hp recs) s.dfs nt m S w a→Q .normal a w):
  ∀ (n:Nat) (listed:Array Bool) (m:aF) (S:ay) (w:World) (a:Act),Ru ap ops recs s.env s.hp s.dfs nt m0 S0 w0 listed m S w a→xe ops.length (kH listed)≤n→wpAny P .any ops.toArray Q n listed a w:=by
 have hdone:∀ (listed:Array Bool) (m:aF) (S:ay) (w:World) (a:Act),Ru ap ops recs s.env s.hp s.dfs nt m0 S0 w0 listed m S w a→(∀ k,k<ops.length→kH listed k=true)→Q .normal a w:=by
  intro listed m S w a u y
  have hh:∀ b,ai (yB s.hp recs) b=ai (jZ (kH listed) 0 s.hp recs) b:=fun b=>
   lJ recs 0 _ _ rfl fun k r c _=>by rw [y (0+k) (by have:=(List.getElem?_eq_some_iff.1 c).1;omega)]
  have he:∀ t,(jX s.env recs).get t=(ji (kH listed) 0 s.env recs).get t:=fun t=>
   jJ recs 0 _ _ rfl fun k r c _=>by rw [y (0+k) (by have:=(List.getElem?_eq_some_iff.1 c).1;omega)]
  have G:=funext hh
  exact hQ m S w a (G ▸ u.fr) (u.rel.congr he G)
 intro n
 induction n with
 | zero=>
  intro listed m S w a u hm
  have y:∀ k,k<ops.length→kH listed k=true:=by
   intro k c
   cases f:kH listed k with
   |true=>rfl
   |false=>
    have M:k ∈ (List.range ops.length).filter fun i=> !kH listed i:=by simp [c,f]
    have:(List.range ops.length).filter (fun i=> !kH listed i)= []:=List.eq_nil_of_length_eq_zero (Nat.le_zero.1 hm)
    rw [this] at M
    cases M
  refine ⟨?_,hdone listed m S w a u y⟩
  cases hr:Region.ready .any ops.toArray listed with
  |nil=>rfl
  |cons i r=>
   obtain ⟨o,_,p,h3,_⟩:=zi u.sz (i:=i) (by rw [hr];simp)
   rw [y i h3] at p;cases p
 | succ n ih=>
  intro listed m S w a u hm
  refine ⟨fun Y=>hdone listed m S w a u (LU hback u.sz Y),fun i hi=> ?_⟩
  obtain ⟨o,L,F,U,hedges⟩:=zi u.sz hi
  have v:recs[i]? =some recs[i]:=List.getElem?_eq_getElem (by omega)
  generalize recs[i]=r at v
  obtain ⟨o',Z,E,hstep⟩:=hsem i r v
  rw [L] at Z
  cases Z
  have V:i<listed.size:=by rw [u.sz];exact U
  have l:=N7 V
  have R:wQ ops (kH (listed.setIfInBounds i true)):=by
   intro k o2 c f e he z
   rw [l] at f ⊢
   split
   ·rfl
   ·split at f
    ·rename_i I
     subst I
     rw [L] at c;cases c
     exact hedges e he z
    ·exact u.cl k o2 c f e he z
  have O:∀ k q,recs[k]? =some q→k<i→(gV q.foot r.foot=true∨∃ x ∈ r.ups.map (·.1),A+4*k≤x∧x<A+4*k+4)→kH listed k=true:=by
   intro k q c I hc
   have C:=hord.ok k i q r c v I hc
   have p:=kT R (k:=i) (i:=k) (by rw [l,if_pos rfl]) C
   rw [l,if_neg (by omega)] at p
   exact p
  have hhigh:∀ k q,recs[k]? =some q→i<k→(gV r.foot q.foot=true∨∃ x ∈ q.ups.map (·.1),A+4*i≤x∧x<A+4*i+4)→kH listed k=false:=by
   intro k q c I hc
   cases f:kH listed k with
   |false=>rfl
   |true=>
    have C:=hord.ok i k r q v c I hc
    have p:=kT u.cl f C
    rw [F] at p;cases p
  have N:∀ k q,recs[k]? =some q→(k<i→gV q.foot r.foot=true)→(i<k→gV r.foot q.foot=true)→decide (k<i)=kH listed k:=by
   intro k q c C p
   rcases Nat.lt_trichotomy k i with h|h|h
   ·rw [O k q c h (.inl (C h))];simp [h]
   ·subst h;rw [F];simp
   ·rw [hhigh k q c h (.inl (p h))];simp;omega
  have hagr':∀ k q,recs[k]? =some q→(k<i→gV q.foot r.foot=true)→(i<k→gV r.foot q.foot=true)→kH (listed.setIfInBounds i true) k=decide (k<i+1):=by
   intro k q c C p
   rw [l]
   rcases Nat.lt_trichotomy k i with h|h|h
   ·rw [if_neg (by omega),O k q c h (.inl (C h))];simp;omega
   ·subst h;simp
   ·rw [if_neg (by omega),hhigh k q c h (.inl (p h))];simp;omega
  have X:∀ t ∈ r.rt,(jX s.env (recs.take i)).get t=(ji (kH listed) 0 s.env recs).get t:=by
   intro t J
   rw [← sD]
   refine jJ recs 0 _ _ rfl fun k q c f=> ?_
   rw [Nat.zero_add]
   exact N k q c (fun _=>JS (oG f) J) (fun _=>JR J (oG f))
  have hhp:∀ b ∈ r.rb,ai (yB s.hp (recs.take i)) b=ai (jZ (kH listed) 0 s.hp recs) b:=by
   intro b z
   rw [← FQ]
   refine lJ recs 0 _ _ rfl fun k q c f=> ?_
   rw [Nat.zero_add]
   exact N k q c (fun _=>IL f z) (fun _=>IK z f)
  have hfresh:∀ j,j<4→ai (jZ (kH listed) 0 s.hp recs) (A+4*i+j)=none:=by
   intro j hj
   have C:ai (jZ (kH listed) 0 s.hp recs) (A+4*i+j)=ai (jZ (fun _=>false) 0 s.hp recs) (A+4*i+j):=by
    refine lJ recs 0 _ _ rfl fun k q c f=> ?_
    rw [Nat.zero_add]
    have z:=hbound k q c _ f
    rcases Nat.lt_trichotomy k i with h|h|h
    ·omega
    ·subst h;exact F
    ·exact hhigh k q c h (.inr ⟨_,f,by omega,by omega⟩)
   rw [C,jO recs 0 _ (fun _ _=>rfl)]
   cases z:ai s.hp (A+4*i+j) with
   |none=>rfl
   |some B=>have:=hn0 _ _ z;omega
  have W:ops.toArray[i]? =some o:=by simpa using L
  have hgoal:Pg P ops.toArray Q o (wpAny P .any ops.toArray Q n (listed.setIfInBounds i true)) a w:=by
   refine hstep (kH listed) m S w a u.rel.srel (fun t J=>by rw [X t J];exact u.rel.env t) hhp hfresh (fun j hj=>by
    cases f:kH listed j with
    |false=>rfl
    |true=>
     have p:=kT u.cl f hj
     rw [F] at p;cases p) Q _ ?_
   intro cv m' S' w' ds C p h3 h4
   have hF:=u.rel.put (hnt o (List.mem_of_getElem? L)) C p h3 h4
   rw [g_] at p
   rw [List.nil_append] at hF
   have he':∀ t,(ji (kH (listed.setIfInBounds i true)) 0 s.env recs).get t=(lm (ji (kH listed) 0 s.env recs) o.dst r.v).get t:=by
    intro t
    by_cases J:o.dst=some t
    ·have h5:(ji (kH (listed.setIfInBounds i true)) 0 s.env recs).get t=(ji (fun j=>decide (j<i+1)) 0 s.env recs).get t:=by
      refine jJ recs 0 _ _ rfl fun k q c f=> ?_
      rw [Nat.zero_add]
      have T:t ∈ r.foot.wt:=oG (E.trans J)
      exact hagr' k q c (fun _=>DL (oG f) T) (fun _=>DL T (oG f))
     rw [h5,sD,AC _ _ _ _ v,E,J,fG,fG]
    ·rw [sG J]
     refine jJ recs 0 _ _ rfl fun k q c f=> ?_
     rw [Nat.zero_add,l,if_neg]
     rintro rfl
     rw [v] at c;cases c
     exact J (E ▸ f)
   have G:ai (jZ (kH (listed.setIfInBounds i true)) 0 s.hp recs)=ai (r.ups++jZ (kH listed) 0 s.hp recs):=by
    funext b
    by_cases z:b ∈ r.ups.map (·.1)
    ·have h5:ai (jZ (kH (listed.setIfInBounds i true)) 0 s.hp recs) b=ai (jZ (fun j=>decide (j<i+1)) 0 s.hp recs) b:=by
      refine lJ recs 0 _ _ rfl fun k q c f=> ?_
      rw [Nat.zero_add]
      exact hagr' k q c (fun _=>Aw f z) (fun _=>Aw z f)
     rw [h5,FQ,KL _ _ _ _ v]
     exact sU z
    ·rw [mM z]
     refine lJ recs 0 _ _ rfl fun k q c f=> ?_
     rw [Nat.zero_add,l,if_neg]
     rintro rfl
     rw [v] at c;cases c
     exact z f
   refine ih _ m' S' w' _ ⟨by rw [Array.size_setIfInBounds];exact u.sz,R, ?_,hF.congr he' G⟩ ?_
   ·rw [G];exact u.fr.trans p
   ·have:=vW F l (List.range ops.length) List.nodup_range (by simp [U])
    simp only [xe] at hm ⊢
    omega
  simp only [wpOp,W]
  exact hgoal
theorem JX {ops:List Oper} {recs:List gU} {s s':RS} {l nt:Nat} (p:∀ o ∈ ops,∀ d,o.dst=some d→d<nt) (c:recs.length=ops.length) (f:JK P ap ops 0 l s s' recs) (n:s'.dfs.length=s.dfs.length)
  (hord:BI l (fun j i=>((Region.before ops.toArray).toList.getD j 0).testBit i) recs) (hback:mD ops=true) (hn0:∀ b B,ai s.hp b=some B→b<l) {m0:aF} {S0:ay} {w0:World} {Q:Exit→Act→World→Prop}
  (hQ:∀ m S w a,Fr (ai s.hp) m0 S0 w0 (ai (yB s.hp recs)) m S w→FR ap (jX s.env recs) (yB s.hp recs) s.dfs nt m S w a→Q .normal a w):
  ∀ (fuel:Nat) (listed:Array Bool) (m:aF) (S:ay) (w:World) (a:Act),Ru ap ops recs s.env s.hp s.dfs nt m0 S0 w0 listed m S w a→xe ops.length (kH listed)≤fuel→wpAny P .any ops.toArray Q fuel listed a w:=by
 obtain ⟨_,e⟩:=f.sem n
 refine DV p c f.bound (fun k r x=> ?_) hord hback hn0 hQ
 obtain ⟨o,t,u,A⟩:=e k r x
 rw [Nat.zero_add] at t
 exact ⟨o,t,u,fun D m S w a v C h q _ Q K z=>A _ m S w a v C (fun b E B y=>by rw [← h b E];exact y) q Q K z⟩
def kC (ap:AP) (base:Nat) (keep:List Nat) (hp0:Hp) (m:aF) (S:ay) (w:World) (nt:Nat) (s':St) (Q:Exit→Act→World→Prop):bf→Prop
 | .panic v=>match (bU v).isEmpty with
  |true=> ∀ s1:St,s'=norm base keep s1→rH ap hp0 m S w nt s1.env s1.hp s1.dfs Q (some v)
  |false=>rH ap hp0 m S w nt s'.env s'.hp s'.dfs Q (some v)
 | .normal=> ∀ s1:St,s'=norm base keep s1→rH ap hp0 m S w nt s1.env s1.hp s1.dfs Q none
 |_=>True
theorem Dc (z:dn P ap) (G:P.follows .mixedOrders=true) (I:fC P ap H) {ops:List Oper} {l:Bool} {nt base:Nat} {keep:List Nat} (u:∀ o ∈ ops,∀ d,o.dst=some d→d<nt) {s:St} {e:bf} {s':St} {c c':Cx} {id:Nat}
  (h:C_ ap H base keep ops l s c= .ok (e,s') c') (hc:c'.Ok):c.Ok∧(s.md= .dead→s'.md= .dead∧(∀ m S w a,FR ap s.env s.hp s.dfs nt m S w a→∀ Q,
   kC ap base keep s.hp m S w nt s' Q e→(Code.region id ops.toArray l).wp P Q a w)):=by
 unfold C_ at h
 obtain ⟨⟨X,p⟩,Y,J,h⟩:=R.bind_ok h
 dsimp only at h
 have A:∀ b B,ai s.hp b=some B→b<dR s.hp:=fun b B q=>jC q
 cases p with
 | some v=>
  cases l with
  |true=>cases h
  | false=>
   dsimp only at h
   split at h
   ·rename_i C
    cases h
    obtain ⟨i,hs⟩:=iY z I u ops 0 _ _ _ _ _ _ J hc
    refine ⟨i,fun f=> ?_⟩
    obtain ⟨r,D⟩:=hs f (fun t b q=>by cases q) rfl A
    refine ⟨r,fun m S w a j Q x=>wp_region ?_⟩
    simp only [kC,C] at x
    have:=D m S w a j Q (x _ rfl)
    rw [← List.range_eq_range'] at this
    simpa using this
   ·rename_i C
    cases h
    obtain ⟨i,hs⟩:=iY z I u ops 0 _ _ _ _ _ _ J hc
    refine ⟨i,fun f=> ?_⟩
    obtain ⟨r,D⟩:=hs f (fun t b q=>by cases q) rfl A
    refine ⟨r,fun m S w a j Q x=>wp_region ?_⟩
    simp only [kC,C] at x
    have:=D m S w a j Q x
    rw [← List.range_eq_range'] at this
    simpa using this
 | none=>
  dsimp only at h
  split at h
  ·rename_i hcond
   cases h
   cases l with
   |false=>
    obtain ⟨i,hs⟩:=iY z I u ops 0 _ _ _ _ _ _ J hc
    refine ⟨i,fun f=> ?_⟩
    obtain ⟨r,D⟩:=hs f (fun t b q=>by cases q) rfl A
    refine ⟨r,fun m S w a j Q x=>wp_region ?_⟩
    have:=D m S w a j Q (x _ rfl)
    rw [← List.range_eq_range'] at this
    simpa using this
   | true=>
    obtain ⟨i,hs⟩:=Nu z I ops 0 _ _ _ _ _ J hc
    refine ⟨i,fun f=> ?_⟩
    obtain ⟨r,recs,F,n⟩:=hs f (fun t b q=>by cases q) rfl
    refine ⟨r,fun m S w a j Q x=>wp_region_any G ?_⟩
    simp only [Bool.not_true,Bool.false_or,Bool.and_eq_true] at hcond
    obtain ⟨⟨T,hback⟩,y⟩:=hcond
    have y:=az y
    rw [n.feet,List.append_nil] at T
    have L:=x _ rfl
    have M:=(n.sem y).1
    have E:kH (Array.replicate ops.length false)=fun _=>false:=by
     funext k
     simp only [kH,Array.getD_eq_getD_getElem?]
     by_cases O:k<ops.length<;>simp [O]
    have K:ops.toArray.size=ops.length:=by simp
    rw [K]
    refine JX u F n y (yY T) hback A (m0:=m) (S0:=S) (w0:=w) (Q:=Q) ?_ ops.length _ m S _ a ⟨by simp, ?_, ?_, ?_⟩ ?_
    ·intro W S' w' a' N V
     refine L W S' w' a' ?_ ?_
     ·rw [n.hp];exact N
     ·rw [n.hp,n.env,M];exact V
    ·intro k o O U
     rw [E] at U;cases U
    ·rw [E,jO recs 0 _ (fun _ _=>rfl)]
     exact ⟨Ge.refl _ _,gy.refl _,rfl,rfl,rfl,Nat.le_refl _,fun _ _ _=>rfl,fun _ B h=> .inr ⟨B,h,rfl⟩,fun _ _ _ h=> .inl h,(MW.refl _).mb _ _⟩
    ·rw [E,jO recs 0 _ (fun _ _=>rfl),pF recs 0 _ (fun _ _=>rfl)]
     exact ⟨⟨j.srel.inj,fun b B q=>j.srel.blk b B q|>fun ⟨r,D,N⟩=> ⟨r,D,N⟩,j.srel.sealed,j.srel.own,j.srel.glob⟩,j.env,j.dfs,j.size⟩
    ·exact Nat.le_trans (List.length_filter_le _ _) (by simp)
  ·cases h
end
end AM
namespace AM
open Go
def wH (acc:List Nat) (b:Nat):List Nat:=if j_ acc b then acc else acc++ [b]
theorem IG (a:List Nat) (b:Nat) (h:a.Nodup):(wH a b).Nodup∧∃ t,wH a b=a++t:=by
 unfold wH
 split
 ·exact ⟨h,[],by simp⟩
 ·rename_i f
  refine ⟨?_,[b],rfl⟩
  rw [List.nodup_append]
  refine ⟨h,by simp, ?_⟩
  intro x d y c e
  simp at c
  subst c;subst e
  exact f (eX.2 d)
theorem kE:∀ (l a:List Nat),a.Nodup→(l.foldl wH a).Nodup∧∃ t,l.foldl wH a=a++t
 | [],a,h=> ⟨h,[],by simp⟩
 |b::r,a,h=>by
  simp only [List.foldl_cons]
  obtain ⟨i,c,d⟩:=IG a b h
  obtain ⟨j,f,e⟩:=kE r _ i
  exact ⟨j,c++f,by rw [e,d,List.append_assoc]⟩
theorem xH:∀ (l a:List Nat),l.Nodup→(∀ x ∈ l,x ∉ a)→l.foldl wH a=a++l
 | [],a,_,_=>by simp
 | b::r,a,h,hd=>by
  rw [List.nodup_cons] at h
  have d:j_ a b=false:=by
   cases hm:j_ a b with
   |false=>rfl
   |true=>exact absurd (eX.1 hm) (hd b (by simp))
  simp only [List.foldl_cons]
  have:wH a b=a++ [b]:=by simp [wH,d]
  rw [this,xH r _ h.2]
  ·simp
  ·intro x c hm
   rcases List.mem_append.1 hm with hm|hm
   ·exact hd x (by simp [c]) hm
   ·simp at hm;subst hm;exact h.1 c
theorem Jh (l:List Nat):eF l=l.foldl wH []:=rfl
theorem F_ (n:Nat) (l:List Nat):(eF (List.range n++l)).Nodup∧∃ t,eF (List.range n++l)=List.range n++t:=by
 rw [Jh,List.foldl_append,xH (List.range n) [] List.nodup_range (by simp),List.nil_append]
 exact kE l _ List.nodup_range
theorem og (rd:bD):∀ (n:Nat) (l:List Nat),l.Nodup→(kV rd n l).Nodup∧∃ t,kV rd n l=l++t
 |0,l,h=> ⟨h,[],by simp [kV]⟩
 | n+1,l,h=>by
  simp only [kV]
  split
  ·exact ⟨h,[],by simp⟩
  ·obtain ⟨f,a,c⟩:=kE (l.flatMap fun b=>match rd b with|some B=>(match B.pr with|true=> []|false=>a_ B.cells)|none=> []) l h
   obtain ⟨i,d,e⟩:=og rd n _ f
   refine ⟨i,a++d, ?_⟩
   exact e.trans (by rw [c,List.append_assoc])
theorem Ba {f:Nat→AV}:∀ (keep:List Nat) (t:Nat),ai (keep.map fun t=>(t,f t)) t=if t ∈ keep then some (f t) else none
 | [],t=>by simp [ai]
 | a::r,t=>by
  simp only [List.map_cons,ai,Ba r t]
  cases h:Nat.beq a t with
  |true=>have:=az h;subst this;simp
  |false=>
   have b:t ≠ a:=by intro e;subst e;simp at h
   simp [b]
theorem vT {rd:bD} {mk:Nat→aJ→aJ}:∀ (ids:List Nat) (j p:Nat),ai ((ids.zipIdx j).filterMap fun (b,p)=>(rd b).map fun B=>(p,mk p B)) p=if j≤p then (ids[p - j]?).bind fun b=>(rd b).map (mk p) else none
 | [],j,p=>by simp [ai]
 | a ::r,j,p=>by
  have i:=vT (rd:=rd) (mk:=mk) r (j+1) p
  rw [List.zipIdx_cons]
  cases c:rd a with
  | none=>
   rw [List.filterMap_cons_none (by simp [c]),i]
   by_cases hj:j+1≤p
   ·rw [if_pos hj,if_pos (by omega)]
    obtain ⟨d,f⟩:∃ d,p - j=d+1:=⟨p - j - 1,by omega⟩
    rw [f,List.getElem?_cons_succ,show p - (j+1)=d by omega]
   ·rw [if_neg hj]
    by_cases hjp:j≤p
    ·rw [if_pos hjp,show p - j=0 by omega];simp [c]
    ·rw [if_neg hjp]
  | some B=>
   rw [List.filterMap_cons_some (by simp [c];rfl)]
   simp only [ai]
   cases h:Nat.beq j p with
   |true=>have:=az h;subst this;simp [c]
   | false=>
    have k:j ≠ p:=by intro e;subst e;simp at h
    simp only [i]
    by_cases hj:j+1≤p
    ·rw [if_pos hj,if_pos (by omega)]
     obtain ⟨d,f⟩:∃ d,p - j=d+1:=⟨p - j - 1,by omega⟩
     rw [f,List.getElem?_cons_succ,show p - (j+1)=d by omega]
    ·rw [if_neg hj,if_neg (by omega)]
theorem Bg:∀ {l:List Nat},l.Nodup→mO l=true
 | [],_=>rfl
 |b::r,h=>by
  rw [List.nodup_cons] at h
  simp only [mO,Bool.and_eq_true,Bool.not_eq_true']
  refine ⟨?_,Bg h.2⟩
  cases hm:j_ r b with
  |false=>rfl
  |true=>exact absurd (eX.1 hm) h.1
section
variable {P:Program} {ap:AP} {H:bg}
theorem Dw {g g':bD} {m b:aF} {S S':ay} {ρ:Nat→Nat→Option (Nat × Nat)} (c:gy S S') (h:nH g m g' b ρ):∀ {l:List (Nat × List AV)} {ds:List Deferred},dJ g m S l ds→dJ g' b S' (l.map fun d=>(d.1,jA ρ d.2)) ds
 | [],[],_=>by simp [dJ]
 |d::r,cd::cr,p=>by
  simp only [dJ] at p
  obtain ⟨⟨a,i,e⟩,f⟩:=p
  simp only [List.map_cons,dJ]
  exact ⟨⟨a,i,ig c h _ e⟩,Dw c h f⟩
 | [],_::_,p=>by simp [dJ] at p
 |_::_,[],p=>by simp [dJ] at p
theorem iU {h0:List aJ} {keep:List Nat} {s:St} {nt:Nat} {m m0:aF} {S S0:ay} {w w0:World} {a:Act} (c:Fr (aC h0) m0 S0 w0 (ai s.hp) m S w) (E:FR ap s.env s.hp s.dfs nt m S w a):
  ∃ m',Fr (aC h0) m0 S0 w0 (ai (norm h0.length keep s).hp) m' S w∧FR ap (norm h0.length keep s).env (norm h0.length keep s).hp (norm h0.length keep s).dfs nt m' S w a:=by
 obtain ⟨_,t0,U⟩:=og (ai s.hp) 20 (List.range h0.length) List.nodup_range
 generalize hroots:t0++(xY keep s.env++s.dfs.flatMap (fun d=>a_ d.2))=roots
 have hroots':kV (ai s.hp) 20 (List.range h0.length)++xY keep s.env++s.dfs.flatMap (fun d=>a_ d.2)=List.range h0.length++roots:=by rw [← hroots,U];simp only [List.append_assoc]
 obtain ⟨T,t1,J⟩:=F_ h0.length roots
 obtain ⟨Q,t2,I⟩:=og (ai s.hp) 20 _ T
 rw [J,List.append_assoc] at I
 have hsome:∀ b,b<h0.length→∃ B0 B,aC h0 b=some B0∧ai s.hp b=some B∧B.esz=B0.esz∧((B.ver=B0.ver∧m b=m0 b)∨B0.ver<B.ver):=by
  intro b z
  obtain ⟨B,k,l⟩:=c.ge b h0[b] (by simp [aC,z])
  exact ⟨h0[b],B,by simp [aC,z],k,l⟩
 generalize n:(kV (ai s.hp) 20 (eF (List.range h0.length++roots))).filter (fun b=>(ai s.hp b).isSome)=ids
 have O:ids.Nodup:=by rw [← n];exact Q.filter _
 have C:=Bg O
 have y:∃ t,ids=List.range h0.length++t:=by
  rw [← n,J,I,List.filter_append]
  refine ⟨_,congrArg (· ++_) ?_⟩
  rw [List.filter_eq_self]
  intro b z
  obtain ⟨_,B,_,l,_⟩:=hsome b (by simpa using z)
  simp [l]
 obtain ⟨t,y⟩:=y
 have x:∀ b,b<h0.length→ids[b]? =some b:=by
  intro b z
  rw [y,List.getElem?_append_left (by simpa using z)]
  simp [z]
 have M:∀ (p b:Nat),ids[p]? =some b→∃ B,ai s.hp b=some B:=by
  intro p b hp
  have:=List.mem_of_getElem? hp
  rw [← n,List.mem_filter] at this
  exact Option.isSome_iff_exists.1 this.2
 let ρ:Nat→Nat→Option (Nat × Nat):=fun b v=>match ai s.hp b with
  |some B=>match Nat.beq B.ver v with
   |true=>(kX ids b).map fun p=>(p,match Nat.blt p h0.length with|true=>v|false=>0)
   |false=>none
  |none=>none
 let mk:Nat→aJ→aJ:=fun p B=> {B with cells:=(match B.pr with|true=>B.cells|false=>jA ρ B.cells),ver:=match Nat.blt p h0.length with|true=>B.ver|false=>0}
 have hnorm:norm h0.length keep s=⟨keep.map fun t=>(t,ren ρ (s.env.get t)),ids.zipIdx.filterMap fun (b,p)=>(ai s.hp b).map fun B=>(p,mk p B),s.md,s.dfs.map fun d=>(d.1,jA ρ d.2)⟩:=by
  unfold norm
  simp only [hroots',n]
  rfl
 rw [hnorm]
 dsimp only
 have A:∀ p,ai (ids.zipIdx.filterMap fun (b,p)=>(ai s.hp b).map fun B=>(p,mk p B)) p=(ids[p]?).bind fun b=>(ai s.hp b).map (mk p):=by
  intro p
  rw [vT (rd:=ai s.hp) (mk:=mk) ids 0 p,if_pos (Nat.zero_le _),Nat.sub_zero]
 generalize (ids.zipIdx.filterMap fun (b,p)=>(ai s.hp b).map fun B=>(p,mk p B))=hp2 at A
 have f:∀ (p:Nat) (B2:aJ),ai hp2 p=some B2→∃ b B,ids[p]? =some b∧ai s.hp b=some B∧B2=mk p B:=by
  intro p B2 h
  rw [A] at h
  cases hp:ids[p]? with
  |none=>rw [hp] at h;cases h
  |some b=>
   rw [hp] at h
   obtain ⟨B,K⟩:=M p b hp
   simp only [Option.bind_some,K,Option.map_some,Option.some.injEq] at h
   exact ⟨b,B,rfl,K,h.symm⟩
 let m2:aF:=fun p=>m (ids.getD p 0)
 have j:∀ (p b:Nat),ids[p]? =some b→m2 p=m b:=by
  intro p b hp
  show m (ids.getD p 0)=_
  rw [List.getD_eq_getElem?_getD,hp];rfl
 have u:nH (ai s.hp) m (ai hp2) m2 ρ:=by
  intro b ver p X h B K Y
  simp only [ρ,K] at h
  split at h
  ·rename_i G
   have G:=az G
   simp only [Option.map_eq_some_iff,Prod.mk.injEq] at h
   obtain ⟨q,F,rfl,rfl⟩:=h
   have F:=lL F
   refine ⟨mk q B, ?_, ?_,fun _=> ⟨G,j q b F,rfl⟩⟩
   ·rw [A,F];simp [K]
   ·simp only [mk]
    split
    ·omega
    ·exact Nat.le_refl _
  ·cases h
 have D:∀ (p q b:Nat),ids[p]? =some b→ids[q]? =some b→p=q:=by
  intro p q b hp F
  have Z:=kQ C hp
  rw [kQ C F] at Z
  cases Z;rfl
 refine ⟨m2, ?_, ?_, ?_, ?_,E.size⟩
 ·refine ⟨?_,c.sle,c.os,c.tape,c.output,c.size,c.rest, ?_,c.sealN,fun p B2 hp=>by
   obtain ⟨b,B,k,l,rfl⟩:=f p B2 hp
   rw [j p b k]
   exact c.mw b B l⟩
  ·intro b B0 z
   have r:b<h0.length:=(List.getElem?_eq_some_iff.1 z).1
   obtain ⟨B0',B,k,l,N,R⟩:=hsome b r
   rw [z] at k;cases k
   have W:Nat.blt b h0.length=true:=Nat.ble_eq_true_of_le r
   refine ⟨mk b B,by rw [A,x b r];simp [l],N, ?_⟩
   simp only [mk,W]
   rw [j b b (x b r)]
   exact R
  ·intro p B2 hp
   obtain ⟨b,B,k,l,rfl⟩:=f p B2 hp
   rw [j p b k]
   rcases c.img b B l with h|⟨B0,N,R⟩
   ·exact .inl h
   ·have r:b<h0.length:=(List.getElem?_eq_some_iff.1 N).1
    have:=D p b b k (x b r)
    subst this
    exact .inr ⟨B0,N,R⟩
 ·refine ⟨?_, ?_,E.srel.sealed, ?_,E.srel.glob⟩
  ·intro p q B2 B2' hp F e
   obtain ⟨b,B,k,l,rfl⟩:=f p B2 hp
   obtain ⟨b',B',L,V,rfl⟩:=f q B2' F
   rw [j p b k,j q b' L] at e
   have:=E.srel.inj b b' B B' l V e
   subst this
   exact D p q b k L
  ·intro p B2 hp
   obtain ⟨b,B,k,l,rfl⟩:=f p B2 hp
   rw [j p b k]
   obtain ⟨⟨cur,e,vs,rest,k1,k2,k3,k4,k5,k6⟩,k7,k8⟩:=E.srel.blk b B l
   cases i:B.pr with
   |true=>exact ⟨⟨cur,e,vs,rest,k1,k2,fun _=>by simpa [mk,i] using k3 i,by simpa [mk,i] using aX _ (k3 i),k5,k6⟩,k7,by simpa [mk,i] using k8⟩
   | false=>
    have G:=ig (gy.refl S) u _ k4
    exact ⟨⟨cur,e,vs,rest,k1,k2,fun h=>by simp [mk,i] at h,by simpa [mk,i] using G,k5,k6⟩,k7,by
     have:(mk p B).cells.length=B.cells.length:=by simp only [mk,i];rw [aW k4,aW G]
     rw [this];exact k8⟩
  ·intro p B2 hp o v ho
   obtain ⟨b,B,k,l,rfl⟩:=f p B2 hp
   rw [j p b k] at ho
   exact E.srel.own b B l o v ho
 ·intro t
  simp only [dF.get,Ba]
  by_cases ht:t ∈ keep
  ·rw [if_pos ht]
   exact uf (gy.refl S) u _ (E.env t)
  ·rw [if_neg ht]
   simp [VR]
 ·exact Dw (gy.refl S) u E.dfs
end
end AM
namespace AM
open Go
mutual
theorem nX {g g':bD} {m n:aF} {S S':ay} (i:gy S S'):∀ (x:AV) {v:Value},(∀ b ∈ bU x,g' b=g b∧n b=m b)→VR g m S x v→VR g' n S' x v
 | .int _ _,_,_,p=>by simpa only [VR,PR] using p
 | .bool _,_,_,p=>by simpa only [VR,PR] using p
 | .str _,_,_,p=>by simpa only [VR,PR] using p
 | .nilS,_,_,p=>by simpa only [VR,PR] using p
 | .nilP,_,_,p=>by simpa only [VR,PR] using p
 | .raw _,_,_,p=>by simpa only [VR,PR] using p
 | .nilF,_,_,p=>by simpa only [VR,PR] using p
 | .nilI,_,_,p=>by simpa only [VR,PR] using p
 | .sl _ _ _,_,_,p=>by simp only [VR] at p ⊢;exact bn i _ p
 | .pp _ _,_,_,p=>by simp only [VR] at p ⊢;exact bn i _ p
 | .mp _ _,_,_,p=>by simp only [VR] at p ⊢;exact bn i _ p
 | .dead,_,_,_=>by simp only [VR]
 | .own _ _ _,_,_,p=>by simp only [VR] at p
 | .ref b _ _ _,_,h,p=>by
  obtain ⟨k,j⟩:=h b (by simp [bU])
  simp only [VR] at p ⊢
  rw [k,j];exact p
 | .ptr b _ _,_,h,p=>by
  obtain ⟨k,j⟩:=h b (by simp [bU])
  simp only [VR] at p ⊢
  rw [k,j];exact p
 | .mr b _,_,h,p=>by
  obtain ⟨k,j⟩:=h b (by simp [bU])
  simp only [VR] at p ⊢
  rw [k,j];exact p
 | .agg l,_,h,p=>by
  simp only [VR] at p ⊢
  obtain ⟨vs,e,q⟩:=p
  exact ⟨vs,e,iQ i l (fun b d=>h b (by simpa [bU] using d)) q⟩
 | .tup l,_,h,p=>by
  simp only [VR] at p ⊢
  obtain ⟨vs,e,q⟩:=p
  exact ⟨vs,e,iQ i l (fun b d=>h b (by simpa [bU] using d)) q⟩
 | .fn f a c,_,h,p=>by
  simp only [VR] at p ⊢
  obtain ⟨s,o,e,q,r⟩:=p
  exact ⟨s,o,e,iQ i a (fun b d=>h b (by simp [bU,d])) q,iQ i c (fun b d=>h b (by simp [bU,d])) r⟩
 | .ifc t x,_,h,p=>by
  simp only [VR] at p ⊢
  obtain ⟨u,e,q⟩:=p
  exact ⟨u,e,nX i x (fun b d=>h b (by simpa [bU] using d)) q⟩
theorem iQ {g g':bD} {m c:aF} {S S':ay} (d:gy S S'):∀ (l:List AV) {vs:List Value},(∀ b ∈ a_ l,g' b=g b∧c b=m b)→aO g m S l vs→aO g' c S' l vs
 | [],[],_,_=>by simp only [aO]
 |x::r,v::vs,h,p=>by
  simp only [aO] at p ⊢
  exact ⟨nX d x (fun b a=>h b (by simp [a_,a])) p.1,iQ d r (fun b a=>h b (by simp [a_,a])) p.2⟩
 | [],_::_,_,p=>by simp [aO] at p
 |_::_,[],_,p=>by simp [aO] at p
end
theorem jr {g:bD} {m:aF} {S:ay} {x:AV} {v:Value} (h:(bU x).isEmpty=true) (d:VR g m S x v):PR S x v:=by
 have c:bU x= []:=by simpa using h
 exact jF (m:=m) x (nX (gy.refl S) x (fun b a=>by rw [c] at a;cases a) d)
def qx (nt:Nat) (o:Oper):Bool:=match o.dst with|some d=>Nat.blt d nt|none=>true
def bW (nt:Nat):Code→Bool
 | .region _ ops _=>ops.toList.all (qx nt)
 | .seq a b=>bW nt a && bW nt b
 | .cond _ a b=>bW nt a && bW nt b
 | .block _ b=>bW nt b
 | .loop b=>bW nt b
 | .scope b=>bW nt b
 |_=>true
section
variable {P:Program} {ap:AP} {H:bg}
def vk (hp:Hp) (m:aF) (S:ay) (Q:Exit→Act→World→Prop) (a:Act) (w:World):bf→Prop
 | .normal=>Q .normal a w
 | .exit id=>Q (.exit id) a w
 | .ret=>Q .ret a w
 | .panic v=> ∀ cv,VR (ai hp) m S v cv→Q (.panic [{v:=cv,recovered:=false}]) a w
def XA (ap:AP) (h0:List aJ) (m0:aF) (S0:ay) (w0:World) (nt:Nat) (s':St) (e:bf) (Q:Exit→Act→World→Prop):Prop:=
 ∀ m' S' w' a',Fr (aC h0) m0 S0 w0 (ai s'.hp) m' S' w'→FR ap s'.env s'.hp s'.dfs nt m' S' w' a'→vk s'.hp m' S' Q a' w' e
def ah (P:Program) (ap:AP) (h0:List aJ) (nt:Nat) (code:Code) (s:St) (e:bf) (s':St):Prop:=
 s.md= .dead→s'.md= .dead∧∀ m0 S0 w0 m S w a,Fr (aC h0) m0 S0 w0 (ai s.hp) m S w→FR ap s.env s.hp s.dfs nt m S w a→∀ Q,XA ap h0 m0 S0 w0 nt s' e Q→code.wp P Q a w
theorem ah.still {h0:List aJ} {nt:Nat} {b:Code} {s:St} {e:bf} (h:∀ (Q:Exit→Act→World→Prop) hp m S a w,vk hp m S Q a w e→b.wp P Q a w):ah P ap h0 nt b s e s:=
 fun c=> ⟨c,fun _ _ _ m S w a d f Q i=>h Q s.hp m S a w (i m S w a d f)⟩
theorem yE {h0:List aJ} {nt:Nat} {b:Code} {f:St→Cx→R (bf × St)} (z:∀ s e s' c c',f s c= .ok (e,s') c'→c'.Ok→c.Ok∧ah P ap h0 nt b s e s'):
  ∀ (n:Nat) (s:St) (e:bf) (s':St) (c c':Cx),Hr f n s c= .ok (e,s') c'→c'.Ok→c.Ok∧(s.md= .dead→s'.md= .dead∧∀ m0 S0 w0 m S w a,Fr (aC h0) m0 S0 w0 (ai s.hp) m S w→FR ap s.env s.hp s.dfs nt m S w a→∀ Q,XA ap h0 m0 S0 w0 nt s' e Q→Code.rounds P b Q n a w)
 |0,s,e,s',c,c',h,hc=>by cases h
 | n+1,s,e,s',c,c',h,hc=>by
  simp only [Hr] at h
  obtain ⟨⟨r,C⟩,D,B,h⟩:=R.bind_ok h
  dsimp only at h
  have hother:r ≠ .normal→R.ok (r,C) D=R.ok (e,s') c'→c.Ok∧(s.md= .dead→s'.md= .dead∧∀ m0 S0 w0 m S w a,Fr (aC h0) m0 S0 w0 (ai s.hp) m S w→FR ap s.env s.hp s.dfs nt m S w a→∀ Q,XA ap h0 m0 S0 w0 nt s' e Q→Code.rounds P b Q (n+1) a w):=by
   intro k I
   cases I
   obtain ⟨i,A⟩:=z _ _ _ _ _ B hc
   refine ⟨i,fun d=> ?_⟩
   obtain ⟨y,l⟩:=A d
   refine ⟨y,fun m0 S0 w0 m S w a j u Q x=>l m0 S0 w0 m S w a j u _ ?_⟩
   intro t S' w' a' p q
   have:=x t S' w' a' p q
   cases e with
   |normal=>exact absurd rfl k
   |exit id=>exact this
   |ret=>exact this
   |panic v=>exact this
  cases r with
  |normal=>
   dsimp only at h
   obtain ⟨o,E⟩:=yE z n C e s' D c' h hc
   obtain ⟨i,A⟩:=z _ _ _ _ _ B o
   refine ⟨i,fun d=> ?_⟩
   obtain ⟨y,l⟩:=A d
   obtain ⟨p,q⟩:=E y
   refine ⟨p,fun m0 S0 w0 m S w a j u Q x=>l m0 S0 w0 m S w a j u _ ?_⟩
   intro t S' w' a' G F
   exact q m0 S0 w0 t S' w' a' G F Q x
  |exit id=>exact hother (by simp) h
  |ret=>exact hother (by simp) h
  |panic v=>exact hother (by simp) h
theorem di (p:dn P ap) (i:P.follows .mixedOrders=true) (G:fC P ap H) {h0:List aJ} {keep:List Nat} {lf nt:Nat}:∀ (code:Code),bW nt code=true→∀ (s:St) (e:bf) (s':St) (c c':Cx),iK ap H h0.length keep lf code s c= .ok (e,s') c'→c'.Ok→c.Ok∧ah P ap h0 nt code s e s'
 | .skip,_,s,e,s',c,c',h,n=>by
  cases h
  exact ⟨n,ah.still fun Q hp m S a w q=>wp_skip q⟩
 | .label l,_,s,e,s',c,c',h,n=>by
  cases h
  exact ⟨n,ah.still fun Q hp m S a w q=>wp_label q⟩
 | .exit id,_,s,e,s',c,c',h,n=>by
  cases h
  exact ⟨n,ah.still fun Q hp m S a w q=>wp_exit q⟩
 | .ret,_,s,e,s',c,c',h,n=>by
  cases h
  exact ⟨n,ah.still fun Q hp m S a w q=>wp_ret q⟩
 | .region id ops draw,hd,s,e,s',c,c',h,n=>by
  have Z:∀ o ∈ ops.toList,∀ d,o.dst=some d→d<nt:=by
   intro o ho d W
   have:=List.all_eq_true.1 hd o ho
   simp only [qx,W] at this
   exact dL this
  obtain ⟨k,hr⟩:=Dc p i G Z (id:=id) h n
  refine ⟨k,fun j=> ?_⟩
  obtain ⟨F,h2⟩:=hr j
  refine ⟨F,fun m0 S0 w0 m S w a f B Q C=> ?_⟩
  have:=h2 m S w a B Q
  rw [Array.toArray_toList] at this
  refine this ?_
  cases e with
  |normal=>
   intro O M E S' w' a' D u
   obtain ⟨X,r,A⟩:=iU (keep:=keep) (f.trans D) u
   rw [← M] at r A
   exact C X S' w' a' r A
  | panic v=>
   simp only [kC]
   split
   ·rename_i hre
    intro O M E S' w' a' cv D u r
    obtain ⟨X,A,V⟩:=iU (keep:=keep) (f.trans D) u
    rw [← M] at A V
    exact C X S' w' a' A V cv (dG _ (jr hre r))
   ·intro E S' w' a' cv D u r
    exact C E S' w' a' (f.trans D) u cv r
  |exit id=>trivial
  |ret=>trivial
 | .seq x y,hd,s,e,s',c,c',h,n=>by
  simp only [bW,Bool.and_eq_true] at hd
  simp only [iK] at h
  obtain ⟨⟨L,O⟩,N,F,h⟩:=R.bind_ok h
  dsimp only at h
  have hother:L ≠ .normal→R.ok (L,O) N=R.ok (e,s') c'→c.Ok∧ah P ap h0 nt (.seq x y) s e s':=by
   intro K U
   cases U
   obtain ⟨k,J⟩:=di p i G x hd.1 _ _ _ _ _ F n
   refine ⟨k,fun j=> ?_⟩
   obtain ⟨D,u⟩:=J j
   refine ⟨D,fun m0 S0 w0 m S w a f B Q C=>wp_seq (u m0 S0 w0 m S w a f B _ ?_)⟩
   intro E S' w' a' r A
   have:=C E S' w' a' r A
   cases e with
   |normal=>exact absurd rfl K
   |exit id=>exact this
   |ret=>exact this
   |panic v=>exact this
  cases L with
  |normal=>
   dsimp only at h
   obtain ⟨I,Y⟩:=di p i G y hd.2 _ _ _ _ _ h n
   obtain ⟨k,J⟩:=di p i G x hd.1 _ _ _ _ _ F I
   refine ⟨k,fun j=> ?_⟩
   obtain ⟨D,u⟩:=J j
   obtain ⟨r,A⟩:=Y D
   refine ⟨r,fun m0 S0 w0 m S w a f B Q C=>wp_seq (u m0 S0 w0 m S w a f B _ ?_)⟩
   intro E S' w' a' V h8
   exact A m0 S0 w0 E S' w' a' V h8 Q C
  |exit id=>exact hother (by simp) h
  |ret=>exact hother (by simp) h
  |panic v=>exact hother (by simp) h
 | .cond t x y,hd,s,e,s',c,c',h,n=>by
  simp only [bW,Bool.and_eq_true] at hd
  simp only [iK] at h
  split at h
  ·rename_i bv hbv
   obtain ⟨b',N,F,h⟩:=R.bind_ok h
   have key:∀ (z:Code),(N.Ok→N.Ok∧z=if bv then x else y)→N.Ok∧ah P ap h0 nt z s e s'→c.Ok∧ah P ap h0 nt (.cond t x y) s e s':=by
    rintro z hzz ⟨I,Y⟩
    obtain ⟨k,hb⟩:=iR F I
    refine ⟨k,fun j=> ?_⟩
    obtain ⟨r,A⟩:=Y j
    refine ⟨r,fun m0 S0 w0 m S w a f B Q C=>wp_cond (t:=bv) ?_ ?_⟩
    ·have:=qR B.srel (a:=a) (env:=s.env) t (fun t _=>B.env t)
     rw [hbv] at this
     simpa only [VR,PR] using this
    ·rw [← (hzz I).2]
     exact A m0 S0 w0 m S w a f B Q C
   cases b' with
   |true=>exact key x (fun T=> ⟨T,by rw [← (iR F T).2];rfl⟩) (di p i G x hd.1 _ _ _ _ _ h n)
   |false=>exact key y (fun T=> ⟨T,by rw [← (iR F T).2];rfl⟩) (di p i G y hd.2 _ _ _ _ _ h n)
  ·cases h
 | .block id b,hd,s,e,s',c,c',h,n=>by
  simp only [bW] at hd
  simp only [iK] at h
  obtain ⟨⟨L,O⟩,N,F,h⟩:=R.bind_ok h
  dsimp only at h
  have hcc:N=c':=by
   cases L<;>dsimp only at h
   ·cases h;rfl
   ·split at h<;>cases h<;>rfl
   ·cases h;rfl
   ·cases h;rfl
  subst hcc
  obtain ⟨k,J⟩:=di p i G b hd _ _ _ _ _ F n
  refine ⟨k,fun j=> ?_⟩
  obtain ⟨D,u⟩:=J j
  have hs:O=s':=by
   cases L<;>dsimp only at h
   ·cases h;rfl
   ·split at h<;>cases h<;>rfl
   ·cases h;rfl
   ·cases h;rfl
  subst hs
  refine ⟨D,fun m0 S0 w0 m S w a f B Q C=>wp_block (u m0 S0 w0 m S w a f B _ ?_)⟩
  intro E S' w' a' r A
  have q:=C E S' w' a' r A
  cases L with
  |normal=>cases h;exact q
  |ret=>cases h;exact q
  |panic v=>cases h;exact q
  | exit id'=>
   dsimp only at h
   split at h
   ·rename_i U
    cases h
    show Exit.inBlock id Q (.exit id') a' w'
    simp only [Exit.inBlock,if_pos (az U)]
    exact q
   ·rename_i U
    cases h
    show Exit.inBlock id Q (.exit id') a' w'
    have K:id' ≠ id:=by intro e;subst e;simp at U
    simp only [Exit.inBlock,if_neg K]
    exact q
 | .loop b,hd,s,e,s',c,c',h,n=>by
  simp only [bW] at hd
  simp only [iK] at h
  obtain ⟨k,J⟩:=yE (fun s e s' c c' h n=>di p i G b hd s e s' c c' h n) lf s e s' c c' h n
  refine ⟨k,fun j=> ?_⟩
  obtain ⟨D,u⟩:=J j
  exact ⟨D,fun m0 S0 w0 m S w a f B Q C=>wp_loop_rounds lf (u m0 S0 w0 m S w a f B Q C)⟩
 | .scope b,hd,s,e,s',c,c',h,n=>by
  simp only [bW] at hd
  simp only [iK] at h
  obtain ⟨k,J⟩:=di p i G b hd _ _ _ _ _ h n
  refine ⟨k,fun j=> ?_⟩
  obtain ⟨D,u⟩:=J j
  refine ⟨D,fun m0 S0 w0 m S w a f B Q C=>wp_scope_straight (u m0 S0 w0 m S w a f B _ ?_)⟩
  intro E S' w' a' r A
  have q:=C E S' w' a' r A
  cases e with
  |normal=>exact q
  |exit id=>exact q
  |ret=>exact q
  |panic v=>exact q
 | .rangeFunc _ _ _ _,_,s,e,s',c,c',h,n=>by cases h
 | .goto _,_,s,e,s',c,c',h,n=>by cases h
 | .refuse _,_,s,e,s',c,c',h,n=>by cases h
end
end AM
