/- The abstract machine over the code of the model, and the proof that it is sound. No conditions. -/
import Derived.Test.YtdmfgmmooalfnaaGreatDoorM2
import Derived.Orders
import Derived.LoopN
import Derived.Scope
set_option linter.unusedSimpArgs false
set_option linter.unusedVariables false
namespace AM
open Go
def bG (h:List aZ):dE:=fun b=>h[b]?
def jo (gh gf:dE) (m:aX) (S:aV):Nat→List AV→List Value→Prop
 |_,[],[]=>True
 |n,.own _ k _::r,v::vs=>VR gf m S (.ref n 0 0 k) v∧jo gh gf m S (n+1) r vs
 |n,x::r,v::vs=>VR gh m S x v∧jo gh gf m S n r vs
 |_,_,_=>False
def BV (gh gf:dE) (m:aX) (S:aV) (n:Nat):AV→Value→Prop
 | .tup l,v=> ∃ vs,v= .tuple vs.toArray∧jo gh gf m S n l vs
 | .own _ k _,v=>VR gf m S (.ref n 0 0 k) v
 |x,v=>VR gh m S x v
def mi (n:Nat):jU→List aZ
 | .ret v=>(lu n v).2
 | .pan _=> []
def ac5 (h':List aZ) (m':aX) (S':aV):jU→Ending→Prop
 | .ret v,e=> ∃ cv,e= .returned cv∧BV (bG h') (bG (h'++(lu h'.length v).2)) m' S' h'.length v cv
 | .pan v,e=> ∃ cv,e= .panicked [{v:=cv,recovered:=false}]∧VR (bG h') m' S' v cv
structure Gl (ap:AP) (h:List aZ) (m:aX) (S:aV) (w:World) (out:jU) (h':List aZ) (m':aX) (S':aV) (w':World) (e:Ending):Prop where
 srel:bT ap (bG (h'++mi h'.length out)) m' S' w'
 fr:Fr (bG h) m S w (bG (h'++mi h'.length out)) m' S' w'
 out:ac5 h' m' S' out e
def Dv (P:Program) (f:Nat):Prop:=∀ args w,(callFunc f args).run P w= .ok (.enter f args) w
structure aA (P:Program) (ap:AP) (f:Nat) (args:List AV) (h:List aZ) (out:jU) (h':List aZ):Prop where
 len:h.length≤h'.length
 ent:Dv P f
 calls:∀ m S w cargs,bT ap (bG h) m S w→bi (bG h) m S args cargs→Calls P f cargs.toArray w fun e w'=> ∃ m' S',Gl ap h m S w out h' m' S' w' e
def mg (P:Program) (ap:AP) (H:di):Prop:=∀ c f args h out h' md' c',H c .dead f args h= .ok (out,h',md') c'→c'.Ok→c.Ok∧aA P ap f args h out h'
section
variable {P:Program} {ap:AP} {g:dE} {m:aX} {S:aV} {w:World}
mutual
theorem nT {m:aX} {S:aV}:∀ (x:AV) {v:Value},VR (bG []) m S x v→PR S x v
 | .int _ _,_,p=>by simpa only [VR] using p
 | .bool _,_,p=>by simpa only [VR] using p
 | .str _,_,p=>by simpa only [VR] using p
 | .nilS,_,p=>by simpa only [VR] using p
 | .nilP,_,p=>by simpa only [VR] using p
 | .nilF,_,p=>by simpa only [VR] using p
 | .nilI,_,p=>by simpa only [VR] using p
 | .sl _ _ _,_,p=>by simpa only [VR] using p
 | .pp _ _,_,p=>by simpa only [VR] using p
 | .mp _ _,_,p=>by simpa only [VR] using p
 | .dead,_,_=>by simp only [PR]
 | .own _ _ _,_,p=>by simp only [VR] at p
 | .ref _ _ _ _,_,p=>by simp [VR,bG] at p
 | .ptr _ _ _,_,p=>by simp [VR,bG] at p
 | .mr _ _,_,p=>by simp [VR,bG] at p
 | .agg l,_,p=>by
  simp only [VR] at p;simp only [PR]
  obtain ⟨vs,e,q⟩:=p
  exact ⟨vs,e,lK l q⟩
 | .tup l,_,p=>by
  simp only [VR] at p;simp only [PR]
  obtain ⟨vs,e,q⟩:=p
  exact ⟨vs,e,lK l q⟩
 | .fn f a c,_,p=>by
  simp only [VR] at p;simp only [PR]
  obtain ⟨d,b,e,q,r⟩:=p
  exact ⟨d,b,e,lK a q,lK c r⟩
 | .ifc t x,_,p=>by
  simp only [VR] at p;simp only [PR]
  obtain ⟨u,e,q⟩:=p
  exact ⟨u,e,nT x q⟩
theorem lK {m:aX} {S:aV}:∀ (l:List AV) {vs:List Value},bi (bG []) m S l vs→dQ S l vs
 | [],[],_=>by simp only [dQ]
 |x::r,v::vs,p=>by simp only [bi] at p;simp only [dQ];exact ⟨nT x p.1,lK r p.2⟩
 | [],_::_,p=>by simp [bi] at p
 |_::_,[],p=>by simp [bi] at p
end
theorem acB (A:bT ap g m S w) {O l:dE} {W q:aX} {Sp S':aV} {w':World} (L:bT ap l q S' w') (t:Fr O W Sp w l q S' w') (ι:Nat→Nat)
  (hdom:∀ i Bc,O i=some Bc→∃ B,g (ι i)=some B∧W i=m (ι i))
  (hSp:oP S Sp) (hSpN:∀ k o v,Sp k o=some v→S k o=some v∨∃ b B,g b=some B∧(m b).1=k) {gN:dE} {mN:aX} (ρ:Nat→Nat→Option (Nat × Nat)) (hρ:tK l q gN mN ρ)
  (hnew:∀ i Bc,l i=some Bc→∃ B,gN (ι i)=some B∧mN (ι i)=q i∧B.esz=Bc.esz∧B.fro=Bc.fro∧B.fz=Bc.fz∧B.pr=Bc.pr∧(Bc.pr=true→B.cells=Bc.cells)∧(Bc.pr=false→B.cells=mD ρ Bc.cells))
  (c:∀ b B,gN b=some B→(∃ i Bc,l i=some Bc∧b=ι i)∨(∃ B0,g b=some B0∧mN b=m b∧B.cells=B0.cells∧B.pr=B0.pr∧B.esz=B0.esz∧(B.fro=false→B.fz=0)∧B.fz≤B.cells.length∧(∀ i Bc,O i=some Bc→b ≠ ι i)∧(∀ o v,Sp (m b).1 o=some v→B.fro=true∧o<B.fz)))
  (hge:Ge g m gN mN):bT ap gN mN S' w'∧Fr g m S w gN mN S' w':=by
 have s:oP S S':=hSp.trans t.sle
 have hcross:∀ b B0 i Bc,g b=some B0→l i=some Bc→(∀ i Bc,O i=some Bc→b ≠ ι i)→(m b).1 ≠ (q i).1:=by
  intro b B0 i Bc n a p e
  have hlt:=A.lt n
  rcases t.img i Bc a with d|⟨B1,d,x⟩
  ·omega
  ·obtain ⟨B2,C,I⟩:=hdom i B1 d
   rw [I] at x
   exact p i B1 d (A.inj b (ι i) B0 B2 n C (e.trans x))
 constructor
 ·refine ⟨?_, ?_,L.sealed, ?_,L.glob⟩
  ·intro b V B B' n X e
   rcases c b B n with ⟨i,Bi,a,rfl⟩|⟨B0,r,d,_,_,_,_,_,x,_⟩<;>rcases c V B' X with ⟨j,Bj,Q,rfl⟩|⟨B0',M,N,_,_,_,_,_,U,_⟩
   ·obtain ⟨_,_,z,_⟩:=hnew i Bi a
    obtain ⟨_,_,u,_⟩:=hnew j Bj Q
    rw [z,u] at e
    rw [L.inj i j Bi Bj a Q e]
   ·obtain ⟨_,_,z,_⟩:=hnew i Bi a
    rw [z,N] at e
    exact absurd e.symm (hcross V B0' i Bi M a U)
   ·obtain ⟨_,_,u,_⟩:=hnew j Bj Q
    rw [u,d] at e
    exact absurd e (hcross b B0 j Bj r Q x)
   ·rw [d,N] at e
    exact A.inj b V B0 B0' r M e
  ·intro b B n
   rcases c b B n with ⟨i,Bi,a,rfl⟩|⟨B0,r,d,C,I,T,h6,Y,x,_⟩
   ·obtain ⟨B1,F,z,u,R,G,e5,e6,Z⟩:=hnew i Bi a
    rw [n] at F;cases F
    rw [z]
    obtain ⟨⟨cur,e,vs,rest,k1,k2,k3,k4,k5,k6⟩,k7,k8⟩:=L.blk i Bi a
    cases hp:Bi.pr with
    |true=>
     have hcells:=e6 hp
     refine ⟨⟨cur,e,vs,rest,by rw [u];exact k1,k2,fun _=>by rw [hcells];exact k3 hp,by rw [hcells];exact bV _ (k3 hp),by rw [u];exact k5,by rw [u];exact k6⟩,by rw [R,G];exact k7,by rw [G,hcells];exact k8⟩
    |false=>
     have hcells:=Z hp
     have y:=j_ (oP.refl S') hρ _ k4
     have K:B.cells.length=Bi.cells.length:=by rw [bU k4,hcells,bU y]
     refine ⟨⟨cur,e,vs,rest,by rw [u];exact k1,k2,(fun h=>by rw [e5,hp] at h;cases h),by rw [hcells];exact y,by rw [u];exact k5,by rw [u];exact k6⟩,by rw [R,G];exact k7,by rw [G,K];exact k8⟩
   ·rw [d]
    have p:∀ i Bc,O i=some Bc→(W i).1 ≠ (m b).1:=by
     intro i Bc a e
     obtain ⟨B2,J,f⟩:=hdom i Bc a
     rw [f] at e
     exact x i Bc a (A.inj b (ι i) B0 B2 r J e.symm)
    obtain ⟨⟨cur,e,vs,rest,k1,k2,k3,k4,k5,k6⟩,k7,k8⟩:=A.blk b B0 r
    refine ⟨⟨cur,e,vs,rest,by rw [T];exact k1.same (t.rest _ (A.lt r) p),k2,fun hp=>by rw [C];rw [I] at hp;exact dm s _ (k3 hp),by rw [C];exact lL s hge _ k4,by rw [T];exact k5,by rw [T];exact k6⟩,h6,Y⟩
  ·intro b B n o v y
   rcases c b B n with ⟨i,Bi,a,rfl⟩|⟨B0,r,d,C,I,T,h6,Y,x,J⟩
   ·obtain ⟨B1,F,z,u,R,G,e5,e6,Z⟩:=hnew i Bi a
    rw [n] at F;cases F
    rw [z] at y
    rw [R,G]
    exact L.own i Bi a o v y
   ·rw [d] at y
    rcases t.sealN _ _ _ y with f|f|⟨i,Bi,a,f⟩
    ·exact J o v f
    ·have:=A.lt r;omega
    ·obtain ⟨B2,D,E⟩:=hdom i Bi a
     rw [E] at f
     exact absurd (A.inj b (ι i) B0 B2 r D f.symm) (x i Bi a)
 ·refine ⟨hge,s,t.os,t.tape,t.output,t.size, ?_, ?_, ?_⟩
  ·intro k hk p
   refine t.rest k hk fun i Bc a e=> ?_
   obtain ⟨B2,J,f⟩:=hdom i Bc a
   exact p (ι i) B2 J (by rw [← f];exact e)
  ·intro b B n
   rcases c b B n with ⟨i,Bi,a,rfl⟩|⟨B0,r,d,_⟩
   ·obtain ⟨B1,F,z,_⟩:=hnew i Bi a
    rw [z]
    rcases t.img i Bi a with d|⟨B2,d,x⟩
    ·exact .inl d
    ·obtain ⟨B3,C,I⟩:=hdom i B2 d
     exact .inr ⟨B3,C,by rw [x,I]⟩
   ·exact .inr ⟨B0,r,by rw [d]⟩
  ·intro k o v y
   rcases t.sealN _ _ _ y with f|f|⟨i,Bi,a,f⟩
   ·rcases hSpN _ _ _ f with h|h
    ·exact .inl h
    ·exact .inr (.inr h)
   ·exact .inr (.inl f)
   ·obtain ⟨B2,D,E⟩:=hdom i Bi a
    exact .inr (.inr ⟨ι i,B2,D,by rw [← E];exact f⟩)
structure GM (F:AV→AV):Prop where
 own:∀ xs n e,F (.own xs n e)= .own xs n e
 tup:∀ l,F (.tup l)= .tup (l.map F)
 not:∀ x,(∀ xs n e,x ≠ .own xs n e)→(∀ xs n e,F x ≠ .own xs n e)
 notT:∀ x,(∀ l,x ≠ .tup l)→(∀ l,F x ≠ .tup l)
theorem bz (n:Nat) {x:AV} (h:∀ xs k e,x ≠ .own xs k e) (r:List AV):fD n (x::r)=(x::(fD n r).1,(fD n r).2):=by
 cases x<;>first|rfl|exact absurd rfl (h _ _ _)
theorem iZ (n:Nat) {x:AV} (h:∀ xs k e,x ≠ .own xs k e) (a:∀ l,x ≠ .tup l):lu n x=(x,[]):=by
 cases x<;>first|rfl|exact absurd rfl (h _ _ _)|exact absurd rfl (a _)
theorem bQ {gh a:dE} {n:Nat} {x:AV} (h:∀ xs k e,x ≠ .own xs k e) {r:List AV} {v:Value} {vs:List Value}:jo gh a m S n (x::r) (v::vs)=(VR gh m S x v∧jo gh a m S n r vs):=by
 cases x<;>first|rfl|exact absurd rfl (h _ _ _)
theorem kW {gh b:dE} {n:Nat} {x:AV} (h:∀ xs k e,x ≠ .own xs k e) (a:∀ l,x ≠ .tup l) {v:Value}:BV gh b m S n x v=VR gh m S x v:=by
 cases x<;>first|rfl|exact absurd rfl (h _ _ _)|exact absurd rfl (a _)
theorem jk (x:AV):(∃ xs k e,x= .own xs k e)∨(∀ xs k e,x ≠ .own xs k e):=by
 cases x<;>first|exact .inl ⟨_,_,_,rfl⟩|exact .inr (fun _ _ _ h=>by cases h)
theorem AU (x:AV):(∃ l,x= .tup l)∨(∀ l,x ≠ .tup l):=by
 cases x<;>first|exact .inl ⟨_,rfl⟩|exact .inr (fun _ h=>by cases h)
theorem sQ {F:AV→AV} (c:GM F):∀ (l:List AV) (a b:Nat),(fD a (l.map F)).2=(fD b l).2
 | [],a,b=>rfl
 | x::r,a,b=>by
  rcases jk x with ⟨xs,k,e,rfl⟩|hx
  ·simp only [List.map_cons,c.own,fD]
   rw [sQ c r (a+1) (b+1)]
  ·rw [List.map_cons,bz a (c.not x hx),bz b hx]
   exact sQ c r a b
theorem BJ {F:AV→AV} (c:GM F) (x:AV) (a b:Nat):(lu a (F x)).2=(lu b x).2:=by
 rcases jk x with ⟨xs,k,e,rfl⟩|hx
 ·rw [c.own];rfl
 ·rcases AU x with ⟨l,rfl⟩|ht
  ·rw [c.tup]
   simp only [lu]
   exact sQ c l a b
  ·rw [iZ a (c.not x hx) (c.notT x ht),iZ b hx ht]
theorem uY {F:AV→AV} (a:GM F) {gh d gN:dE} {m mN:aX} {S:aV} {n nid:Nat} (b:∀ x v,VR gh m S x v→VR gN mN S (F x) v) (c:∀ i k v,VR d m S (.ref (n+i) 0 0 k) v→VR gN mN S (.ref (nid+i) 0 0 k) v):
  ∀ (l:List AV) (vs:List Value) (j:Nat),jo gh d m S (n+j) l vs→bi gN mN S (fD (nid+j) (l.map F)).1 vs
 | [],[],j,_=>by simp [fD,bi]
 | x::r,v::vs,j,h=>by
  rcases jk x with ⟨xs,k,e,rfl⟩|hxo
  ·simp only [jo] at h
   simp only [List.map_cons,a.own,fD,bi]
   exact ⟨c j k v h.1,by have:=uY a b c r vs (j+1);rw [← Nat.add_assoc,← Nat.add_assoc] at this;exact this h.2⟩
  ·rw [bQ hxo] at h
   rw [List.map_cons,bz _ (a.not x hxo)]
   simp only [bi]
   exact ⟨b x v h.1,uY a b c r vs j h.2⟩
 | [],_::_,_,h=>by simp [jo] at h
 |x::r,[],_,h=>by cases x<;>simp [jo] at h
theorem Fp {F:AV→AV} (a:GM F) {gh d gN:dE} {m mN:aX} {S:aV} {n nid:Nat} (b:∀ x v,VR gh m S x v→VR gN mN S (F x) v) (c:∀ i k v,VR d m S (.ref (n+i) 0 0 k) v→VR gN mN S (.ref (nid+i) 0 0 k) v)
  {x:AV} {v:Value} (h:BV gh d m S n x v):VR gN mN S (lu nid (F x)).1 v:=by
 rcases jk x with ⟨xs,k,e,rfl⟩|hxo
 ·simp only [BV] at h
  rw [a.own]
  exact c 0 k v h
 ·rcases AU x with ⟨l,rfl⟩|ht
  ·simp only [BV] at h
   obtain ⟨vs,e,h⟩:=h
   rw [a.tup]
   simp only [lu,VR]
   exact ⟨vs,e,uY a b c l vs 0 h⟩
  ·rw [kW hxo ht] at h
   rw [iZ _ (a.not x hxo) (a.notT x ht)]
   exact b x v h
theorem Lc:GM id:=⟨fun _ _ _=>rfl,fun l=>by simp,fun _ h=>h,fun _ h=>h⟩
theorem L_ (ρ:Nat→Nat→Option (Nat × Nat)):∀ l,mD ρ l=l.map (ren ρ)
 | []=>rfl
 |x::r=>by simp [mD,L_ ρ r]
theorem Ho (ρ:Nat→Nat→Option (Nat × Nat)):GM (ren ρ):=by
 refine ⟨fun _ _ _=>rfl,fun l=>by simp [ren,L_], ?_, ?_⟩
 ·intro x h xs n e a
  cases x<;>simp only [ren] at a<;>first
   |(cases a;done)
   |(split at a<;>cases a;done)
   |exact h _ _ _ rfl
 ·intro x h l a
  cases x<;>simp only [ren] at a<;>first
   |(cases a;done)
   |(split at a<;>cases a;done)
   |exact h _ rfl
theorem Ad:∀ (bs:List aZ) (n b:Nat),az (EU n bs) b=if n≤b then bs[b - n]? else none
 | [],n,b=>by simp [EU,az]
 | B::r,n,b=>by
  simp only [EU,az]
  cases h:Nat.beq n b with
  |true=>
   have:=aN h
   subst this
   simp
  | false=>
   have a:n ≠ b:=by intro e;subst e;simp at h
   rw [Ad r (n+1) b]
   by_cases hle:n≤b
   ·rw [if_pos hle,if_pos (show n+1≤b by omega)]
    obtain ⟨d,hd⟩:∃ d,b - n=d+1:=⟨b - n - 1,by omega⟩
    rw [hd,List.getElem?_cons_succ,show b - (n+1)=d by omega]
   ·rw [if_neg hle,if_neg (show ¬ n+1≤b by omega)]
theorem Hy {rd:dE} {mk:aZ→aZ}:∀ (fp:List Nat) (b:Nat),az (fp.filterMap fun b=>(rd b).map fun B=>(b,mk B)) b=if b ∈ fp then (rd b).map mk else none
 | [],b=>by simp [az]
 | a::r,b=>by
  have f:=Hy (rd:=rd) (mk:=mk) r b
  cases c:rd a with
  |none=>
   rw [List.filterMap_cons_none (by simp [c]),f]
   by_cases hab:b=a
   ·subst hab;simp [c]
   ·simp [hab]
  | some B=>
   rw [List.filterMap_cons_some (by simp [c];rfl)]
   simp only [az]
   cases h:Nat.beq a b with
   |true=>have:=aN h;subst this;simp [c]
   |false=>
    have d:b ≠ a:=by intro e;subst e;simp at h
    simp only [f,List.mem_cons,d,false_or]
end
end AM
namespace AM
open Go
def ac6 (g:dE) (m:aX) (S:aV):jU→Ending→Prop
 | .ret v,e=> ∃ cv,e= .returned cv∧VR g m S v cv
 | .pan v,e=> ∃ cv,e= .panicked [{v:=cv,recovered:=false}]∧VR g m S v cv
def YG (ap:AP) (g:dE) (m:aX) (S:aV) (w:World) (out:jU) (ups:List (Nat × aZ)) (e:Ending) (w':World):Prop:=
 ∃ m' S',bT ap (dJ g ups) m' S' w'∧Fr g m S w (dJ g ups) m' S' w'∧ac6 (dJ g ups) m' S' out e
theorem eQ {h a:List aZ} {b:Nat} (c:b<h.length):bG (h++a) b=bG h b:=by
 simp [bG,List.getElem?_append_left c]
theorem iQ {h a:List aZ} {b:Nat} (c:h.length≤b):bG (h++a) b=bG a (b - h.length):=by
 simp [bG,List.getElem?_append_right c]
def rH (l:List aZ):Prop:=∀ B ∈ l,B.pr=true∧B.fro=false∧B.ver=0
theorem sS:∀ (l:List AV) (n:Nat),rH (fD n l).2
 | [],n=>by simp [fD,rH]
 | x::r,n=>by
  rcases jk x with ⟨xs,k,e,rfl⟩|hx
  ·simp only [fD]
   intro B a
   rcases List.mem_cons.1 a with rfl|a
   ·exact ⟨rfl,rfl,rfl⟩
   ·exact sS r (n+1) B a
  ·rw [bz n hx];exact sS r n
theorem L9 (x:AV) (n:Nat):rH (lu n x).2:=by
 rcases jk x with ⟨xs,k,e,rfl⟩|hx
 ·intro B a
  simp [lu] at a
  subst a
  exact ⟨rfl,rfl,rfl⟩
 ·rcases AU x with ⟨l,rfl⟩|ht
  ·simp only [lu];exact sS l n
  ·rw [iZ n hx ht];simp [rH]
theorem BI (o:jU) (n:Nat):rH (mi n o):=by
 cases o with
 |ret v=>exact L9 v n
 |pan v=>simp [mi,rH]
section
variable {P:Program} {ap:AP} {g:dE} {m:aX} {S:aV} {w:World}
def Jv (nid:Nat) (F:AV→AV):jU→jU
 | .ret v=> .ret (lu nid (F v)).1
 | .pan v=> .pan (F v)
theorem A_ (q:bT ap g m S w) {rd:dE} (j:∀ b B,rd b=some B→g b=some B) {L:List Nat} (U:∀ b B,rd b=some B→b ∈ L) {nid:Nat} {args args':List AV} {cargs:List Value} {out:jU}
  (ha:jW (frz rd 6) args=some args') (hv:bi g m S args cargs) {C:List Value→(Ending→World→Prop)→Prop} (hmono:∀ cargs R R',C cargs R→(∀ e w',R e w'→R' e w')→C cargs R')
  (f:∀ m1 S1,oP S S1→bT ap (bG []) m1 S1 w→bi (bG []) m1 S1 args' cargs→C cargs fun e w'=> ∃ m' S',Gl ap [] m1 S1 w out [] m' S' w' e) (hfr:∀ i,i<(mi 0 out).length→g (nid+i)=none):
  C cargs fun e w'=>YG ap g m S w (Jv nid id out) (EU nid (mi 0 out)++L.filterMap fun b=>(rd b).map fun B=>(b,{B with fro:=true,fz:=B.cells.length})) e w':=by
 have Z:dQ (dG S m rd w) args' cargs:=uj (fun x v y a d=>lh q j 6 x v y a d) ha hv
 have u:=nM S m rd w
 let m0:aX:=fun _=>(0,0)
 have W:bT ap (bG []) m0 (dG S m rd w) w:=by
  refine ⟨fun b b' B B' h=>by simp [bG] at h,fun b B h=>by simp [bG] at h,fun k o v h=>pW q h,fun b B h=>by simp [bG] at h, ?_⟩
  intro k xs hk
  obtain ⟨vs,a,d⟩:=q.glob k xs hk
  exact ⟨vs,dm u _ a,d.mono u⟩
 refine hmono _ _ _ (f m0 (dG S m rd w) u W (bV _ Z)) ?_
 rintro e w' ⟨m',S',hF⟩
 obtain ⟨z,l,p⟩:=hF
 simp only [List.nil_append,List.length_nil] at z l p
 generalize E:mi 0 out=bs at z l hfr
 have I:rH bs:=E ▸ BI out 0
 let gN:dE:=dJ g (EU nid bs++L.filterMap fun b=>(rd b).map fun B=>(b,{B with fro:=true,fz:=B.cells.length}))
 let mN:aX:=fun b=>if nid≤b∧b - nid<bs.length then m' (b - nid) else m b
 have t:∀ b,gN b=if nid≤b∧b - nid<bs.length then bs[b - nid]? else match rd b with|some B=>some {B with fro:=true,fz:=B.cells.length}|none=>g b:=by
  intro b
  show dJ g _ b=_
  unfold dJ
  have O:∀ mk:aZ→aZ,(if b ∈ L then (rd b).map mk else none)=(rd b).map mk:=by
   intro mk
   split
   ·rfl
   ·rename_i c
    cases r:rd b with
    |none=>rfl
    |some B=>exact absurd (U b B r) c
  rw [iw,Ad,Hy,O]
  by_cases a:nid≤b
  ·by_cases d:b - nid<bs.length
   ·have f:nid≤b∧b - nid<bs.length:=⟨a,d⟩
    rw [if_pos a,if_pos f,List.getElem?_eq_getElem d]
   ·have f:¬ (nid≤b∧b - nid<bs.length):=fun h=>d h.2
    rw [if_pos a,if_neg f,List.getElem?_eq_none (Nat.le_of_not_lt d)]
    cases rd b<;>rfl
  ·have f:¬ (nid≤b∧b - nid<bs.length):=fun h=>a h.1
   rw [if_neg a,if_neg f]
   cases rd b<;>rfl
 have hnidg:∀ b B,g b=some B→¬ (nid≤b∧b - nid<bs.length):=by
  rintro b B c ⟨a,d⟩
  have:=hfr (b - nid) d
  rw [show nid+(b - nid)=b by omega,c] at this
  cases this
 have N:Ge g m gN mN:=by
  intro b B c
  have hn:=hnidg b B c
  have K:mN b=m b:=if_neg hn
  rw [t,if_neg hn]
  cases r:rd b with
  |none=>exact ⟨B,c,rfl,.inl ⟨rfl,K⟩⟩
  |some B1=>
   have:=j b B1 r
   rw [c] at this;cases this
   exact ⟨_,rfl,rfl,.inl ⟨rfl,K⟩⟩
 have A:∀ i B,bs[i]? =some B→gN (nid+i)=some B∧mN (nid+i)=m' i:=by
  intro i B F
  have hl:=(List.getElem?_eq_some_iff.1 F).1
  have f:nid≤nid+i∧nid+i - nid<bs.length:=by omega
  refine ⟨by rw [t,if_pos f,show nid+i - nid=i by omega];exact F, ?_⟩
  show (if _ then _ else _)=_
  rw [if_pos f,show nid+i - nid=i by omega]
 obtain ⟨Y,M⟩:=acB (g:=g) (m:=m) (S:=S) (w:=w) q z l (fun i=>nid+i) (fun i Bc h=>by simp [bG] at h) u
  (fun k o v h=>(fE h).imp id fun ⟨_,b,B,a,d,_⟩=> ⟨b,B,j b B a,d⟩) (gN:=gN) (mN:=mN) (fun i v=>some (nid+i,v))
  (by
   intro b ver b' ver' h B hB J
   simp only [Option.some.injEq,Prod.mk.injEq] at h
   obtain ⟨rfl,rfl⟩:=h
   obtain ⟨a,d⟩:=A b B hB
   exact ⟨B,a,J,fun e=> ⟨e,d,rfl⟩⟩)
  (by
   intro i Bc F
   obtain ⟨a,d⟩:=A i Bc F
   exact ⟨Bc,a,d,rfl,rfl,rfl,rfl,fun _=>rfl,fun hp=>by rw [(I Bc (List.mem_of_getElem? F)).1] at hp;cases hp⟩)
  (by
   intro b B c
   by_cases f:nid≤b∧b - nid<bs.length
   ·rw [t,if_pos f] at c
    exact .inl ⟨b - nid,B,c,by omega⟩
   ·have K:mN b=m b:=if_neg f
    rw [t,if_neg f] at c
    right
    cases r:rd b with
    | none=>
     rw [r] at c
     have c:g b=some B:=c
     refine ⟨B,c,K,rfl,rfl,rfl,(q.blk b B c).fz0,(q.blk b B c).fzle,(fun i Bc h=>by simp [bG] at h), ?_⟩
     intro o v X
     rcases fE X with h|⟨_,T,B1,a,d,_⟩
     ·exact q.own b B c o v h
     ·have:=q.inj T b B1 B (j _ _ a) c d
      subst this
      rw [a] at r;cases r
    | some B1=>
     rw [r] at c
     have c:some {B1 with fro:=true,fz:=B1.cells.length}=some B:=c
     cases c
     have s:=j b B1 r
     refine ⟨B1,s,K,rfl,rfl,rfl,(fun h=>by cases h),Nat.le_refl _,(fun i Bc h=>by simp [bG] at h), ?_⟩
     intro o v X
     refine ⟨rfl, ?_⟩
     rcases fE X with h|⟨_,T,B2,a,d,Q⟩
     ·exact Nat.lt_of_lt_of_le (q.own b B1 s o v h).2 (q.blk b B1 s).fzle
     ·have:=q.inj T b B2 B1 (j _ _ a) s d
      subst this
      rw [a] at r;cases r
      exact Q)
  N
 refine ⟨mN,S',Y,M, ?_⟩
 show ac6 gN mN S' (Jv nid id out) e
 cases out with
 |ret v=>
  obtain ⟨cv,V,a⟩:=p
  refine ⟨cv,V, ?_⟩
  have G:(lu 0 v).2=bs:=E
  simp only [List.length_nil,List.nil_append,G] at a
  refine Fp (n:=0) Lc (fun x v D=>gX x (nT x D)) ?_ a
  intro i k v D
  rw [Nat.zero_add] at D
  simp only [VR] at D ⊢
  obtain ⟨B,d,Q,h4,h5⟩:=D
  obtain ⟨h6,h7⟩:=A i B d
  exact ⟨B,h6,Q,h4,by rw [h7];exact h5⟩
 |pan v=>
  obtain ⟨cv,V,a⟩:=p
  exact ⟨cv,V,gX _ (nT _ a)⟩
end
end AM
namespace AM
open Go
theorem LH {b:Nat} {r:List Nat} (h:sG (b::r)=true):b ∉ r∧sG r=true:=by
 simp only [sG,Bool.and_eq_true,Bool.not_eq_true'] at h
 refine ⟨fun a=> ?_,h.2⟩
 rw [jA.2 a] at h
 cases h.1
theorem qU:∀ {l:List Nat} {b p:Nat},qh l b=some p→l[p]? =some b
 | [],b,p,h=>by simp [qh] at h
 | c::r,b,p,h=>by
  simp only [qh] at h
  split at h
  ·rename_i d;cases h;rw [aN d];rfl
  ·simp only [Option.map_eq_some_iff] at h
   obtain ⟨q,a,rfl⟩:=h
   simpa using qU a
theorem pR:∀ {l:List Nat} {b p:Nat},sG l=true→l[p]? =some b→qh l b=some p
 | [],b,p,_,h=>by simp at h
 |c::r,b,0,hn,h=>by simp at h;subst h;simp [qh]
 | c::r,b,p+1,hn,h=>by
  obtain ⟨d,e⟩:=LH hn
  have h:r[p]? =some b:=by simpa using h
  have a:Nat.beq c b=false:=by
   cases f:Nat.beq c b with
   |false=>rfl
   |true=>exact absurd (aN f ▸ List.mem_of_getElem? h) d
  simp [qh,a,pR e h]
theorem Ls {mk:Nat→aZ→aZ}:∀ (fp:List Nat) (h':List aZ) (b:Nat),az ((Np fp h').map fun (b,B)=>(b,mk b B)) b=(qh fp b).bind fun p=>(h'[p]?).map (mk b)
 | [],h',b=>by cases h'<;>simp [Np,az,qh]
 |a::r,[],b=>by
  simp only [Np,List.map_nil,az,qh]
  cases Nat.beq a b with
  |true=>rfl
  |false=>cases qh r b<;>rfl
 | a::r,B::q,b=>by
  simp only [Np,List.map_cons,az,qh]
  cases h:Nat.beq a b with
  |true=>have:=aN h;subst this;rfl
  |false=>
   simp only [Ls r q b]
   cases qh r b<;>simp
section
variable {P:Program} {ap:AP} {g:dE} {m:aX} {S:aV} {w:World}
def JW (ρ:Nat→Nat→Option (Nat × Nat)) (B:aZ):aZ:={B with cells:=(match B.pr with|true=>B.cells|false=>mD ρ B.cells),ver:=0}
theorem ar1 {a b n i:Nat} (h:b≤a):n+(a+i - b)=n+(a - b)+i:=by omega
theorem ar2 {a b i:Nat} (h:b≤a):b+(a+i - b)=a+i:=by omega
theorem YX {ρ:Nat→Nat→Option (Nat × Nat)} {l:List aZ} (h:rH l):l.map (BZ ρ 0)=l:=by
 induction l with
 |nil=>rfl
 |cons B r ih=>
  rw [List.map_cons,ih fun B d=>h B (by simp [d])]
  obtain ⟨a,_,b⟩:=h B (by simp)
  obtain ⟨c,v,f,z,e,p⟩:=B
  simp only at a b
  subst a b
  rfl
theorem Ba (L:bT ap g m S w) {rd:dE} (hrd:∀ b B,rd b=some B→g b=some B) {a:List Nat} {N:List aZ} (hbl:jW rd a=some N) (E:sG a=true) {nid:Nat} {args:List AV} {cargs:List Value} {out:jU}
  {vers:Nat→Nat} (hvers:∀ b B,rd b=some B→vers b=B.ver) {ρ ρ':Nat→Nat→Option (Nat × Nat)} (hρe:∀ b v,ρ b v=match Nat.beq v (vers b) with|true=>(qh a b).map fun p=>(p,0)|false=>none)
  {h':List aZ} (hρe':ρ'=PK nid a vers h'.length)
  (hv:bi g m S args cargs) {C:List Value→(Ending→World→Prop)→Prop} (hmono:∀ cargs R R',C cargs R→(∀ e w',R e w'→R' e w')→C cargs R')
  (s:∀ m1 S1,oP S S1→bT ap (bG (N.map (JW ρ))) m1 S1 w→bi (bG (N.map (JW ρ))) m1 S1 (mD ρ args) cargs→C cargs fun e w'=> ∃ m' S',Gl ap (N.map (JW ρ)) m1 S1 w out h' m' S' w' e) (hl:a.length≤h'.length) (hfr:∀ i,i<(h'.length - a.length)+(mi h'.length out).length→g (nid+i)=none):
  C cargs fun e w'=>YG ap g m S w (Jv (nid+(h'.length - a.length)) (ren ρ') out) (EU nid ((h'.drop a.length).map (BZ ρ' 0)++mi h'.length out)++(Np a h').map fun (b,B)=>(b,BZ ρ' (vers b) B)) e w':=by
 have r:∀ p b,a[p]? =some b→∃ B,rd b=some B∧g b=some B∧bG (N.map (JW ρ)) p=some (JW ρ B):=by
  intro p b hp
  obtain ⟨B,c,d⟩:=(iR hbl).2 p b hp
  exact ⟨B,d,hrd b B d,by simp [bG,c]⟩
 have u:∀ p Bc,bG (N.map (JW ρ)) p=some Bc→∃ b B,a[p]? =some b∧rd b=some B∧g b=some B∧Bc=JW ρ B:=by
  intro p Bc hp
  have y:p<a.length:=by
   have:=(List.getElem?_eq_some_iff.1 hp).1
   rw [List.length_map,(iR hbl).1] at this
   exact this
  obtain ⟨B,c,d,f⟩:=r p _ (List.getElem?_eq_getElem y)
  rw [f] at hp;cases hp
  exact ⟨_,B,List.getElem?_eq_getElem y,c,d,rfl⟩
 let mc:aX:=fun p=>m (a.getD p 0)
 have l:∀ p b,a[p]? =some b→mc p=m b:=by
  intro p b hp
  show m (a.getD p 0)=_
  rw [List.getD_eq_getElem?_getD,hp];rfl
 have O:tK g m (bG (N.map (JW ρ))) mc ρ:=by
  intro b ver X G h B K F
  rw [hρe] at h
  split at h
  ·rename_i hve
   simp only [Option.map_eq_some_iff,Prod.mk.injEq] at h
   obtain ⟨p,hp,rfl,rfl⟩:=h
   have hp:=qU hp
   obtain ⟨B1,c,d,f⟩:=r p b hp
   rw [d] at K;cases K
   exact ⟨_,f,Nat.zero_le _,fun _=> ⟨by rw [aN hve,hvers b _ c],l p b hp,rfl⟩⟩
  ·cases h
 have hSc:bT ap (bG (N.map (JW ρ))) mc S w:=by
  refine ⟨?_, ?_,L.sealed, ?_,L.glob⟩
  ·intro p q Bp Bq hp hq e
   obtain ⟨b,B,c,d,f,_⟩:=u p Bp hp
   obtain ⟨X,B',h1',h2',h3',_⟩:=u q Bq hq
   rw [l p b c,l q X h1'] at e
   have:=L.inj b X B B' f h3' e
   subst this
   have Y:=pR E c
   rw [pR E h1'] at Y
   cases Y;rfl
  ·intro p Bp hp
   obtain ⟨b,B,c,d,f,rfl⟩:=u p Bp hp
   rw [l p b c]
   obtain ⟨⟨cur,e,vs,rest,k1,k2,k3,k4,k5,k6⟩,k7,k8⟩:=L.blk b B f
   cases hp:B.pr with
   |true=>exact ⟨⟨cur,e,vs,rest,k1,k2,fun _=>by simpa [JW,hp] using k3 hp,by simpa [JW,hp] using bV _ (k3 hp),k5,k6⟩,k7,by simpa [JW,hp] using k8⟩
   | false=>
    have hv:=j_ (oP.refl S) O _ k4
    exact ⟨⟨cur,e,vs,rest,k1,k2,fun h=>by simp [JW,hp] at h,by simpa [JW,hp] using hv,k5,k6⟩,k7,by
     have:(JW ρ B).cells.length=B.cells.length:=by simp only [JW,hp];rw [bU k4,bU hv]
     rw [this];exact k8⟩
  ·intro p Bp hp o v ho
   obtain ⟨b,B,c,d,f,rfl⟩:=u p Bp hp
   rw [l p b c] at ho
   exact L.own b B f o v ho
 refine hmono _ _ _ (s mc S (oP.refl S) hSc (j_ (oP.refl S) O _ hv)) ?_
 rintro e w' ⟨m',S',hF⟩
 obtain ⟨hsr,I,M⟩:=hF
 generalize hbs:mi h'.length out=bs0 at hsr I hfr
 have hown:rH bs0:=hbs ▸ BI out h'.length
 obtain ⟨bs,J⟩:∃ bs,bs=h'.drop a.length++bs0:=⟨_,rfl⟩
 have hbsl:bs.length=(h'.length - a.length)+bs0.length:=by rw [J,List.length_append,List.length_drop]
 rw [← hbsl] at hfr
 let ups:=(Np a h').map fun (b,B)=>(b,BZ ρ' (vers b) B)
 rw [show (h'.drop a.length).map (BZ ρ' 0)++bs0=bs.map (BZ ρ' 0) by rw [J,List.map_append,YX hown]]
 let gN:dE:=dJ g (EU nid (bs.map (BZ ρ' 0))++ups)
 let mN:aX:=fun b=>if nid≤b∧b - nid<bs.length then m' (a.length+(b - nid)) else match qh a b with|some p=>m' p|none=>m b
 have D:∀ b,gN b=if nid≤b∧b - nid<bs.length then (bs[b - nid]?).map (BZ ρ' 0) else match (qh a b).bind fun p=>(h'[p]?).map (BZ ρ' (vers b)) with|some B=>some B|none=>g b:=by
  intro b
  show dJ g _ b=_
  unfold dJ
  rw [iw,Ad,Ls (mk:=fun b B=>BZ ρ' (vers b) B)]
  by_cases c:nid≤b
  ·by_cases d:b - nid<bs.length
   ·have s:nid≤b∧b - nid<bs.length:=⟨c,d⟩
    rw [if_pos c,if_pos s,List.getElem?_map,List.getElem?_eq_getElem d]
    rfl
   ·have s:¬ (nid≤b∧b - nid<bs.length):=fun h=>d h.2
    rw [if_pos c,if_neg s,List.getElem?_map,List.getElem?_eq_none (Nat.le_of_not_lt d)]
    rfl
  ·have s:¬ (nid≤b∧b - nid<bs.length):=fun h=>c h.1
   rw [if_neg c,if_neg s]
   rfl
 have hnidg:∀ b B,g b=some B→¬ (nid≤b∧b - nid<bs.length):=by
  rintro b B j ⟨c,d⟩
  have:=hfr (b - nid) d
  rw [show nid+(b - nid)=b by omega,j] at this
  cases this
 have hh':∀ p,p<a.length→∃ B,h'[p]? =some B:=fun p hp=> ⟨_,List.getElem?_eq_getElem (by omega)⟩
 have T:∀ p b,a[p]? =some b→∀ Bc,h'[p]? =some Bc→gN b=some (BZ ρ' (vers b) Bc)∧mN b=m' p:=by
  intro p b hp Bc K
  obtain ⟨B,c,d,f⟩:=r p b hp
  have hn:=hnidg b B d
  refine ⟨by rw [D,if_neg hn,pR E hp];simp [K], ?_⟩
  show (if _ then _ else _)=_
  rw [if_neg hn,pR E hp]
 have U:∀ i B,bs[i]? =some B→gN (nid+i)=some (BZ ρ' 0 B)∧mN (nid+i)=m' (a.length+i):=by
  intro i B A
  have hl:=(List.getElem?_eq_some_iff.1 A).1
  have s:nid≤nid+i∧nid+i - nid<bs.length:=by omega
  refine ⟨by rw [D,if_pos s,show nid+i - nid=i by omega,A];rfl, ?_⟩
  show (if _ then _ else _)=_
  rw [if_pos s,show nid+i - nid=i by omega]
 have V:∀ p,a.length≤p→bG (h'++bs0) p=bs[p - a.length]? :=by
  intro p hp
  have he:h'++bs0=h'.take a.length++bs:=by rw [J,← List.append_assoc,List.take_append_drop]
  have y:(h'.take a.length).length=a.length:=by rw [List.length_take];omega
  rw [he,iQ (by omega),y]
  rfl
 have t:∀ p Bc,bG (h'++bs0) p=some Bc→(p<a.length∧h'[p]? =some Bc)∨(a.length≤p∧bs[p - a.length]? =some Bc):=by
  intro p Bc h
  by_cases hp:p<a.length
  ·rw [eQ (by omega)] at h;exact .inl ⟨hp,h⟩
  ·rw [V p (by omega)] at h;exact .inr ⟨by omega,h⟩
 have hren':tK (bG (h'++bs0)) m' gN mN ρ':=by
  intro p ver X G h Bc K F
  rw [hρe'] at h
  unfold PK at h
  split at h
  ·rename_i b hp
   cases h
   rcases t p Bc K with ⟨c,d⟩|⟨c,_⟩
   ·obtain ⟨f,z⟩:=T p _ hp Bc d
    exact ⟨_,f,by simp only [BZ];omega,fun e=> ⟨by simp only [BZ] at e;omega,z,rfl⟩⟩
   ·have:=(List.getElem?_eq_some_iff.1 hp).1;omega
  ·rename_i hp
   split at h
   ·cases h
    have Z:=List.getElem?_eq_none_iff.1 hp
    rcases t p Bc K with ⟨c,_⟩|⟨c,d⟩
    ·omega
    ·obtain ⟨f,z⟩:=U _ Bc d
     exact ⟨_,f,by simp only [BZ];omega,fun e=> ⟨by simp only [BZ] at e;omega,by rw [z,show a.length+(p - a.length)=p by omega],rfl⟩⟩
   ·cases h
 have Z:Ge g m gN mN:=by
  intro b B j
  have hn:=hnidg b B j
  cases A:qh a b with
  | none=>
   have hm:mN b=m b:=by
    show (if _ then _ else _)=_
    rw [if_neg hn,A]
   refine ⟨B, ?_,rfl,.inl ⟨rfl,hm⟩⟩
   rw [D,if_neg hn,A];exact j
  | some p=>
   have hp:=qU A
   obtain ⟨B1,c,d,f⟩:=r p b hp
   rw [d] at j;cases j
   obtain ⟨Bc,z,h5,Q⟩:=I.ge p _ f
   rcases t p Bc z with ⟨_,W⟩|⟨W,_⟩
   ·obtain ⟨h8,h9⟩:=T p b hp Bc W
    refine ⟨_,h8,h5, ?_⟩
    rcases Q with ⟨Q,h6'⟩|Q
    ·left
     refine ⟨?_,by rw [h9,h6',l p b hp]⟩
     simp only [BZ,JW] at Q ⊢
     rw [hvers b _ c];omega
    ·right
     simp only [BZ,JW] at Q ⊢
     rw [hvers b _ c];omega
   ·have:=(List.getElem?_eq_some_iff.1 hp).1;omega
 let ι:Nat→Nat:=fun p=>if p<a.length then a.getD p 0 else nid+(p - a.length)
 have hι:∀ p b,a[p]? =some b→ι p=b:=by
  intro p b hp
  show (if _ then _ else _)=_
  rw [if_pos (List.getElem?_eq_some_iff.1 hp).1,List.getD_eq_getElem?_getD,hp];rfl
 have hι':∀ i,ι (a.length+i)=nid+i:=by
  intro i
  show (if _ then _ else _)=_
  rw [if_neg (by omega)];congr 1;omega
 obtain ⟨hsN,hfN⟩:=acB (g:=g) (m:=m) (S:=S) (w:=w) L hsr I ι
  (by
   intro p Bc hp
   obtain ⟨b,B,c,d,f,rfl⟩:=u p Bc hp
   rw [hι p b c]
   exact ⟨B,f,l p b c⟩) (oP.refl S) (fun k o v h=> .inl h) (gN:=gN) (mN:=mN) ρ' hren'
  (by
   intro p Bc hp
   rcases t p Bc hp with ⟨c,d⟩|⟨c,d⟩
   ·have hp:=List.getElem?_eq_getElem c
    obtain ⟨f,z⟩:=T p _ hp Bc d
    rw [hι p _ hp]
    exact ⟨_,f,z,rfl,rfl,rfl,rfl,fun h=>by simp [BZ,h],fun h=>by simp [BZ,h]⟩
   ·obtain ⟨i,rfl⟩:∃ i,p=a.length+i:=⟨p - a.length,by omega⟩
    rw [show a.length+i - a.length=i by omega] at d
    obtain ⟨f,z⟩:=U i Bc d
    rw [hι' i]
    exact ⟨_,f,z,rfl,rfl,rfl,rfl,fun h=>by simp [BZ,h],fun h=>by simp [BZ,h]⟩)
  (by
   intro b B j
   by_cases s:nid≤b∧b - nid<bs.length
   ·rw [D,if_pos s,Option.map_eq_some_iff] at j
    obtain ⟨Bc,j,_⟩:=j
    refine .inl ⟨a.length+(b - nid),Bc, ?_,by rw [hι'];omega⟩
    rw [V _ (by omega),show a.length+(b - nid) - a.length=b - nid by omega];exact j
   ·rw [D,if_neg s] at j
    cases A:qh a b with
    |some p=>
     have hp:=qU A
     have y:=(List.getElem?_eq_some_iff.1 hp).1
     obtain ⟨Bc,z⟩:=hh' p y
     exact .inl ⟨p,Bc,by rw [eQ (by omega)];exact z,(hι p b hp).symm⟩
    | none=>
     have hm:mN b=m b:=by
      show (if _ then _ else _)=_
      rw [if_neg s,A]
     rw [A] at j
     have j:g b=some B:=j
     refine .inr ⟨B,j,hm,rfl,rfl,rfl,(L.blk b B j).fz0,(L.blk b B j).fzle, ?_,fun o v ho=>L.own b B j o v ho⟩
     intro p Bc hp e
     obtain ⟨b1,B1,c,_⟩:=u p Bc hp
     rw [hι p b1 c] at e
     subst e
     rw [pR E c] at A;cases A)
  Z
 refine ⟨mN,S',hsN,hfN, ?_⟩
 show ac6 gN mN S' (Jv (nid+(h'.length - a.length)) (ren ρ') out) e
 have hrenh:tK (bG h') m' gN mN ρ':=by
  intro p ver X G h Bc K F
  refine hren' p ver X G h Bc ?_ F
  rw [eQ (List.getElem?_eq_some_iff.1 K).1];exact K
 cases out with
 |ret v=>
  obtain ⟨cv,Y,c⟩:=M
  refine ⟨cv,Y, ?_⟩
  have hbs':(lu h'.length v).2=bs0:=hbs
  rw [hbs'] at c
  refine Fp (n:=h'.length) (Ho ρ') (fun x v hx=>zL (oP.refl S') hrenh x hx) ?_ c
  intro i k v hx
  simp only [VR] at hx ⊢
  obtain ⟨B,d,f,z,h5⟩:=hx
  rw [V _ (Nat.le_trans hl (Nat.le_add_right _ _))] at d
  obtain ⟨Q,W⟩:=U _ B d
  rw [ar1 hl] at Q W
  rw [ar2 hl] at W
  exact ⟨_,Q,Nat.zero_le _,z,fun e=>by rw [W];exact h5 (by simpa [BZ] using e)⟩
 |pan v=>
  obtain ⟨cv,Y,c⟩:=M
  exact ⟨cv,Y,zL (oP.refl S') hrenh _ c⟩
end
end AM
namespace AM
open Go
section
variable {P:Program} {ap:AP} {H:di}
theorem yu {n:dE} {nid f:Nat} {args:List AV} {md:AV} {c D:Cx} {r:UQ} (h:uq ap H n nid md f args c= .ok r D):
  ∃ args0 h0 out0 h0',H c md f args0 h0= .ok (out0,h0',r.md) D∧((∃ v,out0= .ret v)↔∃ v,r.out= .ret v)∧
  ∀ g m S w cargs (C:List Value→(Ending→World→Prop)→Prop),(∀ cargs R R',C cargs R→(∀ e w',R e w'→R' e w')→C cargs R')→bT ap g m S w→(∀ b ∈ r.fp,∀ B,n b=some B→g b=some B)→(∀ i,i<4→g (nid+i)=none)→bi g m S args cargs→
   (∀ m1 S1,oP S S1→bT ap (bG h0) m1 S1 w→bi (bG h0) m1 S1 args0 cargs→C cargs fun e w'=> ∃ m' S',Gl ap h0 m1 S1 w out0 h0' m' S' w' e)→
   C cargs fun e w'=>YG ap g m S w r.out r.ups e w':=by
 unfold uq at h
 simp only at h
 generalize E:t_ n 6 (iV (bP args))=fp at h
 let rd:dE:=fun b=>match su fp b with|true=>n b|false=>none
 have a:∀ b B,rd b=some B→b ∈ fp∧n b=some B:=by
  intro b B d
  dsimp only [rd] at d
  split at d
  ·rename_i G;exact ⟨jA.1 G,d⟩
  ·cases d
 split at h
 ·split at h
  ·cases h
  ·rename_i args' A
   obtain ⟨⟨out,u,md⟩,F,x,h⟩:=R.bind_ok h
   dsimp only at h
   split at h
   ·cases h
   ·split at h
    ·rename_i v
     split at h
     ·rename_i o
      cases h
      refine ⟨_,_,_,_,x,⟨fun _=> ⟨_,rfl⟩,fun _=> ⟨_,rfl⟩⟩, ?_⟩
      intro g m S w cargs C hmono q k l s t
      have j:mi 0 (jU.ret v)=(lu nid v).2:=BJ Lc v 0 nid
      have:=A_ q (rd:=rd) (fun b B d=>k b (a b B d).1 B (a b B d).2) (fun b B d=>(a b B d).1) (nid:=nid) A s hmono t (fun i p=>l i (by rw [j] at p;have:=fP o;omega))
      rw [j] at this
      exact this
     ·cases h
    ·rename_i v
     cases h
     refine ⟨_,_,_,_,x,⟨(fun ⟨_,h⟩=>by cases h),(fun ⟨_,h⟩=>by cases h)⟩, ?_⟩
     intro g m S w cargs C hmono q k l s t
     exact A_ q (rd:=rd) (fun b B d=>k b (a b B d).1 B (a b B d).2) (fun b B d=>(a b B d).1) (nid:=nid) A s hmono t (fun i p=>by simp [mi] at p)
 ·split at h
  ·cases h
  ·rename_i I y
   obtain ⟨⟨out,u,md⟩,F,x,h⟩:=R.bind_ok h
   dsimp only at h
   split at h
   ·cases h
   ·rename_i hcond
    simp only [Bool.and_eq_true] at hcond
    have z:=fP hcond.1
    let vers:Nat→Nat:=fun b=>match rd b with|some B=>B.ver|none=>0
    have hvers':∀ b B,rd b=some B→vers b=B.ver:=by
     intro b B d;simp only [vers,d]
    let ρ':Nat→Nat→Option (Nat × Nat):=PK nid fp vers u.length
    split at h
    ·rename_i v
     split at h
     ·rename_i o
      cases h
      refine ⟨_,_,_,_,x,⟨fun _=> ⟨_,rfl⟩,fun _=> ⟨_,rfl⟩⟩, ?_⟩
      intro g m S w cargs C hmono q k l s t
      have j:mi u.length (jU.ret v)=(lu (nid+(u.length - fp.length)) (ren ρ' v)).2:=(BJ (Ho ρ') v (nid+(u.length - fp.length)) u.length).symm
      have:=Ba q (rd:=rd) (fun b B d=>k b (a b B d).1 B (a b B d).2) y hcond.2 (nid:=nid) hvers' (ρ':=ρ') (fun b v=>rfl) rfl s hmono t z (fun i p=>l i (by rw [j] at p;exact Nat.lt_of_lt_of_le p (fP o)))
      rw [j] at this
      exact this
     ·cases h
    ·rename_i v
     split at h
     ·rename_i o
      cases h
      refine ⟨_,_,_,_,x,⟨(fun ⟨_,h⟩=>by cases h),(fun ⟨_,h⟩=>by cases h)⟩, ?_⟩
      intro g m S w cargs C hmono q k l s t
      exact Ba q (rd:=rd) (fun b B d=>k b (a b B d).1 B (a b B d).2) y hcond.2 (nid:=nid) hvers' (ρ':=ρ') (fun b v=>rfl) rfl s hmono t z (fun i p=>l i (by simp only [mi,List.length_nil,Nat.add_zero] at p;exact Nat.lt_of_lt_of_le p (fP o)))
     ·cases h
theorem DL (x:mg P ap H) {a:dE} {nid f:Nat} {args:List AV} {c q:Cx} {r:UQ} (h:uq ap H a nid .dead f args c= .ok r q) (u:q.Ok):
  c.Ok∧Dv P f∧∀ g m S w cargs,bT ap g m S w→(∀ b ∈ r.fp,∀ B,a b=some B→g b=some B)→(∀ i,i<4→g (nid+i)=none)→bi g m S args cargs→
   Calls P f cargs.toArray w fun e w'=>YG ap g m S w r.out r.ups e w':=by
 obtain ⟨args0,C,p,y,v,_,s⟩:=yu h
 obtain ⟨l,o⟩:=x _ _ _ _ _ _ _ _ v u
 refine ⟨l,o.ent,fun g m S w cargs A k n t=> ?_⟩
 exact s g m S w cargs (fun cargs R=>Calls P f cargs.toArray w R) (fun _ _ _ j d=>j.mono d) A k n t fun z S1 _ j d=>o.calls z S1 w cargs j d
end
end AM
namespace AM
open Go
def ui (dec:List (Nat × Bool)) (env:iI):Prop:=∀ t b,az dec t=some b→env.get t= .bool b
def gJ (g:dE) (m:aX) (S:aV):List (Nat × List AV)→List Deferred→Prop
 | [],[]=>True
 |d::r,cd::cr=>(∃ cap,cd.target= .fn (.func d.1) cap∧bi g m S d.2 (cd.args++cap).toList)∧gJ g m S r cr
 |_,_=>False
theorem vF {g g':dE} {m c:aX} {S S':aV} (e:oP S S') (b:Ge g m g' c):∀ {l:List (Nat × List AV)} {ds:List Deferred},gJ g m S l ds→gJ g' c S' l ds
 | [],[],_=>by simp only [gJ]
 |d::r,cd::cr,h=>by
  simp only [gJ] at h ⊢
  obtain ⟨⟨a,i,f⟩,j⟩:=h
  exact ⟨⟨a,i,lL e b _ f⟩,vF e b j⟩
 | [],_::_,h=>by simp [gJ] at h
 |_::_,[],h=>by simp [gJ] at h
theorem AZ {g:dE} {m:aX} {S:aV}:∀ {l l':List (Nat × List AV)} {ds ds':List Deferred},gJ g m S l ds→gJ g m S l' ds'→gJ g m S (l++l') (ds++ds')
 | [],_,[],_,_,h'=>by simpa using h'
 |d::r,_,cd::cr,_,h,h'=>by
  simp only [gJ] at h
  simp only [List.cons_append,gJ]
  exact ⟨h.1,AZ h.2 h'⟩
 | [],_,_::_,_,h,_=>by simp [gJ] at h
 |_::_,_,[],_,h,_=>by simp [gJ] at h
def wpO (P:Program) (ops:Array Oper) (Q:Exit→Act→World→Prop) (o:Oper) (K:Act→World→Prop) (a:Act) (w:World):Prop:=
 if Region.wanted o (yielded ops a.tmps) then o.wp P a w K Q∨(o.asks P a w∧LetsOut Q) else K (a.put o.dst undef) w
def acl (ap:AP) (o:Oper) (g:dE) (m:aX) (S:aV) (w:World) (a:Act) (v:AV) (ups:List (Nat × aZ)) (df:List (Nat × List AV)) (Q:Exit→Act→World→Prop) (K:Act→World→Prop):Option AV→Prop
 |none=> ∀ cv m' S' w' ds,bT ap (dJ g ups) m' S' w'→Fr g m S w (dJ g ups) m' S' w'→VR (dJ g ups) m' S' v cv→gJ (dJ g ups) m' S' df ds→K ({a with defers:=ds++a.defers}.put o.dst cv) w'
 |some pv=> ∀ cv m' S' w',bT ap (dJ g ups) m' S' w'→Fr g m S w (dJ g ups) m' S' w'→VR (dJ g ups) m' S' pv cv→Q (.panic [{v:=cv,recovered:=false}]) a w'
def PH (P:Program) (ap:AP) (ops:Array Oper) (o:Oper) (nid:Nat) (env:iI) (hp:Hp) (rt rb:List Nat) (v:AV) (ups:List (Nat × aZ)) (df:List (Nat × List AV)) (p:Option AV):Prop:=
 ∀ g m S w (a:Act),bT ap g m S w→(∀ t ∈ rt,VR g m S (env.get t) (a.tmps.getD t undef))→(∀ b ∈ rb,∀ B,az hp b=some B→g b=some B)→(∀ i,i<4→g (nid+i)=none)→
  ∀ (Q:Exit→Act→World→Prop) (K:Act→World→Prop),acl ap o g m S w a v ups df Q K p→wpO P ops Q o K a w
structure agl (P:Program) (ap:AP) (ops:Array Oper) (o:Oper) (nid:Nat) (s s':RS) (p:Option AV) (v:AV) (rt rb:List Nat) (ups:List (Nat × aZ)) (df:List (Nat × List AV)):Prop where
 env:p=none→s'.env=qm s.env o.dst v
 envp:p ≠ none→s'.env=s.env∧df= []
 hp:s'.hp=ups++s.hp
 md:s'.md=s.md
 dfs:s'.dfs=df++s.dfs
 dec:p=none→ui s'.dec s'.env
 feet:p=none→s'.feet={rt,wt:=IM o,rb,wb:=ups.map (·.1)}::s.feet
 sem:PH P ap ops o nid s.env s.hp rt rb v ups df p
section
variable {P:Program} {ap:AP} {H:di}
theorem Wi (e:Array Value) (t:Nat) {v:Value} (h:e.getD t undef=v) (b:v ≠ undef):e[t]? =some v:=by
 rw [Array.getD_eq_getD_getElem?] at h
 cases a:e[t]? with
 |none=>rw [a] at h;exact absurd h.symm b
 |some u=>rw [a] at h;simpa using h
theorem FX {ops:Array Oper} {tmps:Array Value} {j s:Nat} (hs:(ops[j]?).bind (·.dst)=some s) {b:Bool} (h:tmps.getD s undef= .bool b):yielded ops tmps j=some b:=by
 unfold yielded
 rw [hs]
 simp only [Option.bind_some]
 rw [Wi tmps s h (by simp [undef])]
theorem JR {ops:Array Oper} {tmps:Array Value} {j s:Nat} (hs:(ops[j]?).bind (·.dst)=some s) (h:tmps.getD s undef= .tuple #[]):yielded ops tmps j=none:=by
 unfold yielded
 rw [hs]
 simp only [Option.bind_some]
 rw [Array.getD_eq_getD_getElem?] at h
 cases a:tmps[s]? with
 |none=>rfl
 |some u=>
  rw [a] at h
  simp at h
  rw [h]
theorem xn {g:dE} {m:aX} {S:aV} {w:World} (e:bT ap g m S w) {env:iI} {a:Act} (x:Operand) (h:∀ t,x= .tmp t→VR g m S (env.get t) (a.tmps.getD t undef)):VR g m S (qM ap env x) (a.eval x):=by
 cases x with
 |tmp t=>exact h t rfl
 |const v=>exact gX _ (J4 S v)
 | global k=>
  simp only [qM,Act.eval]
  cases d:(ap.gl[k]?).join with
  |none=>simp only [VR]
  |some xs=>
   obtain ⟨vs,c,b⟩:=e.glob k xs d
   simp only [VR,PR]
   exact ⟨k,0,vs,rfl,c,b⟩
 |func f=>
  simp only [qM,Act.eval,VR]
  exact ⟨[],[],rfl,by simp [bi],by simp [bi]⟩
theorem EN {l:List Operand} {t:Nat} (h:Operand.tmp t ∈ l):t ∈ vg l:=by
 simp only [vg,List.mem_filterMap]
 exact ⟨_,h,rfl⟩
theorem IZ {ops:List Oper} {env:iI} {dec e:List (Nat × Bool)} {o:Oper} {c B:Cx} {run:Bool} (h:Oi ops env dec o c= .ok (run,e) B) (p:B.Ok):
  c.Ok∧(ui dec env→ui e env∧(∀ t b,az dec t=some b→az e t=some b)∧∀ g m S (a:Act),(∀ t ∈ jd ops o,VR g m S (env.get t) (a.tmps.getD t undef))→Region.wanted o (yielded ops.toArray a.tmps)=run):=by
 unfold Oi at h
 unfold jd
 unfold Region.wanted
 split at h
 ·rename_i u
  cases h
  simp only [u]
  exact ⟨p,fun hd=> ⟨hd,fun _ _ h=>h,fun _ _ _ _ _=>trivial⟩⟩
 ·rename_i j i u
  simp only [u]
  split at h
  ·cases h
  ·rename_i s hs
   have k:(ops.toArray[j]?).bind (·.dst)=some s:=by simpa using hs
   split at h
   ·rename_i b l
    cases h
    refine ⟨p,fun hd=> ⟨hd,fun _ _ h=>h,fun g m S a n=> ?_⟩⟩
    have d:=n s (by simp)
    rw [hd s b l] at d
    simp only [VR,PR] at d
    rw [FX k d]
    cases i<;>cases b<;>rfl
   ·rename_i A
    split at h
    ·rename_i b l
     obtain ⟨C,D,d,y⟩:=R.bind_ok h
     cases y
     obtain ⟨z,rfl⟩:=kX d p
     refine ⟨z,fun hd=> ⟨?_, ?_,fun g m S a n=> ?_⟩⟩
     ·intro t x f
      simp only [az] at f
      split at f
      ·rename_i q
       cases f
       rw [← aN q,l]
      ·exact hd t x f
     ·intro t x f
      simp only [az]
      split
      ·rename_i q
       rw [aN q] at A
       rw [A] at f;cases f
      ·exact f
     ·have d:=n s (by simp)
      rw [l] at d
      simp only [VR,PR] at d
      rw [FX k d]
      cases i<;>cases C<;>rfl
    ·rename_i l
     cases h
     refine ⟨p,fun hd=> ⟨hd,fun _ _ h=>h,fun g m S a n=> ?_⟩⟩
     have d:=n s (by simp)
     rw [l] at d
     simp only [VR] at d
     obtain ⟨vs,d,y⟩:=d
     cases vs with
     |nil=>rw [JR k d];rfl
     |cons v r=>simp [bi] at y
    ·cases h
theorem KY {env:iI} {o:Oper} {v:AV} {t:Nat} (h:∀ d,o.dst=some d→d ≠ t):(qm env o.dst v).get t=env.get t:=by
 unfold qm
 split
 ·rename_i d hd
  simp only [iI.get,az]
  split
  ·rename_i a;exact absurd (aN a) (h d hd)
  ·rfl
 ·rfl
theorem yB {dec:List (Nat × Bool)} {env:iI} {o:Oper} {v:AV} (hd:ui dec env) (a:VA dec o=true):ui dec (qm env o.dst v):=by
 intro t b c
 rw [KY]
 ·exact hd t b c
 ·rintro d hdd rfl
  unfold VA at a
  rw [hdd] at a
  simp [c] at a
end
end AM
namespace AM
open Go
section
variable {P:Program} {ap:AP} {H:di}
theorem Ws {c:Cx} {dst:Option Nat} {v:AV} (h:(Em c dst v).2.Ok):c.Ok∧aU v (Em c dst v).1:=by
 obtain ⟨cl,orc,bs,ps,ans,hs⟩:=c
 unfold Em at h ⊢
 dsimp only at h ⊢
 split at h
 ·rename_i d x r i
  split at h
  ·rename_i b
   have e:aU v x:=h.ps _ (List.mem_cons_self ..)
   refine ⟨⟨h.bs,fun p hp=>h.ps p (List.mem_cons_of_mem _ hp)⟩, ?_⟩
   simp only [b]
   exact e
  ·rename_i b
   refine ⟨h, ?_⟩
   simp only [b]
   exact fun _ _ _ _ a=>a
 ·rename_i f
  exact ⟨h,fun _ _ _ _ a=>a⟩
theorem Wq {c:Cx} {dst:Option Nat} (h:(Ql c dst).2.Ok):c.Ok:=by
 obtain ⟨cl,orc,bs,ps,ans,hs⟩:=c
 unfold Ql at h
 dsimp only at h
 split at h
 ·split at h
  ·exact ⟨h.bs,h.ps⟩
  ·exact h
 ·exact h
theorem Wp {c:Cx} {dst:Option Nat} {ups:List (Nat × aZ)} (h:(Ej c dst ups).2.Ok):c.Ok∧(Ej c dst ups).1=ups:=by
 obtain ⟨cl,orc,bs,ps,ans,hs⟩:=c
 unfold Ej at h ⊢
 dsimp only at h ⊢
 split at h
 ·rename_i d xs r i b B
  split at h
  ·rename_i a
   have e:B.cells=xs:=h.ps _ (List.mem_cons_self ..)
   refine ⟨⟨h.bs,fun p hp=>h.ps p (List.mem_cons_of_mem _ hp)⟩, ?_⟩
   simp only [a,← e]
  ·rename_i a
   refine ⟨h, ?_⟩
   simp only [a]
 ·rename_i f
  exact ⟨h,rfl⟩
theorem BM {a:Act} {g:Operand} {args:Array Operand} {argTypes:Array TypeId} {ty:TypeId} {f:Nat} {first b:Array Value} (h:a.eval g= .func (.func f) first b) (w:World):
  (resolve a.eval {callee:= .value g,args,argTypes} ty).run P w= .ok {target:= .fn (.func f) b,args:=first++args.map a.eval} w:=by
 simp only [resolve,h,Deferred.ofValue]
 rfl
theorem Gz {a:Act} {g:Operand} {args:Array Operand} {argTypes:Array TypeId} {ty:TypeId} {f:Nat} {first b:Array Value} (h:a.eval g= .func (.func f) first b) (c:Dv P f) (w:World):
  (do let d ← resolve a.eval {callee:= .value g,args,argTypes} ty;invoke d.target d.args:Sem Next).run P w= .ok (.enter f ((first++args.map a.eval)++b)) w:=by
 rw [Sem.run_bind,BM h,Result.andThen_ok]
 exact c _ _
theorem J7 {g:dE} {m:aX} {S:aV} {ρ:Operand→AV} {cρ:Operand→Value} {args:Array Operand} (h:∀ o ∈ args,VR g m S (ρ o) (cρ o)):bi g m S (args.toList.map ρ) (args.map cρ).toList:=by
 rw [Array.toList_map]
 exact vH _ fun o a=>h o (by simpa using a)
theorem Hz:∀ {l:Hp} {b:Nat} {B:aZ},az l b=some B→(b,B) ∈ l
 | [],_,_,h=>by cases h
 | (k,X)::r,b,B,h=>by
  simp only [az] at h
  split at h
  ·rename_i a
   cases h
   have:=aN a
   subst this
   exact List.mem_cons_self ..
  ·exact List.mem_cons_of_mem _ (Hz h)
theorem EK {α β:Type} {f g:α→β}:∀ {l:List α},l.map f=l.map g→∀ {x:α},x ∈ l→f x=g x
 | [],_,_,h=>by cases h
 |a::r,h,x,hx=>by
  simp only [List.map_cons,List.cons.injEq] at h
  rcases List.mem_cons.1 hx with rfl|hx
  ·exact h.1
  ·exact EK h.2 hx
theorem xM (hap:iF P ap) (hH:mg P ap H) {nid:Nat} {ops:List Oper} {o:Oper} {s s':RS} {p:Option AV} {c c':Cx} (h:Rk ap H nid ops o s c= .ok (s',p) c') (T:c'.Ok):
  c.Ok∧(s.md= .dead→ui s.dec s.env→∃ v rb ups df,agl P ap ops.toArray o nid s s' p v (vg o.op.operands.toList++jd ops o) rb ups df):=by
 unfold Rk at h
 obtain ⟨⟨run,dec⟩,c1,e1,h⟩:=R.bind_ok h
 dsimp only at h
 split at h
 ·cases h
 rename_i F
 have hguard:∀ c1ok:c1.Ok,c.Ok∧(ui s.dec s.env→ui dec s.env∧(∀ t b,az s.dec t=some b→az dec t=some b)∧∀ g m S (a:Act),(∀ t ∈ jd ops o,VR g m S (s.env.get t) (a.tmps.getD t undef))→Region.wanted o (yielded ops.toArray a.tmps)=run):=fun hk=>IZ e1 hk
 have L:∀ {g:dE} {m:aX} {S:aV} {w:World} {a:Act},bT ap g m S w→(∀ t ∈ vg o.op.operands.toList++jd ops o,VR g m S (s.env.get t) (a.tmps.getD t undef))→∀ x ∈ o.op.operands,VR g m S (qM ap s.env x) (a.eval x):=by
  intro g m S w a j i x W
  refine xn j x fun t ht=>i t ?_
  subst ht
  exact List.mem_append.2 (.inl (EN (by simpa using W)))
 split at h
 ·
  cases h
  obtain ⟨z,X⟩:=hguard T
  refine ⟨z,fun O d=> ?_⟩
  obtain ⟨hd,_,hw⟩:=X d
  refine ⟨.tup [],[],[],[],⟨fun _=>rfl,fun h=>absurd rfl h,rfl,rfl,rfl,fun _=>yB hd F,fun _=>rfl, ?_⟩⟩
  intro g m S w a j i _ _ Q K M
  unfold wpO
  rw [hw g m S a fun t ht=>i t (List.mem_append.2 (.inr ht))]
  simp only [Bool.false_eq_true,if_false]
  have:=M undef m S w [] (by rw [fA];exact j) (by rw [fA];exact Fr.refl _ _ _ _) (by simp only [VR];exact ⟨[],rfl,by simp [bi]⟩) (by simp [gJ])
  exact this
 ·
  have hwant:∀ (Q:Exit→Act→World→Prop) (K:Act→World→Prop) (g:dE) (m:aX) (S:aV) (a:Act) (w:World),c1.Ok→ui s.dec s.env→(∀ t ∈ vg o.op.operands.toList++jd ops o,VR g m S (s.env.get t) (a.tmps.getD t undef))→o.wp P a w K Q→wpO P ops.toArray Q o K a w:=by
   intro Q K g m S a w hk d i hh
   obtain ⟨_,_,hw⟩:=(hguard hk).2 d
   unfold wpO
   rw [hw g m S a fun t ht=>i t (List.mem_append.2 (.inr ht))]
   simp only [if_true]
   exact .inl hh
  split at h
  ·
   rename_i gf args argTypes k
   split at h
   ·rename_i f first cap hf
    obtain ⟨r,c2,e2,h⟩:=R.bind_ok h
    have Y:c2.Ok:=by
     revert h
     cases hu:Ql c2 o.dst with
     | mk u Z=>
      have D:Z.Ok→c2.Ok:=fun hk=>Wq (by rw [hu];exact hk)
      cases u with
      | true=>
       dsimp only
       cases r.out with
       |ret v=>
        dsimp only
        split
        ·intro h;cases h;exact D ⟨T.bs,fun p hp=>T.ps p (List.mem_cons_of_mem _ hp)⟩
        ·intro h;cases h
       |pan v=>intro h;cases h
      |false=>dsimp only;cases r.out<;>intro h<;>cases h<;>exact D T
    obtain ⟨I,hE,hcall⟩:=DL hH e2 Y
    obtain ⟨z,X⟩:=hguard I
    refine ⟨z,fun O d=> ?_⟩
    obtain ⟨hd,_,_⟩:=X d
    have hargs:∀ {g:dE} {m:aX} {S:aV} {w:World} {a:Act},bT ap g m S w→(∀ t ∈ vg o.op.operands.toList++jd ops o,VR g m S (s.env.get t) (a.tmps.getD t undef))→
      ∃ vf J:List Value,a.eval gf= .func (.func f) vf.toArray J.toArray∧bi g m S (first++args.toList.map (qM ap s.env)++cap) ((vf++(args.map a.eval).toList)++J):=by
     intro g m S w a j i
     have y:=L j i
     rw [k] at y
     have A:=y gf (by simp [Op.operands,Call.operands])
     rw [hf] at A
     simp only [VR] at A
     obtain ⟨vf,J,D,N,G⟩:=A
     exact ⟨vf,J,D,gK (gK N (J7 fun x W=>y x (by simp [Op.operands,Call.operands,W]))) G⟩
    have U:∀ {a:Act} {vf J:List Value} (w:World),a.eval gf= .func (.func f) vf.toArray J.toArray→(execOp a.eval o).run P w= .ok (.enter f (((vf++(args.map a.eval).toList)++J).toArray)) w:=by
     intro a vf J w he
     have:=Gz (args:=args) (argTypes:=argTypes) (ty:=o.type) he hE w
     unfold execOp
     rw [k]
     dsimp only
     rw [this]
     congr 2
     apply Array.toList_inj.1
     simp
    split at h
    ·rename_i Z hu
     split at h
     ·rename_i v E
      split at h
      ·rename_i hall
       cases h
       have heq:r.ups.map (fun (q:Nat × aZ)=>some q.2)=r.ups.map (fun (q:Nat × aZ)=>az s.hp q.1):=T.ps _ (List.mem_cons_self ..)
       refine ⟨v,r.fp,[],[],⟨fun _=>rfl,fun h=>absurd rfl h,rfl,rfl,rfl,fun _=>yB hd F,fun _=>rfl, ?_⟩⟩
       intro g m S w a j i l C Q K M
       have hg':dJ g r.ups=g:=by
        funext b
        unfold dJ
        cases hl:az r.ups b with
        |none=>rfl
        |some B=>
         have hm:=Hz hl
         have y:=EK heq hm
         exact (l b (jA.1 (List.all_eq_true.1 hall _ hm)) B y.symm).symm
       refine hwant Q K g m S a w I d i ?_
       obtain ⟨vf,J,y,A⟩:=hargs j i
       unfold Oper.wp
       rw [U w y]
       refine (hcall g m S w _ j l C A).mono ?_
       rintro e w' ⟨m',S',D,N,G⟩
       rw [E] at G
       obtain ⟨cv,rfl,h6⟩:=G
       rw [hg'] at D N h6
       exact M cv m' S' w' [] D N h6 (by simp [gJ])
      ·cases h
     ·cases h
    ·rename_i Z hu
     split at h
     ·rename_i v E
      cases h
      refine ⟨v,r.fp,r.ups,[],⟨fun _=>rfl,fun h=>absurd rfl h,rfl,rfl,rfl,fun _=>yB hd F,fun _=>rfl, ?_⟩⟩
      intro g m S w a j i l C Q K M
      refine hwant Q K g m S a w I d i ?_
      obtain ⟨vf,J,y,A⟩:=hargs j i
      unfold Oper.wp
      rw [U w y]
      refine (hcall g m S w _ j l C A).mono ?_
      rintro e w' ⟨m',S',D,N,G⟩
      rw [E] at G
      obtain ⟨cv,rfl,h6⟩:=G
      exact M cv m' S' w' [] D N h6 (by simp [gJ])
     ·rename_i v E
      cases h
      refine ⟨v,r.fp,r.ups,[],⟨fun h=>(by cases h),fun _=> ⟨rfl,rfl⟩,rfl,rfl,rfl,fun h=>(by cases h),fun h=>(by cases h), ?_⟩⟩
      intro g m S w a j i l C Q K M
      refine hwant Q K g m S a w I d i ?_
      obtain ⟨vf,J,y,A⟩:=hargs j i
      unfold Oper.wp
      rw [U w y]
      refine (hcall g m S w _ j l C A).mono ?_
      rintro e w' ⟨m',S',D,N,G⟩
      rw [E] at G
      obtain ⟨cv,rfl,h6⟩:=G
      exact M cv m' S' w' D N h6
   ·cases h
  ·
   split at h
   ·cases h
    exact ⟨(hguard T).1,fun O=>by simp_all⟩
   ·cases h
    exact ⟨(hguard T).1,fun O=>by simp_all⟩
   ·cases h
  ·
   rename_i gf args argTypes k
   split at h
   ·rename_i f first cap hf
    cases h
    obtain ⟨z,X⟩:=hguard T
    refine ⟨z,fun O d=> ?_⟩
    obtain ⟨hd,_,_⟩:=X d
    refine ⟨.dead,[],[],[(f,first++args.toList.map (qM ap s.env)++cap)],⟨fun _=>rfl,fun h=>absurd rfl h,rfl,rfl,rfl,fun _=>yB hd F,fun _=>rfl, ?_⟩⟩
    intro g m S w a j i l C Q K M
    refine hwant Q K g m S a w T d i ?_
    have y:=L j i
    rw [k] at y
    have A:=y gf (by simp [Op.operands,Call.operands])
    rw [hf] at A
    simp only [VR] at A
    obtain ⟨vf,J,D,N,G⟩:=A
    unfold Oper.wp
    have hr:(execOp a.eval o).run P w= .ok (.defer {target:= .fn (.func f) J.toArray,args:=vf.toArray++args.map a.eval}) w:=by
     unfold execOp
     rw [k]
     dsimp only
     rw [Sem.run_bind,BM D,Result.andThen_ok]
     rfl
    rw [hr]
    refine M undef m S w [{target:= .fn (.func f) J.toArray,args:=vf.toArray++args.map a.eval}] (by rw [fA];exact j) (by rw [fA];exact Fr.refl _ _ _ _) (by simp only [VR]) ?_
    simp only [gJ,fA,and_true]
    refine ⟨J.toArray,rfl, ?_⟩
    have:=gK (gK N (J7 (args:=args) fun x W=>y x (by simp [Op.operands,Call.operands,W]))) G
    simpa using this
   ·cases h
  ·
   rename_i x k
   split at h
   ·rename_i t v W
    cases h
    obtain ⟨z,X⟩:=hguard T
    refine ⟨z,fun O d=> ?_⟩
    obtain ⟨hd,_,_⟩:=X d
    refine ⟨.dead,[],[],[],⟨fun h=>(by cases h),fun _=> ⟨rfl,rfl⟩,rfl,rfl,rfl,fun h=>(by cases h),fun h=>(by cases h), ?_⟩⟩
    intro g m S w a j i l C Q K M
    refine hwant Q K g m S a w T d i ?_
    have y:=L j i
    rw [k] at y
    have A:=y x (by simp [Op.operands])
    rw [W] at A
    have h2':=A
    simp only [VR] at h2'
    obtain ⟨u,D,N⟩:=h2'
    unfold Oper.wp
    have hr:(execOp a.eval o).run P w= .halt (.panic (a.eval x)) w:=by
     unfold execOp
     rw [k]
     dsimp only
     rw [D]
     rfl
    rw [hr]
    exact M _ m S w (by rw [fA];exact j) (by rw [fA];exact Fr.refl _ _ _ _) (by rw [fA];exact A)
   ·cases h
  ·
   rename_i op n1 n2 n3 n4
   obtain ⟨em,c2,e2,h⟩:=R.bind_ok h
   split at h
   ·cases h
   ·rename_i v ups bs k
    obtain ⟨_,Z,e3,h⟩:=R.bind_ok h
    have hv1:(Em Z o.dst v).2.Ok→Z.Ok∧aU v (Em Z o.dst v).1:=Ws
    generalize Em Z o.dst v=q1 at h hv1
    obtain ⟨v1,c4⟩:=q1
    dsimp only at h hv1
    have hv2:(Ej c4 o.dst ups).2.Ok→c4.Ok∧(Ej c4 o.dst ups).1=ups:=Wp
    generalize Ej c4 o.dst ups=q2 at h hv2
    obtain ⟨ups1,c5⟩:=q2
    dsimp only at h hv2
    cases h
    obtain ⟨hc4,hups⟩:=hv2 T
    subst hups
    obtain ⟨hc3,hfit⟩:=hv1 hc4
    obtain ⟨Y,hbs⟩:=IQ e3 hc3
    have hem:c1.Ok∧∀ n,yI (qM ap s.env) o.op=some n→Nat.beq n 0=em:=by
     split at e2
     ·rename_i n hn
      obtain ⟨hk,rfl⟩:=kX e2 Y
      exact ⟨hk,fun n' V=>by rw [hn] at V;cases V;rfl⟩
     ·rename_i hn
      cases e2
      exact ⟨Y,fun n' V=>by rw [hn] at V;cases V⟩
    obtain ⟨I,hem⟩:=hem
    obtain ⟨z,X⟩:=hguard I
    refine ⟨z,fun O d=> ?_⟩
    obtain ⟨hd,_,_⟩:=X d
    refine ⟨v1,XC (qM ap s.env) o.op,ups1,[],⟨fun _=>rfl,fun h=>absurd rfl h,rfl,rfl,rfl,fun _=>yB hd F,fun _=>rfl, ?_⟩⟩
    intro g m S w a j i l C Q K M
    refine hwant Q K g m S a w I d i ?_
    have y:=L j i
    have hok:=TS hap j (nid:=nid) (C 0 (by omega)) (ρ:=qM ap s.env) (cρ:=a.eval) (fun b B hb=>by
      split at hb
      ·rename_i hm;exact l b (jA.1 hm) B hb
      ·cases hb) o y (dec:=fun| .tmp t=>az dec t|_=>none) (fun x W b hb=>by
      split at hb
      ·rename_i t
       have:=i t (List.mem_append.2 (.inl (EN (by simpa using W))))
       rw [hd t b hb] at this
       simp only [VR,PR] at this
       exact this
      ·cases hb) hem k hbs
    obtain ⟨nx,m',w',A,D,N,G⟩:=hok
    unfold Oper.wp
    rw [A]
    rcases G with ⟨cv,rfl,G⟩|⟨rfl,rfl⟩
    ·exact M cv m' S w' [] D N (hfit _ _ _ _ G) (by simp [gJ])
    ·exact M undef m' S w' [] D N (hfit _ _ _ _ (by simp only [VR])) (by simp [gJ])
end
end AM
namespace AM
open Go
theorem vS:∀ {hp:Hp} {b:Nat} {B:aZ},az hp b=some B→b<kF hp
 | [],b,B,h=>by simp [az] at h
 | (c,C)::r,b,B,h=>by
  simp only [az] at h
  simp only [kF]
  split at h
  ·rename_i d
   have d:=aN d
   subst d
   split
   ·rename_i a;exact fQ a
   ·omega
  ·have f:=vS h
   split
   ·exact f
   ·rename_i a
    have:¬ c<kF r:=fun e=>by
     have:Nat.blt c (kF r)=true:=by
      show Nat.ble (c+1) (kF r)=true
      exact Nat.ble_eq_true_of_le e
     rw [this] at a;cases a
    omega
theorem EG:∀ {l:Hp} {b:Nat} {B:aZ},az l b=some B→b ∈ l.map (·.1)
 | [],b,B,h=>by simp [az] at h
 |(c,C)::r,b,B,h=>by
  simp only [az] at h
  split at h
  ·rename_i a;simp [aN a]
  ·simp [EG h]
structure FR (ap:AP) (env:iI) (hp:Hp) (dfs:List (Nat × List AV)) (nt:Nat) (m:aX) (S:aV) (w:World) (a:Act):Prop where
 srel:bT ap (az hp) m S w
 env:∀ t,VR (az hp) m S (env.get t) (a.tmps.getD t undef)
 dfs:gJ (az hp) m S dfs a.defers
 size:a.tmps.size=nt
theorem LW (a:Act) (d:Option Nat) (v:Value):(a.put d v).tmps.size=a.tmps.size:=by
 cases d<;>simp [Act.put]
theorem Fa (a:Act) (d:Option Nat) (v:Value):(a.put d v).defers=a.defers:=by
 cases d<;>simp [Act.put]
theorem Fe (a:Act) (d:Option Nat) (v:Value) {t:Nat} (h:d ≠ some t):(a.put d v).tmps.getD t undef=a.tmps.getD t undef:=by
 cases d with
 |none=>rfl
 |some d=>
  have b:d ≠ t:=fun e=>h (by rw [e])
  simp only [Act.put,Array.getD_eq_getD_getElem?]
  rw [Array.getElem?_setIfInBounds_ne b]
theorem Fb (a:Act) (d:Nat) (v:Value) (h:d<a.tmps.size):(a.put (some d) v).tmps.getD d undef=v:=by
 simp only [Act.put,Array.getD_eq_getD_getElem?]
 rw [Array.getElem?_setIfInBounds_self_of_lt h];rfl
theorem lQ {env:iI} {d:Nat} {v:AV}:(qm env (some d) v).get d=v:=by simp [qm,iI.get,az]
theorem yL {env:iI} {dst:Option Nat} {v:AV} {t:Nat} (h:dst ≠ some t):(qm env dst v).get t=env.get t:=by
 cases dst with
 |none=>rfl
 | some d=>
  have a:Nat.beq d t=false:=by
   cases b:Nat.beq d t with
   |false=>rfl
   |true=>exact absurd (by rw [aN b]) h
  simp [qm,iI.get,az,a]
section
variable {P:Program} {ap:AP} {H:di}
theorem FR.put {env:iI} {hp ups:Hp} {dfs e:List (Nat × List AV)} {nt:Nat} {m b:aX} {S S':aV} {w w':World} {a:Act} (h:FR ap env hp dfs nt m S w a) {dst:Option Nat} (hd:∀ d,dst=some d→d<nt) {v:AV} {cv:Value} {c:List Deferred}
  (h1:bT ap (dJ (az hp) ups) b S' w') (h2:Fr (az hp) m S w (dJ (az hp) ups) b S' w') (h3:VR (dJ (az hp) ups) b S' v cv) (h4:gJ (dJ (az hp) ups) b S' e c):
  FR ap (qm env dst v) (ups++hp) (e++dfs) nt b S' w' ({a with defers:=c++a.defers}.put dst cv):=by
 rw [jT] at h1 h2 h3 h4
 refine ⟨h1, ?_, ?_, ?_⟩
 ·intro t
  by_cases ht:dst=some t
  ·subst ht
   rw [lQ,Fb _ _ _ (by have:=hd t rfl;have:=h.size;simpa [this] using hd t rfl)]
   exact h3
  ·rw [yL ht,Fe _ _ _ ht]
   exact pg h2.sle h2.ge _ (h.env t)
 ·rw [Fa]
  exact AZ h4 (vF h2.sle h2.ge h.dfs)
 ·rw [LW];exact h.size
theorem FR.still {env:iI} {hp ups:Hp} {dfs:List (Nat × List AV)} {nt:Nat} {m b:aX} {S S':aV} {w w':World} {a:Act} (h:FR ap env hp dfs nt m S w a)
  (h1:bT ap (dJ (az hp) ups) b S' w') (h2:Fr (az hp) m S w (dJ (az hp) ups) b S' w'):FR ap env (ups++hp) dfs nt b S' w' a:=by
 rw [jT] at h1 h2
 exact ⟨h1,fun t=>pg h2.sle h2.ge _ (h.env t),vF h2.sle h2.ge h.dfs,h.size⟩
def xZ (ap:AP) (hp0:Hp) (m:aX) (S:aV) (w:World) (nt:Nat) (env:iI) (hp:Hp) (dfs:List (Nat × List AV)) (Q:Exit→Act→World→Prop):Option AV→Prop
 |none=> ∀ m' S' w' a',Fr (az hp0) m S w (az hp) m' S' w'→FR ap env hp dfs nt m' S' w' a'→Q .normal a' w'
 |some v=> ∀ m' S' w' a' cv,Fr (az hp0) m S w (az hp) m' S' w'→FR ap env hp dfs nt m' S' w' a'→VR (az hp) m' S' v cv→Q (.panic [{v:=cv,recovered:=false}]) a' w'
theorem tZ {ops:Array Oper} {Q:Exit→Act→World→Prop} {i:Nat} {o:Oper} (b:ops[i]? =some o) (rest:List Nat) (a:Act) (w:World):wpOps P ops Q (i::rest) a w↔wpO P ops Q o (wpOps P ops Q rest) a w:=by
 simp only [wpOps,b,wpO]
theorem Ot {hp ups:Hp} {nid:Nat} (e:∀ b B,az hp b=some B→b<nid) (c:(ups.map (·.1)).all (fun x=>Nat.blt x (nid+4))=true):∀ b B,az (ups++hp) b=some B→b<nid+4:=by
 intro b B a
 rw [iw] at a
 split at a
 ·rename_i x d
  have f:b ∈ ups.map (·.1):=EG d
  exact fQ (List.all_eq_true.1 c b f)
 ·have:=e b B a;omega
theorem nN (C:iF P ap) (Y:mg P ap H) {ops:List Oper} {nt:Nat} (J:∀ o ∈ ops,∀ d,o.dst=some d→d<nt):∀ (l:List Oper) (i nid:Nat) (s s':RS) (p:Option AV) (c c':Cx),xN ap H ops l nid s c= .ok (s',p) c'→c'.Ok→
  c.Ok∧(s.md= .dead→ui s.dec s.env→l=ops.drop i→(∀ b B,az s.hp b=some B→b<nid)→
  s'.md= .dead∧∀ m S w a,FR ap s.env s.hp s.dfs nt m S w a→∀ Q,xZ ap s.hp m S w nt s'.env s'.hp s'.dfs Q p→wpOps P ops.toArray Q (List.range' i l.length) a w)
 | [],i,nid,s,s',p,c,c',h,hc=>by
  cases h
  exact ⟨hc,fun e _ _ _=> ⟨e,fun m S w a x Q u=>u m S w a (Fr.refl _ _ _ _) x⟩⟩
 | o ::r,i,nid,s,s',p,c,c',h,hc=>by
  simp only [xN] at h
  obtain ⟨⟨s1,p1⟩,c1,e1,h⟩:=R.bind_ok h
  dsimp only at h
  have hfresh:(∀ b B,az s.hp b=some B→b<nid)→∀ j,j<4→az s.hp (nid+j)=none:=by
   intro I j _
   cases hb:az s.hp (nid+j) with
   |none=>rfl
   |some B=>have:=I _ _ hb;omega
  have z:o::r=ops.drop i→ops[i]? =some o∧ops.toArray[i]? =some o∧r=ops.drop (i+1)∧∀ d,o.dst=some d→d<nt:=by
   intro G
   have k:ops[i]? =some o:=by
    have:(ops.drop i)[0]? =some o:=by rw [← G];rfl
    simpa using this
   have O:r=ops.drop (i+1):=by
    have:r=(ops.drop i).drop 1:=by rw [← G];rfl
    rw [this,List.drop_drop]
   exact ⟨k,by simpa using k,O,J o (List.mem_of_getElem? k)⟩
  cases p1 with
  |some v=>
   cases h
   obtain ⟨F,E⟩:=xM C Y e1 hc
   refine ⟨F,fun e q G I=> ?_⟩
   obtain ⟨k,f,O,hd⟩:=z G
   obtain ⟨v1,rb,ups,df,hs⟩:=E e q
   refine ⟨by rw [hs.md,e],fun m S w a x Q u=> ?_⟩
   rw [List.length_cons,List.range'_succ,tZ f]
   refine hs.sem (az s.hp) m S w a x.srel (fun t _=>x.env t) (fun b _ B hB=>hB) (hfresh I) Q _ ?_
   intro cv m' S' w' U y N
   have Z:=x.still U y
   rw [jT] at y N
   obtain ⟨n,rfl⟩:=hs.envp (by simp)
   have u:=u m' S' w' a cv
   rw [hs.hp,hs.dfs,n] at u
   exact u y Z N
  | none=>
   dsimp only at h
   cases D:s1.feet with
   |nil=>rw [D] at h;cases h
   | cons ft fr=>
    rw [D] at h
    dsimp only at h
    split at h
    ·rename_i L
     obtain ⟨T,ih⟩:=nN C Y J r (i+1) (nid+4) s1 s' p c1 c' h hc
     obtain ⟨F,E⟩:=xM C Y e1 T
     refine ⟨F,fun e q G I=> ?_⟩
     obtain ⟨k,f,O,hd⟩:=z G
     obtain ⟨v1,rb,ups,df,hs⟩:=E e q
     have A:=hs.feet rfl
     rw [D] at A
     simp only [List.cons.injEq] at A
     rw [A.1] at L
     obtain ⟨M,ih⟩:=ih (by rw [hs.md,e]) (hs.dec rfl) O (by rw [hs.hp];exact Ot I L)
     refine ⟨M,fun m S w a x Q u=> ?_⟩
     rw [List.length_cons,List.range'_succ,tZ f]
     refine hs.sem (az s.hp) m S w a x.srel (fun t _=>x.env t) (fun b _ B hB=>hB) (hfresh I) Q _ ?_
     intro cv m' S' w' ds U y N h4
     have K:=x.put hd U y N h4
     rw [jT] at y
     have n:=hs.env rfl
     rw [← n,← hs.hp,← hs.dfs] at K
     refine ih m' S' w' _ K Q ?_
     rw [← hs.hp] at y
     cases p with
     |none=>exact fun m2 S2 w2 X V h6=>u m2 S2 w2 X (y.trans V) h6
     |some v=>exact fun m2 S2 w2 X W V h6 h7=>u m2 S2 w2 X W (y.trans V) h6 h7
    ·cases h
end
end AM
namespace AM
open Go
structure uh where
 dst:Option Nat
 v:AV
 rt:List Nat
 rb:List Nat
 ups:List (Nat × aZ)
def P_ (d:Option Nat):List Nat:=match d with|some d=> [d]|none=> []
def uh.foot (r:uh):Dw:={rt:=r.rt,wt:=P_ r.dst,rb:=r.rb,wb:=r.ups.map (·.1)}
def qL (D:Nat→Bool):Nat→iI→List uh→iI
 |_,e,[]=>e
 |j,e,r::rs=>qL D (j+1) (match D j with|true=>qm e r.dst r.v|false=>e) rs
def yO (D:Nat→Bool):Nat→Hp→List uh→Hp
 |_,h,[]=>h
 |j,h,r::rs=>yO D (j+1) (match D j with|true=>r.ups++h|false=>h) rs
theorem uy {D D':Nat→Bool} {t:Nat}:∀ (rs:List uh) (j:Nat) (e e':iI),e.get t=e'.get t→(∀ k r,rs[k]? =some r→r.dst=some t→D (j+k)=D' (j+k))→(qL D j e rs).get t=(qL D' j e' rs).get t
 | [],_,_,_,he,_=>he
 | r::rs,j,e,e',he,h=>by
  simp only [qL]
  refine uy rs (j+1) _ _ ?_ fun k c b hd=> ?_
  ·by_cases hd:r.dst=some t
   ·have a:=h 0 r rfl hd
    rw [Nat.add_zero] at a
    rw [a]
    cases D' j with
    |true=>simp only [hd,lQ]
    |false=>exact he
   ·cases D j<;>cases D' j<;>simp only [yL hd,he]
  ·have:=h (k+1) c (by simpa using b) hd
   rwa [show j+(k+1)=j+1+k by omega] at this
theorem Jd:∀ {l:Hp} {b:Nat},b ∉ l.map (·.1)→az l b=none:=by
 intro l b h
 cases a:az l b with
 |none=>rfl
 |some B=>exact absurd (EG a) h
theorem yV {ups hp:Hp} {b:Nat} (h:b ∉ ups.map (·.1)):az (ups++hp) b=az hp b:=by
 rw [iw,Jd h]
theorem Bv:∀ {l:Hp} {b:Nat},b ∈ l.map (·.1)→∃ B,az l b=some B
 | [],b,h=>by simp at h
 | (c,C)::r,b,h=>by
  simp only [az]
  cases a:Nat.beq c b with
  |true=>exact ⟨C,rfl⟩
  |false=>
   simp only [List.map_cons,List.mem_cons] at h
   rcases h with h|h
   ·subst h;simp at a
   ·exact Bv h
theorem yU {ups hp a:Hp} {b:Nat} (h:b ∈ ups.map (·.1)):az (ups++hp) b=az (ups++a) b:=by
 obtain ⟨B,c⟩:=Bv h
 rw [iw,iw,c]
theorem qR {D D':Nat→Bool} {b:Nat}:∀ (rs:List uh) (j:Nat) (h h':Hp),az h b=az h' b→(∀ k r,rs[k]? =some r→b ∈ r.ups.map (·.1)→D (j+k)=D' (j+k))→az (yO D j h rs) b=az (yO D' j h' rs) b
 | [],_,_,_,he,_=>he
 | r::rs,j,e,e',he,h=>by
  simp only [yO]
  refine qR rs (j+1) _ _ ?_ fun k d c hd=> ?_
  ·by_cases hd:b ∈ r.ups.map (·.1)
   ·have a:=h 0 r rfl hd
    rw [Nat.add_zero] at a
    rw [a]
    cases D' j with
    |true=>exact yU hd
    |false=>exact he
   ·cases D j<;>cases D' j<;>simp only [yV hd,he]
  ·have:=h (k+1) d (by simpa using c) hd
   rwa [show j+(k+1)=j+1+k by omega] at this
theorem zW:∀ (a:List uh) (j:Nat) (e:iI) {D:Nat→Bool},(∀ k,k<a.length→D (j+k)=false)→qL D j e a=e
 | [],_,_,_,_=>rfl
 |r::a,j,e,D,h=>by
  have b:=h 0 (by simp)
  rw [Nat.add_zero] at b
  simp only [qL,b]
  exact zW a (j+1) e fun k c=>by have:=h (k+1) (by simpa using c);rwa [show j+(k+1)=j+1+k by omega] at this
theorem uI:∀ (a:List uh) (j:Nat) (e:Hp) {D:Nat→Bool},(∀ k,k<a.length→D (j+k)=false)→yO D j e a=e
 | [],_,_,_,_=>rfl
 |r::a,j,e,D,h=>by
  have b:=h 0 (by simp)
  rw [Nat.add_zero] at b
  simp only [yO,b]
  exact uI a (j+1) e fun k c=>by have:=h (k+1) (by simpa using c);rwa [show j+(k+1)=j+1+k by omega] at this
def zX (e:iI) (rs:List uh):iI:=qL (fun _=>true) 0 e rs
def Ol (h:Hp) (rs:List uh):Hp:=yO (fun _=>true) 0 h rs
theorem xk (D:Nat→Bool):∀ (rs:List uh) (j d:Nat) (e:iI),qL D (j+d) e rs=qL (fun k=>D (k+d)) j e rs
 | [],_,_,_=>rfl
 |r::rs,j,d,e=>by
  simp only [qL]
  rw [show j+d+1=j+1+d by omega]
  exact xk D rs (j+1) d _
theorem zZ (D:Nat→Bool):∀ (rs:List uh) (j d:Nat) (e:Hp),yO D (j+d) e rs=yO (fun k=>D (k+d)) j e rs
 | [],_,_,_=>rfl
 |r::rs,j,d,e=>by
  simp only [yO]
  rw [show j+d+1=j+1+d by omega]
  exact zZ D rs (j+1) d _
theorem vN (e:iI) (r:uh) (a:List uh):zX e (r::a)=zX (qm e r.dst r.v) a:=by
 simp only [zX,qL]
 exact xk (fun _=>true) a 0 1 _
theorem yP (h:Hp) (r:uh) (a:List uh):Ol h (r::a)=Ol (r.ups++h) a:=by
 simp only [Ol,yO]
 exact zZ (fun _=>true) a 0 1 _
theorem IR:∀ (a:List uh) (k:Nat) (e:iI),qL (fun j=>decide (j<k)) 0 e a=zX e (a.take k)
 |a,0,e=>by
  simp only [List.take_zero]
  exact zW a 0 e fun _ _=>by simp
 | [],k+1,e=>rfl
 |r::a,k+1,e=>by
  simp only [List.take_succ_cons,vN,qL]
  rw [show decide (0<k+1)=true by simp]
  dsimp only
  rw [← IR a k]
  have:=xk (fun j=>decide (j<k+1)) a 0 1 (qm e r.dst r.v)
  rw [this]
  congr 1
  funext j
  simp
theorem Oj:∀ (a:List uh) (k:Nat) (e:Hp),yO (fun j=>decide (j<k)) 0 e a=Ol e (a.take k)
 |a,0,e=>by
  simp only [List.take_zero]
  exact uI a 0 e fun _ _=>by simp
 | [],k+1,e=>rfl
 |r::a,k+1,e=>by
  simp only [List.take_succ_cons,yP,yO]
  rw [show decide (0<k+1)=true by simp]
  dsimp only
  rw [← Oj a k]
  have:=zZ (fun j=>decide (j<k+1)) a 0 1 (r.ups++e)
  rw [this]
  congr 1
  funext j
  simp
theorem SV (e:iI):∀ (b:List uh) (k:Nat) (r:uh),b[k]? =some r→zX e (b.take (k+1))=qm (zX e (b.take k)) r.dst r.v:=by
 intro b
 induction b generalizing e with
 |nil=>intro k r h;simp at h
 | cons a b ih=>
  intro k r h
  cases k with
  |zero=>simp at h;subst h;rfl
  |succ k=>
   simp only [List.take_succ_cons,vN]
   exact ih _ k r (by simpa using h)
theorem Wu (e:Hp):∀ (b:List uh) (k:Nat) (r:uh),b[k]? =some r→Ol e (b.take (k+1))=r.ups++Ol e (b.take k):=by
 intro b
 induction b generalizing e with
 |nil=>intro k r h;simp at h
 | cons a b ih=>
  intro k r h
  cases k with
  |zero=>simp at h;subst h;rfl
  |succ k=>
   simp only [List.take_succ_cons,yP]
   exact ih _ k r (by simpa using h)
section
variable {P:Program} {ap:AP} {H:di}
structure UX (P:Program) (ap:AP) (ops:List Oper) (i nid:Nat) (s s':RS) (recs:List uh):Prop where
 env:s'.env=zX s.env recs
 hp:s'.hp=Ol s.hp recs
 feet:s'.feet=(recs.map uh.foot).reverse++s.feet
 dle:s.dfs.length≤s'.dfs.length
 bound:∀ (k:Nat) (r:uh),recs[k]? =some r→∀ b ∈ r.ups.map (·.1),b<nid+4*k+4
 sem:s'.dfs.length=s.dfs.length→s'.dfs=s.dfs∧∀ (k:Nat) (r:uh),recs[k]? =some r→∃ o,ops[i+k]? =some o∧r.dst=o.dst∧PH P ap ops.toArray o (nid+4*k) (zX s.env (recs.take k)) (Ol s.hp (recs.take k)) r.rt r.rb r.v r.ups [] none
theorem acX (u:iF P ap) (K:mg P ap H) {ops:List Oper}:∀ (l:List Oper) (i nid:Nat) (s s':RS) (c c':Cx),xN ap H ops l nid s c= .ok (s',none) c'→c'.Ok→
  c.Ok∧(s.md= .dead→ui s.dec s.env→l=ops.drop i→s'.md= .dead∧∃ a:List uh,a.length=l.length∧UX P ap ops i nid s s' a)
 | [],i,nid,s,s',c,c',h,hc=>by
  cases h
  exact ⟨hc,fun d _ _=> ⟨d,[],rfl,⟨rfl,rfl,rfl,Nat.le_refl _,fun k r h=>by simp at h,fun _=> ⟨rfl,fun k r h=>by simp at h⟩⟩⟩⟩
 | o :: r,i,nid,s,s',c,c',h,hc=>by
  simp only [xN] at h
  obtain ⟨⟨A,X⟩,T,Q,h⟩:=R.bind_ok h
  dsimp only at h
  cases X with
  |some v=>cases h
  | none=>
   dsimp only at h
   cases j:A.feet with
   |nil=>rw [j] at h;cases h
   | cons ft fr=>
    rw [j] at h
    dsimp only at h
    split at h
    ·rename_i p
     obtain ⟨B,W⟩:=acX u K r (i+1) (nid+4) A s' T c' h hc
     obtain ⟨J,I⟩:=xM u K Q B
     refine ⟨J,fun d y M=> ?_⟩
     have D:ops[i]? =some o:=by
      have:(ops.drop i)[0]? =some o:=by rw [← M];rfl
      simpa using this
     have V:r=ops.drop (i+1):=by
      have:r=(ops.drop i).drop 1:=by rw [← M];rfl
      rw [this,List.drop_drop]
     obtain ⟨v1,rb,ups,F,hs⟩:=I d y
     have f:=hs.feet rfl
     rw [j] at f
     simp only [List.cons.injEq] at f
     rw [f.1] at p
     obtain ⟨x,a,t,e⟩:=W (by rw [hs.md,d]) (hs.dec rfl) V
     refine ⟨x,{dst:=o.dst,v:=v1,rt:=vg o.op.operands.toList++jd ops o,rb:=rb,ups:=ups}::a,by simp [t], ?_⟩
     have E:s.dfs.length≤A.dfs.length:=by rw [hs.dfs];simp
     refine ⟨?_, ?_, ?_,Nat.le_trans E e.dle, ?_, ?_⟩
     ·rw [e.env,vN,hs.env rfl]
     ·rw [e.hp,yP,hs.hp]
     ·rw [e.feet,hs.feet rfl]
      simp [uh.foot,P_,IM]
      cases o.dst<;>rfl
     ·intro k q n b L
      cases k with
      |zero=>
       simp at n
       subst n
       exact fQ (List.all_eq_true.1 p b L)
      |succ k=>
       have:=e.bound k q (by simpa using n) b L
       omega
     ·intro he
      have Z:=e.dle
      obtain ⟨C,z⟩:=e.sem (by omega)
      have G:F= []:=by
       have:F.length=0:=by
        have:=hs.dfs
        have h3:A.dfs.length=F.length+s.dfs.length:=by rw [this];simp
        omega
       exact List.eq_nil_of_length_eq_zero this
      subst G
      refine ⟨by rw [C,hs.dfs];rfl, ?_⟩
      intro k q n
      cases k with
      |zero=>
       simp at n
       subst n
       exact ⟨o,D,rfl,hs.sem⟩
      |succ k=>
       obtain ⟨O,U,Y,N⟩:=z k q (by simpa using n)
       refine ⟨O,by rw [show i+(k+1)=i+1+k by omega];exact U,Y, ?_⟩
       rw [List.take_succ_cons,vN,yP]
       rw [hs.env rfl,hs.hp] at N
       rw [show nid+4*(k+1)=nid+4+4*k by omega]
       exact N
    ·cases h
end
end AM
namespace AM
open Go
theorem Eg {md:Region.Mode} (b:Array Nat) (i:Nat):∀ (l:List Edge) (s:Nat),(l.foldl (fun s e=>if Region.binds md e then s|||2^e.on|||b.getD e.on 0 else s) s).testBit i=true→
  s.testBit i=true∨∃ e ∈ l,Region.binds md e=true∧(i=e.on∨(b.getD e.on 0).testBit i=true)
 | [],s,h=> .inl h
 | e::r,s,h=>by
  simp only [List.foldl_cons] at h
  rcases Eg b i r _ h with a|⟨e',a,d⟩
  ·split at a
   ·rename_i c
    simp only [Nat.testBit_or,Bool.or_eq_true,Nat.testBit_two_pow,decide_eq_true_eq] at a
    rcases a with (a|a)|a
    ·exact .inl a
    ·exact .inr ⟨e,by simp,c,.inl a.symm⟩
    ·exact .inr ⟨e,by simp,c,.inr a⟩
   ·exact .inl a
  ·exact .inr ⟨e',by simp [a],d⟩
def pG (acc:Array Nat) (o:Oper):Array Nat:=acc.push (o.after.toList.foldl (fun s e=>if Region.binds .any e then s|||2^e.on|||acc.getD e.on 0 else s) 0)
theorem Eh (a:Array Nat) (x:Nat):(a.push x).getD a.size 0=x:=by simp [Array.getD_eq_getD_getElem?]
def Cj (ops:List Oper) (D:Nat→Bool):Prop:=∀ (k:Nat) (o:Oper),ops[k]? =some o→D k=true→∀ e ∈ o.after,Region.binds .any e=true→D e.on=true
def acm (D:Nat→Bool) (acc:Array Nat):Prop:=∀ k,D k=true→∀ i,(acc.getD k 0).testBit i=true→D i=true
theorem PL {ops:List Oper} {D:Nat→Bool} (n:Cj ops D):∀ (l:List Oper) (acc:Array Nat),acm D acc→l=ops.drop acc.size→acm D (l.foldl pG acc)
 | [],acc,h,_=>h
 | o ::r,acc,h,hl=>by
  simp only [List.foldl_cons]
  have b:ops[acc.size]? =some o:=by
   have:(ops.drop acc.size)[0]? =some o:=by rw [← hl];rfl
   simpa using this
  refine PL n r _ ?_ ?_
  ·intro k j i a
   by_cases hks:k<acc.size
   ·refine h k j i ?_
    simpa [pG,Array.getD_eq_getD_getElem?,Array.getElem?_push,Nat.ne_of_lt hks] using a
   ·by_cases hke:k=acc.size
    ·subst hke
     rw [pG,Eh] at a
     rcases Eg acc i _ _ a with c|⟨e,c,p,d⟩
     ·simp at c
     ·have f:=n _ o b j e (by simpa using c) p
      rcases d with rfl|d
      ·exact f
      ·exact h _ f i d
    ·have:(pG acc o)[k]? =none:=by
      simp only [pG]
      rw [Array.getElem?_eq_none];simp;omega
     simp [Array.getD_eq_getD_getElem?,this] at a
  ·have:(pG acc o).size=acc.size+1:=by simp [pG]
   rw [this,← List.drop_drop,← hl];rfl
theorem Sj (ops:List Oper):Region.before ops.toArray=ops.foldl pG #[]:=by
 simp only [Region.before,← Array.foldl_toList]
 rfl
theorem qf {ops:List Oper} {D:Nat→Bool} (c:Cj ops D) {k i:Nat} (b:D k=true) (h:((Region.before ops.toArray).toList.getD k 0).testBit i=true):D i=true:=by
 have:=PL c ops #[] (fun k _ i a=>by simp at a) (by simp)
 rw [← Sj] at this
 refine this k b i ?_
 rw [List.getD_eq_getElem?_getD] at h
 rw [Array.getD_eq_getD_getElem?]
 simpa using h
theorem qV {a b:List Nat} {x:Nat} (d:x ∈ a) (c:x ∈ b):EL a b=true:=List.any_eq_true.2 ⟨x,d,jA.2 c⟩
structure Iq (n:Nat) (bef:Nat→Nat→Bool) (recs:List uh):Prop where
 ok:∀ i j a b,recs[i]? =some a→recs[j]? =some b→i<j→(jQ a.foot b.foot=true∨∃ x ∈ b.ups.map (·.1),n+4*i≤x∧x<n+4*i+4)→bef j i=true
theorem OT {n:Nat} {e:List Nat} {d:List uh} (h:EY n e (d.map uh.foot).reverse=true):Iq n (fun j i=>(e.getD j 0).testBit i) d:=by
 refine ⟨fun i j a b q l f k=> ?_⟩
 simp only [EY,List.reverse_reverse,List.all_eq_true] at h
 have c:=h (a.foot,i) (by rw [List.mem_zipIdx_iff_getElem?];simp [q]) (b.foot,j) (by rw [List.mem_zipIdx_iff_getElem?];simp [l])
 simp only [Bool.or_eq_true,Bool.not_eq_true'] at c
 rcases c with (c|c)|c
 ·have:Nat.blt i j=true:=Nat.ble_eq_true_of_le f
  rw [this] at c;cases c
 ·exfalso
  rw [Bool.or_eq_false_iff] at c
  rcases k with k|⟨x,o,p,r⟩
  ·rw [k] at c;cases c.1
  ·have:=List.any_eq_false.1 c.2 x o
   simp only [Bool.and_eq_true,not_and] at this
   exact this (Nat.ble_eq_true_of_le p) (Nat.ble_eq_true_of_le r)
 ·exact c
section
variable {P:Program} {ap:AP} {H:di}
theorem FR.congr {env b:iI} {hp c:Hp} {dfs:List (Nat × List AV)} {nt:Nat} {m:aX} {S:aV} {w:World} {a:Act} (h:FR ap env hp dfs nt m S w a) (e:∀ t,b.get t=env.get t) (d:az c=az hp):FR ap b c dfs nt m S w a:=by
 refine ⟨d ▸ h.srel,fun t=> ?_,d ▸ h.dfs,h.size⟩
 rw [e,d];exact h.env t
def qp (listed:Array Bool):Nat→Bool:=fun k=>listed.getD k false
theorem Zd {listed:Array Bool} {i:Nat} (a:i<listed.size) (k:Nat):qp (listed.setIfInBounds i true) k=(if k=i then true else qp listed k):=by
 simp only [qp,Array.getD_eq_getD_getElem?]
 by_cases h:k=i
 ·subst h;rw [if_pos rfl,Array.getElem?_setIfInBounds_self_of_lt a];rfl
 ·rw [if_neg h,Array.getElem?_setIfInBounds_ne (fun e=>h e.symm)]
def Jh (n:Nat) (D:Nat→Bool):Nat:=((List.range n).filter fun i=> !D i).length
theorem BD {D D':Nat→Bool} {i:Nat} (c:D i=false) (b:∀ k,D' k=if k=i then true else D k):∀ (l:List Nat),l.Nodup→i ∈ l→(l.filter fun k=> !D k).length=(l.filter fun k=> !D' k).length+1
 | [],_,h=>by simp at h
 | a::r,hn,h=>by
  rw [List.nodup_cons] at hn
  by_cases ha:a=i
  ·subst ha
   have hsame:r.filter (fun k=> !D k)=r.filter (fun k=> !D' k):=by
    refine List.filter_congr fun k j=> ?_
    have:k ≠ a:=fun e=>hn.1 (e ▸ j)
    rw [b k,if_neg this]
   have f:D' a=true:=by rw [b a,if_pos rfl]
   simp [c,f,hsame]
  ·have d:=BD c b r hn.2 (by simpa [Ne.symm ha] using h)
   have:D' a=D a:=by rw [b a,if_neg ha]
   simp only [List.filter_cons,this]
   split<;>simp [d]
theorem XD {ops:List Oper} (h:yH ops=true) {listed:Array Bool} (i:listed.size=ops.length) (b:Region.ready .any ops.toArray listed= []):∀ k,k<ops.length→qp listed k=true:=by
 intro k
 induction k using Nat.strongRecOn with
 | _ k ih=>
  intro d
  cases hd:qp listed k with
  |true=>rfl
  | false=>
   exfalso
   have a:k ∈ Region.ready .any ops.toArray listed:=by
    simp only [Region.ready,List.mem_filter,List.mem_range,List.size_toArray]
    refine ⟨d, ?_⟩
    have n:listed.getD k true=false:=by
     simp only [qp,Array.getD_eq_getD_getElem?] at hd ⊢
     rw [Array.getElem?_eq_getElem (by omega)] at hd ⊢
     simpa using hd
    have j:ops.toArray[k]? =some ops[k]:=by simp [d]
    rw [n,j]
    simp only [Bool.not_false,Bool.true_and,Option.map_some,Option.getD_some,Array.all_eq_true',Bool.or_eq_true,Bool.not_eq_true']
    intro e l
    cases c:Region.binds .any e with
    |false=>exact .inl rfl
    |true=>
     right
     simp only [yH,List.all_eq_true] at h
     have f:=h (ops[k],k) (by rw [List.mem_zipIdx_iff_getElem?];simp [d]) e (by simpa using l)
     rw [c] at f
     simp only [Bool.not_true,Bool.false_or] at f
     have o:=fQ f
     exact ih e.on o (by omega)
   rw [b] at a
   cases a
theorem Fh {ops:List Oper} {listed:Array Bool} (d:listed.size=ops.length) {i:Nat} (h:i ∈ Region.ready .any ops.toArray listed):∃ o,ops[i]? =some o∧qp listed i=false∧i<ops.length∧∀ e ∈ o.after,Region.binds .any e=true→qp listed e.on=true:=by
 simp only [Region.ready,List.mem_filter,List.mem_range,List.size_toArray,Bool.and_eq_true,Bool.not_eq_true'] at h
 obtain ⟨b,c,a⟩:=h
 have k:ops.toArray[i]? =some ops[i]:=by simp [b]
 rw [k] at a
 simp only [Option.map_some,Option.getD_some,Array.all_eq_true',Bool.or_eq_true,Bool.not_eq_true'] at a
 refine ⟨ops[i],List.getElem?_eq_getElem b, ?_,b,fun e j f=> ?_⟩
 ·simp only [qp,Array.getD_eq_getD_getElem?] at c ⊢
  rw [Array.getElem?_eq_getElem (by omega)] at c ⊢
  simpa using c
 ·rcases a e j with h|h
  ·rw [f] at h;cases h
  ·exact h
end
end AM
namespace AM
open Go
theorem Vk {a b:Dw} {x:Nat} (h:x ∈ a.wt) (c:x ∈ b.rt):jQ a b=true:=by simp [jQ,qV h c]
theorem Ky {a b:Dw} {x:Nat} (h:x ∈ a.wt) (c:x ∈ b.wt):jQ a b=true:=by simp [jQ,qV h c]
theorem Vj {a b:Dw} {x:Nat} (h:x ∈ a.rt) (c:x ∈ b.wt):jQ a b=true:=by simp [jQ,qV h c]
theorem Sz {a b:Dw} {x:Nat} (h:x ∈ a.wb) (c:x ∈ b.rb):jQ a b=true:=by simp [jQ,qV h c]
theorem G6 {a b:Dw} {x:Nat} (h:x ∈ a.wb) (c:x ∈ b.wb):jQ a b=true:=by simp [jQ,qV h c]
theorem Sv {a b:Dw} {x:Nat} (h:x ∈ a.rb) (c:x ∈ b.wb):jQ a b=true:=by simp [jQ,qV h c]
theorem uM {d:Option Nat} {t:Nat} (h:d=some t):t ∈ P_ d:=by subst h;simp [P_]
section
variable {P:Program} {ap:AP} {H:di}
structure ac4 (ap:AP) (ops:List Oper) (recs:List uh) (e0:iI) (hp0:Hp) (dfs:List (Nat × List AV)) (nt:Nat) (m0:aX) (S0:aV) (w0:World) (listed:Array Bool) (m:aX) (S:aV) (w:World) (a:Act):Prop where
 sz:listed.size=ops.length
 cl:Cj ops (qp listed)
 fr:Fr (az hp0) m0 S0 w0 (az (yO (qp listed) 0 hp0 recs)) m S w
 rel:FR ap (qL (qp listed) 0 e0 recs) (yO (qp listed) 0 hp0 recs) dfs nt m S w a
theorem Vx {ops:List Oper} {c:List uh} {s:RS} {A nt:Nat} (hnt:∀ o ∈ ops,∀ d,o.dst=some d→d<nt) (hlen:c.length=ops.length)
  (hbound:∀ (k:Nat) (r:uh),c[k]? =some r→∀ b ∈ r.ups.map (·.1),b<A+4*k+4)
  (hsem:∀ (k:Nat) (r:uh),c[k]? =some r→∃ o,ops[k]? =some o∧r.dst=o.dst∧∀ (D:Nat→Bool) m S w (a:Act),bT ap (az (yO D 0 s.hp c)) m S w→(∀ t ∈ r.rt,VR (az (yO D 0 s.hp c)) m S ((zX s.env (c.take k)).get t) (a.tmps.getD t undef))→
   (∀ b ∈ r.rb,az (Ol s.hp (c.take k)) b=az (yO D 0 s.hp c) b)→(∀ j,j<4→az (yO D 0 s.hp c) (A+4*k+j)=none)→(∀ j,((Region.before ops.toArray).toList.getD j 0).testBit k=true→D j=false)→
   ∀ (Q:Exit→Act→World→Prop) (K:Act→World→Prop),acl ap o (az (yO D 0 s.hp c)) m S w a r.v r.ups [] Q K none→wpO P ops.toArray Q o K a w)
  (hord:Iq A (fun j i=>((Region.before ops.toArray).toList.getD j 0).testBit i) c) (hback:yH ops=true) (hn0:∀ b B,az s.hp b=some B→b<A) {m0:aX} {S0:aV} {w0:World} {Q:Exit→Act→World→Prop}
  (hQ:∀ m S w a,Fr (az s.hp) m0 S0 w0 (az (Ol s.hp c)) m S w→FR ap (zX s.env c) (Ol s.hp c) s.dfs nt m S w a→Q .normal a w):
  ∀ (n:Nat) (listed:Array Bool) (m:aX) (S:aV) (w:World) (a:Act),ac4 ap ops c s.env s.hp s.dfs nt m0 S0 w0 listed m S w a→Jh ops.length (qp listed)≤n→wpAny P .any ops.toArray Q n listed a w:=by
 have hdone:∀ (listed:Array Bool) (m:aX) (S:aV) (w:World) (a:Act),ac4 ap ops c s.env s.hp s.dfs nt m0 S0 w0 listed m S w a→(∀ k,k<ops.length→qp listed k=true)→Q .normal a w:=by
  intro listed m S w a u y
  have hh:∀ b,az (Ol s.hp c) b=az (yO (qp listed) 0 s.hp c) b:=fun b=>
   qR c 0 _ _ rfl fun k r f _=>by rw [y (0+k) (by have:=(List.getElem?_eq_some_iff.1 f).1;omega)]
  have he:∀ t,(zX s.env c).get t=(qL (qp listed) 0 s.env c).get t:=fun t=>
   uy c 0 _ _ rfl fun k r f _=>by rw [y (0+k) (by have:=(List.getElem?_eq_some_iff.1 f).1;omega)]
  have C:=funext hh
  exact hQ m S w a (C ▸ u.fr) (u.rel.congr he C)
 intro n
 induction n with
 | zero=>
  intro listed m S w a u hm
  have y:∀ k,k<ops.length→qp listed k=true:=by
   intro k f
   cases hd:qp listed k with
   |true=>rfl
   |false=>
    have R:k ∈ (List.range ops.length).filter fun i=> !qp listed i:=by simp [f,hd]
    have:(List.range ops.length).filter (fun i=> !qp listed i)= []:=List.eq_nil_of_length_eq_zero (Nat.le_zero.1 hm)
    rw [this] at R
    cases R
  refine ⟨?_,hdone listed m S w a u y⟩
  cases hr:Region.ready .any ops.toArray listed with
  |nil=>rfl
  |cons i r=>
   obtain ⟨o,_,p,h3,_⟩:=Fh u.sz (i:=i) (by rw [hr];simp)
   rw [y i h3] at p;cases p
 | succ n ih=>
  intro listed m S w a u hm
  refine ⟨fun X=>hdone listed m S w a u (XD hback u.sz X),fun i hi=> ?_⟩
  obtain ⟨o,L,G,T,hedges⟩:=Fh u.sz hi
  have v:c[i]? =some c[i]:=List.getElem?_eq_getElem (by omega)
  generalize c[i]=r at v
  obtain ⟨o',W,I,hstep⟩:=hsem i r v
  rw [L] at W
  cases W
  have Y:i<listed.size:=by rw [u.sz];exact T
  have l:=Zd Y
  have N:Cj ops (qp (listed.setIfInBounds i true)):=by
   intro k o2 f hd e he z
   rw [l] at hd ⊢
   split
   ·rfl
   ·split at hd
    ·rename_i F
     subst F
     rw [L] at f;cases f
     exact hedges e he z
    ·exact u.cl k o2 f hd e he z
  have O:∀ k q,c[k]? =some q→k<i→(jQ q.foot r.foot=true∨∃ x ∈ r.ups.map (·.1),A+4*k≤x∧x<A+4*k+4)→qp listed k=true:=by
   intro k q f F hc
   have E:=hord.ok k i q r f v F hc
   have p:=qf N (k:=i) (i:=k) (by rw [l,if_pos rfl]) E
   rw [l,if_neg (by omega)] at p
   exact p
  have hhigh:∀ k q,c[k]? =some q→i<k→(jQ r.foot q.foot=true∨∃ x ∈ q.ups.map (·.1),A+4*i≤x∧x<A+4*i+4)→qp listed k=false:=by
   intro k q f F hc
   cases hd:qp listed k with
   |false=>rfl
   |true=>
    have E:=hord.ok i k r q v f F hc
    have p:=qf u.cl hd E
    rw [G] at p;cases p
  have M:∀ k q,c[k]? =some q→(k<i→jQ q.foot r.foot=true)→(i<k→jQ r.foot q.foot=true)→decide (k<i)=qp listed k:=by
   intro k q f E p
   rcases Nat.lt_trichotomy k i with h|h|h
   ·rw [O k q f h (.inl (E h))];simp [h]
   ·subst h;rw [G];simp
   ·rw [hhigh k q f h (.inl (p h))];simp;omega
  have hagr':∀ k q,c[k]? =some q→(k<i→jQ q.foot r.foot=true)→(i<k→jQ r.foot q.foot=true)→qp (listed.setIfInBounds i true) k=decide (k<i+1):=by
   intro k q f E p
   rw [l]
   rcases Nat.lt_trichotomy k i with h|h|h
   ·rw [if_neg (by omega),O k q f h (.inl (E h))];simp;omega
   ·subst h;simp
   ·rw [if_neg (by omega),hhigh k q f h (.inl (p h))];simp;omega
  have V:∀ t ∈ r.rt,(zX s.env (c.take i)).get t=(qL (qp listed) 0 s.env c).get t:=by
   intro t J
   rw [← IR]
   refine uy c 0 _ _ rfl fun k q f hd=> ?_
   rw [Nat.zero_add]
   exact M k q f (fun _=>Vk (uM hd) J) (fun _=>Vj J (uM hd))
  have hhp:∀ b ∈ r.rb,az (Ol s.hp (c.take i)) b=az (yO (qp listed) 0 s.hp c) b:=by
   intro b z
   rw [← Oj]
   refine qR c 0 _ _ rfl fun k q f hd=> ?_
   rw [Nat.zero_add]
   exact M k q f (fun _=>Sz hd z) (fun _=>Sv z hd)
  have hfresh:∀ j,j<4→az (yO (qp listed) 0 s.hp c) (A+4*i+j)=none:=by
   intro j hj
   have E:az (yO (qp listed) 0 s.hp c) (A+4*i+j)=az (yO (fun _=>false) 0 s.hp c) (A+4*i+j):=by
    refine qR c 0 _ _ rfl fun k q f hd=> ?_
    rw [Nat.zero_add]
    have z:=hbound k q f _ hd
    rcases Nat.lt_trichotomy k i with h|h|h
    ·omega
    ·subst h;exact G
    ·exact hhigh k q f h (.inr ⟨_,hd,by omega,by omega⟩)
   rw [E,uI c 0 _ (fun _ _=>rfl)]
   cases z:az s.hp (A+4*i+j) with
   |none=>rfl
   |some B=>have:=hn0 _ _ z;omega
  have U:ops.toArray[i]? =some o:=by simpa using L
  have hgoal:wpO P ops.toArray Q o (wpAny P .any ops.toArray Q n (listed.setIfInBounds i true)) a w:=by
   refine hstep (qp listed) m S w a u.rel.srel (fun t J=>by rw [V t J];exact u.rel.env t) hhp hfresh (fun j hj=>by
    cases hd:qp listed j with
    |false=>rfl
    |true=>
     have p:=qf u.cl hd hj
     rw [G] at p;cases p) Q _ ?_
   intro cv m' S' w' ds E p h3 h4
   have hF:=u.rel.put (hnt o (List.mem_of_getElem? L)) E p h3 h4
   rw [jT] at p
   rw [List.nil_append] at hF
   have he':∀ t,(qL (qp (listed.setIfInBounds i true)) 0 s.env c).get t=(qm (qL (qp listed) 0 s.env c) o.dst r.v).get t:=by
    intro t
    by_cases J:o.dst=some t
    ·have h5:(qL (qp (listed.setIfInBounds i true)) 0 s.env c).get t=(qL (fun j=>decide (j<i+1)) 0 s.env c).get t:=by
      refine uy c 0 _ _ rfl fun k q f hd=> ?_
      rw [Nat.zero_add]
      have Z:t ∈ r.foot.wt:=uM (I.trans J)
      exact hagr' k q f (fun _=>Ky (uM hd) Z) (fun _=>Ky Z (uM hd))
     rw [h5,IR,SV _ _ _ _ v,I,J,lQ,lQ]
    ·rw [yL J]
     refine uy c 0 _ _ rfl fun k q f hd=> ?_
     rw [Nat.zero_add,l,if_neg]
     rintro rfl
     rw [v] at f;cases f
     exact J (I ▸ hd)
   have C:az (yO (qp (listed.setIfInBounds i true)) 0 s.hp c)=az (r.ups++yO (qp listed) 0 s.hp c):=by
    funext b
    by_cases z:b ∈ r.ups.map (·.1)
    ·have h5:az (yO (qp (listed.setIfInBounds i true)) 0 s.hp c) b=az (yO (fun j=>decide (j<i+1)) 0 s.hp c) b:=by
      refine qR c 0 _ _ rfl fun k q f hd=> ?_
      rw [Nat.zero_add]
      exact hagr' k q f (fun _=>G6 hd z) (fun _=>G6 z hd)
     rw [h5,Oj,Wu _ _ _ _ v]
     exact yU z
    ·rw [yV z]
     refine qR c 0 _ _ rfl fun k q f hd=> ?_
     rw [Nat.zero_add,l,if_neg]
     rintro rfl
     rw [v] at f;cases f
     exact z hd
   refine ih _ m' S' w' _ ⟨by rw [Array.size_setIfInBounds];exact u.sz,N, ?_,hF.congr he' C⟩ ?_
   ·rw [C];exact u.fr.trans p
   ·have:=BD G l (List.range ops.length) List.nodup_range (by simp [T])
    simp only [Jh] at hm ⊢
    omega
  simp only [wpOp,U]
  exact hgoal
theorem Vw {ops:List Oper} {c:List uh} {s s':RS} {p nt:Nat} (n:∀ o ∈ ops,∀ d,o.dst=some d→d<nt) (e:c.length=ops.length) (h:UX P ap ops 0 p s s' c) (l:s'.dfs.length=s.dfs.length)
  (hord:Iq p (fun j i=>((Region.before ops.toArray).toList.getD j 0).testBit i) c) (hback:yH ops=true) (hn0:∀ b B,az s.hp b=some B→b<p) {m0:aX} {S0:aV} {w0:World} {Q:Exit→Act→World→Prop}
  (hQ:∀ m S w a,Fr (az s.hp) m0 S0 w0 (az (Ol s.hp c)) m S w→FR ap (zX s.env c) (Ol s.hp c) s.dfs nt m S w a→Q .normal a w):
  ∀ (fuel:Nat) (listed:Array Bool) (m:aX) (S:aV) (w:World) (a:Act),ac4 ap ops c s.env s.hp s.dfs nt m0 S0 w0 listed m S w a→Jh ops.length (qp listed)≤fuel→wpAny P .any ops.toArray Q fuel listed a w:=by
 obtain ⟨_,f⟩:=h.sem l
 refine Vx n e h.bound (fun k r E=> ?_) hord hback hn0 hQ
 obtain ⟨o,u,y,z⟩:=f k r E
 rw [Nat.zero_add] at u
 exact ⟨o,u,y,fun D m S w a F x q t _ Q K v=>z _ m S w a F x (fun b C B A=>by rw [← q b C];exact A) t Q K v⟩
def o_ (ap:AP) (base:Nat) (keep:List Nat) (hp0:Hp) (m:aX) (S:aV) (w:World) (nt:Nat) (s':St) (Q:Exit→Act→World→Prop):bI→Prop
 | .panic v=>match (dP v).isEmpty with
  |true=> ∀ s1:St,s'=norm base keep s1→xZ ap hp0 m S w nt s1.env s1.hp s1.dfs Q (some v)
  |false=>xZ ap hp0 m S w nt s'.env s'.hp s'.dfs Q (some v)
 | .normal=> ∀ s1:St,s'=norm base keep s1→xZ ap hp0 m S w nt s1.env s1.hp s1.dfs Q none
 |_=>True
theorem JD (C:iF P ap) (I:P.follows .mixedOrders=true) (J:mg P ap H) {ops:List Oper} {j:Bool} {nt base:Nat} {keep:List Nat} (y:∀ o ∈ ops,∀ d,o.dst=some d→d<nt) {s:St} {e:bI} {s':St} {c V:Cx} {id:Nat}
  (h:JC ap H base keep ops j s c= .ok (e,s') V) (hc:V.Ok):c.Ok∧(s.md= .dead→s'.md= .dead∧(∀ m S w a,FR ap s.env s.hp s.dfs nt m S w a→∀ Q,
   o_ ap base keep s.hp m S w nt s' Q e→(Code.region id ops.toArray j).wp P Q a w)):=by
 unfold JC at h
 obtain ⟨⟨Z,p⟩,c1,K,h⟩:=R.bind_ok h
 dsimp only at h
 have z:∀ b B,az s.hp b=some B→b<kF s.hp:=fun b B r=>vS r
 cases p with
 | some v=>
  cases j with
  |true=>cases h
  | false=>
   dsimp only at h
   split at h
   ·rename_i F
    cases h
    obtain ⟨f,hs⟩:=nN C J y ops 0 _ _ _ _ _ _ K hc
    refine ⟨f,fun i=> ?_⟩
    obtain ⟨x,E⟩:=hs i (fun t b r=>by cases r) rfl z
    refine ⟨x,fun m S w a l Q u=>wp_region ?_⟩
    simp only [o_,F] at u
    have:=E m S w a l Q (u _ rfl)
    rw [← List.range_eq_range'] at this
    simpa using this
   ·rename_i F
    cases h
    obtain ⟨f,hs⟩:=nN C J y ops 0 _ _ _ _ _ _ K hc
    refine ⟨f,fun i=> ?_⟩
    obtain ⟨x,E⟩:=hs i (fun t b r=>by cases r) rfl z
    refine ⟨x,fun m S w a l Q u=>wp_region ?_⟩
    simp only [o_,F] at u
    have:=E m S w a l Q u
    rw [← List.range_eq_range'] at this
    simpa using this
 | none=>
  dsimp only at h
  split at h
  ·rename_i hcond
   cases h
   cases j with
   |false=>
    obtain ⟨f,hs⟩:=nN C J y ops 0 _ _ _ _ _ _ K hc
    refine ⟨f,fun i=> ?_⟩
    obtain ⟨x,E⟩:=hs i (fun t b r=>by cases r) rfl z
    refine ⟨x,fun m S w a l Q u=>wp_region ?_⟩
    have:=E m S w a l Q (u _ rfl)
    rw [← List.range_eq_range'] at this
    simpa using this
   | true=>
    obtain ⟨f,hs⟩:=acX C J ops 0 _ _ _ _ _ K hc
    refine ⟨f,fun i=> ?_⟩
    obtain ⟨x,q,G,n⟩:=hs i (fun t b r=>by cases r) rfl
    refine ⟨x,fun m S w a l Q u=>wp_region_any I ?_⟩
    simp only [Bool.not_true,Bool.false_or,Bool.and_eq_true] at hcond
    obtain ⟨⟨T,hback⟩,A⟩:=hcond
    have A:=aN A
    rw [n.feet,List.append_nil] at T
    have M:=u _ rfl
    have O:=(n.sem A).1
    have D:qp (Array.replicate ops.length false)=fun _=>false:=by
     funext k
     simp only [qp,Array.getD_eq_getD_getElem?]
     by_cases U:k<ops.length<;>simp [U]
    have L:ops.toArray.size=ops.length:=by simp
    rw [L]
    refine Vw y G n A (OT T) hback z (m0:=m) (S0:=S) (w0:=w) (Q:=Q) ?_ ops.length _ m S _ a ⟨by simp, ?_, ?_, ?_⟩ ?_
    ·intro Y S' w' W N X
     refine M Y S' w' W ?_ ?_
     ·rw [n.hp];exact N
     ·rw [n.hp,n.env,O];exact X
    ·intro k o U hd
     rw [D] at hd;cases hd
    ·rw [D,uI q 0 _ (fun _ _=>rfl)]
     exact ⟨Ge.refl _ _,oP.refl _,rfl,rfl,rfl,Nat.le_refl _,fun _ _ _=>rfl,fun _ B h=> .inr ⟨B,h,rfl⟩,fun _ _ _ h=> .inl h⟩
    ·rw [D,uI q 0 _ (fun _ _=>rfl),zW q 0 _ (fun _ _=>rfl)]
     exact ⟨⟨l.srel.inj,fun b B r=>l.srel.blk b B r|>fun ⟨x,E,N⟩=> ⟨x,E,N⟩,l.srel.sealed,l.srel.own,l.srel.glob⟩,l.env,l.dfs,l.size⟩
    ·exact Nat.le_trans (List.length_filter_le _ _) (by simp)
  ·cases h
end
end AM
namespace AM
open Go
def BX (acc:List Nat) (b:Nat):List Nat:=if su acc b then acc else acc++ [b]
theorem RV (a:List Nat) (b:Nat) (h:a.Nodup):(BX a b).Nodup∧∃ t,BX a b=a++t:=by
 unfold BX
 split
 ·exact ⟨h,[],by simp⟩
 ·rename_i d
  refine ⟨?_,[b],rfl⟩
  rw [List.nodup_append]
  refine ⟨h,by simp, ?_⟩
  intro x f y c e
  simp at c
  subst c;subst e
  exact d (jA.2 f)
theorem pq:∀ (l a:List Nat),a.Nodup→(l.foldl BX a).Nodup∧∃ t,l.foldl BX a=a++t
 | [],a,h=> ⟨h,[],by simp⟩
 |b::r,a,h=>by
  simp only [List.foldl_cons]
  obtain ⟨j,i,f⟩:=RV a b h
  obtain ⟨e,c,d⟩:=pq r _ j
  exact ⟨e,i++c,by rw [d,f,List.append_assoc]⟩
theorem DF:∀ (l a:List Nat),l.Nodup→(∀ x ∈ l,x ∉ a)→l.foldl BX a=a++l
 | [],a,_,_=>by simp
 | b::r,a,h,hd=>by
  rw [List.nodup_cons] at h
  have e:su a b=false:=by
   cases c:su a b with
   |false=>rfl
   |true=>exact absurd (jA.1 c) (hd b (by simp))
  simp only [List.foldl_cons]
  have:BX a b=a++ [b]:=by simp [BX,e]
  rw [this,DF r _ h.2]
  ·simp
  ·intro x d c
   rcases List.mem_append.1 c with c|c
   ·exact hd x (by simp [d]) c
   ·simp at c;subst c;exact h.1 d
theorem TK (l:List Nat):iV l=l.foldl BX []:=rfl
theorem OJ (n:Nat) (l:List Nat):(iV (List.range n++l)).Nodup∧∃ t,iV (List.range n++l)=List.range n++t:=by
 rw [TK,List.foldl_append,DF (List.range n) [] List.nodup_range (by simp),List.nil_append]
 exact pq l _ List.nodup_range
theorem uu (rd:dE):∀ (n:Nat) (l:List Nat),l.Nodup→(t_ rd n l).Nodup∧∃ t,t_ rd n l=l++t
 |0,l,h=> ⟨h,[],by simp [t_]⟩
 | n+1,l,h=>by
  simp only [t_]
  split
  ·exact ⟨h,[],by simp⟩
  ·obtain ⟨i,f,e⟩:=pq (l.flatMap fun b=>match rd b with|some B=>(match B.pr with|true=> []|false=>bP B.cells)|none=> []) l h
   obtain ⟨d,a,c⟩:=uu rd n _ i
   refine ⟨d,f++a, ?_⟩
   exact c.trans (by rw [e,List.append_assoc])
theorem Hw {f:Nat→AV}:∀ (keep:List Nat) (t:Nat),az (keep.map fun t=>(t,f t)) t=if t ∈ keep then some (f t) else none
 | [],t=>by simp [az]
 | a::r,t=>by
  simp only [List.map_cons,az,Hw r t]
  cases h:Nat.beq a t with
  |true=>have:=aN h;subst this;simp
  |false=>
   have b:t ≠ a:=by intro e;subst e;simp at h
   simp [b]
theorem Bz {rd:dE} {mk:Nat→aZ→aZ}:∀ (ids:List Nat) (j p:Nat),az ((ids.zipIdx j).filterMap fun (b,p)=>(rd b).map fun B=>(p,mk p B)) p=if j≤p then (ids[p - j]?).bind fun b=>(rd b).map (mk p) else none
 | [],j,p=>by simp [az]
 | a ::r,j,p=>by
  have f:=Bz (rd:=rd) (mk:=mk) r (j+1) p
  rw [List.zipIdx_cons]
  cases c:rd a with
  | none=>
   rw [List.filterMap_cons_none (by simp [c]),f]
   by_cases hj:j+1≤p
   ·rw [if_pos hj,if_pos (by omega)]
    obtain ⟨d,hd⟩:∃ d,p - j=d+1:=⟨p - j - 1,by omega⟩
    rw [hd,List.getElem?_cons_succ,show p - (j+1)=d by omega]
   ·rw [if_neg hj]
    by_cases hjp:j≤p
    ·rw [if_pos hjp,show p - j=0 by omega];simp [c]
    ·rw [if_neg hjp]
  | some B=>
   rw [List.filterMap_cons_some (by simp [c];rfl)]
   simp only [az]
   cases h:Nat.beq j p with
   |true=>have:=aN h;subst this;simp [c]
   | false=>
    have i:j ≠ p:=by intro e;subst e;simp at h
    simp only [f]
    by_cases hj:j+1≤p
    ·rw [if_pos hj,if_pos (by omega)]
     obtain ⟨d,hd⟩:∃ d,p - j=d+1:=⟨p - j - 1,by omega⟩
     rw [hd,List.getElem?_cons_succ,show p - (j+1)=d by omega]
    ·rw [if_neg hj,if_neg (by omega)]
theorem H7:∀ {l:List Nat},l.Nodup→sG l=true
 | [],_=>rfl
 |b::r,h=>by
  rw [List.nodup_cons] at h
  simp only [sG,Bool.and_eq_true,Bool.not_eq_true']
  refine ⟨?_,H7 h.2⟩
  cases a:su r b with
  |false=>rfl
  |true=>exact absurd (jA.1 a) h.1
section
variable {P:Program} {ap:AP} {H:di}
theorem JX {g g':dE} {m b:aX} {S S':aV} {ρ:Nat→Nat→Option (Nat × Nat)} (c:oP S S') (h:tK g m g' b ρ):∀ {l:List (Nat × List AV)} {ds:List Deferred},gJ g m S l ds→gJ g' b S' (l.map fun d=>(d.1,mD ρ d.2)) ds
 | [],[],_=>by simp [gJ]
 |d::r,cd::cr,p=>by
  simp only [gJ] at p
  obtain ⟨⟨a,f,e⟩,i⟩:=p
  simp only [List.map_cons,gJ]
  exact ⟨⟨a,f,j_ c h _ e⟩,JX c h i⟩
 | [],_::_,p=>by simp [gJ] at p
 |_::_,[],p=>by simp [gJ] at p
theorem sH {c:List aZ} {keep:List Nat} {s:St} {nt:Nat} {m m0:aX} {S S0:aV} {w w0:World} {a:Act} (f:Fr (bG c) m0 S0 w0 (az s.hp) m S w) (D:FR ap s.env s.hp s.dfs nt m S w a):
  ∃ m',Fr (bG c) m0 S0 w0 (az (norm c.length keep s).hp) m' S w∧FR ap (norm c.length keep s).env (norm c.length keep s).hp (norm c.length keep s).dfs nt m' S w a:=by
 obtain ⟨_,t0,R⟩:=uu (az s.hp) 20 (List.range c.length) List.nodup_range
 generalize hroots:t0++(D9 keep s.env++s.dfs.flatMap (fun d=>bP d.2))=roots
 have hroots':t_ (az s.hp) 20 (List.range c.length)++D9 keep s.env++s.dfs.flatMap (fun d=>bP d.2)=List.range c.length++roots:=by rw [← hroots,R];simp only [List.append_assoc]
 obtain ⟨W,t1,J⟩:=OJ c.length roots
 obtain ⟨V,t2,L⟩:=uu (az s.hp) 20 _ W
 rw [J,List.append_assoc] at L
 have hsome:∀ b,b<c.length→∃ B0 B,bG c b=some B0∧az s.hp b=some B∧B.esz=B0.esz∧((B.ver=B0.ver∧m b=m0 b)∨B0.ver<B.ver):=by
  intro b A
  obtain ⟨B,l,u⟩:=f.ge b c[b] (by simp [bG,A])
  exact ⟨c[b],B,by simp [bG,A],l,u⟩
 generalize n:(t_ (az s.hp) 20 (iV (List.range c.length++roots))).filter (fun b=>(az s.hp b).isSome)=ids
 have T:ids.Nodup:=by rw [← n];exact V.filter _
 have E:=H7 T
 have x:∃ t,ids=List.range c.length++t:=by
  rw [← n,J,L,List.filter_append]
  refine ⟨_,congrArg (· ++_) ?_⟩
  rw [List.filter_eq_self]
  intro b A
  obtain ⟨_,B,_,u,_⟩:=hsome b (by simpa using A)
  simp [u]
 obtain ⟨t,x⟩:=x
 have y:∀ b,b<c.length→ids[b]? =some b:=by
  intro b A
  rw [x,List.getElem?_append_left (by simpa using A)]
  simp [A]
 have K:∀ (p b:Nat),ids[p]? =some b→∃ B,az s.hp b=some B:=by
  intro p b hp
  have:=List.mem_of_getElem? hp
  rw [← n,List.mem_filter] at this
  exact Option.isSome_iff_exists.1 this.2
 let ρ:Nat→Nat→Option (Nat × Nat):=fun b v=>match az s.hp b with
  |some B=>match Nat.beq B.ver v with
   |true=>(qh ids b).map fun p=>(p,match Nat.blt p c.length with|true=>v|false=>0)
   |false=>none
  |none=>none
 let mk:Nat→aZ→aZ:=fun p B=> {B with cells:=(match B.pr with|true=>B.cells|false=>mD ρ B.cells),ver:=match Nat.blt p c.length with|true=>B.ver|false=>0}
 have hnorm:norm c.length keep s=⟨keep.map fun t=>(t,ren ρ (s.env.get t)),ids.zipIdx.filterMap fun (b,p)=>(az s.hp b).map fun B=>(p,mk p B),s.md,s.dfs.map fun d=>(d.1,mD ρ d.2)⟩:=by
  unfold norm
  simp only [hroots',n]
  rfl
 rw [hnorm]
 dsimp only
 have C:∀ p,az (ids.zipIdx.filterMap fun (b,p)=>(az s.hp b).map fun B=>(p,mk p B)) p=(ids[p]?).bind fun b=>(az s.hp b).map (mk p):=by
  intro p
  rw [Bz (rd:=az s.hp) (mk:=mk) ids 0 p,if_pos (Nat.zero_le _),Nat.sub_zero]
 generalize (ids.zipIdx.filterMap fun (b,p)=>(az s.hp b).map fun B=>(p,mk p B))=hp2 at C
 have i:∀ (p:Nat) (B2:aZ),az hp2 p=some B2→∃ b B,ids[p]? =some b∧az s.hp b=some B∧B2=mk p B:=by
  intro p B2 h
  rw [C] at h
  cases hp:ids[p]? with
  |none=>rw [hp] at h;cases h
  |some b=>
   rw [hp] at h
   obtain ⟨B,N⟩:=K p b hp
   simp only [Option.bind_some,N,Option.map_some,Option.some.injEq] at h
   exact ⟨b,B,rfl,N,h.symm⟩
 let m2:aX:=fun p=>m (ids.getD p 0)
 have k:∀ (p b:Nat),ids[p]? =some b→m2 p=m b:=by
  intro p b hp
  show m (ids.getD p 0)=_
  rw [List.getD_eq_getElem?_getD,hp];rfl
 have z:tK (az s.hp) m (az hp2) m2 ρ:=by
  intro b ver p ver' h B N Z
  simp only [ρ,N] at h
  split at h
  ·rename_i I
   have I:=aN I
   simp only [Option.map_eq_some_iff,Prod.mk.injEq] at h
   obtain ⟨q,G,rfl,rfl⟩:=h
   have G:=qU G
   refine ⟨mk q B, ?_, ?_,fun _=> ⟨I,k q b G,rfl⟩⟩
   ·rw [C,G];simp [N]
   ·simp only [mk]
    split
    ·omega
    ·exact Nat.le_refl _
  ·cases h
 have F:∀ (p q b:Nat),ids[p]? =some b→ids[q]? =some b→p=q:=by
  intro p q b hp G
  have e1:=pR E hp
  rw [pR E G] at e1
  cases e1;rfl
 refine ⟨m2, ?_, ?_, ?_, ?_,D.size⟩
 ·refine ⟨?_,f.sle,f.os,f.tape,f.output,f.size,f.rest, ?_,f.sealN⟩
  ·intro b B0 A
   have r:b<c.length:=(List.getElem?_eq_some_iff.1 A).1
   obtain ⟨B0',B,l,u,O,X⟩:=hsome b r
   rw [A] at l;cases l
   have U:Nat.blt b c.length=true:=Nat.ble_eq_true_of_le r
   refine ⟨mk b B,by rw [C,y b r];simp [u],O, ?_⟩
   simp only [mk,U]
   rw [k b b (y b r)]
   exact X
  ·intro p B2 hp
   obtain ⟨b,B,l,u,rfl⟩:=i p B2 hp
   rw [k p b l]
   rcases f.img b B u with h|⟨B0,O,X⟩
   ·exact .inl h
   ·have r:b<c.length:=(List.getElem?_eq_some_iff.1 O).1
    have:=F p b b l (y b r)
    subst this
    exact .inr ⟨B0,O,X⟩
 ·refine ⟨?_, ?_,D.srel.sealed, ?_,D.srel.glob⟩
  ·intro p q B2 B2' hp G e
   obtain ⟨b,B,l,u,rfl⟩:=i p B2 hp
   obtain ⟨Y,B',M,Q,rfl⟩:=i q B2' G
   rw [k p b l,k q Y M] at e
   have:=D.srel.inj b Y B B' u Q e
   subst this
   exact F p q b l M
  ·intro p B2 hp
   obtain ⟨b,B,l,u,rfl⟩:=i p B2 hp
   rw [k p b l]
   obtain ⟨⟨cur,e,vs,rest,k1,k2,k3,k4,k5,k6⟩,k7,k8⟩:=D.srel.blk b B u
   cases j:B.pr with
   |true=>exact ⟨⟨cur,e,vs,rest,k1,k2,fun _=>by simpa [mk,j] using k3 j,by simpa [mk,j] using bV _ (k3 j),k5,k6⟩,k7,by simpa [mk,j] using k8⟩
   | false=>
    have I:=j_ (oP.refl S) z _ k4
    exact ⟨⟨cur,e,vs,rest,k1,k2,fun h=>by simp [mk,j] at h,by simpa [mk,j] using I,k5,k6⟩,k7,by
     have:(mk p B).cells.length=B.cells.length:=by simp only [mk,j];rw [bU k4,bU I]
     rw [this];exact k8⟩
  ·intro p B2 hp o v ho
   obtain ⟨b,B,l,u,rfl⟩:=i p B2 hp
   rw [k p b l] at ho
   exact D.srel.own b B u o v ho
 ·intro t
  simp only [iI.get,Hw]
  by_cases ht:t ∈ keep
  ·rw [if_pos ht]
   exact zL (oP.refl S) z _ (D.env t)
  ·rw [if_neg ht]
   simp [VR]
 ·exact JX (oP.refl S) z D.dfs
end
end AM
namespace AM
open Go
mutual
theorem x_ {g g':dE} {m n:aX} {S S':aV} (i:oP S S'):∀ (x:AV) {v:Value},(∀ b ∈ dP x,g' b=g b∧n b=m b)→VR g m S x v→VR g' n S' x v
 | .int _ _,_,_,p=>by simpa only [VR,PR] using p
 | .bool _,_,_,p=>by simpa only [VR,PR] using p
 | .str _,_,_,p=>by simpa only [VR,PR] using p
 | .nilS,_,_,p=>by simpa only [VR,PR] using p
 | .nilP,_,_,p=>by simpa only [VR,PR] using p
 | .nilF,_,_,p=>by simpa only [VR,PR] using p
 | .nilI,_,_,p=>by simpa only [VR,PR] using p
 | .sl _ _ _,_,_,p=>by simp only [VR] at p ⊢;exact dn i _ p
 | .pp _ _,_,_,p=>by simp only [VR] at p ⊢;exact dn i _ p
 | .mp _ _,_,_,p=>by simp only [VR] at p ⊢;exact dn i _ p
 | .dead,_,_,_=>by simp only [VR]
 | .own _ _ _,_,_,p=>by simp only [VR] at p
 | .ref b _ _ _,_,h,p=>by
  obtain ⟨k,j⟩:=h b (by simp [dP])
  simp only [VR] at p ⊢
  rw [k,j];exact p
 | .ptr b _ _,_,h,p=>by
  obtain ⟨k,j⟩:=h b (by simp [dP])
  simp only [VR] at p ⊢
  rw [k,j];exact p
 | .mr b _,_,h,p=>by
  obtain ⟨k,j⟩:=h b (by simp [dP])
  simp only [VR] at p ⊢
  rw [k,j];exact p
 | .agg l,_,h,p=>by
  simp only [VR] at p ⊢
  obtain ⟨vs,e,q⟩:=p
  exact ⟨vs,e,nD i l (fun b d=>h b (by simpa [dP] using d)) q⟩
 | .tup l,_,h,p=>by
  simp only [VR] at p ⊢
  obtain ⟨vs,e,q⟩:=p
  exact ⟨vs,e,nD i l (fun b d=>h b (by simpa [dP] using d)) q⟩
 | .fn f a c,_,h,p=>by
  simp only [VR] at p ⊢
  obtain ⟨s,o,e,q,r⟩:=p
  exact ⟨s,o,e,nD i a (fun b d=>h b (by simp [dP,d])) q,nD i c (fun b d=>h b (by simp [dP,d])) r⟩
 | .ifc t x,_,h,p=>by
  simp only [VR] at p ⊢
  obtain ⟨u,e,q⟩:=p
  exact ⟨u,e,x_ i x (fun b d=>h b (by simpa [dP] using d)) q⟩
theorem nD {g g':dE} {m c:aX} {S S':aV} (d:oP S S'):∀ (l:List AV) {vs:List Value},(∀ b ∈ bP l,g' b=g b∧c b=m b)→bi g m S l vs→bi g' c S' l vs
 | [],[],_,_=>by simp only [bi]
 |x::r,v::vs,h,p=>by
  simp only [bi] at p ⊢
  exact ⟨x_ d x (fun b a=>h b (by simp [bP,a])) p.1,nD d r (fun b a=>h b (by simp [bP,a])) p.2⟩
 | [],_::_,_,p=>by simp [bi] at p
 |_::_,[],_,p=>by simp [bi] at p
end
theorem mV {g:dE} {m:aX} {S:aV} {x:AV} {v:Value} (h:(dP x).isEmpty=true) (d:VR g m S x v):PR S x v:=by
 have c:dP x= []:=by simpa using h
 exact nT (m:=m) x (x_ (oP.refl S) x (fun b a=>by rw [c] at a;cases a) d)
def P9 (nt:Nat) (o:Oper):Bool:=match o.dst with|some d=>Nat.blt d nt|none=>true
def dH (nt:Nat):Code→Bool
 | .region _ ops _=>ops.toList.all (P9 nt)
 | .seq a b=>dH nt a && dH nt b
 | .cond _ a b=>dH nt a && dH nt b
 | .block _ b=>dH nt b
 | .loop b=>dH nt b
 | .scope b=>dH nt b
 |_=>true
section
variable {P:Program} {ap:AP} {H:di}
def UR (hp:Hp) (m:aX) (S:aV) (Q:Exit→Act→World→Prop) (a:Act) (w:World):bI→Prop
 | .normal=>Q .normal a w
 | .exit id=>Q (.exit id) a w
 | .ret=>Q .ret a w
 | .panic v=> ∀ cv,VR (az hp) m S v cv→Q (.panic [{v:=cv,recovered:=false}]) a w
def XA (ap:AP) (h0:List aZ) (m0:aX) (S0:aV) (w0:World) (nt:Nat) (s':St) (e:bI) (Q:Exit→Act→World→Prop):Prop:=
 ∀ m' S' w' a',Fr (bG h0) m0 S0 w0 (az s'.hp) m' S' w'→FR ap s'.env s'.hp s'.dfs nt m' S' w' a'→UR s'.hp m' S' Q a' w' e
def au (P:Program) (ap:AP) (h0:List aZ) (nt:Nat) (code:Code) (s:St) (e:bI) (s':St):Prop:=
 s.md= .dead→s'.md= .dead∧∀ m0 S0 w0 m S w a,Fr (bG h0) m0 S0 w0 (az s.hp) m S w→FR ap s.env s.hp s.dfs nt m S w a→∀ Q,XA ap h0 m0 S0 w0 nt s' e Q→code.wp P Q a w
theorem au.still {j:List aZ} {nt:Nat} {b:Code} {s:St} {e:bI} (h:∀ (Q:Exit→Act→World→Prop) hp m S a w,UR hp m S Q a w e→b.wp P Q a w):au P ap j nt b s e s:=
 fun c=> ⟨c,fun _ _ _ m S w a i f Q d=>h Q s.hp m S a w (d m S w a i f)⟩
theorem Ep {k:List aZ} {nt:Nat} {b:Code} {f:St→Cx→R (bI × St)} (x:∀ s e s' c c',f s c= .ok (e,s') c'→c'.Ok→c.Ok∧au P ap k nt b s e s'):
  ∀ (n:Nat) (s:St) (e:bI) (s':St) (c c':Cx),Qs f n s c= .ok (e,s') c'→c'.Ok→c.Ok∧(s.md= .dead→s'.md= .dead∧∀ m0 S0 w0 m S w a,Fr (bG k) m0 S0 w0 (az s.hp) m S w→FR ap s.env s.hp s.dfs nt m S w a→∀ Q,XA ap k m0 S0 w0 nt s' e Q→Code.rounds P b Q n a w)
 |0,s,e,s',c,c',h,hc=>by cases h
 | n+1,s,e,s',c,c',h,hc=>by
  simp only [Qs] at h
  obtain ⟨⟨y,E⟩,F,D,h⟩:=R.bind_ok h
  dsimp only at h
  have hother:y ≠ .normal→R.ok (y,E) F=R.ok (e,s') c'→c.Ok∧(s.md= .dead→s'.md= .dead∧∀ m0 S0 w0 m S w a,Fr (bG k) m0 S0 w0 (az s.hp) m S w→FR ap s.env s.hp s.dfs nt m S w a→∀ Q,XA ap k m0 S0 w0 nt s' e Q→Code.rounds P b Q (n+1) a w):=by
   intro C I
   cases I
   obtain ⟨d,p⟩:=x _ _ _ _ _ D hc
   refine ⟨d,fun i=> ?_⟩
   obtain ⟨u,z⟩:=p i
   refine ⟨u,fun m0 S0 w0 m S w a j r Q q=>z m0 S0 w0 m S w a j r _ ?_⟩
   intro A S' w' o t B
   have:=q A S' w' o t B
   cases e with
   |normal=>exact absurd rfl C
   |exit id=>exact this
   |ret=>exact this
   |panic v=>exact this
  cases y with
  |normal=>
   dsimp only at h
   obtain ⟨l,K⟩:=Ep x n E e s' F c' h hc
   obtain ⟨d,p⟩:=x _ _ _ _ _ D l
   refine ⟨d,fun i=> ?_⟩
   obtain ⟨u,z⟩:=p i
   obtain ⟨t,B⟩:=K u
   refine ⟨t,fun m0 S0 w0 m S w a j r Q q=>z m0 S0 w0 m S w a j r _ ?_⟩
   intro A S' w' o G J
   exact B m0 S0 w0 A S' w' o G J Q q
  |exit id=>exact hother (by simp) h
  |ret=>exact hother (by simp) h
  |panic v=>exact hother (by simp) h
theorem eF (q:iF P ap) (i:P.follows .mixedOrders=true) (L:mg P ap H) {W:List aZ} {keep:List Nat} {lf nt:Nat}:∀ (code:Code),dH nt code=true→∀ (s:St) (e:bI) (s':St) (c p:Cx),kV ap H W.length keep lf code s c= .ok (e,s') p→p.Ok→c.Ok∧au P ap W nt code s e s'
 | .skip,_,s,e,s',c,p,h,n=>by
  cases h
  exact ⟨n,au.still fun Q hp m S a w r=>wp_skip r⟩
 | .label l,_,s,e,s',c,p,h,n=>by
  cases h
  exact ⟨n,au.still fun Q hp m S a w r=>wp_label r⟩
 | .exit id,_,s,e,s',c,p,h,n=>by
  cases h
  exact ⟨n,au.still fun Q hp m S a w r=>wp_exit r⟩
 | .ret,_,s,e,s',c,p,h,n=>by
  cases h
  exact ⟨n,au.still fun Q hp m S a w r=>wp_ret r⟩
 | .region id ops draw,hd,s,e,s',c,p,h,n=>by
  have hnt:∀ o ∈ ops.toList,∀ d,o.dst=some d→d<nt:=by
   intro o ho d hod
   have:=List.all_eq_true.1 hd o ho
   simp only [P9,hod] at this
   exact fQ this
  obtain ⟨j,hr⟩:=JD q i L hnt (id:=id) h n
  refine ⟨j,fun k=> ?_⟩
  obtain ⟨I,h2⟩:=hr k
  refine ⟨I,fun m0 S0 w0 m S w a f C Q B=> ?_⟩
  have:=h2 m S w a C Q
  rw [Array.toArray_toList] at this
  refine this ?_
  cases e with
  |normal=>
   intro V N G S' w' A D E
   obtain ⟨m2,u,F⟩:=sH (keep:=keep) (f.trans D) E
   rw [← N] at u F
   exact B m2 S' w' A u F
  | panic v=>
   simp only [o_]
   split
   ·rename_i hre
    intro V N G S' w' A cv D E u
    obtain ⟨m2,F,Y⟩:=sH (keep:=keep) (f.trans D) E
    rw [← N] at F Y
    exact B m2 S' w' A F Y cv (gX _ (mV hre u))
   ·intro G S' w' A cv D E u
    exact B G S' w' A (f.trans D) E cv u
  |exit id=>trivial
  |ret=>trivial
 | .seq x y,hd,s,e,s',c,p,h,n=>by
  simp only [dH,Bool.and_eq_true] at hd
  simp only [kV] at h
  obtain ⟨⟨O,V⟩,T,I,h⟩:=R.bind_ok h
  dsimp only at h
  have hother:O ≠ .normal→R.ok (O,V) T=R.ok (e,s') p→c.Ok∧au P ap W nt (.seq x y) s e s':=by
   intro M U
   cases U
   obtain ⟨j,K⟩:=eF q i L x hd.1 _ _ _ _ _ I n
   refine ⟨j,fun k=> ?_⟩
   obtain ⟨D,E⟩:=K k
   refine ⟨D,fun m0 S0 w0 m S w a f C Q B=>wp_seq (E m0 S0 w0 m S w a f C _ ?_)⟩
   intro G S' w' A u F
   have:=B G S' w' A u F
   cases e with
   |normal=>exact absurd rfl M
   |exit id=>exact this
   |ret=>exact this
   |panic v=>exact this
  cases O with
  |normal=>
   dsimp only at h
   obtain ⟨J,ih⟩:=eF q i L y hd.2 _ _ _ _ _ h n
   obtain ⟨j,K⟩:=eF q i L x hd.1 _ _ _ _ _ I J
   refine ⟨j,fun k=> ?_⟩
   obtain ⟨D,E⟩:=K k
   obtain ⟨u,F⟩:=ih D
   refine ⟨u,fun m0 S0 w0 m S w a f C Q B=>wp_seq (E m0 S0 w0 m S w a f C _ ?_)⟩
   intro G S' w' A Y h8
   exact F m0 S0 w0 G S' w' A Y h8 Q B
  |exit id=>exact hother (by simp) h
  |ret=>exact hother (by simp) h
  |panic v=>exact hother (by simp) h
 | .cond t x y,hd,s,e,s',c,p,h,n=>by
  simp only [dH,Bool.and_eq_true] at hd
  simp only [kV] at h
  split at h
  ·rename_i bv Z
   obtain ⟨b',T,I,h⟩:=R.bind_ok h
   have key:∀ (z:Code),(T.Ok→T.Ok∧z=if bv then x else y)→T.Ok∧au P ap W nt z s e s'→c.Ok∧au P ap W nt (.cond t x y) s e s':=by
    rintro z hzz ⟨J,ih⟩
    obtain ⟨j,hb⟩:=kX I J
    refine ⟨j,fun k=> ?_⟩
    obtain ⟨u,F⟩:=ih k
    refine ⟨u,fun m0 S0 w0 m S w a f C Q B=>wp_cond (t:=bv) ?_ ?_⟩
    ·have:=xn C.srel (a:=a) (env:=s.env) t (fun t _=>C.env t)
     rw [Z] at this
     simpa only [VR,PR] using this
    ·rw [← (hzz J).2]
     exact F m0 S0 w0 m S w a f C Q B
   cases b' with
   |true=>exact key x (fun X=> ⟨X,by rw [← (kX I X).2];rfl⟩) (eF q i L x hd.1 _ _ _ _ _ h n)
   |false=>exact key y (fun X=> ⟨X,by rw [← (kX I X).2];rfl⟩) (eF q i L y hd.2 _ _ _ _ _ h n)
  ·cases h
 | .block id b,hd,s,e,s',c,p,h,n=>by
  simp only [dH] at hd
  simp only [kV] at h
  obtain ⟨⟨O,V⟩,T,I,h⟩:=R.bind_ok h
  dsimp only at h
  have hcc:T=p:=by
   cases O<;>dsimp only at h
   ·cases h;rfl
   ·split at h<;>cases h<;>rfl
   ·cases h;rfl
   ·cases h;rfl
  subst hcc
  obtain ⟨j,K⟩:=eF q i L b hd _ _ _ _ _ I n
  refine ⟨j,fun k=> ?_⟩
  obtain ⟨D,E⟩:=K k
  have hs:V=s':=by
   cases O<;>dsimp only at h
   ·cases h;rfl
   ·split at h<;>cases h<;>rfl
   ·cases h;rfl
   ·cases h;rfl
  subst hs
  refine ⟨D,fun m0 S0 w0 m S w a f C Q B=>wp_block (E m0 S0 w0 m S w a f C _ ?_)⟩
  intro G S' w' A u F
  have r:=B G S' w' A u F
  cases O with
  |normal=>cases h;exact r
  |ret=>cases h;exact r
  |panic v=>cases h;exact r
  | exit id'=>
   dsimp only at h
   split at h
   ·rename_i U
    cases h
    show Exit.inBlock id Q (.exit id') A w'
    simp only [Exit.inBlock,if_pos (aN U)]
    exact r
   ·rename_i U
    cases h
    show Exit.inBlock id Q (.exit id') A w'
    have M:id' ≠ id:=by intro e;subst e;simp at U
    simp only [Exit.inBlock,if_neg M]
    exact r
 | .loop b,hd,s,e,s',c,p,h,n=>by
  simp only [dH] at hd
  simp only [kV] at h
  obtain ⟨j,K⟩:=Ep (fun s e s' c p h n=>eF q i L b hd s e s' c p h n) lf s e s' c p h n
  refine ⟨j,fun k=> ?_⟩
  obtain ⟨D,E⟩:=K k
  exact ⟨D,fun m0 S0 w0 m S w a f C Q B=>wp_loop_rounds lf (E m0 S0 w0 m S w a f C Q B)⟩
 | .scope b,hd,s,e,s',c,p,h,n=>by
  simp only [dH] at hd
  simp only [kV] at h
  obtain ⟨j,K⟩:=eF q i L b hd _ _ _ _ _ h n
  refine ⟨j,fun k=> ?_⟩
  obtain ⟨D,E⟩:=K k
  refine ⟨D,fun m0 S0 w0 m S w a f C Q B=>wp_scope_straight (E m0 S0 w0 m S w a f C _ ?_)⟩
  intro G S' w' A u F
  have r:=B G S' w' A u F
  cases e with
  |normal=>exact r
  |exit id=>exact r
  |ret=>exact r
  |panic v=>exact r
 | .rangeFunc _ _ _ _,_,s,e,s',c,p,h,n=>by cases h
 | .goto _,_,s,e,s',c,p,h,n=>by cases h
 | .refuse _,_,s,e,s',c,p,h,n=>by cases h
end
end AM
