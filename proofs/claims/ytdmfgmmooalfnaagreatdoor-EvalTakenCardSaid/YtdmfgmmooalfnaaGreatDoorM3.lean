/- The abstract machine over the code of the model, and the proof that it is sound. No conditions. -/
import Derived.Test.YtdmfgmmooalfnaaGreatDoorM2
import Derived.Orders
import Derived.LoopN
import Derived.Scope
set_option linter.unusedSimpArgs false
set_option linter.unusedVariables false
namespace AM
open Go
def bH (h:List bi):dF:=fun b=>h[b]?
def jl (gh gf:dF) (m:aX) (S:aU):Nat→List AV→List Value→Prop
 |_,[],[]=>True
 |n,.own _ k _::r,v::vs=>VR gf m S (.ref n 0 0 k) v∧jl gh gf m S (n+1) r vs
 |n,x::r,v::vs=>VR gh m S x v∧jl gh gf m S n r vs
 |_,_,_=>False
def Cb (gh gf:dF) (m:aX) (S:aU) (n:Nat):AV→Value→Prop
 | .tup l,v=> ∃ vs,v= .tuple vs.toArray∧jl gh gf m S n l vs
 | .own _ k _,v=>VR gf m S (.ref n 0 0 k) v
 |x,v=>VR gh m S x v
def mg (n:Nat):jT→List bi
 | .ret v=>(lJ n v).2
 | .pan _=> []
 | .retS _ _ l=>(dU n l).2
def lV:List (Option Nat)→List Value→List Value→Prop
 | [],[],[]=>True
 |some k::r,ws,v::vs=>v= .agg (ws.take k).toArray∧lV r (ws.drop k) vs
 |none::r,w::ws,v::vs=>v=w∧lV r ws vs
 |_,_,_=>False
def J5 (one:Bool) (sh:List (Option Nat)) (ws:List Value) (cv:Value):Prop:=match one with
 |true=>lV sh ws [cv]
 |false=> ∃ vs,cv= .tuple vs.toArray∧lV sh ws vs
theorem G8 {g:dF} {m:aX} {S:aU}:∀ (k:Nat) {l:List AV} {ws:List Value},aY g m S l ws→aY g m S (l.take k) (ws.take k)∧aY g m S (l.drop k) (ws.drop k)
 |0,l,ws,h=> ⟨by simp [aY],by simpa using h⟩
 |k+1,[],[],_=> ⟨by simp [aY],by simp [aY]⟩
 |k+1,x::l,w::ws,h=>by
  simp only [aY] at h
  have a:=G8 k h.2
  simp only [List.take_succ_cons,List.drop_succ_cons,aY]
  exact ⟨⟨h.1,a.1⟩,a.2⟩
 |k+1,[],_::_,h=>by simp [aY] at h
 |k+1,_::_,[],h=>by simp [aY] at h
theorem zi {g:dF} {m:aX} {S:aU}:∀ {sh:List (Option Nat)} {l:List AV} {ws vs:List Value},aY g m S l ws→lV sh ws vs→aY g m S (zh sh l) vs
 | [],l,ws,[],_,_=>by simp [zh,aY]
 | [],l,ws,_::_,_,h=>by cases ws<;>simp [lV] at h
 |some k::r,l,ws,v::vs,hv,h=>by
  simp only [lV] at h
  obtain ⟨b,a⟩:=G8 k hv
  simp only [zh,aY,VR]
  exact ⟨⟨ws.take k,h.1,b⟩,zi a h.2⟩
 |some k::r,l,ws,[],_,h=>by simp [lV] at h
 |none::r,x::l,w::ws,v::vs,hv,h=>by
  simp only [lV] at h
  simp only [aY] at hv
  simp only [zh,aY]
  exact ⟨h.1 ▸ hv.1,zi hv.2 h.2⟩
 |none::r,l,[],vs,_,h=>by cases vs<;>simp [lV] at h
 |none::r,l,w::ws,[],_,h=>by simp [lV] at h
 |none::r,[],w::ws,v::vs,hv,_=>by simp [aY] at hv
theorem QU {g:dF} {m:aX} {S:aU} {one:Bool} {c:List (Option Nat)} {l:List AV} {ws:List Value} {cv:Value} (h:aY g m S l ws) (a:J5 one c ws cv):VR g m S (QT one c l) cv:=by
 unfold J5 at a
 unfold QT
 split at a
 ·have b:=zi h a
  generalize zh c l=q at b
  cases q with
  |nil=>simp [aY] at b
  |cons x r=>simp only [aY] at b;exact b.1
 ·obtain ⟨vs,rfl,a⟩:=a
  simp only [VR]
  exact ⟨vs,rfl,zi h a⟩
def adP (h':List bi) (m':aX) (S':aU):jT→Ending→Prop
 | .ret v,e=> ∃ cv,e= .returned cv∧Cb (bH h') (bH (h'++(lJ h'.length v).2)) m' S' h'.length v cv
 | .pan v,e=> ∃ cv,e= .panicked [{v:=cv,recovered:=false}]∧VR (bH h') m' S' v cv
 | .retS one sh l,e=> ∃ cv ws,e= .returned cv∧J5 one sh ws cv∧jl (bH h') (bH (h'++(dU h'.length l).2)) m' S' h'.length l ws
structure Gv (ap:AP) (h:List bi) (m:aX) (S:aU) (w:World) (out:jT) (h':List bi) (m':aX) (S':aU) (w':World) (e:Ending):Prop where
 srel:bV ap (bH (h'++mg h'.length out)) m' S' w'
 fr:Fr (bH h) m S w (bH (h'++mg h'.length out)) m' S' w'
 out:adP h' m' S' out e
def DF (P:Program) (f:Nat):Prop:=∀ args w,(callFunc f args).run P w= .ok (.enter f args) w
structure aC (P:Program) (ap:AP) (f:Nat) (args:List AV) (h:List bi) (out:jT) (h':List bi):Prop where
 len:h.length≤h'.length
 ent:DF P f
 calls:∀ m S w cargs,bV ap (bH h) m S w→aY (bH h) m S args cargs→Calls P f cargs.toArray w fun e w'=> ∃ m' S',Gv ap h m S w out h' m' S' w' e
def mO (P:Program) (ap:AP) (H:di):Prop:=∀ c f args h out h' md' c',H c .dead f args h= .ok (out,h',md') c'→c'.Ok→c.Ok∧aC P ap f args h out h'
section
variable {P:Program} {ap:AP} {g:dF} {m:aX} {S:aU} {w:World}
mutual
theorem lm {m:aX} {S:aU}:∀ (x:AV) {v:Value},VR (bH []) m S x v→PR S x v
 | .int _ _,_,p=>by simpa only [VR] using p
 | .bool _,_,p=>by simpa only [VR] using p
 | .str _,_,p=>by simpa only [VR] using p
 | .nilS,_,p=>by simpa only [VR] using p
 | .nilP,_,p=>by simpa only [VR] using p
 | .nilF,_,p=>by simpa only [VR] using p
 | .nilI,_,p=>by simpa only [VR] using p
 | .sl _ _ _,_,p=>by simpa only [VR] using p
 | .pp _ _,_,p=>by simpa only [VR] using p
 | .mp _ _,_,p=>by simpa only [VR] using p
 | .dead,_,_=>by simp only [PR]
 | .own _ _ _,_,p=>by simp only [VR] at p
 | .ref _ _ _ _,_,p=>by simp [VR,bH] at p
 | .ptr _ _ _,_,p=>by simp [VR,bH] at p
 | .mr _ _,_,p=>by simp [VR,bH] at p
 | .agg l,_,p=>by
  simp only [VR] at p;simp only [PR]
  obtain ⟨vs,e,q⟩:=p
  exact ⟨vs,e,lW l q⟩
 | .tup l,_,p=>by
  simp only [VR] at p;simp only [PR]
  obtain ⟨vs,e,q⟩:=p
  exact ⟨vs,e,lW l q⟩
 | .fn f a c,_,p=>by
  simp only [VR] at p;simp only [PR]
  obtain ⟨b,d,e,q,r⟩:=p
  exact ⟨b,d,e,lW a q,lW c r⟩
 | .ifc t x,_,p=>by
  simp only [VR] at p;simp only [PR]
  obtain ⟨u,e,q⟩:=p
  exact ⟨u,e,lm x q⟩
theorem lW {m:aX} {S:aU}:∀ (l:List AV) {vs:List Value},aY (bH []) m S l vs→dV S l vs
 | [],[],_=>by simp only [dV]
 |x::r,v::vs,p=>by simp only [aY] at p;simp only [dV];exact ⟨lm x p.1,lW r p.2⟩
 | [],_::_,p=>by simp [aY] at p
 |_::_,[],p=>by simp [aY] at p
end
theorem adc (A:bV ap g m S w) {M l:dF} {V t:aX} {Sp S':aU} {w':World} (O:bV ap l t S' w') (r:Fr M V Sp w l t S' w') (ι:Nat→Nat)
  (hdom:∀ i Bc,M i=some Bc→∃ B,g (ι i)=some B∧V i=m (ι i))
  (hSp:oW S Sp) (hSpN:∀ k o v,Sp k o=some v→S k o=some v∨∃ b B,g b=some B∧(m b).1=k) {gN:dF} {mN:aX} (ρ:Nat→Nat→Option (Nat × Nat)) (hρ:tX l t gN mN ρ)
  (hnew:∀ i Bc,l i=some Bc→∃ B,gN (ι i)=some B∧mN (ι i)=t i∧B.esz=Bc.esz∧B.fro=Bc.fro∧B.fz=Bc.fz∧B.pr=Bc.pr∧(Bc.pr=true→B.cells=Bc.cells)∧(Bc.pr=false→B.cells=mP ρ Bc.cells))
  (c:∀ b B,gN b=some B→(∃ i Bc,l i=some Bc∧b=ι i)∨(∃ B0,g b=some B0∧mN b=m b∧B.cells=B0.cells∧B.pr=B0.pr∧B.esz=B0.esz∧(B.fro=false→B.fz=0)∧B.fz≤B.cells.length∧(∀ i Bc,M i=some Bc→b ≠ ι i)∧(∀ o v,Sp (m b).1 o=some v→B.fro=true∧o<B.fz)))
  (hge:Ge g m gN mN):bV ap gN mN S' w'∧Fr g m S w gN mN S' w':=by
 have p:oW S S':=hSp.trans r.sle
 have hcross:∀ b B0 i Bc,g b=some B0→l i=some Bc→(∀ i Bc,M i=some Bc→b ≠ ι i)→(m b).1 ≠ (t i).1:=by
  intro b B0 i Bc n a u e
  have hlt:=A.lt n
  rcases r.img i Bc a with d|⟨B1,d,x⟩
  ·omega
  ·obtain ⟨B2,E,F⟩:=hdom i B1 d
   rw [F] at x
   exact u i B1 d (A.inj b (ι i) B0 B2 n E (e.trans x))
 constructor
 ·refine ⟨?_, ?_,O.sealed, ?_,O.glob⟩
  ·intro b U B B' n W e
   rcases c b B n with ⟨i,Bi,a,rfl⟩|⟨B0,q,d,_,_,_,_,_,x,_⟩<;>rcases c U B' W with ⟨j,Bj,T,rfl⟩|⟨B0',J,N,_,_,_,_,_,X,_⟩
   ·obtain ⟨_,_,z,_⟩:=hnew i Bi a
    obtain ⟨_,_,s,_⟩:=hnew j Bj T
    rw [z,s] at e
    rw [O.inj i j Bi Bj a T e]
   ·obtain ⟨_,_,z,_⟩:=hnew i Bi a
    rw [z,N] at e
    exact absurd e.symm (hcross U B0' i Bi J a X)
   ·obtain ⟨_,_,s,_⟩:=hnew j Bj T
    rw [s,d] at e
    exact absurd e (hcross b B0 j Bj q T x)
   ·rw [d,N] at e
    exact A.inj b U B0 B0' q J e
  ·intro b B n
   rcases c b B n with ⟨i,Bi,a,rfl⟩|⟨B0,q,d,E,F,R,h6,h7,x,_⟩
   ·obtain ⟨B1,G,z,s,Q,I,Y,e6,Z⟩:=hnew i Bi a
    rw [n] at G;cases G
    rw [z]
    obtain ⟨⟨cur,e,vs,rest,k1,k2,k3,k4,k5,k6⟩,k7,k8⟩:=O.blk i Bi a
    cases hp:Bi.pr with
    |true=>
     have hcells:=e6 hp
     refine ⟨⟨cur,e,vs,rest,by rw [s];exact k1,k2,fun _=>by rw [hcells];exact k3 hp,by rw [hcells];exact bW _ (k3 hp),by rw [s];exact k5,by rw [s];exact k6⟩,by rw [Q,I];exact k7,by rw [I,hcells];exact k8⟩
    |false=>
     have hcells:=Z hp
     have y:=kF (oW.refl S') hρ _ k4
     have L:B.cells.length=Bi.cells.length:=by rw [bK k4,hcells,bK y]
     refine ⟨⟨cur,e,vs,rest,by rw [s];exact k1,k2,(fun h=>by rw [Y,hp] at h;cases h),by rw [hcells];exact y,by rw [s];exact k5,by rw [s];exact k6⟩,by rw [Q,I];exact k7,by rw [I,L];exact k8⟩
   ·rw [d]
    have u:∀ i Bc,M i=some Bc→(V i).1 ≠ (m b).1:=by
     intro i Bc a e
     obtain ⟨B2,K,f⟩:=hdom i Bc a
     rw [f] at e
     exact x i Bc a (A.inj b (ι i) B0 B2 q K e.symm)
    obtain ⟨⟨cur,e,vs,rest,k1,k2,k3,k4,k5,k6⟩,k7,k8⟩:=A.blk b B0 q
    refine ⟨⟨cur,e,vs,rest,by rw [R];exact k1.same (r.rest _ (A.lt q) u),k2,fun hp=>by rw [E];rw [F] at hp;exact dm p _ (k3 hp),by rw [E];exact lX p hge _ k4,by rw [R];exact k5,by rw [R];exact k6⟩,h6,h7⟩
  ·intro b B n o v y
   rcases c b B n with ⟨i,Bi,a,rfl⟩|⟨B0,q,d,E,F,R,h6,h7,x,K⟩
   ·obtain ⟨B1,G,z,s,Q,I,Y,e6,Z⟩:=hnew i Bi a
    rw [n] at G;cases G
    rw [z] at y
    rw [Q,I]
    exact O.own i Bi a o v y
   ·rw [d] at y
    rcases r.sealN _ _ _ y with f|f|⟨i,Bi,a,f⟩
    ·exact K o v f
    ·have:=A.lt q;omega
    ·obtain ⟨B2,D,C⟩:=hdom i Bi a
     rw [C] at f
     exact absurd (A.inj b (ι i) B0 B2 q D f.symm) (x i Bi a)
 ·refine ⟨hge,p,r.os,r.tape,r.output,r.size, ?_, ?_, ?_⟩
  ·intro k hk u
   refine r.rest k hk fun i Bc a e=> ?_
   obtain ⟨B2,K,f⟩:=hdom i Bc a
   exact u (ι i) B2 K (by rw [← f];exact e)
  ·intro b B n
   rcases c b B n with ⟨i,Bi,a,rfl⟩|⟨B0,q,d,_⟩
   ·obtain ⟨B1,G,z,_⟩:=hnew i Bi a
    rw [z]
    rcases r.img i Bi a with d|⟨B2,d,x⟩
    ·exact .inl d
    ·obtain ⟨B3,E,F⟩:=hdom i B2 d
     exact .inr ⟨B3,E,by rw [x,F]⟩
   ·exact .inr ⟨B0,q,by rw [d]⟩
  ·intro k o v y
   rcases r.sealN _ _ _ y with f|f|⟨i,Bi,a,f⟩
   ·rcases hSpN _ _ _ f with h|h
    ·exact .inl h
    ·exact .inr (.inr h)
   ·exact .inr (.inl f)
   ·obtain ⟨B2,D,C⟩:=hdom i Bi a
    exact .inr (.inr ⟨ι i,B2,D,by rw [← C];exact f⟩)
structure G6 (F:AV→AV):Prop where
 own:∀ xs n e,F (.own xs n e)= .own xs n e
 tup:∀ l,F (.tup l)= .tup (l.map F)
 not:∀ x,(∀ xs n e,x ≠ .own xs n e)→(∀ xs n e,F x ≠ .own xs n e)
 notT:∀ x,(∀ l,x ≠ .tup l)→(∀ l,F x ≠ .tup l)
theorem bD (n:Nat) {x:AV} (h:∀ xs k e,x ≠ .own xs k e) (r:List AV):dU n (x::r)=(x::(dU n r).1,(dU n r).2):=by
 cases x<;>first|rfl|exact absurd rfl (h _ _ _)
theorem ja (n:Nat) {x:AV} (h:∀ xs k e,x ≠ .own xs k e) (a:∀ l,x ≠ .tup l):lJ n x=(x,[]):=by
 cases x<;>first|rfl|exact absurd rfl (h _ _ _)|exact absurd rfl (a _)
theorem bU {gh a:dF} {n:Nat} {x:AV} (h:∀ xs k e,x ≠ .own xs k e) {r:List AV} {v:Value} {vs:List Value}:jl gh a m S n (x::r) (v::vs)=(VR gh m S x v∧jl gh a m S n r vs):=by
 cases x<;>first|rfl|exact absurd rfl (h _ _ _)
theorem lh {gh b:dF} {n:Nat} {x:AV} (h:∀ xs k e,x ≠ .own xs k e) (a:∀ l,x ≠ .tup l) {v:Value}:Cb gh b m S n x v=VR gh m S x v:=by
 cases x<;>first|rfl|exact absurd rfl (h _ _ _)|exact absurd rfl (a _)
theorem jm (x:AV):(∃ xs k e,x= .own xs k e)∨(∀ xs k e,x ≠ .own xs k e):=by
 cases x<;>first|exact .inl ⟨_,_,_,rfl⟩|exact .inr (fun _ _ _ h=>by cases h)
theorem A_ (x:AV):(∃ l,x= .tup l)∨(∀ l,x ≠ .tup l):=by
 cases x<;>first|exact .inl ⟨_,rfl⟩|exact .inr (fun _ h=>by cases h)
theorem nH {F:AV→AV} (c:G6 F):∀ (l:List AV) (a b:Nat),(dU a (l.map F)).2=(dU b l).2
 | [],a,b=>rfl
 | x::r,a,b=>by
  rcases jm x with ⟨xs,k,e,rfl⟩|hx
  ·simp only [List.map_cons,c.own,dU]
   rw [nH c r (a+1) (b+1)]
  ·rw [List.map_cons,bD a (c.not x hx),bD b hx]
   exact nH c r a b
theorem BN {F:AV→AV} (c:G6 F) (x:AV) (a b:Nat):(lJ a (F x)).2=(lJ b x).2:=by
 rcases jm x with ⟨xs,k,e,rfl⟩|hx
 ·rw [c.own];rfl
 ·rcases A_ x with ⟨l,rfl⟩|ht
  ·rw [c.tup]
   simp only [lJ]
   exact nH c l a b
  ·rw [ja a (c.not x hx) (c.notT x ht),ja b hx ht]
theorem mD {F:AV→AV} (a:G6 F) {gh d gN:dF} {m mN:aX} {S:aU} {n nid:Nat} (c:∀ x v,VR gh m S x v→VR gN mN S (F x) v) (b:∀ i k v,VR d m S (.ref (n+i) 0 0 k) v→VR gN mN S (.ref (nid+i) 0 0 k) v):
  ∀ (l:List AV) (vs:List Value) (j:Nat),jl gh d m S (n+j) l vs→aY gN mN S (dU (nid+j) (l.map F)).1 vs
 | [],[],j,_=>by simp [dU,aY]
 | x::r,v::vs,j,h=>by
  rcases jm x with ⟨xs,k,e,rfl⟩|hxo
  ·simp only [jl] at h
   simp only [List.map_cons,a.own,dU,aY]
   exact ⟨b j k v h.1,by have:=mD a c b r vs (j+1);rw [← Nat.add_assoc,← Nat.add_assoc] at this;exact this h.2⟩
  ·rw [bU hxo] at h
   rw [List.map_cons,bD _ (a.not x hxo)]
   simp only [aY]
   exact ⟨c x v h.1,mD a c b r vs j h.2⟩
 | [],_::_,_,h=>by simp [jl] at h
 |x::r,[],_,h=>by cases x<;>simp [jl] at h
theorem FI {F:AV→AV} (a:G6 F) {gh b gN:dF} {m mN:aX} {S:aU} {n nid:Nat} (d:∀ x v,VR gh m S x v→VR gN mN S (F x) v) (c:∀ i k v,VR b m S (.ref (n+i) 0 0 k) v→VR gN mN S (.ref (nid+i) 0 0 k) v)
  {x:AV} {v:Value} (h:Cb gh b m S n x v):VR gN mN S (lJ nid (F x)).1 v:=by
 rcases jm x with ⟨xs,k,e,rfl⟩|hxo
 ·simp only [Cb] at h
  rw [a.own]
  exact c 0 k v h
 ·rcases A_ x with ⟨l,rfl⟩|ht
  ·simp only [Cb] at h
   obtain ⟨vs,e,h⟩:=h
   rw [a.tup]
   simp only [lJ,VR]
   exact ⟨vs,e,mD a d c l vs 0 h⟩
  ·rw [lh hxo ht] at h
   rw [ja _ (a.not x hxo) (a.notT x ht)]
   exact d x v h
theorem yS:G6 id:=⟨fun _ _ _=>rfl,fun l=>by simp,fun _ h=>h,fun _ h=>h⟩
theorem MH (ρ:Nat→Nat→Option (Nat × Nat)):∀ l,mP ρ l=l.map (ren ρ)
 | []=>rfl
 |x::r=>by simp [mP,MH ρ r]
theorem Ag (ρ:Nat→Nat→Option (Nat × Nat)):G6 (ren ρ):=by
 refine ⟨fun _ _ _=>rfl,fun l=>by simp [ren,MH], ?_, ?_⟩
 ·intro x h xs n e a
  cases x<;>simp only [ren] at a<;>first
   |(cases a;done)
   |(split at a<;>cases a;done)
   |exact h _ _ _ rfl
 ·intro x h l a
  cases x<;>simp only [ren] at a<;>first
   |(cases a;done)
   |(split at a<;>cases a;done)
   |exact h _ rfl
theorem Aj:∀ (bs:List bi) (n b:Nat),aA (Cj n bs) b=if n≤b then bs[b - n]? else none
 | [],n,b=>by simp [Cj,aA]
 | B::r,n,b=>by
  simp only [Cj,aA]
  cases h:Nat.beq n b with
  |true=>
   have:=aP h
   subst this
   simp
  | false=>
   have a:n ≠ b:=by intro e;subst e;simp at h
   rw [Aj r (n+1) b]
   by_cases hle:n≤b
   ·rw [if_pos hle,if_pos (show n+1≤b by omega)]
    obtain ⟨d,hd⟩:∃ d,b - n=d+1:=⟨b - n - 1,by omega⟩
    rw [hd,List.getElem?_cons_succ,show b - (n+1)=d by omega]
   ·rw [if_neg hle,if_neg (show ¬ n+1≤b by omega)]
theorem Ib {rd:dF} {mk:bi→bi}:∀ (fp:List Nat) (b:Nat),aA (fp.filterMap fun b=>(rd b).map fun B=>(b,mk B)) b=if b ∈ fp then (rd b).map mk else none
 | [],b=>by simp [aA]
 | a::r,b=>by
  have f:=Ib (rd:=rd) (mk:=mk) r b
  cases c:rd a with
  |none=>
   rw [List.filterMap_cons_none (by simp [c]),f]
   by_cases hab:b=a
   ·subst hab;simp [c]
   ·simp [hab]
  | some B=>
   rw [List.filterMap_cons_some (by simp [c];rfl)]
   simp only [aA]
   cases h:Nat.beq a b with
   |true=>have:=aP h;subst this;simp [c]
   |false=>
    have d:b ≠ a:=by intro e;subst e;simp at h
    simp only [f,List.mem_cons,d,false_or]
end
end AM
namespace AM
open Go
def adS (g:dF) (m:aX) (S:aU):jT→Ending→Prop
 | .ret v,e=> ∃ cv,e= .returned cv∧VR g m S v cv
 | .pan v,e=> ∃ cv,e= .panicked [{v:=cv,recovered:=false}]∧VR g m S v cv
 | .retS _ _ _,_=>False
def YT (ap:AP) (g:dF) (m:aX) (S:aU) (w:World) (out:jT) (ups:List (Nat × bi)) (e:Ending) (w':World):Prop:=
 ∃ m' S',bV ap (dL g ups) m' S' w'∧Fr g m S w (dL g ups) m' S' w'∧adS (dL g ups) m' S' out e
theorem eQ {h a:List bi} {b:Nat} (c:b<h.length):bH (h++a) b=bH h b:=by
 simp [bH,List.getElem?_append_left c]
theorem iW {h a:List bi} {b:Nat} (c:h.length≤b):bH (h++a) b=bH a (b - h.length):=by
 simp [bH,List.getElem?_append_right c]
def rX (l:List bi):Prop:=∀ B ∈ l,B.pr=true∧B.fro=false∧B.ver=0
theorem nI:∀ (l:List AV) (n:Nat),rX (dU n l).2
 | [],n=>by simp [dU,rX]
 | x::r,n=>by
  rcases jm x with ⟨xs,k,e,rfl⟩|hx
  ·simp only [dU]
   intro B a
   rcases List.mem_cons.1 a with rfl|a
   ·exact ⟨rfl,rfl,rfl⟩
   ·exact nI r (n+1) B a
  ·rw [bD n hx];exact nI r n
theorem MG (x:AV) (n:Nat):rX (lJ n x).2:=by
 rcases jm x with ⟨xs,k,e,rfl⟩|hx
 ·intro B a
  simp [lJ] at a
  subst a
  exact ⟨rfl,rfl,rfl⟩
 ·rcases A_ x with ⟨l,rfl⟩|ht
  ·simp only [lJ];exact nI l n
  ·rw [ja n hx ht];simp [rX]
theorem BM (o:jT) (n:Nat):rX (mg n o):=by
 cases o with
 |ret v=>exact MG v n
 |pan v=>simp [mg,rX]
 |retS one sh l=>exact nI l n
section
variable {P:Program} {ap:AP} {g:dF} {m:aX} {S:aU} {w:World}
def Fe (nid:Nat) (F:AV→AV):jT→jT
 | .ret v=> .ret (lJ nid (F v)).1
 | .pan v=> .pan (F v)
 | .retS one sh l=> .ret (QT one sh (dU nid (l.map F)).1)
theorem uz (r:bV ap g m S w) {rd:dF} (p:∀ b B,rd b=some B→g b=some B) {Q:List Nat} (T:∀ b B,rd b=some B→b ∈ Q) {nid:Nat} {args args':List AV} {cargs:List Value} {out:jT}
  (ha:jP (frz rd 6) args=some args') (hv:aY g m S args cargs) {C:List Value→(Ending→World→Prop)→Prop} (hmono:∀ cargs R R',C cargs R→(∀ e w',R e w'→R' e w')→C cargs R')
  (j:∀ m1 S1,oW S S1→bV ap (bH []) m1 S1 w→aY (bH []) m1 S1 args' cargs→C cargs fun e w'=> ∃ m' S',Gv ap [] m1 S1 w out [] m' S' w' e) (hfr:∀ i,i<(mg 0 out).length→g (nid+i)=none):
  C cargs fun e w'=>YT ap g m S w (Fe nid id out) (Cj nid (mg 0 out)++Q.filterMap fun b=>(rd b).map fun B=>(b,{B with fro:=true,fz:=B.cells.length})) e w':=by
 have U:dV (dH S m rd w) args' cargs:=uo (fun x v y a c=>lG r p 6 x v y a c) ha hv
 have D:=nT S m rd w
 let m0:aX:=fun _=>(0,0)
 have hS0:bV ap (bH []) m0 (dH S m rd w) w:=by
  refine ⟨fun b b' B B' h=>by simp [bH] at h,fun b B h=>by simp [bH] at h,fun k o v h=>qi r h,fun b B h=>by simp [bH] at h, ?_⟩
  intro k xs hk
  obtain ⟨vs,a,c⟩:=r.glob k xs hk
  exact ⟨vs,dm D _ a,c.mono D⟩
 refine hmono _ _ _ (j m0 (dH S m rd w) D hS0 (bW _ U)) ?_
 rintro e w' ⟨m',S',hF⟩
 obtain ⟨F,t,f⟩:=hF
 simp only [List.nil_append,List.length_nil] at F t f
 generalize G:mg 0 out=bs at F t hfr
 have I:rX bs:=G ▸ BM out 0
 let gN:dF:=dL g (Cj nid bs++Q.filterMap fun b=>(rd b).map fun B=>(b,{B with fro:=true,fz:=B.cells.length}))
 let mN:aX:=fun b=>if nid≤b∧b - nid<bs.length then m' (b - nid) else m b
 have E:∀ b,gN b=if nid≤b∧b - nid<bs.length then bs[b - nid]? else match rd b with|some B=>some {B with fro:=true,fz:=B.cells.length}|none=>g b:=by
  intro b
  show dL g _ b=_
  unfold dL
  have W:∀ mk:bi→bi,(if b ∈ Q then (rd b).map mk else none)=(rd b).map mk:=by
   intro mk
   split
   ·rfl
   ·rename_i d
    cases q:rd b with
    |none=>rfl
    |some B=>exact absurd (T b B q) d
  rw [iC,Aj,Ib,W]
  by_cases a:nid≤b
  ·by_cases c:b - nid<bs.length
   ·have j:nid≤b∧b - nid<bs.length:=⟨a,c⟩
    rw [if_pos a,if_pos j,List.getElem?_eq_getElem c]
   ·have j:¬ (nid≤b∧b - nid<bs.length):=fun h=>c h.2
    rw [if_pos a,if_neg j,List.getElem?_eq_none (Nat.le_of_not_lt c)]
    cases rd b<;>rfl
  ·have j:¬ (nid≤b∧b - nid<bs.length):=fun h=>a h.1
   rw [if_neg a,if_neg j]
   cases rd b<;>rfl
 have hnidg:∀ b B,g b=some B→¬ (nid≤b∧b - nid<bs.length):=by
  rintro b B d ⟨a,c⟩
  have:=hfr (b - nid) c
  rw [show nid+(b - nid)=b by omega,d] at this
  cases this
 have hge:Ge g m gN mN:=by
  intro b B d
  have O:=hnidg b B d
  have L:mN b=m b:=if_neg O
  rw [E,if_neg O]
  cases q:rd b with
  |none=>exact ⟨B,d,rfl,.inl ⟨rfl,L⟩⟩
  |some B1=>
   have:=p b B1 q
   rw [d] at this;cases this
   exact ⟨_,rfl,rfl,.inl ⟨rfl,L⟩⟩
 have A:∀ i B,bs[i]? =some B→gN (nid+i)=some B∧mN (nid+i)=m' i:=by
  intro i B K
  have hl:=(List.getElem?_eq_some_iff.1 K).1
  have j:nid≤nid+i∧nid+i - nid<bs.length:=by omega
  refine ⟨by rw [E,if_pos j,show nid+i - nid=i by omega];exact K, ?_⟩
  show (if _ then _ else _)=_
  rw [if_pos j,show nid+i - nid=i by omega]
 obtain ⟨hsN,hfN⟩:=adc (g:=g) (m:=m) (S:=S) (w:=w) r F t (fun i=>nid+i) (fun i Bc h=>by simp [bH] at h) D
  (fun k o v h=>(fJ h).imp id fun ⟨_,b,B,a,c,_⟩=> ⟨b,B,p b B a,c⟩) (gN:=gN) (mN:=mN) (fun i v=>some (nid+i,v))
  (by
   intro b ver b' ver' h B hB J
   simp only [Option.some.injEq,Prod.mk.injEq] at h
   obtain ⟨rfl,rfl⟩:=h
   obtain ⟨a,c⟩:=A b B hB
   exact ⟨B,a,J,fun e=> ⟨e,c,rfl⟩⟩)
  (by
   intro i Bc K
   obtain ⟨a,c⟩:=A i Bc K
   exact ⟨Bc,a,c,rfl,rfl,rfl,rfl,fun _=>rfl,fun hp=>by rw [(I Bc (List.mem_of_getElem? K)).1] at hp;cases hp⟩)
  (by
   intro b B d
   by_cases j:nid≤b∧b - nid<bs.length
   ·rw [E,if_pos j] at d
    exact .inl ⟨b - nid,B,d,by omega⟩
   ·have L:mN b=m b:=if_neg j
    rw [E,if_neg j] at d
    right
    cases q:rd b with
    | none=>
     rw [q] at d
     have d:g b=some B:=d
     refine ⟨B,d,L,rfl,rfl,rfl,(r.blk b B d).fz0,(r.blk b B d).fzle,(fun i Bc h=>by simp [bH] at h), ?_⟩
     intro o v X
     rcases fJ X with h|⟨_,b1,B1,a,c,_⟩
     ·exact r.own b B d o v h
     ·have:=r.inj b1 b B1 B (p _ _ a) d c
      subst this
      rw [a] at q;cases q
    | some B1=>
     rw [q] at d
     have d:some {B1 with fro:=true,fz:=B1.cells.length}=some B:=d
     cases d
     have z:=p b B1 q
     refine ⟨B1,z,L,rfl,rfl,rfl,(fun h=>by cases h),Nat.le_refl _,(fun i Bc h=>by simp [bH] at h), ?_⟩
     intro o v X
     refine ⟨rfl, ?_⟩
     rcases fJ X with h|⟨_,b1,B2,a,c,M⟩
     ·exact Nat.lt_of_lt_of_le (r.own b B1 z o v h).2 (r.blk b B1 z).fzle
     ·have:=r.inj b1 b B2 B1 (p _ _ a) z c
      subst this
      rw [a] at q;cases q
      exact M)
  hge
 refine ⟨mN,S',hsN,hfN, ?_⟩
 show adS gN mN S' (Fe nid id out) e
 cases out with
 |ret v=>
  obtain ⟨cv,N,a⟩:=f
  refine ⟨cv,N, ?_⟩
  have s:(lJ 0 v).2=bs:=G
  simp only [List.length_nil,List.nil_append,s] at a
  refine FI (n:=0) yS (fun x v u=>gG x (lm x u)) ?_ a
  intro i k v u
  rw [Nat.zero_add] at u
  simp only [VR] at u ⊢
  obtain ⟨B,c,M,Y,V⟩:=u
  obtain ⟨h6,Z⟩:=A i B c
  exact ⟨B,h6,M,Y,by rw [Z];exact V⟩
 |pan v=>
  obtain ⟨cv,N,a⟩:=f
  exact ⟨cv,N,gG _ (lm _ a)⟩
 |retS one sh l=>
  obtain ⟨cv,ws,N,O,a⟩:=f
  refine ⟨cv,N,QU ?_ O⟩
  have s:(dU 0 l).2=bs:=G
  simp only [List.length_nil,List.nil_append,s] at a
  refine mD (n:=0) (nid:=nid) yS (fun x v u=>gG x (lm x u)) ?_ l ws 0 a
  intro i k v u
  rw [Nat.zero_add] at u
  simp only [VR] at u ⊢
  obtain ⟨B,c,M,Y,V⟩:=u
  obtain ⟨h6,Z⟩:=A i B c
  exact ⟨B,h6,M,Y,by rw [Z];exact V⟩
end
end AM
namespace AM
open Go
theorem LW {b:Nat} {r:List Nat} (h:sU (b::r)=true):b ∉ r∧sU r=true:=by
 simp only [sU,Bool.and_eq_true,Bool.not_eq_true'] at h
 refine ⟨fun a=> ?_,h.2⟩
 rw [jB.2 a] at h
 cases h.1
theorem ry:∀ {l:List Nat} {b p:Nat},qy l b=some p→l[p]? =some b
 | [],b,p,h=>by simp [qy] at h
 | c::r,b,p,h=>by
  simp only [qy] at h
  split at h
  ·rename_i d;cases h;rw [aP d];rfl
  ·simp only [Option.map_eq_some_iff] at h
   obtain ⟨q,a,rfl⟩:=h
   simpa using ry a
theorem qf:∀ {l:List Nat} {b p:Nat},sU l=true→l[p]? =some b→qy l b=some p
 | [],b,p,_,h=>by simp at h
 |c::r,b,0,hn,h=>by simp at h;subst h;simp [qy]
 | c::r,b,p+1,hn,h=>by
  obtain ⟨e,d⟩:=LW hn
  have h:r[p]? =some b:=by simpa using h
  have a:Nat.beq c b=false:=by
   cases f:Nat.beq c b with
   |false=>rfl
   |true=>exact absurd (aP f ▸ List.mem_of_getElem? h) e
  simp [qy,a,qf d h]
theorem LJ {mk:Nat→bi→bi}:∀ (fp:List Nat) (h':List bi) (b:Nat),aA ((Nz fp h').map fun (b,B)=>(b,mk b B)) b=(qy fp b).bind fun p=>(h'[p]?).map (mk b)
 | [],h',b=>by cases h'<;>simp [Nz,aA,qy]
 |a::r,[],b=>by
  simp only [Nz,List.map_nil,aA,qy]
  cases Nat.beq a b with
  |true=>rfl
  |false=>cases qy r b<;>rfl
 | a::r,B::q,b=>by
  simp only [Nz,List.map_cons,aA,qy]
  cases h:Nat.beq a b with
  |true=>have:=aP h;subst this;rfl
  |false=>
   simp only [LJ r q b]
   cases qy r b<;>simp
section
variable {P:Program} {ap:AP} {g:dF} {m:aX} {S:aU} {w:World}
def JZ (ρ:Nat→Nat→Option (Nat × Nat)) (B:bi):bi:={B with cells:=(match B.pr with|true=>B.cells|false=>mP ρ B.cells),ver:=0}
theorem ar1 {a b n i:Nat} (h:b≤a):n+(a+i - b)=n+(a - b)+i:=by omega
theorem ar2 {a b i:Nat} (h:b≤a):b+(a+i - b)=a+i:=by omega
theorem Y9 {ρ:Nat→Nat→Option (Nat × Nat)} {l:List bi} (h:rX l):l.map (Bf ρ 0)=l:=by
 induction l with
 |nil=>rfl
 |cons B r ih=>
  rw [List.map_cons,ih fun B d=>h B (by simp [d])]
  obtain ⟨b,_,a⟩:=h B (by simp)
  obtain ⟨c,v,f,z,e,p⟩:=B
  simp only at b a
  subst b a
  rfl
theorem Bh (T:bV ap g m S w) {rd:dF} (hrd:∀ b B,rd b=some B→g b=some B) {a:List Nat} {Y:List bi} (hbl:jP rd a=some Y) (M:sU a=true) {nid:Nat} {args:List AV} {cargs:List Value} {out:jT}
  {vers:Nat→Nat} (hvers:∀ b B,rd b=some B→vers b=B.ver) {ρ ρ':Nat→Nat→Option (Nat × Nat)} (hρe:∀ b v,ρ b v=match Nat.beq v (vers b) with|true=>(qy a b).map fun p=>(p,0)|false=>none)
  {h':List bi} (hρe':ρ'=PX nid a vers h'.length)
  (hv:aY g m S args cargs) {C:List Value→(Ending→World→Prop)→Prop} (hmono:∀ cargs R R',C cargs R→(∀ e w',R e w'→R' e w')→C cargs R')
  (u:∀ m1 S1,oW S S1→bV ap (bH (Y.map (JZ ρ))) m1 S1 w→aY (bH (Y.map (JZ ρ))) m1 S1 (mP ρ args) cargs→C cargs fun e w'=> ∃ m' S',Gv ap (Y.map (JZ ρ)) m1 S1 w out h' m' S' w' e) (hl:a.length≤h'.length) (hfr:∀ i,i<(h'.length - a.length)+(mg h'.length out).length→g (nid+i)=none):
  C cargs fun e w'=>YT ap g m S w (Fe (nid+(h'.length - a.length)) (ren ρ') out) (Cj nid ((h'.drop a.length).map (Bf ρ' 0)++mg h'.length out)++(Nz a h').map fun (b,B)=>(b,Bf ρ' (vers b) B)) e w':=by
 have t:∀ p b,a[p]? =some b→∃ B,rd b=some B∧g b=some B∧bH (Y.map (JZ ρ)) p=some (JZ ρ B):=by
  intro p b hp
  obtain ⟨B,c,d⟩:=(iF hbl).2 p b hp
  exact ⟨B,d,hrd b B d,by simp [bH,c]⟩
 have z:∀ p Bc,bH (Y.map (JZ ρ)) p=some Bc→∃ b B,a[p]? =some b∧rd b=some B∧g b=some B∧Bc=JZ ρ B:=by
  intro p Bc hp
  have A:p<a.length:=by
   have:=(List.getElem?_eq_some_iff.1 hp).1
   rw [List.length_map,(iF hbl).1] at this
   exact this
  obtain ⟨B,c,d,f⟩:=t p _ (List.getElem?_eq_getElem A)
  rw [f] at hp;cases hp
  exact ⟨_,B,List.getElem?_eq_getElem A,c,d,rfl⟩
 let mc:aX:=fun p=>m (a.getD p 0)
 have s:∀ p b,a[p]? =some b→mc p=m b:=by
  intro p b hp
  show m (a.getD p 0)=_
  rw [List.getD_eq_getElem?_getD,hp];rfl
 have X:tX g m (bH (Y.map (JZ ρ))) mc ρ:=by
  intro b ver b' J h B Q E
  rw [hρe] at h
  split at h
  ·rename_i hve
   simp only [Option.map_eq_some_iff,Prod.mk.injEq] at h
   obtain ⟨p,hp,rfl,rfl⟩:=h
   have hp:=ry hp
   obtain ⟨B1,c,d,f⟩:=t p b hp
   rw [d] at Q;cases Q
   exact ⟨_,f,Nat.zero_le _,fun _=> ⟨by rw [aP hve,hvers b _ c],s p b hp,rfl⟩⟩
  ·cases h
 have hSc:bV ap (bH (Y.map (JZ ρ))) mc S w:=by
  refine ⟨?_, ?_,T.sealed, ?_,T.glob⟩
  ·intro p q Bp Bq hp hq e
   obtain ⟨b,B,c,d,f,_⟩:=z p Bp hp
   obtain ⟨b',B',h1',h2',h3',_⟩:=z q Bq hq
   rw [s p b c,s q b' h1'] at e
   have:=T.inj b b' B B' f h3' e
   subst this
   have Z:=qf M c
   rw [qf M h1'] at Z
   cases Z;rfl
  ·intro p Bp hp
   obtain ⟨b,B,c,d,f,rfl⟩:=z p Bp hp
   rw [s p b c]
   obtain ⟨⟨cur,e,vs,rest,k1,k2,k3,k4,k5,k6⟩,k7,k8⟩:=T.blk b B f
   cases hp:B.pr with
   |true=>exact ⟨⟨cur,e,vs,rest,k1,k2,fun _=>by simpa [JZ,hp] using k3 hp,by simpa [JZ,hp] using bW _ (k3 hp),k5,k6⟩,k7,by simpa [JZ,hp] using k8⟩
   | false=>
    have hv:=kF (oW.refl S) X _ k4
    exact ⟨⟨cur,e,vs,rest,k1,k2,fun h=>by simp [JZ,hp] at h,by simpa [JZ,hp] using hv,k5,k6⟩,k7,by
     have:(JZ ρ B).cells.length=B.cells.length:=by simp only [JZ,hp];rw [bK k4,bK hv]
     rw [this];exact k8⟩
  ·intro p Bp hp o v ho
   obtain ⟨b,B,c,d,f,rfl⟩:=z p Bp hp
   rw [s p b c] at ho
   exact T.own b B f o v ho
 refine hmono _ _ _ (u mc S (oW.refl S) hSc (kF (oW.refl S) X _ hv)) ?_
 rintro e w' ⟨m',S',hF⟩
 obtain ⟨hsr,K,L⟩:=hF
 generalize hbs:mg h'.length out=bs0 at hsr K hfr
 have hown:rX bs0:=hbs ▸ BM out h'.length
 obtain ⟨bs,F⟩:∃ bs,bs=h'.drop a.length++bs0:=⟨_,rfl⟩
 have hbsl:bs.length=(h'.length - a.length)+bs0.length:=by rw [F,List.length_append,List.length_drop]
 rw [← hbsl] at hfr
 let ups:=(Nz a h').map fun (b,B)=>(b,Bf ρ' (vers b) B)
 rw [show (h'.drop a.length).map (Bf ρ' 0)++bs0=bs.map (Bf ρ' 0) by rw [F,List.map_append,Y9 hown]]
 let gN:dF:=dL g (Cj nid (bs.map (Bf ρ' 0))++ups)
 let mN:aX:=fun b=>if nid≤b∧b - nid<bs.length then m' (a.length+(b - nid)) else match qy a b with|some p=>m' p|none=>m b
 have N:∀ b,gN b=if nid≤b∧b - nid<bs.length then (bs[b - nid]?).map (Bf ρ' 0) else match (qy a b).bind fun p=>(h'[p]?).map (Bf ρ' (vers b)) with|some B=>some B|none=>g b:=by
  intro b
  show dL g _ b=_
  unfold dL
  rw [iC,Aj,LJ (mk:=fun b B=>Bf ρ' (vers b) B)]
  by_cases c:nid≤b
  ·by_cases d:b - nid<bs.length
   ·have u:nid≤b∧b - nid<bs.length:=⟨c,d⟩
    rw [if_pos c,if_pos u,List.getElem?_map,List.getElem?_eq_getElem d]
    rfl
   ·have u:¬ (nid≤b∧b - nid<bs.length):=fun h=>d h.2
    rw [if_pos c,if_neg u,List.getElem?_map,List.getElem?_eq_none (Nat.le_of_not_lt d)]
    rfl
  ·have u:¬ (nid≤b∧b - nid<bs.length):=fun h=>c h.1
   rw [if_neg c,if_neg u]
   rfl
 have hnidg:∀ b B,g b=some B→¬ (nid≤b∧b - nid<bs.length):=by
  rintro b B j ⟨c,d⟩
  have:=hfr (b - nid) d
  rw [show nid+(b - nid)=b by omega,j] at this
  cases this
 have hh':∀ p,p<a.length→∃ B,h'[p]? =some B:=fun p hp=> ⟨_,List.getElem?_eq_getElem (by omega)⟩
 have hsh:∀ p b,a[p]? =some b→∀ Bc,h'[p]? =some Bc→gN b=some (Bf ρ' (vers b) Bc)∧mN b=m' p:=by
  intro p b hp Bc Q
  obtain ⟨B,c,d,f⟩:=t p b hp
  have hn:=hnidg b B d
  refine ⟨by rw [N,if_neg hn,qf M hp];simp [Q], ?_⟩
  show (if _ then _ else _)=_
  rw [if_neg hn,qf M hp]
 have U:∀ i B,bs[i]? =some B→gN (nid+i)=some (Bf ρ' 0 B)∧mN (nid+i)=m' (a.length+i):=by
  intro i B D
  have hl:=(List.getElem?_eq_some_iff.1 D).1
  have u:nid≤nid+i∧nid+i - nid<bs.length:=by omega
  refine ⟨by rw [N,if_pos u,show nid+i - nid=i by omega,D];rfl, ?_⟩
  show (if _ then _ else _)=_
  rw [if_pos u,show nid+i - nid=i by omega]
 have W:∀ p,a.length≤p→bH (h'++bs0) p=bs[p - a.length]? :=by
  intro p hp
  have he:h'++bs0=h'.take a.length++bs:=by rw [F,← List.append_assoc,List.take_append_drop]
  have A:(h'.take a.length).length=a.length:=by rw [List.length_take];omega
  rw [he,iW (by omega),A]
  rfl
 have y:∀ p Bc,bH (h'++bs0) p=some Bc→(p<a.length∧h'[p]? =some Bc)∨(a.length≤p∧bs[p - a.length]? =some Bc):=by
  intro p Bc h
  by_cases hp:p<a.length
  ·rw [eQ (by omega)] at h;exact .inl ⟨hp,h⟩
  ·rw [W p (by omega)] at h;exact .inr ⟨by omega,h⟩
 have hren':tX (bH (h'++bs0)) m' gN mN ρ':=by
  intro p ver b' J h Bc Q E
  rw [hρe'] at h
  unfold PX at h
  split at h
  ·rename_i b hp
   cases h
   rcases y p Bc Q with ⟨c,d⟩|⟨c,_⟩
   ·obtain ⟨f,r⟩:=hsh p _ hp Bc d
    exact ⟨_,f,by simp only [Bf];omega,fun e=> ⟨by simp only [Bf] at e;omega,r,rfl⟩⟩
   ·have:=(List.getElem?_eq_some_iff.1 hp).1;omega
  ·rename_i hp
   split at h
   ·cases h
    have hge:=List.getElem?_eq_none_iff.1 hp
    rcases y p Bc Q with ⟨c,_⟩|⟨c,d⟩
    ·omega
    ·obtain ⟨f,r⟩:=U _ Bc d
     exact ⟨_,f,by simp only [Bf];omega,fun e=> ⟨by simp only [Bf] at e;omega,by rw [r,show a.length+(p - a.length)=p by omega],rfl⟩⟩
   ·cases h
 have hge:Ge g m gN mN:=by
  intro b B j
  have hn:=hnidg b B j
  cases D:qy a b with
  | none=>
   have hm:mN b=m b:=by
    show (if _ then _ else _)=_
    rw [if_neg hn,D]
   refine ⟨B, ?_,rfl,.inl ⟨rfl,hm⟩⟩
   rw [N,if_neg hn,D];exact j
  | some p=>
   have hp:=ry D
   obtain ⟨B1,c,d,f⟩:=t p b hp
   rw [d] at j;cases j
   obtain ⟨Bc,r,h5,I⟩:=K.ge p _ f
   rcases y p Bc r with ⟨_,O⟩|⟨O,_⟩
   ·obtain ⟨h8,h9⟩:=hsh p b hp Bc O
    refine ⟨_,h8,h5, ?_⟩
    rcases I with ⟨I,h6'⟩|I
    ·left
     refine ⟨?_,by rw [h9,h6',s p b hp]⟩
     simp only [Bf,JZ] at I ⊢
     rw [hvers b _ c];omega
    ·right
     simp only [Bf,JZ] at I ⊢
     rw [hvers b _ c];omega
   ·have:=(List.getElem?_eq_some_iff.1 hp).1;omega
 let ι:Nat→Nat:=fun p=>if p<a.length then a.getD p 0 else nid+(p - a.length)
 have hι:∀ p b,a[p]? =some b→ι p=b:=by
  intro p b hp
  show (if _ then _ else _)=_
  rw [if_pos (List.getElem?_eq_some_iff.1 hp).1,List.getD_eq_getElem?_getD,hp];rfl
 have hι':∀ i,ι (a.length+i)=nid+i:=by
  intro i
  show (if _ then _ else _)=_
  rw [if_neg (by omega)];congr 1;omega
 obtain ⟨hsN,hfN⟩:=adc (g:=g) (m:=m) (S:=S) (w:=w) T hsr K ι
  (by
   intro p Bc hp
   obtain ⟨b,B,c,d,f,rfl⟩:=z p Bc hp
   rw [hι p b c]
   exact ⟨B,f,s p b c⟩) (oW.refl S) (fun k o v h=> .inl h) (gN:=gN) (mN:=mN) ρ' hren'
  (by
   intro p Bc hp
   rcases y p Bc hp with ⟨c,d⟩|⟨c,d⟩
   ·have hp:=List.getElem?_eq_getElem c
    obtain ⟨f,r⟩:=hsh p _ hp Bc d
    rw [hι p _ hp]
    exact ⟨_,f,r,rfl,rfl,rfl,rfl,fun h=>by simp [Bf,h],fun h=>by simp [Bf,h]⟩
   ·obtain ⟨i,rfl⟩:∃ i,p=a.length+i:=⟨p - a.length,by omega⟩
    rw [show a.length+i - a.length=i by omega] at d
    obtain ⟨f,r⟩:=U i Bc d
    rw [hι' i]
    exact ⟨_,f,r,rfl,rfl,rfl,rfl,fun h=>by simp [Bf,h],fun h=>by simp [Bf,h]⟩)
  (by
   intro b B j
   by_cases u:nid≤b∧b - nid<bs.length
   ·rw [N,if_pos u,Option.map_eq_some_iff] at j
    obtain ⟨Bc,j,_⟩:=j
    refine .inl ⟨a.length+(b - nid),Bc, ?_,by rw [hι'];omega⟩
    rw [W _ (by omega),show a.length+(b - nid) - a.length=b - nid by omega];exact j
   ·rw [N,if_neg u] at j
    cases D:qy a b with
    |some p=>
     have hp:=ry D
     have A:=(List.getElem?_eq_some_iff.1 hp).1
     obtain ⟨Bc,r⟩:=hh' p A
     exact .inl ⟨p,Bc,by rw [eQ (by omega)];exact r,(hι p b hp).symm⟩
    | none=>
     have hm:mN b=m b:=by
      show (if _ then _ else _)=_
      rw [if_neg u,D]
     rw [D] at j
     have j:g b=some B:=j
     refine .inr ⟨B,j,hm,rfl,rfl,rfl,(T.blk b B j).fz0,(T.blk b B j).fzle, ?_,fun o v ho=>T.own b B j o v ho⟩
     intro p Bc hp e
     obtain ⟨b1,B1,c,_⟩:=z p Bc hp
     rw [hι p b1 c] at e
     subst e
     rw [qf M c] at D;cases D)
  hge
 refine ⟨mN,S',hsN,hfN, ?_⟩
 show adS gN mN S' (Fe (nid+(h'.length - a.length)) (ren ρ') out) e
 have hrenh:tX (bH h') m' gN mN ρ':=by
  intro p ver b' J h Bc Q E
  refine hren' p ver b' J h Bc ?_ E
  rw [eQ (List.getElem?_eq_some_iff.1 Q).1];exact Q
 cases out with
 |ret v=>
  obtain ⟨cv,Z,c⟩:=L
  refine ⟨cv,Z, ?_⟩
  have G:(lJ h'.length v).2=bs0:=hbs
  rw [G] at c
  refine FI (n:=h'.length) (Ag ρ') (fun x v V=>xm (oW.refl S') hrenh x V) ?_ c
  intro i k v V
  simp only [VR] at V ⊢
  obtain ⟨B,d,f,r,h5⟩:=V
  rw [W _ (Nat.le_trans hl (Nat.le_add_right _ _))] at d
  obtain ⟨I,O⟩:=U _ B d
  rw [ar1 hl] at I O
  rw [ar2 hl] at O
  exact ⟨_,I,Nat.zero_le _,r,fun e=>by rw [O];exact h5 (by simpa [Bf] using e)⟩
 |pan v=>
  obtain ⟨cv,Z,c⟩:=L
  exact ⟨cv,Z,xm (oW.refl S') hrenh _ c⟩
 |retS one sh l=>
  obtain ⟨cv,ws,Z,hn,c⟩:=L
  refine ⟨cv,Z,QU ?_ hn⟩
  have G:(dU h'.length l).2=bs0:=hbs
  rw [G] at c
  refine mD (n:=h'.length) (nid:=nid+(h'.length - a.length)) (Ag ρ') (fun x v V=>xm (oW.refl S') hrenh x V) ?_ l ws 0 c
  intro i k v V
  simp only [VR] at V ⊢
  obtain ⟨B,d,f,r,h5⟩:=V
  rw [W _ (Nat.le_trans hl (Nat.le_add_right _ _))] at d
  obtain ⟨I,O⟩:=U _ B d
  rw [ar1 hl] at I O
  rw [ar2 hl] at O
  exact ⟨_,I,Nat.zero_le _,r,fun e=>by rw [O];exact h5 (by simpa [Bf] using e)⟩
end
end AM
namespace AM
open Go
section
variable {P:Program} {ap:AP} {H:di}
theorem yA {q:dF} {nid f:Nat} {args:List AV} {md:AV} {c F:Cx} {r:U4} (h:uy ap H q nid md f args c= .ok r F):
  ∃ args0 h0 out0 h0',H c md f args0 h0= .ok (out0,h0',r.md) F∧True∧
  ∀ g m S w cargs (C:List Value→(Ending→World→Prop)→Prop),(∀ cargs R R',C cargs R→(∀ e w',R e w'→R' e w')→C cargs R')→bV ap g m S w→(∀ b ∈ r.fp,∀ B,q b=some B→g b=some B)→(∀ i,i<4→g (nid+i)=none)→aY g m S args cargs→
   (∀ m1 S1,oW S S1→bV ap (bH h0) m1 S1 w→aY (bH h0) m1 S1 args0 cargs→C cargs fun e w'=> ∃ m' S',Gv ap h0 m1 S1 w out0 h0' m' S' w' e)→
   C cargs fun e w'=>YT ap g m S w r.out r.ups e w':=by
 unfold uy at h
 simp only at h
 generalize G:sG q 6 (iO (bT args))=fp at h
 let rd:dF:=fun b=>match rE fp b with|true=>q b|false=>none
 have a:∀ b B,rd b=some B→b ∈ fp∧q b=some B:=by
  intro b B d
  dsimp only [rd] at d
  split at d
  ·rename_i I;exact ⟨jB.1 I,d⟩
  ·cases d
 split at h
 ·split at h
  ·cases h
  ·rename_i args' D
   obtain ⟨⟨out,x,md⟩,K,y,h⟩:=R.bind_ok h
   dsimp only at h
   split at h
   ·cases h
   ·split at h
    ·rename_i v
     split at h
     ·rename_i o
      cases h
      refine ⟨_,_,_,_,y,trivial, ?_⟩
      intro g m S w cargs C hmono u k n s t
      have j:mg 0 (jT.ret v)=(lJ nid v).2:=BN yS v 0 nid
      have:=uz u (rd:=rd) (fun b B d=>k b (a b B d).1 B (a b B d).2) (fun b B d=>(a b B d).1) (nid:=nid) D s hmono t (fun i p=>n i (by rw [j] at p;have:=fH o;omega))
      rw [j] at this
      exact this
     ·cases h
    ·rename_i one J l
     split at h
     ·rename_i o
      cases h
      refine ⟨_,_,_,_,y,trivial, ?_⟩
      intro g m S w cargs C hmono u k n s t
      have z:∀ l:List AV,l.map id=l:=fun l=>List.map_id l
      have j:mg 0 (jT.retS one J l)=(dU nid l).2:=by
       have:=nH yS l 0 nid
       rw [z] at this
       exact this
      have:=uz u (rd:=rd) (fun b B d=>k b (a b B d).1 B (a b B d).2) (fun b B d=>(a b B d).1) (nid:=nid) D s hmono t (fun i p=>n i (by rw [j] at p;have:=fH o;omega))
      rw [j] at this
      simp only [Fe,z] at this
      exact this
     ·cases h
    ·rename_i v
     cases h
     refine ⟨_,_,_,_,y,trivial, ?_⟩
     intro g m S w cargs C hmono u k n s t
     exact uz u (rd:=rd) (fun b B d=>k b (a b B d).1 B (a b B d).2) (fun b B d=>(a b B d).1) (nid:=nid) D s hmono t (fun i p=>by simp [mg] at p)
 ·split at h
  ·cases h
  ·rename_i L A
   obtain ⟨⟨out,x,md⟩,K,y,h⟩:=R.bind_ok h
   dsimp only at h
   split at h
   ·cases h
   ·rename_i hcond
    simp only [Bool.and_eq_true] at hcond
    have E:=fH hcond.1
    let vers:Nat→Nat:=fun b=>match rd b with|some B=>B.ver|none=>0
    have hvers':∀ b B,rd b=some B→vers b=B.ver:=by
     intro b B d;simp only [vers,d]
    let ρ':Nat→Nat→Option (Nat × Nat):=PX nid fp vers x.length
    split at h
    ·cases h
    ·rename_i v
     split at h
     ·rename_i o
      cases h
      refine ⟨_,_,_,_,y,trivial, ?_⟩
      intro g m S w cargs C hmono u k n s t
      have j:mg x.length (jT.ret v)=(lJ (nid+(x.length - fp.length)) (ren ρ' v)).2:=(BN (Ag ρ') v (nid+(x.length - fp.length)) x.length).symm
      have:=Bh u (rd:=rd) (fun b B d=>k b (a b B d).1 B (a b B d).2) A hcond.2 (nid:=nid) hvers' (ρ':=ρ') (fun b v=>rfl) rfl s hmono t E (fun i p=>n i (by rw [j] at p;exact Nat.lt_of_lt_of_le p (fH o)))
      rw [j] at this
      exact this
     ·cases h
    ·rename_i v
     split at h
     ·rename_i o
      cases h
      refine ⟨_,_,_,_,y,trivial, ?_⟩
      intro g m S w cargs C hmono u k n s t
      exact Bh u (rd:=rd) (fun b B d=>k b (a b B d).1 B (a b B d).2) A hcond.2 (nid:=nid) hvers' (ρ':=ρ') (fun b v=>rfl) rfl s hmono t E (fun i p=>n i (by simp only [mg,List.length_nil,Nat.add_zero] at p;exact Nat.lt_of_lt_of_le p (fH o)))
     ·cases h
theorem DY (z:mO P ap H) {a:dF} {nid f:Nat} {args:List AV} {c q:Cx} {r:U4} (h:uy ap H a nid .dead f args c= .ok r q) (t:q.Ok):
  c.Ok∧DF P f∧∀ g m S w cargs,bV ap g m S w→(∀ b ∈ r.fp,∀ B,a b=some B→g b=some B)→(∀ i,i<4→g (nid+i)=none)→aY g m S args cargs→
   Calls P f cargs.toArray w fun e w'=>YT ap g m S w r.out r.ups e w':=by
 obtain ⟨args0,C,o,A,y,_,s⟩:=yA h
 obtain ⟨j,p⟩:=z _ _ _ _ _ _ _ _ y t
 refine ⟨j,p.ent,fun g m S w cargs v n k u=> ?_⟩
 exact s g m S w cargs (fun cargs R=>Calls P f cargs.toArray w R) (fun _ _ _ d l=>d.mono l) v n k u fun x S1 _ d l=>p.calls x S1 w cargs d l
end
end AM
namespace AM
open Go
def um (dec:List (Nat × Bool)) (env:iP):Prop:=∀ t b,aA dec t=some b→env.get t= .bool b
def gW (g:dF) (m:aX) (S:aU):List (Nat × List AV)→List Deferred→Prop
 | [],[]=>True
 |d::r,cd::cr=>(∃ cap,cd.target= .fn (.func d.1) cap∧aY g m S d.2 (cd.args++cap).toList)∧gW g m S r cr
 |_,_=>False
theorem vJ {g g':dF} {m e:aX} {S S':aU} (b:oW S S') (c:Ge g m g' e):∀ {l:List (Nat × List AV)} {ds:List Deferred},gW g m S l ds→gW g' e S' l ds
 | [],[],_=>by simp only [gW]
 |d::r,cd::cr,h=>by
  simp only [gW] at h ⊢
  obtain ⟨⟨a,j,i⟩,f⟩:=h
  exact ⟨⟨a,j,lX b c _ i⟩,vJ b c f⟩
 | [],_::_,h=>by simp [gW] at h
 |_::_,[],h=>by simp [gW] at h
theorem Bd {g:dF} {m:aX} {S:aU}:∀ {l l':List (Nat × List AV)} {ds ds':List Deferred},gW g m S l ds→gW g m S l' ds'→gW g m S (l++l') (ds++ds')
 | [],_,[],_,_,h'=>by simpa using h'
 |d::r,_,cd::cr,_,h,h'=>by
  simp only [gW] at h
  simp only [List.cons_append,gW]
  exact ⟨h.1,Bd h.2 h'⟩
 | [],_,_::_,_,h,_=>by simp [gW] at h
 |_::_,_,[],_,h,_=>by simp [gW] at h
def wpO (P:Program) (ops:Array Oper) (Q:Exit→Act→World→Prop) (o:Oper) (K:Act→World→Prop) (a:Act) (w:World):Prop:=
 if Region.wanted o (yielded ops a.tmps) then o.wp P a w K Q∨(o.asks P a w∧LetsOut Q) else K (a.put o.dst undef) w
def acT (ap:AP) (o:Oper) (g:dF) (m:aX) (S:aU) (w:World) (a:Act) (v:AV) (ups:List (Nat × bi)) (df:List (Nat × List AV)) (Q:Exit→Act→World→Prop) (K:Act→World→Prop):Option AV→Prop
 |none=> ∀ cv m' S' w' ds,bV ap (dL g ups) m' S' w'→Fr g m S w (dL g ups) m' S' w'→VR (dL g ups) m' S' v cv→gW (dL g ups) m' S' df ds→K ({a with defers:=ds++a.defers}.put o.dst cv) w'
 |some pv=> ∀ cv m' S' w',bV ap (dL g ups) m' S' w'→Fr g m S w (dL g ups) m' S' w'→VR (dL g ups) m' S' pv cv→Q (.panic [{v:=cv,recovered:=false}]) a w'
def PV (P:Program) (ap:AP) (ops:Array Oper) (o:Oper) (nid:Nat) (env:iP) (hp:Hp) (rt rb:List Nat) (v:AV) (ups:List (Nat × bi)) (df:List (Nat × List AV)) (p:Option AV):Prop:=
 ∀ g m S w (a:Act),bV ap g m S w→(∀ t ∈ rt,VR g m S (env.get t) (a.tmps.getD t undef))→(∀ b ∈ rb,∀ B,aA hp b=some B→g b=some B)→(∀ i,i<4→g (nid+i)=none)→
  ∀ (Q:Exit→Act→World→Prop) (K:Act→World→Prop),acT ap o g m S w a v ups df Q K p→wpO P ops Q o K a w
structure ahp (P:Program) (ap:AP) (ops:Array Oper) (o:Oper) (nid:Nat) (s s':RS) (p:Option AV) (v:AV) (rt rb:List Nat) (ups:List (Nat × bi)) (df:List (Nat × List AV)):Prop where
 env:p=none→s'.env=qE s.env o.dst v
 envp:p ≠ none→s'.env=s.env∧df= []
 hp:s'.hp=ups++s.hp
 md:s'.md=s.md
 dfs:s'.dfs=df++s.dfs
 dec:p=none→um s'.dec s'.env
 feet:p=none→s'.feet={rt,wt:=I7 o,rb,wb:=ups.map (·.1)}::s.feet
 sem:PV P ap ops o nid s.env s.hp rt rb v ups df p
section
variable {P:Program} {ap:AP} {H:di}
theorem WB (e:Array Value) (t:Nat) {v:Value} (h:e.getD t undef=v) (b:v ≠ undef):e[t]? =some v:=by
 rw [Array.getD_eq_getD_getElem?] at h
 cases a:e[t]? with
 |none=>rw [a] at h;exact absurd h.symm b
 |some u=>rw [a] at h;simpa using h
theorem F9 {ops:Array Oper} {tmps:Array Value} {j s:Nat} (hs:(ops[j]?).bind (·.dst)=some s) {b:Bool} (h:tmps.getD s undef= .bool b):yielded ops tmps j=some b:=by
 unfold yielded
 rw [hs]
 simp only [Option.bind_some]
 rw [WB tmps s h (by simp [undef])]
theorem JX {ops:Array Oper} {tmps:Array Value} {j s:Nat} (hs:(ops[j]?).bind (·.dst)=some s) (h:tmps.getD s undef= .tuple #[]):yielded ops tmps j=none:=by
 unfold yielded
 rw [hs]
 simp only [Option.bind_some]
 rw [Array.getD_eq_getD_getElem?] at h
 cases a:tmps[s]? with
 |none=>rfl
 |some u=>
  rw [a] at h
  simp at h
  rw [h]
theorem xB {g:dF} {m:aX} {S:aU} {w:World} (b:bV ap g m S w) {env:iP} {a:Act} (x:Operand) (h:∀ t,x= .tmp t→VR g m S (env.get t) (a.tmps.getD t undef)):VR g m S (qW ap env x) (a.eval x):=by
 cases x with
 |tmp t=>exact h t rfl
 |const v=>exact gG _ (J8 S v)
 | global k=>
  simp only [qW,Act.eval]
  cases e:(ap.gl[k]?).join with
  |none=>simp only [VR]
  |some xs=>
   obtain ⟨vs,d,c⟩:=b.glob k xs e
   simp only [VR,PR]
   exact ⟨k,0,vs,rfl,d,c⟩
 |func f=>
  simp only [qW,Act.eval,VR]
  exact ⟨[],[],rfl,by simp [aY],by simp [aY]⟩
theorem EU {l:List Operand} {t:Nat} (h:Operand.tmp t ∈ l):t ∈ vC l:=by
 simp only [vC,List.mem_filterMap]
 exact ⟨_,h,rfl⟩
theorem Je {ops:List Oper} {env:iP} {dec e:List (Nat × Bool)} {o:Oper} {c B:Cx} {run:Bool} (h:Ox ops env dec o c= .ok (run,e) B) (p:B.Ok):
  c.Ok∧(um dec env→um e env∧(∀ t b,aA dec t=some b→aA e t=some b)∧∀ g m S (a:Act),(∀ t ∈ je ops o,VR g m S (env.get t) (a.tmps.getD t undef))→Region.wanted o (yielded ops.toArray a.tmps)=run):=by
 unfold Ox at h
 unfold je
 unfold Region.wanted
 split at h
 ·rename_i u
  cases h
  simp only [u]
  exact ⟨p,fun hd=> ⟨hd,fun _ _ h=>h,fun _ _ _ _ _=>trivial⟩⟩
 ·rename_i j i u
  simp only [u]
  split at h
  ·cases h
  ·rename_i s hs
   have k:(ops.toArray[j]?).bind (·.dst)=some s:=by simpa using hs
   split at h
   ·rename_i b l
    cases h
    refine ⟨p,fun hd=> ⟨hd,fun _ _ h=>h,fun g m S a n=> ?_⟩⟩
    have d:=n s (by simp)
    rw [hd s b l] at d
    simp only [VR,PR] at d
    rw [F9 k d]
    cases i<;>cases b<;>rfl
   ·rename_i A
    split at h
    ·rename_i b l
     obtain ⟨C,D,d,z⟩:=R.bind_ok h
     cases z
     obtain ⟨q,rfl⟩:=lu d p
     refine ⟨q,fun hd=> ⟨?_, ?_,fun g m S a n=> ?_⟩⟩
     ·intro t x f
      simp only [aA] at f
      split at f
      ·rename_i y
       cases f
       rw [← aP y,l]
      ·exact hd t x f
     ·intro t x f
      simp only [aA]
      split
      ·rename_i y
       rw [aP y] at A
       rw [A] at f;cases f
      ·exact f
     ·have d:=n s (by simp)
      rw [l] at d
      simp only [VR,PR] at d
      rw [F9 k d]
      cases i<;>cases C<;>rfl
    ·rename_i l
     cases h
     refine ⟨p,fun hd=> ⟨hd,fun _ _ h=>h,fun g m S a n=> ?_⟩⟩
     have d:=n s (by simp)
     rw [l] at d
     simp only [VR] at d
     obtain ⟨vs,d,z⟩:=d
     cases vs with
     |nil=>rw [JX k d];rfl
     |cons v r=>simp [aY] at z
    ·cases h
theorem Ll {env:iP} {o:Oper} {v:AV} {t:Nat} (h:∀ d,o.dst=some d→d ≠ t):(qE env o.dst v).get t=env.get t:=by
 unfold qE
 split
 ·rename_i d hd
  simp only [iP.get,aA]
  split
  ·rename_i a;exact absurd (aP a) (h d hd)
  ·rfl
 ·rfl
theorem yD {dec:List (Nat × Bool)} {env:iP} {o:Oper} {v:AV} (hd:um dec env) (a:VL dec o=true):um dec (qE env o.dst v):=by
 intro t b c
 rw [Ll]
 ·exact hd t b c
 ·rintro d hdd rfl
  unfold VL at a
  rw [hdd] at a
  simp [c] at a
end
end AM
namespace AM
open Go
section
variable {P:Program} {ap:AP} {H:di}
theorem WI {c:Cx} {dst:Option Nat} {v:AV} (h:(Eu c dst v).2.Ok):c.Ok∧aW v (Eu c dst v).1:=by
 obtain ⟨cl,orc,bs,ps,ans,hs⟩:=c
 unfold Eu at h ⊢
 dsimp only at h ⊢
 split at h
 ·rename_i d x r i
  split at h
  ·rename_i b
   have e:aW v x:=h.ps _ (List.mem_cons_self ..)
   refine ⟨⟨h.bs,fun p hp=>h.ps p (List.mem_cons_of_mem _ hp)⟩, ?_⟩
   simp only [b]
   exact e
  ·rename_i b
   refine ⟨h, ?_⟩
   simp only [b]
   exact fun _ _ _ _ a=>a
 ·rename_i f
  exact ⟨h,fun _ _ _ _ a=>a⟩
theorem WH {c:Cx} {dst:Option Nat} (h:(Qw c dst).2.Ok):c.Ok:=by
 obtain ⟨cl,orc,bs,ps,ans,hs⟩:=c
 unfold Qw at h
 dsimp only at h
 split at h
 ·split at h
  ·exact ⟨h.bs,h.ps⟩
  ·exact h
 ·exact h
theorem WG {c:Cx} {dst:Option Nat} {ups:List (Nat × bi)} (h:(Et c dst ups).2.Ok):c.Ok∧(Et c dst ups).1=ups:=by
 obtain ⟨cl,orc,bs,ps,ans,hs⟩:=c
 unfold Et at h ⊢
 dsimp only at h ⊢
 split at h
 ·rename_i d xs r i b B
  split at h
  ·rename_i a
   have e:B.cells=xs:=h.ps _ (List.mem_cons_self ..)
   refine ⟨⟨h.bs,fun p hp=>h.ps p (List.mem_cons_of_mem _ hp)⟩, ?_⟩
   simp only [a,← e]
  ·rename_i a
   refine ⟨h, ?_⟩
   simp only [a]
 ·rename_i f
  exact ⟨h,rfl⟩
theorem BQ {a:Act} {g:Operand} {args:Array Operand} {argTypes:Array TypeId} {ty:TypeId} {f:Nat} {first b:Array Value} (h:a.eval g= .func (.func f) first b) (w:World):
  (resolve a.eval {callee:= .value g,args,argTypes} ty).run P w= .ok {target:= .fn (.func f) b,args:=first++args.map a.eval} w:=by
 simp only [resolve,h,Deferred.ofValue]
 rfl
theorem GV {a:Act} {g:Operand} {args:Array Operand} {argTypes:Array TypeId} {ty:TypeId} {f:Nat} {first b:Array Value} (h:a.eval g= .func (.func f) first b) (c:DF P f) (w:World):
  (do let d ← resolve a.eval {callee:= .value g,args,argTypes} ty;invoke d.target d.args:Sem Next).run P w= .ok (.enter f ((first++args.map a.eval)++b)) w:=by
 rw [Sem.run_bind,BQ h,Result.andThen_ok]
 exact c _ _
theorem Ko {g:dF} {m:aX} {S:aU} {ρ:Operand→AV} {cρ:Operand→Value} {args:Array Operand} (h:∀ o ∈ args,VR g m S (ρ o) (cρ o)):aY g m S (args.toList.map ρ) (args.map cρ).toList:=by
 rw [Array.toList_map]
 exact vM _ fun o a=>h o (by simpa using a)
theorem Ic:∀ {l:Hp} {b:Nat} {B:bi},aA l b=some B→(b,B) ∈ l
 | [],_,_,h=>by cases h
 | (k,X)::r,b,B,h=>by
  simp only [aA] at h
  split at h
  ·rename_i a
   cases h
   have:=aP a
   subst this
   exact List.mem_cons_self ..
  ·exact List.mem_cons_of_mem _ (Ic h)
theorem ER {α β:Type} {f g:α→β}:∀ {l:List α},l.map f=l.map g→∀ {x:α},x ∈ l→f x=g x
 | [],_,_,h=>by cases h
 |a::r,h,x,hx=>by
  simp only [List.map_cons,List.cons.injEq] at h
  rcases List.mem_cons.1 hx with rfl|hx
  ·exact h.1
  ·exact ER h.2 hx
theorem xQ (hap:iJ P ap) (hH:mO P ap H) {nid:Nat} {ops:List Oper} {o:Oper} {s s':RS} {p:Option AV} {c c':Cx} (h:RN ap H nid ops o s c= .ok (s',p) c') (T:c'.Ok):
  c.Ok∧(s.md= .dead→um s.dec s.env→∃ v rb ups df,ahp P ap ops.toArray o nid s s' p v (vC o.op.operands.toList++je ops o) rb ups df):=by
 unfold RN at h
 obtain ⟨⟨run,dec⟩,c1,e1,h⟩:=R.bind_ok h
 dsimp only at h
 split at h
 ·cases h
 rename_i E
 have hguard:∀ c1ok:c1.Ok,c.Ok∧(um s.dec s.env→um dec s.env∧(∀ t b,aA s.dec t=some b→aA dec t=some b)∧∀ g m S (a:Act),(∀ t ∈ je ops o,VR g m S (s.env.get t) (a.tmps.getD t undef))→Region.wanted o (yielded ops.toArray a.tmps)=run):=fun hk=>Je e1 hk
 have N:∀ {g:dF} {m:aX} {S:aU} {w:World} {a:Act},bV ap g m S w→(∀ t ∈ vC o.op.operands.toList++je ops o,VR g m S (s.env.get t) (a.tmps.getD t undef))→∀ x ∈ o.op.operands,VR g m S (qW ap s.env x) (a.eval x):=by
  intro g m S w a j i x Y
  refine xB j x fun t ht=>i t ?_
  subst ht
  exact List.mem_append.2 (.inl (EU (by simpa using Y)))
 split at h
 ·
  cases h
  obtain ⟨z,X⟩:=hguard T
  refine ⟨z,fun O d=> ?_⟩
  obtain ⟨hd,_,hw⟩:=X d
  refine ⟨.tup [],[],[],[],⟨fun _=>rfl,fun h=>absurd rfl h,rfl,rfl,rfl,fun _=>yD hd E,fun _=>rfl, ?_⟩⟩
  intro g m S w a j i _ _ Q K L
  unfold wpO
  rw [hw g m S a fun t ht=>i t (List.mem_append.2 (.inr ht))]
  simp only [Bool.false_eq_true,if_false]
  have:=L undef m S w [] (by rw [fF];exact j) (by rw [fF];exact Fr.refl _ _ _ _) (by simp only [VR];exact ⟨[],rfl,by simp [aY]⟩) (by simp [gW])
  exact this
 ·
  have hwant:∀ (Q:Exit→Act→World→Prop) (K:Act→World→Prop) (g:dF) (m:aX) (S:aU) (a:Act) (w:World),c1.Ok→um s.dec s.env→(∀ t ∈ vC o.op.operands.toList++je ops o,VR g m S (s.env.get t) (a.tmps.getD t undef))→o.wp P a w K Q→wpO P ops.toArray Q o K a w:=by
   intro Q K g m S a w hk d i hh
   obtain ⟨_,_,hw⟩:=(hguard hk).2 d
   unfold wpO
   rw [hw g m S a fun t ht=>i t (List.mem_append.2 (.inr ht))]
   simp only [if_true]
   exact .inl hh
  split at h
  ·
   rename_i gf args argTypes k
   split at h
   ·rename_i f first cap hf
    obtain ⟨r,c2,e2,h⟩:=R.bind_ok h
    have W:c2.Ok:=by
     revert h
     cases hu:Qw c2 o.dst with
     | mk u c3=>
      have D:c3.Ok→c2.Ok:=fun hk=>WH (by rw [hu];exact hk)
      cases u with
      | true=>
       dsimp only
       cases r.out with
       |retS _ _ _=>intro h;cases h
       |ret v=>
        dsimp only
        split
        ·intro h;cases h;exact D ⟨T.bs,fun p hp=>T.ps p (List.mem_cons_of_mem _ hp)⟩
        ·intro h;cases h
       |pan v=>intro h;cases h
      |false=>dsimp only;cases r.out<;>intro h<;>cases h<;>exact D T
    obtain ⟨J,hE,hcall⟩:=DY hH e2 W
    obtain ⟨z,X⟩:=hguard J
    refine ⟨z,fun O d=> ?_⟩
    obtain ⟨hd,_,_⟩:=X d
    have hargs:∀ {g:dF} {m:aX} {S:aU} {w:World} {a:Act},bV ap g m S w→(∀ t ∈ vC o.op.operands.toList++je ops o,VR g m S (s.env.get t) (a.tmps.getD t undef))→
      ∃ vf I:List Value,a.eval gf= .func (.func f) vf.toArray I.toArray∧aY g m S (first++args.toList.map (qW ap s.env)++cap) ((vf++(args.map a.eval).toList)++I):=by
     intro g m S w a j i
     have y:=N j i
     rw [k] at y
     have C:=y gf (by simp [Op.operands,Call.operands])
     rw [hf] at C
     simp only [VR] at C
     obtain ⟨vf,I,D,M,G⟩:=C
     exact ⟨vf,I,D,fQ (fQ M (Ko fun x Y=>y x (by simp [Op.operands,Call.operands,Y]))) G⟩
    have U:∀ {a:Act} {vf I:List Value} (w:World),a.eval gf= .func (.func f) vf.toArray I.toArray→(execOp a.eval o).run P w= .ok (.enter f (((vf++(args.map a.eval).toList)++I).toArray)) w:=by
     intro a vf I w he
     have:=GV (args:=args) (argTypes:=argTypes) (ty:=o.type) he hE w
     unfold execOp
     rw [k]
     dsimp only
     rw [this]
     congr 2
     apply Array.toList_inj.1
     simp
    split at h
    ·rename_i c3 hu
     split at h
     ·cases h
     ·rename_i v F
      split at h
      ·rename_i hall
       cases h
       have heq:r.ups.map (fun (q:Nat × bi)=>some q.2)=r.ups.map (fun (q:Nat × bi)=>aA s.hp q.1):=T.ps _ (List.mem_cons_self ..)
       refine ⟨v,r.fp,[],[],⟨fun _=>rfl,fun h=>absurd rfl h,rfl,rfl,rfl,fun _=>yD hd E,fun _=>rfl, ?_⟩⟩
       intro g m S w a j i l A Q K L
       have hg':dL g r.ups=g:=by
        funext b
        unfold dL
        cases hl:aA r.ups b with
        |none=>rfl
        |some B=>
         have hm:=Ic hl
         have y:=ER heq hm
         exact (l b (jB.1 (List.all_eq_true.1 hall _ hm)) B y.symm).symm
       refine hwant Q K g m S a w J d i ?_
       obtain ⟨vf,I,y,C⟩:=hargs j i
       unfold Oper.wp
       rw [U w y]
       refine (hcall g m S w _ j l A C).mono ?_
       rintro e w' ⟨m',S',D,M,G⟩
       rw [F] at G
       obtain ⟨cv,rfl,h6⟩:=G
       rw [hg'] at D M h6
       exact L cv m' S' w' [] D M h6 (by simp [gW])
      ·cases h
     ·cases h
    ·rename_i c3 hu
     split at h
     ·cases h
     ·rename_i v F
      cases h
      refine ⟨v,r.fp,r.ups,[],⟨fun _=>rfl,fun h=>absurd rfl h,rfl,rfl,rfl,fun _=>yD hd E,fun _=>rfl, ?_⟩⟩
      intro g m S w a j i l A Q K L
      refine hwant Q K g m S a w J d i ?_
      obtain ⟨vf,I,y,C⟩:=hargs j i
      unfold Oper.wp
      rw [U w y]
      refine (hcall g m S w _ j l A C).mono ?_
      rintro e w' ⟨m',S',D,M,G⟩
      rw [F] at G
      obtain ⟨cv,rfl,h6⟩:=G
      exact L cv m' S' w' [] D M h6 (by simp [gW])
     ·rename_i v F
      cases h
      refine ⟨v,r.fp,r.ups,[],⟨fun h=>(by cases h),fun _=> ⟨rfl,rfl⟩,rfl,rfl,rfl,fun h=>(by cases h),fun h=>(by cases h), ?_⟩⟩
      intro g m S w a j i l A Q K L
      refine hwant Q K g m S a w J d i ?_
      obtain ⟨vf,I,y,C⟩:=hargs j i
      unfold Oper.wp
      rw [U w y]
      refine (hcall g m S w _ j l A C).mono ?_
      rintro e w' ⟨m',S',D,M,G⟩
      rw [F] at G
      obtain ⟨cv,rfl,h6⟩:=G
      exact L cv m' S' w' D M h6
   ·cases h
  ·
   split at h
   ·cases h
    exact ⟨(hguard T).1,fun O=>by simp_all⟩
   ·cases h
    exact ⟨(hguard T).1,fun O=>by simp_all⟩
   ·cases h
  ·
   rename_i gf args argTypes k
   split at h
   ·rename_i f first cap hf
    cases h
    obtain ⟨z,X⟩:=hguard T
    refine ⟨z,fun O d=> ?_⟩
    obtain ⟨hd,_,_⟩:=X d
    refine ⟨.dead,[],[],[(f,first++args.toList.map (qW ap s.env)++cap)],⟨fun _=>rfl,fun h=>absurd rfl h,rfl,rfl,rfl,fun _=>yD hd E,fun _=>rfl, ?_⟩⟩
    intro g m S w a j i l A Q K L
    refine hwant Q K g m S a w T d i ?_
    have y:=N j i
    rw [k] at y
    have C:=y gf (by simp [Op.operands,Call.operands])
    rw [hf] at C
    simp only [VR] at C
    obtain ⟨vf,I,D,M,G⟩:=C
    unfold Oper.wp
    have hr:(execOp a.eval o).run P w= .ok (.defer {target:= .fn (.func f) I.toArray,args:=vf.toArray++args.map a.eval}) w:=by
     unfold execOp
     rw [k]
     dsimp only
     rw [Sem.run_bind,BQ D,Result.andThen_ok]
     rfl
    rw [hr]
    refine L undef m S w [{target:= .fn (.func f) I.toArray,args:=vf.toArray++args.map a.eval}] (by rw [fF];exact j) (by rw [fF];exact Fr.refl _ _ _ _) (by simp only [VR]) ?_
    simp only [gW,fF,and_true]
    refine ⟨I.toArray,rfl, ?_⟩
    have:=fQ (fQ M (Ko (args:=args) fun x Y=>y x (by simp [Op.operands,Call.operands,Y]))) G
    simpa using this
   ·cases h
  ·
   rename_i x k
   split at h
   ·rename_i t v Y
    cases h
    obtain ⟨z,X⟩:=hguard T
    refine ⟨z,fun O d=> ?_⟩
    obtain ⟨hd,_,_⟩:=X d
    refine ⟨.dead,[],[],[],⟨fun h=>(by cases h),fun _=> ⟨rfl,rfl⟩,rfl,rfl,rfl,fun h=>(by cases h),fun h=>(by cases h), ?_⟩⟩
    intro g m S w a j i l A Q K L
    refine hwant Q K g m S a w T d i ?_
    have y:=N j i
    rw [k] at y
    have C:=y x (by simp [Op.operands])
    rw [Y] at C
    have h2':=C
    simp only [VR] at h2'
    obtain ⟨u,D,M⟩:=h2'
    unfold Oper.wp
    have hr:(execOp a.eval o).run P w= .halt (.panic (a.eval x)) w:=by
     unfold execOp
     rw [k]
     dsimp only
     rw [D]
     rfl
    rw [hr]
    exact L _ m S w (by rw [fF];exact j) (by rw [fF];exact Fr.refl _ _ _ _) (by rw [fF];exact C)
   ·cases h
  ·
   rename_i op n1 n2 n3 n4
   obtain ⟨em,c2,e2,h⟩:=R.bind_ok h
   split at h
   ·cases h
   ·rename_i v ups bs k
    obtain ⟨_,c3,e3,h⟩:=R.bind_ok h
    have hv1:(Eu c3 o.dst v).2.Ok→c3.Ok∧aW v (Eu c3 o.dst v).1:=WI
    generalize Eu c3 o.dst v=q1 at h hv1
    obtain ⟨v1,c4⟩:=q1
    dsimp only at h hv1
    have hv2:(Et c4 o.dst ups).2.Ok→c4.Ok∧(Et c4 o.dst ups).1=ups:=WG
    generalize Et c4 o.dst ups=q2 at h hv2
    obtain ⟨ups1,c5⟩:=q2
    dsimp only at h hv2
    cases h
    obtain ⟨hc4,hups⟩:=hv2 T
    subst hups
    obtain ⟨hc3,Z⟩:=hv1 hc4
    obtain ⟨W,hbs⟩:=C_ e3 hc3
    have hem:c1.Ok∧∀ n,yK (qW ap s.env) o.op=some n→Nat.beq n 0=em:=by
     split at e2
     ·rename_i n hn
      obtain ⟨hk,rfl⟩:=lu e2 W
      exact ⟨hk,fun n' V=>by rw [hn] at V;cases V;rfl⟩
     ·rename_i hn
      cases e2
      exact ⟨W,fun n' V=>by rw [hn] at V;cases V⟩
    obtain ⟨J,hem⟩:=hem
    obtain ⟨z,X⟩:=hguard J
    refine ⟨z,fun O d=> ?_⟩
    obtain ⟨hd,_,_⟩:=X d
    refine ⟨v1,XP (qW ap s.env) o.op,ups1,[],⟨fun _=>rfl,fun h=>absurd rfl h,rfl,rfl,rfl,fun _=>yD hd E,fun _=>rfl, ?_⟩⟩
    intro g m S w a j i l A Q K L
    refine hwant Q K g m S a w J d i ?_
    have y:=N j i
    have hok:=Ui hap j (nid:=nid) (A 0 (by omega)) (ρ:=qW ap s.env) (cρ:=a.eval) (fun b B hb=>by
      split at hb
      ·rename_i hm;exact l b (jB.1 hm) B hb
      ·cases hb) o y (dec:=fun| .tmp t=>aA dec t|_=>none) (fun x Y b hb=>by
      split at hb
      ·rename_i t
       have:=i t (List.mem_append.2 (.inl (EU (by simpa using Y))))
       rw [hd t b hb] at this
       simp only [VR,PR] at this
       exact this
      ·cases hb) hem k hbs
    obtain ⟨nx,m',w',C,D,M,G⟩:=hok
    unfold Oper.wp
    rw [C]
    rcases G with ⟨cv,rfl,G⟩|⟨rfl,rfl⟩
    ·exact L cv m' S w' [] D M (Z _ _ _ _ G) (by simp [gW])
    ·exact L undef m' S w' [] D M (Z _ _ _ _ (by simp only [VR])) (by simp [gW])
end
end AM
namespace AM
open Go
theorem v_:∀ {hp:Hp} {b:Nat} {B:bi},aA hp b=some B→b<kM hp
 | [],b,B,h=>by simp [aA] at h
 | (c,C)::r,b,B,h=>by
  simp only [aA] at h
  simp only [kM]
  split at h
  ·rename_i d
   have d:=aP d
   subst d
   split
   ·rename_i a;exact f_ a
   ·omega
  ·have e:=v_ h
   split
   ·exact e
   ·rename_i a
    have:¬ c<kM r:=fun f=>by
     have:Nat.blt c (kM r)=true:=by
      show Nat.ble (c+1) (kM r)=true
      exact Nat.ble_eq_true_of_le f
     rw [this] at a;cases a
    omega
theorem EN:∀ {l:Hp} {b:Nat} {B:bi},aA l b=some B→b ∈ l.map (·.1)
 | [],b,B,h=>by simp [aA] at h
 |(c,C)::r,b,B,h=>by
  simp only [aA] at h
  split at h
  ·rename_i a;simp [aP a]
  ·simp [EN h]
structure FR (ap:AP) (env:iP) (hp:Hp) (dfs:List (Nat × List AV)) (nt:Nat) (m:aX) (S:aU) (w:World) (a:Act):Prop where
 srel:bV ap (aA hp) m S w
 env:∀ t,VR (aA hp) m S (env.get t) (a.tmps.getD t undef)
 dfs:gW (aA hp) m S dfs a.defers
 size:a.tmps.size=nt
theorem Mc (a:Act) (d:Option Nat) (v:Value):(a.put d v).tmps.size=a.tmps.size:=by
 cases d<;>simp [Act.put]
theorem Fp (a:Act) (d:Option Nat) (v:Value):(a.put d v).defers=a.defers:=by
 cases d<;>simp [Act.put]
theorem Fv (a:Act) (d:Option Nat) (v:Value) {t:Nat} (h:d ≠ some t):(a.put d v).tmps.getD t undef=a.tmps.getD t undef:=by
 cases d with
 |none=>rfl
 |some d=>
  have b:d ≠ t:=fun e=>h (by rw [e])
  simp only [Act.put,Array.getD_eq_getD_getElem?]
  rw [Array.getElem?_setIfInBounds_ne b]
theorem Fq (a:Act) (d:Nat) (v:Value) (h:d<a.tmps.size):(a.put (some d) v).tmps.getD d undef=v:=by
 simp only [Act.put,Array.getD_eq_getD_getElem?]
 rw [Array.getElem?_setIfInBounds_self_of_lt h];rfl
theorem l_ {env:iP} {d:Nat} {v:AV}:(qE env (some d) v).get d=v:=by simp [qE,iP.get,aA]
theorem yN {env:iP} {dst:Option Nat} {v:AV} {t:Nat} (h:dst ≠ some t):(qE env dst v).get t=env.get t:=by
 cases dst with
 |none=>rfl
 | some d=>
  have a:Nat.beq d t=false:=by
   cases b:Nat.beq d t with
   |false=>rfl
   |true=>exact absurd (by rw [aP b]) h
  simp [qE,iP.get,aA,a]
section
variable {P:Program} {ap:AP} {H:di}
theorem FR.put {env:iP} {hp ups:Hp} {dfs c:List (Nat × List AV)} {nt:Nat} {m b:aX} {S S':aU} {w w':World} {a:Act} (h:FR ap env hp dfs nt m S w a) {dst:Option Nat} (hd:∀ d,dst=some d→d<nt) {v:AV} {cv:Value} {e:List Deferred}
  (h1:bV ap (dL (aA hp) ups) b S' w') (h2:Fr (aA hp) m S w (dL (aA hp) ups) b S' w') (h3:VR (dL (aA hp) ups) b S' v cv) (h4:gW (dL (aA hp) ups) b S' c e):
  FR ap (qE env dst v) (ups++hp) (c++dfs) nt b S' w' ({a with defers:=e++a.defers}.put dst cv):=by
 rw [kw] at h1 h2 h3 h4
 refine ⟨h1, ?_, ?_, ?_⟩
 ·intro t
  by_cases ht:dst=some t
  ·subst ht
   rw [l_,Fq _ _ _ (by have:=hd t rfl;have:=h.size;simpa [this] using hd t rfl)]
   exact h3
  ·rw [yN ht,Fv _ _ _ ht]
   exact pR h2.sle h2.ge _ (h.env t)
 ·rw [Fp]
  exact Bd h4 (vJ h2.sle h2.ge h.dfs)
 ·rw [Mc];exact h.size
theorem FR.still {env:iP} {hp ups:Hp} {dfs:List (Nat × List AV)} {nt:Nat} {m b:aX} {S S':aU} {w w':World} {a:Act} (h:FR ap env hp dfs nt m S w a)
  (h1:bV ap (dL (aA hp) ups) b S' w') (h2:Fr (aA hp) m S w (dL (aA hp) ups) b S' w'):FR ap env (ups++hp) dfs nt b S' w' a:=by
 rw [kw] at h1 h2
 exact ⟨h1,fun t=>pR h2.sle h2.ge _ (h.env t),vJ h2.sle h2.ge h.dfs,h.size⟩
def yg (ap:AP) (hp0:Hp) (m:aX) (S:aU) (w:World) (nt:Nat) (env:iP) (hp:Hp) (dfs:List (Nat × List AV)) (Q:Exit→Act→World→Prop):Option AV→Prop
 |none=> ∀ m' S' w' a',Fr (aA hp0) m S w (aA hp) m' S' w'→FR ap env hp dfs nt m' S' w' a'→Q .normal a' w'
 |some v=> ∀ m' S' w' a' cv,Fr (aA hp0) m S w (aA hp) m' S' w'→FR ap env hp dfs nt m' S' w' a'→VR (aA hp) m' S' v cv→Q (.panic [{v:=cv,recovered:=false}]) a' w'
theorem ug {ops:Array Oper} {Q:Exit→Act→World→Prop} {i:Nat} {o:Oper} (b:ops[i]? =some o) (rest:List Nat) (a:Act) (w:World):wpOps P ops Q (i::rest) a w↔wpO P ops Q o (wpOps P ops Q rest) a w:=by
 simp only [wpOps,b,wpO]
theorem OD {hp ups:Hp} {nid:Nat} (f:∀ b B,aA hp b=some B→b<nid) (d:(ups.map (·.1)).all (fun x=>Nat.blt x (nid+4))=true):∀ b B,aA (ups++hp) b=some B→b<nid+4:=by
 intro b B a
 rw [iC] at a
 split at a
 ·rename_i x e
  have c:b ∈ ups.map (·.1):=EN e
  exact f_ (List.all_eq_true.1 d b c)
 ·have:=f b B a;omega
theorem nU (D:iJ P ap) (Y:mO P ap H) {ops:List Oper} {nt:Nat} (J:∀ o ∈ ops,∀ d,o.dst=some d→d<nt):∀ (l:List Oper) (i nid:Nat) (s s':RS) (p:Option AV) (c c':Cx),xR ap H ops l nid s c= .ok (s',p) c'→c'.Ok→
  c.Ok∧(s.md= .dead→um s.dec s.env→l=ops.drop i→(∀ b B,aA s.hp b=some B→b<nid)→
  s'.md= .dead∧∀ m S w a,FR ap s.env s.hp s.dfs nt m S w a→∀ Q,yg ap s.hp m S w nt s'.env s'.hp s'.dfs Q p→wpOps P ops.toArray Q (List.range' i l.length) a w)
 | [],i,nid,s,s',p,c,c',h,hc=>by
  cases h
  exact ⟨hc,fun e _ _ _=> ⟨e,fun m S w a y Q u=>u m S w a (Fr.refl _ _ _ _) y⟩⟩
 | o ::r,i,nid,s,s',p,c,c',h,hc=>by
  simp only [xR] at h
  obtain ⟨⟨s1,p1⟩,c1,e1,h⟩:=R.bind_ok h
  dsimp only at h
  have hfresh:(∀ b B,aA s.hp b=some B→b<nid)→∀ j,j<4→aA s.hp (nid+j)=none:=by
   intro I j _
   cases hb:aA s.hp (nid+j) with
   |none=>rfl
   |some B=>have:=I _ _ hb;omega
  have z:o::r=ops.drop i→ops[i]? =some o∧ops.toArray[i]? =some o∧r=ops.drop (i+1)∧∀ d,o.dst=some d→d<nt:=by
   intro G
   have n:ops[i]? =some o:=by
    have:(ops.drop i)[0]? =some o:=by rw [← G];rfl
    simpa using this
   have N:r=ops.drop (i+1):=by
    have:r=(ops.drop i).drop 1:=by rw [← G];rfl
    rw [this,List.drop_drop]
   exact ⟨n,by simpa using n,N,J o (List.mem_of_getElem? n)⟩
  cases p1 with
  |some v=>
   cases h
   obtain ⟨A,E⟩:=xQ D Y e1 hc
   refine ⟨A,fun e f G I=> ?_⟩
   obtain ⟨n,k,N,hd⟩:=z G
   obtain ⟨v1,rb,ups,df,hs⟩:=E e f
   refine ⟨by rw [hs.md,e],fun m S w a y Q u=> ?_⟩
   rw [List.length_cons,List.range'_succ,ug k]
   refine hs.sem (aA s.hp) m S w a y.srel (fun t _=>y.env t) (fun b _ B hB=>hB) (hfresh I) Q _ ?_
   intro cv m' S' w' h1 x O
   have T:=y.still h1 x
   rw [kw] at x O
   obtain ⟨q,rfl⟩:=hs.envp (by simp)
   have u:=u m' S' w' a cv
   rw [hs.hp,hs.dfs,q] at u
   exact u x T O
  | none=>
   dsimp only at h
   cases C:s1.feet with
   |nil=>rw [C] at h;cases h
   | cons ft fr=>
    rw [C] at h
    dsimp only at h
    split at h
    ·rename_i L
     obtain ⟨hc1,W⟩:=nU D Y J r (i+1) (nid+4) s1 s' p c1 c' h hc
     obtain ⟨A,E⟩:=xQ D Y e1 hc1
     refine ⟨A,fun e f G I=> ?_⟩
     obtain ⟨n,k,N,hd⟩:=z G
     obtain ⟨v1,rb,ups,df,hs⟩:=E e f
     have F:=hs.feet rfl
     rw [C] at F
     simp only [List.cons.injEq] at F
     rw [F.1] at L
     obtain ⟨K,W⟩:=W (by rw [hs.md,e]) (hs.dec rfl) N (by rw [hs.hp];exact OD I L)
     refine ⟨K,fun m S w a y Q u=> ?_⟩
     rw [List.length_cons,List.range'_succ,ug k]
     refine hs.sem (aA s.hp) m S w a y.srel (fun t _=>y.env t) (fun b _ B hB=>hB) (hfresh I) Q _ ?_
     intro cv m' S' w' ds h1 x O h4
     have M:=y.put hd h1 x O h4
     rw [kw] at x
     have q:=hs.env rfl
     rw [← q,← hs.hp,← hs.dfs] at M
     refine W m' S' w' _ M Q ?_
     rw [← hs.hp] at x
     cases p with
     |none=>exact fun X S2 U a2 Z V=>u X S2 U a2 (x.trans Z) V
     |some v=>exact fun X S2 U a2 cv2 Z V h7=>u X S2 U a2 cv2 (x.trans Z) V h7
    ·cases h
end
end AM
namespace AM
open Go
structure ul where
 dst:Option Nat
 v:AV
 rt:List Nat
 rb:List Nat
 ups:List (Nat × bi)
def Qm (d:Option Nat):List Nat:=match d with|some d=> [d]|none=> []
def ul.foot (r:ul):DI:={rt:=r.rt,wt:=Qm r.dst,rb:=r.rb,wb:=r.ups.map (·.1)}
def qV (D:Nat→Bool):Nat→iP→List ul→iP
 |_,e,[]=>e
 |j,e,r::rs=>qV D (j+1) (match D j with|true=>qE e r.dst r.v|false=>e) rs
def yQ (D:Nat→Bool):Nat→Hp→List ul→Hp
 |_,h,[]=>h
 |j,h,r::rs=>yQ D (j+1) (match D j with|true=>r.ups++h|false=>h) rs
theorem uF {D D':Nat→Bool} {t:Nat}:∀ (rs:List ul) (j:Nat) (e e':iP),e.get t=e'.get t→(∀ k r,rs[k]? =some r→r.dst=some t→D (j+k)=D' (j+k))→(qV D j e rs).get t=(qV D' j e' rs).get t
 | [],_,_,_,he,_=>he
 | r::rs,j,e,e',he,h=>by
  simp only [qV]
  refine uF rs (j+1) _ _ ?_ fun k b c hd=> ?_
  ·by_cases hd:r.dst=some t
   ·have a:=h 0 r rfl hd
    rw [Nat.add_zero] at a
    rw [a]
    cases D' j with
    |true=>simp only [hd,l_]
    |false=>exact he
   ·cases D j<;>cases D' j<;>simp only [yN hd,he]
  ·have:=h (k+1) b (by simpa using c) hd
   rwa [show j+(k+1)=j+1+k by omega] at this
theorem Jn:∀ {l:Hp} {b:Nat},b ∉ l.map (·.1)→aA l b=none:=by
 intro l b h
 cases a:aA l b with
 |none=>rfl
 |some B=>exact absurd (EN a) h
theorem yZ {ups hp:Hp} {b:Nat} (h:b ∉ ups.map (·.1)):aA (ups++hp) b=aA hp b:=by
 rw [iC,Jn h]
theorem BD:∀ {l:Hp} {b:Nat},b ∈ l.map (·.1)→∃ B,aA l b=some B
 | [],b,h=>by simp at h
 | (c,C)::r,b,h=>by
  simp only [aA]
  cases a:Nat.beq c b with
  |true=>exact ⟨C,rfl⟩
  |false=>
   simp only [List.map_cons,List.mem_cons] at h
   rcases h with h|h
   ·subst h;simp at a
   ·exact BD h
theorem yY {ups hp a:Hp} {b:Nat} (h:b ∈ ups.map (·.1)):aA (ups++hp) b=aA (ups++a) b:=by
 obtain ⟨B,c⟩:=BD h
 rw [iC,iC,c]
theorem rq {D D':Nat→Bool} {b:Nat}:∀ (rs:List ul) (j:Nat) (h h':Hp),aA h b=aA h' b→(∀ k r,rs[k]? =some r→b ∈ r.ups.map (·.1)→D (j+k)=D' (j+k))→aA (yQ D j h rs) b=aA (yQ D' j h' rs) b
 | [],_,_,_,he,_=>he
 | r::rs,j,e,e',he,h=>by
  simp only [yQ]
  refine rq rs (j+1) _ _ ?_ fun k c d hd=> ?_
  ·by_cases hd:b ∈ r.ups.map (·.1)
   ·have a:=h 0 r rfl hd
    rw [Nat.add_zero] at a
    rw [a]
    cases D' j with
    |true=>exact yY hd
    |false=>exact he
   ·cases D j<;>cases D' j<;>simp only [yZ hd,he]
  ·have:=h (k+1) c (by simpa using d) hd
   rwa [show j+(k+1)=j+1+k by omega] at this
theorem Aa:∀ (a:List ul) (j:Nat) (e:iP) {D:Nat→Bool},(∀ k,k<a.length→D (j+k)=false)→qV D j e a=e
 | [],_,_,_,_=>rfl
 |r::a,j,e,D,h=>by
  have b:=h 0 (by simp)
  rw [Nat.add_zero] at b
  simp only [qV,b]
  exact Aa a (j+1) e fun k c=>by have:=h (k+1) (by simpa using c);rwa [show j+(k+1)=j+1+k by omega] at this
theorem uO:∀ (a:List ul) (j:Nat) (e:Hp) {D:Nat→Bool},(∀ k,k<a.length→D (j+k)=false)→yQ D j e a=e
 | [],_,_,_,_=>rfl
 |r::a,j,e,D,h=>by
  have b:=h 0 (by simp)
  rw [Nat.add_zero] at b
  simp only [yQ,b]
  exact uO a (j+1) e fun k c=>by have:=h (k+1) (by simpa using c);rwa [show j+(k+1)=j+1+k by omega] at this
def Ac (e:iP) (rs:List ul):iP:=qV (fun _=>true) 0 e rs
def Oz (h:Hp) (rs:List ul):Hp:=yQ (fun _=>true) 0 h rs
theorem xy (D:Nat→Bool):∀ (rs:List ul) (j d:Nat) (e:iP),qV D (j+d) e rs=qV (fun k=>D (k+d)) j e rs
 | [],_,_,_=>rfl
 |r::rs,j,d,e=>by
  simp only [qV]
  rw [show j+d+1=j+1+d by omega]
  exact xy D rs (j+1) d _
theorem Ae (D:Nat→Bool):∀ (rs:List ul) (j d:Nat) (e:Hp),yQ D (j+d) e rs=yQ (fun k=>D (k+d)) j e rs
 | [],_,_,_=>rfl
 |r::rs,j,d,e=>by
  simp only [yQ]
  rw [show j+d+1=j+1+d by omega]
  exact Ae D rs (j+1) d _
theorem vT (e:iP) (r:ul) (a:List ul):Ac e (r::a)=Ac (qE e r.dst r.v) a:=by
 simp only [Ac,qV]
 exact xy (fun _=>true) a 0 1 _
theorem yR (h:Hp) (r:ul) (a:List ul):Oz h (r::a)=Oz (r.ups++h) a:=by
 simp only [Oz,yQ]
 exact Ae (fun _=>true) a 0 1 _
theorem I9:∀ (a:List ul) (k:Nat) (e:iP),qV (fun j=>decide (j<k)) 0 e a=Ac e (a.take k)
 |a,0,e=>by
  simp only [List.take_zero]
  exact Aa a 0 e fun _ _=>by simp
 | [],k+1,e=>rfl
 |r::a,k+1,e=>by
  simp only [List.take_succ_cons,vT,qV]
  rw [show decide (0<k+1)=true by simp]
  dsimp only
  rw [← I9 a k]
  have:=xy (fun j=>decide (j<k+1)) a 0 1 (qE e r.dst r.v)
  rw [this]
  congr 1
  funext j
  simp
theorem Oy:∀ (a:List ul) (k:Nat) (e:Hp),yQ (fun j=>decide (j<k)) 0 e a=Oz e (a.take k)
 |a,0,e=>by
  simp only [List.take_zero]
  exact uO a 0 e fun _ _=>by simp
 | [],k+1,e=>rfl
 |r::a,k+1,e=>by
  simp only [List.take_succ_cons,yR,yQ]
  rw [show decide (0<k+1)=true by simp]
  dsimp only
  rw [← Oy a k]
  have:=Ae (fun j=>decide (j<k+1)) a 0 1 (r.ups++e)
  rw [this]
  congr 1
  funext j
  simp
theorem Tz (e:iP):∀ (b:List ul) (k:Nat) (r:ul),b[k]? =some r→Ac e (b.take (k+1))=qE (Ac e (b.take k)) r.dst r.v:=by
 intro b
 induction b generalizing e with
 |nil=>intro k r h;simp at h
 | cons a b ih=>
  intro k r h
  cases k with
  |zero=>simp at h;subst h;rfl
  |succ k=>
   simp only [List.take_succ_cons,vT]
   exact ih _ k r (by simpa using h)
theorem WJ (e:Hp):∀ (b:List ul) (k:Nat) (r:ul),b[k]? =some r→Oz e (b.take (k+1))=r.ups++Oz e (b.take k):=by
 intro b
 induction b generalizing e with
 |nil=>intro k r h;simp at h
 | cons a b ih=>
  intro k r h
  cases k with
  |zero=>simp at h;subst h;rfl
  |succ k=>
   simp only [List.take_succ_cons,yR]
   exact ih _ k r (by simpa using h)
section
variable {P:Program} {ap:AP} {H:di}
structure U_ (P:Program) (ap:AP) (ops:List Oper) (i nid:Nat) (s s':RS) (recs:List ul):Prop where
 env:s'.env=Ac s.env recs
 hp:s'.hp=Oz s.hp recs
 feet:s'.feet=(recs.map ul.foot).reverse++s.feet
 dle:s.dfs.length≤s'.dfs.length
 bound:∀ (k:Nat) (r:ul),recs[k]? =some r→∀ b ∈ r.ups.map (·.1),b<nid+4*k+4
 sem:s'.dfs.length=s.dfs.length→s'.dfs=s.dfs∧∀ (k:Nat) (r:ul),recs[k]? =some r→∃ o,ops[i+k]? =some o∧r.dst=o.dst∧PV P ap ops.toArray o (nid+4*k) (Ac s.env (recs.take k)) (Oz s.hp (recs.take k)) r.rt r.rb r.v r.ups [] none
theorem adH (u:iJ P ap) (M:mO P ap H) {ops:List Oper}:∀ (l:List Oper) (i nid:Nat) (s s':RS) (c c':Cx),xR ap H ops l nid s c= .ok (s',none) c'→c'.Ok→
  c.Ok∧(s.md= .dead→um s.dec s.env→l=ops.drop i→s'.md= .dead∧∃ a:List ul,a.length=l.length∧U_ P ap ops i nid s s' a)
 | [],i,nid,s,s',c,c',h,hc=>by
  cases h
  exact ⟨hc,fun d _ _=> ⟨d,[],rfl,⟨rfl,rfl,rfl,Nat.le_refl _,fun k r h=>by simp at h,fun _=> ⟨rfl,fun k r h=>by simp at h⟩⟩⟩⟩
 | o :: r,i,nid,s,s',c,c',h,hc=>by
  simp only [xR] at h
  obtain ⟨⟨A,O⟩,Y,X,h⟩:=R.bind_ok h
  dsimp only at h
  cases O with
  |some v=>cases h
  | none=>
   dsimp only at h
   cases e:A.feet with
   |nil=>rw [e] at h;cases h
   | cons ft fr=>
    rw [e] at h
    dsimp only at h
    split at h
    ·rename_i y
     obtain ⟨D,Q⟩:=adH u M r (i+1) (nid+4) A s' Y c' h hc
     obtain ⟨B,E⟩:=xQ u M X D
     refine ⟨B,fun d p L=> ?_⟩
     have F:ops[i]? =some o:=by
      have:(ops.drop i)[0]? =some o:=by rw [← L];rfl
      simpa using this
     have W:r=ops.drop (i+1):=by
      have:r=(ops.drop i).drop 1:=by rw [← L];rfl
      rw [this,List.drop_drop]
     obtain ⟨v1,rb,ups,G,hs⟩:=E d p
     have n:=hs.feet rfl
     rw [e] at n
     simp only [List.cons.injEq] at n
     rw [n.1] at y
     obtain ⟨x,a,t,j⟩:=Q (by rw [hs.md,d]) (hs.dec rfl) W
     refine ⟨x,{dst:=o.dst,v:=v1,rt:=vC o.op.operands.toList++je ops o,rb:=rb,ups:=ups}::a,by simp [t], ?_⟩
     have J:s.dfs.length≤A.dfs.length:=by rw [hs.dfs];simp
     refine ⟨?_, ?_, ?_,Nat.le_trans J j.dle, ?_, ?_⟩
     ·rw [j.env,vT,hs.env rfl]
     ·rw [j.hp,yR,hs.hp]
     ·rw [j.feet,hs.feet rfl]
      simp [ul.foot,Qm,I7]
      cases o.dst<;>rfl
     ·intro k q f b N
      cases k with
      |zero=>
       simp at f
       subst f
       exact f_ (List.all_eq_true.1 y b N)
      |succ k=>
       have:=j.bound k q (by simpa using f) b N
       omega
     ·intro he
      have Z:=j.dle
      obtain ⟨I,z⟩:=j.sem (by omega)
      have C:G= []:=by
       have:G.length=0:=by
        have:=hs.dfs
        have h3:A.dfs.length=G.length+s.dfs.length:=by rw [this];simp
        omega
       exact List.eq_nil_of_length_eq_zero this
      subst C
      refine ⟨by rw [I,hs.dfs];rfl, ?_⟩
      intro k q f
      cases k with
      |zero=>
       simp at f
       subst f
       exact ⟨o,F,rfl,hs.sem⟩
      |succ k=>
       obtain ⟨T,V,U,K⟩:=z k q (by simpa using f)
       refine ⟨T,by rw [show i+(k+1)=i+1+k by omega];exact V,U, ?_⟩
       rw [List.take_succ_cons,vT,yR]
       rw [hs.env rfl,hs.hp] at K
       rw [show nid+4*(k+1)=nid+4+4*k by omega]
       exact K
    ·cases h
end
end AM
namespace AM
open Go
theorem Eo {md:Region.Mode} (b:Array Nat) (i:Nat):∀ (l:List Edge) (s:Nat),(l.foldl (fun s e=>if Region.binds md e then s|||2^e.on|||b.getD e.on 0 else s) s).testBit i=true→
  s.testBit i=true∨∃ e ∈ l,Region.binds md e=true∧(i=e.on∨(b.getD e.on 0).testBit i=true)
 | [],s,h=> .inl h
 | e::r,s,h=>by
  simp only [List.foldl_cons] at h
  rcases Eo b i r _ h with a|⟨e',a,d⟩
  ·split at a
   ·rename_i c
    simp only [Nat.testBit_or,Bool.or_eq_true,Nat.testBit_two_pow,decide_eq_true_eq] at a
    rcases a with (a|a)|a
    ·exact .inl a
    ·exact .inr ⟨e,by simp,c,.inl a.symm⟩
    ·exact .inr ⟨e,by simp,c,.inr a⟩
   ·exact .inl a
  ·exact .inr ⟨e',by simp [a],d⟩
def pW (acc:Array Nat) (o:Oper):Array Nat:=acc.push (o.after.toList.foldl (fun s e=>if Region.binds .any e then s|||2^e.on|||acc.getD e.on 0 else s) 0)
theorem Ep (a:Array Nat) (x:Nat):(a.push x).getD a.size 0=x:=by simp [Array.getD_eq_getD_getElem?]
def CJ (ops:List Oper) (D:Nat→Bool):Prop:=∀ (k:Nat) (o:Oper),ops[k]? =some o→D k=true→∀ e ∈ o.after,Region.binds .any e=true→D e.on=true
def acU (D:Nat→Bool) (acc:Array Nat):Prop:=∀ k,D k=true→∀ i,(acc.getD k 0).testBit i=true→D i=true
theorem PY {ops:List Oper} {D:Nat→Bool} (j:CJ ops D):∀ (l:List Oper) (acc:Array Nat),acU D acc→l=ops.drop acc.size→acU D (l.foldl pW acc)
 | [],acc,h,_=>h
 | o ::r,acc,h,hl=>by
  simp only [List.foldl_cons]
  have d:ops[acc.size]? =some o:=by
   have:(ops.drop acc.size)[0]? =some o:=by rw [← hl];rfl
   simpa using this
  refine PY j r _ ?_ ?_
  ·intro k n i a
   by_cases hks:k<acc.size
   ·refine h k n i ?_
    simpa [pW,Array.getD_eq_getD_getElem?,Array.getElem?_push,Nat.ne_of_lt hks] using a
   ·by_cases hke:k=acc.size
    ·subst hke
     rw [pW,Ep] at a
     rcases Eo acc i _ _ a with c|⟨e,c,p,b⟩
     ·simp at c
     ·have f:=j _ o d n e (by simpa using c) p
      rcases b with rfl|b
      ·exact f
      ·exact h _ f i b
    ·have:(pW acc o)[k]? =none:=by
      simp only [pW]
      rw [Array.getElem?_eq_none];simp;omega
     simp [Array.getD_eq_getD_getElem?,this] at a
  ·have:(pW acc o).size=acc.size+1:=by simp [pW]
   rw [this,← List.drop_drop,← hl];rfl
theorem SL (ops:List Oper):Region.before ops.toArray=ops.foldl pW #[]:=by
 simp only [Region.before,← Array.foldl_toList]
 rfl
theorem qw {ops:List Oper} {D:Nat→Bool} (b:CJ ops D) {k i:Nat} (c:D k=true) (h:((Region.before ops.toArray).toList.getD k 0).testBit i=true):D i=true:=by
 have:=PY b ops #[] (fun k _ i a=>by simp at a) (by simp)
 rw [← SL] at this
 refine this k c i ?_
 rw [List.getD_eq_getElem?_getD] at h
 rw [Array.getD_eq_getD_getElem?]
 simpa using h
theorem rD {a b:List Nat} {x:Nat} (c:x ∈ a) (d:x ∈ b):ES a b=true:=List.any_eq_true.2 ⟨x,c,jB.2 d⟩
structure IJ (n:Nat) (bef:Nat→Nat→Bool) (recs:List ul):Prop where
 ok:∀ i j a b,recs[i]? =some a→recs[j]? =some b→i<j→(jW a.foot b.foot=true∨∃ x ∈ b.ups.map (·.1),n+4*i≤x∧x<n+4*i+4)→bef j i=true
theorem O3 {n:Nat} {e:List Nat} {d:List ul} (h:Fb n e (d.map ul.foot).reverse=true):IJ n (fun j i=>(e.getD j 0).testBit i) d:=by
 refine ⟨fun i j a b p r k f=> ?_⟩
 simp only [Fb,List.reverse_reverse,List.all_eq_true] at h
 have c:=h (a.foot,i) (by rw [List.mem_zipIdx_iff_getElem?];simp [p]) (b.foot,j) (by rw [List.mem_zipIdx_iff_getElem?];simp [r])
 simp only [Bool.or_eq_true,Bool.not_eq_true'] at c
 rcases c with (c|c)|c
 ·have:Nat.blt i j=true:=Nat.ble_eq_true_of_le k
  rw [this] at c;cases c
 ·exfalso
  rw [Bool.or_eq_false_iff] at c
  rcases f with f|⟨x,q,l,o⟩
  ·rw [f] at c;cases c.1
  ·have:=List.any_eq_false.1 c.2 x q
   simp only [Bool.and_eq_true,not_and] at this
   exact this (Nat.ble_eq_true_of_le l) (Nat.ble_eq_true_of_le o)
 ·exact c
section
variable {P:Program} {ap:AP} {H:di}
theorem FR.congr {env b:iP} {hp c:Hp} {dfs:List (Nat × List AV)} {nt:Nat} {m:aX} {S:aU} {w:World} {a:Act} (h:FR ap env hp dfs nt m S w a) (e:∀ t,b.get t=env.get t) (d:aA c=aA hp):FR ap b c dfs nt m S w a:=by
 refine ⟨d ▸ h.srel,fun t=> ?_,d ▸ h.dfs,h.size⟩
 rw [e,d];exact h.env t
def qG (listed:Array Bool):Nat→Bool:=fun k=>listed.getD k false
theorem Zp {listed:Array Bool} {i:Nat} (a:i<listed.size) (k:Nat):qG (listed.setIfInBounds i true) k=(if k=i then true else qG listed k):=by
 simp only [qG,Array.getD_eq_getD_getElem?]
 by_cases h:k=i
 ·subst h;rw [if_pos rfl,Array.getElem?_setIfInBounds_self_of_lt a];rfl
 ·rw [if_neg h,Array.getElem?_setIfInBounds_ne (fun e=>h e.symm)]
def Jr (n:Nat) (D:Nat→Bool):Nat:=((List.range n).filter fun i=> !D i).length
theorem BJ {D D':Nat→Bool} {i:Nat} (c:D i=false) (b:∀ k,D' k=if k=i then true else D k):∀ (l:List Nat),l.Nodup→i ∈ l→(l.filter fun k=> !D k).length=(l.filter fun k=> !D' k).length+1
 | [],_,h=>by simp at h
 | a::r,hn,h=>by
  rw [List.nodup_cons] at hn
  by_cases ha:a=i
  ·subst ha
   have hsame:r.filter (fun k=> !D k)=r.filter (fun k=> !D' k):=by
    refine List.filter_congr fun k j=> ?_
    have:k ≠ a:=fun e=>hn.1 (e ▸ j)
    rw [b k,if_neg this]
   have f:D' a=true:=by rw [b a,if_pos rfl]
   simp [c,f,hsame]
  ·have d:=BJ c b r hn.2 (by simpa [Ne.symm ha] using h)
   have:D' a=D a:=by rw [b a,if_neg ha]
   simp only [List.filter_cons,this]
   split<;>simp [d]
theorem XQ {ops:List Oper} (h:yJ ops=true) {listed:Array Bool} (o:listed.size=ops.length) (b:Region.ready .any ops.toArray listed= []):∀ k,k<ops.length→qG listed k=true:=by
 intro k
 induction k using Nat.strongRecOn with
 | _ k ih=>
  intro f
  cases hd:qG listed k with
  |true=>rfl
  | false=>
   exfalso
   have a:k ∈ Region.ready .any ops.toArray listed:=by
    simp only [Region.ready,List.mem_filter,List.mem_range,List.size_toArray]
    refine ⟨f, ?_⟩
    have n:listed.getD k true=false:=by
     simp only [qG,Array.getD_eq_getD_getElem?] at hd ⊢
     rw [Array.getElem?_eq_getElem (by omega)] at hd ⊢
     simpa using hd
    have i:ops.toArray[k]? =some ops[k]:=by simp [f]
    rw [n,i]
    simp only [Bool.not_false,Bool.true_and,Option.map_some,Option.getD_some,Array.all_eq_true',Bool.or_eq_true,Bool.not_eq_true']
    intro e l
    cases c:Region.binds .any e with
    |false=>exact .inl rfl
    |true=>
     right
     simp only [yJ,List.all_eq_true] at h
     have d:=h (ops[k],k) (by rw [List.mem_zipIdx_iff_getElem?];simp [f]) e (by simpa using l)
     rw [c] at d
     simp only [Bool.not_true,Bool.false_or] at d
     have j:=f_ d
     exact ih e.on j (by omega)
   rw [b] at a
   cases a
theorem FD {ops:List Oper} {listed:Array Bool} (k:listed.size=ops.length) {i:Nat} (h:i ∈ Region.ready .any ops.toArray listed):∃ o,ops[i]? =some o∧qG listed i=false∧i<ops.length∧∀ e ∈ o.after,Region.binds .any e=true→qG listed e.on=true:=by
 simp only [Region.ready,List.mem_filter,List.mem_range,List.size_toArray,Bool.and_eq_true,Bool.not_eq_true'] at h
 obtain ⟨a,c,b⟩:=h
 have d:ops.toArray[i]? =some ops[i]:=by simp [a]
 rw [d] at b
 simp only [Option.map_some,Option.getD_some,Array.all_eq_true',Bool.or_eq_true,Bool.not_eq_true'] at b
 refine ⟨ops[i],List.getElem?_eq_getElem a, ?_,a,fun e f j=> ?_⟩
 ·simp only [qG,Array.getD_eq_getD_getElem?] at c ⊢
  rw [Array.getElem?_eq_getElem (by omega)] at c ⊢
  simpa using c
 ·rcases b e f with h|h
  ·rw [j] at h;cases h
  ·exact h
end
end AM
namespace AM
open Go
theorem Vx {a b:DI} {x:Nat} (h:x ∈ a.wt) (c:x ∈ b.rt):jW a b=true:=by simp [jW,rD h c]
theorem KF {a b:DI} {x:Nat} (h:x ∈ a.wt) (c:x ∈ b.wt):jW a b=true:=by simp [jW,rD h c]
theorem Vw {a b:DI} {x:Nat} (h:x ∈ a.rt) (c:x ∈ b.wt):jW a b=true:=by simp [jW,rD h c]
theorem SY {a b:DI} {x:Nat} (h:x ∈ a.wb) (c:x ∈ b.rb):jW a b=true:=by simp [jW,rD h c]
theorem Hm {a b:DI} {x:Nat} (h:x ∈ a.wb) (c:x ∈ b.wb):jW a b=true:=by simp [jW,rD h c]
theorem SX {a b:DI} {x:Nat} (h:x ∈ a.rb) (c:x ∈ b.wb):jW a b=true:=by simp [jW,rD h c]
theorem uT {d:Option Nat} {t:Nat} (h:d=some t):t ∈ Qm d:=by subst h;simp [Qm]
section
variable {P:Program} {ap:AP} {H:di}
structure adO (ap:AP) (ops:List Oper) (recs:List ul) (e0:iP) (hp0:Hp) (dfs:List (Nat × List AV)) (nt:Nat) (m0:aX) (S0:aU) (w0:World) (listed:Array Bool) (m:aX) (S:aU) (w:World) (a:Act):Prop where
 sz:listed.size=ops.length
 cl:CJ ops (qG listed)
 fr:Fr (aA hp0) m0 S0 w0 (aA (yQ (qG listed) 0 hp0 recs)) m S w
 rel:FR ap (qV (qG listed) 0 e0 recs) (yQ (qG listed) 0 hp0 recs) dfs nt m S w a
theorem VI {ops:List Oper} {c:List ul} {s:RS} {A nt:Nat} (hnt:∀ o ∈ ops,∀ d,o.dst=some d→d<nt) (hlen:c.length=ops.length)
  (hbound:∀ (k:Nat) (r:ul),c[k]? =some r→∀ b ∈ r.ups.map (·.1),b<A+4*k+4)
  (hsem:∀ (k:Nat) (r:ul),c[k]? =some r→∃ o,ops[k]? =some o∧r.dst=o.dst∧∀ (D:Nat→Bool) m S w (a:Act),bV ap (aA (yQ D 0 s.hp c)) m S w→(∀ t ∈ r.rt,VR (aA (yQ D 0 s.hp c)) m S ((Ac s.env (c.take k)).get t) (a.tmps.getD t undef))→
   (∀ b ∈ r.rb,aA (Oz s.hp (c.take k)) b=aA (yQ D 0 s.hp c) b)→(∀ j,j<4→aA (yQ D 0 s.hp c) (A+4*k+j)=none)→(∀ j,((Region.before ops.toArray).toList.getD j 0).testBit k=true→D j=false)→
   ∀ (Q:Exit→Act→World→Prop) (K:Act→World→Prop),acT ap o (aA (yQ D 0 s.hp c)) m S w a r.v r.ups [] Q K none→wpO P ops.toArray Q o K a w)
  (hord:IJ A (fun j i=>((Region.before ops.toArray).toList.getD j 0).testBit i) c) (hback:yJ ops=true) (hn0:∀ b B,aA s.hp b=some B→b<A) {m0:aX} {S0:aU} {w0:World} {Q:Exit→Act→World→Prop}
  (hQ:∀ m S w a,Fr (aA s.hp) m0 S0 w0 (aA (Oz s.hp c)) m S w→FR ap (Ac s.env c) (Oz s.hp c) s.dfs nt m S w a→Q .normal a w):
  ∀ (n:Nat) (listed:Array Bool) (m:aX) (S:aU) (w:World) (a:Act),adO ap ops c s.env s.hp s.dfs nt m0 S0 w0 listed m S w a→Jr ops.length (qG listed)≤n→wpAny P .any ops.toArray Q n listed a w:=by
 have hdone:∀ (listed:Array Bool) (m:aX) (S:aU) (w:World) (a:Act),adO ap ops c s.env s.hp s.dfs nt m0 S0 w0 listed m S w a→(∀ k,k<ops.length→qG listed k=true)→Q .normal a w:=by
  intro listed m S w a u y
  have hh:∀ b,aA (Oz s.hp c) b=aA (yQ (qG listed) 0 s.hp c) b:=fun b=>
   rq c 0 _ _ rfl fun k r f _=>by rw [y (0+k) (by have:=(List.getElem?_eq_some_iff.1 f).1;omega)]
  have he:∀ t,(Ac s.env c).get t=(qV (qG listed) 0 s.env c).get t:=fun t=>
   uF c 0 _ _ rfl fun k r f _=>by rw [y (0+k) (by have:=(List.getElem?_eq_some_iff.1 f).1;omega)]
  have C:=funext hh
  exact hQ m S w a (C ▸ u.fr) (u.rel.congr he C)
 intro n
 induction n with
 | zero=>
  intro listed m S w a u hm
  have y:∀ k,k<ops.length→qG listed k=true:=by
   intro k f
   cases hd:qG listed k with
   |true=>rfl
   |false=>
    have M:k ∈ (List.range ops.length).filter fun i=> !qG listed i:=by simp [f,hd]
    have:(List.range ops.length).filter (fun i=> !qG listed i)= []:=List.eq_nil_of_length_eq_zero (Nat.le_zero.1 hm)
    rw [this] at M
    cases M
  refine ⟨?_,hdone listed m S w a u y⟩
  cases hr:Region.ready .any ops.toArray listed with
  |nil=>rfl
  |cons i r=>
   obtain ⟨o,_,p,h3,_⟩:=FD u.sz (i:=i) (by rw [hr];simp)
   rw [y i h3] at p;cases p
 | succ n ih=>
  intro listed m S w a u hm
  refine ⟨fun X=>hdone listed m S w a u (XQ hback u.sz X),fun i hi=> ?_⟩
  obtain ⟨o,J,G,W,hedges⟩:=FD u.sz hi
  have v:c[i]? =some c[i]:=List.getElem?_eq_getElem (by omega)
  generalize c[i]=r at v
  obtain ⟨o',V,F,hstep⟩:=hsem i r v
  rw [J] at V
  cases V
  have T:i<listed.size:=by rw [u.sz];exact W
  have l:=Zp T
  have N:CJ ops (qG (listed.setIfInBounds i true)):=by
   intro k o2 f hd e he z
   rw [l] at hd ⊢
   split
   ·rfl
   ·split at hd
    ·rename_i E
     subst E
     rw [J] at f;cases f
     exact hedges e he z
    ·exact u.cl k o2 f hd e he z
  have R:∀ k q,c[k]? =some q→k<i→(jW q.foot r.foot=true∨∃ x ∈ r.ups.map (·.1),A+4*k≤x∧x<A+4*k+4)→qG listed k=true:=by
   intro k q f E hc
   have I:=hord.ok k i q r f v E hc
   have p:=qw N (k:=i) (i:=k) (by rw [l,if_pos rfl]) I
   rw [l,if_neg (by omega)] at p
   exact p
  have hhigh:∀ k q,c[k]? =some q→i<k→(jW r.foot q.foot=true∨∃ x ∈ q.ups.map (·.1),A+4*i≤x∧x<A+4*i+4)→qG listed k=false:=by
   intro k q f E hc
   cases hd:qG listed k with
   |false=>rfl
   |true=>
    have I:=hord.ok i k r q v f E hc
    have p:=qw u.cl hd I
    rw [G] at p;cases p
  have O:∀ k q,c[k]? =some q→(k<i→jW q.foot r.foot=true)→(i<k→jW r.foot q.foot=true)→decide (k<i)=qG listed k:=by
   intro k q f I p
   rcases Nat.lt_trichotomy k i with h|h|h
   ·rw [R k q f h (.inl (I h))];simp [h]
   ·subst h;rw [G];simp
   ·rw [hhigh k q f h (.inl (p h))];simp;omega
  have hagr':∀ k q,c[k]? =some q→(k<i→jW q.foot r.foot=true)→(i<k→jW r.foot q.foot=true)→qG (listed.setIfInBounds i true) k=decide (k<i+1):=by
   intro k q f I p
   rw [l]
   rcases Nat.lt_trichotomy k i with h|h|h
   ·rw [if_neg (by omega),R k q f h (.inl (I h))];simp;omega
   ·subst h;simp
   ·rw [if_neg (by omega),hhigh k q f h (.inl (p h))];simp;omega
  have Z:∀ t ∈ r.rt,(Ac s.env (c.take i)).get t=(qV (qG listed) 0 s.env c).get t:=by
   intro t L
   rw [← I9]
   refine uF c 0 _ _ rfl fun k q f hd=> ?_
   rw [Nat.zero_add]
   exact O k q f (fun _=>Vx (uT hd) L) (fun _=>Vw L (uT hd))
  have hhp:∀ b ∈ r.rb,aA (Oz s.hp (c.take i)) b=aA (yQ (qG listed) 0 s.hp c) b:=by
   intro b z
   rw [← Oy]
   refine rq c 0 _ _ rfl fun k q f hd=> ?_
   rw [Nat.zero_add]
   exact O k q f (fun _=>SY hd z) (fun _=>SX z hd)
  have hfresh:∀ j,j<4→aA (yQ (qG listed) 0 s.hp c) (A+4*i+j)=none:=by
   intro j hj
   have I:aA (yQ (qG listed) 0 s.hp c) (A+4*i+j)=aA (yQ (fun _=>false) 0 s.hp c) (A+4*i+j):=by
    refine rq c 0 _ _ rfl fun k q f hd=> ?_
    rw [Nat.zero_add]
    have z:=hbound k q f _ hd
    rcases Nat.lt_trichotomy k i with h|h|h
    ·omega
    ·subst h;exact G
    ·exact hhigh k q f h (.inr ⟨_,hd,by omega,by omega⟩)
   rw [I,uO c 0 _ (fun _ _=>rfl)]
   cases z:aA s.hp (A+4*i+j) with
   |none=>rfl
   |some B=>have:=hn0 _ _ z;omega
  have Y:ops.toArray[i]? =some o:=by simpa using J
  have hgoal:wpO P ops.toArray Q o (wpAny P .any ops.toArray Q n (listed.setIfInBounds i true)) a w:=by
   refine hstep (qG listed) m S w a u.rel.srel (fun t L=>by rw [Z t L];exact u.rel.env t) hhp hfresh (fun j hj=>by
    cases hd:qG listed j with
    |false=>rfl
    |true=>
     have p:=qw u.cl hd hj
     rw [G] at p;cases p) Q _ ?_
   intro cv m' S' w' ds I p h3 h4
   have hF:=u.rel.put (hnt o (List.mem_of_getElem? J)) I p h3 h4
   rw [kw] at p
   rw [List.nil_append] at hF
   have he':∀ t,(qV (qG (listed.setIfInBounds i true)) 0 s.env c).get t=(qE (qV (qG listed) 0 s.env c) o.dst r.v).get t:=by
    intro t
    by_cases L:o.dst=some t
    ·have h5:(qV (qG (listed.setIfInBounds i true)) 0 s.env c).get t=(qV (fun j=>decide (j<i+1)) 0 s.env c).get t:=by
      refine uF c 0 _ _ rfl fun k q f hd=> ?_
      rw [Nat.zero_add]
      have U:t ∈ r.foot.wt:=uT (F.trans L)
      exact hagr' k q f (fun _=>KF (uT hd) U) (fun _=>KF U (uT hd))
     rw [h5,I9,Tz _ _ _ _ v,F,L,l_,l_]
    ·rw [yN L]
     refine uF c 0 _ _ rfl fun k q f hd=> ?_
     rw [Nat.zero_add,l,if_neg]
     rintro rfl
     rw [v] at f;cases f
     exact L (F ▸ hd)
   have C:aA (yQ (qG (listed.setIfInBounds i true)) 0 s.hp c)=aA (r.ups++yQ (qG listed) 0 s.hp c):=by
    funext b
    by_cases z:b ∈ r.ups.map (·.1)
    ·have h5:aA (yQ (qG (listed.setIfInBounds i true)) 0 s.hp c) b=aA (yQ (fun j=>decide (j<i+1)) 0 s.hp c) b:=by
      refine rq c 0 _ _ rfl fun k q f hd=> ?_
      rw [Nat.zero_add]
      exact hagr' k q f (fun _=>Hm hd z) (fun _=>Hm z hd)
     rw [h5,Oy,WJ _ _ _ _ v]
     exact yY z
    ·rw [yZ z]
     refine rq c 0 _ _ rfl fun k q f hd=> ?_
     rw [Nat.zero_add,l,if_neg]
     rintro rfl
     rw [v] at f;cases f
     exact z hd
   refine ih _ m' S' w' _ ⟨by rw [Array.size_setIfInBounds];exact u.sz,N, ?_,hF.congr he' C⟩ ?_
   ·rw [C];exact u.fr.trans p
   ·have:=BJ G l (List.range ops.length) List.nodup_range (by simp [W])
    simp only [Jr] at hm ⊢
    omega
  simp only [wpOp,Y]
  exact hgoal
theorem VH {ops:List Oper} {c:List ul} {s s':RS} {n nt:Nat} (l:∀ o ∈ ops,∀ d,o.dst=some d→d<nt) (e:c.length=ops.length) (f:U_ P ap ops 0 n s s' c) (t:s'.dfs.length=s.dfs.length)
  (hord:IJ n (fun j i=>((Region.before ops.toArray).toList.getD j 0).testBit i) c) (hback:yJ ops=true) (hn0:∀ b B,aA s.hp b=some B→b<n) {m0:aX} {S0:aU} {w0:World} {Q:Exit→Act→World→Prop}
  (hQ:∀ m S w a,Fr (aA s.hp) m0 S0 w0 (aA (Oz s.hp c)) m S w→FR ap (Ac s.env c) (Oz s.hp c) s.dfs nt m S w a→Q .normal a w):
  ∀ (fuel:Nat) (listed:Array Bool) (m:aX) (S:aU) (w:World) (a:Act),adO ap ops c s.env s.hp s.dfs nt m0 S0 w0 listed m S w a→Jr ops.length (qG listed)≤fuel→wpAny P .any ops.toArray Q fuel listed a w:=by
 obtain ⟨_,h⟩:=f.sem t
 refine VI l e f.bound (fun k r F=> ?_) hord hback hn0 hQ
 obtain ⟨o,u,E,A⟩:=h k r F
 rw [Nat.zero_add] at u
 exact ⟨o,u,E,fun D m S w a z y q p _ Q K v=>A _ m S w a z y (fun b x B C=>by rw [← q b x];exact C) p Q K v⟩
def pO (ap:AP) (base:Nat) (keep:List Nat) (hp0:Hp) (m:aX) (S:aU) (w:World) (nt:Nat) (s':St) (Q:Exit→Act→World→Prop):bJ→Prop
 | .panic v=>match (dO v).isEmpty with
  |true=> ∀ s1:St,s'=norm base keep s1→yg ap hp0 m S w nt s1.env s1.hp s1.dfs Q (some v)
  |false=>yg ap hp0 m S w nt s'.env s'.hp s'.dfs Q (some v)
 | .normal=> ∀ s1:St,s'=norm base keep s1→yg ap hp0 m S w nt s1.env s1.hp s1.dfs Q none
 |_=>True
theorem JK (x:iJ P ap) (I:P.follows .mixedOrders=true) (J:mO P ap H) {ops:List Oper} {j:Bool} {nt base:Nat} {keep:List Nat} (u:∀ o ∈ ops,∀ d,o.dst=some d→d<nt) {s:St} {e:bJ} {s':St} {c T:Cx} {id:Nat}
  (h:JJ ap H base keep ops j s c= .ok (e,s') T) (hc:T.Ok):c.Ok∧(s.md= .dead→s'.md= .dead∧(∀ m S w a,FR ap s.env s.hp s.dfs nt m S w a→∀ Q,
   pO ap base keep s.hp m S w nt s' Q e→(Code.region id ops.toArray j).wp P Q a w)):=by
 unfold JJ at h
 obtain ⟨⟨s1,p⟩,Z,K,h⟩:=R.bind_ok h
 dsimp only at h
 have A:∀ b B,aA s.hp b=some B→b<kM s.hp:=fun b B r=>v_ r
 cases p with
 | some v=>
  cases j with
  |true=>cases h
  | false=>
   dsimp only at h
   split at h
   ·rename_i E
    cases h
    obtain ⟨f,hs⟩:=nU x J u ops 0 _ _ _ _ _ _ K hc
    refine ⟨f,fun i=> ?_⟩
    obtain ⟨z,F⟩:=hs i (fun t b r=>by cases r) rfl A
    refine ⟨z,fun m S w a l Q y=>wp_region ?_⟩
    simp only [pO,E] at y
    have:=F m S w a l Q (y _ rfl)
    rw [← List.range_eq_range'] at this
    simpa using this
   ·rename_i E
    cases h
    obtain ⟨f,hs⟩:=nU x J u ops 0 _ _ _ _ _ _ K hc
    refine ⟨f,fun i=> ?_⟩
    obtain ⟨z,F⟩:=hs i (fun t b r=>by cases r) rfl A
    refine ⟨z,fun m S w a l Q y=>wp_region ?_⟩
    simp only [pO,E] at y
    have:=F m S w a l Q y
    rw [← List.range_eq_range'] at this
    simpa using this
 | none=>
  dsimp only at h
  split at h
  ·rename_i hcond
   cases h
   cases j with
   |false=>
    obtain ⟨f,hs⟩:=nU x J u ops 0 _ _ _ _ _ _ K hc
    refine ⟨f,fun i=> ?_⟩
    obtain ⟨z,F⟩:=hs i (fun t b r=>by cases r) rfl A
    refine ⟨z,fun m S w a l Q y=>wp_region ?_⟩
    have:=F m S w a l Q (y _ rfl)
    rw [← List.range_eq_range'] at this
    simpa using this
   | true=>
    obtain ⟨f,hs⟩:=adH x J ops 0 _ _ _ _ _ K hc
    refine ⟨f,fun i=> ?_⟩
    obtain ⟨z,q,G,n⟩:=hs i (fun t b r=>by cases r) rfl
    refine ⟨z,fun m S w a l Q y=>wp_region_any I ?_⟩
    simp only [Bool.not_true,Bool.false_or,Bool.and_eq_true] at hcond
    obtain ⟨⟨V,hback⟩,C⟩:=hcond
    have C:=aP C
    rw [n.feet,List.append_nil] at V
    have L:=y _ rfl
    have M:=(n.sem C).1
    have D:qG (Array.replicate ops.length false)=fun _=>false:=by
     funext k
     simp only [qG,Array.getD_eq_getD_getElem?]
     by_cases U:k<ops.length<;>simp [U]
    have N:ops.toArray.size=ops.length:=by simp
    rw [N]
    refine VH u G n C (O3 V) hback A (m0:=m) (S0:=S) (w0:=w) (Q:=Q) ?_ ops.length _ m S _ a ⟨by simp, ?_, ?_, ?_⟩ ?_
    ·intro Y S' w' W O X
     refine L Y S' w' W ?_ ?_
     ·rw [n.hp];exact O
     ·rw [n.hp,n.env,M];exact X
    ·intro k o U hd
     rw [D] at hd;cases hd
    ·rw [D,uO q 0 _ (fun _ _=>rfl)]
     exact ⟨Ge.refl _ _,oW.refl _,rfl,rfl,rfl,Nat.le_refl _,fun _ _ _=>rfl,fun _ B h=> .inr ⟨B,h,rfl⟩,fun _ _ _ h=> .inl h⟩
    ·rw [D,uO q 0 _ (fun _ _=>rfl),Aa q 0 _ (fun _ _=>rfl)]
     exact ⟨⟨l.srel.inj,fun b B r=>l.srel.blk b B r|>fun ⟨z,F,O⟩=> ⟨z,F,O⟩,l.srel.sealed,l.srel.own,l.srel.glob⟩,l.env,l.dfs,l.size⟩
    ·exact Nat.le_trans (List.length_filter_le _ _) (by simp)
  ·cases h
end
end AM
namespace AM
open Go
def Cc (acc:List Nat) (b:Nat):List Nat:=if rE acc b then acc else acc++ [b]
theorem SC (a:List Nat) (b:Nat) (h:a.Nodup):(Cc a b).Nodup∧∃ t,Cc a b=a++t:=by
 unfold Cc
 split
 ·exact ⟨h,[],by simp⟩
 ·rename_i f
  refine ⟨?_,[b],rfl⟩
  rw [List.nodup_append]
  refine ⟨h,by simp, ?_⟩
  intro x d y c e
  simp at c
  subst c;subst e
  exact f (jB.2 d)
theorem pU:∀ (l a:List Nat),a.Nodup→(l.foldl Cc a).Nodup∧∃ t,l.foldl Cc a=a++t
 | [],a,h=> ⟨h,[],by simp⟩
 |b::r,a,h=>by
  simp only [List.foldl_cons]
  obtain ⟨j,f,e⟩:=SC a b h
  obtain ⟨c,d,i⟩:=pU r _ j
  exact ⟨c,f++d,by rw [i,e,List.append_assoc]⟩
theorem DT:∀ (l a:List Nat),l.Nodup→(∀ x ∈ l,x ∉ a)→l.foldl Cc a=a++l
 | [],a,_,_=>by simp
 | b::r,a,h,hd=>by
  rw [List.nodup_cons] at h
  have e:rE a b=false:=by
   cases c:rE a b with
   |false=>rfl
   |true=>exact absurd (jB.1 c) (hd b (by simp))
  simp only [List.foldl_cons]
  have:Cc a b=a++ [b]:=by simp [Cc,e]
  rw [this,DT r _ h.2]
  ·simp
  ·intro x d c
   rcases List.mem_append.1 c with c|c
   ·exact hd x (by simp [d]) c
   ·simp at c;subst c;exact h.1 d
theorem Ub (l:List Nat):iO l=l.foldl Cc []:=rfl
theorem OY (n:Nat) (l:List Nat):(iO (List.range n++l)).Nodup∧∃ t,iO (List.range n++l)=List.range n++t:=by
 rw [Ub,List.foldl_append,DT (List.range n) [] List.nodup_range (by simp),List.nil_append]
 exact pU l _ List.nodup_range
theorem uC (rd:dF):∀ (n:Nat) (l:List Nat),l.Nodup→(sG rd n l).Nodup∧∃ t,sG rd n l=l++t
 |0,l,h=> ⟨h,[],by simp [sG]⟩
 | n+1,l,h=>by
  simp only [sG]
  split
  ·exact ⟨h,[],by simp⟩
  ·obtain ⟨i,e,d⟩:=pU (l.flatMap fun b=>match rd b with|some B=>(match B.pr with|true=> []|false=>bT B.cells)|none=> []) l h
   obtain ⟨a,c,f⟩:=uC rd n _ i
   refine ⟨a,e++c, ?_⟩
   exact f.trans (by rw [d,List.append_assoc])
theorem Ia {f:Nat→AV}:∀ (keep:List Nat) (t:Nat),aA (keep.map fun t=>(t,f t)) t=if t ∈ keep then some (f t) else none
 | [],t=>by simp [aA]
 | a::r,t=>by
  simp only [List.map_cons,aA,Ia r t]
  cases h:Nat.beq a t with
  |true=>have:=aP h;subst this;simp
  |false=>
   have b:t ≠ a:=by intro e;subst e;simp at h
   simp [b]
theorem BF {rd:dF} {mk:Nat→bi→bi}:∀ (ids:List Nat) (j p:Nat),aA ((ids.zipIdx j).filterMap fun (b,p)=>(rd b).map fun B=>(p,mk p B)) p=if j≤p then (ids[p - j]?).bind fun b=>(rd b).map (mk p) else none
 | [],j,p=>by simp [aA]
 | a ::r,j,p=>by
  have f:=BF (rd:=rd) (mk:=mk) r (j+1) p
  rw [List.zipIdx_cons]
  cases c:rd a with
  | none=>
   rw [List.filterMap_cons_none (by simp [c]),f]
   by_cases hj:j+1≤p
   ·rw [if_pos hj,if_pos (by omega)]
    obtain ⟨d,hd⟩:∃ d,p - j=d+1:=⟨p - j - 1,by omega⟩
    rw [hd,List.getElem?_cons_succ,show p - (j+1)=d by omega]
   ·rw [if_neg hj]
    by_cases hjp:j≤p
    ·rw [if_pos hjp,show p - j=0 by omega];simp [c]
    ·rw [if_neg hjp]
  | some B=>
   rw [List.filterMap_cons_some (by simp [c];rfl)]
   simp only [aA]
   cases h:Nat.beq j p with
   |true=>have:=aP h;subst this;simp [c]
   | false=>
    have i:j ≠ p:=by intro e;subst e;simp at h
    simp only [f]
    by_cases hj:j+1≤p
    ·rw [if_pos hj,if_pos (by omega)]
     obtain ⟨d,hd⟩:∃ d,p - j=d+1:=⟨p - j - 1,by omega⟩
     rw [hd,List.getElem?_cons_succ,show p - (j+1)=d by omega]
    ·rw [if_neg hj,if_neg (by omega)]
theorem Ii:∀ {l:List Nat},l.Nodup→sU l=true
 | [],_=>rfl
 |b::r,h=>by
  rw [List.nodup_cons] at h
  simp only [sU,Bool.and_eq_true,Bool.not_eq_true']
  refine ⟨?_,Ii h.2⟩
  cases a:rE r b with
  |false=>rfl
  |true=>exact absurd (jB.1 a) h.1
section
variable {P:Program} {ap:AP} {H:di}
theorem J3 {g g':dF} {m c:aX} {S S':aU} {ρ:Nat→Nat→Option (Nat × Nat)} (b:oW S S') (h:tX g m g' c ρ):∀ {l:List (Nat × List AV)} {ds:List Deferred},gW g m S l ds→gW g' c S' (l.map fun d=>(d.1,mP ρ d.2)) ds
 | [],[],_=>by simp [gW]
 |d::r,cd::cr,p=>by
  simp only [gW] at p
  obtain ⟨⟨a,i,f⟩,e⟩:=p
  simp only [List.map_cons,gW]
  exact ⟨⟨a,i,kF b h _ f⟩,J3 b h e⟩
 | [],_::_,p=>by simp [gW] at p
 |_::_,[],p=>by simp [gW] at p
theorem sV {c:List bi} {keep:List Nat} {s:St} {nt:Nat} {m m0:aX} {S S0:aU} {w w0:World} {a:Act} (f:Fr (bH c) m0 S0 w0 (aA s.hp) m S w) (E:FR ap s.env s.hp s.dfs nt m S w a):
  ∃ m',Fr (bH c) m0 S0 w0 (aA (norm c.length keep s).hp) m' S w∧FR ap (norm c.length keep s).env (norm c.length keep s).hp (norm c.length keep s).dfs nt m' S w a:=by
 obtain ⟨_,t0,T⟩:=uC (aA s.hp) 20 (List.range c.length) List.nodup_range
 generalize hroots:t0++(Ef keep s.env++s.dfs.flatMap (fun d=>bT d.2))=roots
 have hroots':sG (aA s.hp) 20 (List.range c.length)++Ef keep s.env++s.dfs.flatMap (fun d=>bT d.2)=List.range c.length++roots:=by rw [← hroots,T];simp only [List.append_assoc]
 obtain ⟨U,t1,M⟩:=OY c.length roots
 obtain ⟨Q,t2,J⟩:=uC (aA s.hp) 20 _ U
 rw [M,List.append_assoc] at J
 have hsome:∀ b,b<c.length→∃ B0 B,bH c b=some B0∧aA s.hp b=some B∧B.esz=B0.esz∧((B.ver=B0.ver∧m b=m0 b)∨B0.ver<B.ver):=by
  intro b A
  obtain ⟨B,n,u⟩:=f.ge b c[b] (by simp [bH,A])
  exact ⟨c[b],B,by simp [bH,A],n,u⟩
 generalize l:(sG (aA s.hp) 20 (iO (List.range c.length++roots))).filter (fun b=>(aA s.hp b).isSome)=ids
 have V:ids.Nodup:=by rw [← l];exact Q.filter _
 have F:=Ii V
 have y:∃ t,ids=List.range c.length++t:=by
  rw [← l,M,J,List.filter_append]
  refine ⟨_,congrArg (· ++_) ?_⟩
  rw [List.filter_eq_self]
  intro b A
  obtain ⟨_,B,_,u,_⟩:=hsome b (by simpa using A)
  simp [u]
 obtain ⟨t,y⟩:=y
 have z:∀ b,b<c.length→ids[b]? =some b:=by
  intro b A
  rw [y,List.getElem?_append_left (by simpa using A)]
  simp [A]
 have K:∀ (p b:Nat),ids[p]? =some b→∃ B,aA s.hp b=some B:=by
  intro p b hp
  have:=List.mem_of_getElem? hp
  rw [← l,List.mem_filter] at this
  exact Option.isSome_iff_exists.1 this.2
 let ρ:Nat→Nat→Option (Nat × Nat):=fun b v=>match aA s.hp b with
  |some B=>match Nat.beq B.ver v with
   |true=>(qy ids b).map fun p=>(p,match Nat.blt p c.length with|true=>v|false=>0)
   |false=>none
  |none=>none
 let mk:Nat→bi→bi:=fun p B=> {B with cells:=(match B.pr with|true=>B.cells|false=>mP ρ B.cells),ver:=match Nat.blt p c.length with|true=>B.ver|false=>0}
 have hnorm:norm c.length keep s=⟨keep.map fun t=>(t,ren ρ (s.env.get t)),ids.zipIdx.filterMap fun (b,p)=>(aA s.hp b).map fun B=>(p,mk p B),s.md,s.dfs.map fun d=>(d.1,mP ρ d.2)⟩:=by
  unfold norm
  simp only [hroots',l]
  rfl
 rw [hnorm]
 dsimp only
 have C:∀ p,aA (ids.zipIdx.filterMap fun (b,p)=>(aA s.hp b).map fun B=>(p,mk p B)) p=(ids[p]?).bind fun b=>(aA s.hp b).map (mk p):=by
  intro p
  rw [BF (rd:=aA s.hp) (mk:=mk) ids 0 p,if_pos (Nat.zero_le _),Nat.sub_zero]
 generalize (ids.zipIdx.filterMap fun (b,p)=>(aA s.hp b).map fun B=>(p,mk p B))=hp2 at C
 have j:∀ (p:Nat) (B2:bi),aA hp2 p=some B2→∃ b B,ids[p]? =some b∧aA s.hp b=some B∧B2=mk p B:=by
  intro p B2 h
  rw [C] at h
  cases hp:ids[p]? with
  |none=>rw [hp] at h;cases h
  |some b=>
   rw [hp] at h
   obtain ⟨B,N⟩:=K p b hp
   simp only [Option.bind_some,N,Option.map_some,Option.some.injEq] at h
   exact ⟨b,B,rfl,N,h.symm⟩
 let m2:aX:=fun p=>m (ids.getD p 0)
 have k:∀ (p b:Nat),ids[p]? =some b→m2 p=m b:=by
  intro p b hp
  show m (ids.getD p 0)=_
  rw [List.getD_eq_getElem?_getD,hp];rfl
 have x:tX (aA s.hp) m (aA hp2) m2 ρ:=by
  intro b ver p ver' h B N Z
  simp only [ρ,N] at h
  split at h
  ·rename_i I
   have I:=aP I
   simp only [Option.map_eq_some_iff,Prod.mk.injEq] at h
   obtain ⟨q,G,rfl,rfl⟩:=h
   have G:=ry G
   refine ⟨mk q B, ?_, ?_,fun _=> ⟨I,k q b G,rfl⟩⟩
   ·rw [C,G];simp [N]
   ·simp only [mk]
    split
    ·omega
    ·exact Nat.le_refl _
  ·cases h
 have D:∀ (p q b:Nat),ids[p]? =some b→ids[q]? =some b→p=q:=by
  intro p q b hp G
  have e1:=qf F hp
  rw [qf F G] at e1
  cases e1;rfl
 refine ⟨m2, ?_, ?_, ?_, ?_,E.size⟩
 ·refine ⟨?_,f.sle,f.os,f.tape,f.output,f.size,f.rest, ?_,f.sealN⟩
  ·intro b B0 A
   have r:b<c.length:=(List.getElem?_eq_some_iff.1 A).1
   obtain ⟨B0',B,n,u,O,R⟩:=hsome b r
   rw [A] at n;cases n
   have X:Nat.blt b c.length=true:=Nat.ble_eq_true_of_le r
   refine ⟨mk b B,by rw [C,z b r];simp [u],O, ?_⟩
   simp only [mk,X]
   rw [k b b (z b r)]
   exact R
  ·intro p B2 hp
   obtain ⟨b,B,n,u,rfl⟩:=j p B2 hp
   rw [k p b n]
   rcases f.img b B u with h|⟨B0,O,R⟩
   ·exact .inl h
   ·have r:b<c.length:=(List.getElem?_eq_some_iff.1 O).1
    have:=D p b b n (z b r)
    subst this
    exact .inr ⟨B0,O,R⟩
 ·refine ⟨?_, ?_,E.srel.sealed, ?_,E.srel.glob⟩
  ·intro p q B2 B2' hp G e
   obtain ⟨b,B,n,u,rfl⟩:=j p B2 hp
   obtain ⟨Y,B',L,W,rfl⟩:=j q B2' G
   rw [k p b n,k q Y L] at e
   have:=E.srel.inj b Y B B' u W e
   subst this
   exact D p q b n L
  ·intro p B2 hp
   obtain ⟨b,B,n,u,rfl⟩:=j p B2 hp
   rw [k p b n]
   obtain ⟨⟨cur,e,vs,rest,k1,k2,k3,k4,k5,k6⟩,k7,k8⟩:=E.srel.blk b B u
   cases i:B.pr with
   |true=>exact ⟨⟨cur,e,vs,rest,k1,k2,fun _=>by simpa [mk,i] using k3 i,by simpa [mk,i] using bW _ (k3 i),k5,k6⟩,k7,by simpa [mk,i] using k8⟩
   | false=>
    have I:=kF (oW.refl S) x _ k4
    exact ⟨⟨cur,e,vs,rest,k1,k2,fun h=>by simp [mk,i] at h,by simpa [mk,i] using I,k5,k6⟩,k7,by
     have:(mk p B).cells.length=B.cells.length:=by simp only [mk,i];rw [bK k4,bK I]
     rw [this];exact k8⟩
  ·intro p B2 hp o v ho
   obtain ⟨b,B,n,u,rfl⟩:=j p B2 hp
   rw [k p b n] at ho
   exact E.srel.own b B u o v ho
 ·intro t
  simp only [iP.get,Ia]
  by_cases ht:t ∈ keep
  ·rw [if_pos ht]
   exact xm (oW.refl S) x _ (E.env t)
  ·rw [if_neg ht]
   simp [VR]
 ·exact J3 (oW.refl S) x E.dfs
end
end AM
namespace AM
open Go
mutual
theorem yh {g g':dF} {m n:aX} {S S':aU} (i:oW S S'):∀ (x:AV) {v:Value},(∀ b ∈ dO x,g' b=g b∧n b=m b)→VR g m S x v→VR g' n S' x v
 | .int _ _,_,_,p=>by simpa only [VR,PR] using p
 | .bool _,_,_,p=>by simpa only [VR,PR] using p
 | .str _,_,_,p=>by simpa only [VR,PR] using p
 | .nilS,_,_,p=>by simpa only [VR,PR] using p
 | .nilP,_,_,p=>by simpa only [VR,PR] using p
 | .nilF,_,_,p=>by simpa only [VR,PR] using p
 | .nilI,_,_,p=>by simpa only [VR,PR] using p
 | .sl _ _ _,_,_,p=>by simp only [VR] at p ⊢;exact dn i _ p
 | .pp _ _,_,_,p=>by simp only [VR] at p ⊢;exact dn i _ p
 | .mp _ _,_,_,p=>by simp only [VR] at p ⊢;exact dn i _ p
 | .dead,_,_,_=>by simp only [VR]
 | .own _ _ _,_,_,p=>by simp only [VR] at p
 | .ref b _ _ _,_,h,p=>by
  obtain ⟨j,k⟩:=h b (by simp [dO])
  simp only [VR] at p ⊢
  rw [j,k];exact p
 | .ptr b _ _,_,h,p=>by
  obtain ⟨j,k⟩:=h b (by simp [dO])
  simp only [VR] at p ⊢
  rw [j,k];exact p
 | .mr b _,_,h,p=>by
  obtain ⟨j,k⟩:=h b (by simp [dO])
  simp only [VR] at p ⊢
  rw [j,k];exact p
 | .agg l,_,h,p=>by
  simp only [VR] at p ⊢
  obtain ⟨vs,e,q⟩:=p
  exact ⟨vs,e,nK i l (fun b d=>h b (by simpa [dO] using d)) q⟩
 | .tup l,_,h,p=>by
  simp only [VR] at p ⊢
  obtain ⟨vs,e,q⟩:=p
  exact ⟨vs,e,nK i l (fun b d=>h b (by simpa [dO] using d)) q⟩
 | .fn f a c,_,h,p=>by
  simp only [VR] at p ⊢
  obtain ⟨o,s,e,q,r⟩:=p
  exact ⟨o,s,e,nK i a (fun b d=>h b (by simp [dO,d])) q,nK i c (fun b d=>h b (by simp [dO,d])) r⟩
 | .ifc t x,_,h,p=>by
  simp only [VR] at p ⊢
  obtain ⟨u,e,q⟩:=p
  exact ⟨u,e,yh i x (fun b d=>h b (by simpa [dO] using d)) q⟩
theorem nK {g g':dF} {m d:aX} {S S':aU} (c:oW S S'):∀ (l:List AV) {vs:List Value},(∀ b ∈ bT l,g' b=g b∧d b=m b)→aY g m S l vs→aY g' d S' l vs
 | [],[],_,_=>by simp only [aY]
 |x::r,v::vs,h,p=>by
  simp only [aY] at p ⊢
  exact ⟨yh c x (fun b a=>h b (by simp [bT,a])) p.1,nK c r (fun b a=>h b (by simp [bT,a])) p.2⟩
 | [],_::_,_,p=>by simp [aY] at p
 |_::_,[],_,p=>by simp [aY] at p
end
theorem m_ {g:dF} {m:aX} {S:aU} {x:AV} {v:Value} (h:(dO x).isEmpty=true) (c:VR g m S x v):PR S x v:=by
 have d:dO x= []:=by simpa using h
 exact lm (m:=m) x (yh (oW.refl S) x (fun b a=>by rw [d] at a;cases a) c)
def Ql (nt:Nat) (o:Oper):Bool:=match o.dst with|some d=>Nat.blt d nt|none=>true
def dJ (nt:Nat):Code→Bool
 | .region _ ops _=>ops.toList.all (Ql nt)
 | .seq a b=>dJ nt a && dJ nt b
 | .cond _ a b=>dJ nt a && dJ nt b
 | .block _ b=>dJ nt b
 | .loop b=>dJ nt b
 | .scope b=>dJ nt b
 |_=>true
section
variable {P:Program} {ap:AP} {H:di}
def U5 (hp:Hp) (m:aX) (S:aU) (Q:Exit→Act→World→Prop) (a:Act) (w:World):bJ→Prop
 | .normal=>Q .normal a w
 | .exit id=>Q (.exit id) a w
 | .ret=>Q .ret a w
 | .panic v=> ∀ cv,VR (aA hp) m S v cv→Q (.panic [{v:=cv,recovered:=false}]) a w
def XA (ap:AP) (h0:List bi) (m0:aX) (S0:aU) (w0:World) (nt:Nat) (s':St) (e:bJ) (Q:Exit→Act→World→Prop):Prop:=
 ∀ m' S' w' a',Fr (bH h0) m0 S0 w0 (aA s'.hp) m' S' w'→FR ap s'.env s'.hp s'.dfs nt m' S' w' a'→U5 s'.hp m' S' Q a' w' e
def ax (P:Program) (ap:AP) (h0:List bi) (nt:Nat) (code:Code) (s:St) (e:bJ) (s':St):Prop:=
 s.md= .dead→s'.md= .dead∧∀ m0 S0 w0 m S w a,Fr (bH h0) m0 S0 w0 (aA s.hp) m S w→FR ap s.env s.hp s.dfs nt m S w a→∀ Q,XA ap h0 m0 S0 w0 nt s' e Q→code.wp P Q a w
theorem ax.still {f:List bi} {nt:Nat} {b:Code} {s:St} {e:bJ} (h:∀ (Q:Exit→Act→World→Prop) hp m S a w,U5 hp m S Q a w e→b.wp P Q a w):ax P ap f nt b s e s:=
 fun c=> ⟨c,fun _ _ _ m S w a d i Q j=>h Q s.hp m S a w (j m S w a d i)⟩
theorem Ez {k:List bi} {nt:Nat} {b:Code} {f:St→Cx→R (bJ × St)} (l:∀ s e s' c c',f s c= .ok (e,s') c'→c'.Ok→c.Ok∧ax P ap k nt b s e s'):
  ∀ (n:Nat) (s:St) (e:bJ) (s':St) (c c':Cx),QD f n s c= .ok (e,s') c'→c'.Ok→c.Ok∧(s.md= .dead→s'.md= .dead∧∀ m0 S0 w0 m S w a,Fr (bH k) m0 S0 w0 (aA s.hp) m S w→FR ap s.env s.hp s.dfs nt m S w a→∀ Q,XA ap k m0 S0 w0 nt s' e Q→Code.rounds P b Q n a w)
 |0,s,e,s',c,c',h,hc=>by cases h
 | n+1,s,e,s',c,c',h,hc=>by
  simp only [QD] at h
  obtain ⟨⟨A,E⟩,F,D,h⟩:=R.bind_ok h
  dsimp only at h
  have hother:A ≠ .normal→R.ok (A,E) F=R.ok (e,s') c'→c.Ok∧(s.md= .dead→s'.md= .dead∧∀ m0 S0 w0 m S w a,Fr (bH k) m0 S0 w0 (aA s.hp) m S w→FR ap s.env s.hp s.dfs nt m S w a→∀ Q,XA ap k m0 S0 w0 nt s' e Q→Code.rounds P b Q (n+1) a w):=by
   intro u J
   cases J
   obtain ⟨d,q⟩:=l _ _ _ _ _ D hc
   refine ⟨d,fun i=> ?_⟩
   obtain ⟨z,y⟩:=q i
   refine ⟨z,fun m0 S0 w0 m S w a j C Q t=>y m0 S0 w0 m S w a j C _ ?_⟩
   intro B S' w' o r p
   have:=t B S' w' o r p
   cases e with
   |normal=>exact absurd rfl u
   |exit id=>exact this
   |ret=>exact this
   |panic v=>exact this
  cases A with
  |normal=>
   dsimp only at h
   obtain ⟨x,G⟩:=Ez l n E e s' F c' h hc
   obtain ⟨d,q⟩:=l _ _ _ _ _ D x
   refine ⟨d,fun i=> ?_⟩
   obtain ⟨z,y⟩:=q i
   obtain ⟨r,p⟩:=G z
   refine ⟨r,fun m0 S0 w0 m S w a j C Q t=>y m0 S0 w0 m S w a j C _ ?_⟩
   intro B S' w' o I K
   exact p m0 S0 w0 B S' w' o I K Q t
  |exit id=>exact hother (by simp) h
  |ret=>exact hother (by simp) h
  |panic v=>exact hother (by simp) h
theorem eH (q:iJ P ap) (i:P.follows .mixedOrders=true) (K:mO P ap H) {X:List bi} {keep:List Nat} {lf nt:Nat}:∀ (code:Code),dJ nt code=true→∀ (s:St) (e:bJ) (s':St) (c p:Cx),kZ ap H X.length keep lf code s c= .ok (e,s') p→p.Ok→c.Ok∧ax P ap X nt code s e s'
 | .skip,_,s,e,s',c,p,h,n=>by
  cases h
  exact ⟨n,ax.still fun Q hp m S a w r=>wp_skip r⟩
 | .label l,_,s,e,s',c,p,h,n=>by
  cases h
  exact ⟨n,ax.still fun Q hp m S a w r=>wp_label r⟩
 | .exit id,_,s,e,s',c,p,h,n=>by
  cases h
  exact ⟨n,ax.still fun Q hp m S a w r=>wp_exit r⟩
 | .ret,_,s,e,s',c,p,h,n=>by
  cases h
  exact ⟨n,ax.still fun Q hp m S a w r=>wp_ret r⟩
 | .region id ops draw,hd,s,e,s',c,p,h,n=>by
  have Z:∀ o ∈ ops.toList,∀ d,o.dst=some d→d<nt:=by
   intro o ho d hod
   have:=List.all_eq_true.1 hd o ho
   simp only [Ql,hod] at this
   exact f_ this
  obtain ⟨j,hr⟩:=JK q i K Z (id:=id) h n
  refine ⟨j,fun k=> ?_⟩
  obtain ⟨I,h2⟩:=hr k
  refine ⟨I,fun m0 S0 w0 m S w a f F Q C=> ?_⟩
  have:=h2 m S w a F Q
  rw [Array.toArray_toList] at this
  refine this ?_
  cases e with
  |normal=>
   intro V M G S' w' A E D
   obtain ⟨m2,u,B⟩:=sV (keep:=keep) (f.trans E) D
   rw [← M] at u B
   exact C m2 S' w' A u B
  | panic v=>
   simp only [pO]
   split
   ·rename_i hre
    intro V M G S' w' A cv E D u
    obtain ⟨m2,B,Y⟩:=sV (keep:=keep) (f.trans E) D
    rw [← M] at B Y
    exact C m2 S' w' A B Y cv (gG _ (m_ hre u))
   ·intro G S' w' A cv E D u
    exact C G S' w' A (f.trans E) D cv u
  |exit id=>trivial
  |ret=>trivial
 | .seq x y,hd,s,e,s',c,p,h,n=>by
  simp only [dJ,Bool.and_eq_true] at hd
  simp only [kZ] at h
  obtain ⟨⟨O,V⟩,T,I,h⟩:=R.bind_ok h
  dsimp only at h
  have hother:O ≠ .normal→R.ok (O,V) T=R.ok (e,s') p→c.Ok∧ax P ap X nt (.seq x y) s e s':=by
   intro N W
   cases W
   obtain ⟨j,J⟩:=eH q i K x hd.1 _ _ _ _ _ I n
   refine ⟨j,fun k=> ?_⟩
   obtain ⟨E,D⟩:=J k
   refine ⟨E,fun m0 S0 w0 m S w a f F Q C=>wp_seq (D m0 S0 w0 m S w a f F _ ?_)⟩
   intro G S' w' A u B
   have:=C G S' w' A u B
   cases e with
   |normal=>exact absurd rfl N
   |exit id=>exact this
   |ret=>exact this
   |panic v=>exact this
  cases O with
  |normal=>
   dsimp only at h
   obtain ⟨L,ih⟩:=eH q i K y hd.2 _ _ _ _ _ h n
   obtain ⟨j,J⟩:=eH q i K x hd.1 _ _ _ _ _ I L
   refine ⟨j,fun k=> ?_⟩
   obtain ⟨E,D⟩:=J k
   obtain ⟨u,B⟩:=ih E
   refine ⟨u,fun m0 S0 w0 m S w a f F Q C=>wp_seq (D m0 S0 w0 m S w a f F _ ?_)⟩
   intro G S' w' A Y h8
   exact B m0 S0 w0 G S' w' A Y h8 Q C
  |exit id=>exact hother (by simp) h
  |ret=>exact hother (by simp) h
  |panic v=>exact hother (by simp) h
 | .cond t x y,hd,s,e,s',c,p,h,n=>by
  simp only [dJ,Bool.and_eq_true] at hd
  simp only [kZ] at h
  split at h
  ·rename_i bv hbv
   obtain ⟨b',T,I,h⟩:=R.bind_ok h
   have key:∀ (z:Code),(T.Ok→T.Ok∧z=if bv then x else y)→T.Ok∧ax P ap X nt z s e s'→c.Ok∧ax P ap X nt (.cond t x y) s e s':=by
    rintro z hzz ⟨L,ih⟩
    obtain ⟨j,hb⟩:=lu I L
    refine ⟨j,fun k=> ?_⟩
    obtain ⟨u,B⟩:=ih k
    refine ⟨u,fun m0 S0 w0 m S w a f F Q C=>wp_cond (t:=bv) ?_ ?_⟩
    ·have:=xB F.srel (a:=a) (env:=s.env) t (fun t _=>F.env t)
     rw [hbv] at this
     simpa only [VR,PR] using this
    ·rw [← (hzz L).2]
     exact B m0 S0 w0 m S w a f F Q C
   cases b' with
   |true=>exact key x (fun U=> ⟨U,by rw [← (lu I U).2];rfl⟩) (eH q i K x hd.1 _ _ _ _ _ h n)
   |false=>exact key y (fun U=> ⟨U,by rw [← (lu I U).2];rfl⟩) (eH q i K y hd.2 _ _ _ _ _ h n)
  ·cases h
 | .block id b,hd,s,e,s',c,p,h,n=>by
  simp only [dJ] at hd
  simp only [kZ] at h
  obtain ⟨⟨O,V⟩,T,I,h⟩:=R.bind_ok h
  dsimp only at h
  have hcc:T=p:=by
   cases O<;>dsimp only at h
   ·cases h;rfl
   ·split at h<;>cases h<;>rfl
   ·cases h;rfl
   ·cases h;rfl
  subst hcc
  obtain ⟨j,J⟩:=eH q i K b hd _ _ _ _ _ I n
  refine ⟨j,fun k=> ?_⟩
  obtain ⟨E,D⟩:=J k
  have hs:V=s':=by
   cases O<;>dsimp only at h
   ·cases h;rfl
   ·split at h<;>cases h<;>rfl
   ·cases h;rfl
   ·cases h;rfl
  subst hs
  refine ⟨E,fun m0 S0 w0 m S w a f F Q C=>wp_block (D m0 S0 w0 m S w a f F _ ?_)⟩
  intro G S' w' A u B
  have r:=C G S' w' A u B
  cases O with
  |normal=>cases h;exact r
  |ret=>cases h;exact r
  |panic v=>cases h;exact r
  | exit id'=>
   dsimp only at h
   split at h
   ·rename_i W
    cases h
    show Exit.inBlock id Q (.exit id') A w'
    simp only [Exit.inBlock,if_pos (aP W)]
    exact r
   ·rename_i W
    cases h
    show Exit.inBlock id Q (.exit id') A w'
    have N:id' ≠ id:=by intro e;subst e;simp at W
    simp only [Exit.inBlock,if_neg N]
    exact r
 | .loop b,hd,s,e,s',c,p,h,n=>by
  simp only [dJ] at hd
  simp only [kZ] at h
  obtain ⟨j,J⟩:=Ez (fun s e s' c p h n=>eH q i K b hd s e s' c p h n) lf s e s' c p h n
  refine ⟨j,fun k=> ?_⟩
  obtain ⟨E,D⟩:=J k
  exact ⟨E,fun m0 S0 w0 m S w a f F Q C=>wp_loop_rounds lf (D m0 S0 w0 m S w a f F Q C)⟩
 | .scope b,hd,s,e,s',c,p,h,n=>by
  simp only [dJ] at hd
  simp only [kZ] at h
  obtain ⟨j,J⟩:=eH q i K b hd _ _ _ _ _ h n
  refine ⟨j,fun k=> ?_⟩
  obtain ⟨E,D⟩:=J k
  refine ⟨E,fun m0 S0 w0 m S w a f F Q C=>wp_scope_straight (D m0 S0 w0 m S w a f F _ ?_)⟩
  intro G S' w' A u B
  have r:=C G S' w' A u B
  cases e with
  |normal=>exact r
  |exit id=>exact r
  |ret=>exact r
  |panic v=>exact r
 | .rangeFunc _ _ _ _,_,s,e,s',c,p,h,n=>by cases h
 | .goto _,_,s,e,s',c,p,h,n=>by cases h
 | .refuse _,_,s,e,s',c,p,h,n=>by cases h
end
end AM
