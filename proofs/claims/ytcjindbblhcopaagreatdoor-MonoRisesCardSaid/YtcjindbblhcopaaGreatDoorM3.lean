/- The abstract machine over the code of the model, and the proof that it is sound. No conditions. -/
import Derived.Test.YtcjindbblhcopaaGreatDoorM2
import Derived.Orders
import Derived.LoopN
import Derived.Scope
set_option linter.unusedSimpArgs false
set_option linter.unusedVariables false
namespace AM
open Go
def bI (h:List bi):dU:=fun b=>h[b]?
def jQ (gh gf:dU) (m:bf) (S:aX):Nat→List AV→List Value→Prop
 |_,[],[]=>True
 |n,.own _ k _::r,v::vs=>VR gf m S (.ref n 0 0 k) v∧jQ gh gf m S (n+1) r vs
 |n,x::r,v::vs=>VR gh m S x v∧jQ gh gf m S n r vs
 |_,_,_=>False
def xA (gh gf:dU) (m:bf) (S:aX) (n:Nat):AV→Value→Prop
 | .tup l,v=> ∃ vs,v= .tuple vs.toArray∧jQ gh gf m S n l vs
 | .own _ k _,v=>VR gf m S (.ref n 0 0 k) v
 |x,v=>VR gh m S x v
def kW (n:Nat):kQ→List bi
 | .ret v=>(ku n v).2
 | .pan _=> []
def aaK (h':List bi) (m':bf) (S':aX):kQ→Ending→Prop
 | .ret v,e=> ∃ cv,e= .returned cv∧xA (bI h') (bI (h'++(ku h'.length v).2)) m' S' h'.length v cv
 | .pan v,e=> ∃ cv,e= .panicked [{v:=cv,recovered:=false}]∧VR (bI h') m' S' v cv
structure Fq (ap:AP) (h:List bi) (m:bf) (S:aX) (w:World) (out:kQ) (h':List bi) (m':bf) (S':aX) (w':World) (e:Ending):Prop where
 srel:b_ ap (bI (h'++kW h'.length out)) m' S' w'
 fr:Fr (bI h) m S w (bI (h'++kW h'.length out)) m' S' w'
 out:aaK h' m' S' out e
def yO (P:Program) (f:Nat):Prop:=∀ args w,(callFunc f args).run P w= .ok (.enter f args) w
structure au (P:Program) (ap:AP) (f:Nat) (args:List AV) (h:List bi) (out:kQ) (h':List bi):Prop where
 len:h.length≤h'.length
 ent:yO P f
 calls:∀ m S w cargs,b_ ap (bI h) m S w→bF (bI h) m S args cargs→Calls P f cargs.toArray w fun e w'=> ∃ m' S',Fq ap h m S w out h' m' S' w' e
def jZ (P:Program) (ap:AP) (H:dm):Prop:=∀ c f args h out h' md' c',H c .dead f args h= .ok (out,h',md') c'→c'.Ok→c.Ok∧au P ap f args h out h'
section
variable {P:Program} {ap:AP} {g:dU} {m:bf} {S:aX} {w:World}
mutual
theorem m_ {m:bf} {S:aX}:∀ (x:AV) {v:Value},VR (bI []) m S x v→PR S x v
 | .int _ _,_,p=>by simpa only [VR] using p
 | .bool _,_,p=>by simpa only [VR] using p
 | .str _,_,p=>by simpa only [VR] using p
 | .nilS,_,p=>by simpa only [VR] using p
 | .nilP,_,p=>by simpa only [VR] using p
 | .nilF,_,p=>by simpa only [VR] using p
 | .nilI,_,p=>by simpa only [VR] using p
 | .sl _ _ _,_,p=>by simpa only [VR] using p
 | .pp _ _,_,p=>by simpa only [VR] using p
 | .mp _ _,_,p=>by simpa only [VR] using p
 | .dead,_,_=>by simp only [PR]
 | .own _ _ _,_,p=>by simp only [VR] at p
 | .ref _ _ _ _,_,p=>by simp [VR,bI] at p
 | .ptr _ _ _,_,p=>by simp [VR,bI] at p
 | .mr _ _,_,p=>by simp [VR,bI] at p
 | .agg l,_,p=>by
  simp only [VR] at p;simp only [PR]
  obtain ⟨vs,e,q⟩:=p
  exact ⟨vs,e,kC l q⟩
 | .tup l,_,p=>by
  simp only [VR] at p;simp only [PR]
  obtain ⟨vs,e,q⟩:=p
  exact ⟨vs,e,kC l q⟩
 | .fn f a c,_,p=>by
  simp only [VR] at p;simp only [PR]
  obtain ⟨d,b,e,q,r⟩:=p
  exact ⟨d,b,e,kC a q,kC c r⟩
 | .ifc t x,_,p=>by
  simp only [VR] at p;simp only [PR]
  obtain ⟨u,e,q⟩:=p
  exact ⟨u,e,m_ x q⟩
theorem kC {m:bf} {S:aX}:∀ (l:List AV) {vs:List Value},bF (bI []) m S l vs→dL S l vs
 | [],[],_=>by simp only [dL]
 |x::r,v::vs,p=>by simp only [bF] at p;simp only [dL];exact ⟨m_ x p.1,kC r p.2⟩
 | [],_::_,p=>by simp [bF] at p
 |_::_,[],p=>by simp [bF] at p
end
theorem aak (z:b_ ap g m S w) {M l:dU} {W p:bf} {Sp S':aX} {w':World} (N:b_ ap l p S' w') (q:Fr M W Sp w l p S' w') (ι:Nat→Nat)
  (hdom:∀ i Bc,M i=some Bc→∃ B,g (ι i)=some B∧W i=m (ι i))
  (hSp:mD S Sp) (hSpN:∀ k o v,Sp k o=some v→S k o=some v∨∃ b B,g b=some B∧(m b).1=k) {gN:dU} {mN:bf} (ρ:Nat→Nat→Option (Nat × Nat)) (hρ:sH l p gN mN ρ)
  (hnew:∀ i Bc,l i=some Bc→∃ B,gN (ι i)=some B∧mN (ι i)=p i∧B.esz=Bc.esz∧B.fro=Bc.fro∧B.fz=Bc.fz∧B.pr=Bc.pr∧(Bc.pr=true→B.cells=Bc.cells)∧(Bc.pr=false→B.cells=lV ρ Bc.cells))
  (c:∀ b B,gN b=some B→(∃ i Bc,l i=some Bc∧b=ι i)∨(∃ B0,g b=some B0∧mN b=m b∧B.cells=B0.cells∧B.pr=B0.pr∧B.esz=B0.esz∧(B.fro=false→B.fz=0)∧B.fz≤B.cells.length∧(∀ i Bc,M i=some Bc→b ≠ ι i)∧(∀ o v,Sp (m b).1 o=some v→B.fro=true∧o<B.fz)))
  (hge:Ge g m gN mN):b_ ap gN mN S' w'∧Fr g m S w gN mN S' w':=by
 have r:mD S S':=hSp.trans q.sle
 have hcross:∀ b B0 i Bc,g b=some B0→l i=some Bc→(∀ i Bc,M i=some Bc→b ≠ ι i)→(m b).1 ≠ (p i).1:=by
  intro b B0 i Bc n a s e
  have hlt:=z.lt n
  rcases q.img i Bc a with d|⟨B1,d,u⟩
  ·omega
  ·obtain ⟨B2,D,F⟩:=hdom i B1 d
   rw [F] at u
   exact s i B1 d (z.inj b (ι i) B0 B2 n D (e.trans u))
 constructor
 ·refine ⟨?_, ?_,N.sealed, ?_,N.glob⟩
  ·intro b V B B' n U e
   rcases c b B n with ⟨i,Bi,a,rfl⟩|⟨B0,h0,d,_,_,_,_,_,u,_⟩<;>rcases c V B' U with ⟨j,Bj,Q,rfl⟩|⟨B0',K,I,_,_,_,_,_,T,_⟩
   ·obtain ⟨_,_,y,_⟩:=hnew i Bi a
    obtain ⟨_,_,t,_⟩:=hnew j Bj Q
    rw [y,t] at e
    rw [N.inj i j Bi Bj a Q e]
   ·obtain ⟨_,_,y,_⟩:=hnew i Bi a
    rw [y,I] at e
    exact absurd e.symm (hcross V B0' i Bi K a T)
   ·obtain ⟨_,_,t,_⟩:=hnew j Bj Q
    rw [t,d] at e
    exact absurd e (hcross b B0 j Bj h0 Q u)
   ·rw [d,I] at e
    exact z.inj b V B0 B0' h0 K e
  ·intro b B n
   rcases c b B n with ⟨i,Bi,a,rfl⟩|⟨B0,h0,d,D,F,O,Y,h7,u,_⟩
   ·obtain ⟨B1,G,y,t,R,E,Z,X,e7⟩:=hnew i Bi a
    rw [n] at G;cases G
    rw [y]
    obtain ⟨⟨cur,e,vs,rest,k1,k2,k3,k4,k5,k6⟩,k7,k8⟩:=N.blk i Bi a
    cases hp:Bi.pr with
    |true=>
     have hcells:=X hp
     refine ⟨⟨cur,e,vs,rest,by rw [t];exact k1,k2,fun _=>by rw [hcells];exact k3 hp,by rw [hcells];exact bW _ (k3 hp),by rw [t];exact k5,by rw [t];exact k6⟩,by rw [R,E];exact k7,by rw [E,hcells];exact k8⟩
    |false=>
     have hcells:=e7 hp
     have x:=kT (mD.refl S') hρ _ k4
     have J:B.cells.length=Bi.cells.length:=by rw [cZ k4,hcells,cZ x]
     refine ⟨⟨cur,e,vs,rest,by rw [t];exact k1,k2,(fun h=>by rw [Z,hp] at h;cases h),by rw [hcells];exact x,by rw [t];exact k5,by rw [t];exact k6⟩,by rw [R,E];exact k7,by rw [E,J];exact k8⟩
   ·rw [d]
    have s:∀ i Bc,M i=some Bc→(W i).1 ≠ (m b).1:=by
     intro i Bc a e
     obtain ⟨B2,L,f⟩:=hdom i Bc a
     rw [f] at e
     exact u i Bc a (z.inj b (ι i) B0 B2 h0 L e.symm)
    obtain ⟨⟨cur,e,vs,rest,k1,k2,k3,k4,k5,k6⟩,k7,k8⟩:=z.blk b B0 h0
    refine ⟨⟨cur,e,vs,rest,by rw [O];exact k1.same (q.rest _ (z.lt h0) s),k2,fun hp=>by rw [D];rw [F] at hp;exact bP r _ (k3 hp),by rw [D];exact lK r hge _ k4,by rw [O];exact k5,by rw [O];exact k6⟩,Y,h7⟩
  ·intro b B n o v x
   rcases c b B n with ⟨i,Bi,a,rfl⟩|⟨B0,h0,d,D,F,O,Y,h7,u,L⟩
   ·obtain ⟨B1,G,y,t,R,E,Z,X,e7⟩:=hnew i Bi a
    rw [n] at G;cases G
    rw [y] at x
    rw [R,E]
    exact N.own i Bi a o v x
   ·rw [d] at x
    rcases q.sealN _ _ _ x with f|f|⟨i,Bi,a,f⟩
    ·exact L o v f
    ·have:=z.lt h0;omega
    ·obtain ⟨B2,A,C⟩:=hdom i Bi a
     rw [C] at f
     exact absurd (z.inj b (ι i) B0 B2 h0 A f.symm) (u i Bi a)
 ·refine ⟨hge,r,q.os,q.tape,q.output,q.size, ?_, ?_, ?_⟩
  ·intro k hk s
   refine q.rest k hk fun i Bc a e=> ?_
   obtain ⟨B2,L,f⟩:=hdom i Bc a
   exact s (ι i) B2 L (by rw [← f];exact e)
  ·intro b B n
   rcases c b B n with ⟨i,Bi,a,rfl⟩|⟨B0,h0,d,_⟩
   ·obtain ⟨B1,G,y,_⟩:=hnew i Bi a
    rw [y]
    rcases q.img i Bi a with d|⟨B2,d,u⟩
    ·exact .inl d
    ·obtain ⟨B3,D,F⟩:=hdom i B2 d
     exact .inr ⟨B3,D,by rw [u,F]⟩
   ·exact .inr ⟨B0,h0,by rw [d]⟩
  ·intro k o v x
   rcases q.sealN _ _ _ x with f|f|⟨i,Bi,a,f⟩
   ·rcases hSpN _ _ _ f with h|h
    ·exact .inl h
    ·exact .inr (.inr h)
   ·exact .inr (.inl f)
   ·obtain ⟨B2,A,C⟩:=hdom i Bi a
    exact .inr (.inr ⟨ι i,B2,A,by rw [← C];exact f⟩)
structure FT (F:AV→AV):Prop where
 own:∀ xs n e,F (.own xs n e)= .own xs n e
 tup:∀ l,F (.tup l)= .tup (l.map F)
 not:∀ x,(∀ xs n e,x ≠ .own xs n e)→(∀ xs n e,F x ≠ .own xs n e)
 notT:∀ x,(∀ l,x ≠ .tup l)→(∀ l,F x ≠ .tup l)
theorem bJ (n:Nat) {x:AV} (h:∀ xs k e,x ≠ .own xs k e) (r:List AV):gz n (x::r)=(x::(gz n r).1,(gz n r).2):=by
 cases x<;>first|rfl|exact absurd rfl (h _ _ _)
theorem jD (n:Nat) {x:AV} (h:∀ xs k e,x ≠ .own xs k e) (a:∀ l,x ≠ .tup l):ku n x=(x,[]):=by
 cases x<;>first|rfl|exact absurd rfl (h _ _ _)|exact absurd rfl (a _)
theorem cO {gh gf:dU} {n:Nat} {x:AV} (h:∀ xs k e,x ≠ .own xs k e) {r:List AV} {v:Value} {vs:List Value}:jQ gh gf m S n (x::r) (v::vs)=(VR gh m S x v∧jQ gh gf m S n r vs):=by
 cases x<;>first|rfl|exact absurd rfl (h _ _ _)
theorem lg {gh gf:dU} {n:Nat} {x:AV} (h:∀ xs k e,x ≠ .own xs k e) (a:∀ l,x ≠ .tup l) {v:Value}:xA gh gf m S n x v=VR gh m S x v:=by
 cases x<;>first|rfl|exact absurd rfl (h _ _ _)|exact absurd rfl (a _)
theorem jO (x:AV):(∃ xs k e,x= .own xs k e)∨(∀ xs k e,x ≠ .own xs k e):=by
 cases x<;>first|exact .inl ⟨_,_,_,rfl⟩|exact .inr (fun _ _ _ h=>by cases h)
theorem zI (x:AV):(∃ l,x= .tup l)∨(∀ l,x ≠ .tup l):=by
 cases x<;>first|exact .inl ⟨_,rfl⟩|exact .inr (fun _ h=>by cases h)
theorem rG {F:AV→AV} (c:FT F):∀ (l:List AV) (a b:Nat),(gz a (l.map F)).2=(gz b l).2
 | [],a,b=>rfl
 | x::r,a,b=>by
  rcases jO x with ⟨d,k,e,rfl⟩|hx
  ·simp only [List.map_cons,c.own,gz]
   rw [rG c r (a+1) (b+1)]
  ·rw [List.map_cons,bJ a (c.not x hx),bJ b hx]
   exact rG c r a b
theorem Ah {F:AV→AV} (c:FT F) (x:AV) (a b:Nat):(ku a (F x)).2=(ku b x).2:=by
 rcases jO x with ⟨d,k,e,rfl⟩|hx
 ·rw [c.own];rfl
 ·rcases zI x with ⟨l,rfl⟩|ht
  ·rw [c.tup]
   simp only [ku]
   exact rG c l a b
  ·rw [jD a (c.not x hx) (c.notT x ht),jD b hx ht]
theorem uz {F:AV→AV} (a:FT F) {gh gf gN:dU} {m mN:bf} {S:aX} {n nid:Nat} (c:∀ x v,VR gh m S x v→VR gN mN S (F x) v) (b:∀ i k v,VR gf m S (.ref (n+i) 0 0 k) v→VR gN mN S (.ref (nid+i) 0 0 k) v):
  ∀ (l:List AV) (vs:List Value) (j:Nat),jQ gh gf m S (n+j) l vs→bF gN mN S (gz (nid+j) (l.map F)).1 vs
 | [],[],j,_=>by simp [gz,bF]
 | x::r,v::vs,j,h=>by
  rcases jO x with ⟨d,k,e,rfl⟩|hxo
  ·simp only [jQ] at h
   simp only [List.map_cons,a.own,gz,bF]
   exact ⟨b j k v h.1,by have:=uz a c b r vs (j+1);rw [← Nat.add_assoc,← Nat.add_assoc] at this;exact this h.2⟩
  ·rw [cO hxo] at h
   rw [List.map_cons,bJ _ (a.not x hxo)]
   simp only [bF]
   exact ⟨c x v h.1,uz a c b r vs j h.2⟩
 | [],_::_,_,h=>by simp [jQ] at h
 |x::r,[],_,h=>by cases x<;>simp [jQ] at h
theorem Ep {F:AV→AV} (a:FT F) {gh gf gN:dU} {m mN:bf} {S:aX} {n nid:Nat} (c:∀ x v,VR gh m S x v→VR gN mN S (F x) v) (b:∀ i k v,VR gf m S (.ref (n+i) 0 0 k) v→VR gN mN S (.ref (nid+i) 0 0 k) v)
  {x:AV} {v:Value} (h:xA gh gf m S n x v):VR gN mN S (ku nid (F x)).1 v:=by
 rcases jO x with ⟨d,k,e,rfl⟩|hxo
 ·simp only [xA] at h
  rw [a.own]
  exact b 0 k v h
 ·rcases zI x with ⟨l,rfl⟩|ht
  ·simp only [xA] at h
   obtain ⟨vs,e,h⟩:=h
   rw [a.tup]
   simp only [ku,VR]
   exact ⟨vs,e,uz a c b l vs 0 h⟩
  ·rw [lg hxo ht] at h
   rw [jD _ (a.not x hxo) (a.notT x ht)]
   exact c x v h
theorem Kz:FT id:=⟨fun _ _ _=>rfl,fun l=>by simp,fun _ h=>h,fun _ h=>h⟩
theorem Ld (ρ:Nat→Nat→Option (Nat × Nat)):∀ l,lV ρ l=l.map (ren ρ)
 | []=>rfl
 |x::r=>by simp [lV,Ld ρ r]
theorem GH (ρ:Nat→Nat→Option (Nat × Nat)):FT (ren ρ):=by
 refine ⟨fun _ _ _=>rfl,fun l=>by simp [ren,Ld], ?_, ?_⟩
 ·intro x h b n e a
  cases x<;>simp only [ren] at a<;>first
   |(cases a;done)
   |(split at a<;>cases a;done)
   |exact h _ _ _ rfl
 ·intro x h l a
  cases x<;>simp only [ren] at a<;>first
   |(cases a;done)
   |(split at a<;>cases a;done)
   |exact h _ rfl
theorem zg:∀ (bs:List bi) (n b:Nat),aG (DZ n bs) b=if n≤b then bs[b - n]? else none
 | [],n,b=>by simp [DZ,aG]
 | B::r,n,b=>by
  simp only [DZ,aG]
  cases h:Nat.beq n b with
  |true=>
   have:=aO h
   subst this
   simp
  | false=>
   have c:n ≠ b:=by intro e;subst e;simp at h
   rw [zg r (n+1) b]
   by_cases hle:n≤b
   ·rw [if_pos hle,if_pos (show n+1≤b by omega)]
    obtain ⟨d,a⟩:∃ d,b - n=d+1:=⟨b - n - 1,by omega⟩
    rw [a,List.getElem?_cons_succ,show b - (n+1)=d by omega]
   ·rw [if_neg hle,if_neg (show ¬ n+1≤b by omega)]
theorem GM {rd:dU} {mk:bi→bi}:∀ (fp:List Nat) (b:Nat),aG (fp.filterMap fun b=>(rd b).map fun B=>(b,mk B)) b=if b ∈ fp then (rd b).map mk else none
 | [],b=>by simp [aG]
 | a::r,b=>by
  have f:=GM (rd:=rd) (mk:=mk) r b
  cases c:rd a with
  |none=>
   rw [List.filterMap_cons_none (by simp [c]),f]
   by_cases hab:b=a
   ·subst hab;simp [c]
   ·simp [hab]
  | some B=>
   rw [List.filterMap_cons_some (by simp [c];rfl)]
   simp only [aG]
   cases h:Nat.beq a b with
   |true=>have:=aO h;subst this;simp [c]
   |false=>
    have d:b ≠ a:=by intro e;subst e;simp at h
    simp only [f,List.mem_cons,d,false_or]
end
end AM
namespace AM
open Go
def aaL (g:dU) (m:bf) (S:aX):kQ→Ending→Prop
 | .ret v,e=> ∃ cv,e= .returned cv∧VR g m S v cv
 | .pan v,e=> ∃ cv,e= .panicked [{v:=cv,recovered:=false}]∧VR g m S v cv
def WR (ap:AP) (g:dU) (m:bf) (S:aX) (w:World) (out:kQ) (ups:List (Nat × bi)) (e:Ending) (w':World):Prop:=
 ∃ m' S',b_ ap (d_ g ups) m' S' w'∧Fr g m S w (d_ g ups) m' S' w'∧aaL (d_ g ups) m' S' out e
theorem fO {h a:List bi} {b:Nat} (c:b<h.length):bI (h++a) b=bI h b:=by
 simp [bI,List.getElem?_append_left c]
theorem jv {h a:List bi} {b:Nat} (c:h.length≤b):bI (h++a) b=bI a (b - h.length):=by
 simp [bI,List.getElem?_append_right c]
def qP (l:List bi):Prop:=∀ B ∈ l,B.pr=true∧B.fro=false∧B.ver=0
theorem rJ:∀ (l:List AV) (n:Nat),qP (gz n l).2
 | [],n=>by simp [gz,qP]
 | x::r,n=>by
  rcases jO x with ⟨b,k,e,rfl⟩|hx
  ·simp only [gz]
   intro B a
   rcases List.mem_cons.1 a with rfl|a
   ·exact ⟨rfl,rfl,rfl⟩
   ·exact rJ r (n+1) B a
  ·rw [bJ n hx];exact rJ r n
theorem Lc (x:AV) (n:Nat):qP (ku n x).2:=by
 rcases jO x with ⟨b,k,e,rfl⟩|hx
 ·intro B a
  simp [ku] at a
  subst a
  exact ⟨rfl,rfl,rfl⟩
 ·rcases zI x with ⟨l,rfl⟩|ht
  ·simp only [ku];exact rJ l n
  ·rw [jD n hx ht];simp [qP]
theorem Ag (o:kQ) (n:Nat):qP (kW n o):=by
 cases o with
 |ret v=>exact Lc v n
 |pan v=>simp [kW,qP]
section
variable {P:Program} {ap:AP} {g:dU} {m:bf} {S:aX} {w:World}
def I8 (nid:Nat) (F:AV→AV):kQ→kQ
 | .ret v=> .ret (ku nid (F v)).1
 | .pan v=> .pan (F v)
theorem zQ (q:b_ ap g m S w) {rd:dU} (j:∀ b B,rd b=some B→g b=some B) {L:List Nat} (M:∀ b B,rd b=some B→b ∈ L) {nid:Nat} {args args':List AV} {cargs:List Value} {out:kQ}
  (ha:kN (frz rd 6) args=some args') (hv:bF g m S args cargs) {C:List Value→(Ending→World→Prop)→Prop} (hmono:∀ cargs R R',C cargs R→(∀ e w',R e w'→R' e w')→C cargs R')
  (f:∀ m1 S1,mD S S1→b_ ap (bI []) m1 S1 w→bF (bI []) m1 S1 args' cargs→C cargs fun e w'=> ∃ m' S',Fq ap [] m1 S1 w out [] m' S' w' e) (hfr:∀ i,i<(kW 0 out).length→g (nid+i)=none):
  C cargs fun e w'=>WR ap g m S w (I8 nid id out) (DZ nid (kW 0 out)++L.filterMap fun b=>(rd b).map fun B=>(b,{B with fro:=true,fz:=B.cells.length})) e w':=by
 have N:dL (dV S m rd w) args' cargs:=tu (fun x v y a d=>lq q j 6 x v y a d) ha hv
 have u:=mQ S m rd w
 let m0:bf:=fun _=>(0,0)
 have X:b_ ap (bI []) m0 (dV S m rd w) w:=by
  refine ⟨fun b b' B B' h=>by simp [bI] at h,fun b B h=>by simp [bI] at h,fun k o v h=>oZ q h,fun b B h=>by simp [bI] at h, ?_⟩
  intro k xs hk
  obtain ⟨vs,a,d⟩:=q.glob k xs hk
  exact ⟨vs,bP u _ a,d.mono u⟩
 refine hmono _ _ _ (f m0 (dV S m rd w) u X (bW _ N)) ?_
 rintro e w' ⟨m',S',hF⟩
 obtain ⟨z,p,l⟩:=hF
 simp only [List.nil_append,List.length_nil] at z p l
 generalize E:kW 0 out=bs at z p hfr
 have D:qP bs:=E ▸ Ag out 0
 let gN:dU:=d_ g (DZ nid bs++L.filterMap fun b=>(rd b).map fun B=>(b,{B with fro:=true,fz:=B.cells.length}))
 let mN:bf:=fun b=>if nid≤b∧b - nid<bs.length then m' (b - nid) else m b
 have s:∀ b,gN b=if nid≤b∧b - nid<bs.length then bs[b - nid]? else match rd b with|some B=>some {B with fro:=true,fz:=B.cells.length}|none=>g b:=by
  intro b
  show d_ g _ b=_
  unfold d_
  have Z:∀ mk:bi→bi,(if b ∈ L then (rd b).map mk else none)=(rd b).map mk:=by
   intro mk
   split
   ·rfl
   ·rename_i c
    cases r:rd b with
    |none=>rfl
    |some B=>exact absurd (M b B r) c
  rw [iy,zg,GM,Z]
  by_cases a:nid≤b
  ·by_cases d:b - nid<bs.length
   ·have f:nid≤b∧b - nid<bs.length:=⟨a,d⟩
    rw [if_pos a,if_pos f,List.getElem?_eq_getElem d]
   ·have f:¬ (nid≤b∧b - nid<bs.length):=fun h=>d h.2
    rw [if_pos a,if_neg f,List.getElem?_eq_none (Nat.le_of_not_lt d)]
    cases rd b<;>rfl
  ·have f:¬ (nid≤b∧b - nid<bs.length):=fun h=>a h.1
   rw [if_neg a,if_neg f]
   cases rd b<;>rfl
 have hnidg:∀ b B,g b=some B→¬ (nid≤b∧b - nid<bs.length):=by
  rintro b B c ⟨a,d⟩
  have:=hfr (b - nid) d
  rw [show nid+(b - nid)=b by omega,c] at this
  cases this
 have Q:Ge g m gN mN:=by
  intro b B c
  have hn:=hnidg b B c
  have J:mN b=m b:=if_neg hn
  rw [s,if_neg hn]
  cases r:rd b with
  |none=>exact ⟨B,c,rfl,.inl ⟨rfl,J⟩⟩
  |some B1=>
   have:=j b B1 r
   rw [c] at this;cases this
   exact ⟨_,rfl,rfl,.inl ⟨rfl,J⟩⟩
 have A:∀ i B,bs[i]? =some B→gN (nid+i)=some B∧mN (nid+i)=m' i:=by
  intro i B F
  have hl:=(List.getElem?_eq_some_iff.1 F).1
  have f:nid≤nid+i∧nid+i - nid<bs.length:=by omega
  refine ⟨by rw [s,if_pos f,show nid+i - nid=i by omega];exact F, ?_⟩
  show (if _ then _ else _)=_
  rw [if_pos f,show nid+i - nid=i by omega]
 obtain ⟨Y,U⟩:=aak (g:=g) (m:=m) (S:=S) (w:=w) q z p (fun i=>nid+i) (fun i Bc h=>by simp [bI] at h) u
  (fun k o v h=>(gB h).imp id fun ⟨_,b,B,a,d,_⟩=> ⟨b,B,j b B a,d⟩) (gN:=gN) (mN:=mN) (fun i v=>some (nid+i,v))
  (by
   intro b ver b' ver' h B hB G
   simp only [Option.some.injEq,Prod.mk.injEq] at h
   obtain ⟨rfl,rfl⟩:=h
   obtain ⟨a,d⟩:=A b B hB
   exact ⟨B,a,G,fun e=> ⟨e,d,rfl⟩⟩)
  (by
   intro i Bc F
   obtain ⟨a,d⟩:=A i Bc F
   exact ⟨Bc,a,d,rfl,rfl,rfl,rfl,fun _=>rfl,fun hp=>by rw [(D Bc (List.mem_of_getElem? F)).1] at hp;cases hp⟩)
  (by
   intro b B c
   by_cases f:nid≤b∧b - nid<bs.length
   ·rw [s,if_pos f] at c
    exact .inl ⟨b - nid,B,c,by omega⟩
   ·have J:mN b=m b:=if_neg f
    rw [s,if_neg f] at c
    right
    cases r:rd b with
    | none=>
     rw [r] at c
     have c:g b=some B:=c
     refine ⟨B,c,J,rfl,rfl,rfl,(q.blk b B c).fz0,(q.blk b B c).fzle,(fun i Bc h=>by simp [bI] at h), ?_⟩
     intro o v T
     rcases gB T with h|⟨_,O,B1,a,d,_⟩
     ·exact q.own b B c o v h
     ·have:=q.inj O b B1 B (j _ _ a) c d
      subst this
      rw [a] at r;cases r
    | some B1=>
     rw [r] at c
     have c:some {B1 with fro:=true,fz:=B1.cells.length}=some B:=c
     cases c
     have t:=j b B1 r
     refine ⟨B1,t,J,rfl,rfl,rfl,(fun h=>by cases h),Nat.le_refl _,(fun i Bc h=>by simp [bI] at h), ?_⟩
     intro o v T
     refine ⟨rfl, ?_⟩
     rcases gB T with h|⟨_,O,B2,a,d,V⟩
     ·exact Nat.lt_of_lt_of_le (q.own b B1 t o v h).2 (q.blk b B1 t).fzle
     ·have:=q.inj O b B2 B1 (j _ _ a) t d
      subst this
      rw [a] at r;cases r
      exact V)
  Q
 refine ⟨mN,S',Y,U, ?_⟩
 show aaL gN mN S' (I8 nid id out) e
 cases out with
 |ret v=>
  obtain ⟨cv,W,a⟩:=l
  refine ⟨cv,W, ?_⟩
  have I:(ku 0 v).2=bs:=E
  simp only [List.length_nil,List.nil_append,I] at a
  refine Ep (n:=0) Kz (fun x v K=>iQ x (m_ x K)) ?_ a
  intro i k v K
  rw [Nat.zero_add] at K
  simp only [VR] at K ⊢
  obtain ⟨B,d,V,h4,h5⟩:=K
  obtain ⟨h6,h7⟩:=A i B d
  exact ⟨B,h6,V,h4,by rw [h7];exact h5⟩
 |pan v=>
  obtain ⟨cv,W,a⟩:=l
  exact ⟨cv,W,iQ _ (m_ _ a)⟩
end
end AM
namespace AM
open Go
theorem KO {b:Nat} {r:List Nat} (h:ru (b::r)=true):b ∉ r∧ru r=true:=by
 simp only [ru,Bool.and_eq_true,Bool.not_eq_true'] at h
 refine ⟨fun a=> ?_,h.2⟩
 rw [jg.2 a] at h
 cases h.1
theorem qB:∀ {l:List Nat} {b p:Nat},pF l b=some p→l[p]? =some b
 | [],b,p,h=>by simp [pF] at h
 | c::r,b,p,h=>by
  simp only [pF] at h
  split at h
  ·rename_i d;cases h;rw [aO d];rfl
  ·simp only [Option.map_eq_some_iff] at h
   obtain ⟨q,a,rfl⟩:=h
   simpa using qB a
theorem oQ:∀ {l:List Nat} {b p:Nat},ru l=true→l[p]? =some b→pF l b=some p
 | [],b,p,_,h=>by simp at h
 |c::r,b,0,hn,h=>by simp at h;subst h;simp [pF]
 | c::r,b,p+1,hn,h=>by
  obtain ⟨f,d⟩:=KO hn
  have h:r[p]? =some b:=by simpa using h
  have a:Nat.beq c b=false:=by
   cases e:Nat.beq c b with
   |false=>rfl
   |true=>exact absurd (aO e ▸ List.mem_of_getElem? h) f
  simp [pF,a,oQ d h]
theorem KI {mk:Nat→bi→bi}:∀ (fp:List Nat) (h':List bi) (b:Nat),aG ((L8 fp h').map fun (b,B)=>(b,mk b B)) b=(pF fp b).bind fun p=>(h'[p]?).map (mk b)
 | [],h',b=>by cases h'<;>simp [L8,aG,pF]
 |a::r,[],b=>by
  simp only [L8,List.map_nil,aG,pF]
  cases Nat.beq a b with
  |true=>rfl
  |false=>cases pF r b<;>rfl
 | a::r,B::q,b=>by
  simp only [L8,List.map_cons,aG,pF]
  cases h:Nat.beq a b with
  |true=>have:=aO h;subst this;rfl
  |false=>
   simp only [KI r q b]
   cases pF r b<;>simp
section
variable {P:Program} {ap:AP} {g:dU} {m:bf} {S:aX} {w:World}
def Jt (ρ:Nat→Nat→Option (Nat × Nat)) (B:bi):bi:={B with cells:=(match B.pr with|true=>B.cells|false=>lV ρ B.cells),ver:=0}
theorem ar1 {a b n i:Nat} (h:b≤a):n+(a+i - b)=n+(a - b)+i:=by omega
theorem ar2 {a b i:Nat} (h:b≤a):b+(a+i - b)=a+i:=by omega
theorem Xj {ρ:Nat→Nat→Option (Nat × Nat)} {l:List bi} (h:qP l):l.map (Az ρ 0)=l:=by
 induction l with
 |nil=>rfl
 |cons B r ih=>
  rw [List.map_cons,ih fun B d=>h B (by simp [d])]
  obtain ⟨a,_,b⟩:=h B (by simp)
  obtain ⟨c,v,f,z,e,p⟩:=B
  simp only at a b
  subst a b
  rfl
theorem zS (L:b_ ap g m S w) {rd:dU} (hrd:∀ b B,rd b=some B→g b=some B) {a:List Nat} {M:List bi} (hbl:kN rd a=some M) (D:ru a=true) {nid:Nat} {args:List AV} {cargs:List Value} {out:kQ}
  {vers:Nat→Nat} (hvers:∀ b B,rd b=some B→vers b=B.ver) {ρ ρ':Nat→Nat→Option (Nat × Nat)} (hρe:∀ b v,ρ b v=match Nat.beq v (vers b) with|true=>(pF a b).map fun p=>(p,0)|false=>none)
  {h':List bi} (hρe':ρ'=OO nid a vers h'.length)
  (hv:bF g m S args cargs) {C:List Value→(Ending→World→Prop)→Prop} (hmono:∀ cargs R R',C cargs R→(∀ e w',R e w'→R' e w')→C cargs R')
  (t:∀ m1 S1,mD S S1→b_ ap (bI (M.map (Jt ρ))) m1 S1 w→bF (bI (M.map (Jt ρ))) m1 S1 (lV ρ args) cargs→C cargs fun e w'=> ∃ m' S',Fq ap (M.map (Jt ρ)) m1 S1 w out h' m' S' w' e) (hl:a.length≤h'.length) (hfr:∀ i,i<(h'.length - a.length)+(kW h'.length out).length→g (nid+i)=none):
  C cargs fun e w'=>WR ap g m S w (I8 (nid+(h'.length - a.length)) (ren ρ') out) (DZ nid ((h'.drop a.length).map (Az ρ' 0)++kW h'.length out)++(L8 a h').map fun (b,B)=>(b,Az ρ' (vers b) B)) e w':=by
 have r:∀ p b,a[p]? =some b→∃ B,rd b=some B∧g b=some B∧bI (M.map (Jt ρ)) p=some (Jt ρ B):=by
  intro p b hp
  obtain ⟨B,c,d⟩:=(jy hbl).2 p b hp
  exact ⟨B,d,hrd b B d,by simp [bI,c]⟩
 have y:∀ p Bc,bI (M.map (Jt ρ)) p=some Bc→∃ b B,a[p]? =some b∧rd b=some B∧g b=some B∧Bc=Jt ρ B:=by
  intro p Bc hp
  have z:p<a.length:=by
   have:=(List.getElem?_eq_some_iff.1 hp).1
   rw [List.length_map,(jy hbl).1] at this
   exact this
  obtain ⟨B,c,d,f⟩:=r p _ (List.getElem?_eq_getElem z)
  rw [f] at hp;cases hp
  exact ⟨_,B,List.getElem?_eq_getElem z,c,d,rfl⟩
 let mc:bf:=fun p=>m (a.getD p 0)
 have l:∀ p b,a[p]? =some b→mc p=m b:=by
  intro p b hp
  show m (a.getD p 0)=_
  rw [List.getD_eq_getElem?_getD,hp];rfl
 have O:sH g m (bI (M.map (Jt ρ))) mc ρ:=by
  intro b ver X I h B K G
  rw [hρe] at h
  split at h
  ·rename_i hve
   simp only [Option.map_eq_some_iff,Prod.mk.injEq] at h
   obtain ⟨p,hp,rfl,rfl⟩:=h
   have hp:=qB hp
   obtain ⟨B1,c,d,f⟩:=r p b hp
   rw [d] at K;cases K
   exact ⟨_,f,Nat.zero_le _,fun _=> ⟨by rw [aO hve,hvers b _ c],l p b hp,rfl⟩⟩
  ·cases h
 have hSc:b_ ap (bI (M.map (Jt ρ))) mc S w:=by
  refine ⟨?_, ?_,L.sealed, ?_,L.glob⟩
  ·intro p q Bp Bq hp hq e
   obtain ⟨b,B,c,d,f,_⟩:=y p Bp hp
   obtain ⟨X,B',h1',h2',h3',_⟩:=y q Bq hq
   rw [l p b c,l q X h1'] at e
   have:=L.inj b X B B' f h3' e
   subst this
   have W:=oQ D c
   rw [oQ D h1'] at W
   cases W;rfl
  ·intro p Bp hp
   obtain ⟨b,B,c,d,f,rfl⟩:=y p Bp hp
   rw [l p b c]
   obtain ⟨⟨cur,e,vs,rest,k1,k2,k3,k4,k5,k6⟩,k7,k8⟩:=L.blk b B f
   cases hp:B.pr with
   |true=>exact ⟨⟨cur,e,vs,rest,k1,k2,fun _=>by simpa [Jt,hp] using k3 hp,by simpa [Jt,hp] using bW _ (k3 hp),k5,k6⟩,k7,by simpa [Jt,hp] using k8⟩
   | false=>
    have hv:=kT (mD.refl S) O _ k4
    exact ⟨⟨cur,e,vs,rest,k1,k2,fun h=>by simp [Jt,hp] at h,by simpa [Jt,hp] using hv,k5,k6⟩,k7,by
     have:(Jt ρ B).cells.length=B.cells.length:=by simp only [Jt,hp];rw [cZ k4,cZ hv]
     rw [this];exact k8⟩
  ·intro p Bp hp o v ho
   obtain ⟨b,B,c,d,f,rfl⟩:=y p Bp hp
   rw [l p b c] at ho
   exact L.own b B f o v ho
 refine hmono _ _ _ (t mc S (mD.refl S) hSc (kT (mD.refl S) O _ hv)) ?_
 rintro e w' ⟨m',S',hF⟩
 obtain ⟨hsr,F,Q⟩:=hF
 generalize hbs:kW h'.length out=bs0 at hsr F hfr
 have Z:qP bs0:=hbs ▸ Ag out h'.length
 obtain ⟨bs,E⟩:∃ bs,bs=h'.drop a.length++bs0:=⟨_,rfl⟩
 have hbsl:bs.length=(h'.length - a.length)+bs0.length:=by rw [E,List.length_append,List.length_drop]
 rw [← hbsl] at hfr
 let ups:=(L8 a h').map fun (b,B)=>(b,Az ρ' (vers b) B)
 rw [show (h'.drop a.length).map (Az ρ' 0)++bs0=bs.map (Az ρ' 0) by rw [E,List.map_append,Xj Z]]
 let gN:dU:=d_ g (DZ nid (bs.map (Az ρ' 0))++ups)
 let mN:bf:=fun b=>if nid≤b∧b - nid<bs.length then m' (a.length+(b - nid)) else match pF a b with|some p=>m' p|none=>m b
 have J:∀ b,gN b=if nid≤b∧b - nid<bs.length then (bs[b - nid]?).map (Az ρ' 0) else match (pF a b).bind fun p=>(h'[p]?).map (Az ρ' (vers b)) with|some B=>some B|none=>g b:=by
  intro b
  show d_ g _ b=_
  unfold d_
  rw [iy,zg,KI (mk:=fun b B=>Az ρ' (vers b) B)]
  by_cases c:nid≤b
  ·by_cases d:b - nid<bs.length
   ·have t:nid≤b∧b - nid<bs.length:=⟨c,d⟩
    rw [if_pos c,if_pos t,List.getElem?_map,List.getElem?_eq_getElem d]
    rfl
   ·have t:¬ (nid≤b∧b - nid<bs.length):=fun h=>d h.2
    rw [if_pos c,if_neg t,List.getElem?_map,List.getElem?_eq_none (Nat.le_of_not_lt d)]
    rfl
  ·have t:¬ (nid≤b∧b - nid<bs.length):=fun h=>c h.1
   rw [if_neg c,if_neg t]
   rfl
 have hnidg:∀ b B,g b=some B→¬ (nid≤b∧b - nid<bs.length):=by
  rintro b B j ⟨c,d⟩
  have:=hfr (b - nid) d
  rw [show nid+(b - nid)=b by omega,j] at this
  cases this
 have hh':∀ p,p<a.length→∃ B,h'[p]? =some B:=fun p hp=> ⟨_,List.getElem?_eq_getElem (by omega)⟩
 have T:∀ p b,a[p]? =some b→∀ Bc,h'[p]? =some Bc→gN b=some (Az ρ' (vers b) Bc)∧mN b=m' p:=by
  intro p b hp Bc K
  obtain ⟨B,c,d,f⟩:=r p b hp
  have hn:=hnidg b B d
  refine ⟨by rw [J,if_neg hn,oQ D hp];simp [K], ?_⟩
  show (if _ then _ else _)=_
  rw [if_neg hn,oQ D hp]
 have U:∀ i B,bs[i]? =some B→gN (nid+i)=some (Az ρ' 0 B)∧mN (nid+i)=m' (a.length+i):=by
  intro i B A
  have hl:=(List.getElem?_eq_some_iff.1 A).1
  have t:nid≤nid+i∧nid+i - nid<bs.length:=by omega
  refine ⟨by rw [J,if_pos t,show nid+i - nid=i by omega,A];rfl, ?_⟩
  show (if _ then _ else _)=_
  rw [if_pos t,show nid+i - nid=i by omega]
 have V:∀ p,a.length≤p→bI (h'++bs0) p=bs[p - a.length]? :=by
  intro p hp
  have he:h'++bs0=h'.take a.length++bs:=by rw [E,← List.append_assoc,List.take_append_drop]
  have z:(h'.take a.length).length=a.length:=by rw [List.length_take];omega
  rw [he,jv (by omega),z]
  rfl
 have s:∀ p Bc,bI (h'++bs0) p=some Bc→(p<a.length∧h'[p]? =some Bc)∨(a.length≤p∧bs[p - a.length]? =some Bc):=by
  intro p Bc h
  by_cases hp:p<a.length
  ·rw [fO (by omega)] at h;exact .inl ⟨hp,h⟩
  ·rw [V p (by omega)] at h;exact .inr ⟨by omega,h⟩
 have hren':sH (bI (h'++bs0)) m' gN mN ρ':=by
  intro p ver X I h Bc K G
  rw [hρe'] at h
  unfold OO at h
  split at h
  ·rename_i b hp
   cases h
   rcases s p Bc K with ⟨c,d⟩|⟨c,_⟩
   ·obtain ⟨f,u⟩:=T p _ hp Bc d
    exact ⟨_,f,by simp only [Az];omega,fun e=> ⟨by simp only [Az] at e;omega,u,rfl⟩⟩
   ·have:=(List.getElem?_eq_some_iff.1 hp).1;omega
  ·rename_i hp
   split at h
   ·cases h
    have hge:=List.getElem?_eq_none_iff.1 hp
    rcases s p Bc K with ⟨c,_⟩|⟨c,d⟩
    ·omega
    ·obtain ⟨f,u⟩:=U _ Bc d
     exact ⟨_,f,by simp only [Az];omega,fun e=> ⟨by simp only [Az] at e;omega,by rw [u,show a.length+(p - a.length)=p by omega],rfl⟩⟩
   ·cases h
 have hge:Ge g m gN mN:=by
  intro b B j
  have hn:=hnidg b B j
  cases A:pF a b with
  | none=>
   have hm:mN b=m b:=by
    show (if _ then _ else _)=_
    rw [if_neg hn,A]
   refine ⟨B, ?_,rfl,.inl ⟨rfl,hm⟩⟩
   rw [J,if_neg hn,A];exact j
  | some p=>
   have hp:=qB A
   obtain ⟨B1,c,d,f⟩:=r p b hp
   rw [d] at j;cases j
   obtain ⟨Bc,u,h5,N⟩:=F.ge p _ f
   rcases s p Bc u with ⟨_,Y⟩|⟨Y,_⟩
   ·obtain ⟨h8,h9⟩:=T p b hp Bc Y
    refine ⟨_,h8,h5, ?_⟩
    rcases N with ⟨N,h6'⟩|N
    ·left
     refine ⟨?_,by rw [h9,h6',l p b hp]⟩
     simp only [Az,Jt] at N ⊢
     rw [hvers b _ c];omega
    ·right
     simp only [Az,Jt] at N ⊢
     rw [hvers b _ c];omega
   ·have:=(List.getElem?_eq_some_iff.1 hp).1;omega
 let ι:Nat→Nat:=fun p=>if p<a.length then a.getD p 0 else nid+(p - a.length)
 have hι:∀ p b,a[p]? =some b→ι p=b:=by
  intro p b hp
  show (if _ then _ else _)=_
  rw [if_pos (List.getElem?_eq_some_iff.1 hp).1,List.getD_eq_getElem?_getD,hp];rfl
 have hι':∀ i,ι (a.length+i)=nid+i:=by
  intro i
  show (if _ then _ else _)=_
  rw [if_neg (by omega)];congr 1;omega
 obtain ⟨hsN,hfN⟩:=aak (g:=g) (m:=m) (S:=S) (w:=w) L hsr F ι
  (by
   intro p Bc hp
   obtain ⟨b,B,c,d,f,rfl⟩:=y p Bc hp
   rw [hι p b c]
   exact ⟨B,f,l p b c⟩) (mD.refl S) (fun k o v h=> .inl h) (gN:=gN) (mN:=mN) ρ' hren'
  (by
   intro p Bc hp
   rcases s p Bc hp with ⟨c,d⟩|⟨c,d⟩
   ·have hp:=List.getElem?_eq_getElem c
    obtain ⟨f,u⟩:=T p _ hp Bc d
    rw [hι p _ hp]
    exact ⟨_,f,u,rfl,rfl,rfl,rfl,fun h=>by simp [Az,h],fun h=>by simp [Az,h]⟩
   ·obtain ⟨i,rfl⟩:∃ i,p=a.length+i:=⟨p - a.length,by omega⟩
    rw [show a.length+i - a.length=i by omega] at d
    obtain ⟨f,u⟩:=U i Bc d
    rw [hι' i]
    exact ⟨_,f,u,rfl,rfl,rfl,rfl,fun h=>by simp [Az,h],fun h=>by simp [Az,h]⟩)
  (by
   intro b B j
   by_cases t:nid≤b∧b - nid<bs.length
   ·rw [J,if_pos t,Option.map_eq_some_iff] at j
    obtain ⟨Bc,j,_⟩:=j
    refine .inl ⟨a.length+(b - nid),Bc, ?_,by rw [hι'];omega⟩
    rw [V _ (by omega),show a.length+(b - nid) - a.length=b - nid by omega];exact j
   ·rw [J,if_neg t] at j
    cases A:pF a b with
    |some p=>
     have hp:=qB A
     have z:=(List.getElem?_eq_some_iff.1 hp).1
     obtain ⟨Bc,u⟩:=hh' p z
     exact .inl ⟨p,Bc,by rw [fO (by omega)];exact u,(hι p b hp).symm⟩
    | none=>
     have hm:mN b=m b:=by
      show (if _ then _ else _)=_
      rw [if_neg t,A]
     rw [A] at j
     have j:g b=some B:=j
     refine .inr ⟨B,j,hm,rfl,rfl,rfl,(L.blk b B j).fz0,(L.blk b B j).fzle, ?_,fun o v ho=>L.own b B j o v ho⟩
     intro p Bc hp e
     obtain ⟨b1,B1,c,_⟩:=y p Bc hp
     rw [hι p b1 c] at e
     subst e
     rw [oQ D c] at A;cases A)
  hge
 refine ⟨mN,S',hsN,hfN, ?_⟩
 show aaL gN mN S' (I8 (nid+(h'.length - a.length)) (ren ρ') out) e
 have hrenh:sH (bI h') m' gN mN ρ':=by
  intro p ver X I h Bc K G
  refine hren' p ver X I h Bc ?_ G
  rw [fO (List.getElem?_eq_some_iff.1 K).1];exact K
 cases out with
 |ret v=>
  obtain ⟨cv,W,c⟩:=Q
  refine ⟨cv,W, ?_⟩
  have hbs':(ku h'.length v).2=bs0:=hbs
  rw [hbs'] at c
  refine Ep (n:=h'.length) (GH ρ') (fun x v hx=>yP (mD.refl S') hrenh x hx) ?_ c
  intro i k v hx
  simp only [VR] at hx ⊢
  obtain ⟨B,d,f,u,h5⟩:=hx
  rw [V _ (Nat.le_trans hl (Nat.le_add_right _ _))] at d
  obtain ⟨N,Y⟩:=U _ B d
  rw [ar1 hl] at N Y
  rw [ar2 hl] at Y
  exact ⟨_,N,Nat.zero_le _,u,fun e=>by rw [Y];exact h5 (by simpa [Az] using e)⟩
 |pan v=>
  obtain ⟨cv,W,c⟩:=Q
  exact ⟨cv,W,yP (mD.refl S') hrenh _ c⟩
end
end AM
namespace AM
open Go
section
variable {P:Program} {ap:AP} {H:dm}
theorem xK {n:dU} {nid f:Nat} {args:List AV} {md:AV} {c D:Cx} {r:SY} (h:tN ap H n nid md f args c= .ok r D):
  ∃ args0 h0 out0 h0',H c md f args0 h0= .ok (out0,h0',r.md) D∧((∃ v,out0= .ret v)↔∃ v,r.out= .ret v)∧
  ∀ g m S w cargs (C:List Value→(Ending→World→Prop)→Prop),(∀ cargs R R',C cargs R→(∀ e w',R e w'→R' e w')→C cargs R')→b_ ap g m S w→(∀ b ∈ r.fp,∀ B,n b=some B→g b=some B)→(∀ i,i<4→g (nid+i)=none)→bF g m S args cargs→
   (∀ m1 S1,mD S S1→b_ ap (bI h0) m1 S1 w→bF (bI h0) m1 S1 args0 cargs→C cargs fun e w'=> ∃ m' S',Fq ap h0 m1 S1 w out0 h0' m' S' w' e)→
   C cargs fun e w'=>WR ap g m S w r.out r.ups e w':=by
 unfold tN at h
 simp only at h
 generalize E:sU n 6 (jB (dw args))=fp at h
 let rd:dU:=fun b=>match pM fp b with|true=>n b|false=>none
 have a:∀ b B,rd b=some B→b ∈ fp∧n b=some B:=by
  intro b B d
  dsimp only [rd] at d
  split at d
  ·rename_i F;exact ⟨jg.1 F,d⟩
  ·cases d
 split at h
 ·split at h
  ·cases h
  ·rename_i args' z
   obtain ⟨⟨out,u,md⟩,G,x,h⟩:=R.bind_ok h
   dsimp only at h
   split at h
   ·cases h
   ·split at h
    ·rename_i v
     split at h
     ·rename_i o
      cases h
      refine ⟨_,_,_,_,x,⟨fun _=> ⟨_,rfl⟩,fun _=> ⟨_,rfl⟩⟩, ?_⟩
      intro g m S w cargs C hmono s k l q t
      have j:kW 0 (kQ.ret v)=(ku nid v).2:=Ah Kz v 0 nid
      have:=zQ s (rd:=rd) (fun b B d=>k b (a b B d).1 B (a b B d).2) (fun b B d=>(a b B d).1) (nid:=nid) z q hmono t (fun i p=>l i (by rw [j] at p;have:=gU o;omega))
      rw [j] at this
      exact this
     ·cases h
    ·rename_i v
     cases h
     refine ⟨_,_,_,_,x,⟨(fun ⟨_,h⟩=>by cases h),(fun ⟨_,h⟩=>by cases h)⟩, ?_⟩
     intro g m S w cargs C hmono s k l q t
     exact zQ s (rd:=rd) (fun b B d=>k b (a b B d).1 B (a b B d).2) (fun b B d=>(a b B d).1) (nid:=nid) z q hmono t (fun i p=>by simp [kW] at p)
 ·split at h
  ·cases h
  ·rename_i I y
   obtain ⟨⟨out,u,md⟩,G,x,h⟩:=R.bind_ok h
   dsimp only at h
   split at h
   ·cases h
   ·rename_i hcond
    simp only [Bool.and_eq_true] at hcond
    have A:=gU hcond.1
    let vers:Nat→Nat:=fun b=>match rd b with|some B=>B.ver|none=>0
    have hvers':∀ b B,rd b=some B→vers b=B.ver:=by
     intro b B d;simp only [vers,d]
    let ρ':Nat→Nat→Option (Nat × Nat):=OO nid fp vers u.length
    split at h
    ·rename_i v
     split at h
     ·rename_i o
      cases h
      refine ⟨_,_,_,_,x,⟨fun _=> ⟨_,rfl⟩,fun _=> ⟨_,rfl⟩⟩, ?_⟩
      intro g m S w cargs C hmono s k l q t
      have j:kW u.length (kQ.ret v)=(ku (nid+(u.length - fp.length)) (ren ρ' v)).2:=(Ah (GH ρ') v (nid+(u.length - fp.length)) u.length).symm
      have:=zS s (rd:=rd) (fun b B d=>k b (a b B d).1 B (a b B d).2) y hcond.2 (nid:=nid) hvers' (ρ':=ρ') (fun b v=>rfl) rfl q hmono t A (fun i p=>l i (by rw [j] at p;exact Nat.lt_of_lt_of_le p (gU o)))
      rw [j] at this
      exact this
     ·cases h
    ·rename_i v
     split at h
     ·rename_i o
      cases h
      refine ⟨_,_,_,_,x,⟨(fun ⟨_,h⟩=>by cases h),(fun ⟨_,h⟩=>by cases h)⟩, ?_⟩
      intro g m S w cargs C hmono s k l q t
      exact zS s (rd:=rd) (fun b B d=>k b (a b B d).1 B (a b B d).2) y hcond.2 (nid:=nid) hvers' (ρ':=ρ') (fun b v=>rfl) rfl q hmono t A (fun i p=>l i (by simp only [kW,List.length_nil,Nat.add_zero] at p;exact Nat.lt_of_lt_of_le p (gU o)))
     ·cases h
theorem Cf (s:jZ P ap H) {a:dU} {nid f:Nat} {args:List AV} {c p:Cx} {r:SY} (h:tN ap H a nid .dead f args c= .ok r p) (y:p.Ok):
  c.Ok∧yO P f∧∀ g m S w cargs,b_ ap g m S w→(∀ b ∈ r.fp,∀ B,a b=some B→g b=some B)→(∀ i,i<4→g (nid+i)=none)→bF g m S args cargs→
   Calls P f cargs.toArray w fun e w'=>WR ap g m S w r.out r.ups e w':=by
 obtain ⟨args0,h0,q,u,z,_,v⟩:=xK h
 obtain ⟨d,o⟩:=s _ _ _ _ _ _ _ _ z y
 refine ⟨d,o.ent,fun g m S w cargs t n k x=> ?_⟩
 exact v g m S w cargs (fun cargs R=>Calls P f cargs.toArray w R) (fun _ _ _ l j=>l.mono j) t n k x fun A S1 _ l j=>o.calls A S1 w cargs l j
end
end AM
namespace AM
open Go
def sZ (dec:List (Nat × Bool)) (env:iW):Prop:=∀ t b,aG dec t=some b→env.get t= .bool b
def iH (g:dU) (m:bf) (S:aX):List (Nat × List AV)→List Deferred→Prop
 | [],[]=>True
 |d::r,cd::cr=>(∃ cap,cd.target= .fn (.func d.1) cap∧bF g m S d.2 (cd.args++cap).toList)∧iH g m S r cr
 |_,_=>False
theorem uK {g g':dU} {m c:bf} {S S':aX} (e:mD S S') (b:Ge g m g' c):∀ {l:List (Nat × List AV)} {ds:List Deferred},iH g m S l ds→iH g' c S' l ds
 | [],[],_=>by simp only [iH]
 |d::r,cd::cr,h=>by
  simp only [iH] at h ⊢
  obtain ⟨⟨a,i,f⟩,j⟩:=h
  exact ⟨⟨a,i,lK e b _ f⟩,uK e b j⟩
 | [],_::_,h=>by simp [iH] at h
 |_::_,[],h=>by simp [iH] at h
theorem zM {g:dU} {m:bf} {S:aX}:∀ {l l':List (Nat × List AV)} {ds ds':List Deferred},iH g m S l ds→iH g m S l' ds'→iH g m S (l++l') (ds++ds')
 | [],_,[],_,_,h'=>by simpa using h'
 |d::r,_,cd::cr,_,h,h'=>by
  simp only [iH] at h
  simp only [List.cons_append,iH]
  exact ⟨h.1,zM h.2 h'⟩
 | [],_,_::_,_,h,_=>by simp [iH] at h
 |_::_,_,[],_,h,_=>by simp [iH] at h
def wpO (P:Program) (ops:Array Oper) (Q:Exit→Act→World→Prop) (o:Oper) (K:Act→World→Prop) (a:Act) (w:World):Prop:=
 if Region.wanted o (yielded ops a.tmps) then o.wp P a w K Q∨(o.asks P a w∧LetsOut Q) else K (a.put o.dst undef) w
def ZW (ap:AP) (o:Oper) (g:dU) (m:bf) (S:aX) (w:World) (a:Act) (v:AV) (ups:List (Nat × bi)) (df:List (Nat × List AV)) (Q:Exit→Act→World→Prop) (K:Act→World→Prop):Option AV→Prop
 |none=> ∀ cv m' S' w' ds,b_ ap (d_ g ups) m' S' w'→Fr g m S w (d_ g ups) m' S' w'→VR (d_ g ups) m' S' v cv→iH (d_ g ups) m' S' df ds→K ({a with defers:=ds++a.defers}.put o.dst cv) w'
 |some pv=> ∀ cv m' S' w',b_ ap (d_ g ups) m' S' w'→Fr g m S w (d_ g ups) m' S' w'→VR (d_ g ups) m' S' pv cv→Q (.panic [{v:=cv,recovered:=false}]) a w'
def H6 (P:Program) (ap:AP) (ops:Array Oper) (o:Oper) (nid:Nat) (env:iW) (hp:Hp) (rt rb:List Nat) (v:AV) (ups:List (Nat × bi)) (df:List (Nat × List AV)) (p:Option AV):Prop:=
 ∀ g m S w (a:Act),b_ ap g m S w→(∀ t ∈ rt,VR g m S (env.get t) (a.tmps.getD t undef))→(∀ b ∈ rb,∀ B,aG hp b=some B→g b=some B)→(∀ i,i<4→g (nid+i)=none)→
  ∀ (Q:Exit→Act→World→Prop) (K:Act→World→Prop),ZW ap o g m S w a v ups df Q K p→wpO P ops Q o K a w
structure aei (P:Program) (ap:AP) (ops:Array Oper) (o:Oper) (nid:Nat) (s s':RS) (p:Option AV) (v:AV) (rt rb:List Nat) (ups:List (Nat × bi)) (df:List (Nat × List AV)):Prop where
 env:p=none→s'.env=pU s.env o.dst v
 envp:p ≠ none→s'.env=s.env∧df= []
 hp:s'.hp=ups++s.hp
 md:s'.md=s.md
 dfs:s'.dfs=df++s.dfs
 dec:p=none→sZ s'.dec s'.env
 feet:p=none→s'.feet={rt,wt:=Iu o,rb,wb:=ups.map (·.1)}::s.feet
 sem:H6 P ap ops o nid s.env s.hp rt rb v ups df p
section
variable {P:Program} {ap:AP} {H:dm}
theorem Ul (e:Array Value) (t:Nat) {v:Value} (h:e.getD t undef=v) (b:v ≠ undef):e[t]? =some v:=by
 rw [Array.getD_eq_getD_getElem?] at h
 cases a:e[t]? with
 |none=>rw [a] at h;exact absurd h.symm b
 |some u=>rw [a] at h;simpa using h
theorem EY {ops:Array Oper} {tmps:Array Value} {j s:Nat} (hs:(ops[j]?).bind (·.dst)=some s) {b:Bool} (h:tmps.getD s undef= .bool b):yielded ops tmps j=some b:=by
 unfold yielded
 rw [hs]
 simp only [Option.bind_some]
 rw [Ul tmps s h (by simp [undef])]
theorem Jo {ops:Array Oper} {tmps:Array Value} {j s:Nat} (hs:(ops[j]?).bind (·.dst)=some s) (h:tmps.getD s undef= .tuple #[]):yielded ops tmps j=none:=by
 unfold yielded
 rw [hs]
 simp only [Option.bind_some]
 rw [Array.getD_eq_getD_getElem?] at h
 cases a:tmps[s]? with
 |none=>rfl
 |some u=>
  rw [a] at h
  simp at h
  rw [h]
theorem wS {g:dU} {m:bf} {S:aX} {w:World} (e:b_ ap g m S w) {env:iW} {a:Act} (x:Operand) (h:∀ t,x= .tmp t→VR g m S (env.get t) (a.tmps.getD t undef)):VR g m S (qw ap env x) (a.eval x):=by
 cases x with
 |tmp t=>exact h t rfl
 |const v=>exact iQ _ (JA S v)
 | global k=>
  simp only [qw,Act.eval]
  cases c:(ap.gl[k]?).join with
  |none=>simp only [VR]
  |some xs=>
   obtain ⟨vs,d,b⟩:=e.glob k xs c
   simp only [VR,PR]
   exact ⟨k,0,vs,rfl,d,b⟩
 |func f=>
  simp only [qw,Act.eval,VR]
  exact ⟨[],[],rfl,by simp [bF],by simp [bF]⟩
theorem DW {l:List Operand} {t:Nat} (h:Operand.tmp t ∈ l):t ∈ uI l:=by
 simp only [uI,List.mem_filterMap]
 exact ⟨_,h,rfl⟩
theorem IE {ops:List Oper} {env:iW} {dec e:List (Nat × Bool)} {o:Oper} {c D:Cx} {p:Bool} (h:Nu ops env dec o c= .ok (p,e) D) (u:D.Ok):
  c.Ok∧(sZ dec env→sZ e env∧(∀ t b,aG dec t=some b→aG e t=some b)∧∀ g m S (a:Act),(∀ t ∈ jH ops o,VR g m S (env.get t) (a.tmps.getD t undef))→Region.wanted o (yielded ops.toArray a.tmps)=p):=by
 unfold Nu at h
 unfold jH
 unfold Region.wanted
 split at h
 ·rename_i A
  cases h
  simp only [A]
  exact ⟨u,fun f=> ⟨f,fun _ _ h=>h,fun _ _ _ _ _=>trivial⟩⟩
 ·rename_i j k A
  simp only [A]
  split at h
  ·cases h
  ·rename_i s hs
   have l:(ops.toArray[j]?).bind (·.dst)=some s:=by simpa using hs
   split at h
   ·rename_i b n
    cases h
    refine ⟨u,fun f=> ⟨f,fun _ _ h=>h,fun g m S a q=> ?_⟩⟩
    have d:=q s (by simp)
    rw [f s b n] at d
    simp only [VR,PR] at d
    rw [EY l d]
    cases k<;>cases b<;>rfl
   ·rename_i C
    split at h
    ·rename_i b n
     obtain ⟨E,F,d,B⟩:=R.bind_ok h
     cases B
     obtain ⟨z,rfl⟩:=lm d u
     refine ⟨z,fun f=> ⟨?_, ?_,fun g m S a q=> ?_⟩⟩
     ·intro t x i
      simp only [aG] at i
      split at i
      ·rename_i y
       cases i
       rw [← aO y,n]
      ·exact f t x i
     ·intro t x i
      simp only [aG]
      split
      ·rename_i y
       rw [aO y] at C
       rw [C] at i;cases i
      ·exact i
     ·have d:=q s (by simp)
      rw [n] at d
      simp only [VR,PR] at d
      rw [EY l d]
      cases k<;>cases E<;>rfl
    ·rename_i n
     cases h
     refine ⟨u,fun f=> ⟨f,fun _ _ h=>h,fun g m S a q=> ?_⟩⟩
     have d:=q s (by simp)
     rw [n] at d
     simp only [VR] at d
     obtain ⟨vs,d,B⟩:=d
     cases vs with
     |nil=>rw [Jo l d];rfl
     |cons v r=>simp [bF] at B
    ·cases h
theorem Kr {env:iW} {o:Oper} {v:AV} {t:Nat} (h:∀ d,o.dst=some d→d ≠ t):(pU env o.dst v).get t=env.get t:=by
 unfold pU
 split
 ·rename_i d b
  simp only [iW.get,aG]
  split
  ·rename_i a;exact absurd (aO a) (h d b)
  ·rfl
 ·rfl
theorem xP {dec:List (Nat × Bool)} {env:iW} {o:Oper} {v:AV} (e:sZ dec env) (a:Ue dec o=true):sZ dec (pU env o.dst v):=by
 intro t b c
 rw [Kr]
 ·exact e t b c
 ·rintro d hdd rfl
  unfold Ue at a
  rw [hdd] at a
  simp [c] at a
end
end AM
namespace AM
open Go
section
variable {P:Program} {ap:AP} {H:dm}
theorem Us {c:Cx} {dst:Option Nat} {v:AV} (h:(Dl c dst v).2.Ok):c.Ok∧aT v (Dl c dst v).1:=by
 obtain ⟨cl,orc,bs,ps,ans,hs⟩:=c
 unfold Dl at h ⊢
 dsimp only at h ⊢
 split at h
 ·rename_i d x r f
  split at h
  ·rename_i b
   have e:aT v x:=h.ps _ (List.mem_cons_self ..)
   refine ⟨⟨h.bs,fun p hp=>h.ps p (List.mem_cons_of_mem _ hp)⟩, ?_⟩
   simp only [b]
   exact e
  ·rename_i b
   refine ⟨h, ?_⟩
   simp only [b]
   exact fun _ _ _ _ a=>a
 ·rename_i i
  exact ⟨h,fun _ _ _ _ a=>a⟩
theorem Ur {c:Cx} {dst:Option Nat} (h:(O5 c dst).2.Ok):c.Ok:=by
 obtain ⟨cl,orc,bs,ps,ans,hs⟩:=c
 unfold O5 at h
 dsimp only at h
 split at h
 ·split at h
  ·exact ⟨h.bs,h.ps⟩
  ·exact h
 ·exact h
theorem Uo {c:Cx} {dst:Option Nat} {ups:List (Nat × bi)} (h:(Dk c dst ups).2.Ok):c.Ok∧(Dk c dst ups).1=ups:=by
 obtain ⟨cl,orc,bs,ps,ans,hs⟩:=c
 unfold Dk at h ⊢
 dsimp only at h ⊢
 split at h
 ·rename_i d e r i b B
  split at h
  ·rename_i a
   have f:B.cells=e:=h.ps _ (List.mem_cons_self ..)
   refine ⟨⟨h.bs,fun p hp=>h.ps p (List.mem_cons_of_mem _ hp)⟩, ?_⟩
   simp only [a,← f]
  ·rename_i a
   refine ⟨h, ?_⟩
   simp only [a]
 ·rename_i j
  exact ⟨h,rfl⟩
theorem Aj {a:Act} {g:Operand} {args:Array Operand} {argTypes:Array TypeId} {ty:TypeId} {f:Nat} {first b:Array Value} (h:a.eval g= .func (.func f) first b) (w:World):
  (resolve a.eval {callee:= .value g,args,argTypes} ty).run P w= .ok {target:= .fn (.func f) b,args:=first++args.map a.eval} w:=by
 simp only [resolve,h,Deferred.ofValue]
 rfl
theorem FO {a:Act} {g:Operand} {args:Array Operand} {argTypes:Array TypeId} {ty:TypeId} {f:Nat} {first b:Array Value} (h:a.eval g= .func (.func f) first b) (c:yO P f) (w:World):
  (do let d ← resolve a.eval {callee:= .value g,args,argTypes} ty;invoke d.target d.args:Sem Next).run P w= .ok (.enter f ((first++args.map a.eval)++b)) w:=by
 rw [Sem.run_bind,Aj h,Result.andThen_ok]
 exact c _ _
theorem JD {g:dU} {m:bf} {S:aX} {ρ:Operand→AV} {cρ:Operand→Value} {args:Array Operand} (h:∀ o ∈ args,VR g m S (ρ o) (cρ o)):bF g m S (args.toList.map ρ) (args.map cρ).toList:=by
 rw [Array.toList_map]
 exact uN _ fun o a=>h o (by simpa using a)
theorem zh:∀ {l:Hp} {b:Nat} {B:bi},aG l b=some B→(b,B) ∈ l
 | [],_,_,h=>by cases h
 | (k,X)::r,b,B,h=>by
  simp only [aG] at h
  split at h
  ·rename_i a
   cases h
   have:=aO a
   subst this
   exact List.mem_cons_self ..
  ·exact List.mem_cons_of_mem _ (zh h)
theorem DT {α β:Type} {f g:α→β}:∀ {l:List α},l.map f=l.map g→∀ {x:α},x ∈ l→f x=g x
 | [],_,_,h=>by cases h
 |a::r,h,x,hx=>by
  simp only [List.map_cons,List.cons.injEq] at h
  rcases List.mem_cons.1 hx with rfl|hx
  ·exact h.1
  ·exact DT h.2 hx
theorem rV (hap:je P ap) (hH:jZ P ap H) {nid:Nat} {ops:List Oper} {o:Oper} {s s':RS} {p:Option AV} {c c':Cx} (h:LC ap H nid ops o s c= .ok (s',p) c') (U:c'.Ok):
  c.Ok∧(s.md= .dead→sZ s.dec s.env→∃ v rb ups df,aei P ap ops.toArray o nid s s' p v (uI o.op.operands.toList++jH ops o) rb ups df):=by
 unfold LC at h
 obtain ⟨⟨run,dec⟩,c1,e1,h⟩:=R.bind_ok h
 dsimp only at h
 split at h
 ·cases h
 rename_i F
 have hguard:∀ c1ok:c1.Ok,c.Ok∧(sZ s.dec s.env→sZ dec s.env∧(∀ t b,aG s.dec t=some b→aG dec t=some b)∧∀ g m S (a:Act),(∀ t ∈ jH ops o,VR g m S (s.env.get t) (a.tmps.getD t undef))→Region.wanted o (yielded ops.toArray a.tmps)=run):=fun hk=>IE e1 hk
 have L:∀ {g:dU} {m:bf} {S:aX} {w:World} {a:Act},b_ ap g m S w→(∀ t ∈ uI o.op.operands.toList++jH ops o,VR g m S (s.env.get t) (a.tmps.getD t undef))→∀ x ∈ o.op.operands,VR g m S (qw ap s.env x) (a.eval x):=by
  intro g m S w a j i x Z
  refine wS j x fun t ht=>i t ?_
  subst ht
  exact List.mem_append.2 (.inl (DW (by simpa using Z)))
 split at h
 ·
  cases h
  obtain ⟨z,hg⟩:=hguard U
  refine ⟨z,fun T d=> ?_⟩
  obtain ⟨X,_,hw⟩:=hg d
  refine ⟨.tup [],[],[],[],⟨fun _=>rfl,fun h=>absurd rfl h,rfl,rfl,rfl,fun _=>xP X F,fun _=>rfl, ?_⟩⟩
  intro g m S w a j i _ _ Q K O
  unfold wpO
  rw [hw g m S a fun t ht=>i t (List.mem_append.2 (.inr ht))]
  simp only [Bool.false_eq_true,if_false]
  have:=O undef m S w [] (by rw [gm];exact j) (by rw [gm];exact Fr.refl _ _ _ _) (by simp only [VR];exact ⟨[],rfl,by simp [bF]⟩) (by simp [iH])
  exact this
 ·
  have hwant:∀ (Q:Exit→Act→World→Prop) (K:Act→World→Prop) (g:dU) (m:bf) (S:aX) (a:Act) (w:World),c1.Ok→sZ s.dec s.env→(∀ t ∈ uI o.op.operands.toList++jH ops o,VR g m S (s.env.get t) (a.tmps.getD t undef))→o.wp P a w K Q→wpO P ops.toArray Q o K a w:=by
   intro Q K g m S a w hk d i hh
   obtain ⟨_,_,hw⟩:=(hguard hk).2 d
   unfold wpO
   rw [hw g m S a fun t ht=>i t (List.mem_append.2 (.inr ht))]
   simp only [if_true]
   exact .inl hh
  split at h
  ·
   rename_i gf args argTypes k
   split at h
   ·rename_i f first cap hf
    obtain ⟨r,c2,e2,h⟩:=R.bind_ok h
    have Y:c2.Ok:=by
     revert h
     cases hu:O5 c2 o.dst with
     | mk u c3=>
      have D:c3.Ok→c2.Ok:=fun hk=>Ur (by rw [hu];exact hk)
      cases u with
      | true=>
       dsimp only
       cases r.out with
       |ret v=>
        dsimp only
        split
        ·intro h;cases h;exact D ⟨U.bs,fun p hp=>U.ps p (List.mem_cons_of_mem _ hp)⟩
        ·intro h;cases h
       |pan v=>intro h;cases h
      |false=>dsimp only;cases r.out<;>intro h<;>cases h<;>exact D U
    obtain ⟨J,hE,hcall⟩:=Cf hH e2 Y
    obtain ⟨z,hg⟩:=hguard J
    refine ⟨z,fun T d=> ?_⟩
    obtain ⟨X,_,_⟩:=hg d
    have hargs:∀ {g:dU} {m:bf} {S:aX} {w:World} {a:Act},b_ ap g m S w→(∀ t ∈ uI o.op.operands.toList++jH ops o,VR g m S (s.env.get t) (a.tmps.getD t undef))→
      ∃ M I:List Value,a.eval gf= .func (.func f) M.toArray I.toArray∧bF g m S (first++args.toList.map (qw ap s.env)++cap) ((M++(args.map a.eval).toList)++I):=by
     intro g m S w a j i
     have y:=L j i
     rw [k] at y
     have C:=y gf (by simp [Op.operands,Call.operands])
     rw [hf] at C
     simp only [VR] at C
     obtain ⟨M,I,D,N,G⟩:=C
     exact ⟨M,I,D,iI (iI N (JD fun x Z=>y x (by simp [Op.operands,Call.operands,Z]))) G⟩
    have V:∀ {a:Act} {M I:List Value} (w:World),a.eval gf= .func (.func f) M.toArray I.toArray→(execOp a.eval o).run P w= .ok (.enter f (((M++(args.map a.eval).toList)++I).toArray)) w:=by
     intro a M I w he
     have:=FO (args:=args) (argTypes:=argTypes) (ty:=o.type) he hE w
     unfold execOp
     rw [k]
     dsimp only
     rw [this]
     congr 2
     apply Array.toList_inj.1
     simp
    split at h
    ·rename_i c3 hu
     split at h
     ·rename_i v E
      split at h
      ·rename_i hall
       cases h
       have heq:r.ups.map (fun (q:Nat × bi)=>some q.2)=r.ups.map (fun (q:Nat × bi)=>aG s.hp q.1):=U.ps _ (List.mem_cons_self ..)
       refine ⟨v,r.fp,[],[],⟨fun _=>rfl,fun h=>absurd rfl h,rfl,rfl,rfl,fun _=>xP X F,fun _=>rfl, ?_⟩⟩
       intro g m S w a j i l A Q K O
       have hg':d_ g r.ups=g:=by
        funext b
        unfold d_
        cases hl:aG r.ups b with
        |none=>rfl
        |some B=>
         have hm:=zh hl
         have y:=DT heq hm
         exact (l b (jg.1 (List.all_eq_true.1 hall _ hm)) B y.symm).symm
       refine hwant Q K g m S a w J d i ?_
       obtain ⟨M,I,y,C⟩:=hargs j i
       unfold Oper.wp
       rw [V w y]
       refine (hcall g m S w _ j l A C).mono ?_
       rintro e w' ⟨m',S',D,N,G⟩
       rw [E] at G
       obtain ⟨cv,rfl,h6⟩:=G
       rw [hg'] at D N h6
       exact O cv m' S' w' [] D N h6 (by simp [iH])
      ·cases h
     ·cases h
    ·rename_i c3 hu
     split at h
     ·rename_i v E
      cases h
      refine ⟨v,r.fp,r.ups,[],⟨fun _=>rfl,fun h=>absurd rfl h,rfl,rfl,rfl,fun _=>xP X F,fun _=>rfl, ?_⟩⟩
      intro g m S w a j i l A Q K O
      refine hwant Q K g m S a w J d i ?_
      obtain ⟨M,I,y,C⟩:=hargs j i
      unfold Oper.wp
      rw [V w y]
      refine (hcall g m S w _ j l A C).mono ?_
      rintro e w' ⟨m',S',D,N,G⟩
      rw [E] at G
      obtain ⟨cv,rfl,h6⟩:=G
      exact O cv m' S' w' [] D N h6 (by simp [iH])
     ·rename_i v E
      cases h
      refine ⟨v,r.fp,r.ups,[],⟨fun h=>(by cases h),fun _=> ⟨rfl,rfl⟩,rfl,rfl,rfl,fun h=>(by cases h),fun h=>(by cases h), ?_⟩⟩
      intro g m S w a j i l A Q K O
      refine hwant Q K g m S a w J d i ?_
      obtain ⟨M,I,y,C⟩:=hargs j i
      unfold Oper.wp
      rw [V w y]
      refine (hcall g m S w _ j l A C).mono ?_
      rintro e w' ⟨m',S',D,N,G⟩
      rw [E] at G
      obtain ⟨cv,rfl,h6⟩:=G
      exact O cv m' S' w' D N h6
   ·cases h
  ·
   split at h
   ·cases h
    exact ⟨(hguard U).1,fun T=>by simp_all⟩
   ·cases h
    exact ⟨(hguard U).1,fun T=>by simp_all⟩
   ·cases h
  ·
   rename_i gf args argTypes k
   split at h
   ·rename_i f first cap hf
    cases h
    obtain ⟨z,hg⟩:=hguard U
    refine ⟨z,fun T d=> ?_⟩
    obtain ⟨X,_,_⟩:=hg d
    refine ⟨.dead,[],[],[(f,first++args.toList.map (qw ap s.env)++cap)],⟨fun _=>rfl,fun h=>absurd rfl h,rfl,rfl,rfl,fun _=>xP X F,fun _=>rfl, ?_⟩⟩
    intro g m S w a j i l A Q K O
    refine hwant Q K g m S a w U d i ?_
    have y:=L j i
    rw [k] at y
    have C:=y gf (by simp [Op.operands,Call.operands])
    rw [hf] at C
    simp only [VR] at C
    obtain ⟨M,I,D,N,G⟩:=C
    unfold Oper.wp
    have hr:(execOp a.eval o).run P w= .ok (.defer {target:= .fn (.func f) I.toArray,args:=M.toArray++args.map a.eval}) w:=by
     unfold execOp
     rw [k]
     dsimp only
     rw [Sem.run_bind,Aj D,Result.andThen_ok]
     rfl
    rw [hr]
    refine O undef m S w [{target:= .fn (.func f) I.toArray,args:=M.toArray++args.map a.eval}] (by rw [gm];exact j) (by rw [gm];exact Fr.refl _ _ _ _) (by simp only [VR]) ?_
    simp only [iH,gm,and_true]
    refine ⟨I.toArray,rfl, ?_⟩
    have:=iI (iI N (JD (args:=args) fun x Z=>y x (by simp [Op.operands,Call.operands,Z]))) G
    simpa using this
   ·cases h
  ·
   rename_i x k
   split at h
   ·rename_i t v Z
    cases h
    obtain ⟨z,hg⟩:=hguard U
    refine ⟨z,fun T d=> ?_⟩
    obtain ⟨X,_,_⟩:=hg d
    refine ⟨.dead,[],[],[],⟨fun h=>(by cases h),fun _=> ⟨rfl,rfl⟩,rfl,rfl,rfl,fun h=>(by cases h),fun h=>(by cases h), ?_⟩⟩
    intro g m S w a j i l A Q K O
    refine hwant Q K g m S a w U d i ?_
    have y:=L j i
    rw [k] at y
    have C:=y x (by simp [Op.operands])
    rw [Z] at C
    have h2':=C
    simp only [VR] at h2'
    obtain ⟨u,D,N⟩:=h2'
    unfold Oper.wp
    have hr:(execOp a.eval o).run P w= .halt (.panic (a.eval x)) w:=by
     unfold execOp
     rw [k]
     dsimp only
     rw [D]
     rfl
    rw [hr]
    exact O _ m S w (by rw [gm];exact j) (by rw [gm];exact Fr.refl _ _ _ _) (by rw [gm];exact C)
   ·cases h
  ·
   rename_i op n1 n2 n3 n4
   obtain ⟨em,c2,e2,h⟩:=R.bind_ok h
   split at h
   ·cases h
   ·rename_i v ups bs k
    obtain ⟨_,c3,e3,h⟩:=R.bind_ok h
    have hv1:(Dl c3 o.dst v).2.Ok→c3.Ok∧aT v (Dl c3 o.dst v).1:=Us
    generalize Dl c3 o.dst v=q1 at h hv1
    obtain ⟨v1,c4⟩:=q1
    dsimp only at h hv1
    have hv2:(Dk c4 o.dst ups).2.Ok→c4.Ok∧(Dk c4 o.dst ups).1=ups:=Uo
    generalize Dk c4 o.dst ups=q2 at h hv2
    obtain ⟨ups1,c5⟩:=q2
    dsimp only at h hv2
    cases h
    obtain ⟨hc4,hups⟩:=hv2 U
    subst hups
    obtain ⟨hc3,hfit⟩:=hv1 hc4
    obtain ⟨Y,hbs⟩:=Iy e3 hc3
    have hem:c1.Ok∧∀ n,xW (qw ap s.env) o.op=some n→Nat.beq n 0=em:=by
     split at e2
     ·rename_i n hn
      obtain ⟨hk,rfl⟩:=lm e2 Y
      exact ⟨hk,fun n' W=>by rw [hn] at W;cases W;rfl⟩
     ·rename_i hn
      cases e2
      exact ⟨Y,fun n' W=>by rw [hn] at W;cases W⟩
    obtain ⟨J,hem⟩:=hem
    obtain ⟨z,hg⟩:=hguard J
    refine ⟨z,fun T d=> ?_⟩
    obtain ⟨X,_,_⟩:=hg d
    refine ⟨v1,Vw (qw ap s.env) o.op,ups1,[],⟨fun _=>rfl,fun h=>absurd rfl h,rfl,rfl,rfl,fun _=>xP X F,fun _=>rfl, ?_⟩⟩
    intro g m S w a j i l A Q K O
    refine hwant Q K g m S a w J d i ?_
    have y:=L j i
    have hok:=QX hap j (nid:=nid) (A 0 (by omega)) (ρ:=qw ap s.env) (cρ:=a.eval) (fun b B hb=>by
      split at hb
      ·rename_i hm;exact l b (jg.1 hm) B hb
      ·cases hb) o y (dec:=fun| .tmp t=>aG dec t|_=>none) (fun x Z b hb=>by
      split at hb
      ·rename_i t
       have:=i t (List.mem_append.2 (.inl (DW (by simpa using Z))))
       rw [X t b hb] at this
       simp only [VR,PR] at this
       exact this
      ·cases hb) hem k hbs
    obtain ⟨nx,m',w',C,D,N,G⟩:=hok
    unfold Oper.wp
    rw [C]
    rcases G with ⟨cv,rfl,G⟩|⟨rfl,rfl⟩
    ·exact O cv m' S w' [] D N (hfit _ _ _ _ G) (by simp [iH])
    ·exact O undef m' S w' [] D N (hfit _ _ _ _ (by simp only [VR])) (by simp [iH])
end
end AM
namespace AM
open Go
theorem qH:∀ {hp:Hp} {b:Nat} {B:bi},aG hp b=some B→b<iK hp
 | [],b,B,h=>by simp [aG] at h
 | (c,C)::r,b,B,h=>by
  simp only [aG] at h
  simp only [iK]
  split at h
  ·rename_i d
   have d:=aO d
   subst d
   split
   ·rename_i a;exact gp a
   ·omega
  ·have e:=qH h
   split
   ·exact e
   ·rename_i a
    have:¬ c<iK r:=fun f=>by
     have:Nat.blt c (iK r)=true:=by
      show Nat.ble (c+1) (iK r)=true
      exact Nat.ble_eq_true_of_le f
     rw [this] at a;cases a
    omega
theorem DL:∀ {l:Hp} {b:Nat} {B:bi},aG l b=some B→b ∈ l.map (·.1)
 | [],b,B,h=>by simp [aG] at h
 |(c,C)::r,b,B,h=>by
  simp only [aG] at h
  split at h
  ·rename_i a;simp [aO a]
  ·simp [DL h]
structure FR (ap:AP) (env:iW) (hp:Hp) (dfs:List (Nat × List AV)) (nt:Nat) (m:bf) (S:aX) (w:World) (a:Act):Prop where
 srel:b_ ap (aG hp) m S w
 env:∀ t,VR (aG hp) m S (env.get t) (a.tmps.getD t undef)
 dfs:iH (aG hp) m S dfs a.defers
 size:a.tmps.size=nt
theorem KX (a:Act) (d:Option Nat) (v:Value):(a.put d v).tmps.size=a.tmps.size:=by
 cases d<;>simp [Act.put]
theorem Ed (a:Act) (d:Option Nat) (v:Value):(a.put d v).defers=a.defers:=by
 cases d<;>simp [Act.put]
theorem Eg (a:Act) (d:Option Nat) (v:Value) {t:Nat} (h:d ≠ some t):(a.put d v).tmps.getD t undef=a.tmps.getD t undef:=by
 cases d with
 |none=>rfl
 |some d=>
  have b:d ≠ t:=fun e=>h (by rw [e])
  simp only [Act.put,Array.getD_eq_getD_getElem?]
  rw [Array.getElem?_setIfInBounds_ne b]
theorem Ee (a:Act) (d:Nat) (v:Value) (h:d<a.tmps.size):(a.put (some d) v).tmps.getD d undef=v:=by
 simp only [Act.put,Array.getD_eq_getD_getElem?]
 rw [Array.getElem?_setIfInBounds_self_of_lt h];rfl
theorem jr {env:iW} {d:Nat} {v:AV}:(pU env (some d) v).get d=v:=by simp [pU,iW.get,aG]
theorem yc {env:iW} {dst:Option Nat} {v:AV} {t:Nat} (h:dst ≠ some t):(pU env dst v).get t=env.get t:=by
 cases dst with
 |none=>rfl
 | some d=>
  have a:Nat.beq d t=false:=by
   cases b:Nat.beq d t with
   |false=>rfl
   |true=>exact absurd (by rw [aO b]) h
  simp [pU,iW.get,aG,a]
section
variable {P:Program} {ap:AP} {H:dm}
theorem FR.put {env:iW} {hp ups:Hp} {dfs f:List (Nat × List AV)} {nt:Nat} {m b:bf} {S S':aX} {w w':World} {a:Act} (h:FR ap env hp dfs nt m S w a) {dst:Option Nat} (e:∀ d,dst=some d→d<nt) {v:AV} {cv:Value} {c:List Deferred}
  (h1:b_ ap (d_ (aG hp) ups) b S' w') (h2:Fr (aG hp) m S w (d_ (aG hp) ups) b S' w') (h3:VR (d_ (aG hp) ups) b S' v cv) (h4:iH (d_ (aG hp) ups) b S' f c):
  FR ap (pU env dst v) (ups++hp) (f++dfs) nt b S' w' ({a with defers:=c++a.defers}.put dst cv):=by
 rw [kM] at h1 h2 h3 h4
 refine ⟨h1, ?_, ?_, ?_⟩
 ·intro t
  by_cases ht:dst=some t
  ·subst ht
   rw [jr,Ee _ _ _ (by have:=e t rfl;have:=h.size;simpa [this] using e t rfl)]
   exact h3
  ·rw [yc ht,Eg _ _ _ ht]
   exact oz h2.sle h2.ge _ (h.env t)
 ·rw [Ed]
  exact zM h4 (uK h2.sle h2.ge h.dfs)
 ·rw [KX];exact h.size
theorem FR.still {env:iW} {hp ups:Hp} {dfs:List (Nat × List AV)} {nt:Nat} {m b:bf} {S S':aX} {w w':World} {a:Act} (h:FR ap env hp dfs nt m S w a)
  (h1:b_ ap (d_ (aG hp) ups) b S' w') (h2:Fr (aG hp) m S w (d_ (aG hp) ups) b S' w'):FR ap env (ups++hp) dfs nt b S' w' a:=by
 rw [kM] at h1 h2
 exact ⟨h1,fun t=>oz h2.sle h2.ge _ (h.env t),uK h2.sle h2.ge h.dfs,h.size⟩
def xB (ap:AP) (hp0:Hp) (m:bf) (S:aX) (w:World) (nt:Nat) (env:iW) (hp:Hp) (dfs:List (Nat × List AV)) (Q:Exit→Act→World→Prop):Option AV→Prop
 |none=> ∀ m' S' w' a',Fr (aG hp0) m S w (aG hp) m' S' w'→FR ap env hp dfs nt m' S' w' a'→Q .normal a' w'
 |some v=> ∀ m' S' w' a' cv,Fr (aG hp0) m S w (aG hp) m' S' w'→FR ap env hp dfs nt m' S' w' a'→VR (aG hp) m' S' v cv→Q (.panic [{v:=cv,recovered:=false}]) a' w'
theorem sS {ops:Array Oper} {Q:Exit→Act→World→Prop} {i:Nat} {o:Oper} (b:ops[i]? =some o) (rest:List Nat) (a:Act) (w:World):wpOps P ops Q (i::rest) a w↔wpO P ops Q o (wpOps P ops Q rest) a w:=by
 simp only [wpOps,b,wpO]
theorem NI {hp ups:Hp} {nid:Nat} (c:∀ b B,aG hp b=some B→b<nid) (e:(ups.map (·.1)).all (fun x=>Nat.blt x (nid+4))=true):∀ b B,aG (ups++hp) b=some B→b<nid+4:=by
 intro b B a
 rw [iy] at a
 split at a
 ·rename_i x d
  have f:b ∈ ups.map (·.1):=DL d
  exact gp (List.all_eq_true.1 e b f)
 ·have:=c b B a;omega
theorem mV (D:je P ap) (T:jZ P ap H) {ops:List Oper} {nt:Nat} (L:∀ o ∈ ops,∀ d,o.dst=some d→d<nt):∀ (l:List Oper) (i nid:Nat) (s s':RS) (p:Option AV) (c c':Cx),rW ap H ops l nid s c= .ok (s',p) c'→c'.Ok→
  c.Ok∧(s.md= .dead→sZ s.dec s.env→l=ops.drop i→(∀ b B,aG s.hp b=some B→b<nid)→
  s'.md= .dead∧∀ m S w a,FR ap s.env s.hp s.dfs nt m S w a→∀ Q,xB ap s.hp m S w nt s'.env s'.hp s'.dfs Q p→wpOps P ops.toArray Q (List.range' i l.length) a w)
 | [],i,nid,s,s',p,c,c',h,hc=>by
  cases h
  exact ⟨hc,fun e _ _ _=> ⟨e,fun m S w a x Q u=>u m S w a (Fr.refl _ _ _ _) x⟩⟩
 | o ::r,i,nid,s,s',p,c,c',h,hc=>by
  simp only [rW] at h
  obtain ⟨⟨s1,p1⟩,c1,e1,h⟩:=R.bind_ok h
  dsimp only at h
  have hfresh:(∀ b B,aG s.hp b=some B→b<nid)→∀ j,j<4→aG s.hp (nid+j)=none:=by
   intro I j _
   cases hb:aG s.hp (nid+j) with
   |none=>rfl
   |some B=>have:=I _ _ hb;omega
  have z:o::r=ops.drop i→ops[i]? =some o∧ops.toArray[i]? =some o∧r=ops.drop (i+1)∧∀ d,o.dst=some d→d<nt:=by
   intro G
   have f:ops[i]? =some o:=by
    have:(ops.drop i)[0]? =some o:=by rw [← G];rfl
    simpa using this
   have O:r=ops.drop (i+1):=by
    have:r=(ops.drop i).drop 1:=by rw [← G];rfl
    rw [this,List.drop_drop]
   exact ⟨f,by simpa using f,O,L o (List.mem_of_getElem? f)⟩
  cases p1 with
  |some v=>
   cases h
   obtain ⟨E,F⟩:=rV D T e1 hc
   refine ⟨E,fun e n G I=> ?_⟩
   obtain ⟨f,q,O,hd⟩:=z G
   obtain ⟨v1,rb,ups,df,hs⟩:=F e n
   refine ⟨by rw [hs.md,e],fun m S w a x Q u=> ?_⟩
   rw [List.length_cons,List.range'_succ,sS q]
   refine hs.sem (aG s.hp) m S w a x.srel (fun t _=>x.env t) (fun b _ B Y=>Y) (hfresh I) Q _ ?_
   intro cv m' S' w' Z y N
   have X:=x.still Z y
   rw [kM] at y N
   obtain ⟨k,rfl⟩:=hs.envp (by simp)
   have u:=u m' S' w' a cv
   rw [hs.hp,hs.dfs,k] at u
   exact u y X N
  | none=>
   dsimp only at h
   cases C:s1.feet with
   |nil=>rw [C] at h;cases h
   | cons ft fr=>
    rw [C] at h
    dsimp only at h
    split at h
    ·rename_i M
     obtain ⟨hc1,U⟩:=mV D T L r (i+1) (nid+4) s1 s' p c1 c' h hc
     obtain ⟨E,F⟩:=rV D T e1 hc1
     refine ⟨E,fun e n G I=> ?_⟩
     obtain ⟨f,q,O,hd⟩:=z G
     obtain ⟨v1,rb,ups,df,hs⟩:=F e n
     have A:=hs.feet rfl
     rw [C] at A
     simp only [List.cons.injEq] at A
     rw [A.1] at M
     obtain ⟨K,U⟩:=U (by rw [hs.md,e]) (hs.dec rfl) O (by rw [hs.hp];exact NI I M)
     refine ⟨K,fun m S w a x Q u=> ?_⟩
     rw [List.length_cons,List.range'_succ,sS q]
     refine hs.sem (aG s.hp) m S w a x.srel (fun t _=>x.env t) (fun b _ B Y=>Y) (hfresh I) Q _ ?_
     intro cv m' S' w' ds Z y N h4
     have J:=x.put hd Z y N h4
     rw [kM] at y
     have k:=hs.env rfl
     rw [← k,← hs.hp,← hs.dfs] at J
     refine U m' S' w' _ J Q ?_
     rw [← hs.hp] at y
     cases p with
     |none=>exact fun m2 S2 W a2 V h6=>u m2 S2 W a2 (y.trans V) h6
     |some v=>exact fun m2 S2 W a2 cv2 V h6 h7=>u m2 S2 W a2 cv2 (y.trans V) h6 h7
    ·cases h
end
end AM
namespace AM
open Go
structure kD where
 dst:Option Nat
 v:AV
 rt:List Nat
 rb:List Nat
 ups:List (Nat × bi)
def O0 (d:Option Nat):List Nat:=match d with|some d=> [d]|none=> []
def kD.foot (r:kD):wK:={rt:=r.rt,wt:=O0 r.dst,rb:=r.rb,wb:=r.ups.map (·.1)}
def lU (D:Nat→Bool):Nat→iW→List kD→iW
 |_,e,[]=>e
 |j,e,r::rs=>lU D (j+1) (match D j with|true=>pU e r.dst r.v|false=>e) rs
def oh (D:Nat→Bool):Nat→Hp→List kD→Hp
 |_,h,[]=>h
 |j,h,r::rs=>oh D (j+1) (match D j with|true=>r.ups++h|false=>h) rs
theorem nD {D D':Nat→Bool} {t:Nat}:∀ (rs:List kD) (j:Nat) (e e':iW),e.get t=e'.get t→(∀ k r,rs[k]? =some r→r.dst=some t→D (j+k)=D' (j+k))→(lU D j e rs).get t=(lU D' j e' rs).get t
 | [],_,_,_,he,_=>he
 | r::rs,j,e,e',he,h=>by
  simp only [lU]
  refine nD rs (j+1) _ _ ?_ fun k r' b a=> ?_
  ·by_cases a:r.dst=some t
   ·have h0:=h 0 r rfl a
    rw [Nat.add_zero] at h0
    rw [h0]
    cases D' j with
    |true=>simp only [a,jr]
    |false=>exact he
   ·cases D j<;>cases D' j<;>simp only [yc a,he]
  ·have:=h (k+1) r' (by simpa using b) a
   rwa [show j+(k+1)=j+1+k by omega] at this
theorem IP:∀ {l:Hp} {b:Nat},b ∉ l.map (·.1)→aG l b=none:=by
 intro l b h
 cases a:aG l b with
 |none=>rfl
 |some B=>exact absurd (DL a) h
theorem qZ {ups hp:Hp} {b:Nat} (h:b ∉ ups.map (·.1)):aG (ups++hp) b=aG hp b:=by
 rw [iy,IP h]
theorem uo:∀ {l:Hp} {b:Nat},b ∈ l.map (·.1)→∃ B,aG l b=some B
 | [],b,h=>by simp at h
 | (c,C)::r,b,h=>by
  simp only [aG]
  cases a:Nat.beq c b with
  |true=>exact ⟨C,rfl⟩
  |false=>
   simp only [List.map_cons,List.mem_cons] at h
   rcases h with h|h
   ·subst h;simp at a
   ·exact uo h
theorem yt {ups hp hp':Hp} {b:Nat} (h:b ∈ ups.map (·.1)):aG (ups++hp) b=aG (ups++hp') b:=by
 obtain ⟨B,a⟩:=uo h
 rw [iy,iy,a]
theorem qy {D D':Nat→Bool} {b:Nat}:∀ (rs:List kD) (j:Nat) (h h':Hp),aG h b=aG h' b→(∀ k r,rs[k]? =some r→b ∈ r.ups.map (·.1)→D (j+k)=D' (j+k))→aG (oh D j h rs) b=aG (oh D' j h' rs) b
 | [],_,_,_,he,_=>he
 | r::rs,j,e,e',he,h=>by
  simp only [oh]
  refine qy rs (j+1) _ _ ?_ fun k r' c a=> ?_
  ·by_cases a:b ∈ r.ups.map (·.1)
   ·have h0:=h 0 r rfl a
    rw [Nat.add_zero] at h0
    rw [h0]
    cases D' j with
    |true=>exact yt a
    |false=>exact he
   ·cases D j<;>cases D' j<;>simp only [qZ a,he]
  ·have:=h (k+1) r' (by simpa using c) a
   rwa [show j+(k+1)=j+1+k by omega] at this
theorem uU:∀ (a:List kD) (j:Nat) (e:iW) {D:Nat→Bool},(∀ k,k<a.length→D (j+k)=false)→lU D j e a=e
 | [],_,_,_,_=>rfl
 |r::a,j,e,D,h=>by
  have h0:=h 0 (by simp)
  rw [Nat.add_zero] at h0
  simp only [lU,h0]
  exact uU a (j+1) e fun k b=>by have:=h (k+1) (by simpa using b);rwa [show j+(k+1)=j+1+k by omega] at this
theorem nI:∀ (a:List kD) (j:Nat) (e:Hp) {D:Nat→Bool},(∀ k,k<a.length→D (j+k)=false)→oh D j e a=e
 | [],_,_,_,_=>rfl
 |r::a,j,e,D,h=>by
  have h0:=h 0 (by simp)
  rw [Nat.add_zero] at h0
  simp only [oh,h0]
  exact nI a (j+1) e fun k b=>by have:=h (k+1) (by simpa using b);rwa [show j+(k+1)=j+1+k by omega] at this
def og (e:iW) (rs:List kD):iW:=lU (fun _=>true) 0 e rs
def Dp (h:Hp) (rs:List kD):Hp:=oh (fun _=>true) 0 h rs
theorem wR (D:Nat→Bool):∀ (rs:List kD) (j d:Nat) (e:iW),lU D (j+d) e rs=lU (fun k=>D (k+d)) j e rs
 | [],_,_,_=>rfl
 |r::rs,j,d,e=>by
  simp only [lU]
  rw [show j+d+1=j+1+d by omega]
  exact wR D rs (j+1) d _
theorem yY (D:Nat→Bool):∀ (rs:List kD) (j d:Nat) (e:Hp),oh D (j+d) e rs=oh (fun k=>D (k+d)) j e rs
 | [],_,_,_=>rfl
 |r::rs,j,d,e=>by
  simp only [oh]
  rw [show j+d+1=j+1+d by omega]
  exact yY D rs (j+1) d _
theorem uV (e:iW) (r:kD) (a:List kD):og e (r::a)=og (pU e r.dst r.v) a:=by
 simp only [og,lU]
 exact wR (fun _=>true) a 0 1 _
theorem yh (h:Hp) (r:kD) (a:List kD):Dp h (r::a)=Dp (r.ups++h) a:=by
 simp only [Dp,oh]
 exact yY (fun _=>true) a 0 1 _
theorem xX:∀ (a:List kD) (k:Nat) (e:iW),lU (fun j=>decide (j<k)) 0 e a=og e (a.take k)
 |a,0,e=>by
  simp only [List.take_zero]
  exact uU a 0 e fun _ _=>by simp
 | [],k+1,e=>rfl
 |r::a,k+1,e=>by
  simp only [List.take_succ_cons,uV,lU]
  rw [show decide (0<k+1)=true by simp]
  dsimp only
  rw [← xX a k]
  have:=wR (fun j=>decide (j<k+1)) a 0 1 (pU e r.dst r.v)
  rw [this]
  congr 1
  funext j
  simp
theorem Nw:∀ (a:List kD) (k:Nat) (e:Hp),oh (fun j=>decide (j<k)) 0 e a=Dp e (a.take k)
 |a,0,e=>by
  simp only [List.take_zero]
  exact nI a 0 e fun _ _=>by simp
 | [],k+1,e=>rfl
 |r::a,k+1,e=>by
  simp only [List.take_succ_cons,yh,oh]
  rw [show decide (0<k+1)=true by simp]
  dsimp only
  rw [← Nw a k]
  have:=yY (fun j=>decide (j<k+1)) a 0 1 (r.ups++e)
  rw [this]
  congr 1
  funext j
  simp
theorem Gs (e:iW):∀ (b:List kD) (k:Nat) (r:kD),b[k]? =some r→og e (b.take (k+1))=pU (og e (b.take k)) r.dst r.v:=by
 intro b
 induction b generalizing e with
 |nil=>intro k r h;simp at h
 | cons a b ih=>
  intro k r h
  cases k with
  |zero=>simp at h;subst h;rfl
  |succ k=>
   simp only [List.take_succ_cons,uV]
   exact ih _ k r (by simpa using h)
theorem Uu (e:Hp):∀ (b:List kD) (k:Nat) (r:kD),b[k]? =some r→Dp e (b.take (k+1))=r.ups++Dp e (b.take k):=by
 intro b
 induction b generalizing e with
 |nil=>intro k r h;simp at h
 | cons a b ih=>
  intro k r h
  cases k with
  |zero=>simp at h;subst h;rfl
  |succ k=>
   simp only [List.take_succ_cons,yh]
   exact ih _ k r (by simpa using h)
section
variable {P:Program} {ap:AP} {H:dm}
structure Td (P:Program) (ap:AP) (ops:List Oper) (i nid:Nat) (s s':RS) (recs:List kD):Prop where
 env:s'.env=og s.env recs
 hp:s'.hp=Dp s.hp recs
 feet:s'.feet=(recs.map kD.foot).reverse++s.feet
 dle:s.dfs.length≤s'.dfs.length
 bound:∀ (k:Nat) (r:kD),recs[k]? =some r→∀ b ∈ r.ups.map (·.1),b<nid+4*k+4
 sem:s'.dfs.length=s.dfs.length→s'.dfs=s.dfs∧∀ (k:Nat) (r:kD),recs[k]? =some r→∃ o,ops[i+k]? =some o∧r.dst=o.dst∧H6 P ap ops.toArray o (nid+4*k) (og s.env (recs.take k)) (Dp s.hp (recs.take k)) r.rt r.rb r.v r.ups [] none
theorem Wq (u:je P ap) (J:jZ P ap H) {ops:List Oper}:∀ (l:List Oper) (i nid:Nat) (s s':RS) (c c':Cx),rW ap H ops l nid s c= .ok (s',none) c'→c'.Ok→
  c.Ok∧(s.md= .dead→sZ s.dec s.env→l=ops.drop i→s'.md= .dead∧∃ recs:List kD,recs.length=l.length∧Td P ap ops i nid s s' recs)
 | [],i,nid,s,s',c,c',h,hc=>by
  cases h
  exact ⟨hc,fun a _ _=> ⟨a,[],rfl,⟨rfl,rfl,rfl,Nat.le_refl _,fun k r h=>by simp at h,fun _=> ⟨rfl,fun k r h=>by simp at h⟩⟩⟩⟩
 | o :: r,i,nid,s,s',c,c',h,hc=>by
  simp only [rW] at h
  obtain ⟨⟨z,T⟩,W,U,h⟩:=R.bind_ok h
  dsimp only at h
  cases T with
  |some v=>cases h
  | none=>
   dsimp only at h
   cases e:z.feet with
   |nil=>rw [e] at h;cases h
   | cons ft fr=>
    rw [e] at h
    dsimp only at h
    split at h
    ·rename_i x
     obtain ⟨C,N⟩:=Wq u J r (i+1) (nid+4) z s' W c' h hc
     obtain ⟨E,F⟩:=rV u J U C
     refine ⟨E,fun a t L=> ?_⟩
     have A:ops[i]? =some o:=by
      have:(ops.drop i)[0]? =some o:=by rw [← L];rfl
      simpa using this
     have V:r=ops.drop (i+1):=by
      have:r=(ops.drop i).drop 1:=by rw [← L];rfl
      rw [this,List.drop_drop]
     obtain ⟨v1,rb,ups,G,hs⟩:=F a t
     have d:=hs.feet rfl
     rw [e] at d
     simp only [List.cons.injEq] at d
     rw [d.1] at x
     obtain ⟨p,recs,n,f⟩:=N (by rw [hs.md,a]) (hs.dec rfl) V
     refine ⟨p,{dst:=o.dst,v:=v1,rt:=uI o.op.operands.toList++jH ops o,rb:=rb,ups:=ups}::recs,by simp [n], ?_⟩
     have B:s.dfs.length≤z.dfs.length:=by rw [hs.dfs];simp
     refine ⟨?_, ?_, ?_,Nat.le_trans B f.dle, ?_, ?_⟩
     ·rw [f.env,uV,hs.env rfl]
     ·rw [f.hp,yh,hs.hp]
     ·rw [f.feet,hs.feet rfl]
      simp [kD.foot,O0,Iu]
      cases o.dst<;>rfl
     ·intro k q j b K
      cases k with
      |zero=>
       simp at j
       subst j
       exact gp (List.all_eq_true.1 x b K)
      |succ k=>
       have:=f.bound k q (by simpa using j) b K
       omega
     ·intro Y
      have Z:=f.dle
      obtain ⟨I,y⟩:=f.sem (by omega)
      have D:G= []:=by
       have:G.length=0:=by
        have:=hs.dfs
        have h3:z.dfs.length=G.length+s.dfs.length:=by rw [this];simp
        omega
       exact List.eq_nil_of_length_eq_zero this
      subst D
      refine ⟨by rw [I,hs.dfs];rfl, ?_⟩
      intro k q j
      cases k with
      |zero=>
       simp at j
       subst j
       exact ⟨o,A,rfl,hs.sem⟩
      |succ k=>
       obtain ⟨X,Q,O,M⟩:=y k q (by simpa using j)
       refine ⟨X,by rw [show i+(k+1)=i+1+k by omega];exact Q,O, ?_⟩
       rw [List.take_succ_cons,uV,yh]
       rw [hs.env rfl,hs.hp] at M
       rw [show nid+4*(k+1)=nid+4+4*k by omega]
       exact M
    ·cases h
end
end AM
namespace AM
open Go
theorem Df {md:Region.Mode} (b:Array Nat) (i:Nat):∀ (l:List Edge) (s:Nat),(l.foldl (fun s e=>if Region.binds md e then s|||2^e.on|||b.getD e.on 0 else s) s).testBit i=true→
  s.testBit i=true∨∃ e ∈ l,Region.binds md e=true∧(i=e.on∨(b.getD e.on 0).testBit i=true)
 | [],s,h=> .inl h
 | e::r,s,h=>by
  simp only [List.foldl_cons] at h
  rcases Df b i r _ h with a|⟨f,a,d⟩
  ·split at a
   ·rename_i c
    simp only [Nat.testBit_or,Bool.or_eq_true,Nat.testBit_two_pow,decide_eq_true_eq] at a
    rcases a with (a|a)|a
    ·exact .inl a
    ·exact .inr ⟨e,by simp,c,.inl a.symm⟩
    ·exact .inr ⟨e,by simp,c,.inr a⟩
   ·exact .inl a
  ·exact .inr ⟨f,by simp [a],d⟩
def oI (acc:Array Nat) (o:Oper):Array Nat:=acc.push (o.after.toList.foldl (fun s e=>if Region.binds .any e then s|||2^e.on|||acc.getD e.on 0 else s) 0)
theorem Dh (a:Array Nat) (x:Nat):(a.push x).getD a.size 0=x:=by simp [Array.getD_eq_getD_getElem?]
def AX (ops:List Oper) (D:Nat→Bool):Prop:=∀ (k:Nat) (o:Oper),ops[k]? =some o→D k=true→∀ e ∈ o.after,Region.binds .any e=true→D e.on=true
def ZX (D:Nat→Bool) (acc:Array Nat):Prop:=∀ k,D k=true→∀ i,(acc.getD k 0).testBit i=true→D i=true
theorem OQ {ops:List Oper} {D:Nat→Bool} (n:AX ops D):∀ (l:List Oper) (acc:Array Nat),ZX D acc→l=ops.drop acc.size→ZX D (l.foldl oI acc)
 | [],acc,h,_=>h
 | o ::r,acc,h,hl=>by
  simp only [List.foldl_cons]
  have b:ops[acc.size]? =some o:=by
   have:(ops.drop acc.size)[0]? =some o:=by rw [← hl];rfl
   simpa using this
  refine OQ n r _ ?_ ?_
  ·intro k j i a
   by_cases hks:k<acc.size
   ·refine h k j i ?_
    simpa [oI,Array.getD_eq_getD_getElem?,Array.getElem?_push,Nat.ne_of_lt hks] using a
   ·by_cases hke:k=acc.size
    ·subst hke
     rw [oI,Dh] at a
     rcases Df acc i _ _ a with c|⟨e,c,p,d⟩
     ·simp at c
     ·have f:=n _ o b j e (by simpa using c) p
      rcases d with rfl|d
      ·exact f
      ·exact h _ f i d
    ·have:(oI acc o)[k]? =none:=by
      simp only [oI]
      rw [Array.getElem?_eq_none];simp;omega
     simp [Array.getD_eq_getD_getElem?,this] at a
  ·have:(oI acc o).size=acc.size+1:=by simp [oI]
   rw [this,← List.drop_drop,← hl];rfl
theorem Ql (ops:List Oper):Region.before ops.toArray=ops.foldl oI #[]:=by
 simp only [Region.before,← Array.foldl_toList]
 rfl
theorem pq {ops:List Oper} {D:Nat→Bool} (c:AX ops D) {k i:Nat} (b:D k=true) (h:((Region.before ops.toArray).toList.getD k 0).testBit i=true):D i=true:=by
 have:=OQ c ops #[] (fun k _ i a=>by simp at a) (by simp)
 rw [← Ql] at this
 refine this k b i ?_
 rw [List.getD_eq_getElem?_getD] at h
 rw [Array.getD_eq_getD_getElem?]
 simpa using h
theorem qC {a b:List Nat} {x:Nat} (d:x ∈ a) (c:x ∈ b):DU a b=true:=List.any_eq_true.2 ⟨x,d,jg.2 c⟩
structure HY (n:Nat) (bef:Nat→Nat→Bool) (recs:List kD):Prop where
 ok:∀ i j a b,recs[i]? =some a→recs[j]? =some b→i<j→(kF a.foot b.foot=true∨∃ x ∈ b.ups.map (·.1),n+4*i≤x∧x<n+4*i+4)→bef j i=true
theorem D7 {n:Nat} {d:List Nat} {recs:List kD} (h:uw n d (recs.map kD.foot).reverse=true):HY n (fun j i=>(d.getD j 0).testBit i) recs:=by
 refine ⟨fun i j a b o k f e=> ?_⟩
 simp only [uw,List.reverse_reverse,List.all_eq_true] at h
 have c:=h (a.foot,i) (by rw [List.mem_zipIdx_iff_getElem?];simp [o]) (b.foot,j) (by rw [List.mem_zipIdx_iff_getElem?];simp [k])
 simp only [Bool.or_eq_true,Bool.not_eq_true'] at c
 rcases c with (c|c)|c
 ·have:Nat.blt i j=true:=Nat.ble_eq_true_of_le f
  rw [this] at c;cases c
 ·exfalso
  rw [Bool.or_eq_false_iff] at c
  rcases e with e|⟨x,q,l,p⟩
  ·rw [e] at c;cases c.1
  ·have:=List.any_eq_false.1 c.2 x q
   simp only [Bool.and_eq_true,not_and] at this
   exact this (Nat.ble_eq_true_of_le l) (Nat.ble_eq_true_of_le p)
 ·exact c
section
variable {P:Program} {ap:AP} {H:dm}
theorem FR.congr {env b:iW} {hp hp':Hp} {dfs:List (Nat × List AV)} {nt:Nat} {m:bf} {S:aX} {w:World} {a:Act} (h:FR ap env hp dfs nt m S w a) (d:∀ t,b.get t=env.get t) (c:aG hp'=aG hp):FR ap b hp' dfs nt m S w a:=by
 refine ⟨c ▸ h.srel,fun t=> ?_,c ▸ h.dfs,h.size⟩
 rw [d,c];exact h.env t
def oM (listed:Array Bool):Nat→Bool:=fun k=>listed.getD k false
theorem Xv {listed:Array Bool} {i:Nat} (a:i<listed.size) (k:Nat):oM (listed.setIfInBounds i true) k=(if k=i then true else oM listed k):=by
 simp only [oM,Array.getD_eq_getD_getElem?]
 by_cases h:k=i
 ·subst h;rw [if_pos rfl,Array.getElem?_setIfInBounds_self_of_lt a];rfl
 ·rw [if_neg h,Array.getElem?_setIfInBounds_ne (fun e=>h e.symm)]
def Bv (n:Nat) (D:Nat→Bool):Nat:=((List.range n).filter fun i=> !D i).length
theorem Ad {D D':Nat→Bool} {i:Nat} (c:D i=false) (b:∀ k,D' k=if k=i then true else D k):∀ (l:List Nat),l.Nodup→i ∈ l→(l.filter fun k=> !D k).length=(l.filter fun k=> !D' k).length+1
 | [],_,h=>by simp at h
 | a::r,hn,h=>by
  rw [List.nodup_cons] at hn
  by_cases ha:a=i
  ·subst ha
   have hsame:r.filter (fun k=> !D k)=r.filter (fun k=> !D' k):=by
    refine List.filter_congr fun k f=> ?_
    have:k ≠ a:=fun e=>hn.1 (e ▸ f)
    rw [b k,if_neg this]
   have j:D' a=true:=by rw [b a,if_pos rfl]
   simp [c,j,hsame]
  ·have d:=Ad c b r hn.2 (by simpa [Ne.symm ha] using h)
   have:D' a=D a:=by rw [b a,if_neg ha]
   simp only [List.filter_cons,this]
   split<;>simp [d]
theorem Vx {ops:List Oper} (i:qW ops=true) {listed:Array Bool} (n:listed.size=ops.length) (b:Region.ready .any ops.toArray listed= []):∀ k,k<ops.length→oM listed k=true:=by
 intro k
 induction k using Nat.strongRecOn with
 | _ k ih=>
  intro c
  cases d:oM listed k with
  |true=>rfl
  | false=>
   exfalso
   have a:k ∈ Region.ready .any ops.toArray listed:=by
    simp only [Region.ready,List.mem_filter,List.mem_range,List.size_toArray]
    refine ⟨c, ?_⟩
    have o:listed.getD k true=false:=by
     simp only [oM,Array.getD_eq_getD_getElem?] at d ⊢
     rw [Array.getElem?_eq_getElem (by omega)] at d ⊢
     simpa using d
    have l:ops.toArray[k]? =some ops[k]:=by simp [c]
    rw [o,l]
    simp only [Bool.not_false,Bool.true_and,Option.map_some,Option.getD_some,Array.all_eq_true',Bool.or_eq_true,Bool.not_eq_true']
    intro e j
    cases h:Region.binds .any e with
    |false=>exact .inl rfl
    |true=>
     right
     simp only [qW,List.all_eq_true] at i
     have f:=i (ops[k],k) (by rw [List.mem_zipIdx_iff_getElem?];simp [c]) e (by simpa using j)
     rw [h] at f
     simp only [Bool.not_true,Bool.false_or] at f
     have p:=gp f
     exact ih e.on p (by omega)
   rw [b] at a
   cases a
theorem Em {ops:List Oper} {listed:Array Bool} (j:listed.size=ops.length) {i:Nat} (h:i ∈ Region.ready .any ops.toArray listed):∃ o,ops[i]? =some o∧oM listed i=false∧i<ops.length∧∀ e ∈ o.after,Region.binds .any e=true→oM listed e.on=true:=by
 simp only [Region.ready,List.mem_filter,List.mem_range,List.size_toArray,Bool.and_eq_true,Bool.not_eq_true'] at h
 obtain ⟨a,c,b⟩:=h
 have k:ops.toArray[i]? =some ops[i]:=by simp [a]
 rw [k] at b
 simp only [Option.map_some,Option.getD_some,Array.all_eq_true',Bool.or_eq_true,Bool.not_eq_true'] at b
 refine ⟨ops[i],List.getElem?_eq_getElem a, ?_,a,fun e f d=> ?_⟩
 ·simp only [oM,Array.getD_eq_getD_getElem?] at c ⊢
  rw [Array.getElem?_eq_getElem (by omega)] at c ⊢
  simpa using c
 ·rcases b e f with h|h
  ·rw [d] at h;cases h
  ·exact h
end
end AM
namespace AM
open Go
theorem TB {a b:wK} {x:Nat} (h:x ∈ a.wt) (c:x ∈ b.rt):kF a b=true:=by simp [kF,qC h c]
theorem JP {a b:wK} {x:Nat} (h:x ∈ a.wt) (c:x ∈ b.wt):kF a b=true:=by simp [kF,qC h c]
theorem TA {a b:wK} {x:Nat} (h:x ∈ a.rt) (c:x ∈ b.wt):kF a b=true:=by simp [kF,qC h c]
theorem Qp {a b:wK} {x:Nat} (h:x ∈ a.wb) (c:x ∈ b.rb):kF a b=true:=by simp [kF,qC h c]
theorem Gf {a b:wK} {x:Nat} (h:x ∈ a.wb) (c:x ∈ b.wb):kF a b=true:=by simp [kF,qC h c]
theorem Qo {a b:wK} {x:Nat} (h:x ∈ a.rb) (c:x ∈ b.wb):kF a b=true:=by simp [kF,qC h c]
theorem uq {d:Option Nat} {t:Nat} (h:d=some t):t ∈ O0 d:=by subst h;simp [O0]
section
variable {P:Program} {ap:AP} {H:dm}
structure aaJ (ap:AP) (ops:List Oper) (recs:List kD) (e0:iW) (hp0:Hp) (dfs:List (Nat × List AV)) (nt:Nat) (m0:bf) (S0:aX) (w0:World) (listed:Array Bool) (m:bf) (S:aX) (w:World) (a:Act):Prop where
 sz:listed.size=ops.length
 cl:AX ops (oM listed)
 fr:Fr (aG hp0) m0 S0 w0 (aG (oh (oM listed) 0 hp0 recs)) m S w
 rel:FR ap (lU (oM listed) 0 e0 recs) (oh (oM listed) 0 hp0 recs) dfs nt m S w a
theorem J8 {ops:List Oper} {recs:List kD} {s:RS} {A nt:Nat} (hnt:∀ o ∈ ops,∀ d,o.dst=some d→d<nt) (hlen:recs.length=ops.length)
  (hbound:∀ (k:Nat) (r:kD),recs[k]? =some r→∀ b ∈ r.ups.map (·.1),b<A+4*k+4)
  (hsem:∀ (k:Nat) (r:kD),recs[k]? =some r→∃ o,ops[k]? =some o∧r.dst=o.dst∧∀ (D:Nat→Bool) m S w (a:Act),b_ ap (aG (oh D 0 s.hp recs)) m S w→(∀ t ∈ r.rt,VR (aG (oh D 0 s.hp recs)) m S ((og s.env (recs.take k)).get t) (a.tmps.getD t undef))→
   (∀ b ∈ r.rb,aG (Dp s.hp (recs.take k)) b=aG (oh D 0 s.hp recs) b)→(∀ j,j<4→aG (oh D 0 s.hp recs) (A+4*k+j)=none)→(∀ j,((Region.before ops.toArray).toList.getD j 0).testBit k=true→D j=false)→
   ∀ (Q:Exit→Act→World→Prop) (K:Act→World→Prop),ZW ap o (aG (oh D 0 s.hp recs)) m S w a r.v r.ups [] Q K none→wpO P ops.toArray Q o K a w)
  (hord:HY A (fun j i=>((Region.before ops.toArray).toList.getD j 0).testBit i) recs) (hback:qW ops=true) (hn0:∀ b B,aG s.hp b=some B→b<A) {m0:bf} {S0:aX} {w0:World} {Q:Exit→Act→World→Prop}
  (hQ:∀ m S w a,Fr (aG s.hp) m0 S0 w0 (aG (Dp s.hp recs)) m S w→FR ap (og s.env recs) (Dp s.hp recs) s.dfs nt m S w a→Q .normal a w):
  ∀ (n:Nat) (listed:Array Bool) (m:bf) (S:aX) (w:World) (a:Act),aaJ ap ops recs s.env s.hp s.dfs nt m0 S0 w0 listed m S w a→Bv ops.length (oM listed)≤n→wpAny P .any ops.toArray Q n listed a w:=by
 have hdone:∀ (listed:Array Bool) (m:bf) (S:aX) (w:World) (a:Act),aaJ ap ops recs s.env s.hp s.dfs nt m0 S0 w0 listed m S w a→(∀ k,k<ops.length→oM listed k=true)→Q .normal a w:=by
  intro listed m S w a u y
  have hh:∀ b,aG (Dp s.hp recs) b=aG (oh (oM listed) 0 s.hp recs) b:=fun b=>
   qy recs 0 _ _ rfl fun k r c _=>by rw [y (0+k) (by have:=(List.getElem?_eq_some_iff.1 c).1;omega)]
  have he:∀ t,(og s.env recs).get t=(lU (oM listed) 0 s.env recs).get t:=fun t=>
   nD recs 0 _ _ rfl fun k r c _=>by rw [y (0+k) (by have:=(List.getElem?_eq_some_iff.1 c).1;omega)]
  have F:=funext hh
  exact hQ m S w a (F ▸ u.fr) (u.rel.congr he F)
 intro n
 induction n with
 | zero=>
  intro listed m S w a u hm
  have y:∀ k,k<ops.length→oM listed k=true:=by
   intro k c
   cases f:oM listed k with
   |true=>rfl
   |false=>
    have N:k ∈ (List.range ops.length).filter fun i=> !oM listed i:=by simp [c,f]
    have:(List.range ops.length).filter (fun i=> !oM listed i)= []:=List.eq_nil_of_length_eq_zero (Nat.le_zero.1 hm)
    rw [this] at N
    cases N
  refine ⟨?_,hdone listed m S w a u y⟩
  cases hr:Region.ready .any ops.toArray listed with
  |nil=>rfl
  |cons i r=>
   obtain ⟨o,_,p,h3,_⟩:=Em u.sz (i:=i) (by rw [hr];simp)
   rw [y i h3] at p;cases p
 | succ n ih=>
  intro listed m S w a u hm
  refine ⟨fun Z=>hdone listed m S w a u (Vx hback u.sz Z),fun i hi=> ?_⟩
  obtain ⟨o,L,E,Y,hedges⟩:=Em u.sz hi
  have v:recs[i]? =some recs[i]:=List.getElem?_eq_getElem (by omega)
  generalize recs[i]=r at v
  obtain ⟨o',V,I,hstep⟩:=hsem i r v
  rw [L] at V
  cases V
  have X:i<listed.size:=by rw [u.sz];exact Y
  have l:=Xv X
  have M:AX ops (oM (listed.setIfInBounds i true)):=by
   intro k o2 c f e he z
   rw [l] at f ⊢
   split
   ·rfl
   ·split at f
    ·rename_i G
     subst G
     rw [L] at c;cases c
     exact hedges e he z
    ·exact u.cl k o2 c f e he z
  have R:∀ k q,recs[k]? =some q→k<i→(kF q.foot r.foot=true∨∃ x ∈ r.ups.map (·.1),A+4*k≤x∧x<A+4*k+4)→oM listed k=true:=by
   intro k q c G hc
   have C:=hord.ok k i q r c v G hc
   have p:=pq M (k:=i) (i:=k) (by rw [l,if_pos rfl]) C
   rw [l,if_neg (by omega)] at p
   exact p
  have hhigh:∀ k q,recs[k]? =some q→i<k→(kF r.foot q.foot=true∨∃ x ∈ q.ups.map (·.1),A+4*i≤x∧x<A+4*i+4)→oM listed k=false:=by
   intro k q c G hc
   cases f:oM listed k with
   |false=>rfl
   |true=>
    have C:=hord.ok i k r q v c G hc
    have p:=pq u.cl f C
    rw [E] at p;cases p
  have O:∀ k q,recs[k]? =some q→(k<i→kF q.foot r.foot=true)→(i<k→kF r.foot q.foot=true)→decide (k<i)=oM listed k:=by
   intro k q c C p
   rcases Nat.lt_trichotomy k i with h|h|h
   ·rw [R k q c h (.inl (C h))];simp [h]
   ·subst h;rw [E];simp
   ·rw [hhigh k q c h (.inl (p h))];simp;omega
  have hagr':∀ k q,recs[k]? =some q→(k<i→kF q.foot r.foot=true)→(i<k→kF r.foot q.foot=true)→oM (listed.setIfInBounds i true) k=decide (k<i+1):=by
   intro k q c C p
   rw [l]
   rcases Nat.lt_trichotomy k i with h|h|h
   ·rw [if_neg (by omega),R k q c h (.inl (C h))];simp;omega
   ·subst h;simp
   ·rw [if_neg (by omega),hhigh k q c h (.inl (p h))];simp;omega
  have U:∀ t ∈ r.rt,(og s.env (recs.take i)).get t=(lU (oM listed) 0 s.env recs).get t:=by
   intro t J
   rw [← xX]
   refine nD recs 0 _ _ rfl fun k q c f=> ?_
   rw [Nat.zero_add]
   exact O k q c (fun _=>TB (uq f) J) (fun _=>TA J (uq f))
  have hhp:∀ b ∈ r.rb,aG (Dp s.hp (recs.take i)) b=aG (oh (oM listed) 0 s.hp recs) b:=by
   intro b z
   rw [← Nw]
   refine qy recs 0 _ _ rfl fun k q c f=> ?_
   rw [Nat.zero_add]
   exact O k q c (fun _=>Qp f z) (fun _=>Qo z f)
  have hfresh:∀ j,j<4→aG (oh (oM listed) 0 s.hp recs) (A+4*i+j)=none:=by
   intro j hj
   have C:aG (oh (oM listed) 0 s.hp recs) (A+4*i+j)=aG (oh (fun _=>false) 0 s.hp recs) (A+4*i+j):=by
    refine qy recs 0 _ _ rfl fun k q c f=> ?_
    rw [Nat.zero_add]
    have z:=hbound k q c _ f
    rcases Nat.lt_trichotomy k i with h|h|h
    ·omega
    ·subst h;exact E
    ·exact hhigh k q c h (.inr ⟨_,f,by omega,by omega⟩)
   rw [C,nI recs 0 _ (fun _ _=>rfl)]
   cases z:aG s.hp (A+4*i+j) with
   |none=>rfl
   |some B=>have:=hn0 _ _ z;omega
  have T:ops.toArray[i]? =some o:=by simpa using L
  have hgoal:wpO P ops.toArray Q o (wpAny P .any ops.toArray Q n (listed.setIfInBounds i true)) a w:=by
   refine hstep (oM listed) m S w a u.rel.srel (fun t J=>by rw [U t J];exact u.rel.env t) hhp hfresh (fun j hj=>by
    cases f:oM listed j with
    |false=>rfl
    |true=>
     have p:=pq u.cl f hj
     rw [E] at p;cases p) Q _ ?_
   intro cv m' S' w' ds C p h3 h4
   have hF:=u.rel.put (hnt o (List.mem_of_getElem? L)) C p h3 h4
   rw [kM] at p
   rw [List.nil_append] at hF
   have he':∀ t,(lU (oM (listed.setIfInBounds i true)) 0 s.env recs).get t=(pU (lU (oM listed) 0 s.env recs) o.dst r.v).get t:=by
    intro t
    by_cases J:o.dst=some t
    ·have h5:(lU (oM (listed.setIfInBounds i true)) 0 s.env recs).get t=(lU (fun j=>decide (j<i+1)) 0 s.env recs).get t:=by
      refine nD recs 0 _ _ rfl fun k q c f=> ?_
      rw [Nat.zero_add]
      have W:t ∈ r.foot.wt:=uq (I.trans J)
      exact hagr' k q c (fun _=>JP (uq f) W) (fun _=>JP W (uq f))
     rw [h5,xX,Gs _ _ _ _ v,I,J,jr,jr]
    ·rw [yc J]
     refine nD recs 0 _ _ rfl fun k q c f=> ?_
     rw [Nat.zero_add,l,if_neg]
     rintro rfl
     rw [v] at c;cases c
     exact J (I ▸ f)
   have F:aG (oh (oM (listed.setIfInBounds i true)) 0 s.hp recs)=aG (r.ups++oh (oM listed) 0 s.hp recs):=by
    funext b
    by_cases z:b ∈ r.ups.map (·.1)
    ·have h5:aG (oh (oM (listed.setIfInBounds i true)) 0 s.hp recs) b=aG (oh (fun j=>decide (j<i+1)) 0 s.hp recs) b:=by
      refine qy recs 0 _ _ rfl fun k q c f=> ?_
      rw [Nat.zero_add]
      exact hagr' k q c (fun _=>Gf f z) (fun _=>Gf z f)
     rw [h5,Nw,Uu _ _ _ _ v]
     exact yt z
    ·rw [qZ z]
     refine qy recs 0 _ _ rfl fun k q c f=> ?_
     rw [Nat.zero_add,l,if_neg]
     rintro rfl
     rw [v] at c;cases c
     exact z f
   refine ih _ m' S' w' _ ⟨by rw [Array.size_setIfInBounds];exact u.sz,M, ?_,hF.congr he' F⟩ ?_
   ·rw [F];exact u.fr.trans p
   ·have:=Ad E l (List.range ops.length) List.nodup_range (by simp [Y])
    simp only [Bv] at hm ⊢
    omega
  simp only [wpOp,T]
  exact hgoal
theorem Ub {ops:List Oper} {recs:List kD} {s s':RS} {q nt:Nat} (h:∀ o ∈ ops,∀ d,o.dst=some d→d<nt) (e:recs.length=ops.length) (c:Td P ap ops 0 q s s' recs) (l:s'.dfs.length=s.dfs.length)
  (hord:HY q (fun j i=>((Region.before ops.toArray).toList.getD j 0).testBit i) recs) (hback:qW ops=true) (hn0:∀ b B,aG s.hp b=some B→b<q) {m0:bf} {S0:aX} {w0:World} {Q:Exit→Act→World→Prop}
  (hQ:∀ m S w a,Fr (aG s.hp) m0 S0 w0 (aG (Dp s.hp recs)) m S w→FR ap (og s.env recs) (Dp s.hp recs) s.dfs nt m S w a→Q .normal a w):
  ∀ (fuel:Nat) (listed:Array Bool) (m:bf) (S:aX) (w:World) (a:Act),aaJ ap ops recs s.env s.hp s.dfs nt m0 S0 w0 listed m S w a→Bv ops.length (oM listed)≤fuel→wpAny P .any ops.toArray Q fuel listed a w:=by
 obtain ⟨_,f⟩:=c.sem l
 refine J8 h e c.bound (fun k r v=> ?_) hord hback hn0 hQ
 obtain ⟨o,t,C,A⟩:=f k r v
 rw [Nat.zero_add] at t
 exact ⟨o,t,C,fun D m S w a x y p n _ Q K E=>A _ m S w a x y (fun b u B z=>by rw [← p b u];exact z) n Q K E⟩
def ou (ap:AP) (base:Nat) (keep:List Nat) (hp0:Hp) (m:bf) (S:aX) (w:World) (nt:Nat) (s':St) (Q:Exit→Act→World→Prop):bM→Prop
 | .panic v=>match (fD v).isEmpty with
  |true=> ∀ s1:St,s'=norm base keep s1→xB ap hp0 m S w nt s1.env s1.hp s1.dfs Q (some v)
  |false=>xB ap hp0 m S w nt s'.env s'.hp s'.dfs Q (some v)
 | .normal=> ∀ s1:St,s'=norm base keep s1→xB ap hp0 m S w nt s1.env s1.hp s1.dfs Q none
 |_=>True
theorem Jd (z:je P ap) (G:P.follows .mixedOrders=true) (I:jZ P ap H) {ops:List Oper} {l:Bool} {nt base:Nat} {keep:List Nat} (A:∀ o ∈ ops,∀ d,o.dst=some d→d<nt) {s:St} {e:bM} {s':St} {c V:Cx} {id:Nat}
  (h:Jc ap H base keep ops l s c= .ok (e,s') V) (hc:V.Ok):c.Ok∧(s.md= .dead→s'.md= .dead∧(∀ m S w a,FR ap s.env s.hp s.dfs nt m S w a→∀ Q,
   ou ap base keep s.hp m S w nt s' Q e→(Code.region id ops.toArray l).wp P Q a w)):=by
 unfold Jc at h
 obtain ⟨⟨Z,p⟩,c1,J,h⟩:=R.bind_ok h
 dsimp only at h
 have y:∀ b B,aG s.hp b=some B→b<iK s.hp:=fun b B q=>qH q
 cases p with
 | some v=>
  cases l with
  |true=>cases h
  | false=>
   dsimp only at h
   split at h
   ·rename_i E
    cases h
    obtain ⟨i,hs⟩:=mV z I A ops 0 _ _ _ _ _ _ J hc
    refine ⟨i,fun f=> ?_⟩
    obtain ⟨x,D⟩:=hs f (fun t b q=>by cases q) rfl y
    refine ⟨x,fun m S w a j Q r=>wp_region ?_⟩
    simp only [ou,E] at r
    have:=D m S w a j Q (r _ rfl)
    rw [← List.range_eq_range'] at this
    simpa using this
   ·rename_i E
    cases h
    obtain ⟨i,hs⟩:=mV z I A ops 0 _ _ _ _ _ _ J hc
    refine ⟨i,fun f=> ?_⟩
    obtain ⟨x,D⟩:=hs f (fun t b q=>by cases q) rfl y
    refine ⟨x,fun m S w a j Q r=>wp_region ?_⟩
    simp only [ou,E] at r
    have:=D m S w a j Q r
    rw [← List.range_eq_range'] at this
    simpa using this
 | none=>
  dsimp only at h
  split at h
  ·rename_i hcond
   cases h
   cases l with
   |false=>
    obtain ⟨i,hs⟩:=mV z I A ops 0 _ _ _ _ _ _ J hc
    refine ⟨i,fun f=> ?_⟩
    obtain ⟨x,D⟩:=hs f (fun t b q=>by cases q) rfl y
    refine ⟨x,fun m S w a j Q r=>wp_region ?_⟩
    have:=D m S w a j Q (r _ rfl)
    rw [← List.range_eq_range'] at this
    simpa using this
   | true=>
    obtain ⟨i,hs⟩:=Wq z I ops 0 _ _ _ _ _ J hc
    refine ⟨i,fun f=> ?_⟩
    obtain ⟨x,recs,F,n⟩:=hs f (fun t b q=>by cases q) rfl
    refine ⟨x,fun m S w a j Q r=>wp_region_any G ?_⟩
    simp only [Bool.not_true,Bool.false_or,Bool.and_eq_true] at hcond
    obtain ⟨⟨O,hback⟩,u⟩:=hcond
    have u:=aO u
    rw [n.feet,List.append_nil] at O
    have L:=r _ rfl
    have N:=(n.sem u).1
    have C:oM (Array.replicate ops.length false)=fun _=>false:=by
     funext k
     simp only [oM,Array.getD_eq_getD_getElem?]
     by_cases T:k<ops.length<;>simp [T]
    have K:ops.toArray.size=ops.length:=by simp
    rw [K]
    refine Ub A F n u (D7 O) hback y (m0:=m) (S0:=S) (w0:=w) (Q:=Q) ?_ ops.length _ m S _ a ⟨by simp, ?_, ?_, ?_⟩ ?_
    ·intro Y S' w' W M X
     refine L Y S' w' W ?_ ?_
     ·rw [n.hp];exact M
     ·rw [n.hp,n.env,N];exact X
    ·intro k o T U
     rw [C] at U;cases U
    ·rw [C,nI recs 0 _ (fun _ _=>rfl)]
     exact ⟨Ge.refl _ _,mD.refl _,rfl,rfl,rfl,Nat.le_refl _,fun _ _ _=>rfl,fun _ B h=> .inr ⟨B,h,rfl⟩,fun _ _ _ h=> .inl h⟩
    ·rw [C,nI recs 0 _ (fun _ _=>rfl),uU recs 0 _ (fun _ _=>rfl)]
     exact ⟨⟨j.srel.inj,fun b B q=>j.srel.blk b B q|>fun ⟨x,D,M⟩=> ⟨x,D,M⟩,j.srel.sealed,j.srel.own,j.srel.glob⟩,j.env,j.dfs,j.size⟩
    ·exact Nat.le_trans (List.length_filter_le _ _) (by simp)
  ·cases h
end
end AM
namespace AM
open Go
def Aw (acc:List Nat) (b:Nat):List Nat:=if pM acc b then acc else acc++ [b]
theorem Qe (a:List Nat) (b:Nat) (h:a.Nodup):(Aw a b).Nodup∧∃ t,Aw a b=a++t:=by
 unfold Aw
 split
 ·exact ⟨h,[],by simp⟩
 ·rename_i d
  refine ⟨?_,[b],rfl⟩
  rw [List.nodup_append]
  refine ⟨h,by simp, ?_⟩
  intro x f y c e
  simp at c
  subst c;subst e
  exact d (jg.2 f)
theorem oD:∀ (l a:List Nat),a.Nodup→(l.foldl Aw a).Nodup∧∃ t,l.foldl Aw a=a++t
 | [],a,h=> ⟨h,[],by simp⟩
 |b::r,a,h=>by
  simp only [List.foldl_cons]
  obtain ⟨j,c,i⟩:=Qe a b h
  obtain ⟨e,d,f⟩:=oD r _ j
  exact ⟨e,c++d,by rw [f,i,List.append_assoc]⟩
theorem BV:∀ (l a:List Nat),l.Nodup→(∀ x ∈ l,x ∉ a)→l.foldl Aw a=a++l
 | [],a,_,_=>by simp
 | b::r,a,h,hd=>by
  rw [List.nodup_cons] at h
  have e:pM a b=false:=by
   cases c:pM a b with
   |false=>rfl
   |true=>exact absurd (jg.1 c) (hd b (by simp))
  simp only [List.foldl_cons]
  have:Aw a b=a++ [b]:=by simp [Aw,e]
  rw [this,BV r _ h.2]
  ·simp
  ·intro x d c
   rcases List.mem_append.1 c with c|c
   ·exact hd x (by simp [d]) c
   ·simp at c;subst c;exact h.1 d
theorem QS (l:List Nat):jB l=l.foldl Aw []:=rfl
theorem NV (n:Nat) (l:List Nat):(jB (List.range n++l)).Nodup∧∃ t,jB (List.range n++l)=List.range n++t:=by
 rw [QS,List.foldl_append,BV (List.range n) [] List.nodup_range (by simp),List.nil_append]
 exact oD l _ List.nodup_range
theorem tX (rd:dU):∀ (n:Nat) (l:List Nat),l.Nodup→(sU rd n l).Nodup∧∃ t,sU rd n l=l++t
 |0,l,h=> ⟨h,[],by simp [sU]⟩
 | n+1,l,h=>by
  simp only [sU]
  split
  ·exact ⟨h,[],by simp⟩
  ·obtain ⟨i,a,f⟩:=oD (l.flatMap fun b=>match rd b with|some B=>(match B.pr with|true=> []|false=>dw B.cells)|none=> []) l h
   obtain ⟨d,c,e⟩:=tX rd n _ i
   refine ⟨d,a++c, ?_⟩
   exact e.trans (by rw [f,List.append_assoc])
theorem GL {f:Nat→AV}:∀ (keep:List Nat) (t:Nat),aG (keep.map fun t=>(t,f t)) t=if t ∈ keep then some (f t) else none
 | [],t=>by simp [aG]
 | a::r,t=>by
  simp only [List.map_cons,aG,GL r t]
  cases h:Nat.beq a t with
  |true=>have:=aO h;subst this;simp
  |false=>
   have b:t ≠ a:=by intro e;subst e;simp at h
   simp [b]
theorem z_ {rd:dU} {mk:Nat→bi→bi}:∀ (ids:List Nat) (j p:Nat),aG ((ids.zipIdx j).filterMap fun (b,p)=>(rd b).map fun B=>(p,mk p B)) p=if j≤p then (ids[p - j]?).bind fun b=>(rd b).map (mk p) else none
 | [],j,p=>by simp [aG]
 | a ::r,j,p=>by
  have i:=z_ (rd:=rd) (mk:=mk) r (j+1) p
  rw [List.zipIdx_cons]
  cases c:rd a with
  | none=>
   rw [List.filterMap_cons_none (by simp [c]),i]
   by_cases hj:j+1≤p
   ·rw [if_pos hj,if_pos (by omega)]
    obtain ⟨d,f⟩:∃ d,p - j=d+1:=⟨p - j - 1,by omega⟩
    rw [f,List.getElem?_cons_succ,show p - (j+1)=d by omega]
   ·rw [if_neg hj]
    by_cases hjp:j≤p
    ·rw [if_pos hjp,show p - j=0 by omega];simp [c]
    ·rw [if_neg hjp]
  | some B=>
   rw [List.filterMap_cons_some (by simp [c];rfl)]
   simp only [aG]
   cases h:Nat.beq j p with
   |true=>have:=aO h;subst this;simp [c]
   | false=>
    have k:j ≠ p:=by intro e;subst e;simp at h
    simp only [i]
    by_cases hj:j+1≤p
    ·rw [if_pos hj,if_pos (by omega)]
     obtain ⟨d,f⟩:∃ d,p - j=d+1:=⟨p - j - 1,by omega⟩
     rw [f,List.getElem?_cons_succ,show p - (j+1)=d by omega]
    ·rw [if_neg hj,if_neg (by omega)]
theorem GX:∀ {l:List Nat},l.Nodup→ru l=true
 | [],_=>rfl
 |b::r,h=>by
  rw [List.nodup_cons] at h
  simp only [ru,Bool.and_eq_true,Bool.not_eq_true']
  refine ⟨?_,GX h.2⟩
  cases a:pM r b with
  |false=>rfl
  |true=>exact absurd (jg.1 a) h.1
section
variable {P:Program} {ap:AP} {H:dm}
theorem Jv {g g':dU} {m b:bf} {S S':aX} {ρ:Nat→Nat→Option (Nat × Nat)} (c:mD S S') (h:sH g m g' b ρ):∀ {l:List (Nat × List AV)} {ds:List Deferred},iH g m S l ds→iH g' b S' (l.map fun d=>(d.1,lV ρ d.2)) ds
 | [],[],_=>by simp [iH]
 |d::r,cd::cr,p=>by
  simp only [iH] at p
  obtain ⟨⟨a,f,e⟩,i⟩:=p
  simp only [List.map_cons,iH]
  exact ⟨⟨a,f,kT c h _ e⟩,Jv c h i⟩
 | [],_::_,p=>by simp [iH] at p
 |_::_,[],p=>by simp [iH] at p
theorem nO {h0:List bi} {keep:List Nat} {s:St} {nt:Nat} {m m0:bf} {S S0:aX} {w w0:World} {a:Act} (c:Fr (bI h0) m0 S0 w0 (aG s.hp) m S w) (C:FR ap s.env s.hp s.dfs nt m S w a):
  ∃ m',Fr (bI h0) m0 S0 w0 (aG (norm h0.length keep s).hp) m' S w∧FR ap (norm h0.length keep s).env (norm h0.length keep s).hp (norm h0.length keep s).dfs nt m' S w a:=by
 obtain ⟨_,t0,O⟩:=tX (aG s.hp) 20 (List.range h0.length) List.nodup_range
 generalize hroots:t0++(CZ keep s.env++s.dfs.flatMap (fun d=>dw d.2))=roots
 have hroots':sU (aG s.hp) 20 (List.range h0.length)++CZ keep s.env++s.dfs.flatMap (fun d=>dw d.2)=List.range h0.length++roots:=by rw [← hroots,O];simp only [List.append_assoc]
 obtain ⟨U,t1,M⟩:=NV h0.length roots
 obtain ⟨V,t2,I⟩:=tX (aG s.hp) 20 _ U
 rw [M,List.append_assoc] at I
 have hsome:∀ b,b<h0.length→∃ B0 B,bI h0 b=some B0∧aG s.hp b=some B∧B.esz=B0.esz∧((B.ver=B0.ver∧m b=m0 b)∨B0.ver<B.ver):=by
  intro b z
  obtain ⟨B,l,r⟩:=c.ge b h0[b] (by simp [bI,z])
  exact ⟨h0[b],B,by simp [bI,z],l,r⟩
 generalize k:(sU (aG s.hp) 20 (jB (List.range h0.length++roots))).filter (fun b=>(aG s.hp b).isSome)=ids
 have W:ids.Nodup:=by rw [← k];exact V.filter _
 have E:=GX W
 have u:∃ t,ids=List.range h0.length++t:=by
  rw [← k,M,I,List.filter_append]
  refine ⟨_,congrArg (· ++_) ?_⟩
  rw [List.filter_eq_self]
  intro b z
  obtain ⟨_,B,_,r,_⟩:=hsome b (by simpa using z)
  simp [r]
 obtain ⟨t,u⟩:=u
 have y:∀ b,b<h0.length→ids[b]? =some b:=by
  intro b z
  rw [u,List.getElem?_append_left (by simpa using z)]
  simp [z]
 have L:∀ (p b:Nat),ids[p]? =some b→∃ B,aG s.hp b=some B:=by
  intro p b hp
  have:=List.mem_of_getElem? hp
  rw [← k,List.mem_filter] at this
  exact Option.isSome_iff_exists.1 this.2
 let ρ:Nat→Nat→Option (Nat × Nat):=fun b v=>match aG s.hp b with
  |some B=>match Nat.beq B.ver v with
   |true=>(pF ids b).map fun p=>(p,match Nat.blt p h0.length with|true=>v|false=>0)
   |false=>none
  |none=>none
 let mk:Nat→bi→bi:=fun p B=> {B with cells:=(match B.pr with|true=>B.cells|false=>lV ρ B.cells),ver:=match Nat.blt p h0.length with|true=>B.ver|false=>0}
 have hnorm:norm h0.length keep s=⟨keep.map fun t=>(t,ren ρ (s.env.get t)),ids.zipIdx.filterMap fun (b,p)=>(aG s.hp b).map fun B=>(p,mk p B),s.md,s.dfs.map fun d=>(d.1,lV ρ d.2)⟩:=by
  unfold norm
  simp only [hroots',k]
  rfl
 rw [hnorm]
 dsimp only
 have A:∀ p,aG (ids.zipIdx.filterMap fun (b,p)=>(aG s.hp b).map fun B=>(p,mk p B)) p=(ids[p]?).bind fun b=>(aG s.hp b).map (mk p):=by
  intro p
  rw [z_ (rd:=aG s.hp) (mk:=mk) ids 0 p,if_pos (Nat.zero_le _),Nat.sub_zero]
 generalize (ids.zipIdx.filterMap fun (b,p)=>(aG s.hp b).map fun B=>(p,mk p B))=hp2 at A
 have f:∀ (p:Nat) (B2:bi),aG hp2 p=some B2→∃ b B,ids[p]? =some b∧aG s.hp b=some B∧B2=mk p B:=by
  intro p B2 h
  rw [A] at h
  cases hp:ids[p]? with
  |none=>rw [hp] at h;cases h
  |some b=>
   rw [hp] at h
   obtain ⟨B,K⟩:=L p b hp
   simp only [Option.bind_some,K,Option.map_some,Option.some.injEq] at h
   exact ⟨b,B,rfl,K,h.symm⟩
 let m2:bf:=fun p=>m (ids.getD p 0)
 have j:∀ (p b:Nat),ids[p]? =some b→m2 p=m b:=by
  intro p b hp
  show m (ids.getD p 0)=_
  rw [List.getD_eq_getElem?_getD,hp];rfl
 have x:sH (aG s.hp) m (aG hp2) m2 ρ:=by
  intro b ver p Z h B K Y
  simp only [ρ,K] at h
  split at h
  ·rename_i G
   have G:=aO G
   simp only [Option.map_eq_some_iff,Prod.mk.injEq] at h
   obtain ⟨q,D,rfl,rfl⟩:=h
   have D:=qB D
   refine ⟨mk q B, ?_, ?_,fun _=> ⟨G,j q b D,rfl⟩⟩
   ·rw [A,D];simp [K]
   ·simp only [mk]
    split
    ·omega
    ·exact Nat.le_refl _
  ·cases h
 have F:∀ (p q b:Nat),ids[p]? =some b→ids[q]? =some b→p=q:=by
  intro p q b hp D
  have e1:=oQ E hp
  rw [oQ E D] at e1
  cases e1;rfl
 refine ⟨m2, ?_, ?_, ?_, ?_,C.size⟩
 ·refine ⟨?_,c.sle,c.os,c.tape,c.output,c.size,c.rest, ?_,c.sealN⟩
  ·intro b B0 z
   have n:b<h0.length:=(List.getElem?_eq_some_iff.1 z).1
   obtain ⟨B0',B,l,r,N,T⟩:=hsome b n
   rw [z] at l;cases l
   have Q:Nat.blt b h0.length=true:=Nat.ble_eq_true_of_le n
   refine ⟨mk b B,by rw [A,y b n];simp [r],N, ?_⟩
   simp only [mk,Q]
   rw [j b b (y b n)]
   exact T
  ·intro p B2 hp
   obtain ⟨b,B,l,r,rfl⟩:=f p B2 hp
   rw [j p b l]
   rcases c.img b B r with h|⟨B0,N,T⟩
   ·exact .inl h
   ·have n:b<h0.length:=(List.getElem?_eq_some_iff.1 N).1
    have:=F p b b l (y b n)
    subst this
    exact .inr ⟨B0,N,T⟩
 ·refine ⟨?_, ?_,C.srel.sealed, ?_,C.srel.glob⟩
  ·intro p q B2 B2' hp D e
   obtain ⟨b,B,l,r,rfl⟩:=f p B2 hp
   obtain ⟨b',B',J,R,rfl⟩:=f q B2' D
   rw [j p b l,j q b' J] at e
   have:=C.srel.inj b b' B B' r R e
   subst this
   exact F p q b l J
  ·intro p B2 hp
   obtain ⟨b,B,l,r,rfl⟩:=f p B2 hp
   rw [j p b l]
   obtain ⟨⟨cur,e,vs,rest,k1,k2,k3,k4,k5,k6⟩,k7,k8⟩:=C.srel.blk b B r
   cases i:B.pr with
   |true=>exact ⟨⟨cur,e,vs,rest,k1,k2,fun _=>by simpa [mk,i] using k3 i,by simpa [mk,i] using bW _ (k3 i),k5,k6⟩,k7,by simpa [mk,i] using k8⟩
   | false=>
    have G:=kT (mD.refl S) x _ k4
    exact ⟨⟨cur,e,vs,rest,k1,k2,fun h=>by simp [mk,i] at h,by simpa [mk,i] using G,k5,k6⟩,k7,by
     have:(mk p B).cells.length=B.cells.length:=by simp only [mk,i];rw [cZ k4,cZ G]
     rw [this];exact k8⟩
  ·intro p B2 hp o v X
   obtain ⟨b,B,l,r,rfl⟩:=f p B2 hp
   rw [j p b l] at X
   exact C.srel.own b B r o v X
 ·intro t
  simp only [iW.get,GL]
  by_cases ht:t ∈ keep
  ·rw [if_pos ht]
   exact yP (mD.refl S) x _ (C.env t)
  ·rw [if_neg ht]
   simp [VR]
 ·exact Jv (mD.refl S) x C.dfs
end
end AM
namespace AM
open Go
mutual
theorem xC {g g':dU} {m n:bf} {S S':aX} (i:mD S S'):∀ (x:AV) {v:Value},(∀ b ∈ fD x,g' b=g b∧n b=m b)→VR g m S x v→VR g' n S' x v
 | .int _ _,_,_,p=>by simpa only [VR,PR] using p
 | .bool _,_,_,p=>by simpa only [VR,PR] using p
 | .str _,_,_,p=>by simpa only [VR,PR] using p
 | .nilS,_,_,p=>by simpa only [VR,PR] using p
 | .nilP,_,_,p=>by simpa only [VR,PR] using p
 | .nilF,_,_,p=>by simpa only [VR,PR] using p
 | .nilI,_,_,p=>by simpa only [VR,PR] using p
 | .sl _ _ _,_,_,p=>by simp only [VR] at p ⊢;exact dD i _ p
 | .pp _ _,_,_,p=>by simp only [VR] at p ⊢;exact dD i _ p
 | .mp _ _,_,_,p=>by simp only [VR] at p ⊢;exact dD i _ p
 | .dead,_,_,_=>by simp only [VR]
 | .own _ _ _,_,_,p=>by simp only [VR] at p
 | .ref b _ _ _,_,h,p=>by
  obtain ⟨k,j⟩:=h b (by simp [fD])
  simp only [VR] at p ⊢
  rw [k,j];exact p
 | .ptr b _ _,_,h,p=>by
  obtain ⟨k,j⟩:=h b (by simp [fD])
  simp only [VR] at p ⊢
  rw [k,j];exact p
 | .mr b _,_,h,p=>by
  obtain ⟨k,j⟩:=h b (by simp [fD])
  simp only [VR] at p ⊢
  rw [k,j];exact p
 | .agg l,_,h,p=>by
  simp only [VR] at p ⊢
  obtain ⟨vs,e,q⟩:=p
  exact ⟨vs,e,mM i l (fun b d=>h b (by simpa [fD] using d)) q⟩
 | .tup l,_,h,p=>by
  simp only [VR] at p ⊢
  obtain ⟨vs,e,q⟩:=p
  exact ⟨vs,e,mM i l (fun b d=>h b (by simpa [fD] using d)) q⟩
 | .fn f a c,_,h,p=>by
  simp only [VR] at p ⊢
  obtain ⟨s,o,e,q,r⟩:=p
  exact ⟨s,o,e,mM i a (fun b d=>h b (by simp [fD,d])) q,mM i c (fun b d=>h b (by simp [fD,d])) r⟩
 | .ifc t x,_,h,p=>by
  simp only [VR] at p ⊢
  obtain ⟨u,e,q⟩:=p
  exact ⟨u,e,xC i x (fun b d=>h b (by simpa [fD] using d)) q⟩
theorem mM {g g':dU} {m c:bf} {S S':aX} (d:mD S S'):∀ (l:List AV) {vs:List Value},(∀ b ∈ dw l,g' b=g b∧c b=m b)→bF g m S l vs→bF g' c S' l vs
 | [],[],_,_=>by simp only [bF]
 |x::r,v::vs,h,p=>by
  simp only [bF] at p ⊢
  exact ⟨xC d x (fun b a=>h b (by simp [dw,a])) p.1,mM d r (fun b a=>h b (by simp [dw,a])) p.2⟩
 | [],_::_,_,p=>by simp [bF] at p
 |_::_,[],_,p=>by simp [bF] at p
end
theorem mi {g:dU} {m:bf} {S:aX} {x:AV} {v:Value} (h:(fD x).isEmpty=true) (c:VR g m S x v):PR S x v:=by
 have d:fD x= []:=by simpa using h
 exact m_ (m:=m) x (xC (mD.refl S) x (fun b a=>by rw [d] at a;cases a) c)
def Gp (nt:Nat) (o:Oper):Bool:=match o.dst with|some d=>Nat.blt d nt|none=>true
def dY (nt:Nat):Code→Bool
 | .region _ ops _=>ops.toList.all (Gp nt)
 | .seq a b=>dY nt a && dY nt b
 | .cond _ a b=>dY nt a && dY nt b
 | .block _ b=>dY nt b
 | .loop b=>dY nt b
 | .scope b=>dY nt b
 |_=>true
section
variable {P:Program} {ap:AP} {H:dm}
def S9 (hp:Hp) (m:bf) (S:aX) (Q:Exit→Act→World→Prop) (a:Act) (w:World):bM→Prop
 | .normal=>Q .normal a w
 | .exit id=>Q (.exit id) a w
 | .ret=>Q .ret a w
 | .panic v=> ∀ cv,VR (aG hp) m S v cv→Q (.panic [{v:=cv,recovered:=false}]) a w
def XA (ap:AP) (h0:List bi) (m0:bf) (S0:aX) (w0:World) (nt:Nat) (s':St) (e:bM) (Q:Exit→Act→World→Prop):Prop:=
 ∀ m' S' w' a',Fr (bI h0) m0 S0 w0 (aG s'.hp) m' S' w'→FR ap s'.env s'.hp s'.dfs nt m' S' w' a'→S9 s'.hp m' S' Q a' w' e
def ah (P:Program) (ap:AP) (h0:List bi) (nt:Nat) (code:Code) (s:St) (e:bM) (s':St):Prop:=
 s.md= .dead→s'.md= .dead∧∀ m0 S0 w0 m S w a,Fr (bI h0) m0 S0 w0 (aG s.hp) m S w→FR ap s.env s.hp s.dfs nt m S w a→∀ Q,XA ap h0 m0 S0 w0 nt s' e Q→code.wp P Q a w
theorem ah.still {h0:List bi} {nt:Nat} {b:Code} {s:St} {e:bM} (h:∀ (Q:Exit→Act→World→Prop) hp m S a w,S9 hp m S Q a w e→b.wp P Q a w):ah P ap h0 nt b s e s:=
 fun c=> ⟨c,fun _ _ _ m S w a d i Q f=>h Q s.hp m S a w (f m S w a d i)⟩
theorem Du {h0:List bi} {nt:Nat} {b:Code} {f:St→Cx→R (bM × St)} (y:∀ s e s' c c',f s c= .ok (e,s') c'→c'.Ok→c.Ok∧ah P ap h0 nt b s e s'):
  ∀ (n:Nat) (s:St) (e:bM) (s':St) (c c':Cx),O8 f n s c= .ok (e,s') c'→c'.Ok→c.Ok∧(s.md= .dead→s'.md= .dead∧∀ m0 S0 w0 m S w a,Fr (bI h0) m0 S0 w0 (aG s.hp) m S w→FR ap s.env s.hp s.dfs nt m S w a→∀ Q,XA ap h0 m0 S0 w0 nt s' e Q→Code.rounds P b Q n a w)
 |0,s,e,s',c,c',h,hc=>by cases h
 | n+1,s,e,s',c,c',h,hc=>by
  simp only [O8] at h
  obtain ⟨⟨u,C⟩,E,D,h⟩:=R.bind_ok h
  dsimp only at h
  have hother:u ≠ .normal→R.ok (u,C) E=R.ok (e,s') c'→c.Ok∧(s.md= .dead→s'.md= .dead∧∀ m0 S0 w0 m S w a,Fr (bI h0) m0 S0 w0 (aG s.hp) m S w→FR ap s.env s.hp s.dfs nt m S w a→∀ Q,XA ap h0 m0 S0 w0 nt s' e Q→Code.rounds P b Q (n+1) a w):=by
   intro l G
   cases G
   obtain ⟨j,B⟩:=y _ _ _ _ _ D hc
   refine ⟨j,fun i=> ?_⟩
   obtain ⟨t,q⟩:=B i
   refine ⟨t,fun m0 S0 w0 m S w a d r Q k=>q m0 S0 w0 m S w a d r _ ?_⟩
   intro A S' w' o p z
   have:=k A S' w' o p z
   cases e with
   |normal=>exact absurd rfl l
   |exit id=>exact this
   |ret=>exact this
   |panic v=>exact this
  cases u with
  |normal=>
   dsimp only at h
   obtain ⟨x,F⟩:=Du y n C e s' E c' h hc
   obtain ⟨j,B⟩:=y _ _ _ _ _ D x
   refine ⟨j,fun i=> ?_⟩
   obtain ⟨t,q⟩:=B i
   obtain ⟨p,z⟩:=F t
   refine ⟨p,fun m0 S0 w0 m S w a d r Q k=>q m0 S0 w0 m S w a d r _ ?_⟩
   intro A S' w' o J I
   exact z m0 S0 w0 A S' w' o J I Q k
  |exit id=>exact hother (by simp) h
  |ret=>exact hother (by simp) h
  |panic v=>exact hother (by simp) h
theorem fJ (q:je P ap) (i:P.follows .mixedOrders=true) (J:jZ P ap H) {h0:List bi} {keep:List Nat} {lf nt:Nat}:∀ (code:Code),dY nt code=true→∀ (s:St) (e:bM) (s':St) (c p:Cx),kZ ap H h0.length keep lf code s c= .ok (e,s') p→p.Ok→c.Ok∧ah P ap h0 nt code s e s'
 | .skip,_,s,e,s',c,p,h,n=>by
  cases h
  exact ⟨n,ah.still fun Q hp m S a w r=>wp_skip r⟩
 | .label l,_,s,e,s',c,p,h,n=>by
  cases h
  exact ⟨n,ah.still fun Q hp m S a w r=>wp_label r⟩
 | .exit id,_,s,e,s',c,p,h,n=>by
  cases h
  exact ⟨n,ah.still fun Q hp m S a w r=>wp_exit r⟩
 | .ret,_,s,e,s',c,p,h,n=>by
  cases h
  exact ⟨n,ah.still fun Q hp m S a w r=>wp_ret r⟩
 | .region id ops draw,hd,s,e,s',c,p,h,n=>by
  have hnt:∀ o ∈ ops.toList,∀ d,o.dst=some d→d<nt:=by
   intro o ho d hod
   have:=List.all_eq_true.1 hd o ho
   simp only [Gp,hod] at this
   exact gp this
  obtain ⟨k,hr⟩:=Jd q i J hnt (id:=id) h n
  refine ⟨k,fun j=> ?_⟩
  obtain ⟨I,h2⟩:=hr j
  refine ⟨I,fun m0 S0 w0 m S w a f D Q A=> ?_⟩
  have:=h2 m S w a D Q
  rw [Array.toArray_toList] at this
  refine this ?_
  cases e with
  |normal=>
   intro V T G S' w' B E C
   obtain ⟨m2,u,F⟩:=nO (keep:=keep) (f.trans E) C
   rw [← T] at u F
   exact A m2 S' w' B u F
  | panic v=>
   simp only [ou]
   split
   ·rename_i hre
    intro V T G S' w' B cv E C u
    obtain ⟨m2,F,X⟩:=nO (keep:=keep) (f.trans E) C
    rw [← T] at F X
    exact A m2 S' w' B F X cv (iQ _ (mi hre u))
   ·intro G S' w' B cv E C u
    exact A G S' w' B (f.trans E) C cv u
  |exit id=>trivial
  |ret=>trivial
 | .seq x y,hd,s,e,s',c,p,h,n=>by
  simp only [dY,Bool.and_eq_true] at hd
  simp only [kZ] at h
  obtain ⟨⟨N,V⟩,O,I,h⟩:=R.bind_ok h
  dsimp only at h
  have hother:N ≠ .normal→R.ok (N,V) O=R.ok (e,s') p→c.Ok∧ah P ap h0 nt (.seq x y) s e s':=by
   intro M U
   cases U
   obtain ⟨k,L⟩:=fJ q i J x hd.1 _ _ _ _ _ I n
   refine ⟨k,fun j=> ?_⟩
   obtain ⟨E,C⟩:=L j
   refine ⟨E,fun m0 S0 w0 m S w a f D Q A=>wp_seq (C m0 S0 w0 m S w a f D _ ?_)⟩
   intro G S' w' B u F
   have:=A G S' w' B u F
   cases e with
   |normal=>exact absurd rfl M
   |exit id=>exact this
   |ret=>exact this
   |panic v=>exact this
  cases N with
  |normal=>
   dsimp only at h
   obtain ⟨K,Y⟩:=fJ q i J y hd.2 _ _ _ _ _ h n
   obtain ⟨k,L⟩:=fJ q i J x hd.1 _ _ _ _ _ I K
   refine ⟨k,fun j=> ?_⟩
   obtain ⟨E,C⟩:=L j
   obtain ⟨u,F⟩:=Y E
   refine ⟨u,fun m0 S0 w0 m S w a f D Q A=>wp_seq (C m0 S0 w0 m S w a f D _ ?_)⟩
   intro G S' w' B X h8
   exact F m0 S0 w0 G S' w' B X h8 Q A
  |exit id=>exact hother (by simp) h
  |ret=>exact hother (by simp) h
  |panic v=>exact hother (by simp) h
 | .cond t x y,hd,s,e,s',c,p,h,n=>by
  simp only [dY,Bool.and_eq_true] at hd
  simp only [kZ] at h
  split at h
  ·rename_i bv hbv
   obtain ⟨b',O,I,h⟩:=R.bind_ok h
   have key:∀ (z:Code),(O.Ok→O.Ok∧z=if bv then x else y)→O.Ok∧ah P ap h0 nt z s e s'→c.Ok∧ah P ap h0 nt (.cond t x y) s e s':=by
    rintro z hzz ⟨K,Y⟩
    obtain ⟨k,hb⟩:=lm I K
    refine ⟨k,fun j=> ?_⟩
    obtain ⟨u,F⟩:=Y j
    refine ⟨u,fun m0 S0 w0 m S w a f D Q A=>wp_cond (t:=bv) ?_ ?_⟩
    ·have:=wS D.srel (a:=a) (env:=s.env) t (fun t _=>D.env t)
     rw [hbv] at this
     simpa only [VR,PR] using this
    ·rw [← (hzz K).2]
     exact F m0 S0 w0 m S w a f D Q A
   cases b' with
   |true=>exact key x (fun W=> ⟨W,by rw [← (lm I W).2];rfl⟩) (fJ q i J x hd.1 _ _ _ _ _ h n)
   |false=>exact key y (fun W=> ⟨W,by rw [← (lm I W).2];rfl⟩) (fJ q i J y hd.2 _ _ _ _ _ h n)
  ·cases h
 | .block id b,hd,s,e,s',c,p,h,n=>by
  simp only [dY] at hd
  simp only [kZ] at h
  obtain ⟨⟨N,V⟩,O,I,h⟩:=R.bind_ok h
  dsimp only at h
  have Z:O=p:=by
   cases N<;>dsimp only at h
   ·cases h;rfl
   ·split at h<;>cases h<;>rfl
   ·cases h;rfl
   ·cases h;rfl
  subst Z
  obtain ⟨k,L⟩:=fJ q i J b hd _ _ _ _ _ I n
  refine ⟨k,fun j=> ?_⟩
  obtain ⟨E,C⟩:=L j
  have hs:V=s':=by
   cases N<;>dsimp only at h
   ·cases h;rfl
   ·split at h<;>cases h<;>rfl
   ·cases h;rfl
   ·cases h;rfl
  subst hs
  refine ⟨E,fun m0 S0 w0 m S w a f D Q A=>wp_block (C m0 S0 w0 m S w a f D _ ?_)⟩
  intro G S' w' B u F
  have r:=A G S' w' B u F
  cases N with
  |normal=>cases h;exact r
  |ret=>cases h;exact r
  |panic v=>cases h;exact r
  | exit id'=>
   dsimp only at h
   split at h
   ·rename_i U
    cases h
    show Exit.inBlock id Q (.exit id') B w'
    simp only [Exit.inBlock,if_pos (aO U)]
    exact r
   ·rename_i U
    cases h
    show Exit.inBlock id Q (.exit id') B w'
    have M:id' ≠ id:=by intro e;subst e;simp at U
    simp only [Exit.inBlock,if_neg M]
    exact r
 | .loop b,hd,s,e,s',c,p,h,n=>by
  simp only [dY] at hd
  simp only [kZ] at h
  obtain ⟨k,L⟩:=Du (fun s e s' c p h n=>fJ q i J b hd s e s' c p h n) lf s e s' c p h n
  refine ⟨k,fun j=> ?_⟩
  obtain ⟨E,C⟩:=L j
  exact ⟨E,fun m0 S0 w0 m S w a f D Q A=>wp_loop_rounds lf (C m0 S0 w0 m S w a f D Q A)⟩
 | .scope b,hd,s,e,s',c,p,h,n=>by
  simp only [dY] at hd
  simp only [kZ] at h
  obtain ⟨k,L⟩:=fJ q i J b hd _ _ _ _ _ h n
  refine ⟨k,fun j=> ?_⟩
  obtain ⟨E,C⟩:=L j
  refine ⟨E,fun m0 S0 w0 m S w a f D Q A=>wp_scope_straight (C m0 S0 w0 m S w a f D _ ?_)⟩
  intro G S' w' B u F
  have r:=A G S' w' B u F
  cases e with
  |normal=>exact r
  |exit id=>exact r
  |ret=>exact r
  |panic v=>exact r
 | .rangeFunc _ _ _ _,_,s,e,s',c,p,h,n=>by cases h
 | .goto _,_,s,e,s',c,p,h,n=>by cases h
 | .refuse _,_,s,e,s',c,p,h,n=>by cases h
end
end AM
