/- The abstract machine over the code of the model, and the proof that it is sound. No conditions. -/
import Derived.Test.YtdmfgmmooalfnaaGreatDoorM2
import Derived.Orders
import Derived.LoopN
import Derived.Scope
set_option linter.unusedSimpArgs false
set_option linter.unusedVariables false
open List renaming map_cons→Xqi,getElem?_cons_succ→Xj4,filterMap_cons_none→Xvm,filterMap_cons_some→Xvn,mem_cons→Xwj,getElem?_append_left→Xxc,nil_append→Xqk,length_nil→Xqb,getElem?_eq_getElem→ξ,getElem?_eq_none→Xq4,mem_of_getElem?→Xqh,getD_eq_getElem?_getD→π,getElem?_map→Xq3,append_assoc→Xqe,mem_cons_self→Xjo,mem_cons_of_mem→Xx1,drop_drop→Xjl,length_cons→μ,range'_succ→Xv2,take_zero→Xvf,take_succ_cons→Xxu,eq_nil_of_length_eq_zero→Xxl,foldl_cons→Xjm,all_eq_true→Xza,mem_zipIdx_iff_getElem?→Xj5,range→Xq6,nodup_cons→Xkb,mem_filter→Xw9,mem_range→Yqs,size_toArray→Xzm,nodup_range→Xz7,range_eq_range'→Xz6
open Nat renaming add_assoc→Xzc,beq→Xqq,le_of_not_lt→Xvy,le_refl→Δ,lt_of_lt_of_le→Ψ,zero_add→Xqf,zero_le→Xxo,le_trans→Xqy,add_zero→Xq0,blt→Xx6,ble_eq_true_of_le→Xqv,lt_trichotomy→Xj6
open Bool renaming and_eq_true→ο,not_eq_true'→Xqo,or_eq_true→Xw8,not_true→Xwg,false_or→Xwh
open Option renaming map_eq_some_iff→Xqp,bind_some→Xw2,map_some→Xja,getD_some→Xw0
namespace AM
open Go
def bF (h:List a_):dw:=fun b=>h[b]?
def jA (gh gf:dw) (m:aV) (S:aQ):Nat→List AV→List Value→Prop
 |_,[],[]=>True
 |n,.own _ k _::r,v::vs=>VR gf m S (.ref n 0 0 k) v∧jA gh gf m S (n+1) r vs
 |n,x::r,v::vs=>VR gh m S x v∧jA gh gf m S n r vs
 |_,_,_=>False
def BJ (gh gf:dw) (m:aV) (S:aQ) (n:Nat):AV→Value→Prop
 | .tup l,v=> ∃ vs,v= .tuple vs.toArray∧jA gh gf m S n l vs
 | .own _ k _,v=>VR gf m S (.ref n 0 0 k) v
 |x,v=>VR gh m S x v
def mP (n:Nat):kD→List a_
 | .ret v=>(lI n v).2
 | .pan _=> []
def ack (h':List a_) (m':aV) (S':aQ):kD→Ending→Prop
 | .ret v,e=> ∃ cv,e= .returned cv∧BJ (bF h') (bF (h'++(lI h'.length v).2)) m' S' h'.length v cv
 | .pan v,e=> ∃ cv,e= .panicked [{v:=cv,recovered:=false}]∧VR (bF h') m' S' v cv
structure FU (ap:AP) (h:List a_) (m:aV) (S:aQ) (w:World) (out:kD) (h':List a_) (m':aV) (S':aQ) (w':World) (e:Ending):Prop where
 srel:bP ap (bF (h'++mP h'.length out)) m' S' w'
 fr:Fr (bF h) m S w (bF (h'++mP h'.length out)) m' S' w'
 out:ack h' m' S' out e
def CY (P:Program) (f:Nat):Prop:=∀ args w,(callFunc f args).run P w= .ok (.enter f args) w
structure bC (P:Program) (ap:AP) (f:Nat) (args:List AV) (h:List a_) (out:kD) (h':List a_):Prop where
 len:h.length≤h'.length
 ent:CY P f
 calls:∀ m S w cargs,bP ap (bF h) m S w→bg (bF h) m S args cargs→Calls P f cargs.toArray w fun e w'=> ∃ m' S',FU ap h m S w out h' m' S' w' e
def mM (P:Program) (ap:AP) (H:b_):Prop:=∀ c f args h out h' md' c',H c .dead f args h= .ok (out,h',md') c'→c'.Ok→c.Ok∧bC P ap f args h out h'
section
variable {P:Program} {ap:AP} {g:dw} {m:aV} {S:aQ} {w:World}
mutual
theorem nO {m:aV} {S:aQ}:∀ (x:AV) {v:Value},VR (bF []) m S x v→PR S x v
 | .int _ _,_,p=>by simpa only [VR] using p
 | .bool _,_,p=>by simpa only [VR] using p
 | .str _,_,p=>by simpa only [VR] using p
 | .nilS,_,p=>by simpa only [VR] using p
 | .nilP,_,p=>by simpa only [VR] using p
 | .nilF,_,p=>by simpa only [VR] using p
 | .nilI,_,p=>by simpa only [VR] using p
 | .sl _ _ _,_,p=>by simpa only [VR] using p
 | .pp _ _,_,p=>by simpa only [VR] using p
 | .mp _ _,_,p=>by simpa only [VR] using p
 | .dead,_,_=>by simp only [PR]
 | .own _ _ _,_,p=>by simp only [VR] at p
 | .ref _ _ _ _,_,p=>by simp [VR,bF] at p
 | .ptr _ _ _,_,p=>by simp [VR,bF] at p
 | .mr _ _,_,p=>by simp [VR,bF] at p
 | .agg l,_,p=>by
  simp only [VR] at p;simp only [PR];obtain ⟨vs,e,q⟩:=p;exact ⟨vs,e,lW l q⟩
 | .tup l,_,p=>by
  simp only [VR] at p;simp only [PR];obtain ⟨vs,e,q⟩:=p;exact ⟨vs,e,lW l q⟩
 | .fn f a c,_,p=>by
  simp only [VR] at p;simp only [PR];obtain ⟨d,b,e,q,r⟩:=p;exact ⟨d,b,e,lW a q,lW c r⟩
 | .ifc t x,_,p=>by
  simp only [VR] at p;simp only [PR];obtain ⟨u,e,q⟩:=p;exact ⟨u,e,nO x q⟩
theorem lW {m:aV} {S:aQ}:∀ (l:List AV) {vs:List Value},bg (bF []) m S l vs→dO S l vs
 | [],[],_=>by simp only [dO]
 |x::r,v::vs,p=>by simp only [bg] at p;simp only [dO];exact ⟨nO x p.1,lW r p.2⟩
 | [],_::_,p=>by simp [bg] at p
 |_::_,[],p=>by simp [bg] at p
end
theorem abO (A:bP ap g m S w) {N l:dw} {W t:aV} {Sp S':aQ} {w':World} (O:bP ap l t S' w') (r:Fr N W Sp w l t S' w') (ι:Nat→Nat)
  (hdom:∀ i Bc,N i=some Bc→∃ B,g (ι i)=some B∧W i=m (ι i))
  (hSp:oM S Sp) (hSpN:∀ k o v,Sp k o=some v→S k o=some v∨∃ b B,g b=some B∧(m b).1=k) {gN:dw} {mN:aV} (ρ:Nat→Nat→Option (Nat × Nat)) (hρ:sO l t gN mN ρ)
  (hnew:∀ i Bc,l i=some Bc→∃ B,gN (ι i)=some B∧mN (ι i)=t i∧B.esz=Bc.esz∧B.fro=Bc.fro∧B.fz=Bc.fz∧B.pr=Bc.pr∧(Bc.pr=true→B.cells=Bc.cells)∧(Bc.pr=false→B.cells=mQ ρ Bc.cells))
  (c:∀ b B,gN b=some B→(∃ i Bc,l i=some Bc∧b=ι i)∨(∃ B0,g b=some B0∧mN b=m b∧B.cells=B0.cells∧B.pr=B0.pr∧B.esz=B0.esz∧(B.fro=false→B.fz=0)∧B.fz≤B.cells.length∧(∀ i Bc,N i=some Bc→b ≠ ι i)∧(∀ o v,Sp (m b).1 o=some v→B.fro=true∧o<B.fz)))
  (hge:Ge g m gN mN):bP ap gN mN S' w'∧Fr g m S w gN mN S' w':=by
 have s:oM S S':=hSp.trans r.sle;have hcross:∀ b B0 i Bc,g b=some B0→l i=some Bc→(∀ i Bc,N i=some Bc→b ≠ ι i)→(m b).1 ≠ (t i).1:=by
  intro b B0 i Bc n a p e;have hlt:=A.lt n;rcases r.img i Bc a with d|⟨B1,d,x⟩
  ·omega
  ·obtain ⟨B2,D,G⟩:=hdom i B1 d;rw [G] at x;exact p i B1 d (A.inj b (ι i) B0 B2 n D (e.trans x))
 constructor
 ·refine ⟨?_, ?_,O.sealed, ?_,O.glob⟩
  ·intro b V B B' n X e;rcases c b B n with ⟨i,Bi,a,rfl⟩|⟨B0,u,d,_,_,_,_,_,x,_⟩<;>rcases c V B' X with ⟨j,Bj,T,rfl⟩|⟨B0',K,M,_,_,_,_,_,U,_⟩
   ·obtain ⟨_,_,z,_⟩:=hnew i Bi a;obtain ⟨_,_,q,_⟩:=hnew j Bj T;rw [z,q] at e;rw [O.inj i j Bi Bj a T e]
   ·obtain ⟨_,_,z,_⟩:=hnew i Bi a;rw [z,M] at e;exact absurd e.symm (hcross V B0' i Bi K a U)
   ·obtain ⟨_,_,q,_⟩:=hnew j Bj T;rw [q,d] at e;exact absurd e (hcross b B0 j Bj u T x)
   ·rw [d,M] at e;exact A.inj b V B0 B0' u K e
  ·intro b B n;rcases c b B n with ⟨i,Bi,a,rfl⟩|⟨B0,u,d,D,G,Q,Z,h7,x,_⟩
   ·obtain ⟨B1,I,z,q,R,F,e5,Y,e7⟩:=hnew i Bi a;rw [n] at I;cases I;rw [z];obtain ⟨⟨cur,e,vs,rest,k1,k2,k3,k4,k5,k6⟩,k7,k8⟩:=O.blk i Bi a;cases hp:Bi.pr with
    |true=>
     have hcells:=Y hp;refine ⟨⟨cur,e,vs,rest,by rw [q];exact k1,k2,fun _=>by rw [hcells];exact k3 hp,by rw [hcells];exact bT _ (k3 hp),by rw [q];exact k5,by rw [q];exact k6⟩,by rw [R,F];exact k7,by rw [F,hcells];exact k8⟩
    |false=>
     have hcells:=e7 hp;have y:=kG (oM.refl S') hρ _ k4;have J:B.cells.length=Bi.cells.length:=by rw [bQ k4,hcells,bQ y]
     refine ⟨⟨cur,e,vs,rest,by rw [q];exact k1,k2,(fun h=>by rw [e5,hp] at h;cases h),by rw [hcells];exact y,by rw [q];exact k5,by rw [q];exact k6⟩,by rw [R,F];exact k7,by rw [F,J];exact k8⟩
   ·rw [d];have p:∀ i Bc,N i=some Bc→(W i).1 ≠ (m b).1:=by
     intro i Bc a e;obtain ⟨B2,L,f⟩:=hdom i Bc a;rw [f] at e;exact x i Bc a (A.inj b (ι i) B0 B2 u L e.symm)
    obtain ⟨⟨cur,e,vs,rest,k1,k2,k3,k4,k5,k6⟩,k7,k8⟩:=A.blk b B0 u;refine ⟨⟨cur,e,vs,rest,by rw [Q];exact k1.same (r.rest _ (A.lt u) p),k2,fun hp=>by rw [D];rw [G] at hp;exact cO s _ (k3 hp),by rw [D];exact lX s hge _ k4,by rw [Q];exact k5,by rw [Q];exact k6⟩,Z,h7⟩
  ·intro b B n o v y;rcases c b B n with ⟨i,Bi,a,rfl⟩|⟨B0,u,d,D,G,Q,Z,h7,x,L⟩
   ·obtain ⟨B1,I,z,q,R,F,e5,Y,e7⟩:=hnew i Bi a;rw [n] at I;cases I;rw [z] at y;rw [R,F];exact O.own i Bi a o v y
   ·rw [d] at y;rcases r.sealN _ _ _ y with f|f|⟨i,Bi,a,f⟩
    ·exact L o v f
    ·have:=A.lt u;omega
    ·obtain ⟨B2,C,E⟩:=hdom i Bi a;rw [E] at f;exact absurd (A.inj b (ι i) B0 B2 u C f.symm) (x i Bi a)
 ·refine ⟨hge,s,r.os,r.tape,r.output,r.size, ?_, ?_, ?_⟩
  ·intro k hk p;refine r.rest k hk fun i Bc a e=> ?_
   obtain ⟨B2,L,f⟩:=hdom i Bc a;exact p (ι i) B2 L (by rw [← f];exact e)
  ·intro b B n;rcases c b B n with ⟨i,Bi,a,rfl⟩|⟨B0,u,d,_⟩
   ·obtain ⟨B1,I,z,_⟩:=hnew i Bi a;rw [z];rcases r.img i Bi a with d|⟨B2,d,x⟩
    ·exact .inl d
    ·obtain ⟨B3,D,G⟩:=hdom i B2 d;exact .inr ⟨B3,D,by rw [x,G]⟩
   ·exact .inr ⟨B0,u,by rw [d]⟩
  ·intro k o v y;rcases r.sealN _ _ _ y with f|f|⟨i,Bi,a,f⟩
   ·rcases hSpN _ _ _ f with h|h
    ·exact .inl h
    ·exact .inr (.inr h)
   ·exact .inr (.inl f)
   ·obtain ⟨B2,C,E⟩:=hdom i Bi a;exact .inr (.inr ⟨ι i,B2,C,by rw [← E];exact f⟩)
structure Gl (F:AV→AV):Prop where
 own:∀ xs n e,F (.own xs n e)= .own xs n e
 tup:∀ l,F (.tup l)= .tup (l.map F)
 not:∀ x,(∀ xs n e,x ≠ .own xs n e)→(∀ xs n e,F x ≠ .own xs n e)
 notT:∀ x,(∀ l,x ≠ .tup l)→(∀ l,F x ≠ .tup l)
theorem bu (n:Nat) {x:AV} (h:∀ xs k e,x ≠ .own xs k e) (r:List AV):fF n (x::r)=(x::(fF n r).1,(fF n r).2):=by
 cases x<;>first|rfl|exact absurd rfl (h _ _ _)
theorem jk (n:Nat) {x:AV} (h:∀ xs k e,x ≠ .own xs k e) (a:∀ l,x ≠ .tup l):lI n x=(x,[]):=by
 cases x<;>first|rfl|exact absurd rfl (h _ _ _)|exact absurd rfl (a _)
theorem bM {gh a:dw} {n:Nat} {x:AV} (h:∀ xs k e,x ≠ .own xs k e) {r:List AV} {v:Value} {vs:List Value}:jA gh a m S n (x::r) (v::vs)=(VR gh m S x v∧jA gh a m S n r vs):=by
 cases x<;>first|rfl|exact absurd rfl (h _ _ _)
theorem lu {gh a:dw} {n:Nat} {x:AV} (h:∀ xs k e,x ≠ .own xs k e) (b:∀ l,x ≠ .tup l) {v:Value}:BJ gh a m S n x v=VR gh m S x v:=by
 cases x<;>first|rfl|exact absurd rfl (h _ _ _)|exact absurd rfl (b _)
theorem jv (x:AV):(∃ xs k e,x= .own xs k e)∨(∀ xs k e,x ≠ .own xs k e):=by
 cases x<;>first|exact .inl ⟨_,_,_,rfl⟩|exact .inr (fun _ _ _ h=>by cases h)
theorem Au (x:AV):(∃ l,x= .tup l)∨(∀ l,x ≠ .tup l):=by
 cases x<;>first|exact .inl ⟨_,rfl⟩|exact .inr (fun _ h=>by cases h)
theorem r_ {F:AV→AV} (c:Gl F):∀ (l:List AV) (a b:Nat),(fF a (l.map F)).2=(fF b l).2
 | [],a,b=>rfl
 | x::r,a,b=>by
  rcases jv x with ⟨d,k,e,rfl⟩|hx
  ·simp only [Xqi,c.own,fF];rw [r_ c r (a+1) (b+1)]
  ·rw [Xqi,bu a (c.not x hx),bu b hx];exact r_ c r a b
theorem Bz {F:AV→AV} (c:Gl F) (x:AV) (a b:Nat):(lI a (F x)).2=(lI b x).2:=by
 rcases jv x with ⟨d,k,e,rfl⟩|hx
 ·rw [c.own];rfl
 ·rcases Au x with ⟨l,rfl⟩|ht
  ·rw [c.tup];simp only [lI];exact r_ c l a b
  ·rw [jk a (c.not x hx) (c.notT x ht),jk b hx ht]
theorem uI {F:AV→AV} (a:Gl F) {gh d gN:dw} {m mN:aV} {S:aQ} {n nid:Nat} (b:∀ x v,VR gh m S x v→VR gN mN S (F x) v) (c:∀ i k v,VR d m S (.ref (n+i) 0 0 k) v→VR gN mN S (.ref (nid+i) 0 0 k) v):
  ∀ (l:List AV) (vs:List Value) (j:Nat),jA gh d m S (n+j) l vs→bg gN mN S (fF (nid+j) (l.map F)).1 vs
 | [],[],j,_=>by simp [fF,bg]
 | x::r,v::vs,j,h=>by
  rcases jv x with ⟨f,k,e,rfl⟩|hxo
  ·simp only [jA] at h;simp only [Xqi,a.own,fF,bg];exact ⟨c j k v h.1,by have:=uI a b c r vs (j+1);rw [← Xzc,← Xzc] at this;exact this h.2⟩
  ·rw [bM hxo] at h;rw [Xqi,bu _ (a.not x hxo)];simp only [bg];exact ⟨b x v h.1,uI a b c r vs j h.2⟩
 | [],_::_,_,h=>by simp [jA] at h
 |x::r,[],_,h=>by cases x<;>simp [jA] at h
theorem EY {F:AV→AV} (a:Gl F) {gh b gN:dw} {m mN:aV} {S:aQ} {n nid:Nat} (c:∀ x v,VR gh m S x v→VR gN mN S (F x) v) (d:∀ i k v,VR b m S (.ref (n+i) 0 0 k) v→VR gN mN S (.ref (nid+i) 0 0 k) v)
  {x:AV} {v:Value} (h:BJ gh b m S n x v):VR gN mN S (lI nid (F x)).1 v:=by
 rcases jv x with ⟨f,k,e,rfl⟩|hxo
 ·simp only [BJ] at h;rw [a.own];exact d 0 k v h
 ·rcases Au x with ⟨l,rfl⟩|ht
  ·simp only [BJ] at h;obtain ⟨vs,e,h⟩:=h;rw [a.tup];simp only [lI,VR];exact ⟨vs,e,uI a c d l vs 0 h⟩
  ·rw [lu hxo ht] at h;rw [jk _ (a.not x hxo) (a.notT x ht)];exact c x v h
theorem Kz:Gl id:=⟨fun _ _ _=>rfl,fun l=>by simp,fun _ h=>h,fun _ h=>h⟩
theorem Lm (ρ:Nat→Nat→Option (Nat × Nat)):∀ l,mQ ρ l=l.map (ren ρ)
 | []=>rfl
 |x::r=>by simp [mQ,Lm ρ r]
theorem GU (ρ:Nat→Nat→Option (Nat × Nat)):Gl (ren ρ):=by
 refine ⟨fun _ _ _=>rfl,fun l=>by simp [ren,Lm], ?_, ?_⟩
 ·intro x h b n e a;cases x<;>simp only [ren] at a<;>first
   |(cases a;done)
   |(split at a<;>cases a;done)
   |exact h _ _ _ rfl
 ·intro x h l a;cases x<;>simp only [ren] at a<;>first
   |(cases a;done)
   |(split at a<;>cases a;done)
   |exact h _ rfl
theorem zI:∀ (bs:List a_) (n b:Nat),az (EI n bs) b=if n≤b then bs[b - n]? else none
 | [],n,b=>by simp [EI,az]
 | B::r,n,b=>by
  simp only [EI,az];cases h:Xqq n b with
  |true=>
   have:=aJ h;subst this;simp
  | false=>
   have a:n ≠ b:=by intro e;subst e;simp at h
   rw [zI r (n+1) b];by_cases hle:n≤b
   ·rw [if_pos hle,if_pos (show n+1≤b by omega)];obtain ⟨d,hd⟩:∃ d,b - n=d+1:=⟨b - n - 1,by omega⟩
    rw [hd,Xj4,show b - (n+1)=d by omega]
   ·rw [if_neg hle,if_neg (show ¬ n+1≤b by omega)]
theorem G6 {rd:dw} {mk:a_→a_}:∀ (fp:List Nat) (b:Nat),az (fp.filterMap fun b=>(rd b).map fun B=>(b,mk B)) b=if b ∈ fp then (rd b).map mk else none
 | [],b=>by simp [az]
 | a::r,b=>by
  have f:=G6 (rd:=rd) (mk:=mk) r b;cases c:rd a with
  |none=>
   rw [Xvm (by simp [c]),f];by_cases hab:b=a
   ·subst hab;simp [c]
   ·simp [hab]
  | some B=>
   rw [Xvn (by simp [c];rfl)];simp only [az];cases h:Xqq a b with
   |true=>have:=aJ h;subst this;simp [c]
   |false=>
    have d:b ≠ a:=by intro e;subst e;simp at h
    simp only [f,Xwj,d,false_or]
end
end AM
namespace AM
open Go
def acl (g:dw) (m:aV) (S:aQ):kD→Ending→Prop
 | .ret v,e=> ∃ cv,e= .returned cv∧VR g m S v cv
 | .pan v,e=> ∃ cv,e= .panicked [{v:=cv,recovered:=false}]∧VR g m S v cv
def XL (ap:AP) (g:dw) (m:aV) (S:aQ) (w:World) (out:kD) (ups:List (Nat × a_)) (e:Ending) (w':World):Prop:=
 ∃ m' S',bP ap (dH g ups) m' S' w'∧Fr g m S w (dH g ups) m' S' w'∧acl (dH g ups) m' S' out e
theorem eU {h c:List a_} {b:Nat} (a:b<h.length):bF (h++c) b=bF h b:=by
 simp [bF,Xxc a]
theorem je {h a:List a_} {b:Nat} (c:h.length≤b):bF (h++a) b=bF a (b - h.length):=by
 simp [bF,List.getElem?_append_right c]
def rq (l:List a_):Prop:=∀ B ∈ l,B.pr=true∧B.fro=false∧B.ver=0
theorem su:∀ (l:List AV) (n:Nat),rq (fF n l).2
 | [],n=>by simp [fF,rq]
 | x::r,n=>by
  rcases jv x with ⟨b,k,e,rfl⟩|hx
  ·simp only [fF];intro B a;rcases List.mem_cons.1 a with rfl|a
   ·exact ⟨rfl,rfl,rfl⟩
   ·exact su r (n+1) B a
  ·rw [bu n hx];exact su r n
theorem Ll (x:AV) (n:Nat):rq (lI n x).2:=by
 rcases jv x with ⟨b,k,e,rfl⟩|hx
 ·intro B a;simp [lI] at a;subst a;exact ⟨rfl,rfl,rfl⟩
 ·rcases Au x with ⟨l,rfl⟩|ht
  ·simp only [lI];exact su l n
  ·rw [jk n hx ht];simp [rq]
theorem Bv (o:kD) (n:Nat):rq (mP n o):=by
 cases o with
 |ret v=>exact Ll v n
 |pan v=>simp [mP,rq]
section
variable {P:Program} {ap:AP} {g:dw} {m:aV} {S:aQ} {w:World}
def I_ (nid:Nat) (F:AV→AV):kD→kD
 | .ret v=> .ret (lI nid (F v)).1
 | .pan v=> .pan (F v)
theorem AO (p:bP ap g m S w) {rd:dw} (j:∀ b B,rd b=some B→g b=some B) {L:List Nat} (X:∀ b B,rd b=some B→b ∈ L) {nid:Nat} {args args':List AV} {cargs:List Value} {out:kD}
  (ha:kz (frz rd 6) args=some args') (hv:bg g m S args cargs) {C:List Value→(Ending→World→Prop)→Prop} (hmono:∀ cargs R R',C cargs R→(∀ e w',R e w'→R' e w')→C cargs R')
  (f:∀ m1 S1,oM S S1→bP ap (bF []) m1 S1 w→bg (bF []) m1 S1 args' cargs→C cargs fun e w'=> ∃ m' S',FU ap [] m1 S1 w out [] m' S' w' e) (hfr:∀ i,i<(mP 0 out).length→g (nid+i)=none):
  C cargs fun e w'=>XL ap g m S w (I_ nid id out) (EI nid (mP 0 out)++L.filterMap fun b=>(rd b).map fun B=>(b,{B with fro:=true,fz:=B.cells.length})) e w':=by
 have W:dO (dB S m rd w) args' cargs:=tH (fun x v y a d=>lG p j 6 x v y a d) ha hv;have s:=nJ S m rd w
 let m0:aV:=fun _=>(0,0)
 have O:bP ap (bF []) m0 (dB S m rd w) w:=by
  refine ⟨fun b b' B B' h=>by simp [bF] at h,fun b B h=>by simp [bF] at h,fun k o v h=>pU p h,fun b B h=>by simp [bF] at h, ?_⟩;intro k xs hk;obtain ⟨vs,a,d⟩:=p.glob k xs hk;exact ⟨vs,cO s _ a,d.mono s⟩
 refine hmono _ _ _ (f m0 (dB S m rd w) s O (bT _ W)) ?_
 rintro e w' ⟨m',S',hF⟩
 obtain ⟨z,q,l⟩:=hF;simp only [Xqk,Xqb] at z q l;generalize G:mP 0 out=bs at z q hfr;have F:rq bs:=G ▸ Bv out 0
 let gN:dw:=dH g (EI nid bs++L.filterMap fun b=>(rd b).map fun B=>(b,{B with fro:=true,fz:=B.cells.length}))
 let mN:aV:=fun b=>if nid≤b∧b - nid<bs.length then m' (b - nid) else m b
 have u:∀ b,gN b=if nid≤b∧b - nid<bs.length then bs[b - nid]? else match rd b with|some B=>some {B with fro:=true,fz:=B.cells.length}|none=>g b:=by
  intro b;show dH g _ b=_;unfold dH;have Q:∀ mk:a_→a_,(if b ∈ L then (rd b).map mk else none)=(rd b).map mk:=by
   intro mk;split
   ·rfl
   ·rename_i c;cases r:rd b with
    |none=>rfl
    |some B=>exact absurd (X b B r) c
  rw [iF,zI,G6,Q];by_cases a:nid≤b
  ·by_cases d:b - nid<bs.length
   ·have f:nid≤b∧b - nid<bs.length:=⟨a,d⟩
    rw [if_pos a,if_pos f,ξ d]
   ·have f:¬ (nid≤b∧b - nid<bs.length):=fun h=>d h.2
    rw [if_pos a,if_neg f,Xq4 (Xvy d)];cases rd b<;>rfl
  ·have f:¬ (nid≤b∧b - nid<bs.length):=fun h=>a h.1
   rw [if_neg a,if_neg f];cases rd b<;>rfl
 have hnidg:∀ b B,g b=some B→¬ (nid≤b∧b - nid<bs.length):=by
  rintro b B c ⟨a,d⟩
  have:=hfr (b - nid) d;rw [show nid+(b - nid)=b by omega,c] at this;cases this
 have N:Ge g m gN mN:=by
  intro b B c;have hn:=hnidg b B c;have D:mN b=m b:=if_neg hn;rw [u,if_neg hn];cases r:rd b with
  |none=>exact ⟨B,c,rfl,.inl ⟨rfl,D⟩⟩
  |some B1=>
   have:=j b B1 r;rw [c] at this;cases this;exact ⟨_,rfl,rfl,.inl ⟨rfl,D⟩⟩
 have A:∀ i B,bs[i]? =some B→gN (nid+i)=some B∧mN (nid+i)=m' i:=by
  intro i B I;have hl:=(List.getElem?_eq_some_iff.1 I).1;have f:nid≤nid+i∧nid+i - nid<bs.length:=by omega
  refine ⟨by rw [u,if_pos f,show nid+i - nid=i by omega];exact I, ?_⟩;show (if _ then _ else _)=_;rw [if_pos f,show nid+i - nid=i by omega]
 obtain ⟨Z,M⟩:=abO (g:=g) (m:=m) (S:=S) (w:=w) p z q (fun i=>nid+i) (fun i Bc h=>by simp [bF] at h) s
  (fun k o v h=>(fG h).imp id fun ⟨_,b,B,a,d,_⟩=> ⟨b,B,j b B a,d⟩) (gN:=gN) (mN:=mN) (fun i v=>some (nid+i,v))
  (by
   intro b ver b' ver' h B hB J;simp only [Option.some.injEq,Prod.mk.injEq] at h;obtain ⟨rfl,rfl⟩:=h;obtain ⟨a,d⟩:=A b B hB;exact ⟨B,a,J,fun e=> ⟨e,d,rfl⟩⟩)
  (by
   intro i Bc I;obtain ⟨a,d⟩:=A i Bc I;exact ⟨Bc,a,d,rfl,rfl,rfl,rfl,fun _=>rfl,fun hp=>by rw [(F Bc (Xqh I)).1] at hp;cases hp⟩)
  (by
   intro b B c;by_cases f:nid≤b∧b - nid<bs.length
   ·rw [u,if_pos f] at c;exact .inl ⟨b - nid,B,c,by omega⟩
   ·have D:mN b=m b:=if_neg f;rw [u,if_neg f] at c;right;cases r:rd b with
    | none=>
     rw [r] at c;have c:g b=some B:=c;refine ⟨B,c,D,rfl,rfl,rfl,(p.blk b B c).fz0,(p.blk b B c).fzle,(fun i Bc h=>by simp [bF] at h), ?_⟩;intro o v Y;rcases fG Y with h|⟨_,U,B1,a,d,_⟩
     ·exact p.own b B c o v h
     ·have:=p.inj U b B1 B (j _ _ a) c d;subst this;rw [a] at r;cases r
    | some B1=>
     rw [r] at c;have c:some {B1 with fro:=true,fz:=B1.cells.length}=some B:=c;cases c;have t:=j b B1 r;refine ⟨B1,t,D,rfl,rfl,rfl,(fun h=>by cases h),Δ _,(fun i Bc h=>by simp [bF] at h), ?_⟩;intro o v Y;refine ⟨rfl, ?_⟩;rcases fG Y with h|⟨_,U,B2,a,d,T⟩
     ·exact Ψ (p.own b B1 t o v h).2 (p.blk b B1 t).fzle
     ·have:=p.inj U b B2 B1 (j _ _ a) t d;subst this;rw [a] at r;cases r;exact T)
  N
 refine ⟨mN,S',Z,M, ?_⟩;show acl gN mN S' (I_ nid id out) e;cases out with
 |ret v=>
  obtain ⟨cv,V,a⟩:=l;refine ⟨cv,V, ?_⟩;have E:(lI 0 v).2=bs:=G;simp only [Xqb,Xqk,E] at a;refine EY (n:=0) Kz (fun x v K=>iw x (nO x K)) ?_ a;intro i k v K;rw [Xqf] at K;simp only [VR] at K ⊢;obtain ⟨B,d,T,h4,h5⟩:=K;obtain ⟨h6,h7⟩:=A i B d;exact ⟨B,h6,T,h4,by rw [h7];exact h5⟩
 |pan v=>
  obtain ⟨cv,V,a⟩:=l;exact ⟨cv,V,iw _ (nO _ a)⟩
end
end AM
namespace AM
open Go
theorem KQ {b:Nat} {r:List Nat} (h:rV (b::r)=true):b ∉ r∧rV r=true:=by
 simp only [rV,ο,Xqo] at h;refine ⟨fun a=> ?_,h.2⟩;rw [jH.2 a] at h;cases h.1
theorem qP:∀ {l:List Nat} {b p:Nat},qc l b=some p→l[p]? =some b
 | [],b,p,h=>by simp [qc] at h
 | c::r,b,p,h=>by
  simp only [qc] at h;split at h
  ·rename_i d;cases h;rw [aJ d];rfl
  ·simp only [Xqp] at h;obtain ⟨q,a,rfl⟩:=h;simpa using qP a
theorem pz:∀ {l:List Nat} {b p:Nat},rV l=true→l[p]? =some b→qc l b=some p
 | [],b,p,_,h=>by simp at h
 |c::r,b,0,hn,h=>by simp at h;subst h;simp [qc]
 | c::r,b,p+1,hn,h=>by
  obtain ⟨f,d⟩:=KQ hn;have h:r[p]? =some b:=by simpa using h
  have a:Xqq c b=false:=by
   cases e:Xqq c b with
   |false=>rfl
   |true=>exact absurd (aJ e ▸ Xqh h) f
  simp [qc,a,pz d h]
theorem KJ {mk:Nat→a_→a_}:∀ (fp:List Nat) (h':List a_) (b:Nat),az ((MB fp h').map fun (b,B)=>(b,mk b B)) b=(qc fp b).bind fun p=>(h'[p]?).map (mk b)
 | [],h',b=>by cases h'<;>simp [MB,az,qc]
 |a::r,[],b=>by
  simp only [MB,List.map_nil,az,qc];cases Xqq a b with
  |true=>rfl
  |false=>cases qc r b<;>rfl
 | a::r,B::q,b=>by
  simp only [MB,Xqi,az,qc];cases h:Xqq a b with
  |true=>have:=aJ h;subst this;rfl
  |false=>
   simp only [KJ r q b];cases qc r b<;>simp
section
variable {P:Program} {ap:AP} {g:dw} {m:aV} {S:aQ} {w:World}
def Jz (ρ:Nat→Nat→Option (Nat × Nat)) (B:a_):a_:={B with cells:=(match B.pr with|true=>B.cells|false=>mQ ρ B.cells),ver:=0}
theorem ar1 {a b n i:Nat} (h:b≤a):n+(a+i - b)=n+(a - b)+i:=by omega
theorem FP {a b i:Nat} (h:b≤a):b+(a+i - b)=a+i:=by omega
theorem X8 {ρ:Nat→Nat→Option (Nat × Nat)} {l:List a_} (h:rq l):l.map (BM ρ 0)=l:=by
 induction l with
 |nil=>rfl
 |cons B r ih=>
  rw [Xqi,ih fun B d=>h B (by simp [d])];obtain ⟨a,_,b⟩:=h B (by simp);obtain ⟨c,v,f,z,e,p⟩:=B;simp only at a b;subst a b;rfl
theorem AQ (L:bP ap g m S w) {rd:dw} (hrd:∀ b B,rd b=some B→g b=some B) {a:List Nat} {M:List a_} (hbl:kz rd a=some M) (G:rV a=true) {nid:Nat} {args:List AV} {cargs:List Value} {out:kD}
  {vers:Nat→Nat} (hvers:∀ b B,rd b=some B→vers b=B.ver) {ρ ρ':Nat→Nat→Option (Nat × Nat)} (hρe:∀ b v,ρ b v=match Xqq v (vers b) with|true=>(qc a b).map fun p=>(p,0)|false=>none)
  {h':List a_} (hρe':ρ'=OV nid a vers h'.length)
  (hv:bg g m S args cargs) {C:List Value→(Ending→World→Prop)→Prop} (hmono:∀ cargs R R',C cargs R→(∀ e w',R e w'→R' e w')→C cargs R')
  (t:∀ m1 S1,oM S S1→bP ap (bF (M.map (Jz ρ))) m1 S1 w→bg (bF (M.map (Jz ρ))) m1 S1 (mQ ρ args) cargs→C cargs fun e w'=> ∃ m' S',FU ap (M.map (Jz ρ)) m1 S1 w out h' m' S' w' e) (hl:a.length≤h'.length) (hfr:∀ i,i<(h'.length - a.length)+(mP h'.length out).length→g (nid+i)=none):
  C cargs fun e w'=>XL ap g m S w (I_ (nid+(h'.length - a.length)) (ren ρ') out) (EI nid ((h'.drop a.length).map (BM ρ' 0)++mP h'.length out)++(MB a h').map fun (b,B)=>(b,BM ρ' (vers b) B)) e w':=by
 have r:∀ p b,a[p]? =some b→∃ B,rd b=some B∧g b=some B∧bF (M.map (Jz ρ)) p=some (Jz ρ B):=by
  intro p b hp;obtain ⟨B,c,d⟩:=(jf hbl).2 p b hp;exact ⟨B,d,hrd b B d,by simp [bF,c]⟩
 have z:∀ p Bc,bF (M.map (Jz ρ)) p=some Bc→∃ b B,a[p]? =some b∧rd b=some B∧g b=some B∧Bc=Jz ρ B:=by
  intro p Bc hp;have u:p<a.length:=by
   have:=(List.getElem?_eq_some_iff.1 hp).1;rw [List.length_map,(jf hbl).1] at this;exact this
  obtain ⟨B,c,d,f⟩:=r p _ (ξ u);rw [f] at hp;cases hp;exact ⟨_,B,ξ u,c,d,rfl⟩
 let mc:aV:=fun p=>m (a.getD p 0)
 have l:∀ p b,a[p]? =some b→mc p=m b:=by
  intro p b hp;show m (a.getD p 0)=_;rw [π,hp];rfl
 have Q:sO g m (bF (M.map (Jz ρ))) mc ρ:=by
  intro b ver X D h B K J;rw [hρe] at h;split at h
  ·rename_i hve;simp only [Xqp,Prod.mk.injEq] at h;obtain ⟨p,hp,rfl,rfl⟩:=h;have hp:=qP hp;obtain ⟨B1,c,d,f⟩:=r p b hp;rw [d] at K;cases K;exact ⟨_,f,Xxo _,fun _=> ⟨by rw [aJ hve,hvers b _ c],l p b hp,rfl⟩⟩
  ·cases h
 have hSc:bP ap (bF (M.map (Jz ρ))) mc S w:=by
  refine ⟨?_, ?_,L.sealed, ?_,L.glob⟩
  ·intro p q Bp Bq hp hq e;obtain ⟨b,B,c,d,f,_⟩:=z p Bp hp;obtain ⟨X,B',h1',h2',h3',_⟩:=z q Bq hq;rw [l p b c,l q X h1'] at e;have:=L.inj b X B B' f h3' e;subst this;have W:=pz G c;rw [pz G h1'] at W;cases W;rfl
  ·intro p Bp hp;obtain ⟨b,B,c,d,f,rfl⟩:=z p Bp hp;rw [l p b c];obtain ⟨⟨cur,e,vs,rest,k1,k2,k3,k4,k5,k6⟩,k7,k8⟩:=L.blk b B f;cases hp:B.pr with
   |true=>exact ⟨⟨cur,e,vs,rest,k1,k2,fun _=>by simpa [Jz,hp] using k3 hp,by simpa [Jz,hp] using bT _ (k3 hp),k5,k6⟩,k7,by simpa [Jz,hp] using k8⟩
   | false=>
    have hv:=kG (oM.refl S) Q _ k4;exact ⟨⟨cur,e,vs,rest,k1,k2,fun h=>by simp [Jz,hp] at h,by simpa [Jz,hp] using hv,k5,k6⟩,k7,by
     have:(Jz ρ B).cells.length=B.cells.length:=by simp only [Jz,hp];rw [bQ k4,bQ hv]
     rw [this];exact k8⟩
  ·intro p Bp hp o v ho;obtain ⟨b,B,c,d,f,rfl⟩:=z p Bp hp;rw [l p b c] at ho;exact L.own b B f o v ho
 refine hmono _ _ _ (t mc S (oM.refl S) hSc (kG (oM.refl S) Q _ hv)) ?_
 rintro e w' ⟨m',S',hF⟩
 obtain ⟨hsr,E,O⟩:=hF;generalize hbs:mP h'.length out=bs0 at hsr E hfr;have hown:rq bs0:=hbs ▸ Bv out h'.length;obtain ⟨bs,F⟩:∃ bs,bs=h'.drop a.length++bs0:=⟨_,rfl⟩
 have Z:bs.length=(h'.length - a.length)+bs0.length:=by rw [F,List.length_append,List.length_drop]
 rw [← Z] at hfr
 let ups:=(MB a h').map fun (b,B)=>(b,BM ρ' (vers b) B)
 rw [show (h'.drop a.length).map (BM ρ' 0)++bs0=bs.map (BM ρ' 0) by rw [F,List.map_append,X8 hown]]
 let gN:dw:=dH g (EI nid (bs.map (BM ρ' 0))++ups)
 let mN:aV:=fun b=>if nid≤b∧b - nid<bs.length then m' (a.length+(b - nid)) else match qc a b with|some p=>m' p|none=>m b
 have I:∀ b,gN b=if nid≤b∧b - nid<bs.length then (bs[b - nid]?).map (BM ρ' 0) else match (qc a b).bind fun p=>(h'[p]?).map (BM ρ' (vers b)) with|some B=>some B|none=>g b:=by
  intro b;show dH g _ b=_;unfold dH;rw [iF,zI,KJ (mk:=fun b B=>BM ρ' (vers b) B)];by_cases c:nid≤b
  ·by_cases d:b - nid<bs.length
   ·have t:nid≤b∧b - nid<bs.length:=⟨c,d⟩
    rw [if_pos c,if_pos t,Xq3,ξ d];rfl
   ·have t:¬ (nid≤b∧b - nid<bs.length):=fun h=>d h.2
    rw [if_pos c,if_neg t,Xq3,Xq4 (Xvy d)];rfl
  ·have t:¬ (nid≤b∧b - nid<bs.length):=fun h=>c h.1
   rw [if_neg c,if_neg t];rfl
 have hnidg:∀ b B,g b=some B→¬ (nid≤b∧b - nid<bs.length):=by
  rintro b B j ⟨c,d⟩
  have:=hfr (b - nid) d;rw [show nid+(b - nid)=b by omega,j] at this;cases this
 have hh':∀ p,p<a.length→∃ B,h'[p]? =some B:=fun p hp=> ⟨_,ξ (by omega)⟩
 have U:∀ p b,a[p]? =some b→∀ Bc,h'[p]? =some Bc→gN b=some (BM ρ' (vers b) Bc)∧mN b=m' p:=by
  intro p b hp Bc K;obtain ⟨B,c,d,f⟩:=r p b hp;have hn:=hnidg b B d;refine ⟨by rw [I,if_neg hn,pz G hp];simp [K], ?_⟩;show (if _ then _ else _)=_;rw [if_neg hn,pz G hp]
 have V:∀ i B,bs[i]? =some B→gN (nid+i)=some (BM ρ' 0 B)∧mN (nid+i)=m' (a.length+i):=by
  intro i B A;have hl:=(List.getElem?_eq_some_iff.1 A).1;have t:nid≤nid+i∧nid+i - nid<bs.length:=by omega
  refine ⟨by rw [I,if_pos t,show nid+i - nid=i by omega,A];rfl, ?_⟩;show (if _ then _ else _)=_;rw [if_pos t,show nid+i - nid=i by omega]
 have T:∀ p,a.length≤p→bF (h'++bs0) p=bs[p - a.length]? :=by
  intro p hp;have he:h'++bs0=h'.take a.length++bs:=by rw [F,← Xqe,List.take_append_drop]
  have u:(h'.take a.length).length=a.length:=by rw [List.length_take];omega
  rw [he,je (by omega),u];rfl
 have s:∀ p Bc,bF (h'++bs0) p=some Bc→(p<a.length∧h'[p]? =some Bc)∨(a.length≤p∧bs[p - a.length]? =some Bc):=by
  intro p Bc h;by_cases hp:p<a.length
  ·rw [eU (by omega)] at h;exact .inl ⟨hp,h⟩
  ·rw [T p (by omega)] at h;exact .inr ⟨by omega,h⟩
 have hren':sO (bF (h'++bs0)) m' gN mN ρ':=by
  intro p ver X D h Bc K J;rw [hρe'] at h;unfold OV at h;split at h
  ·rename_i b hp;cases h;rcases s p Bc K with ⟨c,d⟩|⟨c,_⟩
   ·obtain ⟨f,y⟩:=U p _ hp Bc d;exact ⟨_,f,by simp only [BM];omega,fun e=> ⟨by simp only [BM] at e;omega,y,rfl⟩⟩
   ·have:=(List.getElem?_eq_some_iff.1 hp).1;omega
  ·rename_i hp;split at h
   ·cases h;have hge:=List.getElem?_eq_none_iff.1 hp;rcases s p Bc K with ⟨c,_⟩|⟨c,d⟩
    ·omega
    ·obtain ⟨f,y⟩:=V _ Bc d;exact ⟨_,f,by simp only [BM];omega,fun e=> ⟨by simp only [BM] at e;omega,by rw [y,show a.length+(p - a.length)=p by omega],rfl⟩⟩
   ·cases h
 have hge:Ge g m gN mN:=by
  intro b B j;have hn:=hnidg b B j;cases A:qc a b with
  | none=>
   have hm:mN b=m b:=by
    show (if _ then _ else _)=_;rw [if_neg hn,A]
   refine ⟨B, ?_,rfl,.inl ⟨rfl,hm⟩⟩;rw [I,if_neg hn,A];exact j
  | some p=>
   have hp:=qP A;obtain ⟨B1,c,d,f⟩:=r p b hp;rw [d] at j;cases j;obtain ⟨Bc,y,h5,N⟩:=E.ge p _ f;rcases s p Bc y with ⟨_,Y⟩|⟨Y,_⟩
   ·obtain ⟨h8,h9⟩:=U p b hp Bc Y;refine ⟨_,h8,h5, ?_⟩;rcases N with ⟨N,h6'⟩|N
    ·left;refine ⟨?_,by rw [h9,h6',l p b hp]⟩;simp only [BM,Jz] at N ⊢;rw [hvers b _ c];omega
    ·right;simp only [BM,Jz] at N ⊢;rw [hvers b _ c];omega
   ·have:=(List.getElem?_eq_some_iff.1 hp).1;omega
 let ι:Nat→Nat:=fun p=>if p<a.length then a.getD p 0 else nid+(p - a.length)
 have hι:∀ p b,a[p]? =some b→ι p=b:=by
  intro p b hp;show (if _ then _ else _)=_;rw [if_pos (List.getElem?_eq_some_iff.1 hp).1,π,hp];rfl
 have hι':∀ i,ι (a.length+i)=nid+i:=by
  intro i;show (if _ then _ else _)=_;rw [if_neg (by omega)];congr 1;omega
 obtain ⟨hsN,hfN⟩:=abO (g:=g) (m:=m) (S:=S) (w:=w) L hsr E ι
  (by
   intro p Bc hp;obtain ⟨b,B,c,d,f,rfl⟩:=z p Bc hp;rw [hι p b c];exact ⟨B,f,l p b c⟩) (oM.refl S) (fun k o v h=> .inl h) (gN:=gN) (mN:=mN) ρ' hren'
  (by
   intro p Bc hp;rcases s p Bc hp with ⟨c,d⟩|⟨c,d⟩
   ·have hp:=ξ c;obtain ⟨f,y⟩:=U p _ hp Bc d;rw [hι p _ hp];exact ⟨_,f,y,rfl,rfl,rfl,rfl,fun h=>by simp [BM,h],fun h=>by simp [BM,h]⟩
   ·obtain ⟨i,rfl⟩:∃ i,p=a.length+i:=⟨p - a.length,by omega⟩
    rw [show a.length+i - a.length=i by omega] at d;obtain ⟨f,y⟩:=V i Bc d;rw [hι' i];exact ⟨_,f,y,rfl,rfl,rfl,rfl,fun h=>by simp [BM,h],fun h=>by simp [BM,h]⟩)
  (by
   intro b B j;by_cases t:nid≤b∧b - nid<bs.length
   ·rw [I,if_pos t,Xqp] at j;obtain ⟨Bc,j,_⟩:=j;refine .inl ⟨a.length+(b - nid),Bc, ?_,by rw [hι'];omega⟩;rw [T _ (by omega),show a.length+(b - nid) - a.length=b - nid by omega];exact j
   ·rw [I,if_neg t] at j;cases A:qc a b with
    |some p=>
     have hp:=qP A;have u:=(List.getElem?_eq_some_iff.1 hp).1;obtain ⟨Bc,y⟩:=hh' p u;exact .inl ⟨p,Bc,by rw [eU (by omega)];exact y,(hι p b hp).symm⟩
    | none=>
     have hm:mN b=m b:=by
      show (if _ then _ else _)=_;rw [if_neg t,A]
     rw [A] at j;have j:g b=some B:=j;refine .inr ⟨B,j,hm,rfl,rfl,rfl,(L.blk b B j).fz0,(L.blk b B j).fzle, ?_,fun o v ho=>L.own b B j o v ho⟩;intro p Bc hp e;obtain ⟨b1,B1,c,_⟩:=z p Bc hp;rw [hι p b1 c] at e;subst e;rw [pz G c] at A;cases A)
  hge
 refine ⟨mN,S',hsN,hfN, ?_⟩;show acl gN mN S' (I_ (nid+(h'.length - a.length)) (ren ρ') out) e;have hrenh:sO (bF h') m' gN mN ρ':=by
  intro p ver X D h Bc K J;refine hren' p ver X D h Bc ?_ J;rw [eU (List.getElem?_eq_some_iff.1 K).1];exact K
 cases out with
 |ret v=>
  obtain ⟨cv,W,c⟩:=O;refine ⟨cv,W, ?_⟩;have hbs':(lI h'.length v).2=bs0:=hbs;rw [hbs'] at c;refine EY (n:=h'.length) (GU ρ') (fun x v hx=>yZ (oM.refl S') hrenh x hx) ?_ c;intro i k v hx;simp only [VR] at hx ⊢;obtain ⟨B,d,f,y,h5⟩:=hx;rw [T _ (Xqy hl (Nat.le_add_right _ _))] at d;obtain ⟨N,Y⟩:=V _ B d;rw [ar1 hl] at N Y;rw [FP hl] at Y;exact ⟨_,N,Xxo _,y,fun e=>by rw [Y];exact h5 (by simpa [BM] using e)⟩
 |pan v=>
  obtain ⟨cv,W,c⟩:=O;exact ⟨cv,W,yZ (oM.refl S') hrenh _ c⟩
end
end AM
namespace AM
open Go
section
variable {P:Program} {ap:AP} {H:b_}
theorem xO {o:dw} {nid f:Nat} {args:List AV} {md:AV} {c D:Cx} {r:TR} (h:tV ap H o nid md f args c= .ok r D):
  ∃ args0 h0 out0 h0',H c md f args0 h0= .ok (out0,h0',r.md) D∧((∃ v,out0= .ret v)↔∃ v,r.out= .ret v)∧
  ∀ g m S w cargs (C:List Value→(Ending→World→Prop)→Prop),(∀ cargs R R',C cargs R→(∀ e w',R e w'→R' e w')→C cargs R')→bP ap g m S w→(∀ b ∈ r.fp,∀ B,o b=some B→g b=some B)→(∀ i,i<4→g (nid+i)=none)→bg g m S args cargs→
   (∀ m1 S1,oM S S1→bP ap (bF h0) m1 S1 w→bg (bF h0) m1 S1 args0 cargs→C cargs fun e w'=> ∃ m' S',FU ap h0 m1 S1 w out0 h0' m' S' w' e)→
   C cargs fun e w'=>XL ap g m S w r.out r.ups e w':=by
 unfold tV at h;simp only at h;generalize F:tq o 6 (jh (bK args))=fp at h
 let rd:dw:=fun b=>match rO fp b with|true=>o b|false=>none
 have a:∀ b B,rd b=some B→b ∈ fp∧o b=some B:=by
  intro b B d;dsimp only [rd] at d;split at d
  ·rename_i E;exact ⟨jH.1 E,d⟩
  ·cases d
 split at h
 ·split at h
  ·cases h
  ·rename_i args' A;obtain ⟨⟨out,u,md⟩,G,y,h⟩:=R.bind_ok h;dsimp only at h;split at h
   ·cases h
   ·split at h
    ·rename_i v;split at h
     ·rename_i n;cases h;refine ⟨_,_,_,_,y,⟨fun _=> ⟨_,rfl⟩,fun _=> ⟨_,rfl⟩⟩, ?_⟩;intro g m S w cargs C hmono s k l q t;have j:mP 0 (kD.ret v)=(lI nid v).2:=Bz Kz v 0 nid;have:=AO s (rd:=rd) (fun b B d=>k b (a b B d).1 B (a b B d).2) (fun b B d=>(a b B d).1) (nid:=nid) A q hmono t (fun i p=>l i (by rw [j] at p;have:=fU n;omega));rw [j] at this;exact this
     ·cases h
    ·rename_i v;cases h;refine ⟨_,_,_,_,y,⟨(fun ⟨_,h⟩=>by cases h),(fun ⟨_,h⟩=>by cases h)⟩, ?_⟩;intro g m S w cargs C hmono s k l q t;exact AO s (rd:=rd) (fun b B d=>k b (a b B d).1 B (a b B d).2) (fun b B d=>(a b B d).1) (nid:=nid) A q hmono t (fun i p=>by simp [mP] at p)
 ·split at h
  ·cases h
  ·rename_i I x;obtain ⟨⟨out,u,md⟩,G,y,h⟩:=R.bind_ok h;dsimp only at h;split at h
   ·cases h
   ·rename_i hcond;simp only [ο] at hcond;have z:=fU hcond.1
    let vers:Nat→Nat:=fun b=>match rd b with|some B=>B.ver|none=>0
    have hvers':∀ b B,rd b=some B→vers b=B.ver:=by
     intro b B d;simp only [vers,d]
    let ρ':Nat→Nat→Option (Nat × Nat):=OV nid fp vers u.length
    split at h
    ·rename_i v;split at h
     ·rename_i n;cases h;refine ⟨_,_,_,_,y,⟨fun _=> ⟨_,rfl⟩,fun _=> ⟨_,rfl⟩⟩, ?_⟩;intro g m S w cargs C hmono s k l q t;have j:mP u.length (kD.ret v)=(lI (nid+(u.length - fp.length)) (ren ρ' v)).2:=(Bz (GU ρ') v (nid+(u.length - fp.length)) u.length).symm;have:=AQ s (rd:=rd) (fun b B d=>k b (a b B d).1 B (a b B d).2) x hcond.2 (nid:=nid) hvers' (ρ':=ρ') (fun b v=>rfl) rfl q hmono t z (fun i p=>l i (by rw [j] at p;exact Ψ p (fU n)));rw [j] at this;exact this
     ·cases h
    ·rename_i v;split at h
     ·rename_i n;cases h;refine ⟨_,_,_,_,y,⟨(fun ⟨_,h⟩=>by cases h),(fun ⟨_,h⟩=>by cases h)⟩, ?_⟩;intro g m S w cargs C hmono s k l q t;exact AQ s (rd:=rd) (fun b B d=>k b (a b B d).1 B (a b B d).2) x hcond.2 (nid:=nid) hvers' (ρ':=ρ') (fun b v=>rfl) rfl q hmono t z (fun i p=>l i (by simp only [mP,Xqb,Xq0] at p;exact Ψ p (fU n)))
     ·cases h
theorem Dq (v:mM P ap H) {a:dw} {nid f:Nat} {args:List AV} {c q:Cx} {r:TR} (h:tV ap H a nid .dead f args c= .ok r q) (A:q.Ok):
  c.Ok∧CY P f∧∀ g m S w cargs,bP ap g m S w→(∀ b ∈ r.fp,∀ B,a b=some B→g b=some B)→(∀ i,i<4→g (nid+i)=none)→bg g m S args cargs→
   Calls P f cargs.toArray w fun e w'=>XL ap g m S w r.out r.ups e w':=by
 obtain ⟨args0,C,o,z,t,_,y⟩:=xO h;obtain ⟨n,p⟩:=v _ _ _ _ _ _ _ _ t A;refine ⟨n,p.ent,fun g m S w cargs u l d s=> ?_⟩;exact y g m S w cargs (fun cargs R=>Calls P f cargs.toArray w R) (fun _ _ _ j k=>j.mono k) u l d s fun x S1 _ j k=>p.calls x S1 w cargs j k
end
end AM
namespace AM
open Go
def tC (dec:List (Nat × Bool)) (env:iY):Prop:=∀ t b,az dec t=some b→env.get t= .bool b
def gX (g:dw) (m:aV) (S:aQ):List (Nat × List AV)→List Deferred→Prop
 | [],[]=>True
 |d::r,cd::cr=>(∃ cap,cd.target= .fn (.func d.1) cap∧bg g m S d.2 (cd.args++cap).toList)∧gX g m S r cr
 |_,_=>False
theorem uO {g g':dw} {m b:aV} {S S':aQ} (c:oM S S') (e:Ge g m g' b):∀ {l:List (Nat × List AV)} {ds:List Deferred},gX g m S l ds→gX g' b S' l ds
 | [],[],_=>by simp only [gX]
 |d::r,cd::cr,h=>by
  simp only [gX] at h ⊢;obtain ⟨⟨a,f,j⟩,i⟩:=h;exact ⟨⟨a,f,lX c e _ j⟩,uO c e i⟩
 | [],_::_,h=>by simp [gX] at h
 |_::_,[],h=>by simp [gX] at h
theorem AA {g:dw} {m:aV} {S:aQ}:∀ {l l':List (Nat × List AV)} {ds ds':List Deferred},gX g m S l ds→gX g m S l' ds'→gX g m S (l++l') (ds++ds')
 | [],_,[],_,_,h'=>by simpa using h'
 |d::r,_,cd::cr,_,h,h'=>by
  simp only [gX] at h;simp only [List.cons_append,gX];exact ⟨h.1,AA h.2 h'⟩
 | [],_,_::_,_,h,_=>by simp [gX] at h
 |_::_,_,[],_,h,_=>by simp [gX] at h
def wpO (P:Program) (ops:Array Oper) (Q:Exit→Act→World→Prop) (o:Oper) (K:Act→World→Prop) (a:Act) (w:World):Prop:=
 if Region.wanted o (yielded ops a.tmps) then o.wp P a w K Q∨(o.asks P a w∧LetsOut Q) else K (a.put o.dst undef) w
def abv (ap:AP) (o:Oper) (g:dw) (m:aV) (S:aQ) (w:World) (a:Act) (v:AV) (ups:List (Nat × a_)) (df:List (Nat × List AV)) (Q:Exit→Act→World→Prop) (K:Act→World→Prop):Option AV→Prop
 |none=> ∀ cv m' S' w' ds,bP ap (dH g ups) m' S' w'→Fr g m S w (dH g ups) m' S' w'→VR (dH g ups) m' S' v cv→gX (dH g ups) m' S' df ds→K ({a with defers:=ds++a.defers}.put o.dst cv) w'
 |some pv=> ∀ cv m' S' w',bP ap (dH g ups) m' S' w'→Fr g m S w (dH g ups) m' S' w'→VR (dH g ups) m' S' pv cv→Q (.panic [{v:=cv,recovered:=false}]) a w'
def OT (P:Program) (ap:AP) (ops:Array Oper) (o:Oper) (nid:Nat) (env:iY) (hp:Hp) (rt rb:List Nat) (v:AV) (ups:List (Nat × a_)) (df:List (Nat × List AV)) (p:Option AV):Prop:=
 ∀ g m S w (a:Act),bP ap g m S w→(∀ t ∈ rt,VR g m S (env.get t) (a.tmps.getD t undef))→(∀ b ∈ rb,∀ B,az hp b=some B→g b=some B)→(∀ i,i<4→g (nid+i)=none)→
  ∀ (Q:Exit→Act→World→Prop) (K:Act→World→Prop),abv ap o g m S w a v ups df Q K p→wpO P ops Q o K a w
structure afT (P:Program) (ap:AP) (ops:Array Oper) (o:Oper) (nid:Nat) (s s':RS) (p:Option AV) (v:AV) (rt rb:List Nat) (ups:List (Nat × a_)) (df:List (Nat × List AV)):Prop where
 env:p=none→s'.env=qh s.env o.dst v
 envp:p ≠ none→s'.env=s.env∧df= []
 hp:s'.hp=ups++s.hp
 md:s'.md=s.md
 dfs:s'.dfs=df++s.dfs
 dec:p=none→tC s'.dec s'.env
 feet:p=none→s'.feet={rt,wt:=Ii o,rb,wb:=ups.map (·.1)}::s.feet
 sem:OT P ap ops o nid s.env s.hp rt rb v ups df p
section
variable {P:Program} {ap:AP} {H:b_}
theorem Vl (e:Array Value) (t:Nat) {v:Value} (h:e.getD t undef=v) (b:v ≠ undef):e[t]? =some v:=by
 rw [Array.getD_eq_getD_getElem?] at h;cases a:e[t]? with
 |none=>rw [a] at h;exact absurd h.symm b
 |some u=>rw [a] at h;simpa using h
theorem FN {ops:Array Oper} {tmps:Array Value} {j s:Nat} (hs:(ops[j]?).bind (·.dst)=some s) {b:Bool} (h:tmps.getD s undef= .bool b):yielded ops tmps j=some b:=by
 unfold yielded;rw [hs];simp only [Xw2];rw [Vl tmps s h (by simp [undef])]
theorem Jw {ops:Array Oper} {tmps:Array Value} {j s:Nat} (hs:(ops[j]?).bind (·.dst)=some s) (h:tmps.getD s undef= .tuple #[]):yielded ops tmps j=none:=by
 unfold yielded;rw [hs];simp only [Xw2];rw [Array.getD_eq_getD_getElem?] at h;cases a:tmps[s]? with
 |none=>rfl
 |some u=>
  rw [a] at h;simp at h;rw [h]
theorem wV {g:dw} {m:aV} {S:aQ} {w:World} (c:bP ap g m S w) {env:iY} {a:Act} (x:Operand) (h:∀ t,x= .tmp t→VR g m S (env.get t) (a.tmps.getD t undef)):VR g m S (qK ap env x) (a.eval x):=by
 cases x with
 |tmp t=>exact h t rfl
 |const v=>exact iw _ (JD S v)
 | global k=>
  simp only [qK,Act.eval];cases d:(ap.gl[k]?).join with
  |none=>simp only [VR]
  |some xs=>
   obtain ⟨vs,b,e⟩:=c.glob k xs d;simp only [VR,PR];exact ⟨k,0,vs,rfl,b,e⟩
 |func f=>
  simp only [qK,Act.eval,VR];exact ⟨[],[],rfl,by simp [bg],by simp [bg]⟩
theorem Ey {l:List Operand} {t:Nat} (h:Operand.tmp t ∈ l):t ∈ uK l:=by
 simp only [uK,List.mem_filterMap];exact ⟨_,h,rfl⟩
theorem Iz {ops:List Oper} {env:iY} {dec e:List (Nat × Bool)} {o:Oper} {c B:Cx} {run:Bool} (h:NG ops env dec o c= .ok (run,e) B) (p:B.Ok):
  c.Ok∧(tC dec env→tC e env∧(∀ t b,az dec t=some b→az e t=some b)∧∀ g m S (a:Act),(∀ t ∈ jo ops o,VR g m S (env.get t) (a.tmps.getD t undef))→Region.wanted o (yielded ops.toArray a.tmps)=run):=by
 unfold NG at h;unfold jo;unfold Region.wanted;split at h
 ·rename_i u;cases h;simp only [u];exact ⟨p,fun hd=> ⟨hd,fun _ _ h=>h,fun _ _ _ _ _=>trivial⟩⟩
 ·rename_i j f u;simp only [u];split at h
  ·cases h
  ·rename_i s hs;have k:(ops.toArray[j]?).bind (·.dst)=some s:=by simpa using hs
   split at h
   ·rename_i b l;cases h;refine ⟨p,fun hd=> ⟨hd,fun _ _ h=>h,fun g m S a n=> ?_⟩⟩;have d:=n s (by simp);rw [hd s b l] at d;simp only [VR,PR] at d;rw [FN k d];cases f<;>cases b<;>rfl
   ·rename_i A;split at h
    ·rename_i b l;obtain ⟨C,D,d,q⟩:=R.bind_ok h;cases q;obtain ⟨y,rfl⟩:=lD d p;refine ⟨y,fun hd=> ⟨?_, ?_,fun g m S a n=> ?_⟩⟩
     ·intro t x i;simp only [az] at i;split at i
      ·rename_i z;cases i;rw [← aJ z,l]
      ·exact hd t x i
     ·intro t x i;simp only [az];split
      ·rename_i z;rw [aJ z] at A;rw [A] at i;cases i
      ·exact i
     ·have d:=n s (by simp);rw [l] at d;simp only [VR,PR] at d;rw [FN k d];cases f<;>cases C<;>rfl
    ·rename_i l;cases h;refine ⟨p,fun hd=> ⟨hd,fun _ _ h=>h,fun g m S a n=> ?_⟩⟩;have d:=n s (by simp);rw [l] at d;simp only [VR] at d;obtain ⟨vs,d,q⟩:=d;cases vs with
     |nil=>rw [Jw k d];rfl
     |cons v r=>simp [bg] at q
    ·cases h
theorem Ku {env:iY} {o:Oper} {v:AV} {t:Nat} (h:∀ d,o.dst=some d→d ≠ t):(qh env o.dst v).get t=env.get t:=by
 unfold qh;split
 ·rename_i d hd;simp only [iY.get,az];split
  ·rename_i a;exact absurd (aJ a) (h d hd)
  ·rfl
 ·rfl
theorem xU {dec:List (Nat × Bool)} {env:iY} {o:Oper} {v:AV} (hd:tC dec env) (a:UJ dec o=true):tC dec (qh env o.dst v):=by
 intro t b c;rw [Ku]
 ·exact hd t b c
 ·rintro d hdd rfl
  unfold UJ at a;rw [hdd] at a;simp [c] at a
end
end AM
namespace AM
open Go
section
variable {P:Program} {ap:AP} {H:b_}
theorem Vs {c:Cx} {dst:Option Nat} {v:AV} (h:(D6 c dst v).2.Ok):c.Ok∧aT v (D6 c dst v).1:=by
 obtain ⟨cl,orc,bs,ps,ans,hs⟩:=c;unfold D6 at h ⊢;dsimp only at h ⊢;split at h
 ·rename_i d x r f;split at h
  ·rename_i b;have e:aT v x:=h.ps _ (Xjo ..);refine ⟨⟨h.bs,fun p hp=>h.ps p (Xx1 _ hp)⟩, ?_⟩;simp only [b];exact e
  ·rename_i b;refine ⟨h, ?_⟩;simp only [b];exact fun _ _ _ _ a=>a
 ·rename_i i;exact ⟨h,fun _ _ _ _ a=>a⟩
theorem Vr {c:Cx} {dst:Option Nat} (h:(Pv c dst).2.Ok):c.Ok:=by
 obtain ⟨cl,orc,bs,ps,ans,hs⟩:=c;unfold Pv at h;dsimp only at h;split at h
 ·split at h
  ·exact ⟨h.bs,h.ps⟩
  ·exact h
 ·exact h
theorem Vq {c:Cx} {dst:Option Nat} {ups:List (Nat × a_)} (h:(D5 c dst ups).2.Ok):c.Ok∧(D5 c dst ups).1=ups:=by
 obtain ⟨cl,orc,bs,ps,ans,hs⟩:=c;unfold D5 at h ⊢;dsimp only at h ⊢;split at h
 ·rename_i d e r i b B;split at h
  ·rename_i a;have f:B.cells=e:=h.ps _ (Xjo ..);refine ⟨⟨h.bs,fun p hp=>h.ps p (Xx1 _ hp)⟩, ?_⟩;simp only [a,← f]
  ·rename_i a;refine ⟨h, ?_⟩;simp only [a]
 ·rename_i j;exact ⟨h,rfl⟩
theorem BC {a:Act} {g:Operand} {args:Array Operand} {argTypes:Array TypeId} {ty:TypeId} {f:Nat} {first b:Array Value} (h:a.eval g= .func (.func f) first b) (w:World):
  (resolve a.eval {callee:= .value g,args,argTypes} ty).run P w= .ok {target:= .fn (.func f) b,args:=first++args.map a.eval} w:=by
 simp only [resolve,h,Deferred.ofValue];rfl
theorem Gf {a:Act} {g:Operand} {args:Array Operand} {argTypes:Array TypeId} {ty:TypeId} {f:Nat} {first b:Array Value} (h:a.eval g= .func (.func f) first b) (c:CY P f) (w:World):
  (do let d ← resolve a.eval {callee:= .value g,args,argTypes} ty;invoke d.target d.args:Sem Next).run P w= .ok (.enter f ((first++args.map a.eval)++b)) w:=by
 rw [Sem.run_bind,BC h,Result.andThen_ok];exact c _ _
theorem JG {g:dw} {m:aV} {S:aQ} {ρ:Operand→AV} {cρ:Operand→Value} {args:Array Operand} (h:∀ o ∈ args,VR g m S (ρ o) (cρ o)):bg g m S (args.toList.map ρ) (args.map cρ).toList:=by
 rw [Array.toList_map];exact uQ _ fun o a=>h o (by simpa using a)
theorem G7:∀ {l:Hp} {b:Nat} {B:a_},az l b=some B→(b,B) ∈ l
 | [],_,_,h=>by cases h
 | (k,X)::r,b,B,h=>by
  simp only [az] at h;split at h
  ·rename_i a;cases h;have:=aJ a;subst this;exact Xjo ..
  ·exact Xx1 _ (G7 h)
theorem Et {α β:Type} {f g:α→β}:∀ {l:List α},l.map f=l.map g→∀ {x:α},x ∈ l→f x=g x
 | [],_,_,h=>by cases h
 |a::r,h,x,hx=>by
  simp only [Xqi,List.cons.injEq] at h;rcases List.mem_cons.1 hx with rfl|hx
  ·exact h.1
  ·exact Et h.2 hx
theorem xn (hap:iU P ap) (hH:mM P ap H) {nid:Nat} {ops:List Oper} {o:Oper} {s s':RS} {p:Option AV} {c c':Cx} (h:Qz ap H nid ops o s c= .ok (s',p) c') (T:c'.Ok):
  c.Ok∧(s.md= .dead→tC s.dec s.env→∃ v rb ups df,afT P ap ops.toArray o nid s s' p v (uK o.op.operands.toList++jo ops o) rb ups df):=by
 unfold Qz at h;obtain ⟨⟨run,dec⟩,c1,e1,h⟩:=R.bind_ok h;dsimp only at h;split at h
 ·cases h
 rename_i E;have hguard:∀ c1ok:c1.Ok,c.Ok∧(tC s.dec s.env→tC dec s.env∧(∀ t b,az s.dec t=some b→az dec t=some b)∧∀ g m S (a:Act),(∀ t ∈ jo ops o,VR g m S (s.env.get t) (a.tmps.getD t undef))→Region.wanted o (yielded ops.toArray a.tmps)=run):=fun hk=>Iz e1 hk
 have M:∀ {g:dw} {m:aV} {S:aQ} {w:World} {a:Act},bP ap g m S w→(∀ t ∈ uK o.op.operands.toList++jo ops o,VR g m S (s.env.get t) (a.tmps.getD t undef))→∀ x ∈ o.op.operands,VR g m S (qK ap s.env x) (a.eval x):=by
  intro g m S w a j i x W;refine wV j x fun t ht=>i t ?_
  subst ht;exact List.mem_append.2 (.inl (Ey (by simpa using W)))
 split at h
 ·
  cases h;obtain ⟨C,X⟩:=hguard T;refine ⟨C,fun O d=> ?_⟩;obtain ⟨hd,_,hw⟩:=X d;refine ⟨.tup [],[],[],[],⟨fun _=>rfl,fun h=>absurd rfl h,rfl,rfl,rfl,fun _=>xU hd E,fun _=>rfl, ?_⟩⟩;intro g m S w a j i _ _ Q K N;unfold wpO;rw [hw g m S a fun t ht=>i t (List.mem_append.2 (.inr ht))];simp only [Bool.false_eq_true,if_false];have:=N undef m S w [] (by rw [fD];exact j) (by rw [fD];exact Fr.refl _ _ _ _) (by simp only [VR];exact ⟨[],rfl,by simp [bg]⟩) (by simp [gX]);exact this
 ·
  have hwant:∀ (Q:Exit→Act→World→Prop) (K:Act→World→Prop) (g:dw) (m:aV) (S:aQ) (a:Act) (w:World),c1.Ok→tC s.dec s.env→(∀ t ∈ uK o.op.operands.toList++jo ops o,VR g m S (s.env.get t) (a.tmps.getD t undef))→o.wp P a w K Q→wpO P ops.toArray Q o K a w:=by
   intro Q K g m S a w hk d i hh;obtain ⟨_,_,hw⟩:=(hguard hk).2 d;unfold wpO;rw [hw g m S a fun t ht=>i t (List.mem_append.2 (.inr ht))];simp only [if_true];exact .inl hh
  split at h
  ·
   rename_i gf args argTypes l;split at h
   ·rename_i f first cap hf
    obtain ⟨r,c2,e2,h⟩:=R.bind_ok h;have Y:c2.Ok:=by
     revert h
     cases hu:Pv c2 o.dst with
     | mk u Z=>
      have D:Z.Ok→c2.Ok:=fun hk=>Vr (by rw [hu];exact hk)
      cases u with
      | true=>
       dsimp only;cases r.out with
       |ret v=>
        dsimp only;split
        ·intro h;cases h;exact D ⟨T.bs,fun p hp=>T.ps p (Xx1 _ hp)⟩
        ·intro h;cases h
       |pan v=>intro h;cases h
      |false=>dsimp only;cases r.out<;>intro h<;>cases h<;>exact D T
    obtain ⟨I,hE,hcall⟩:=Dq hH e2 Y;obtain ⟨C,X⟩:=hguard I;refine ⟨C,fun O d=> ?_⟩;obtain ⟨hd,_,_⟩:=X d;have hargs:∀ {g:dw} {m:aV} {S:aQ} {w:World} {a:Act},bP ap g m S w→(∀ t ∈ uK o.op.operands.toList++jo ops o,VR g m S (s.env.get t) (a.tmps.getD t undef))→
      ∃ vf J:List Value,a.eval gf= .func (.func f) vf.toArray J.toArray∧bg g m S (first++args.toList.map (qK ap s.env)++cap) ((vf++(args.map a.eval).toList)++J):=by
     intro g m S w a j i;have y:=M j i;rw [l] at y;have z:=y gf (by simp [Op.operands,Call.operands]);rw [hf] at z;simp only [VR] at z;obtain ⟨vf,J,D,L,G⟩:=z;exact ⟨vf,J,D,gY (gY L (JG fun x W=>y x (by simp [Op.operands,Call.operands,W]))) G⟩
    have U:∀ {a:Act} {vf J:List Value} (w:World),a.eval gf= .func (.func f) vf.toArray J.toArray→(execOp a.eval o).run P w= .ok (.enter f (((vf++(args.map a.eval).toList)++J).toArray)) w:=by
     intro a vf J w he;have:=Gf (args:=args) (argTypes:=argTypes) (ty:=o.type) he hE w;unfold execOp;rw [l];dsimp only;rw [this];congr 2;apply Array.toList_inj.1;simp
    split at h
    ·rename_i Z hu;split at h
     ·rename_i v F;split at h
      ·rename_i hall;cases h;have heq:r.ups.map (fun (q:Nat × a_)=>some q.2)=r.ups.map (fun (q:Nat × a_)=>az s.hp q.1):=T.ps _ (Xjo ..);refine ⟨v,r.fp,[],[],⟨fun _=>rfl,fun h=>absurd rfl h,rfl,rfl,rfl,fun _=>xU hd E,fun _=>rfl, ?_⟩⟩;intro g m S w a j i k A Q K N;have hg':dH g r.ups=g:=by
        funext b;unfold dH;cases hl:az r.ups b with
        |none=>rfl
        |some B=>
         have hm:=G7 hl;have y:=Et heq hm;exact (k b (jH.1 (List.all_eq_true.1 hall _ hm)) B y.symm).symm
       refine hwant Q K g m S a w I d i ?_;obtain ⟨vf,J,y,z⟩:=hargs j i;unfold Oper.wp;rw [U w y];refine (hcall g m S w _ j k A z).mono ?_
       rintro e w' ⟨m',S',D,L,G⟩
       rw [F] at G;obtain ⟨cv,rfl,h6⟩:=G;rw [hg'] at D L h6;exact N cv m' S' w' [] D L h6 (by simp [gX])
      ·cases h
     ·cases h
    ·rename_i Z hu;split at h
     ·rename_i v F;cases h;refine ⟨v,r.fp,r.ups,[],⟨fun _=>rfl,fun h=>absurd rfl h,rfl,rfl,rfl,fun _=>xU hd E,fun _=>rfl, ?_⟩⟩;intro g m S w a j i k A Q K N;refine hwant Q K g m S a w I d i ?_;obtain ⟨vf,J,y,z⟩:=hargs j i;unfold Oper.wp;rw [U w y];refine (hcall g m S w _ j k A z).mono ?_
      rintro e w' ⟨m',S',D,L,G⟩
      rw [F] at G;obtain ⟨cv,rfl,h6⟩:=G;exact N cv m' S' w' [] D L h6 (by simp [gX])
     ·rename_i v F;cases h;refine ⟨v,r.fp,r.ups,[],⟨fun h=>(by cases h),fun _=> ⟨rfl,rfl⟩,rfl,rfl,rfl,fun h=>(by cases h),fun h=>(by cases h), ?_⟩⟩;intro g m S w a j i k A Q K N;refine hwant Q K g m S a w I d i ?_;obtain ⟨vf,J,y,z⟩:=hargs j i;unfold Oper.wp;rw [U w y];refine (hcall g m S w _ j k A z).mono ?_
      rintro e w' ⟨m',S',D,L,G⟩
      rw [F] at G;obtain ⟨cv,rfl,h6⟩:=G;exact N cv m' S' w' D L h6
   ·cases h
  ·
   split at h
   ·cases h;exact ⟨(hguard T).1,fun O=>by simp_all⟩
   ·cases h;exact ⟨(hguard T).1,fun O=>by simp_all⟩
   ·cases h
  ·
   rename_i gf args argTypes l;split at h
   ·rename_i f first cap hf
    cases h;obtain ⟨C,X⟩:=hguard T;refine ⟨C,fun O d=> ?_⟩;obtain ⟨hd,_,_⟩:=X d;refine ⟨.dead,[],[],[(f,first++args.toList.map (qK ap s.env)++cap)],⟨fun _=>rfl,fun h=>absurd rfl h,rfl,rfl,rfl,fun _=>xU hd E,fun _=>rfl, ?_⟩⟩;intro g m S w a j i k A Q K N;refine hwant Q K g m S a w T d i ?_;have y:=M j i;rw [l] at y;have z:=y gf (by simp [Op.operands,Call.operands]);rw [hf] at z;simp only [VR] at z;obtain ⟨vf,J,D,L,G⟩:=z;unfold Oper.wp;have hr:(execOp a.eval o).run P w= .ok (.defer {target:= .fn (.func f) J.toArray,args:=vf.toArray++args.map a.eval}) w:=by
     unfold execOp;rw [l];dsimp only;rw [Sem.run_bind,BC D,Result.andThen_ok];rfl
    rw [hr];refine N undef m S w [{target:= .fn (.func f) J.toArray,args:=vf.toArray++args.map a.eval}] (by rw [fD];exact j) (by rw [fD];exact Fr.refl _ _ _ _) (by simp only [VR]) ?_;simp only [gX,fD,and_true];refine ⟨J.toArray,rfl, ?_⟩;have:=gY (gY L (JG (args:=args) fun x W=>y x (by simp [Op.operands,Call.operands,W]))) G;simpa using this
   ·cases h
  ·
   rename_i x l;split at h
   ·rename_i t v W;cases h;obtain ⟨C,X⟩:=hguard T;refine ⟨C,fun O d=> ?_⟩;obtain ⟨hd,_,_⟩:=X d;refine ⟨.dead,[],[],[],⟨fun h=>(by cases h),fun _=> ⟨rfl,rfl⟩,rfl,rfl,rfl,fun h=>(by cases h),fun h=>(by cases h), ?_⟩⟩;intro g m S w a j i k A Q K N;refine hwant Q K g m S a w T d i ?_;have y:=M j i;rw [l] at y;have z:=y x (by simp [Op.operands]);rw [W] at z;have h2':=z;simp only [VR] at h2';obtain ⟨u,D,L⟩:=h2';unfold Oper.wp;have hr:(execOp a.eval o).run P w= .halt (.panic (a.eval x)) w:=by
     unfold execOp;rw [l];dsimp only;rw [D];rfl
    rw [hr];exact N _ m S w (by rw [fD];exact j) (by rw [fD];exact Fr.refl _ _ _ _) (by rw [fD];exact z)
   ·cases h
  ·
   rename_i op n1 n2 n3 n4;obtain ⟨em,c2,e2,h⟩:=R.bind_ok h;split at h
   ·cases h
   ·rename_i v ups bs l;obtain ⟨_,Z,e3,h⟩:=R.bind_ok h;have hv1:(D6 Z o.dst v).2.Ok→Z.Ok∧aT v (D6 Z o.dst v).1:=Vs;generalize D6 Z o.dst v=q1 at h hv1;obtain ⟨v1,c4⟩:=q1;dsimp only at h hv1;have hv2:(D5 c4 o.dst ups).2.Ok→c4.Ok∧(D5 c4 o.dst ups).1=ups:=Vq;generalize D5 c4 o.dst ups=q2 at h hv2;obtain ⟨ups1,c5⟩:=q2;dsimp only at h hv2;cases h;obtain ⟨hc4,hups⟩:=hv2 T;subst hups;obtain ⟨hc3,hfit⟩:=hv1 hc4;obtain ⟨Y,hbs⟩:=Ik e3 hc3;have hem:c1.Ok∧∀ n,yf (qK ap s.env) o.op=some n→Xqq n 0=em:=by
     split at e2
     ·rename_i n hn;obtain ⟨hk,rfl⟩:=lD e2 Y;exact ⟨hk,fun n' V=>by rw [hn] at V;cases V;rfl⟩
     ·rename_i hn;cases e2;exact ⟨Y,fun n' V=>by rw [hn] at V;cases V⟩
    obtain ⟨I,hem⟩:=hem;obtain ⟨C,X⟩:=hguard I;refine ⟨C,fun O d=> ?_⟩;obtain ⟨hd,_,_⟩:=X d;refine ⟨v1,WC (qK ap s.env) o.op,ups1,[],⟨fun _=>rfl,fun h=>absurd rfl h,rfl,rfl,rfl,fun _=>xU hd E,fun _=>rfl, ?_⟩⟩;intro g m S w a j i k A Q K N;refine hwant Q K g m S a w I d i ?_;have y:=M j i;have hok:=Sm hap j (nid:=nid) (A 0 (by omega)) (ρ:=qK ap s.env) (cρ:=a.eval) (fun b B hb=>by
      split at hb
      ·rename_i hm;exact k b (jH.1 hm) B hb
      ·cases hb) o y (dec:=fun| .tmp t=>az dec t|_=>none) (fun x W b hb=>by
      split at hb
      ·rename_i t;have:=i t (List.mem_append.2 (.inl (Ey (by simpa using W))));rw [hd t b hb] at this;simp only [VR,PR] at this;exact this
      ·cases hb) hem l hbs
    obtain ⟨nx,m',w',z,D,L,G⟩:=hok;unfold Oper.wp;rw [z];rcases G with ⟨cv,rfl,G⟩|⟨rfl,rfl⟩
    ·exact N cv m' S w' [] D L (hfit _ _ _ _ G) (by simp [gX])
    ·exact N undef m' S w' [] D L (hfit _ _ _ _ (by simp only [VR])) (by simp [gX])
end
end AM
namespace AM
open Go
theorem vz:∀ {hp:Hp} {b:Nat} {B:a_},az hp b=some B→b<kU hp
 | [],b,B,h=>by simp [az] at h
 | (c,C)::r,b,B,h=>by
  simp only [az] at h;simp only [kU];split at h
  ·rename_i d;have d:=aJ d;subst d;split
   ·rename_i a;exact fV a
   ·omega
  ·have f:=vz h;split
   ·exact f
   ·rename_i a;have:¬ c<kU r:=fun e=>by
     have:Xx6 c (kU r)=true:=by
      show Nat.ble (c+1) (kU r)=true;exact Xqv e
     rw [this] at a;cases a
    omega
theorem Eo:∀ {l:Hp} {b:Nat} {B:a_},az l b=some B→b ∈ l.map (·.1)
 | [],b,B,h=>by simp [az] at h
 |(c,C)::r,b,B,h=>by
  simp only [az] at h;split at h
  ·rename_i a;simp [aJ a]
  ·simp [Eo h]
structure FR (ap:AP) (env:iY) (hp:Hp) (dfs:List (Nat × List AV)) (nt:Nat) (m:aV) (S:aQ) (w:World) (a:Act):Prop where
 srel:bP ap (az hp) m S w
 env:∀ t,VR (az hp) m S (env.get t) (a.tmps.getD t undef)
 dfs:gX (az hp) m S dfs a.defers
 size:a.tmps.size=nt
theorem K_ (a:Act) (d:Option Nat) (v:Value):(a.put d v).tmps.size=a.tmps.size:=by
 cases d<;>simp [Act.put]
theorem EP (a:Act) (d:Option Nat) (v:Value):(a.put d v).defers=a.defers:=by
 cases d<;>simp [Act.put]
theorem ER (a:Act) (d:Option Nat) (v:Value) {t:Nat} (h:d ≠ some t):(a.put d v).tmps.getD t undef=a.tmps.getD t undef:=by
 cases d with
 |none=>rfl
 |some d=>
  have b:d ≠ t:=fun e=>h (by rw [e])
  simp only [Act.put,Array.getD_eq_getD_getElem?];rw [Array.getElem?_setIfInBounds_ne b]
theorem EQ (a:Act) (d:Nat) (v:Value) (h:d<a.tmps.size):(a.put (some d) v).tmps.getD d undef=v:=by
 simp only [Act.put,Array.getD_eq_getD_getElem?];rw [Array.getElem?_setIfInBounds_self_of_lt h];rfl
theorem l_ {env:iY} {d:Nat} {v:AV}:(qh env (some d) v).get d=v:=by simp [qh,iY.get,az]
theorem yl {env:iY} {dst:Option Nat} {v:AV} {t:Nat} (h:dst ≠ some t):(qh env dst v).get t=env.get t:=by
 cases dst with
 |none=>rfl
 | some d=>
  have a:Xqq d t=false:=by
   cases b:Xqq d t with
   |false=>rfl
   |true=>exact absurd (by rw [aJ b]) h
  simp [qh,iY.get,az,a]
section
variable {P:Program} {ap:AP} {H:b_}
theorem FR.put {env:iY} {hp ups:Hp} {dfs c:List (Nat × List AV)} {nt:Nat} {m b:aV} {S S':aQ} {w w':World} {a:Act} (h:FR ap env hp dfs nt m S w a) {dst:Option Nat} (hd:∀ d,dst=some d→d<nt) {v:AV} {cv:Value} {e:List Deferred}
  (h1:bP ap (dH (az hp) ups) b S' w') (h2:Fr (az hp) m S w (dH (az hp) ups) b S' w') (h3:VR (dH (az hp) ups) b S' v cv) (h4:gX (dH (az hp) ups) b S' c e):
  FR ap (qh env dst v) (ups++hp) (c++dfs) nt b S' w' ({a with defers:=e++a.defers}.put dst cv):=by
 rw [kw] at h1 h2 h3 h4;refine ⟨h1, ?_, ?_, ?_⟩
 ·intro t;by_cases ht:dst=some t
  ·subst ht;rw [l_,EQ _ _ _ (by have:=hd t rfl;have:=h.size;simpa [this] using hd t rfl)];exact h3
  ·rw [yl ht,ER _ _ _ ht];exact oU h2.sle h2.ge _ (h.env t)
 ·rw [EP];exact AA h4 (uO h2.sle h2.ge h.dfs)
 ·rw [K_];exact h.size
theorem FR.still {env:iY} {hp ups:Hp} {dfs:List (Nat × List AV)} {nt:Nat} {m b:aV} {S S':aQ} {w w':World} {a:Act} (h:FR ap env hp dfs nt m S w a)
  (h1:bP ap (dH (az hp) ups) b S' w') (h2:Fr (az hp) m S w (dH (az hp) ups) b S' w'):FR ap env (ups++hp) dfs nt b S' w' a:=by
 rw [kw] at h1 h2;exact ⟨h1,fun t=>oU h2.sle h2.ge _ (h.env t),uO h2.sle h2.ge h.dfs,h.size⟩
def xF (ap:AP) (hp0:Hp) (m:aV) (S:aQ) (w:World) (nt:Nat) (env:iY) (hp:Hp) (dfs:List (Nat × List AV)) (Q:Exit→Act→World→Prop):Option AV→Prop
 |none=> ∀ m' S' w' a',Fr (az hp0) m S w (az hp) m' S' w'→FR ap env hp dfs nt m' S' w' a'→Q .normal a' w'
 |some v=> ∀ m' S' w' a' cv,Fr (az hp0) m S w (az hp) m' S' w'→FR ap env hp dfs nt m' S' w' a'→VR (az hp) m' S' v cv→Q (.panic [{v:=cv,recovered:=false}]) a' w'
theorem sZ {ops:Array Oper} {Q:Exit→Act→World→Prop} {i:Nat} {o:Oper} (b:ops[i]? =some o) (rest:List Nat) (a:Act) (w:World):wpOps P ops Q (i::rest) a w↔wpO P ops Q o (wpOps P ops Q rest) a w:=by
 simp only [wpOps,b,wpO]
theorem NL {hp ups:Hp} {nid:Nat} (e:∀ b B,az hp b=some B→b<nid) (f:(ups.map (·.1)).all (fun x=>Xx6 x (nid+4))=true):∀ b B,az (ups++hp) b=some B→b<nid+4:=by
 intro b B a;rw [iF] at a;split at a
 ·rename_i x d;have c:b ∈ ups.map (·.1):=Eo d;exact fV (List.all_eq_true.1 f b c)
 ·have:=e b B a;omega
theorem nK (A:iU P ap) (Y:mM P ap H) {ops:List Oper} {nt:Nat} (J:∀ o ∈ ops,∀ d,o.dst=some d→d<nt):∀ (l:List Oper) (i nid:Nat) (s s':RS) (p:Option AV) (c c':Cx),xq ap H ops l nid s c= .ok (s',p) c'→c'.Ok→
  c.Ok∧(s.md= .dead→tC s.dec s.env→l=ops.drop i→(∀ b B,az s.hp b=some B→b<nid)→
  s'.md= .dead∧∀ m S w a,FR ap s.env s.hp s.dfs nt m S w a→∀ Q,xF ap s.hp m S w nt s'.env s'.hp s'.dfs Q p→wpOps P ops.toArray Q (List.range' i l.length) a w)
 | [],i,nid,s,s',p,c,c',h,hc=>by
  cases h;exact ⟨hc,fun e _ _ _=> ⟨e,fun m S w a y Q x=>x m S w a (Fr.refl _ _ _ _) y⟩⟩
 | o ::r,i,nid,s,s',p,c,c',h,hc=>by
  simp only [xq] at h;obtain ⟨⟨s1,p1⟩,c1,e1,h⟩:=R.bind_ok h;dsimp only at h;have hfresh:(∀ b B,az s.hp b=some B→b<nid)→∀ j,j<4→az s.hp (nid+j)=none:=by
   intro I j _;cases hb:az s.hp (nid+j) with
   |none=>rfl
   |some B=>have:=I _ _ hb;omega
  have z:o::r=ops.drop i→ops[i]? =some o∧ops.toArray[i]? =some o∧r=ops.drop (i+1)∧∀ d,o.dst=some d→d<nt:=by
   intro G;have f:ops[i]? =some o:=by
    have:(ops.drop i)[0]? =some o:=by rw [← G];rfl
    simpa using this
   have O:r=ops.drop (i+1):=by
    have:r=(ops.drop i).drop 1:=by rw [← G];rfl
    rw [this,Xjl]
   exact ⟨f,by simpa using f,O,J o (Xqh f)⟩
  cases p1 with
  |some v=>
   cases h;obtain ⟨D,F⟩:=xn A Y e1 hc;refine ⟨D,fun e q G I=> ?_⟩;obtain ⟨f,n,O,hd⟩:=z G;obtain ⟨v1,rb,ups,df,hs⟩:=F e q;refine ⟨by rw [hs.md,e],fun m S w a y Q x=> ?_⟩;rw [μ,Xv2,sZ n];refine hs.sem (az s.hp) m S w a y.srel (fun t _=>y.env t) (fun b _ B hB=>hB) (hfresh I) Q _ ?_;intro cv V S' w' X u N;have hst:=y.still X u;rw [kw] at u N;obtain ⟨k,rfl⟩:=hs.envp (by simp);have x:=x V S' w' a cv;rw [hs.hp,hs.dfs,k] at x;exact x u hst N
  | none=>
   dsimp only at h;cases C:s1.feet with
   |nil=>rw [C] at h;cases h
   | cons ft fr=>
    rw [C] at h;dsimp only at h;split at h
    ·rename_i L;obtain ⟨T,W⟩:=nK A Y J r (i+1) (nid+4) s1 s' p c1 c' h hc;obtain ⟨D,F⟩:=xn A Y e1 T;refine ⟨D,fun e q G I=> ?_⟩;obtain ⟨f,n,O,hd⟩:=z G;obtain ⟨v1,rb,ups,df,hs⟩:=F e q;have E:=hs.feet rfl;rw [C] at E;simp only [List.cons.injEq] at E;rw [E.1] at L;obtain ⟨K,W⟩:=W (by rw [hs.md,e]) (hs.dec rfl) O (by rw [hs.hp];exact NL I L);refine ⟨K,fun m S w a y Q x=> ?_⟩;rw [μ,Xv2,sZ n];refine hs.sem (az s.hp) m S w a y.srel (fun t _=>y.env t) (fun b _ B hB=>hB) (hfresh I) Q _ ?_;intro cv V S' w' ds X u N h4;have M:=y.put hd X u N h4;rw [kw] at u;have k:=hs.env rfl;rw [← k,← hs.hp,← hs.dfs] at M;refine W V S' w' _ M Q ?_;rw [← hs.hp] at u;cases p with
     |none=>exact fun m2 S2 Z a2 U h6=>x m2 S2 Z a2 (u.trans U) h6
     |some v=>exact fun m2 S2 Z a2 cv2 U h6 h7=>x m2 S2 Z a2 cv2 (u.trans U) h6 h7
    ·cases h
end
end AM
namespace AM
open Go
structure tu where
 dst:Option Nat
 v:AV
 rt:List Nat
 rb:List Nat
 ups:List (Nat × a_)
def Pg (d:Option Nat):List Nat:=match d with|some d=> [d]|none=> []
def tu.foot (r:tu):C9:={rt:=r.rt,wt:=Pg r.dst,rb:=r.rb,wb:=r.ups.map (·.1)}
def qJ (D:Nat→Bool):Nat→iY→List tu→iY
 |_,e,[]=>e
 |j,e,r::rs=>qJ D (j+1) (match D j with|true=>qh e r.dst r.v|false=>e) rs
def yw (D:Nat→Bool):Nat→Hp→List tu→Hp
 |_,h,[]=>h
 |j,h,r::rs=>yw D (j+1) (match D j with|true=>r.ups++h|false=>h) rs
theorem ug {D D':Nat→Bool} {t:Nat}:∀ (rs:List tu) (j:Nat) (e e':iY),e.get t=e'.get t→(∀ k r,rs[k]? =some r→r.dst=some t→D (j+k)=D' (j+k))→(qJ D j e rs).get t=(qJ D' j e' rs).get t
 | [],_,_,_,he,_=>he
 | r::rs,j,e,e',he,h=>by
  simp only [qJ];refine ug rs (j+1) _ _ ?_ fun k b c hd=> ?_
  ·by_cases hd:r.dst=some t
   ·have a:=h 0 r rfl hd;rw [Xq0] at a;rw [a];cases D' j with
    |true=>simp only [hd,l_]
    |false=>exact he
   ·cases D j<;>cases D' j<;>simp only [yl hd,he]
  ·have:=h (k+1) b (by simpa using c) hd;rwa [show j+(k+1)=j+1+k by omega] at this
theorem IL:∀ {l:Hp} {b:Nat},b ∉ l.map (·.1)→az l b=none:=by
 intro l b h;cases a:az l b with
 |none=>rfl
 |some B=>exact absurd (Eo a) h
theorem yC {ups hp:Hp} {b:Nat} (h:b ∉ ups.map (·.1)):az (ups++hp) b=az hp b:=by
 rw [iF,IL h]
theorem Ba:∀ {l:Hp} {b:Nat},b ∈ l.map (·.1)→∃ B,az l b=some B
 | [],b,h=>by simp at h
 | (c,C)::r,b,h=>by
  simp only [az];cases a:Xqq c b with
  |true=>exact ⟨C,rfl⟩
  |false=>
   simp only [Xqi,Xwj] at h;rcases h with h|h
   ·subst h;simp at a
   ·exact Ba h
theorem yB {ups hp a:Hp} {b:Nat} (h:b ∈ ups.map (·.1)):az (ups++hp) b=az (ups++a) b:=by
 obtain ⟨B,c⟩:=Ba h;rw [iF,iF,c]
theorem qO {D D':Nat→Bool} {b:Nat}:∀ (rs:List tu) (j:Nat) (h h':Hp),az h b=az h' b→(∀ k r,rs[k]? =some r→b ∈ r.ups.map (·.1)→D (j+k)=D' (j+k))→az (yw D j h rs) b=az (yw D' j h' rs) b
 | [],_,_,_,he,_=>he
 | r::rs,j,e,e',he,h=>by
  simp only [yw];refine qO rs (j+1) _ _ ?_ fun k c d hd=> ?_
  ·by_cases hd:b ∈ r.ups.map (·.1)
   ·have a:=h 0 r rfl hd;rw [Xq0] at a;rw [a];cases D' j with
    |true=>exact yB hd
    |false=>exact he
   ·cases D j<;>cases D' j<;>simp only [yC hd,he]
  ·have:=h (k+1) c (by simpa using d) hd;rwa [show j+(k+1)=j+1+k by omega] at this
theorem zu:∀ (a:List tu) (j:Nat) (e:iY) {D:Nat→Bool},(∀ k,k<a.length→D (j+k)=false)→qJ D j e a=e
 | [],_,_,_,_=>rfl
 |r::a,j,e,D,h=>by
  have b:=h 0 (by simp);rw [Xq0] at b;simp only [qJ,b];exact zu a (j+1) e fun k c=>by have:=h (k+1) (by simpa using c);rwa [show j+(k+1)=j+1+k by omega] at this
theorem uq:∀ (a:List tu) (j:Nat) (e:Hp) {D:Nat→Bool},(∀ k,k<a.length→D (j+k)=false)→yw D j e a=e
 | [],_,_,_,_=>rfl
 |r::a,j,e,D,h=>by
  have b:=h 0 (by simp);rw [Xq0] at b;simp only [yw,b];exact uq a (j+1) e fun k c=>by have:=h (k+1) (by simpa using c);rwa [show j+(k+1)=j+1+k by omega] at this
def zx (e:iY) (rs:List tu):iY:=qJ (fun _=>true) 0 e rs
def NI (h:Hp) (rs:List tu):Hp:=yw (fun _=>true) 0 h rs
theorem wS (D:Nat→Bool):∀ (rs:List tu) (j d:Nat) (e:iY),qJ D (j+d) e rs=qJ (fun k=>D (k+d)) j e rs
 | [],_,_,_=>rfl
 |r::rs,j,d,e=>by
  simp only [qJ];rw [show j+d+1=j+1+d by omega];exact wS D rs (j+1) d _
theorem zB (D:Nat→Bool):∀ (rs:List tu) (j d:Nat) (e:Hp),yw D (j+d) e rs=yw (fun k=>D (k+d)) j e rs
 | [],_,_,_=>rfl
 |r::rs,j,d,e=>by
  simp only [yw];rw [show j+d+1=j+1+d by omega];exact zB D rs (j+1) d _
theorem uX (e:iY) (r:tu) (a:List tu):zx e (r::a)=zx (qh e r.dst r.v) a:=by
 simp only [zx,qJ];exact wS (fun _=>true) a 0 1 _
theorem yx (h:Hp) (r:tu) (a:List tu):NI h (r::a)=NI (r.ups++h) a:=by
 simp only [NI,yw];exact zB (fun _=>true) a 0 1 _
theorem Io:∀ (a:List tu) (k:Nat) (e:iY),qJ (fun j=>decide (j<k)) 0 e a=zx e (a.take k)
 |a,0,e=>by
  simp only [Xvf];exact zu a 0 e fun _ _=>by simp
 | [],k+1,e=>rfl
 |r::a,k+1,e=>by
  simp only [Xxu,uX,qJ];rw [show decide (0<k+1)=true by simp];dsimp only;rw [← Io a k];have:=wS (fun j=>decide (j<k+1)) a 0 1 (qh e r.dst r.v);rw [this];congr 1;funext j;simp
theorem NH:∀ (a:List tu) (k:Nat) (e:Hp),yw (fun j=>decide (j<k)) 0 e a=NI e (a.take k)
 |a,0,e=>by
  simp only [Xvf];exact uq a 0 e fun _ _=>by simp
 | [],k+1,e=>rfl
 |r::a,k+1,e=>by
  simp only [Xxu,yx,yw];rw [show decide (0<k+1)=true by simp];dsimp only;rw [← NH a k];have:=zB (fun j=>decide (j<k+1)) a 0 1 (r.ups++e);rw [this];congr 1;funext j;simp
theorem Rn (e:iY):∀ (b:List tu) (k:Nat) (r:tu),b[k]? =some r→zx e (b.take (k+1))=qh (zx e (b.take k)) r.dst r.v:=by
 intro b
 induction b generalizing e with
 |nil=>intro k r h;simp at h
 | cons a b ih=>
  intro k r h;cases k with
  |zero=>simp at h;subst h;rfl
  |succ k=>
   simp only [Xxu,uX];exact ih _ k r (by simpa using h)
theorem Vt (e:Hp):∀ (b:List tu) (k:Nat) (r:tu),b[k]? =some r→NI e (b.take (k+1))=r.ups++NI e (b.take k):=by
 intro b
 induction b generalizing e with
 |nil=>intro k r h;simp at h
 | cons a b ih=>
  intro k r h;cases k with
  |zero=>simp at h;subst h;rfl
  |succ k=>
   simp only [Xxu,yx];exact ih _ k r (by simpa using h)
section
variable {P:Program} {ap:AP} {H:b_}
structure TZ (P:Program) (ap:AP) (ops:List Oper) (i nid:Nat) (s s':RS) (recs:List tu):Prop where
 env:s'.env=zx s.env recs
 hp:s'.hp=NI s.hp recs
 feet:s'.feet=(recs.map tu.foot).reverse++s.feet
 dle:s.dfs.length≤s'.dfs.length
 bound:∀ (k:Nat) (r:tu),recs[k]? =some r→∀ b ∈ r.ups.map (·.1),b<nid+4*k+4
 sem:s'.dfs.length=s.dfs.length→s'.dfs=s.dfs∧∀ (k:Nat) (r:tu),recs[k]? =some r→∃ o,ops[i+k]? =some o∧r.dst=o.dst∧OT P ap ops.toArray o (nid+4*k) (zx s.env (recs.take k)) (NI s.hp (recs.take k)) r.rt r.rb r.v r.ups [] none
theorem ace (p:iU P ap) (M:mM P ap H) {ops:List Oper}:∀ (l:List Oper) (i nid:Nat) (s s':RS) (c c':Cx),xq ap H ops l nid s c= .ok (s',none) c'→c'.Ok→
  c.Ok∧(s.md= .dead→tC s.dec s.env→l=ops.drop i→s'.md= .dead∧∃ a:List tu,a.length=l.length∧TZ P ap ops i nid s s' a)
 | [],i,nid,s,s',c,c',h,hc=>by
  cases h;exact ⟨hc,fun d _ _=> ⟨d,[],rfl,⟨rfl,rfl,rfl,Δ _,fun k r h=>by simp at h,fun _=> ⟨rfl,fun k r h=>by simp at h⟩⟩⟩⟩
 | o :: r,i,nid,s,s',c,c',h,hc=>by
  simp only [xq] at h;obtain ⟨⟨A,O⟩,X,V,h⟩:=R.bind_ok h;dsimp only at h;cases O with
  |some v=>cases h
  | none=>
   dsimp only at h;cases e:A.feet with
   |nil=>rw [e] at h;cases h
   | cons ft fr=>
    rw [e] at h;dsimp only at h;split at h
    ·rename_i t;obtain ⟨B,W⟩:=ace p M r (i+1) (nid+4) A s' X c' h hc;obtain ⟨F,I⟩:=xn p M V B;refine ⟨F,fun d y L=> ?_⟩;have C:ops[i]? =some o:=by
      have:(ops.drop i)[0]? =some o:=by rw [← L];rfl
      simpa using this
     have Y:r=ops.drop (i+1):=by
      have:r=(ops.drop i).drop 1:=by rw [← L];rfl
      rw [this,Xjl]
     obtain ⟨v1,rb,ups,E,hs⟩:=I d y;have f:=hs.feet rfl;rw [e] at f;simp only [List.cons.injEq] at f;rw [f.1] at t;obtain ⟨z,a,x,n⟩:=W (by rw [hs.md,d]) (hs.dec rfl) Y;refine ⟨z,{dst:=o.dst,v:=v1,rt:=uK o.op.operands.toList++jo ops o,rb:=rb,ups:=ups}::a,by simp [x], ?_⟩;have J:s.dfs.length≤A.dfs.length:=by rw [hs.dfs];simp
     refine ⟨?_, ?_, ?_,Xqy J n.dle, ?_, ?_⟩
     ·rw [n.env,uX,hs.env rfl]
     ·rw [n.hp,yx,hs.hp]
     ·rw [n.feet,hs.feet rfl];simp [tu.foot,Pg,Ii];cases o.dst<;>rfl
     ·intro k q j b K;cases k with
      |zero=>
       simp at j;subst j;exact fV (List.all_eq_true.1 t b K)
      |succ k=>
       have:=n.bound k q (by simpa using j) b K;omega
     ·intro he;have h1:=n.dle;obtain ⟨D,u⟩:=n.sem (by omega);have G:E= []:=by
       have:E.length=0:=by
        have:=hs.dfs;have Z:A.dfs.length=E.length+s.dfs.length:=by rw [this];simp
        omega
       exact Xxl this
      subst G;refine ⟨by rw [D,hs.dfs];rfl, ?_⟩;intro k q j;cases k with
      |zero=>
       simp at j;subst j;exact ⟨o,C,rfl,hs.sem⟩
      |succ k=>
       obtain ⟨T,U,Q,N⟩:=u k q (by simpa using j);refine ⟨T,by rw [show i+(k+1)=i+1+k by omega];exact U,Q, ?_⟩;rw [Xxu,uX,yx];rw [hs.env rfl,hs.hp] at N;rw [show nid+4*(k+1)=nid+4+4*k by omega];exact N
    ·cases h
end
end AM
namespace AM
open Go
theorem DX {md:Region.Mode} (b:Array Nat) (i:Nat):∀ (l:List Edge) (s:Nat),(l.foldl (fun s e=>if Region.binds md e then s|||2^e.on|||b.getD e.on 0 else s) s).testBit i=true→
  s.testBit i=true∨∃ e ∈ l,Region.binds md e=true∧(i=e.on∨(b.getD e.on 0).testBit i=true)
 | [],s,h=> .inl h
 | e::r,s,h=>by
  simp only [Xjm] at h;rcases DX b i r _ h with a|⟨e',a,d⟩
  ·split at a
   ·rename_i c;simp only [Nat.testBit_or,Xw8,Nat.testBit_two_pow,decide_eq_true_eq] at a;rcases a with (a|a)|a
    ·exact .inl a
    ·exact .inr ⟨e,by simp,c,.inl a.symm⟩
    ·exact .inr ⟨e,by simp,c,.inr a⟩
   ·exact .inl a
  ·exact .inr ⟨e',by simp [a],d⟩
def oZ (acc:Array Nat) (o:Oper):Array Nat:=acc.push (o.after.toList.foldl (fun s e=>if Region.binds .any e then s|||2^e.on|||acc.getD e.on 0 else s) 0)
theorem DY (a:Array Nat) (x:Nat):(a.push x).getD a.size 0=x:=by simp [Array.getD_eq_getD_getElem?]
def BU (ops:List Oper) (D:Nat→Bool):Prop:=∀ (k:Nat) (o:Oper),ops[k]? =some o→D k=true→∀ e ∈ o.after,Region.binds .any e=true→D e.on=true
def abw (D:Nat→Bool) (acc:Array Nat):Prop:=∀ k,D k=true→∀ i,(acc.getD k 0).testBit i=true→D i=true
theorem OW {ops:List Oper} {D:Nat→Bool} (f:BU ops D):∀ (l:List Oper) (acc:Array Nat),abw D acc→l=ops.drop acc.size→abw D (l.foldl oZ acc)
 | [],acc,h,_=>h
 | o ::r,acc,h,hl=>by
  simp only [Xjm];have b:ops[acc.size]? =some o:=by
   have:(ops.drop acc.size)[0]? =some o:=by rw [← hl];rfl
   simpa using this
  refine OW f r _ ?_ ?_
  ·intro k j i a;by_cases hks:k<acc.size
   ·refine h k j i ?_;simpa [oZ,Array.getD_eq_getD_getElem?,Array.getElem?_push,Nat.ne_of_lt hks] using a
   ·by_cases hke:k=acc.size
    ·subst hke;rw [oZ,DY] at a;rcases DX acc i _ _ a with c|⟨e,c,p,d⟩
     ·simp at c
     ·have n:=f _ o b j e (by simpa using c) p;rcases d with rfl|d
      ·exact n
      ·exact h _ n i d
    ·have:(oZ acc o)[k]? =none:=by
      simp only [oZ];rw [Array.getElem?_eq_none];simp;omega
     simp [Array.getD_eq_getD_getElem?,this] at a
  ·have:(oZ acc o).size=acc.size+1:=by simp [oZ]
   rw [this,← Xjl,← hl];rfl
theorem QV (ops:List Oper):Region.before ops.toArray=ops.foldl oZ #[]:=by
 simp only [Region.before,← Array.foldl_toList];rfl
theorem pX {ops:List Oper} {D:Nat→Bool} (b:BU ops D) {k i:Nat} (c:D k=true) (h:((Region.before ops.toArray).toList.getD k 0).testBit i=true):D i=true:=by
 have:=OW b ops #[] (fun k _ i a=>by simp at a) (by simp);rw [← QV] at this;refine this k c i ?_;rw [π] at h;rw [Array.getD_eq_getD_getElem?];simpa using h
theorem qQ {a b:List Nat} {x:Nat} (d:x ∈ a) (c:x ∈ b):Eu a b=true:=List.any_eq_true.2 ⟨x,d,jH.2 c⟩
structure Hy (n:Nat) (bef:Nat→Nat→Bool) (recs:List tu):Prop where
 ok:∀ i j a b,recs[i]? =some a→recs[j]? =some b→i<j→(jY a.foot b.foot=true∨∃ x ∈ b.ups.map (·.1),n+4*i≤x∧x<n+4*i+4)→bef j i=true
theorem N9 {n:Nat} {e:List Nat} {d:List tu} (h:EL n e (d.map tu.foot).reverse=true):Hy n (fun j i=>(e.getD j 0).testBit i) d:=by
 refine ⟨fun i j a b o l f k=> ?_⟩;simp only [EL,List.reverse_reverse,Xza] at h;have c:=h (a.foot,i) (by rw [Xj5];simp [o]) (b.foot,j) (by rw [Xj5];simp [l]);simp only [Xw8,Xqo] at c;rcases c with (c|c)|c
 ·have:Xx6 i j=true:=Xqv f;rw [this] at c;cases c
 ·exfalso;rw [Bool.or_eq_false_iff] at c;rcases k with k|⟨x,q,r,p⟩
  ·rw [k] at c;cases c.1
  ·have:=List.any_eq_false.1 c.2 x q;simp only [ο,not_and] at this;exact this (Xqv r) (Xqv p)
 ·exact c
section
variable {P:Program} {ap:AP} {H:b_}
theorem FR.congr {env b:iY} {hp c:Hp} {dfs:List (Nat × List AV)} {nt:Nat} {m:aV} {S:aQ} {w:World} {a:Act} (h:FR ap env hp dfs nt m S w a) (e:∀ t,b.get t=env.get t) (d:az c=az hp):FR ap b c dfs nt m S w a:=by
 refine ⟨d ▸ h.srel,fun t=> ?_,d ▸ h.dfs,h.size⟩;rw [e,d];exact h.env t
def qm (listed:Array Bool):Nat→Bool:=fun k=>listed.getD k false
theorem Yj {listed:Array Bool} {i:Nat} (a:i<listed.size) (k:Nat):qm (listed.setIfInBounds i true) k=(if k=i then true else qm listed k):=by
 simp only [qm,Array.getD_eq_getD_getElem?];by_cases h:k=i
 ·subst h;rw [if_pos rfl,Array.getElem?_setIfInBounds_self_of_lt a];rfl
 ·rw [if_neg h,Array.getElem?_setIfInBounds_ne (fun e=>h e.symm)]
def IU (n:Nat) (D:Nat→Bool):Nat:=((Xq6 n).filter fun i=> !D i).length
theorem Bh {D D':Nat→Bool} {i:Nat} (c:D i=false) (b:∀ k,D' k=if k=i then true else D k):∀ (l:List Nat),l.Nodup→i ∈ l→(l.filter fun k=> !D k).length=(l.filter fun k=> !D' k).length+1
 | [],_,h=>by simp at h
 | a::r,hn,h=>by
  rw [Xkb] at hn;by_cases ha:a=i
  ·subst ha;have hsame:r.filter (fun k=> !D k)=r.filter (fun k=> !D' k):=by
    refine List.filter_congr fun k f=> ?_
    have:k ≠ a:=fun e=>hn.1 (e ▸ f)
    rw [b k,if_neg this]
   have d:D' a=true:=by rw [b a,if_pos rfl]
   simp [c,d,hsame]
  ·have j:=Bh c b r hn.2 (by simpa [Ne.symm ha] using h);have:D' a=D a:=by rw [b a,if_neg ha]
   simp only [List.filter_cons,this];split<;>simp [j]
theorem WE {ops:List Oper} (h:yc ops=true) {listed:Array Bool} (j:listed.size=ops.length) (b:Region.ready .any ops.toArray listed= []):∀ k,k<ops.length→qm listed k=true:=by
 intro k
 induction k using Nat.strongRecOn with
 | _ k ih=>
  intro f;cases hd:qm listed k with
  |true=>rfl
  | false=>
   exfalso;have a:k ∈ Region.ready .any ops.toArray listed:=by
    simp only [Region.ready,Xw9,Yqs,Xzm];refine ⟨f, ?_⟩;have i:listed.getD k true=false:=by
     simp only [qm,Array.getD_eq_getD_getElem?] at hd ⊢;rw [Array.getElem?_eq_getElem (by omega)] at hd ⊢;simpa using hd
    have n:ops.toArray[k]? =some ops[k]:=by simp [f]
    rw [i,n];simp only [Bool.not_false,Bool.true_and,Xja,Xw0,Array.all_eq_true',Xw8,Xqo];intro e o;cases c:Region.binds .any e with
    |false=>exact .inl rfl
    |true=>
     right;simp only [yc,Xza] at h;have d:=h (ops[k],k) (by rw [Xj5];simp [f]) e (by simpa using o);rw [c] at d;simp only [Xwg,Xwh] at d;have l:=fV d;exact ih e.on l (by omega)
   rw [b] at a;cases a
theorem EW {ops:List Oper} {listed:Array Bool} (j:listed.size=ops.length) {i:Nat} (h:i ∈ Region.ready .any ops.toArray listed):∃ o,ops[i]? =some o∧qm listed i=false∧i<ops.length∧∀ e ∈ o.after,Region.binds .any e=true→qm listed e.on=true:=by
 simp only [Region.ready,Xw9,Yqs,Xzm,ο,Xqo] at h;obtain ⟨a,c,b⟩:=h;have f:ops.toArray[i]? =some ops[i]:=by simp [a]
 rw [f] at b;simp only [Xja,Xw0,Array.all_eq_true',Xw8,Xqo] at b;refine ⟨ops[i],ξ a, ?_,a,fun e k d=> ?_⟩
 ·simp only [qm,Array.getD_eq_getD_getElem?] at c ⊢;rw [Array.getElem?_eq_getElem (by omega)] at c ⊢;simpa using c
 ·rcases b e k with h|h
  ·rw [d] at h;cases h
  ·exact h
end
end AM
namespace AM
open Go
theorem Ut {a b:C9} {x:Nat} (h:x ∈ a.wt) (c:x ∈ b.rt):jY a b=true:=by simp [jY,qQ h c]
theorem JU {a b:C9} {x:Nat} (h:x ∈ a.wt) (c:x ∈ b.wt):jY a b=true:=by simp [jY,qQ h c]
theorem Us {a b:C9} {x:Nat} (h:x ∈ a.rt) (c:x ∈ b.wt):jY a b=true:=by simp [jY,qQ h c]
theorem Q3 {a b:C9} {x:Nat} (h:x ∈ a.wb) (c:x ∈ b.rb):jY a b=true:=by simp [jY,qQ h c]
theorem Gw {a b:C9} {x:Nat} (h:x ∈ a.wb) (c:x ∈ b.wb):jY a b=true:=by simp [jY,qQ h c]
theorem QZ {a b:C9} {x:Nat} (h:x ∈ a.rb) (c:x ∈ b.wb):jY a b=true:=by simp [jY,qQ h c]
theorem uy {d:Option Nat} {t:Nat} (h:d=some t):t ∈ Pg d:=by subst h;simp [Pg]
section
variable {P:Program} {ap:AP} {H:b_}
structure acj (ap:AP) (ops:List Oper) (recs:List tu) (e0:iY) (hp0:Hp) (dfs:List (Nat × List AV)) (nt:Nat) (m0:aV) (S0:aQ) (w0:World) (listed:Array Bool) (m:aV) (S:aQ) (w:World) (a:Act):Prop where
 sz:listed.size=ops.length
 cl:BU ops (qm listed)
 fr:Fr (az hp0) m0 S0 w0 (az (yw (qm listed) 0 hp0 recs)) m S w
 rel:FR ap (qJ (qm listed) 0 e0 recs) (yw (qm listed) 0 hp0 recs) dfs nt m S w a
theorem UG {ops:List Oper} {c:List tu} {s:RS} {A nt:Nat} (hnt:∀ o ∈ ops,∀ d,o.dst=some d→d<nt) (hlen:c.length=ops.length)
  (hbound:∀ (k:Nat) (r:tu),c[k]? =some r→∀ b ∈ r.ups.map (·.1),b<A+4*k+4)
  (hsem:∀ (k:Nat) (r:tu),c[k]? =some r→∃ o,ops[k]? =some o∧r.dst=o.dst∧∀ (D:Nat→Bool) m S w (a:Act),bP ap (az (yw D 0 s.hp c)) m S w→(∀ t ∈ r.rt,VR (az (yw D 0 s.hp c)) m S ((zx s.env (c.take k)).get t) (a.tmps.getD t undef))→
   (∀ b ∈ r.rb,az (NI s.hp (c.take k)) b=az (yw D 0 s.hp c) b)→(∀ j,j<4→az (yw D 0 s.hp c) (A+4*k+j)=none)→(∀ j,((Region.before ops.toArray).toList.getD j 0).testBit k=true→D j=false)→
   ∀ (Q:Exit→Act→World→Prop) (K:Act→World→Prop),abv ap o (az (yw D 0 s.hp c)) m S w a r.v r.ups [] Q K none→wpO P ops.toArray Q o K a w)
  (hord:Hy A (fun j i=>((Region.before ops.toArray).toList.getD j 0).testBit i) c) (hback:yc ops=true) (hn0:∀ b B,az s.hp b=some B→b<A) {m0:aV} {S0:aQ} {w0:World} {Q:Exit→Act→World→Prop}
  (hQ:∀ m S w a,Fr (az s.hp) m0 S0 w0 (az (NI s.hp c)) m S w→FR ap (zx s.env c) (NI s.hp c) s.dfs nt m S w a→Q .normal a w):
  ∀ (n:Nat) (listed:Array Bool) (m:aV) (S:aQ) (w:World) (a:Act),acj ap ops c s.env s.hp s.dfs nt m0 S0 w0 listed m S w a→IU ops.length (qm listed)≤n→wpAny P .any ops.toArray Q n listed a w:=by
 have hdone:∀ (listed:Array Bool) (m:aV) (S:aQ) (w:World) (a:Act),acj ap ops c s.env s.hp s.dfs nt m0 S0 w0 listed m S w a→(∀ k,k<ops.length→qm listed k=true)→Q .normal a w:=by
  intro listed m S w a u y;have hh:∀ b,az (NI s.hp c) b=az (yw (qm listed) 0 s.hp c) b:=fun b=>
   qO c 0 _ _ rfl fun k r f _=>by rw [y (0+k) (by have:=(List.getElem?_eq_some_iff.1 f).1;omega)]
  have he:∀ t,(zx s.env c).get t=(qJ (qm listed) 0 s.env c).get t:=fun t=>
   ug c 0 _ _ rfl fun k r f _=>by rw [y (0+k) (by have:=(List.getElem?_eq_some_iff.1 f).1;omega)]
  have F:=funext hh;exact hQ m S w a (F ▸ u.fr) (u.rel.congr he F)
 intro n
 induction n with
 | zero=>
  intro listed m S w a u hm;have y:∀ k,k<ops.length→qm listed k=true:=by
   intro k f;cases hd:qm listed k with
   |true=>rfl
   |false=>
    have O:k ∈ (Xq6 ops.length).filter fun i=> !qm listed i:=by simp [f,hd]
    have:(Xq6 ops.length).filter (fun i=> !qm listed i)= []:=Xxl (Nat.le_zero.1 hm);rw [this] at O;cases O
  refine ⟨?_,hdone listed m S w a u y⟩;cases hr:Region.ready .any ops.toArray listed with
  |nil=>rfl
  |cons i r=>
   obtain ⟨o,_,p,h3,_⟩:=EW u.sz (i:=i) (by rw [hr];simp);rw [y i h3] at p;cases p
 | succ n ih=>
  intro listed m S w a u hm;refine ⟨fun V=>hdone listed m S w a u (WE hback u.sz V),fun i hi=> ?_⟩;obtain ⟨o,L,C,U,hedges⟩:=EW u.sz hi;have v:c[i]? =some c[i]:=ξ (by omega);generalize c[i]=r at v;obtain ⟨o',W,E,hstep⟩:=hsem i r v;rw [L] at W;cases W;have T:i<listed.size:=by rw [u.sz];exact U
  have l:=Yj T;have R:BU ops (qm (listed.setIfInBounds i true)):=by
   intro k o2 f hd e he z;rw [l] at hd ⊢;split
   ·rfl
   ·split at hd
    ·rename_i G;subst G;rw [L] at f;cases f;exact hedges e he z
    ·exact u.cl k o2 f hd e he z
  have N:∀ k q,c[k]? =some q→k<i→(jY q.foot r.foot=true∨∃ x ∈ r.ups.map (·.1),A+4*k≤x∧x<A+4*k+4)→qm listed k=true:=by
   intro k q f G hc;have I:=hord.ok k i q r f v G hc;have p:=pX R (k:=i) (i:=k) (by rw [l,if_pos rfl]) I;rw [l,if_neg (by omega)] at p;exact p
  have hhigh:∀ k q,c[k]? =some q→i<k→(jY r.foot q.foot=true∨∃ x ∈ q.ups.map (·.1),A+4*i≤x∧x<A+4*i+4)→qm listed k=false:=by
   intro k q f G hc;cases hd:qm listed k with
   |false=>rfl
   |true=>
    have I:=hord.ok i k r q v f G hc;have p:=pX u.cl hd I;rw [C] at p;cases p
  have M:∀ k q,c[k]? =some q→(k<i→jY q.foot r.foot=true)→(i<k→jY r.foot q.foot=true)→decide (k<i)=qm listed k:=by
   intro k q f I p;rcases Xj6 k i with h|h|h
   ·rw [N k q f h (.inl (I h))];simp [h]
   ·subst h;rw [C];simp
   ·rw [hhigh k q f h (.inl (p h))];simp;omega
  have hagr':∀ k q,c[k]? =some q→(k<i→jY q.foot r.foot=true)→(i<k→jY r.foot q.foot=true)→qm (listed.setIfInBounds i true) k=decide (k<i+1):=by
   intro k q f I p;rw [l];rcases Xj6 k i with h|h|h
   ·rw [if_neg (by omega),N k q f h (.inl (I h))];simp;omega
   ·subst h;simp
   ·rw [if_neg (by omega),hhigh k q f h (.inl (p h))];simp;omega
  have Y:∀ t ∈ r.rt,(zx s.env (c.take i)).get t=(qJ (qm listed) 0 s.env c).get t:=by
   intro t J;rw [← Io];refine ug c 0 _ _ rfl fun k q f hd=> ?_
   rw [Xqf];exact M k q f (fun _=>Ut (uy hd) J) (fun _=>Us J (uy hd))
  have hhp:∀ b ∈ r.rb,az (NI s.hp (c.take i)) b=az (yw (qm listed) 0 s.hp c) b:=by
   intro b z;rw [← NH];refine qO c 0 _ _ rfl fun k q f hd=> ?_
   rw [Xqf];exact M k q f (fun _=>Q3 hd z) (fun _=>QZ z hd)
  have hfresh:∀ j,j<4→az (yw (qm listed) 0 s.hp c) (A+4*i+j)=none:=by
   intro j hj;have I:az (yw (qm listed) 0 s.hp c) (A+4*i+j)=az (yw (fun _=>false) 0 s.hp c) (A+4*i+j):=by
    refine qO c 0 _ _ rfl fun k q f hd=> ?_
    rw [Xqf];have z:=hbound k q f _ hd;rcases Xj6 k i with h|h|h
    ·omega
    ·subst h;exact C
    ·exact hhigh k q f h (.inr ⟨_,hd,by omega,by omega⟩)
   rw [I,uq c 0 _ (fun _ _=>rfl)];cases z:az s.hp (A+4*i+j) with
   |none=>rfl
   |some B=>have:=hn0 _ _ z;omega
  have Z:ops.toArray[i]? =some o:=by simpa using L
  have hgoal:wpO P ops.toArray Q o (wpAny P .any ops.toArray Q n (listed.setIfInBounds i true)) a w:=by
   refine hstep (qm listed) m S w a u.rel.srel (fun t J=>by rw [Y t J];exact u.rel.env t) hhp hfresh (fun j hj=>by
    cases hd:qm listed j with
    |false=>rfl
    |true=>
     have p:=pX u.cl hd hj;rw [C] at p;cases p) Q _ ?_
   intro cv m' S' w' ds I p h3 h4;have hF:=u.rel.put (hnt o (Xqh L)) I p h3 h4;rw [kw] at p;rw [Xqk] at hF;have he':∀ t,(qJ (qm (listed.setIfInBounds i true)) 0 s.env c).get t=(qh (qJ (qm listed) 0 s.env c) o.dst r.v).get t:=by
    intro t;by_cases J:o.dst=some t
    ·have h5:(qJ (qm (listed.setIfInBounds i true)) 0 s.env c).get t=(qJ (fun j=>decide (j<i+1)) 0 s.env c).get t:=by
      refine ug c 0 _ _ rfl fun k q f hd=> ?_
      rw [Xqf];have X:t ∈ r.foot.wt:=uy (E.trans J);exact hagr' k q f (fun _=>JU (uy hd) X) (fun _=>JU X (uy hd))
     rw [h5,Io,Rn _ _ _ _ v,E,J,l_,l_]
    ·rw [yl J];refine ug c 0 _ _ rfl fun k q f hd=> ?_
     rw [Xqf,l,if_neg]
     rintro rfl
     rw [v] at f;cases f;exact J (E ▸ hd)
   have F:az (yw (qm (listed.setIfInBounds i true)) 0 s.hp c)=az (r.ups++yw (qm listed) 0 s.hp c):=by
    funext b;by_cases z:b ∈ r.ups.map (·.1)
    ·have h5:az (yw (qm (listed.setIfInBounds i true)) 0 s.hp c) b=az (yw (fun j=>decide (j<i+1)) 0 s.hp c) b:=by
      refine qO c 0 _ _ rfl fun k q f hd=> ?_
      rw [Xqf];exact hagr' k q f (fun _=>Gw hd z) (fun _=>Gw z hd)
     rw [h5,NH,Vt _ _ _ _ v];exact yB z
    ·rw [yC z];refine qO c 0 _ _ rfl fun k q f hd=> ?_
     rw [Xqf,l,if_neg]
     rintro rfl
     rw [v] at f;cases f;exact z hd
   refine ih _ m' S' w' _ ⟨by rw [Array.size_setIfInBounds];exact u.sz,R, ?_,hF.congr he' F⟩ ?_
   ·rw [F];exact u.fr.trans p
   ·have:=Bh C l (Xq6 ops.length) Xz7 (by simp [U]);simp only [IU] at hm ⊢;omega
  simp only [wpOp,Z];exact hgoal
theorem UF {ops:List Oper} {c:List tu} {s s':RS} {l nt:Nat} (n:∀ o ∈ ops,∀ d,o.dst=some d→d<nt) (f:c.length=ops.length) (e:TZ P ap ops 0 l s s' c) (q:s'.dfs.length=s.dfs.length)
  (hord:Hy l (fun j i=>((Region.before ops.toArray).toList.getD j 0).testBit i) c) (hback:yc ops=true) (hn0:∀ b B,az s.hp b=some B→b<l) {m0:aV} {S0:aQ} {w0:World} {Q:Exit→Act→World→Prop}
  (hQ:∀ m S w a,Fr (az s.hp) m0 S0 w0 (az (NI s.hp c)) m S w→FR ap (zx s.env c) (NI s.hp c) s.dfs nt m S w a→Q .normal a w):
  ∀ (fuel:Nat) (listed:Array Bool) (m:aV) (S:aQ) (w:World) (a:Act),acj ap ops c s.env s.hp s.dfs nt m0 S0 w0 listed m S w a→IU ops.length (qm listed)≤fuel→wpAny P .any ops.toArray Q fuel listed a w:=by
 obtain ⟨_,h⟩:=e.sem q;refine UG n f e.bound (fun k r F=> ?_) hord hback hn0 hQ;obtain ⟨o,u,z,C⟩:=h k r F;rw [Xqf] at u;exact ⟨o,u,z,fun D m S w a y v p t _ Q K E=>C _ m S w a y v (fun b x B A=>by rw [← p b x];exact A) t Q K E⟩
def oQ (ap:AP) (base:Nat) (keep:List Nat) (hp0:Hp) (m:aV) (S:aQ) (w:World) (nt:Nat) (s':St) (Q:Exit→Act→World→Prop):bD→Prop
 | .panic v=>match (dR v).isEmpty with
  |true=> ∀ s1:St,s'=norm base keep s1→xF ap hp0 m S w nt s1.env s1.hp s1.dfs Q (some v)
  |false=>xF ap hp0 m S w nt s'.env s'.hp s'.dfs Q (some v)
 | .normal=> ∀ s1:St,s'=norm base keep s1→xF ap hp0 m S w nt s1.env s1.hp s1.dfs Q none
 |_=>True
theorem Jg (x:iU P ap) (G:P.follows .mixedOrders=true) (K:mM P ap H) {ops:List Oper} {j:Bool} {nt base:Nat} {keep:List Nat} (u:∀ o ∈ ops,∀ d,o.dst=some d→d<nt) {s:St} {e:bD} {s':St} {c V:Cx} {id:Nat}
  (h:Jf ap H base keep ops j s c= .ok (e,s') V) (hc:V.Ok):c.Ok∧(s.md= .dead→s'.md= .dead∧(∀ m S w a,FR ap s.env s.hp s.dfs nt m S w a→∀ Q,
   oQ ap base keep s.hp m S w nt s' Q e→(Code.region id ops.toArray j).wp P Q a w)):=by
 unfold Jf at h;obtain ⟨⟨Z,p⟩,c1,J,h⟩:=R.bind_ok h;dsimp only at h;have y:∀ b B,az s.hp b=some B→b<kU s.hp:=fun b B q=>vz q
 cases p with
 | some v=>
  cases j with
  |true=>cases h
  | false=>
   dsimp only at h;split at h
   ·rename_i D;cases h;obtain ⟨f,hs⟩:=nK x K u ops 0 _ _ _ _ _ _ J hc;refine ⟨f,fun i=> ?_⟩;obtain ⟨z,E⟩:=hs i (fun t b q=>by cases q) rfl y;refine ⟨z,fun m S w a l Q A=>wp_region ?_⟩;simp only [oQ,D] at A;have:=E m S w a l Q (A _ rfl);rw [← Xz6] at this;simpa using this
   ·rename_i D;cases h;obtain ⟨f,hs⟩:=nK x K u ops 0 _ _ _ _ _ _ J hc;refine ⟨f,fun i=> ?_⟩;obtain ⟨z,E⟩:=hs i (fun t b q=>by cases q) rfl y;refine ⟨z,fun m S w a l Q A=>wp_region ?_⟩;simp only [oQ,D] at A;have:=E m S w a l Q A;rw [← Xz6] at this;simpa using this
 | none=>
  dsimp only at h;split at h
  ·rename_i hcond;cases h;cases j with
   |false=>
    obtain ⟨f,hs⟩:=nK x K u ops 0 _ _ _ _ _ _ J hc;refine ⟨f,fun i=> ?_⟩;obtain ⟨z,E⟩:=hs i (fun t b q=>by cases q) rfl y;refine ⟨z,fun m S w a l Q A=>wp_region ?_⟩;have:=E m S w a l Q (A _ rfl);rw [← Xz6] at this;simpa using this
   | true=>
    obtain ⟨f,hs⟩:=ace x K ops 0 _ _ _ _ _ J hc;refine ⟨f,fun i=> ?_⟩;obtain ⟨z,r,I,n⟩:=hs i (fun t b q=>by cases q) rfl;refine ⟨z,fun m S w a l Q A=>wp_region_any G ?_⟩;simp only [Xwg,Xwh,ο] at hcond;obtain ⟨⟨T,hback⟩,C⟩:=hcond;have C:=aJ C;rw [n.feet,List.append_nil] at T;have N:=A _ rfl;have O:=(n.sem C).1;have F:qm (Array.replicate ops.length false)=fun _=>false:=by
     funext k;simp only [qm,Array.getD_eq_getD_getElem?];by_cases U:k<ops.length<;>simp [U]
    have M:ops.toArray.size=ops.length:=by simp
    rw [M];refine UF u I n C (N9 T) hback y (m0:=m) (S0:=S) (w0:=w) (Q:=Q) ?_ ops.length _ m S _ a ⟨by simp, ?_, ?_, ?_⟩ ?_
    ·intro W S' w' Y L X;refine N W S' w' Y ?_ ?_
     ·rw [n.hp];exact L
     ·rw [n.hp,n.env,O];exact X
    ·intro k o U hd;rw [F] at hd;cases hd
    ·rw [F,uq r 0 _ (fun _ _=>rfl)];exact ⟨Ge.refl _ _,oM.refl _,rfl,rfl,rfl,Δ _,fun _ _ _=>rfl,fun _ B h=> .inr ⟨B,h,rfl⟩,fun _ _ _ h=> .inl h⟩
    ·rw [F,uq r 0 _ (fun _ _=>rfl),zu r 0 _ (fun _ _=>rfl)];exact ⟨⟨l.srel.inj,fun b B q=>l.srel.blk b B q|>fun ⟨z,E,L⟩=> ⟨z,E,L⟩,l.srel.sealed,l.srel.own,l.srel.glob⟩,l.env,l.dfs,l.size⟩
    ·exact Xqy (List.length_filter_le _ _) (by simp)
  ·cases h
end
end AM
namespace AM
open Go
def BK (acc:List Nat) (b:Nat):List Nat:=if rO acc b then acc else acc++ [b]
theorem QP (a:List Nat) (b:Nat) (h:a.Nodup):(BK a b).Nodup∧∃ t,BK a b=a++t:=by
 unfold BK;split
 ·exact ⟨h,[],by simp⟩
 ·rename_i d;refine ⟨?_,[b],rfl⟩;rw [List.nodup_append];refine ⟨h,by simp, ?_⟩;intro x f y c e;simp at c;subst c;subst e;exact d (jH.2 f)
theorem oV:∀ (l a:List Nat),a.Nodup→(l.foldl BK a).Nodup∧∃ t,l.foldl BK a=a++t
 | [],a,h=> ⟨h,[],by simp⟩
 |b::r,a,h=>by
  simp only [Xjm];obtain ⟨j,e,f⟩:=QP a b h;obtain ⟨c,i,d⟩:=oV r _ j;exact ⟨c,e++i,by rw [d,f,Xqe]⟩
theorem Di:∀ (l a:List Nat),l.Nodup→(∀ x ∈ l,x ∉ a)→l.foldl BK a=a++l
 | [],a,_,_=>by simp
 | b::r,a,h,hd=>by
  rw [Xkb] at h;have e:rO a b=false:=by
   cases c:rO a b with
   |false=>rfl
   |true=>exact absurd (jH.1 c) (hd b (by simp))
  simp only [Xjm];have:BK a b=a++ [b]:=by simp [BK,e]
  rw [this,Di r _ h.2]
  ·simp
  ·intro x d c;rcases List.mem_append.1 c with c|c
   ·exact hd x (by simp [d]) c
   ·simp at c;subst c;exact h.1 d
theorem RY (l:List Nat):jh l=l.foldl BK []:=rfl
theorem NY (n:Nat) (l:List Nat):(jh (Xq6 n++l)).Nodup∧∃ t,jh (Xq6 n++l)=Xq6 n++t:=by
 rw [RY,List.foldl_append,Di (Xq6 n) [] Xz7 (by simp),Xqk];exact oV l _ Xz7
theorem tZ (rd:dw):∀ (n:Nat) (l:List Nat),l.Nodup→(tq rd n l).Nodup∧∃ t,tq rd n l=l++t
 |0,l,h=> ⟨h,[],by simp [tq]⟩
 | n+1,l,h=>by
  simp only [tq];split
  ·exact ⟨h,[],by simp⟩
  ·obtain ⟨i,d,e⟩:=oV (l.flatMap fun b=>match rd b with|some B=>(match B.pr with|true=> []|false=>bK B.cells)|none=> []) l h;obtain ⟨a,f,c⟩:=tZ rd n _ i;refine ⟨a,d++f, ?_⟩;exact c.trans (by rw [e,Xqe])
theorem G5 {f:Nat→AV}:∀ (keep:List Nat) (t:Nat),az (keep.map fun t=>(t,f t)) t=if t ∈ keep then some (f t) else none
 | [],t=>by simp [az]
 | a::r,t=>by
  simp only [Xqi,az,G5 r t];cases h:Xqq a t with
  |true=>have:=aJ h;subst this;simp
  |false=>
   have b:t ≠ a:=by intro e;subst e;simp at h
   simp [b]
theorem Bd {rd:dw} {mk:Nat→a_→a_}:∀ (ids:List Nat) (j p:Nat),az ((ids.zipIdx j).filterMap fun (b,p)=>(rd b).map fun B=>(p,mk p B)) p=if j≤p then (ids[p - j]?).bind fun b=>(rd b).map (mk p) else none
 | [],j,p=>by simp [az]
 | a ::r,j,p=>by
  have f:=Bd (rd:=rd) (mk:=mk) r (j+1) p;rw [List.zipIdx_cons];cases c:rd a with
  | none=>
   rw [Xvm (by simp [c]),f];by_cases hj:j+1≤p
   ·rw [if_pos hj,if_pos (by omega)];obtain ⟨d,hd⟩:∃ d,p - j=d+1:=⟨p - j - 1,by omega⟩
    rw [hd,Xj4,show p - (j+1)=d by omega]
   ·rw [if_neg hj];by_cases hjp:j≤p
    ·rw [if_pos hjp,show p - j=0 by omega];simp [c]
    ·rw [if_neg hjp]
  | some B=>
   rw [Xvn (by simp [c];rfl)];simp only [az];cases h:Xqq j p with
   |true=>have:=aJ h;subst this;simp [c]
   | false=>
    have i:j ≠ p:=by intro e;subst e;simp at h
    simp only [f];by_cases hj:j+1≤p
    ·rw [if_pos hj,if_pos (by omega)];obtain ⟨d,hd⟩:∃ d,p - j=d+1:=⟨p - j - 1,by omega⟩
     rw [hd,Xj4,show p - (j+1)=d by omega]
    ·rw [if_neg hj,if_neg (by omega)]
theorem G_:∀ {l:List Nat},l.Nodup→rV l=true
 | [],_=>rfl
 |b::r,h=>by
  rw [Xkb] at h;simp only [rV,ο,Xqo];refine ⟨?_,G_ h.2⟩;cases a:rO r b with
  |false=>rfl
  |true=>exact absurd (jH.1 a) h.1
section
variable {P:Program} {ap:AP} {H:b_}
theorem JA {g g':dw} {m b:aV} {S S':aQ} {ρ:Nat→Nat→Option (Nat × Nat)} (c:oM S S') (h:sO g m g' b ρ):∀ {l:List (Nat × List AV)} {ds:List Deferred},gX g m S l ds→gX g' b S' (l.map fun d=>(d.1,mQ ρ d.2)) ds
 | [],[],_=>by simp [gX]
 |d::r,cd::cr,p=>by
  simp only [gX] at p;obtain ⟨⟨a,e,i⟩,f⟩:=p;simp only [Xqi,gX];exact ⟨⟨a,e,kG c h _ i⟩,JA c h f⟩
 | [],_::_,p=>by simp [gX] at p
 |_::_,[],p=>by simp [gX] at p
theorem rW {c:List a_} {keep:List Nat} {s:St} {nt:Nat} {m m0:aV} {S S0:aQ} {w w0:World} {a:Act} (f:Fr (bF c) m0 S0 w0 (az s.hp) m S w) (G:FR ap s.env s.hp s.dfs nt m S w a):
  ∃ m',Fr (bF c) m0 S0 w0 (az (norm c.length keep s).hp) m' S w∧FR ap (norm c.length keep s).env (norm c.length keep s).hp (norm c.length keep s).dfs nt m' S w a:=by
 obtain ⟨_,t0,W⟩:=tZ (az s.hp) 20 (Xq6 c.length) Xz7;generalize hroots:t0++(DR keep s.env++s.dfs.flatMap (fun d=>bK d.2))=roots;have hroots':tq (az s.hp) 20 (Xq6 c.length)++DR keep s.env++s.dfs.flatMap (fun d=>bK d.2)=Xq6 c.length++roots:=by rw [← hroots,W];simp only [Xqe]
 obtain ⟨R,t1,N⟩:=NY c.length roots;obtain ⟨X,t2,K⟩:=tZ (az s.hp) 20 _ R;rw [N,Xqe] at K;have hsome:∀ b,b<c.length→∃ B0 B,bF c b=some B0∧az s.hp b=some B∧B.esz=B0.esz∧((B.ver=B0.ver∧m b=m0 b)∨B0.ver<B.ver):=by
  intro b A;obtain ⟨B,n,r⟩:=f.ge b c[b] (by simp [bF,A]);exact ⟨c[b],B,by simp [bF,A],n,r⟩
 generalize l:(tq (az s.hp) 20 (jh (Xq6 c.length++roots))).filter (fun b=>(az s.hp b).isSome)=ids;have V:ids.Nodup:=by rw [← l];exact X.filter _
 have D:=G_ V;have x:∃ t,ids=Xq6 c.length++t:=by
  rw [← l,N,K,List.filter_append];refine ⟨_,congrArg (· ++_) ?_⟩;rw [List.filter_eq_self];intro b A;obtain ⟨_,B,_,r,_⟩:=hsome b (by simpa using A);simp [r]
 obtain ⟨t,x⟩:=x;have y:∀ b,b<c.length→ids[b]? =some b:=by
  intro b A;rw [x,Xxc (by simpa using A)];simp [A]
 have J:∀ (p b:Nat),ids[p]? =some b→∃ B,az s.hp b=some B:=by
  intro p b hp;have:=Xqh hp;rw [← l,Xw9] at this;exact Option.isSome_iff_exists.1 this.2
 let ρ:Nat→Nat→Option (Nat × Nat):=fun b v=>match az s.hp b with
  |some B=>match Xqq B.ver v with
   |true=>(qc ids b).map fun p=>(p,match Xx6 p c.length with|true=>v|false=>0)
   |false=>none
  |none=>none
 let mk:Nat→a_→a_:=fun p B=> {B with cells:=(match B.pr with|true=>B.cells|false=>mQ ρ B.cells),ver:=match Xx6 p c.length with|true=>B.ver|false=>0}
 have hnorm:norm c.length keep s=⟨keep.map fun t=>(t,ren ρ (s.env.get t)),ids.zipIdx.filterMap fun (b,p)=>(az s.hp b).map fun B=>(p,mk p B),s.md,s.dfs.map fun d=>(d.1,mQ ρ d.2)⟩:=by
  unfold norm;simp only [hroots',l];rfl
 rw [hnorm];dsimp only;have C:∀ p,az (ids.zipIdx.filterMap fun (b,p)=>(az s.hp b).map fun B=>(p,mk p B)) p=(ids[p]?).bind fun b=>(az s.hp b).map (mk p):=by
  intro p;rw [Bd (rd:=az s.hp) (mk:=mk) ids 0 p,if_pos (Xxo _),Nat.sub_zero]
 generalize (ids.zipIdx.filterMap fun (b,p)=>(az s.hp b).map fun B=>(p,mk p B))=hp2 at C;have i:∀ (p:Nat) (B2:a_),az hp2 p=some B2→∃ b B,ids[p]? =some b∧az s.hp b=some B∧B2=mk p B:=by
  intro p B2 h;rw [C] at h;cases hp:ids[p]? with
  |none=>rw [hp] at h;cases h
  |some b=>
   rw [hp] at h;obtain ⟨B,L⟩:=J p b hp;simp only [Xw2,L,Xja,Option.some.injEq] at h;exact ⟨b,B,rfl,L,h.symm⟩
 let m2:aV:=fun p=>m (ids.getD p 0)
 have k:∀ (p b:Nat),ids[p]? =some b→m2 p=m b:=by
  intro p b hp;show m (ids.getD p 0)=_;rw [π,hp];rfl
 have z:sO (az s.hp) m (az hp2) m2 ρ:=by
  intro b ver p Y h B L hver;simp only [ρ,L] at h;split at h
  ·rename_i I;have I:=aJ I;simp only [Xqp,Prod.mk.injEq] at h;obtain ⟨q,F,rfl,rfl⟩:=h;have F:=qP F;refine ⟨mk q B, ?_, ?_,fun _=> ⟨I,k q b F,rfl⟩⟩
   ·rw [C,F];simp [L]
   ·simp only [mk];split
    ·omega
    ·exact Δ _
  ·cases h
 have E:∀ (p q b:Nat),ids[p]? =some b→ids[q]? =some b→p=q:=by
  intro p q b hp F;have Z:=pz D hp;rw [pz D F] at Z;cases Z;rfl
 refine ⟨m2, ?_, ?_, ?_, ?_,G.size⟩
 ·refine ⟨?_,f.sle,f.os,f.tape,f.output,f.size,f.rest, ?_,f.sealN⟩
  ·intro b B0 A;have u:b<c.length:=(List.getElem?_eq_some_iff.1 A).1;obtain ⟨B0',B,n,r,O,Q⟩:=hsome b u;rw [A] at n;cases n;have U:Xx6 b c.length=true:=Xqv u;refine ⟨mk b B,by rw [C,y b u];simp [r],O, ?_⟩;simp only [mk,U];rw [k b b (y b u)];exact Q
  ·intro p B2 hp;obtain ⟨b,B,n,r,rfl⟩:=i p B2 hp;rw [k p b n];rcases f.img b B r with h|⟨B0,O,Q⟩
   ·exact .inl h
   ·have u:b<c.length:=(List.getElem?_eq_some_iff.1 O).1;have:=E p b b n (y b u);subst this;exact .inr ⟨B0,O,Q⟩
 ·refine ⟨?_, ?_,G.srel.sealed, ?_,G.srel.glob⟩
  ·intro p q B2 B2' hp F e;obtain ⟨b,B,n,r,rfl⟩:=i p B2 hp;obtain ⟨b',B',M,T,rfl⟩:=i q B2' F;rw [k p b n,k q b' M] at e;have:=G.srel.inj b b' B B' r T e;subst this;exact E p q b n M
  ·intro p B2 hp;obtain ⟨b,B,n,r,rfl⟩:=i p B2 hp;rw [k p b n];obtain ⟨⟨cur,e,vs,rest,k1,k2,k3,k4,k5,k6⟩,k7,k8⟩:=G.srel.blk b B r;cases j:B.pr with
   |true=>exact ⟨⟨cur,e,vs,rest,k1,k2,fun _=>by simpa [mk,j] using k3 j,by simpa [mk,j] using bT _ (k3 j),k5,k6⟩,k7,by simpa [mk,j] using k8⟩
   | false=>
    have I:=kG (oM.refl S) z _ k4;exact ⟨⟨cur,e,vs,rest,k1,k2,fun h=>by simp [mk,j] at h,by simpa [mk,j] using I,k5,k6⟩,k7,by
     have:(mk p B).cells.length=B.cells.length:=by simp only [mk,j];rw [bQ k4,bQ I]
     rw [this];exact k8⟩
  ·intro p B2 hp o v ho;obtain ⟨b,B,n,r,rfl⟩:=i p B2 hp;rw [k p b n] at ho;exact G.srel.own b B r o v ho
 ·intro t;simp only [iY.get,G5];by_cases ht:t ∈ keep
  ·rw [if_pos ht];exact yZ (oM.refl S) z _ (G.env t)
  ·rw [if_neg ht];simp [VR]
 ·exact JA (oM.refl S) z G.dfs
end
end AM
namespace AM
open Go
mutual
theorem xG {g g':dw} {m n:aV} {S S':aQ} (i:oM S S'):∀ (x:AV) {v:Value},(∀ b ∈ dR x,g' b=g b∧n b=m b)→VR g m S x v→VR g' n S' x v
 | .int _ _,_,_,p=>by simpa only [VR,PR] using p
 | .bool _,_,_,p=>by simpa only [VR,PR] using p
 | .str _,_,_,p=>by simpa only [VR,PR] using p
 | .nilS,_,_,p=>by simpa only [VR,PR] using p
 | .nilP,_,_,p=>by simpa only [VR,PR] using p
 | .nilF,_,_,p=>by simpa only [VR,PR] using p
 | .nilI,_,_,p=>by simpa only [VR,PR] using p
 | .sl _ _ _,_,_,p=>by simp only [VR] at p ⊢;exact cZ i _ p
 | .pp _ _,_,_,p=>by simp only [VR] at p ⊢;exact cZ i _ p
 | .mp _ _,_,_,p=>by simp only [VR] at p ⊢;exact cZ i _ p
 | .dead,_,_,_=>by simp only [VR]
 | .own _ _ _,_,_,p=>by simp only [VR] at p
 | .ref b _ _ _,_,h,p=>by
  obtain ⟨j,k⟩:=h b (by simp [dR]);simp only [VR] at p ⊢;rw [j,k];exact p
 | .ptr b _ _,_,h,p=>by
  obtain ⟨j,k⟩:=h b (by simp [dR]);simp only [VR] at p ⊢;rw [j,k];exact p
 | .mr b _,_,h,p=>by
  obtain ⟨j,k⟩:=h b (by simp [dR]);simp only [VR] at p ⊢;rw [j,k];exact p
 | .agg l,_,h,p=>by
  simp only [VR] at p ⊢;obtain ⟨vs,e,q⟩:=p;exact ⟨vs,e,nH i l (fun b d=>h b (by simpa [dR] using d)) q⟩
 | .tup l,_,h,p=>by
  simp only [VR] at p ⊢;obtain ⟨vs,e,q⟩:=p;exact ⟨vs,e,nH i l (fun b d=>h b (by simpa [dR] using d)) q⟩
 | .fn f a c,_,h,p=>by
  simp only [VR] at p ⊢;obtain ⟨o,s,e,q,r⟩:=p;exact ⟨o,s,e,nH i a (fun b d=>h b (by simp [dR,d])) q,nH i c (fun b d=>h b (by simp [dR,d])) r⟩
 | .ifc t x,_,h,p=>by
  simp only [VR] at p ⊢;obtain ⟨u,e,q⟩:=p;exact ⟨u,e,xG i x (fun b d=>h b (by simpa [dR] using d)) q⟩
theorem nH {g g':dw} {m c:aV} {S S':aQ} (d:oM S S'):∀ (l:List AV) {vs:List Value},(∀ b ∈ bK l,g' b=g b∧c b=m b)→bg g m S l vs→bg g' c S' l vs
 | [],[],_,_=>by simp only [bg]
 |x::r,v::vs,h,p=>by
  simp only [bg] at p ⊢;exact ⟨xG d x (fun b a=>h b (by simp [bK,a])) p.1,nH d r (fun b a=>h b (by simp [bK,a])) p.2⟩
 | [],_::_,_,p=>by simp [bg] at p
 |_::_,[],_,p=>by simp [bg] at p
end
theorem m_ {g:dw} {m:aV} {S:aQ} {x:AV} {v:Value} (h:(dR x).isEmpty=true) (c:VR g m S x v):PR S x v:=by
 have d:dR x= []:=by simpa using h
 exact nO (m:=m) x (xG (oM.refl S) x (fun b a=>by rw [d] at a;cases a) c)
def O_ (nt:Nat) (o:Oper):Bool:=match o.dst with|some d=>Xx6 d nt|none=>true
def dE (nt:Nat):Code→Bool
 | .region _ ops _=>ops.toList.all (O_ nt)
 | .seq a b=>dE nt a && dE nt b
 | .cond _ a b=>dE nt a && dE nt b
 | .block _ b=>dE nt b
 | .loop b=>dE nt b
 | .scope b=>dE nt b
 |_=>true
section
variable {P:Program} {ap:AP} {H:b_}
def TS (hp:Hp) (m:aV) (S:aQ) (Q:Exit→Act→World→Prop) (a:Act) (w:World):bD→Prop
 | .normal=>Q .normal a w
 | .exit id=>Q (.exit id) a w
 | .ret=>Q .ret a w
 | .panic v=> ∀ cv,VR (az hp) m S v cv→Q (.panic [{v:=cv,recovered:=false}]) a w
def XA (ap:AP) (h0:List a_) (m0:aV) (S0:aQ) (w0:World) (nt:Nat) (s':St) (e:bD) (Q:Exit→Act→World→Prop):Prop:=
 ∀ m' S' w' a',Fr (bF h0) m0 S0 w0 (az s'.hp) m' S' w'→FR ap s'.env s'.hp s'.dfs nt m' S' w' a'→TS s'.hp m' S' Q a' w' e
def ak (P:Program) (ap:AP) (h0:List a_) (nt:Nat) (code:Code) (s:St) (e:bD) (s':St):Prop:=
 s.md= .dead→s'.md= .dead∧∀ m0 S0 w0 m S w a,Fr (bF h0) m0 S0 w0 (az s.hp) m S w→FR ap s.env s.hp s.dfs nt m S w a→∀ Q,XA ap h0 m0 S0 w0 nt s' e Q→code.wp P Q a w
theorem ak.still {i:List a_} {nt:Nat} {b:Code} {s:St} {e:bD} (h:∀ (Q:Exit→Act→World→Prop) hp m S a w,TS hp m S Q a w e→b.wp P Q a w):ak P ap i nt b s e s:=
 fun c=> ⟨c,fun _ _ _ m S w a j d Q f=>h Q s.hp m S a w (f m S w a j d)⟩
theorem D9 {k:List a_} {nt:Nat} {b:Code} {f:St→Cx→R (bD × St)} (u:∀ s e s' c c',f s c= .ok (e,s') c'→c'.Ok→c.Ok∧ak P ap k nt b s e s'):
  ∀ (n:Nat) (s:St) (e:bD) (s':St) (c c':Cx),PI f n s c= .ok (e,s') c'→c'.Ok→c.Ok∧(s.md= .dead→s'.md= .dead∧∀ m0 S0 w0 m S w a,Fr (bF k) m0 S0 w0 (az s.hp) m S w→FR ap s.env s.hp s.dfs nt m S w a→∀ Q,XA ap k m0 S0 w0 nt s' e Q→Code.rounds P b Q n a w)
 |0,s,e,s',c,c',h,hc=>by cases h
 | n+1,s,e,s',c,c',h,hc=>by
  simp only [PI] at h;obtain ⟨⟨x,D⟩,F,E,h⟩:=R.bind_ok h;dsimp only at h;have hother:x ≠ .normal→R.ok (x,D) F=R.ok (e,s') c'→c.Ok∧(s.md= .dead→s'.md= .dead∧∀ m0 S0 w0 m S w a,Fr (bF k) m0 S0 w0 (az s.hp) m S w→FR ap s.env s.hp s.dfs nt m S w a→∀ Q,XA ap k m0 S0 w0 nt s' e Q→Code.rounds P b Q (n+1) a w):=by
   intro z G;cases G;obtain ⟨d,A⟩:=u _ _ _ _ _ E hc;refine ⟨d,fun i=> ?_⟩;obtain ⟨q,r⟩:=A i;refine ⟨q,fun m0 S0 w0 m S w a j B Q y=>r m0 S0 w0 m S w a j B _ ?_⟩;intro p S' w' t o C;have:=y p S' w' t o C;cases e with
   |normal=>exact absurd rfl z
   |exit id=>exact this
   |ret=>exact this
   |panic v=>exact this
  cases x with
  |normal=>
   dsimp only at h;obtain ⟨l,I⟩:=D9 u n D e s' F c' h hc;obtain ⟨d,A⟩:=u _ _ _ _ _ E l;refine ⟨d,fun i=> ?_⟩;obtain ⟨q,r⟩:=A i;obtain ⟨o,C⟩:=I q;refine ⟨o,fun m0 S0 w0 m S w a j B Q y=>r m0 S0 w0 m S w a j B _ ?_⟩;intro p S' w' t J K;exact C m0 S0 w0 p S' w' t J K Q y
  |exit id=>exact hother (by simp) h
  |ret=>exact hother (by simp) h
  |panic v=>exact hother (by simp) h
theorem eH (q:iU P ap) (i:P.follows .mixedOrders=true) (K:mM P ap H) {W:List a_} {keep:List Nat} {lf nt:Nat}:∀ (code:Code),dE nt code=true→∀ (s:St) (e:bD) (s':St) (c p:Cx),lm ap H W.length keep lf code s c= .ok (e,s') p→p.Ok→c.Ok∧ak P ap W nt code s e s'
 | .skip,_,s,e,s',c,p,h,n=>by
  cases h;exact ⟨n,ak.still fun Q hp m S a w r=>wp_skip r⟩
 | .label l,_,s,e,s',c,p,h,n=>by
  cases h;exact ⟨n,ak.still fun Q hp m S a w r=>wp_label r⟩
 | .exit id,_,s,e,s',c,p,h,n=>by
  cases h;exact ⟨n,ak.still fun Q hp m S a w r=>wp_exit r⟩
 | .ret,_,s,e,s',c,p,h,n=>by
  cases h;exact ⟨n,ak.still fun Q hp m S a w r=>wp_ret r⟩
 | .region id ops draw,hd,s,e,s',c,p,h,n=>by
  have hnt:∀ o ∈ ops.toList,∀ d,o.dst=some d→d<nt:=by
   intro o ho d hod;have:=List.all_eq_true.1 hd o ho;simp only [O_,hod] at this;exact fV this
  obtain ⟨j,hr⟩:=Jg q i K hnt (id:=id) h n;refine ⟨j,fun k=> ?_⟩;obtain ⟨I,h2⟩:=hr k;refine ⟨I,fun m0 S0 w0 m S w a f E Q D=> ?_⟩;have:=h2 m S w a E Q;rw [Array.toArray_toList] at this;refine this ?_;cases e with
  |normal=>
   intro U T G S' w' C A B;obtain ⟨m2,u,F⟩:=rW (keep:=keep) (f.trans A) B;rw [← T] at u F;exact D m2 S' w' C u F
  | panic v=>
   simp only [oQ];split
   ·rename_i Z;intro U T G S' w' C cv A B u;obtain ⟨m2,F,Y⟩:=rW (keep:=keep) (f.trans A) B;rw [← T] at F Y;exact D m2 S' w' C F Y cv (iw _ (m_ Z u))
   ·intro G S' w' C cv A B u;exact D G S' w' C (f.trans A) B cv u
  |exit id=>trivial
  |ret=>trivial
 | .seq x y,hd,s,e,s',c,p,h,n=>by
  simp only [dE,ο] at hd;simp only [lm] at h;obtain ⟨⟨M,U⟩,O,I,h⟩:=R.bind_ok h;dsimp only at h;have hother:M ≠ .normal→R.ok (M,U) O=R.ok (e,s') p→c.Ok∧ak P ap W nt (.seq x y) s e s':=by
   intro N V;cases V;obtain ⟨j,L⟩:=eH q i K x hd.1 _ _ _ _ _ I n;refine ⟨j,fun k=> ?_⟩;obtain ⟨A,B⟩:=L k;refine ⟨A,fun m0 S0 w0 m S w a f E Q D=>wp_seq (B m0 S0 w0 m S w a f E _ ?_)⟩;intro G S' w' C u F;have:=D G S' w' C u F;cases e with
   |normal=>exact absurd rfl N
   |exit id=>exact this
   |ret=>exact this
   |panic v=>exact this
  cases M with
  |normal=>
   dsimp only at h;obtain ⟨J,ih⟩:=eH q i K y hd.2 _ _ _ _ _ h n;obtain ⟨j,L⟩:=eH q i K x hd.1 _ _ _ _ _ I J;refine ⟨j,fun k=> ?_⟩;obtain ⟨A,B⟩:=L k;obtain ⟨u,F⟩:=ih A;refine ⟨u,fun m0 S0 w0 m S w a f E Q D=>wp_seq (B m0 S0 w0 m S w a f E _ ?_)⟩;intro G S' w' C Y h8;exact F m0 S0 w0 G S' w' C Y h8 Q D
  |exit id=>exact hother (by simp) h
  |ret=>exact hother (by simp) h
  |panic v=>exact hother (by simp) h
 | .cond t x y,hd,s,e,s',c,p,h,n=>by
  simp only [dE,ο] at hd;simp only [lm] at h;split at h
  ·rename_i bv hbv;obtain ⟨b',O,I,h⟩:=R.bind_ok h;have key:∀ (z:Code),(O.Ok→O.Ok∧z=if bv then x else y)→O.Ok∧ak P ap W nt z s e s'→c.Ok∧ak P ap W nt (.cond t x y) s e s':=by
    rintro z hzz ⟨J,ih⟩
    obtain ⟨j,hb⟩:=lD I J;refine ⟨j,fun k=> ?_⟩;obtain ⟨u,F⟩:=ih k;refine ⟨u,fun m0 S0 w0 m S w a f E Q D=>wp_cond (t:=bv) ?_ ?_⟩
    ·have:=wV E.srel (a:=a) (env:=s.env) t (fun t _=>E.env t);rw [hbv] at this;simpa only [VR,PR] using this
    ·rw [← (hzz J).2];exact F m0 S0 w0 m S w a f E Q D
   cases b' with
   |true=>exact key x (fun X=> ⟨X,by rw [← (lD I X).2];rfl⟩) (eH q i K x hd.1 _ _ _ _ _ h n)
   |false=>exact key y (fun X=> ⟨X,by rw [← (lD I X).2];rfl⟩) (eH q i K y hd.2 _ _ _ _ _ h n)
  ·cases h
 | .block id b,hd,s,e,s',c,p,h,n=>by
  simp only [dE] at hd;simp only [lm] at h;obtain ⟨⟨M,U⟩,O,I,h⟩:=R.bind_ok h;dsimp only at h;have hcc:O=p:=by
   cases M<;>dsimp only at h
   ·cases h;rfl
   ·split at h<;>cases h<;>rfl
   ·cases h;rfl
   ·cases h;rfl
  subst hcc;obtain ⟨j,L⟩:=eH q i K b hd _ _ _ _ _ I n;refine ⟨j,fun k=> ?_⟩;obtain ⟨A,B⟩:=L k;have hs:U=s':=by
   cases M<;>dsimp only at h
   ·cases h;rfl
   ·split at h<;>cases h<;>rfl
   ·cases h;rfl
   ·cases h;rfl
  subst hs;refine ⟨A,fun m0 S0 w0 m S w a f E Q D=>wp_block (B m0 S0 w0 m S w a f E _ ?_)⟩;intro G S' w' C u F;have r:=D G S' w' C u F;cases M with
  |normal=>cases h;exact r
  |ret=>cases h;exact r
  |panic v=>cases h;exact r
  | exit id'=>
   dsimp only at h;split at h
   ·rename_i V;cases h;show Exit.inBlock id Q (.exit id') C w';simp only [Exit.inBlock,if_pos (aJ V)];exact r
   ·rename_i V;cases h;show Exit.inBlock id Q (.exit id') C w';have N:id' ≠ id:=by intro e;subst e;simp at V
    simp only [Exit.inBlock,if_neg N];exact r
 | .loop b,hd,s,e,s',c,p,h,n=>by
  simp only [dE] at hd;simp only [lm] at h;obtain ⟨j,L⟩:=D9 (fun s e s' c p h n=>eH q i K b hd s e s' c p h n) lf s e s' c p h n;refine ⟨j,fun k=> ?_⟩;obtain ⟨A,B⟩:=L k;exact ⟨A,fun m0 S0 w0 m S w a f E Q D=>wp_loop_rounds lf (B m0 S0 w0 m S w a f E Q D)⟩
 | .scope b,hd,s,e,s',c,p,h,n=>by
  simp only [dE] at hd;simp only [lm] at h;obtain ⟨j,L⟩:=eH q i K b hd _ _ _ _ _ h n;refine ⟨j,fun k=> ?_⟩;obtain ⟨A,B⟩:=L k;refine ⟨A,fun m0 S0 w0 m S w a f E Q D=>wp_scope_straight (B m0 S0 w0 m S w a f E _ ?_)⟩;intro G S' w' C u F;have r:=D G S' w' C u F;cases e with
  |normal=>exact r
  |exit id=>exact r
  |ret=>exact r
  |panic v=>exact r
 | .rangeFunc _ _ _ _,_,s,e,s',c,p,h,n=>by cases h
 | .goto _,_,s,e,s',c,p,h,n=>by cases h
 | .refuse _,_,s,e,s',c,p,h,n=>by cases h
end
end AM
