/- The abstract machine over the code of the model, and the proof that it is sound. No conditions. -/
import Derived.Test.YtokiomlellclkaaGreatDoorM2
import Derived.Orders
import Derived.LoopN
import Derived.Scope
set_option linter.unusedSimpArgs false
set_option linter.unusedVariables false
open List renaming map_cons→χ,getElem?_cons_succ→Xxt,filterMap_cons_none→Xwf,filterMap_cons_some→Xwg,mem_cons→Xqu,getElem?_append_left→Xqa,nil_append→μ,length_nil→Xqj,getElem?_eq_getElem→ζ,getElem?_eq_none→Xxk,mem_of_getElem?→Γ,getD_eq_getElem?_getD→π,getElem?_map→Ψ,append_assoc→Ξ,mem_cons_self→Xqs,mem_cons_of_mem→Xql,drop_drop→Xjj,length_cons→Θ,range'_succ→Xzt,take_zero→Xj9,take_succ_cons→Xxq,eq_nil_of_length_eq_zero→Xxd,foldl_cons→Xqy,all_eq_true→Xjv,mem_zipIdx_iff_getElem?→Xx6,range→Xqf,nodup_cons→Xzi,mem_filter→Xxa,mem_range→Xwb,size_toArray→Xxe,nodup_range→Xx2,range_eq_range'→Xjl
open Nat renaming add_assoc→Xxy,beq→Δ,le_of_not_lt→Xv3,le_refl→ε,lt_of_lt_of_le→Xqd,zero_add→Φ,zero_le→Xqp,le_trans→Xqh,add_zero→Xqt,eq_of_beq_eq_true→Xqq,blt→Xq5,ble_eq_true_of_le→Xqe,lt_trichotomy→Xx9
open Bool renaming and_eq_true→η,not_eq_true'→Xqk,or_eq_true→Xq7,not_true→Xvk,false_or→Xzl
open Option renaming map_eq_some_iff→Xqb,bind_some→Xjx,map_some→Xqr,getD_some→Xq9
namespace AM
open Go
def aC (h:List aK):bP:=fun b=>h[b]?
def ig (gh gf:bP) (m:aI) (S:aB):Nat→List AV→List Value→Prop
 |_,[],[]=>True
 |n,.own _ k _::r,v::vs=>VR gf m S (.ref n 0 0 k) v∧ig gh gf m S (n+1) r vs
 |n,x::r,v::vs=>VR gh m S x v∧ig gh gf m S n r vs
 |_,_,_=>False
def u_ (gh gf:bP) (m:aI) (S:aB) (n:Nat):AV→Value→Prop
 | .tup l,v=> ∃ vs,v= .tuple vs.toArray∧ig gh gf m S n l vs
 | .own _ k _,v=>VR gf m S (.ref n 0 0 k) v
 |x,v=>VR gh m S x v
def iW (n:Nat):h_→List aK
 | .ret v=>(jf n v).2
 | .pan _=> []
def V4 (h':List aK) (m':aI) (S':aB):h_→Ending→Prop
 | .ret v,e=> ∃ cv,e= .returned cv∧u_ (aC h') (aC (h'++(jf h'.length v).2)) m' S' h'.length v cv
 | .pan v,e=> ∃ cv,e= .panicked [{v:=cv,recovered:=false}]∧VR (aC h') m' S' v cv
structure zO (ap:AP) (h:List aK) (m:aI) (S:aB) (w:World) (out:h_) (h':List aK) (m':aI) (S':aB) (w':World) (e:Ending):Prop where
 srel:bi ap (aC (h'++iW h'.length out)) m' S' w'
 fr:Fr (aC h) m S w (aC (h'++iW h'.length out)) m' S' w'
 out:V4 h' m' S' out e
def qR (P:Program) (f:Nat):Prop:=∀ args w,(callFunc f args).run P w= .ok (.enter f args) w
structure ah (P:Program) (ap:AP) (f:Nat) (args:List AV) (h:List aK) (out:h_) (h':List aK):Prop where
 len:h.length≤h'.length
 ent:qR P f
 calls:∀ m S w cargs,bi ap (aC h) m S w→aX (aC h) m S args cargs→Calls P f cargs.toArray w fun e w'=> ∃ m' S',zO ap h m S w out h' m' S' w' e
def gY (P:Program) (ap:AP) (H:bI):Prop:=∀ c f args h out h' md' c',H c .dead f args h= .ok (out,h',md') c'→c'.Ok→c.Ok∧ah P ap f args h out h'
section
variable {P:Program} {ap:AP} {g:bP} {m:aI} {S:aB} {w:World}
mutual
theorem lJ {m:aI} {S:aB}:∀ (x:AV) {v:Value},VR (aC []) m S x v→PR S x v
 | .int _ _,_,p=>by simpa only [VR] using p
 | .bool _,_,p=>by simpa only [VR] using p
 | .str _,_,p=>by simpa only [VR] using p
 | .nilS,_,p=>by simpa only [VR] using p
 | .nilP,_,p=>by simpa only [VR] using p
 | .raw _,_,p=>by simpa only [VR] using p
 | .nilF,_,p=>by simpa only [VR] using p
 | .nilI,_,p=>by simpa only [VR] using p
 | .sl _ _ _,_,p=>by simpa only [VR] using p
 | .pp _ _,_,p=>by simpa only [VR] using p
 | .mp _ _,_,p=>by simpa only [VR] using p
 | .dead,_,_=>by simp only [PR]
 | .own _ _ _,_,p=>by simp only [VR] at p
 | .ref _ _ _ _,_,p=>by simp [VR,aC] at p
 | .ptr _ _ _,_,p=>by simp [VR,aC] at p
 | .mr _ _,_,p=>by simp [VR,aC] at p
 | .agg l,_,p=>by
  simp only [VR] at p;simp only [PR];obtain ⟨vs,e,q⟩:=p;exact ⟨vs,e,ji l q⟩
 | .tup l,_,p=>by
  simp only [VR] at p;simp only [PR];obtain ⟨vs,e,q⟩:=p;exact ⟨vs,e,ji l q⟩
 | .fn f a c,_,p=>by
  simp only [VR] at p;simp only [PR];obtain ⟨d,b,e,q,r⟩:=p;exact ⟨d,b,e,ji a q,ji c r⟩
 | .ifc t x,_,p=>by
  simp only [VR] at p;simp only [PR];obtain ⟨u,e,q⟩:=p;exact ⟨u,e,lJ x q⟩
theorem ji {m:aI} {S:aB}:∀ (l:List AV) {vs:List Value},aX (aC []) m S l vs→bu S l vs
 | [],[],_=>by simp only [bu]
 |x::r,v::vs,p=>by simp only [aX] at p;simp only [bu];exact ⟨lJ x p.1,ji r p.2⟩
 | [],_::_,p=>by simp [aX] at p
 |_::_,[],p=>by simp [aX] at p
end
theorem YU (z:bi ap g m S w) {L r:bP} {Z u:aI} {Sp S':aB} {w':World} (N:bi ap r u S' w') (p:Fr L Z Sp w r u S' w') (ι:Nat→Nat)
  (hdom:∀ i Bc,L i=some Bc→∃ B,g (ι i)=some B∧Z i=m (ι i))
  (hSp:gZ S Sp) (hSpN:∀ k o v,Sp k o=some v→S k o=some v∨∃ b B,g b=some B∧(m b).1=k) {gN:bP} {mN:aI} (ρ:Nat→Nat→Option (Nat × Nat)) (hρ:mV r u gN mN ρ)
  (hnew:∀ i Bc,r i=some Bc→∃ B,gN (ι i)=some B∧mN (ι i)=u i∧B.esz=Bc.esz∧B.fro=Bc.fro∧B.fz=Bc.fz∧B.pr=Bc.pr∧(Bc.pr=true→B.cells=Bc.cells)∧(Bc.pr=false→B.cells=jO ρ Bc.cells))
  (c:∀ b B,gN b=some B→(∃ i Bc,r i=some Bc∧b=ι i)∨(∃ B0,g b=some B0∧mN b=m b∧B.cells=B0.cells∧B.pr=B0.pr∧B.esz=B0.esz∧(B.fro=false→B.fz=0)∧B.fz≤B.cells.length∧(∀ i Bc,L i=some Bc→b ≠ ι i)∧(∀ o v,Sp (m b).1 o=some v→B.fro=true∧o<B.fz)))
  (hge:Ge g m gN mN):bi ap gN mN S' w'∧Fr g m S w gN mN S' w':=by
 have s:gZ S S':=hSp.trans p.sle;have hcross:∀ b B0 i Bc,g b=some B0→r i=some Bc→(∀ i Bc,L i=some Bc→b ≠ ι i)→(m b).1 ≠ (u i).1:=by
  intro b B0 i Bc n a l e;have Q:=z.lt n;rcases p.img i Bc a with d|⟨B1,d,y⟩
  ·omega
  ·obtain ⟨B2,D,K⟩:=hdom i B1 d;rw [K] at y;exact l i B1 d (z.inj b (ι i) B0 B2 n D (e.trans y))
 constructor
 ·refine ⟨?_, ?_,N.sealed, ?_,N.glob⟩
  ·intro b Y B B' n X e;rcases c b B n with ⟨i,Bi,a,rfl⟩|⟨B0,h0,d,_,_,_,_,_,y,_⟩<;>rcases c Y B' X with ⟨j,Bj,U,rfl⟩|⟨B0',R,O,_,_,_,_,_,W,_⟩
   ·obtain ⟨_,_,t,_⟩:=hnew i Bi a;obtain ⟨_,_,x,_⟩:=hnew j Bj U;rw [t,x] at e;rw [N.inj i j Bi Bj a U e]
   ·obtain ⟨_,_,t,_⟩:=hnew i Bi a;rw [t,O] at e;exact absurd e.symm (hcross Y B0' i Bi R a W)
   ·obtain ⟨_,_,x,_⟩:=hnew j Bj U;rw [x,d] at e;exact absurd e (hcross b B0 j Bj h0 U y)
   ·rw [d,O] at e;exact z.inj b Y B0 B0' h0 R e
  ·intro b B n;rcases c b B n with ⟨i,Bi,a,rfl⟩|⟨B0,h0,d,D,K,V,h6,h7,y,_⟩
   ·obtain ⟨B1,I,t,x,T,J,e5,e6,e7⟩:=hnew i Bi a;rw [n] at I;cases I;rw [t];obtain ⟨⟨cur,e,vs,rest,k1,k2,k3,k4,k5,k6⟩,k7,k8⟩:=N.blk i Bi a;cases hp:Bi.pr with
    |true=>
     have hcells:=e6 hp;refine ⟨⟨cur,e,vs,rest,by rw [x];exact k1,k2,fun _=>by rw [hcells];exact k3 hp,by rw [hcells];exact aZ _ (k3 hp),by rw [x];exact k5,by rw [x];exact k6⟩,by rw [T,J];exact k7,by rw [J,hcells];exact k8⟩
    |false=>
     have hcells:=e7 hp;have A:=iI (gZ.refl S') hρ _ k4;have M:B.cells.length=Bi.cells.length:=by rw [aY k4,hcells,aY A]
     refine ⟨⟨cur,e,vs,rest,by rw [x];exact k1,k2,(fun h=>by rw [e5,hp] at h;cases h),by rw [hcells];exact A,by rw [x];exact k5,by rw [x];exact k6⟩,by rw [T,J];exact k7,by rw [J,M];exact k8⟩
   ·rw [d];have l:∀ i Bc,L i=some Bc→(Z i).1 ≠ (m b).1:=by
     intro i Bc a e;obtain ⟨B2,E,f⟩:=hdom i Bc a;rw [f] at e;exact y i Bc a (z.inj b (ι i) B0 B2 h0 E e.symm)
    obtain ⟨⟨cur,e,vs,rest,k1,k2,k3,k4,k5,k6⟩,k7,k8⟩:=z.blk b B0 h0;refine ⟨⟨cur,e,vs,rest,by rw [V];exact k1.same (p.rest _ (z.lt h0) l),k2,fun hp=>by rw [D];rw [K] at hp;exact a_ s _ (k3 hp),by rw [D];exact iQ s hge _ k4,by rw [V];exact k5,by rw [V];exact k6⟩,h6,h7⟩
  ·intro b B n o v A;rcases c b B n with ⟨i,Bi,a,rfl⟩|⟨B0,h0,d,D,K,V,h6,h7,y,E⟩
   ·obtain ⟨B1,I,t,x,T,J,e5,e6,e7⟩:=hnew i Bi a;rw [n] at I;cases I;rw [t] at A;rw [T,J];exact N.own i Bi a o v A
   ·rw [d] at A;rcases p.sealN _ _ _ A with f|f|⟨i,Bi,a,f⟩
    ·exact E o v f
    ·have:=z.lt h0;omega
    ·obtain ⟨B2,C,G⟩:=hdom i Bi a;rw [G] at f;exact absurd (z.inj b (ι i) B0 B2 h0 C f.symm) (y i Bi a)
 ·refine ⟨hge,s,p.os,p.tape,p.output,p.size, ?_, ?_, ?_, ?_⟩
  ·intro k F l;refine p.rest k F fun i Bc a e=> ?_
   obtain ⟨B2,E,f⟩:=hdom i Bc a;exact l (ι i) B2 E (by rw [← f];exact e)
  ·intro b B n;rcases c b B n with ⟨i,Bi,a,rfl⟩|⟨B0,h0,d,_⟩
   ·obtain ⟨B1,I,t,_⟩:=hnew i Bi a;rw [t];rcases p.img i Bi a with d|⟨B2,d,y⟩
    ·exact .inl d
    ·obtain ⟨B3,D,K⟩:=hdom i B2 d;exact .inr ⟨B3,D,by rw [y,K]⟩
   ·exact .inr ⟨B0,h0,by rw [d]⟩
  ·intro k o v A;rcases p.sealN _ _ _ A with f|f|⟨i,Bi,a,f⟩
   ·rcases hSpN _ _ _ f with h|h
    ·exact .inl h
    ·exact .inr (.inr h)
   ·exact .inr (.inl f)
   ·obtain ⟨B2,C,G⟩:=hdom i Bi a;exact .inr (.inr ⟨ι i,B2,C,by rw [← G];exact f⟩)
  ·intro b B n es clk F;rcases c b B n with ⟨i,Bi,a,rfl⟩|⟨B0,h0,d,_,_,_,_,_,l,_⟩
   ·obtain ⟨B1,I,t,_⟩:=hnew i Bi a;rw [t] at F ⊢;exact p.mw i Bi a es clk F
   ·rw [d] at F ⊢;have Q:=z.lt h0;have he:w'.heap[(m b).1]? =w.heap[(m b).1]? :=p.rest _ Q fun i Bc a e=>by
     obtain ⟨B2,E,f⟩:=hdom i Bc a;exact l i Bc a (z.inj b (ι i) B0 B2 h0 E (by rw [← f];exact e.symm))
    rw [he] at F;exact .inl ⟨es,clk,F,fun q=>q⟩
structure EL (F:AV→AV):Prop where
 own:∀ xs n e,F (.own xs n e)= .own xs n e
 tup:∀ l,F (.tup l)= .tup (l.map F)
 not:∀ x,(∀ xs n e,x ≠ .own xs n e)→(∀ xs n e,F x ≠ .own xs n e)
 notT:∀ x,(∀ l,x ≠ .tup l)→(∀ l,F x ≠ .tup l)
theorem bU (n:Nat) {x:AV} (h:∀ xs k e,x ≠ .own xs k e) (r:List AV):fC n (x::r)=(x::(fC n r).1,(fC n r).2):=by
 cases x<;>first|rfl|exact absurd rfl (h _ _ _)
theorem iC (n:Nat) {x:AV} (h:∀ xs k e,x ≠ .own xs k e) (a:∀ l,x ≠ .tup l):jf n x=(x,[]):=by
 cases x<;>first|rfl|exact absurd rfl (h _ _ _)|exact absurd rfl (a _)
theorem dw {gh gf:bP} {n:Nat} {x:AV} (h:∀ xs k e,x ≠ .own xs k e) {r:List AV} {v:Value} {vs:List Value}:ig gh gf m S n (x::r) (v::vs)=(VR gh m S x v∧ig gh gf m S n r vs):=by
 cases x<;>first|rfl|exact absurd rfl (h _ _ _)
theorem jT {gh gf:bP} {n:Nat} {x:AV} (h:∀ xs k e,x ≠ .own xs k e) (a:∀ l,x ≠ .tup l) {v:Value}:u_ gh gf m S n x v=VR gh m S x v:=by
 cases x<;>first|rfl|exact absurd rfl (h _ _ _)|exact absurd rfl (a _)
theorem jH (x:AV):(∃ xs k e,x= .own xs k e)∨(∀ xs k e,x ≠ .own xs k e):=by
 cases x<;>first|exact .inl ⟨_,_,_,rfl⟩|exact .inr (fun _ _ _ h=>by cases h)
theorem yI (x:AV):(∃ l,x= .tup l)∨(∀ l,x ≠ .tup l):=by
 cases x<;>first|exact .inl ⟨_,rfl⟩|exact .inr (fun _ h=>by cases h)
theorem qh {F:AV→AV} (c:EL F):∀ (l:List AV) (a b:Nat),(fC a (l.map F)).2=(fC b l).2
 | [],a,b=>rfl
 | x::r,a,b=>by
  rcases jH x with ⟨d,k,e,rfl⟩|hx
  ·simp only [χ,c.own,fC];rw [qh c r (a+1) (b+1)]
  ·rw [χ,bU a (c.not x hx),bU b hx];exact qh c r a b
theorem zC {F:AV→AV} (c:EL F) (x:AV) (a b:Nat):(jf a (F x)).2=(jf b x).2:=by
 rcases jH x with ⟨d,k,e,rfl⟩|hx
 ·rw [c.own];rfl
 ·rcases yI x with ⟨l,rfl⟩|ht
  ·rw [c.tup];simp only [jf];exact qh c l a b
  ·rw [iC a (c.not x hx) (c.notT x ht),iC b hx ht]
theorem r_ {F:AV→AV} (a:EL F) {gh gf gN:bP} {m mN:aI} {S:aB} {n nid:Nat} (c:∀ x v,VR gh m S x v→VR gN mN S (F x) v) (b:∀ i k v,VR gf m S (.ref (n+i) 0 0 k) v→VR gN mN S (.ref (nid+i) 0 0 k) v):
  ∀ (l:List AV) (vs:List Value) (j:Nat),ig gh gf m S (n+j) l vs→aX gN mN S (fC (nid+j) (l.map F)).1 vs
 | [],[],j,_=>by simp [fC,aX]
 | x::r,v::vs,j,h=>by
  rcases jH x with ⟨d,k,e,rfl⟩|hxo
  ·simp only [ig] at h;simp only [χ,a.own,fC,aX];exact ⟨b j k v h.1,by have:=r_ a c b r vs (j+1);rw [← Xxy,← Xxy] at this;exact this h.2⟩
  ·rw [dw hxo] at h;rw [χ,bU _ (a.not x hxo)];simp only [aX];exact ⟨c x v h.1,r_ a c b r vs j h.2⟩
 | [],_::_,_,h=>by simp [ig] at h
 |x::r,[],_,h=>by cases x<;>simp [ig] at h
theorem Dz {F:AV→AV} (a:EL F) {gh gf gN:bP} {m mN:aI} {S:aB} {n nid:Nat} (b:∀ x v,VR gh m S x v→VR gN mN S (F x) v) (c:∀ i k v,VR gf m S (.ref (n+i) 0 0 k) v→VR gN mN S (.ref (nid+i) 0 0 k) v)
  {x:AV} {v:Value} (h:u_ gh gf m S n x v):VR gN mN S (jf nid (F x)).1 v:=by
 rcases jH x with ⟨d,k,e,rfl⟩|hxo
 ·simp only [u_] at h;rw [a.own];exact c 0 k v h
 ·rcases yI x with ⟨l,rfl⟩|ht
  ·simp only [u_] at h;obtain ⟨vs,e,h⟩:=h;rw [a.tup];simp only [jf,VR];exact ⟨vs,e,r_ a b c l vs 0 h⟩
  ·rw [jT hxo ht] at h;rw [iC _ (a.not x hxo) (a.notT x ht)];exact b x v h
theorem Jh:EL id:=⟨fun _ _ _=>rfl,fun l=>by simp,fun _ h=>h,fun _ h=>h⟩
theorem JL (ρ:Nat→Nat→Option (Nat × Nat)):∀ l,jO ρ l=l.map (ren ρ)
 | []=>rfl
 |x::r=>by simp [jO,JL ρ r]
theorem Ff (ρ:Nat→Nat→Option (Nat × Nat)):EL (ren ρ):=by
 refine ⟨fun _ _ _=>rfl,fun l=>by simp [ren,JL], ?_, ?_⟩
 ·intro x h b n e a;cases x<;>simp only [ren] at a<;>first
   |(cases a;done)
   |(split at a<;>cases a;done)
   |exact h _ _ _ rfl
 ·intro x h l a;cases x<;>simp only [ren] at a<;>first
   |(cases a;done)
   |(split at a<;>cases a;done)
   |exact h _ rfl
theorem yg:∀ (bs:List aK) (n b:Nat),ag (Df n bs) b=if n≤b then bs[b - n]? else none
 | [],n,b=>by simp [Df,ag]
 | B::r,n,b=>by
  simp only [Df,ag];cases h:Δ n b with
  |true=>
   have:=aF h;subst this;simp
  | false=>
   have a:n ≠ b:=by intro e;subst e;simp at h
   rw [yg r (n+1) b];by_cases hle:n≤b
   ·rw [if_pos hle,if_pos (show n+1≤b by omega)];obtain ⟨d,c⟩:∃ d,b - n=d+1:=⟨b - n - 1,by omega⟩
    rw [c,Xxt,show b - (n+1)=d by omega]
   ·rw [if_neg hle,if_neg (show ¬ n+1≤b by omega)]
theorem Fq {rd:bP} {mk:aK→aK}:∀ (fp:List Nat) (b:Nat),ag (fp.filterMap fun b=>(rd b).map fun B=>(b,mk B)) b=if b ∈ fp then (rd b).map mk else none
 | [],b=>by simp [ag]
 | a::r,b=>by
  have f:=Fq (rd:=rd) (mk:=mk) r b;cases c:rd a with
  |none=>
   rw [Xwf (by simp [c]),f];by_cases hab:b=a
   ·subst hab;simp [c]
   ·simp [hab]
  | some B=>
   rw [Xwg (by simp [c];rfl)];simp only [ag];cases h:Δ a b with
   |true=>have:=aF h;subst this;simp [c]
   |false=>
    have d:b ≠ a:=by intro e;subst e;simp at h
    simp only [f,Xqu,d,false_or]
end
end AM
namespace AM
open Go
def aaF (g:bP) (m:aI) (S:aB):h_→Ending→Prop
 | .ret v,e=> ∃ cv,e= .returned cv∧VR g m S v cv
 | .pan v,e=> ∃ cv,e= .panicked [{v:=cv,recovered:=false}]∧VR g m S v cv
def VY (ap:AP) (g:bP) (m:aI) (S:aB) (w:World) (out:h_) (ups:List (Nat × aK)) (e:Ending) (w':World):Prop:=
 ∃ m' S',bi ap (bM g ups) m' S' w'∧Fr g m S w (bM g ups) m' S' w'∧aaF (bM g ups) m' S' out e
theorem dU {h c:List aK} {b:Nat} (a:b<h.length):aC (h++c) b=aC h b:=by
 simp [aC,Xqa a]
theorem iy {h a:List aK} {b:Nat} (c:h.length≤b):aC (h++a) b=aC a (b - h.length):=by
 simp [aC,List.getElem?_append_right c]
def o_ (l:List aK):Prop:=∀ B ∈ l,B.pr=true∧B.fro=false∧B.ver=0
theorem qi:∀ (l:List AV) (n:Nat),o_ (fC n l).2
 | [],n=>by simp [fC,o_]
 | x::r,n=>by
  rcases jH x with ⟨b,k,e,rfl⟩|hx
  ·simp only [fC];intro B a;rcases List.mem_cons.1 a with rfl|a
   ·exact ⟨rfl,rfl,rfl⟩
   ·exact qi r (n+1) B a
  ·rw [bU n hx];exact qi r n
theorem JK (x:AV) (n:Nat):o_ (jf n x).2:=by
 rcases jH x with ⟨b,k,e,rfl⟩|hx
 ·intro B a;simp [jf] at a;subst a;exact ⟨rfl,rfl,rfl⟩
 ·rcases yI x with ⟨l,rfl⟩|ht
  ·simp only [jf];exact qi l n
  ·rw [iC n hx ht];simp [o_]
theorem zA (o:h_) (n:Nat):o_ (iW n o):=by
 cases o with
 |ret v=>exact JK v n
 |pan v=>simp [iW,o_]
section
variable {P:Program} {ap:AP} {g:bP} {m:aI} {S:aB} {w:World}
def Hm (nid:Nat) (F:AV→AV):h_→h_
 | .ret v=> .ret (jf nid (F v)).1
 | .pan v=> .pan (F v)
theorem yU (p:bi ap g m S w) {rd:bP} (j:∀ b B,rd b=some B→g b=some B) {K:List Nat} (M:∀ b B,rd b=some B→b ∈ K) {nid:Nat} {args args':List AV} {cargs:List Value} {out:h_}
  (ha:f_ (frz rd 6) args=some args') (hv:aX g m S args cargs) {C:List Value→(Ending→World→Prop)→Prop} (hmono:∀ cargs R R',C cargs R→(∀ e w',R e w'→R' e w')→C cargs R')
  (f:∀ m1 S1,gZ S S1→bi ap (aC []) m1 S1 w→aX (aC []) m1 S1 args' cargs→C cargs fun e w'=> ∃ m' S',zO ap [] m1 S1 w out [] m' S' w' e) (hfr:∀ i,i<(iW 0 out).length→g (nid+i)=none):
  C cargs fun e w'=>VY ap g m S w (Hm nid id out) (Df nid (iW 0 out)++K.filterMap fun b=>(rd b).map fun B=>(b,{B with fro:=true,fz:=B.cells.length})) e w':=by
 have W:bu (bY S m rd w) args' cargs:=qV (fun x v y a d=>jr p j 6 x v y a d) ha hv;have t:=j_ S m rd w
 let m0:aI:=fun _=>(0,0)
 have N:bi ap (aC []) m0 (bY S m rd w) w:=by
  refine ⟨fun b b' B B' h=>by simp [aC] at h,fun b B h=>by simp [aC] at h,fun k o v h=>kP p h,fun b B h=>by simp [aC] at h, ?_⟩;intro k xs hk;obtain ⟨vs,a,d⟩:=p.glob k xs hk;exact ⟨vs,a_ t _ a,d.mono t⟩
 refine hmono _ _ _ (f m0 (bY S m rd w) t N (aZ _ W)) ?_
 rintro e w' ⟨m',S',hF⟩
 obtain ⟨z,l,q⟩:=hF;simp only [μ,Xqj] at z l q;generalize G:iW 0 out=bs at z l hfr;have D:o_ bs:=G ▸ zA out 0
 let gN:bP:=bM g (Df nid bs++K.filterMap fun b=>(rd b).map fun B=>(b,{B with fro:=true,fz:=B.cells.length}))
 let mN:aI:=fun b=>if nid≤b∧b - nid<bs.length then m' (b - nid) else m b
 have s:∀ b,gN b=if nid≤b∧b - nid<bs.length then bs[b - nid]? else match rd b with|some B=>some {B with fro:=true,fz:=B.cells.length}|none=>g b:=by
  intro b;show bM g _ b=_;unfold bM;have T:∀ mk:aK→aK,(if b ∈ K then (rd b).map mk else none)=(rd b).map mk:=by
   intro mk;split
   ·rfl
   ·rename_i c;cases r:rd b with
    |none=>rfl
    |some B=>exact absurd (M b B r) c
  rw [fJ,yg,Fq,T];by_cases a:nid≤b
  ·by_cases d:b - nid<bs.length
   ·have f:nid≤b∧b - nid<bs.length:=⟨a,d⟩
    rw [if_pos a,if_pos f,ζ d]
   ·have f:¬ (nid≤b∧b - nid<bs.length):=fun h=>d h.2
    rw [if_pos a,if_neg f,Xxk (Xv3 d)];cases rd b<;>rfl
  ·have f:¬ (nid≤b∧b - nid<bs.length):=fun h=>a h.1
   rw [if_neg a,if_neg f];cases rd b<;>rfl
 have hnidg:∀ b B,g b=some B→¬ (nid≤b∧b - nid<bs.length):=by
  rintro b B c ⟨a,d⟩
  have:=hfr (b - nid) d;rw [show nid+(b - nid)=b by omega,c] at this;cases this
 have Q:Ge g m gN mN:=by
  intro b B c;have hn:=hnidg b B c;have hm:mN b=m b:=if_neg hn;rw [s,if_neg hn];cases r:rd b with
  |none=>exact ⟨B,c,rfl,.inl ⟨rfl,hm⟩⟩
  |some B1=>
   have:=j b B1 r;rw [c] at this;cases this;exact ⟨_,rfl,rfl,.inl ⟨rfl,hm⟩⟩
 have A:∀ i B,bs[i]? =some B→gN (nid+i)=some B∧mN (nid+i)=m' i:=by
  intro i B I;have hl:=(List.getElem?_eq_some_iff.1 I).1;have f:nid≤nid+i∧nid+i - nid<bs.length:=by omega
  refine ⟨by rw [s,if_pos f,show nid+i - nid=i by omega];exact I, ?_⟩;show (if _ then _ else _)=_;rw [if_pos f,show nid+i - nid=i by omega]
 obtain ⟨Y,V⟩:=YU (g:=g) (m:=m) (S:=S) (w:=w) p z l (fun i=>nid+i) (fun i Bc h=>by simp [aC] at h) t
  (fun k o v h=>(eP h).imp id fun ⟨_,b,B,a,d,_⟩=> ⟨b,B,j b B a,d⟩) (gN:=gN) (mN:=mN) (fun i v=>some (nid+i,v))
  (by
   intro b ver b' Z h B hB J;simp only [Option.some.injEq,Prod.mk.injEq] at h;obtain ⟨rfl,rfl⟩:=h;obtain ⟨a,d⟩:=A b B hB;exact ⟨B,a,J,fun e=> ⟨e,d,rfl⟩⟩)
  (by
   intro i Bc I;obtain ⟨a,d⟩:=A i Bc I;exact ⟨Bc,a,d,rfl,rfl,rfl,rfl,fun _=>rfl,fun hp=>by rw [(D Bc (Γ I)).1] at hp;cases hp⟩)
  (by
   intro b B c;by_cases f:nid≤b∧b - nid<bs.length
   ·rw [s,if_pos f] at c;exact .inl ⟨b - nid,B,c,by omega⟩
   ·have hm:mN b=m b:=if_neg f;rw [s,if_neg f] at c;right;cases r:rd b with
    | none=>
     rw [r] at c;have c:g b=some B:=c;refine ⟨B,c,hm,rfl,rfl,rfl,(p.blk b B c).fz0,(p.blk b B c).fzle,(fun i Bc h=>by simp [aC] at h), ?_⟩;intro o v L;rcases eP L with h|⟨_,O,B1,a,d,_⟩
     ·exact p.own b B c o v h
     ·have:=p.inj O b B1 B (j _ _ a) c d;subst this;rw [a] at r;cases r
    | some B1=>
     rw [r] at c;have c:some {B1 with fro:=true,fz:=B1.cells.length}=some B:=c;cases c;have u:=j b B1 r;refine ⟨B1,u,hm,rfl,rfl,rfl,(fun h=>by cases h),ε _,(fun i Bc h=>by simp [aC] at h), ?_⟩;intro o v L;refine ⟨rfl, ?_⟩;rcases eP L with h|⟨_,O,B2,a,d,X⟩
     ·exact Xqd (p.own b B1 u o v h).2 (p.blk b B1 u).fzle
     ·have:=p.inj O b B2 B1 (j _ _ a) u d;subst this;rw [a] at r;cases r;exact X)
  Q
 refine ⟨mN,S',Y,V, ?_⟩;show aaF gN mN S' (Hm nid id out) e;cases out with
 |ret v=>
  obtain ⟨cv,U,a⟩:=q;refine ⟨cv,U, ?_⟩;have F:(jf 0 v).2=bs:=G;simp only [Xqj,μ,F] at a;refine Dz (n:=0) Jh (fun x v E=>d_ x (lJ x E)) ?_ a;intro i k v E;rw [Φ] at E;simp only [VR] at E ⊢;obtain ⟨B,d,X,h4,h5⟩:=E;obtain ⟨h6,h7⟩:=A i B d;exact ⟨B,h6,X,h4,by rw [h7];exact h5⟩
 |pan v=>
  obtain ⟨cv,U,a⟩:=q;exact ⟨cv,U,d_ _ (lJ _ a)⟩
end
end AM
namespace AM
open Go
theorem Jy {b:Nat} {r:List Nat} (h:qc (b::r)=true):b ∉ r∧qc r=true:=by
 simp only [qc,η,Xqk] at h;refine ⟨fun a=> ?_,h.2⟩;rw [gp.2 a] at h;cases h.1
theorem lF:∀ {l:List Nat} {b p:Nat},mO l b=some p→l[p]? =some b
 | [],b,p,h=>by simp [mO] at h
 | c::r,b,p,h=>by
  simp only [mO] at h;split at h
  ·rename_i a;cases h;rw [aF a];rfl
  ·simp only [Xqb] at h;obtain ⟨q,d,rfl⟩:=h;simpa using lF d
theorem kF:∀ {l:List Nat} {b p:Nat},qc l=true→l[p]? =some b→mO l b=some p
 | [],b,p,_,h=>by simp at h
 |c::r,b,0,hn,h=>by simp at h;subst h;simp [mO]
 | c::r,b,p+1,hn,h=>by
  obtain ⟨d,f⟩:=Jy hn;have h:r[p]? =some b:=by simpa using h
  have a:Δ c b=false:=by
   cases e:Δ c b with
   |false=>rfl
   |true=>exact absurd (aF e ▸ Γ h) d
  simp [mO,a,kF f h]
theorem Jq {mk:Nat→aK→aK}:∀ (fp:List Nat) (h':List aK) (b:Nat),ag ((KG fp h').map fun (b,B)=>(b,mk b B)) b=(mO fp b).bind fun p=>(h'[p]?).map (mk b)
 | [],h',b=>by cases h'<;>simp [KG,ag,mO]
 |a::r,[],b=>by
  simp only [KG,List.map_nil,ag,mO];cases Δ a b with
  |true=>rfl
  |false=>cases mO r b<;>rfl
 | a::r,B::q,b=>by
  simp only [KG,χ,ag,mO];cases h:Δ a b with
  |true=>have:=aF h;subst this;rfl
  |false=>
   simp only [Jq r q b];cases mO r b<;>simp
section
variable {P:Program} {ap:AP} {g:bP} {m:aI} {S:aB} {w:World}
def Iq (ρ:Nat→Nat→Option (Nat × Nat)) (B:aK):aK:={B with cells:=(match B.pr with|true=>B.cells|false=>jO ρ B.cells),ver:=0}
theorem ar1 {a b n i:Nat} (h:b≤a):n+(a+i - b)=n+(a - b)+i:=by omega
theorem ar2 {a b i:Nat} (h:b≤a):b+(a+i - b)=a+i:=by omega
theorem We {ρ:Nat→Nat→Option (Nat × Nat)} {l:List aK} (h:o_ l):l.map (zS ρ 0)=l:=by
 induction l with
 |nil=>rfl
 |cons B r ih=>
  rw [χ,ih fun B d=>h B (by simp [d])];obtain ⟨b,_,a⟩:=h B (by simp);obtain ⟨c,v,f,z,e,p⟩:=B;simp only at b a;subst b a;rfl
theorem yV (L:bi ap g m S w) {rd:bP} (hrd:∀ b B,rd b=some B→g b=some B) {a:List Nat} {M:List aK} (hbl:f_ rd a=some M) (E:qc a=true) {nid:Nat} {args:List AV} {cargs:List Value} {out:h_}
  {vers:Nat→Nat} (hvers:∀ b B,rd b=some B→vers b=B.ver) {ρ ρ':Nat→Nat→Option (Nat × Nat)} (hρe:∀ b v,ρ b v=match Δ v (vers b) with|true=>(mO a b).map fun p=>(p,0)|false=>none)
  {h':List aK} (hρe':ρ'=Nc nid a vers h'.length)
  (hv:aX g m S args cargs) {C:List Value→(Ending→World→Prop)→Prop} (hmono:∀ cargs R R',C cargs R→(∀ e w',R e w'→R' e w')→C cargs R')
  (t:∀ m1 S1,gZ S S1→bi ap (aC (M.map (Iq ρ))) m1 S1 w→aX (aC (M.map (Iq ρ))) m1 S1 (jO ρ args) cargs→C cargs fun e w'=> ∃ m' S',zO ap (M.map (Iq ρ)) m1 S1 w out h' m' S' w' e) (hl:a.length≤h'.length) (hfr:∀ i,i<(h'.length - a.length)+(iW h'.length out).length→g (nid+i)=none):
  C cargs fun e w'=>VY ap g m S w (Hm (nid+(h'.length - a.length)) (ren ρ') out) (Df nid ((h'.drop a.length).map (zS ρ' 0)++iW h'.length out)++(KG a h').map fun (b,B)=>(b,zS ρ' (vers b) B)) e w':=by
 have s:∀ p b,a[p]? =some b→∃ B,rd b=some B∧g b=some B∧aC (M.map (Iq ρ)) p=some (Iq ρ B):=by
  intro p b hp;obtain ⟨B,c,d⟩:=(fA hbl).2 p b hp;exact ⟨B,d,hrd b B d,by simp [aC,c]⟩
 have u:∀ p Bc,aC (M.map (Iq ρ)) p=some Bc→∃ b B,a[p]? =some b∧rd b=some B∧g b=some B∧Bc=Iq ρ B:=by
  intro p Bc hp;have z:p<a.length:=by
   have:=(List.getElem?_eq_some_iff.1 hp).1;rw [List.length_map,(fA hbl).1] at this;exact this
  obtain ⟨B,c,d,f⟩:=s p _ (ζ z);rw [f] at hp;cases hp;exact ⟨_,B,ζ z,c,d,rfl⟩
 let mc:aI:=fun p=>m (a.getD p 0)
 have l:∀ p b,a[p]? =some b→mc p=m b:=by
  intro p b hp;show m (a.getD p 0)=_;rw [π,hp];rfl
 have N:mV g m (aC (M.map (Iq ρ))) mc ρ:=by
  intro b ver Y F h B K G;rw [hρe] at h;split at h
  ·rename_i hve;simp only [Xqb,Prod.mk.injEq] at h;obtain ⟨p,hp,rfl,rfl⟩:=h;have hp:=lF hp;obtain ⟨B1,c,d,f⟩:=s p b hp;rw [d] at K;cases K;exact ⟨_,f,Xqp _,fun _=> ⟨by rw [aF hve,hvers b _ c],l p b hp,rfl⟩⟩
  ·cases h
 have hSc:bi ap (aC (M.map (Iq ρ))) mc S w:=by
  refine ⟨?_, ?_,L.sealed, ?_,L.glob⟩
  ·intro p q Bp Bq hp hq e;obtain ⟨b,B,c,d,f,_⟩:=u p Bp hp;obtain ⟨Y,B',h1',h2',h3',_⟩:=u q Bq hq;rw [l p b c,l q Y h1'] at e;have:=L.inj b Y B B' f h3' e;subst this;have W:=kF E c;rw [kF E h1'] at W;cases W;rfl
  ·intro p Bp hp;obtain ⟨b,B,c,d,f,rfl⟩:=u p Bp hp;rw [l p b c];obtain ⟨⟨cur,e,vs,rest,k1,k2,k3,k4,k5,k6⟩,k7,k8⟩:=L.blk b B f;cases hp:B.pr with
   |true=>exact ⟨⟨cur,e,vs,rest,k1,k2,fun _=>by simpa [Iq,hp] using k3 hp,by simpa [Iq,hp] using aZ _ (k3 hp),k5,k6⟩,k7,by simpa [Iq,hp] using k8⟩
   | false=>
    have hv:=iI (gZ.refl S) N _ k4;exact ⟨⟨cur,e,vs,rest,k1,k2,fun h=>by simp [Iq,hp] at h,by simpa [Iq,hp] using hv,k5,k6⟩,k7,by
     have:(Iq ρ B).cells.length=B.cells.length:=by simp only [Iq,hp];rw [aY k4,aY hv]
     rw [this];exact k8⟩
  ·intro p Bp hp o v ho;obtain ⟨b,B,c,d,f,rfl⟩:=u p Bp hp;rw [l p b c] at ho;exact L.own b B f o v ho
 refine hmono _ _ _ (t mc S (gZ.refl S) hSc (iI (gZ.refl S) N _ hv)) ?_
 rintro e w' ⟨m',S',hF⟩
 obtain ⟨hsr,D,Q⟩:=hF;generalize hbs:iW h'.length out=bs0 at hsr D hfr;have hown:o_ bs0:=hbs ▸ zA out h'.length;obtain ⟨bs,J⟩:∃ bs,bs=h'.drop a.length++bs0:=⟨_,rfl⟩
 have hbsl:bs.length=(h'.length - a.length)+bs0.length:=by rw [J,List.length_append,List.length_drop]
 rw [← hbsl] at hfr
 let ups:=(KG a h').map fun (b,B)=>(b,zS ρ' (vers b) B)
 rw [show (h'.drop a.length).map (zS ρ' 0)++bs0=bs.map (zS ρ' 0) by rw [J,List.map_append,We hown]]
 let gN:bP:=bM g (Df nid (bs.map (zS ρ' 0))++ups)
 let mN:aI:=fun b=>if nid≤b∧b - nid<bs.length then m' (a.length+(b - nid)) else match mO a b with|some p=>m' p|none=>m b
 have I:∀ b,gN b=if nid≤b∧b - nid<bs.length then (bs[b - nid]?).map (zS ρ' 0) else match (mO a b).bind fun p=>(h'[p]?).map (zS ρ' (vers b)) with|some B=>some B|none=>g b:=by
  intro b;show bM g _ b=_;unfold bM;rw [fJ,yg,Jq (mk:=fun b B=>zS ρ' (vers b) B)];by_cases c:nid≤b
  ·by_cases d:b - nid<bs.length
   ·have t:nid≤b∧b - nid<bs.length:=⟨c,d⟩
    rw [if_pos c,if_pos t,Ψ,ζ d];rfl
   ·have t:¬ (nid≤b∧b - nid<bs.length):=fun h=>d h.2
    rw [if_pos c,if_neg t,Ψ,Xxk (Xv3 d)];rfl
  ·have t:¬ (nid≤b∧b - nid<bs.length):=fun h=>c h.1
   rw [if_neg c,if_neg t];rfl
 have hnidg:∀ b B,g b=some B→¬ (nid≤b∧b - nid<bs.length):=by
  rintro b B j ⟨c,d⟩
  have:=hfr (b - nid) d;rw [show nid+(b - nid)=b by omega,j] at this;cases this
 have hh':∀ p,p<a.length→∃ B,h'[p]? =some B:=fun p hp=> ⟨_,ζ (by omega)⟩
 have U:∀ p b,a[p]? =some b→∀ Bc,h'[p]? =some Bc→gN b=some (zS ρ' (vers b) Bc)∧mN b=m' p:=by
  intro p b hp Bc K;obtain ⟨B,c,d,f⟩:=s p b hp;have hn:=hnidg b B d;refine ⟨by rw [I,if_neg hn,kF E hp];simp [K], ?_⟩;show (if _ then _ else _)=_;rw [if_neg hn,kF E hp]
 have V:∀ i B,bs[i]? =some B→gN (nid+i)=some (zS ρ' 0 B)∧mN (nid+i)=m' (a.length+i):=by
  intro i B A;have hl:=(List.getElem?_eq_some_iff.1 A).1;have t:nid≤nid+i∧nid+i - nid<bs.length:=by omega
  refine ⟨by rw [I,if_pos t,show nid+i - nid=i by omega,A];rfl, ?_⟩;show (if _ then _ else _)=_;rw [if_pos t,show nid+i - nid=i by omega]
 have T:∀ p,a.length≤p→aC (h'++bs0) p=bs[p - a.length]? :=by
  intro p hp;have he:h'++bs0=h'.take a.length++bs:=by rw [J,← Ξ,List.take_append_drop]
  have z:(h'.take a.length).length=a.length:=by rw [List.length_take];omega
  rw [he,iy (by omega),z];rfl
 have r:∀ p Bc,aC (h'++bs0) p=some Bc→(p<a.length∧h'[p]? =some Bc)∨(a.length≤p∧bs[p - a.length]? =some Bc):=by
  intro p Bc h;by_cases hp:p<a.length
  ·rw [dU (by omega)] at h;exact .inl ⟨hp,h⟩
  ·rw [T p (by omega)] at h;exact .inr ⟨by omega,h⟩
 have hren':mV (aC (h'++bs0)) m' gN mN ρ':=by
  intro p ver Y F h Bc K G;rw [hρe'] at h;unfold Nc at h;split at h
  ·rename_i b hp;cases h;rcases r p Bc K with ⟨c,d⟩|⟨c,_⟩
   ·obtain ⟨f,y⟩:=U p _ hp Bc d;exact ⟨_,f,by simp only [zS];omega,fun e=> ⟨by simp only [zS] at e;omega,y,rfl⟩⟩
   ·have:=(List.getElem?_eq_some_iff.1 hp).1;omega
  ·rename_i hp;split at h
   ·cases h;have hge:=List.getElem?_eq_none_iff.1 hp;rcases r p Bc K with ⟨c,_⟩|⟨c,d⟩
    ·omega
    ·obtain ⟨f,y⟩:=V _ Bc d;exact ⟨_,f,by simp only [zS];omega,fun e=> ⟨by simp only [zS] at e;omega,by rw [y,show a.length+(p - a.length)=p by omega],rfl⟩⟩
   ·cases h
 have hge:Ge g m gN mN:=by
  intro b B j;have hn:=hnidg b B j;cases A:mO a b with
  | none=>
   have hm:mN b=m b:=by
    show (if _ then _ else _)=_;rw [if_neg hn,A]
   refine ⟨B, ?_,rfl,.inl ⟨rfl,hm⟩⟩;rw [I,if_neg hn,A];exact j
  | some p=>
   have hp:=lF A;obtain ⟨B1,c,d,f⟩:=s p b hp;rw [d] at j;cases j;obtain ⟨Bc,y,h5,O⟩:=D.ge p _ f;rcases r p Bc y with ⟨_,X⟩|⟨X,_⟩
   ·obtain ⟨h8,h9⟩:=U p b hp Bc X;refine ⟨_,h8,h5, ?_⟩;rcases O with ⟨O,h6'⟩|O
    ·left;refine ⟨?_,by rw [h9,h6',l p b hp]⟩;simp only [zS,Iq] at O ⊢;rw [hvers b _ c];omega
    ·right;simp only [zS,Iq] at O ⊢;rw [hvers b _ c];omega
   ·have:=(List.getElem?_eq_some_iff.1 hp).1;omega
 let ι:Nat→Nat:=fun p=>if p<a.length then a.getD p 0 else nid+(p - a.length)
 have hι:∀ p b,a[p]? =some b→ι p=b:=by
  intro p b hp;show (if _ then _ else _)=_;rw [if_pos (List.getElem?_eq_some_iff.1 hp).1,π,hp];rfl
 have hι':∀ i,ι (a.length+i)=nid+i:=by
  intro i;show (if _ then _ else _)=_;rw [if_neg (by omega)];congr 1;omega
 obtain ⟨hsN,hfN⟩:=YU (g:=g) (m:=m) (S:=S) (w:=w) L hsr D ι
  (by
   intro p Bc hp;obtain ⟨b,B,c,d,f,rfl⟩:=u p Bc hp;rw [hι p b c];exact ⟨B,f,l p b c⟩) (gZ.refl S) (fun k o v h=> .inl h) (gN:=gN) (mN:=mN) ρ' hren'
  (by
   intro p Bc hp;rcases r p Bc hp with ⟨c,d⟩|⟨c,d⟩
   ·have hp:=ζ c;obtain ⟨f,y⟩:=U p _ hp Bc d;rw [hι p _ hp];exact ⟨_,f,y,rfl,rfl,rfl,rfl,fun h=>by simp [zS,h],fun h=>by simp [zS,h]⟩
   ·obtain ⟨i,rfl⟩:∃ i,p=a.length+i:=⟨p - a.length,by omega⟩
    rw [show a.length+i - a.length=i by omega] at d;obtain ⟨f,y⟩:=V i Bc d;rw [hι' i];exact ⟨_,f,y,rfl,rfl,rfl,rfl,fun h=>by simp [zS,h],fun h=>by simp [zS,h]⟩)
  (by
   intro b B j;by_cases t:nid≤b∧b - nid<bs.length
   ·rw [I,if_pos t,Xqb] at j;obtain ⟨Bc,j,_⟩:=j;refine .inl ⟨a.length+(b - nid),Bc, ?_,by rw [hι'];omega⟩;rw [T _ (by omega),show a.length+(b - nid) - a.length=b - nid by omega];exact j
   ·rw [I,if_neg t] at j;cases A:mO a b with
    |some p=>
     have hp:=lF A;have z:=(List.getElem?_eq_some_iff.1 hp).1;obtain ⟨Bc,y⟩:=hh' p z;exact .inl ⟨p,Bc,by rw [dU (by omega)];exact y,(hι p b hp).symm⟩
    | none=>
     have hm:mN b=m b:=by
      show (if _ then _ else _)=_;rw [if_neg t,A]
     rw [A] at j;have j:g b=some B:=j;refine .inr ⟨B,j,hm,rfl,rfl,rfl,(L.blk b B j).fz0,(L.blk b B j).fzle, ?_,fun o v ho=>L.own b B j o v ho⟩;intro p Bc hp e;obtain ⟨b1,B1,c,_⟩:=u p Bc hp;rw [hι p b1 c] at e;subst e;rw [kF E c] at A;cases A)
  hge
 refine ⟨mN,S',hsN,hfN, ?_⟩;show aaF gN mN S' (Hm (nid+(h'.length - a.length)) (ren ρ') out) e;have hrenh:mV (aC h') m' gN mN ρ':=by
  intro p ver Y F h Bc K G;refine hren' p ver Y F h Bc ?_ G;rw [dU (List.getElem?_eq_some_iff.1 K).1];exact K
 cases out with
 |ret v=>
  obtain ⟨cv,W,c⟩:=Q;refine ⟨cv,W, ?_⟩;have Z:(jf h'.length v).2=bs0:=hbs;rw [Z] at c;refine Dz (n:=h'.length) (Ff ρ') (fun x v hx=>qX (gZ.refl S') hrenh x hx) ?_ c;intro i k v hx;simp only [VR] at hx ⊢;obtain ⟨B,d,f,y,h5⟩:=hx;rw [T _ (Xqh hl (Nat.le_add_right _ _))] at d;obtain ⟨O,X⟩:=V _ B d;rw [ar1 hl] at O X;rw [ar2 hl] at X;exact ⟨_,O,Xqp _,y,fun e=>by rw [X];exact h5 (by simpa [zS] using e)⟩
 |pan v=>
  obtain ⟨cv,W,c⟩:=Q;exact ⟨cv,W,qX (gZ.refl S') hrenh _ c⟩
end
end AM
namespace AM
open Go
section
variable {P:Program} {ap:AP} {H:bI}
theorem wI {o:bP} {nid f:Nat} {args:List AV} {md:AV} {c c':Cx} {r:Q8} (h:ru ap H o nid md f args c= .ok r c'):
  ∃ args0 h0 out0 h0',H c md f args0 h0= .ok (out0,h0',r.md) c'∧((∃ v,out0= .ret v)↔∃ v,r.out= .ret v)∧
  ∀ g m S w cargs (C:List Value→(Ending→World→Prop)→Prop),(∀ cargs R R',C cargs R→(∀ e w',R e w'→R' e w')→C cargs R')→bi ap g m S w→(∀ b ∈ r.fp,∀ B,o b=some B→g b=some B)→(∀ i,i<4→g (nid+i)=none)→aX g m S args cargs→
   (∀ m1 S1,gZ S S1→bi ap (aC h0) m1 S1 w→aX (aC h0) m1 S1 args0 cargs→C cargs fun e w'=> ∃ m' S',zO ap h0 m1 S1 w out0 h0' m' S' w' e)→
   C cargs fun e w'=>VY ap g m S w r.out r.ups e w':=by
 unfold ru at h;simp only at h;generalize D:lM o 6 (fO (bG args))=fp at h
 let rd:bP:=fun b=>match lw fp b with|true=>o b|false=>none
 have a:∀ b B,rd b=some B→b ∈ fp∧o b=some B:=by
  intro b B d;dsimp only [rd] at d;split at d
  ·rename_i hm;exact ⟨gp.1 hm,d⟩
  ·cases d
 split at h
 ·split at h
  ·cases h
  ·rename_i args' z;obtain ⟨⟨out,u,md⟩,E,x,h⟩:=R.bind_ok h;dsimp only at h;split at h
   ·cases h
   ·split at h
    ·rename_i v;split at h
     ·rename_i n;cases h;refine ⟨_,_,_,_,x,⟨fun _=> ⟨_,rfl⟩,fun _=> ⟨_,rfl⟩⟩, ?_⟩;intro g m S w cargs C hmono t k l q s;have j:iW 0 (h_.ret v)=(jf nid v).2:=zC Jh v 0 nid;have:=yU t (rd:=rd) (fun b B d=>k b (a b B d).1 B (a b B d).2) (fun b B d=>(a b B d).1) (nid:=nid) z q hmono s (fun i p=>l i (by rw [j] at p;have:=eG n;omega));rw [j] at this;exact this
     ·cases h
    ·rename_i v;cases h;refine ⟨_,_,_,_,x,⟨(fun ⟨_,h⟩=>by cases h),(fun ⟨_,h⟩=>by cases h)⟩, ?_⟩;intro g m S w cargs C hmono t k l q s;exact yU t (rd:=rd) (fun b B d=>k b (a b B d).1 B (a b B d).2) (fun b B d=>(a b B d).1) (nid:=nid) z q hmono s (fun i p=>by simp [iW] at p)
 ·split at h
  ·cases h
  ·rename_i F y;obtain ⟨⟨out,u,md⟩,E,x,h⟩:=R.bind_ok h;dsimp only at h;split at h
   ·cases h
   ·rename_i hcond;simp only [η] at hcond;have A:=eG hcond.1
    let vers:Nat→Nat:=fun b=>match rd b with|some B=>B.ver|none=>0
    have hvers':∀ b B,rd b=some B→vers b=B.ver:=by
     intro b B d;simp only [vers,d]
    let ρ':Nat→Nat→Option (Nat × Nat):=Nc nid fp vers u.length
    split at h
    ·rename_i v;split at h
     ·rename_i n;cases h;refine ⟨_,_,_,_,x,⟨fun _=> ⟨_,rfl⟩,fun _=> ⟨_,rfl⟩⟩, ?_⟩;intro g m S w cargs C hmono t k l q s;have j:iW u.length (h_.ret v)=(jf (nid+(u.length - fp.length)) (ren ρ' v)).2:=(zC (Ff ρ') v (nid+(u.length - fp.length)) u.length).symm;have:=yV t (rd:=rd) (fun b B d=>k b (a b B d).1 B (a b B d).2) y hcond.2 (nid:=nid) hvers' (ρ':=ρ') (fun b v=>rfl) rfl q hmono s A (fun i p=>l i (by rw [j] at p;exact Xqd p (eG n)));rw [j] at this;exact this
     ·cases h
    ·rename_i v;split at h
     ·rename_i n;cases h;refine ⟨_,_,_,_,x,⟨(fun ⟨_,h⟩=>by cases h),(fun ⟨_,h⟩=>by cases h)⟩, ?_⟩;intro g m S w cargs C hmono t k l q s;exact yV t (rd:=rd) (fun b B d=>k b (a b B d).1 B (a b B d).2) y hcond.2 (nid:=nid) hvers' (ρ':=ρ') (fun b v=>rfl) rfl q hmono s A (fun i p=>l i (by simp only [iW,Xqj,Xqt] at p;exact Xqd p (eG n)))
     ·cases h
theorem Ba (t:gY P ap H) {a:bP} {nid f:Nat} {args:List AV} {c c':Cx} {r:Q8} (h:ru ap H a nid .dead f args c= .ok r c') (v:c'.Ok):
  c.Ok∧qR P f∧∀ g m S w cargs,bi ap g m S w→(∀ b ∈ r.fp,∀ B,a b=some B→g b=some B)→(∀ i,i<4→g (nid+i)=none)→aX g m S args cargs→
   Calls P f cargs.toArray w fun e w'=>VY ap g m S w r.out r.ups e w':=by
 obtain ⟨args0,h0,p,x,u,_,y⟩:=wI h;obtain ⟨d,o⟩:=t _ _ _ _ _ _ _ _ u v;refine ⟨d,o.ent,fun g m S w cargs z k l q=> ?_⟩;exact y g m S w cargs (fun cargs R=>Calls P f cargs.toArray w R) (fun _ _ _ j n=>j.mono n) z k l q fun s S1 _ j n=>o.calls s S1 w cargs j n
end
end AM
namespace AM
open Go
def qC (dec:List (Nat × Bool)) (env:dE):Prop:=∀ t b,ag dec t=some b→env.get t= .bool b
def dW (g:bP) (m:aI) (S:aB):List (Nat × List AV)→List Deferred→Prop
 | [],[]=>True
 |d::r,cd::cr=>(∃ cap,cd.target= .fn (.func d.1) cap∧aX g m S d.2 (cd.args++cap).toList)∧dW g m S r cr
 |_,_=>False
theorem sJ {g g':bP} {m c:aI} {S S':aB} (b:gZ S S') (e:Ge g m g' c):∀ {l:List (Nat × List AV)} {ds:List Deferred},dW g m S l ds→dW g' c S' l ds
 | [],[],_=>by simp only [dW]
 |d::r,cd::cr,h=>by
  simp only [dW] at h ⊢;obtain ⟨⟨a,i,j⟩,f⟩:=h;exact ⟨⟨a,i,iQ b e _ j⟩,sJ b e f⟩
 | [],_::_,h=>by simp [dW] at h
 |_::_,[],h=>by simp [dW] at h
theorem yN {g:bP} {m:aI} {S:aB}:∀ {l l':List (Nat × List AV)} {ds ds':List Deferred},dW g m S l ds→dW g m S l' ds'→dW g m S (l++l') (ds++ds')
 | [],_,[],_,_,h'=>by simpa using h'
 |d::r,_,cd::cr,_,h,h'=>by
  simp only [dW] at h;simp only [List.cons_append,dW];exact ⟨h.1,yN h.2 h'⟩
 | [],_,_::_,_,h,_=>by simp [dW] at h
 |_::_,_,[],_,h,_=>by simp [dW] at h
def Yf (P:Program) (ops:Array Oper) (Q:Exit→Act→World→Prop) (o:Oper) (K:Act→World→Prop) (a:Act) (w:World):Prop:=
 if Region.wanted o (yielded ops a.tmps) then o.wp P a w K Q∨(o.asks P a w∧LetsOut Q) else K (a.put o.dst undef) w
def Yg (ap:AP) (o:Oper) (g:bP) (m:aI) (S:aB) (w:World) (a:Act) (v:AV) (ups:List (Nat × aK)) (df:List (Nat × List AV)) (Q:Exit→Act→World→Prop) (K:Act→World→Prop):Option AV→Prop
 |none=> ∀ cv m' S' w' ds,bi ap (bM g ups) m' S' w'→Fr g m S w (bM g ups) m' S' w'→VR (bM g ups) m' S' v cv→dW (bM g ups) m' S' df ds→K ({a with defers:=ds++a.defers}.put o.dst cv) w'
 |some pv=> ∀ cv m' S' w',bi ap (bM g ups) m' S' w'→Fr g m S w (bM g ups) m' S' w'→VR (bM g ups) m' S' pv cv→Q (.panic [{v:=cv,recovered:=false}]) a w'
def Gg (P:Program) (ap:AP) (ops:Array Oper) (o:Oper) (nid:Nat) (env:dE) (hp:Hp) (rt rb:List Nat) (v:AV) (ups:List (Nat × aK)) (df:List (Nat × List AV)) (p:Option AV):Prop:=
 ∀ g m S w (a:Act),bi ap g m S w→(∀ t ∈ rt,VR g m S (env.get t) (a.tmps.getD t undef))→(∀ b ∈ rb,∀ B,ag hp b=some B→g b=some B)→(∀ i,i<4→g (nid+i)=none)→
  ∀ (Q:Exit→Act→World→Prop) (K:Act→World→Prop),Yg ap o g m S w a v ups df Q K p→Yf P ops Q o K a w
structure Ym (P:Program) (ap:AP) (ops:Array Oper) (o:Oper) (nid:Nat) (s s':RS) (p:Option AV) (v:AV) (rt rb:List Nat) (ups:List (Nat × aK)) (df:List (Nat × List AV)):Prop where
 env:p=none→s'.env=nY s.env o.dst v
 envp:p ≠ none→s'.env=s.env∧df= []
 hp:s'.hp=ups++s.hp
 md:s'.md=s.md
 dfs:s'.dfs=df++s.dfs
 dec:p=none→qC s'.dec s'.env
 feet:p=none→s'.feet={rt,wt:=GH o,rb,wb:=ups.map (·.1)}::s.feet
 sem:Gg P ap ops o nid s.env s.hp rt rb v ups df p
section
variable {P:Program} {ap:AP} {H:bI}
theorem Sm (e:Array Value) (t:Nat) {v:Value} (h:e.getD t undef=v) (b:v ≠ undef):e[t]? =some v:=by
 rw [Array.getD_eq_getD_getElem?] at h;cases a:e[t]? with
 |none=>rw [a] at h;exact absurd h.symm b
 |some u=>rw [a] at h;simpa using h
theorem Eh {ops:Array Oper} {tmps:Array Value} {j s:Nat} (hs:(ops[j]?).bind (·.dst)=some s) {b:Bool} (h:tmps.getD s undef= .bool b):yielded ops tmps j=some b:=by
 unfold yielded;rw [hs];simp only [Xjx];rw [Sm tmps s h (by simp [undef])]
theorem Io {ops:Array Oper} {tmps:Array Value} {j s:Nat} (hs:(ops[j]?).bind (·.dst)=some s) (h:tmps.getD s undef= .tuple #[]):yielded ops tmps j=none:=by
 unfold yielded;rw [hs];simp only [Xjx];rw [Array.getD_eq_getD_getElem?] at h;cases a:tmps[s]? with
 |none=>rfl
 |some u=>
  rw [a] at h;simp at h;rw [h]
theorem vI {g:bP} {m:aI} {S:aB} {w:World} (e:bi ap g m S w) {env:dE} {a:Act} (x:Operand) (h:∀ t,x= .tmp t→VR g m S (env.get t) (a.tmps.getD t undef)):VR g m S (qG ap env x) (a.eval x):=by
 cases x with
 |tmp t=>exact h t rfl
 |const v=>exact d_ _ (Iz S v)
 | global k=>
  simp only [qG,Act.eval];cases c:(ap.gl[k]?).join with
  |none=>simp only [VR]
  |some xs=>
   obtain ⟨vs,b,d⟩:=e.glob k xs c;simp only [VR,PR];exact ⟨k,0,vs,rfl,b,d⟩
 |func f=>
  simp only [qG,Act.eval,VR];exact ⟨[],[],rfl,by simp [aX],by simp [aX]⟩
theorem CW {l:List Operand} {t:Nat} (h:Operand.tmp t ∈ l):t ∈ mF l:=by
 simp only [mF,List.mem_filterMap];exact ⟨_,h,rfl⟩
theorem GR {ops:List Oper} {env:dE} {dec e:List (Nat × Bool)} {o:Oper} {c c':Cx} {run:Bool} (h:Ls ops env dec o c= .ok (run,e) c') (q:c'.Ok):
  c.Ok∧(qC dec env→qC e env∧(∀ t b,ag dec t=some b→ag e t=some b)∧∀ g m S (a:Act),(∀ t ∈ fF ops o,VR g m S (env.get t) (a.tmps.getD t undef))→Region.wanted o (yielded ops.toArray a.tmps)=run):=by
 unfold Ls at h;unfold fF;unfold Region.wanted;split at h
 ·rename_i A;cases h;simp only [A];exact ⟨q,fun k=> ⟨k,fun _ _ h=>h,fun _ _ _ _ _=>trivial⟩⟩
 ·rename_i j i A;simp only [A];split at h
  ·cases h
  ·rename_i s hs;have l:(ops.toArray[j]?).bind (·.dst)=some s:=by simpa using hs
   split at h
   ·rename_i b n;cases h;refine ⟨q,fun k=> ⟨k,fun _ _ h=>h,fun g m S a p=> ?_⟩⟩;have d:=p s (by simp);rw [k s b n] at d;simp only [VR,PR] at d;rw [Eh l d];cases i<;>cases b<;>rfl
   ·rename_i B;split at h
    ·rename_i b n;obtain ⟨C,D,d,y⟩:=R.bind_ok h;cases y;obtain ⟨z,rfl⟩:=jV d q;refine ⟨z,fun k=> ⟨?_, ?_,fun g m S a p=> ?_⟩⟩
     ·intro t x f;simp only [ag] at f;split at f
      ·rename_i u;cases f;rw [← aF u,n]
      ·exact k t x f
     ·intro t x f;simp only [ag];split
      ·rename_i u;rw [aF u] at B;rw [B] at f;cases f
      ·exact f
     ·have d:=p s (by simp);rw [n] at d;simp only [VR,PR] at d;rw [Eh l d];cases i<;>cases C<;>rfl
    ·rename_i n;cases h;refine ⟨q,fun k=> ⟨k,fun _ _ h=>h,fun g m S a p=> ?_⟩⟩;have d:=p s (by simp);rw [n] at d;simp only [VR] at d;obtain ⟨vs,d,y⟩:=d;cases vs with
     |nil=>rw [Io l d];rfl
     |cons v r=>simp [aX] at y
    ·cases h
theorem I5 {env:dE} {o:Oper} {v:AV} {t:Nat} (h:∀ d,o.dst=some d→d ≠ t):(nY env o.dst v).get t=env.get t:=by
 unfold nY;split
 ·rename_i d b;simp only [dE.get,ag];split
  ·rename_i a;exact absurd (aF a) (h d b)
  ·rfl
 ·rfl
theorem wL {dec:List (Nat × Bool)} {env:dE} {o:Oper} {v:AV} (e:qC dec env) (a:Nz dec o=true):qC dec (nY env o.dst v):=by
 intro t b c;rw [I5]
 ·exact e t b c
 ·rintro d hdd rfl
  unfold Nz at a;rw [hdd] at a;simp [c] at a
end
end AM
namespace AM
open Go
section
variable {P:Program} {ap:AP} {H:bI}
theorem S_ {c:Cx} {dst:Option Nat} {v:AV} (h:(BV c dst v).2.Ok):c.Ok∧bF v (BV c dst v).1:=by
 obtain ⟨cl,orc,bs,ps,ans,hs⟩:=c;unfold BV at h ⊢;dsimp only at h ⊢;split at h
 ·rename_i d x r f;split at h
  ·rename_i a;have e:bF v x:=h.ps _ (Xqs ..);refine ⟨⟨h.bs,fun p hp=>h.ps p (Xql _ hp)⟩, ?_⟩;simp only [a];exact e
  ·rename_i a;refine ⟨h, ?_⟩;simp only [a];exact fun _ _ _ _ b=>b
 ·rename_i i;exact ⟨h,fun _ _ _ _ b=>b⟩
theorem S9 {c:Cx} {dst:Option Nat} (h:(NT c dst).2.Ok):c.Ok:=by
 obtain ⟨cl,orc,bs,ps,ans,hs⟩:=c;unfold NT at h;dsimp only at h;split at h
 ·split at h
  ·exact ⟨h.bs,h.ps⟩
  ·exact h
 ·exact h
theorem SV {c:Cx} {dst:Option Nat} {ups:List (Nat × aK)} (h:(BU c dst ups).2.Ok):c.Ok∧(BU c dst ups).1=ups:=by
 obtain ⟨cl,orc,bs,ps,ans,hs⟩:=c;unfold BU at h ⊢;dsimp only at h ⊢;split at h
 ·rename_i d f r i b B;split at h
  ·rename_i a;have e:B.cells=f:=h.ps _ (Xqs ..);refine ⟨⟨h.bs,fun p hp=>h.ps p (Xql _ hp)⟩, ?_⟩;simp only [a,← e]
  ·rename_i a;refine ⟨h, ?_⟩;simp only [a]
 ·rename_i j;exact ⟨h,rfl⟩
theorem SY {nid:Nat} {c:Cx} {dst:Option Nat} {v:AV} {ups:List (Nat × aK)} (h:(wW nid c dst v ups).2.2.Ok):c.Ok∧(((wW nid c dst v ups).1=v∧(wW nid c dst v ups).2.1=ups)∨
  ∃ n B,v= .ref nid B.ver 0 n∧ups= [(nid,B)]∧B.pr=true∧B.fro=false∧B.cells.length=n*B.esz∧0<n∧(wW nid c dst v ups).1= .sl B.cells n true∧(wW nid c dst v ups).2.1= [(nid,{B with fro:=true,fz:=B.cells.length})]):=by
 obtain ⟨cl,orc,bs,ps,ans,hs⟩:=c;unfold wW at h ⊢;dsimp only at h ⊢;split at h
 ·rename_i d r q b ver n s B;split at h
  ·rename_i a;refine ⟨⟨h.bs,h.ps⟩,.inr ?_⟩;simp only [η,Xqk] at a;obtain ⟨_,⟨⟨⟨⟨⟨j,f⟩,i⟩,l⟩,p⟩,k⟩,o⟩:=a;have j:=Xqq j;have f:=Xqq f;have i:=Xqq i;have k:=Xqq k;subst j f i;exact ⟨n,B,rfl,rfl,l,p,k,Nat.pos_of_ne_zero fun e=>by subst e;simp at o,rfl,rfl⟩
  ·rename_i a;refine ⟨h,.inl ?_⟩;simp [a]
 ·exact ⟨h,.inl ⟨rfl,rfl⟩⟩
theorem fQ.shut {g:bP} {m:aI} {S:aB} {w:World} {s:Sem Next} {b n:Nat} {B:aK} (Y:g b=none) (W:B.pr=true) (K:B.fro=false) (hn:B.cells.length=n*B.esz) (h0:0<n) (h:fQ P ap g m S w s (.ref b B.ver 0 n) [(b,B)]):
  ∃ I c S' w',s.run P w= .ok I w'∧bi ap (bM g [(b,{B with fro:=true,fz:=B.cells.length})]) c S' w'∧Fr g m S w (bM g [(b,{B with fro:=true,fz:=B.cells.length})]) c S' w'∧((∃ cv,I= .value cv∧VR (bM g [(b,{B with fro:=true,fz:=B.cells.length})]) c S' (.sl B.cells n true) cv)∨(I= .skip∧AV.ref b B.ver 0 n= .dead)):=by
 obtain ⟨I,c,w',L,t,l,p⟩:=h;have r:bM g [(b,B)] b=some B:=by simp [bM,ag]
 have G:∀ x,x ≠ b→∀ C:aK,bM g [(b,C)] x=g x:=fun x a C=>by
  have:Δ b x=false:=by rw [Bool.eq_false_iff];exact fun e=>a (Xqq e).symm
  simp [bM,ag,this]
 have J:bM g [(b,{B with fro:=true,fz:=B.cells.length})] b=some {B with fro:=true,fz:=B.cells.length}:=by simp [bM,ag]
 have upd:∀ x C,bM g [(b,{B with fro:=true,fz:=B.cells.length})] x=some C→(x=b∧C={B with fro:=true,fz:=B.cells.length})∨(x ≠ b∧bM g [(b,B)] x=some C):=fun x C a=>by
  by_cases e:x=b
  ·subst e;rw [J] at a;cases a;exact .inl ⟨rfl,rfl⟩
  ·rw [G x e] at a;exact .inr ⟨e,by rw [G x e];exact a⟩
 have fresh:w.heap.size≤(c b).1:=by
  rcases l.img b B r with e|⟨B0,e,_⟩
  ·exact e
  ·rw [Y] at e;cases e
 have V:∀ o,S (c b).1 o=none:=fun o=>by
  cases hs:S (c b).1 o with
  |none=>rfl
  |some v=>have:=(t.own b B r o v hs).1;rw [K] at this;cases this
 obtain ⟨⟨cur,e,vs,rest,r1,r2,N,r4,Q,r6⟩,_,_⟩:=t.blk b B r;have N:=N W;have U:=jU N
 let S':aB:=fun k o=>if k=(c b).1 then vs[o]? else S k o
 have d:gZ S S':=fun k o v F=>by
  show (if k=(c b).1 then vs[o]? else S k o)=some v;split
  ·rename_i e;subst e;rw [V] at F;cases F
  ·exact F
 have M:Ge (bM g [(b,B)]) c (bM g [(b,{B with fro:=true,fz:=B.cells.length})]) c:=fun x C a=>by
  by_cases e:x=b
  ·subst e;rw [r] at a;cases a;exact ⟨_,J,rfl,.inl ⟨rfl,rfl⟩⟩
  ·rw [G x e] at a;exact ⟨C,by rw [G x e];exact a,rfl,.inl ⟨rfl,rfl⟩⟩
 have R:0<B.esz∧B.esz ≠ dP:=by
  rcases p with ⟨cv,_,p⟩|⟨_,e⟩
  ·simp only [VR] at p;obtain ⟨B1,A,_,_,p⟩:=p;rw [r] at A;cases A;obtain ⟨_,_,_,_,Z,X⟩:=p rfl;exact ⟨Z,X⟩
  ·cases e
 have hcell:∀ o v,vs[o]? =some v→bZ w' (c b).1 o=some v:=fun o v i=>by
  refine pG ?_ (Q R.2 v (Γ i));rw [jD (r1.cells R.2),r2,Xqa (List.getElem?_eq_some_iff.1 i).1];exact i
 refine ⟨I,c,S',w',L,⟨fun x y C D a hy T=> ?_,fun x C a=> ?_,fun k o v F=> ?_,fun x C a o v i=> ?_,fun q xs hq=> ?_⟩,⟨fun x C a=> ?_,l.sle.trans d,l.os,l.tape,l.output,l.size,l.rest,fun x C a=> ?_,fun k o v F=> ?_,fun x C a=> ?_⟩, ?_⟩
 ·have z:∃ C',bM g [(b,B)] x=some C':=by
   rcases upd x C a with ⟨e,_⟩|⟨_,e⟩
   ·exact ⟨B,by rw [e];exact r⟩
   ·exact ⟨C,e⟩
  have E:∃ C',bM g [(b,B)] y=some C':=by
   rcases upd y D hy with ⟨e,_⟩|⟨_,e⟩
   ·exact ⟨B,by rw [e];exact r⟩
   ·exact ⟨D,e⟩
  obtain ⟨_,z⟩:=z;obtain ⟨_,E⟩:=E;exact t.inj x y _ _ z E T
 ·rcases upd x C a with ⟨rfl,rfl⟩|⟨_,e⟩
  ·exact ⟨⟨cur,e,vs,rest,r1,r2,fun _=>a_ d _ N,iQ d M _ r4,Q,r6⟩,fun h=>(by cases h),ε _⟩
  ·exact (t.blk x C e).mono d M rfl
 ·have f:(if k=(c b).1 then vs[o]? else S k o)=some v:=F;by_cases e:k=(c b).1
  ·rw [if_pos e] at f;rw [e];exact hcell o v f
  ·rw [if_neg e] at f;exact t.sealed k o v f
 ·have i:(if (c x).1=(c b).1 then vs[o]? else S (c x).1 o)=some v:=i;rcases upd x C a with ⟨rfl,rfl⟩|⟨O,e⟩
  ·rw [if_pos rfl] at i;exact ⟨rfl,by show o<B.cells.length;rw [U];exact (List.getElem?_eq_some_iff.1 i).1⟩
  ·rw [if_neg fun A=>O (t.inj x b _ _ e r A)] at i;exact t.own x C e o v i
 ·obtain ⟨us,k1,k2⟩:=t.glob q xs hq;exact ⟨us,a_ d _ k1,k2.mono d⟩
 ·obtain ⟨C',z,E⟩:=l.ge x C a;have O:x ≠ b:=fun e=>by subst e;rw [Y] at a;cases a
  exact ⟨C',by rw [G x O];rw [G x O] at z;exact z,E⟩
 ·rcases upd x C a with ⟨rfl,rfl⟩|⟨_,e⟩
  ·exact .inl fresh
  ·exact l.img x C e
 ·have f:(if k=(c b).1 then vs[o]? else S k o)=some v:=F;by_cases e:k=(c b).1
  ·rw [e];exact .inr (.inl fresh)
  ·rw [if_neg e] at f;exact l.sealN k o v f
 ·rcases upd x C a with ⟨rfl,rfl⟩|⟨_,e⟩
  ·exact l.mw x B r
  ·exact l.mw x C e
 ·rcases p with ⟨cv,z,p⟩|⟨_,e⟩
  ·refine .inl ⟨cv,z, ?_⟩;simp only [VR] at p;obtain ⟨B1,A,_,_,p⟩:=p;rw [r] at A;cases A;obtain ⟨o,E,Z,X,_⟩:=p rfl;have i:=X (by omega);simp only [VR,PR];refine ⟨_,_,E,by omega,.inr ⟨_,_,vs,rfl,a_ d _ N,fun j u hj=> ⟨?_,Q R.2 u (Γ hj)⟩⟩⟩;show (if (c b).1=(c b).1 then vs[o+j]? else S (c b).1 (o+j))=some u;rw [if_pos rfl,i];simpa using hj
  ·cases e
theorem zF {a:Act} {g:Operand} {args:Array Operand} {argTypes:Array TypeId} {ty:TypeId} {f:Nat} {first b:Array Value} (h:a.eval g= .func (.func f) first b) (w:World):
  (resolve a.eval {callee:= .value g,args,argTypes} ty).run P w= .ok {target:= .fn (.func f) b,args:=first++args.map a.eval} w:=by
 simp only [resolve,h,Deferred.ofValue];rfl
theorem EF {a:Act} {g:Operand} {args:Array Operand} {argTypes:Array TypeId} {ty:TypeId} {f:Nat} {first b:Array Value} (h:a.eval g= .func (.func f) first b) (c:qR P f) (w:World):
  (do let d ← resolve a.eval {callee:= .value g,args,argTypes} ty;invoke d.target d.args:Sem Next).run P w= .ok (.enter f ((first++args.map a.eval)++b)) w:=by
 rw [Sem.run_bind,zF h,Result.andThen_ok];exact c _ _
theorem AY {g:bP} {m:aI} {S:aB} {ρ:Operand→AV} {cρ:Operand→Value} {args:Array Operand} (h:∀ o ∈ args,VR g m S (ρ o) (cρ o)):aX g m S (args.toList.map ρ) (args.map cρ).toList:=by
 rw [Array.toList_map];exact sK _ fun o a=>h o (by simpa using a)
theorem yh:∀ {l:Hp} {b:Nat} {B:aK},ag l b=some B→(b,B) ∈ l
 | [],_,_,h=>by cases h
 | (k,X)::r,b,B,h=>by
  simp only [ag] at h;split at h
  ·rename_i a;cases h;have:=aF a;subst this;exact Xqs ..
  ·exact Xql _ (yh h)
theorem CS {α β:Type} {f g:α→β}:∀ {l:List α},l.map f=l.map g→∀ {x:α},x ∈ l→f x=g x
 | [],_,_,h=>by cases h
 |a::r,h,x,hx=>by
  simp only [χ,List.cons.injEq] at h;rcases List.mem_cons.1 hx with rfl|hx
  ·exact h.1
  ·exact CS h.2 hx
theorem MK {t:Nat} {b:String} {f:Nat} (l:dF P ap) (h:ap.mtAt t b=some f) (v:Value) (n:Nat) (w:World):(method (n+1) t v b).run P w= .ok (f,v) w:=by
 unfold AP.mtAt at h;obtain ⟨q,r,rfl⟩:=Option.map_eq_some_iff.1 h;have p:=List.find?_some r;have a:=List.all_eq_true.1 l.mt _ (List.mem_of_find?_eq_some r);simp only [η,beq_iff_eq] at p;obtain ⟨c,u⟩:=p;have c:=aF c;subst c;subst u;unfold mtB at a;split at a
 ·rename_i i s;split at a
  ·rename_i m hm;rw [η] at a;obtain ⟨hp,a⟩:=a;have hpath:m.path.toList= []:=by simpa using hp
   unfold method;rw [Sem.run_bind,run_typeInfo w s,Result.andThen_ok];simp only [hm,hpath,follow];split at a
   ·rename_i f e o j;have:=aF a;subst this;simp [o,receiverAt,run_underlying j w,Place.get]
   ·cases a
   ·rename_i f d k o j;have:=aF a;subst this;cases d<;>first|exact (k _ rfl).elim|simp [o,receiverAt,run_underlying j w,Place.get]
   ·cases a
  ·cases a
 ·cases a
theorem DT {a:Act} {g:Operand} {b:String} {args:Array Operand} {argTypes:Array TypeId} {ty:TypeId} {t f:Nat} {cv:Value} (c:dF P ap) (e:ap.mtAt t b=some f) (h:a.eval g= .iface t cv) (j:qR P f) (w:World):
  (do let d ← resolve a.eval {callee:= .invoke g b,args,argTypes} ty;invoke d.target d.args:Sem Next).run P w= .ok (.enter f (cv::(args.map a.eval).toList).toArray) w:=by
 have hm:(method (P.types.size+Made.depth) t cv b).run P w= .ok (f,cv) w:=MK c e cv (P.types.size+Made.depth - 1) w;have h0:(#[Value.iface t cv]++args.map a.eval)[0]? =some (.iface t cv):=by rw [Array.getElem?_append_left (by simp)];rfl
 simp only [resolve,h,Sem.run_bind,Sem.run_pure,Result.andThen_ok,invoke,h0,callMethod];have i:#[cv]++(#[Value.iface t cv]++args.map a.eval).extract 1 (#[Value.iface t cv]++args.map a.eval).size=(cv::(args.map a.eval).toList).toArray:=by
  apply Array.toList_inj.1;simp;exact List.take_of_length_le (by simp)
 rw [show (program.run P w)= .ok P w from rfl,Result.andThen_ok,hm,Result.andThen_ok,i];exact j _ _
theorem wJ (V:gY P ap H) {nid:Nat} {ops:List Oper} {o:Oper} {s s':RS} {dec:List (Nat × Bool)} {f:Nat} {T:List AV} {p:Option AV} {U c':Cx} (h:Gq ap H nid o s (mF o.op.operands.toList++fF ops o) dec f T U= .ok (s',p) c') (E:c'.Ok) (n:Nz dec o=true)
  (hex:qR P f→∀ {g:bP} {m:aI} {S:aB} {w:World} {a:Act},bi ap g m S w→(∀ t ∈ mF o.op.operands.toList++fF ops o,VR g m S (s.env.get t) (a.tmps.getD t undef))→∃ cargs:List Value,(execOp a.eval o).run P w= .ok (.enter f cargs.toArray) w∧aX g m S T cargs):
  U.Ok∧(s.md= .dead→qC dec s.env→(∀ (Q:Exit→Act→World→Prop) (K:Act→World→Prop) (g:bP) (m:aI) (S:aB) (a:Act) (w:World),(∀ t ∈ mF o.op.operands.toList++fF ops o,VR g m S (s.env.get t) (a.tmps.getD t undef))→o.wp P a w K Q→Yf P ops.toArray Q o K a w)→
   ∃ v rb ups df,Ym P ap ops.toArray o nid s s' p v (mF o.op.operands.toList++fF ops o) rb ups df):=by
 unfold Gq at h;obtain ⟨r,N,X,h⟩:=R.bind_ok h;have G:N.Ok:=by
  revert h
  cases L:NT N o.dst with
  | mk u M=>
   have j:M.Ok→N.Ok:=fun Y=>S9 (by rw [L];exact Y)
   cases u with
   | true=>
    dsimp only;cases r.out with
    |ret v=>
     dsimp only;split
     ·intro h;cases h;exact j ⟨E.bs,fun p hp=>E.ps p (Xql _ hp)⟩
     ·intro h;cases h
    |pan v=>intro h;cases h
   |false=>dsimp only;cases r.out<;>intro h<;>cases h<;>exact j E
 obtain ⟨F,I,hcall⟩:=Ba V X G;refine ⟨F,fun W C hwant=> ?_⟩;split at h
 ·rename_i M L;split at h
  ·rename_i v c;split at h
   ·rename_i D;cases h;have O:r.ups.map (fun (q:Nat × aK)=>some q.2)=r.ups.map (fun (q:Nat × aK)=>ag s.hp q.1):=E.ps _ (Xqs ..);refine ⟨v,r.fp,[],[],⟨fun _=>rfl,fun h=>absurd rfl h,rfl,rfl,rfl,fun _=>wL C n,fun _=>rfl, ?_⟩⟩;intro g m S w a l k d i Q K A;have J:bM g r.ups=g:=by
     funext b;unfold bM;cases Z:ag r.ups b with
     |none=>rfl
     |some B=>
      have hm:=yh Z;have x:=CS O hm;exact (d b (gp.1 (List.all_eq_true.1 D _ hm)) B x.symm).symm
    refine hwant Q K g m S a w k ?_;obtain ⟨cargs,x,z⟩:=hex I l k;unfold Oper.wp;rw [x];refine (hcall g m S w _ l d i z).mono ?_
    rintro e w' ⟨m',S',j,h4,h5⟩
    rw [c] at h5;obtain ⟨cv,rfl,y⟩:=h5;rw [J] at j h4 y;exact A cv m' S' w' [] j h4 y (by simp [dW])
   ·cases h
  ·cases h
 ·rename_i M L;split at h
  ·rename_i v c;cases h;refine ⟨v,r.fp,r.ups,[],⟨fun _=>rfl,fun h=>absurd rfl h,rfl,rfl,rfl,fun _=>wL C n,fun _=>rfl, ?_⟩⟩;intro g m S w a l k d i Q K A;refine hwant Q K g m S a w k ?_;obtain ⟨cargs,x,z⟩:=hex I l k;unfold Oper.wp;rw [x];refine (hcall g m S w _ l d i z).mono ?_
   rintro e w' ⟨m',S',j,h4,h5⟩
   rw [c] at h5;obtain ⟨cv,rfl,y⟩:=h5;exact A cv m' S' w' [] j h4 y (by simp [dW])
  ·rename_i v c;cases h;refine ⟨v,r.fp,r.ups,[],⟨fun h=>(by cases h),fun _=> ⟨rfl,rfl⟩,rfl,rfl,rfl,fun h=>(by cases h),fun h=>(by cases h), ?_⟩⟩;intro g m S w a l k d i Q K A;refine hwant Q K g m S a w k ?_;obtain ⟨cargs,x,z⟩:=hex I l k;unfold Oper.wp;rw [x];refine (hcall g m S w _ l d i z).mono ?_
   rintro e w' ⟨m',S',j,h4,h5⟩
   rw [c] at h5;obtain ⟨cv,rfl,y⟩:=h5;exact A cv m' S' w' j h4 y
theorem qp (hap:dF P ap) (hH:gY P ap H) {nid:Nat} {ops:List Oper} {o:Oper} {s s':RS} {p:Option AV} {c c':Cx} (h:Ky ap H nid ops o s c= .ok (s',p) c') (O:c'.Ok):
  c.Ok∧(s.md= .dead→qC s.dec s.env→∃ v rb ups df,Ym P ap ops.toArray o nid s s' p v (mF o.op.operands.toList++fF ops o) rb ups df):=by
 unfold Ky at h;obtain ⟨⟨run,dec⟩,c1,e1,h⟩:=R.bind_ok h;dsimp only at h;split at h
 ·cases h
 rename_i z;have hguard:∀ c1ok:c1.Ok,c.Ok∧(qC s.dec s.env→qC dec s.env∧(∀ t b,ag s.dec t=some b→ag dec t=some b)∧∀ g m S (a:Act),(∀ t ∈ fF ops o,VR g m S (s.env.get t) (a.tmps.getD t undef))→Region.wanted o (yielded ops.toArray a.tmps)=run):=fun hk=>GR e1 hk
 have r:∀ {g:bP} {m:aI} {S:aB} {w:World} {a:Act},bi ap g m S w→(∀ t ∈ mF o.op.operands.toList++fF ops o,VR g m S (s.env.get t) (a.tmps.getD t undef))→∀ x ∈ o.op.operands,VR g m S (qG ap s.env x) (a.eval x):=by
  intro g m S w a A k x I;refine vI A x fun t ht=>k t ?_
  subst ht;exact List.mem_append.2 (.inl (CW (by simpa using I)))
 split at h
 ·
  cases h;obtain ⟨j,L⟩:=hguard O;refine ⟨j,fun q d=> ?_⟩;obtain ⟨hd,_,hw⟩:=L d;refine ⟨.tup [],[],[],[],⟨fun _=>rfl,fun h=>absurd rfl h,rfl,rfl,rfl,fun _=>wL hd z,fun _=>rfl, ?_⟩⟩;intro g m S w a A k _ _ Q K X;unfold Yf;rw [hw g m S a fun t ht=>k t (List.mem_append.2 (.inr ht))];simp only [Bool.false_eq_true,if_false];have:=X undef m S w [] (by rw [dL];exact A) (by rw [dL];exact Fr.refl _ _ _ _) (by simp only [VR];exact ⟨[],rfl,by simp [aX]⟩) (by simp [dW]);exact this
 ·
  have hwant:∀ (Q:Exit→Act→World→Prop) (K:Act→World→Prop) (g:bP) (m:aI) (S:aB) (a:Act) (w:World),c1.Ok→qC s.dec s.env→(∀ t ∈ mF o.op.operands.toList++fF ops o,VR g m S (s.env.get t) (a.tmps.getD t undef))→o.wp P a w K Q→Yf P ops.toArray Q o K a w:=by
   intro Q K g m S a w hk d k hh;obtain ⟨_,_,hw⟩:=(hguard hk).2 d;unfold Yf;rw [hw g m S a fun t ht=>k t (List.mem_append.2 (.inr ht))];simp only [if_true];exact .inl hh
  split at h
  ·
   rename_i gf args argTypes i;split at h
   ·rename_i f first cap hf
    obtain ⟨y,hs⟩:=wJ hH h O z (fun hE {g m S w a} A k=>by
     have C:=r A k;rw [i] at C;have l:=C gf (by simp [Op.operands,Call.operands]);rw [hf] at l;simp only [VR] at l;obtain ⟨vf,vc,D,G,M⟩:=l;refine ⟨(vf++(args.map a.eval).toList)++vc, ?_,fM (fM G (AY fun x I=>C x (by simp [Op.operands,Call.operands,I]))) M⟩;have:=EF (args:=args) (argTypes:=argTypes) (ty:=o.type) D hE w;unfold execOp;rw [i];dsimp only;rw [this];congr 2;apply Array.toList_inj.1;simp)
    obtain ⟨j,L⟩:=hguard y;refine ⟨j,fun q d=> ?_⟩;exact hs q (L d).1 fun Q K g m S a w k hh=>hwant Q K g m S a w y d k hh
   ·cases h
  ·
   rename_i gf name args argTypes i;split at h
   ·rename_i ty vv hf;split at h
    ·rename_i f hmt;obtain ⟨y,hs⟩:=wJ hH h O z (fun hE {g m S w a} A k=>by
      have C:=r A k;rw [i] at C;have l:=C gf (by simp [Op.operands,Call.operands]);rw [hf] at l;simp only [VR] at l;obtain ⟨cv,D,G⟩:=l;refine ⟨cv::(args.map a.eval).toList, ?_, ?_⟩
      ·have:=DT hap hmt (args:=args) (argTypes:=argTypes) (ty:=o.type) D hE w;unfold execOp;rw [i];dsimp only;rw [this]
      ·simp only [aX];exact ⟨G,AY fun x I=>C x (by simp [Op.operands,Call.operands,I])⟩)
     obtain ⟨j,L⟩:=hguard y;refine ⟨j,fun q d=> ?_⟩;exact hs q (L d).1 fun Q K g m S a w k hh=>hwant Q K g m S a w y d k hh
    ·cases h
   ·cases h
  ·
   split at h
   ·cases h;exact ⟨(hguard O).1,fun q=>by simp_all⟩
   ·cases h;exact ⟨(hguard O).1,fun q=>by simp_all⟩
   ·cases h
  ·
   rename_i gf args argTypes i;split at h
   ·rename_i f first cap hf
    cases h;obtain ⟨j,L⟩:=hguard O;refine ⟨j,fun q d=> ?_⟩;obtain ⟨hd,_,_⟩:=L d;refine ⟨.dead,[],[],[(f,first++args.toList.map (qG ap s.env)++cap)],⟨fun _=>rfl,fun h=>absurd rfl h,rfl,rfl,rfl,fun _=>wL hd z,fun _=>rfl, ?_⟩⟩;intro g m S w a A k hag V Q K X;refine hwant Q K g m S a w O d k ?_;have C:=r A k;rw [i] at C;have l:=C gf (by simp [Op.operands,Call.operands]);rw [hf] at l;simp only [VR] at l;obtain ⟨vf,vc,D,G,M⟩:=l;unfold Oper.wp;have hr:(execOp a.eval o).run P w= .ok (.defer {target:= .fn (.func f) vc.toArray,args:=vf.toArray++args.map a.eval}) w:=by
     unfold execOp;rw [i];dsimp only;rw [Sem.run_bind,zF D,Result.andThen_ok];rfl
    rw [hr];refine X undef m S w [{target:= .fn (.func f) vc.toArray,args:=vf.toArray++args.map a.eval}] (by rw [dL];exact A) (by rw [dL];exact Fr.refl _ _ _ _) (by simp only [VR]) ?_;simp only [dW,dL,and_true];refine ⟨vc.toArray,rfl, ?_⟩;have:=fM (fM G (AY (args:=args) fun x I=>C x (by simp [Op.operands,Call.operands,I]))) M;simpa using this
   ·cases h
  ·
   rename_i x i;split at h
   ·rename_i t v I;cases h;obtain ⟨j,L⟩:=hguard O;refine ⟨j,fun q d=> ?_⟩;obtain ⟨hd,_,_⟩:=L d;refine ⟨.dead,[],[],[],⟨fun h=>(by cases h),fun _=> ⟨rfl,rfl⟩,rfl,rfl,rfl,fun h=>(by cases h),fun h=>(by cases h), ?_⟩⟩;intro g m S w a A k hag V Q K X;refine hwant Q K g m S a w O d k ?_;have C:=r A k;rw [i] at C;have l:=C x (by simp [Op.operands]);rw [I] at l;have h2':=l;simp only [VR] at h2';obtain ⟨u,D,G⟩:=h2';unfold Oper.wp;have hr:(execOp a.eval o).run P w= .halt (.panic (a.eval x)) w:=by
     unfold execOp;rw [i];dsimp only;rw [D];rfl
    rw [hr];exact X _ m S w (by rw [dL];exact A) (by rw [dL];exact Fr.refl _ _ _ _) (by rw [dL];exact l)
   ·cases h
  ·
   rename_i op n1 n2 n3 n4;obtain ⟨em,c2,e2,h⟩:=R.bind_ok h;split at h
   ·cases h
   ·rename_i v ups bs i;obtain ⟨_,c3,e3,h⟩:=R.bind_ok h;have hv0:(wW nid c3 o.dst v ups).2.2.Ok→_:=SY;generalize wW nid c3 o.dst v ups=q0 at h hv0;obtain ⟨v0,F,U⟩:=q0;dsimp only at h hv0;have hv1:(BV U o.dst v0).2.Ok→U.Ok∧bF v0 (BV U o.dst v0).1:=S_;generalize BV U o.dst v0=q1 at h hv1;obtain ⟨v1,c4⟩:=q1;dsimp only at h hv1;have hv2:(BU c4 o.dst F).2.Ok→c4.Ok∧(BU c4 o.dst F).1=F:=SV;generalize BU c4 o.dst F=q2 at h hv2;obtain ⟨E,c5⟩:=q2;dsimp only at h hv2;cases h;obtain ⟨hc4,hups⟩:=hv2 O;subst hups;obtain ⟨hc30,Y⟩:=hv1 hc4;obtain ⟨hc3,hf⟩:=hv0 hc30;obtain ⟨hc2,hbs⟩:=GI e3 hc3;have hem:c1.Ok∧∀ n,wM (qG ap s.env) o.op=some n→Δ n 0=em:=by
     split at e2
     ·rename_i n hn;obtain ⟨hk,rfl⟩:=jV e2 hc2;exact ⟨hk,fun n' J=>by rw [hn] at J;cases J;rfl⟩
     ·rename_i hn;cases e2;exact ⟨hc2,fun n' J=>by rw [hn] at J;cases J⟩
    obtain ⟨y,hem⟩:=hem;obtain ⟨j,L⟩:=hguard y;refine ⟨j,fun q d=> ?_⟩;obtain ⟨hd,_,_⟩:=L d;refine ⟨v1,Uz (qG ap s.env) o.op,E,[],⟨fun _=>rfl,fun h=>absurd rfl h,rfl,rfl,rfl,fun _=>wL hd z,fun _=>rfl, ?_⟩⟩;intro g m S w a A k hag V Q K X;refine hwant Q K g m S a w y d k ?_;have C:=r A k;have T:=QC hap A (nid:=nid) (V 0 (by omega)) (ρ:=qG ap s.env) (cρ:=a.eval) (fun b B Z=>by
      split at Z
      ·rename_i hm;exact hag b (gp.1 hm) B Z
      ·cases Z) o C (dec:=fun| .tmp t=>ag dec t|_=>none) (fun x I b Z=>by
      split at Z
      ·rename_i t;have:=k t (List.mem_append.2 (.inl (CW (by simpa using I))));rw [hd t b Z] at this;simp only [VR,PR] at this;exact this
      ·cases Z) hem i hbs
    have T:∃ W N S' w',(execOp a.eval o).run P w= .ok W w'∧bi ap (bM g E) N S' w'∧Fr g m S w (bM g E) N S' w'∧((∃ cv,W= .value cv∧VR (bM g E) N S' v0 cv)∨(W= .skip∧v0= .dead)):=by
     rcases hf with ⟨e1,e2⟩|⟨n,B,e1,e2,e3,e4,e5,e6,e7,e8⟩
     ·subst e1 e2;obtain ⟨W,N,w',l,D,G,M⟩:=T;exact ⟨W,N,S,w',l,D,G,M⟩
     ·subst e1 e2 e7 e8;obtain ⟨W,N,S',w',l,D,G,M⟩:=fQ.shut (V 0 (by omega)) e3 e4 e5 e6 T;exact ⟨W,N,S',w',l,D,G,M.imp id fun ⟨_,e⟩=>by cases e⟩
    obtain ⟨W,N,S',w',l,D,G,M⟩:=T;unfold Oper.wp;rw [l];rcases M with ⟨cv,rfl,M⟩|⟨rfl,rfl⟩
    ·exact X cv N S' w' [] D G (Y _ _ _ _ M) (by simp [dW])
    ·exact X undef N S' w' [] D G (Y _ _ _ _ (by simp only [VR])) (by simp [dW])
end
end AM
namespace AM
open Go
theorem lG:∀ {hp:Hp} {b:Nat} {B:aK},ag hp b=some B→b<fB hp
 | [],b,B,h=>by simp [ag] at h
 | (c,C)::r,b,B,h=>by
  simp only [ag] at h;simp only [fB];split at h
  ·rename_i d;have d:=aF d;subst d;split
   ·rename_i a;exact dR a
   ·omega
  ·have f:=lG h;split
   ·exact f
   ·rename_i a;have:¬ c<fB r:=fun e=>by
     have:Xq5 c (fB r)=true:=by
      show Nat.ble (c+1) (fB r)=true;exact Xqe e
     rw [this] at a;cases a
    omega
theorem CP:∀ {l:Hp} {b:Nat} {B:aK},ag l b=some B→b ∈ l.map (·.1)
 | [],b,B,h=>by simp [ag] at h
 |(c,C)::r,b,B,h=>by
  simp only [ag] at h;split at h
  ·rename_i a;simp [aF a]
  ·simp [CP h]
structure FR (ap:AP) (env:dE) (hp:Hp) (dfs:List (Nat × List AV)) (nt:Nat) (m:aI) (S:aB) (w:World) (a:Act):Prop where
 srel:bi ap (ag hp) m S w
 env:∀ t,VR (ag hp) m S (env.get t) (a.tmps.getD t undef)
 dfs:dW (ag hp) m S dfs a.defers
 size:a.tmps.size=nt
theorem aG (a:Act) (d:Option Nat) (v:Value):(a.put d v).tmps.size=a.tmps.size:=by
 cases d<;>simp [Act.put]
theorem l_ (a:Act) (d:Option Nat) (v:Value):(a.put d v).defers=a.defers:=by
 cases d<;>simp [Act.put]
theorem jZ (a:Act) (d:Option Nat) (v:Value) {t:Nat} (h:d ≠ some t):(a.put d v).tmps.getD t undef=a.tmps.getD t undef:=by
 cases d with
 |none=>rfl
 |some d=>
  have b:d ≠ t:=fun e=>h (by rw [e])
  simp only [Act.put,Array.getD_eq_getD_getElem?];rw [Array.getElem?_setIfInBounds_ne b]
theorem dh (a:Act) (d:Nat) (v:Value) (h:d<a.tmps.size):(a.put (some d) v).tmps.getD d undef=v:=by
 simp only [Act.put,Array.getD_eq_getD_getElem?];rw [Array.getElem?_setIfInBounds_self_of_lt h];rfl
theorem iw {env:dE} {d:Nat} {v:AV}:(nY env (some d) v).get d=v:=by simp [nY,dE.get,ag]
theorem wR {env:dE} {dst:Option Nat} {v:AV} {t:Nat} (h:dst ≠ some t):(nY env dst v).get t=env.get t:=by
 cases dst with
 |none=>rfl
 | some d=>
  have a:Δ d t=false:=by
   cases b:Δ d t with
   |false=>rfl
   |true=>exact absurd (by rw [aF b]) h
  simp [nY,dE.get,ag,a]
section
variable {P:Program} {ap:AP} {H:bI}
theorem FR.put {env:dE} {hp ups:Hp} {dfs c:List (Nat × List AV)} {nt:Nat} {m b:aI} {S S':aB} {w w':World} {a:Act} (h:FR ap env hp dfs nt m S w a) {dst:Option Nat} (e:∀ d,dst=some d→d<nt) {v:AV} {cv:Value} {f:List Deferred}
  (h1:bi ap (bM (ag hp) ups) b S' w') (h2:Fr (ag hp) m S w (bM (ag hp) ups) b S' w') (h3:VR (bM (ag hp) ups) b S' v cv) (h4:dW (bM (ag hp) ups) b S' c f):
  FR ap (nY env dst v) (ups++hp) (c++dfs) nt b S' w' ({a with defers:=f++a.defers}.put dst cv):=by
 rw [jA] at h1 h2 h3 h4;refine ⟨h1, ?_, ?_, ?_⟩
 ·intro t;by_cases ht:dst=some t
  ·subst ht;rw [iw,dh _ _ _ (by have:=e t rfl;have:=h.size;simpa [this] using e t rfl)];exact h3
  ·rw [wR ht,jZ _ _ _ ht];exact kE h2.sle h2.ge _ (h.env t)
 ·rw [l_];exact yN h4 (sJ h2.sle h2.ge h.dfs)
 ·rw [aG];exact h.size
theorem FR.still {env:dE} {hp ups:Hp} {dfs:List (Nat × List AV)} {nt:Nat} {m b:aI} {S S':aB} {w w':World} {a:Act} (h:FR ap env hp dfs nt m S w a)
  (h1:bi ap (bM (ag hp) ups) b S' w') (h2:Fr (ag hp) m S w (bM (ag hp) ups) b S' w'):FR ap env (ups++hp) dfs nt b S' w' a:=by
 rw [jA] at h1 h2;exact ⟨h1,fun t=>kE h2.sle h2.ge _ (h.env t),sJ h2.sle h2.ge h.dfs,h.size⟩
def wz (ap:AP) (hp0:Hp) (m:aI) (S:aB) (w:World) (nt:Nat) (env:dE) (hp:Hp) (dfs:List (Nat × List AV)) (Q:Exit→Act→World→Prop):Option AV→Prop
 |none=> ∀ m' S' w' a',Fr (ag hp0) m S w (ag hp) m' S' w'→FR ap env hp dfs nt m' S' w' a'→Q .normal a' w'
 |some v=> ∀ m' S' w' a' cv,Fr (ag hp0) m S w (ag hp) m' S' w'→FR ap env hp dfs nt m' S' w' a'→VR (ag hp) m' S' v cv→Q (.panic [{v:=cv,recovered:=false}]) a' w'
theorem qM {ops:Array Oper} {Q:Exit→Act→World→Prop} {i:Nat} {o:Oper} (b:ops[i]? =some o) (rest:List Nat) (a:Act) (w:World):wpOps P ops Q (i::rest) a w↔Yf P ops Q o (wpOps P ops Q rest) a w:=by
 simp only [wpOps,b,Yf]
theorem LH {hp ups:Hp} {nid:Nat} (e:∀ b B,ag hp b=some B→b<nid) (c:(ups.map (·.1)).all (fun x=>Xq5 x (nid+4))=true):∀ b B,ag (ups++hp) b=some B→b<nid+4:=by
 intro b B a;rw [fJ] at a;split at a
 ·rename_i x d;have hm:b ∈ ups.map (·.1):=CP d;exact dR (List.all_eq_true.1 c b hm)
 ·have:=e b B a;omega
theorem ku (E:dF P ap) (X:gY P ap H) {ops:List Oper} {nt:Nat} (K:∀ o ∈ ops,∀ d,o.dst=some d→d<nt):∀ (l:List Oper) (i nid:Nat) (s s':RS) (p:Option AV) (c c':Cx),og ap H ops l nid s c= .ok (s',p) c'→c'.Ok→
  c.Ok∧(s.md= .dead→qC s.dec s.env→l=ops.drop i→(∀ b B,ag s.hp b=some B→b<nid)→
  s'.md= .dead∧∀ m S w a,FR ap s.env s.hp s.dfs nt m S w a→∀ Q,wz ap s.hp m S w nt s'.env s'.hp s'.dfs Q p→wpOps P ops.toArray Q (List.range' i l.length) a w)
 | [],i,nid,s,s',p,c,c',h,hc=>by
  cases h;exact ⟨hc,fun e _ _ _=> ⟨e,fun m S w a u Q y=>y m S w a (Fr.refl _ _ _ _) u⟩⟩
 | o ::r,i,nid,s,s',p,c,c',h,hc=>by
  simp only [og] at h;obtain ⟨⟨s1,p1⟩,c1,e1,h⟩:=R.bind_ok h;dsimp only at h;have hfresh:(∀ b B,ag s.hp b=some B→b<nid)→∀ j,j<4→ag s.hp (nid+j)=none:=by
   intro G j _;cases hb:ag s.hp (nid+j) with
   |none=>rfl
   |some B=>have:=G _ _ hb;omega
  have z:o::r=ops.drop i→ops[i]? =some o∧ops.toArray[i]? =some o∧r=ops.drop (i+1)∧∀ d,o.dst=some d→d<nt:=by
   intro I;have n:ops[i]? =some o:=by
    have:(ops.drop i)[0]? =some o:=by rw [← I];rfl
    simpa using this
   have O:r=ops.drop (i+1):=by
    have:r=(ops.drop i).drop 1:=by rw [← I];rfl
    rw [this,Xjj]
   exact ⟨n,by simpa using n,O,K o (Γ n)⟩
  cases p1 with
  |some v=>
   cases h;obtain ⟨D,C⟩:=qp E X e1 hc;refine ⟨D,fun e f I G=> ?_⟩;obtain ⟨n,k,O,hd⟩:=z I;obtain ⟨v1,rb,ups,df,hs⟩:=C e f;refine ⟨by rw [hs.md,e],fun m S w a u Q y=> ?_⟩;rw [Θ,Xzt,qM k];refine hs.sem (ag s.hp) m S w a u.srel (fun t _=>u.env t) (fun b _ B Z=>Z) (hfresh G) Q _ ?_;intro cv W S' w' h1 x N;have hst:=u.still h1 x;rw [jA] at x N;obtain ⟨q,rfl⟩:=hs.envp (by simp);have y:=y W S' w' a cv;rw [hs.hp,hs.dfs,q] at y;exact y x hst N
  | none=>
   dsimp only at h;cases F:s1.feet with
   |nil=>rw [F] at h;cases h
   | cons ft fr=>
    rw [F] at h;dsimp only at h;split at h
    ·rename_i M;obtain ⟨V,ih⟩:=ku E X K r (i+1) (nid+4) s1 s' p c1 c' h hc;obtain ⟨D,C⟩:=qp E X e1 V;refine ⟨D,fun e f I G=> ?_⟩;obtain ⟨n,k,O,hd⟩:=z I;obtain ⟨v1,rb,ups,df,hs⟩:=C e f;have A:=hs.feet rfl;rw [F] at A;simp only [List.cons.injEq] at A;rw [A.1] at M;obtain ⟨J,ih⟩:=ih (by rw [hs.md,e]) (hs.dec rfl) O (by rw [hs.hp];exact LH G M);refine ⟨J,fun m S w a u Q y=> ?_⟩;rw [Θ,Xzt,qM k];refine hs.sem (ag s.hp) m S w a u.srel (fun t _=>u.env t) (fun b _ B Z=>Z) (hfresh G) Q _ ?_;intro cv W S' w' ds h1 x N h4;have L:=u.put hd h1 x N h4;rw [jA] at x;have q:=hs.env rfl;rw [← q,← hs.hp,← hs.dfs] at L;refine ih W S' w' _ L Q ?_;rw [← hs.hp] at x;cases p with
     |none=>exact fun U S2 w2 a2 h5 Y=>y U S2 w2 a2 (x.trans h5) Y
     |some v=>exact fun U S2 w2 a2 T h5 Y h7=>y U S2 w2 a2 T (x.trans h5) Y h7
    ·cases h
end
end AM
namespace AM
open Go
structure jk where
 dst:Option Nat
 v:AV
 rt:List Nat
 rb:List Nat
 ups:List (Nat × aK)
def NC (d:Option Nat):List Nat:=match d with|some d=> [d]|none=> []
def jk.foot (r:jk):uZ:={rt:=r.rt,wt:=NC r.dst,rb:=r.rb,wb:=r.ups.map (·.1)}
def kS (D:Nat→Bool):Nat→dE→List jk→dE
 |_,e,[]=>e
 |j,e,r::rs=>kS D (j+1) (match D j with|true=>nY e r.dst r.v|false=>e) rs
def mM (D:Nat→Bool):Nat→Hp→List jk→Hp
 |_,h,[]=>h
 |j,h,r::rs=>mM D (j+1) (match D j with|true=>r.ups++h|false=>h) rs
theorem lQ {D D':Nat→Bool} {t:Nat}:∀ (rs:List jk) (j:Nat) (e e':dE),e.get t=e'.get t→(∀ k r,rs[k]? =some r→r.dst=some t→D (j+k)=D' (j+k))→(kS D j e rs).get t=(kS D' j e' rs).get t
 | [],_,_,_,he,_=>he
 | r::rs,j,e,e',he,h=>by
  simp only [kS];refine lQ rs (j+1) _ _ ?_ fun k b c a=> ?_
  ·by_cases a:r.dst=some t
   ·have h0:=h 0 r rfl a;rw [Xqt] at h0;rw [h0];cases D' j with
    |true=>simp only [a,iw]
    |false=>exact he
   ·cases D j<;>cases D' j<;>simp only [wR a,he]
  ·have:=h (k+1) b (by simpa using c) a;rwa [show j+(k+1)=j+1+k by omega] at this
theorem G5:∀ {l:Hp} {b:Nat},b ∉ l.map (·.1)→ag l b=none:=by
 intro l b h;cases a:ag l b with
 |none=>rfl
 |some B=>exact absurd (CP a) h
theorem pW {ups hp:Hp} {b:Nat} (h:b ∉ ups.map (·.1)):ag (ups++hp) b=ag hp b:=by
 rw [fJ,G5 h]
theorem rO:∀ {l:Hp} {b:Nat},b ∈ l.map (·.1)→∃ B,ag l b=some B
 | [],b,h=>by simp at h
 | (c,C)::r,b,h=>by
  simp only [ag];cases a:Δ c b with
  |true=>exact ⟨C,rfl⟩
  |false=>
   simp only [χ,Xqu] at h;rcases h with h|h
   ·subst h;simp at a
   ·exact rO h
theorem w_ {ups hp hp':Hp} {b:Nat} (h:b ∈ ups.map (·.1)):ag (ups++hp) b=ag (ups++hp') b:=by
 obtain ⟨B,a⟩:=rO h;rw [fJ,fJ,a]
theorem oM {D D':Nat→Bool} {b:Nat}:∀ (rs:List jk) (j:Nat) (h h':Hp),ag h b=ag h' b→(∀ k r,rs[k]? =some r→b ∈ r.ups.map (·.1)→D (j+k)=D' (j+k))→ag (mM D j h rs) b=ag (mM D' j h' rs) b
 | [],_,_,_,he,_=>he
 | r::rs,j,e,e',he,h=>by
  simp only [mM];refine oM rs (j+1) _ _ ?_ fun k c d a=> ?_
  ·by_cases a:b ∈ r.ups.map (·.1)
   ·have h0:=h 0 r rfl a;rw [Xqt] at h0;rw [h0];cases D' j with
    |true=>exact w_ a
    |false=>exact he
   ·cases D j<;>cases D' j<;>simp only [pW a,he]
  ·have:=h (k+1) c (by simpa using d) a;rwa [show j+(k+1)=j+1+k by omega] at this
theorem tq:∀ (rs:List jk) (j:Nat) (e:dE) {D:Nat→Bool},(∀ k,k<rs.length→D (j+k)=false)→kS D j e rs=e
 | [],_,_,_,_=>rfl
 |r::rs,j,e,D,h=>by
  have h0:=h 0 (by simp);rw [Xqt] at h0;simp only [kS,h0];exact tq rs (j+1) e fun k a=>by have:=h (k+1) (by simpa using a);rwa [show j+(k+1)=j+1+k by omega] at this
theorem lV:∀ (rs:List jk) (j:Nat) (e:Hp) {D:Nat→Bool},(∀ k,k<rs.length→D (j+k)=false)→mM D j e rs=e
 | [],_,_,_,_=>rfl
 |r::rs,j,e,D,h=>by
  have h0:=h 0 (by simp);rw [Xqt] at h0;simp only [mM,h0];exact lV rs (j+1) e fun k a=>by have:=h (k+1) (by simpa using a);rwa [show j+(k+1)=j+1+k by omega] at this
def mJ (e:dE) (rs:List jk):dE:=kS (fun _=>true) 0 e rs
def BZ (h:Hp) (rs:List jk):Hp:=mM (fun _=>true) 0 h rs
theorem vG (D:Nat→Bool):∀ (rs:List jk) (j d:Nat) (e:dE),kS D (j+d) e rs=kS (fun k=>D (k+d)) j e rs
 | [],_,_,_=>rfl
 |r::rs,j,d,e=>by
  simp only [kS];rw [show j+d+1=j+1+d by omega];exact vG D rs (j+1) d _
theorem xW (D:Nat→Bool):∀ (rs:List jk) (j d:Nat) (e:Hp),mM D (j+d) e rs=mM (fun k=>D (k+d)) j e rs
 | [],_,_,_=>rfl
 |r::rs,j,d,e=>by
  simp only [mM];rw [show j+d+1=j+1+d by omega];exact xW D rs (j+1) d _
theorem tu (e:dE) (r:jk) (a:List jk):mJ e (r::a)=mJ (nY e r.dst r.v) a:=by
 simp only [mJ,kS];exact vG (fun _=>true) a 0 1 _
theorem wX (h:Hp) (r:jk) (a:List jk):BZ h (r::a)=BZ (r.ups++h) a:=by
 simp only [BZ,mM];exact xW (fun _=>true) a 0 1 _
theorem wO:∀ (rs:List jk) (k:Nat) (e:dE),kS (fun j=>decide (j<k)) 0 e rs=mJ e (rs.take k)
 |rs,0,e=>by
  simp only [Xj9];exact tq rs 0 e fun _ _=>by simp
 | [],k+1,e=>rfl
 |r::rs,k+1,e=>by
  simp only [Xxq,tu,kS];rw [show decide (0<k+1)=true by simp];dsimp only;rw [← wO rs k];have:=vG (fun j=>decide (j<k+1)) rs 0 1 (nY e r.dst r.v);rw [this];congr 1;funext j;simp
theorem Lu:∀ (rs:List jk) (k:Nat) (e:Hp),mM (fun j=>decide (j<k)) 0 e rs=BZ e (rs.take k)
 |rs,0,e=>by
  simp only [Xj9];exact lV rs 0 e fun _ _=>by simp
 | [],k+1,e=>rfl
 |r::rs,k+1,e=>by
  simp only [Xxq,wX,mM];rw [show decide (0<k+1)=true by simp];dsimp only;rw [← Lu rs k];have:=xW (fun j=>decide (j<k+1)) rs 0 1 (r.ups++e);rw [this];congr 1;funext j;simp
theorem EZ (e:dE):∀ (b:List jk) (k:Nat) (r:jk),b[k]? =some r→mJ e (b.take (k+1))=nY (mJ e (b.take k)) r.dst r.v:=by
 intro b
 induction b generalizing e with
 |nil=>intro k r h;simp at h
 | cons a b ih=>
  intro k r h;cases k with
  |zero=>simp at h;subst h;rfl
  |succ k=>
   simp only [Xxq,tu];exact ih _ k r (by simpa using h)
theorem Tf (e:Hp):∀ (b:List jk) (k:Nat) (r:jk),b[k]? =some r→BZ e (b.take (k+1))=r.ups++BZ e (b.take k):=by
 intro b
 induction b generalizing e with
 |nil=>intro k r h;simp at h
 | cons a b ih=>
  intro k r h;cases k with
  |zero=>simp at h;subst h;rfl
  |succ k=>
   simp only [Xxq,wX];exact ih _ k r (by simpa using h)
section
variable {P:Program} {ap:AP} {H:bI}
structure Rk (P:Program) (ap:AP) (ops:List Oper) (i nid:Nat) (s s':RS) (recs:List jk):Prop where
 env:s'.env=mJ s.env recs
 hp:s'.hp=BZ s.hp recs
 feet:s'.feet=(recs.map jk.foot).reverse++s.feet
 dle:s.dfs.length≤s'.dfs.length
 bound:∀ (k:Nat) (r:jk),recs[k]? =some r→∀ b ∈ r.ups.map (·.1),b<nid+4*k+4
 sem:s'.dfs.length=s.dfs.length→s'.dfs=s.dfs∧∀ (k:Nat) (r:jk),recs[k]? =some r→∃ o,ops[i+k]? =some o∧r.dst=o.dst∧Gg P ap ops.toArray o (nid+4*k) (mJ s.env (recs.take k)) (BZ s.hp (recs.take k)) r.rt r.rb r.v r.ups [] none
theorem VA (x:dF P ap) (J:gY P ap H) {ops:List Oper}:∀ (l:List Oper) (i nid:Nat) (s s':RS) (c c':Cx),og ap H ops l nid s c= .ok (s',none) c'→c'.Ok→
  c.Ok∧(s.md= .dead→qC s.dec s.env→l=ops.drop i→s'.md= .dead∧∃ recs:List jk,recs.length=l.length∧Rk P ap ops i nid s s' recs)
 | [],i,nid,s,s',c,c',h,hc=>by
  cases h;exact ⟨hc,fun a _ _=> ⟨a,[],rfl,⟨rfl,rfl,rfl,ε _,fun k r h=>by simp at h,fun _=> ⟨rfl,fun k r h=>by simp at h⟩⟩⟩⟩
 | o :: r,i,nid,s,s',c,c',h,hc=>by
  simp only [og] at h;obtain ⟨⟨s1,W⟩,V,N,h⟩:=R.bind_ok h;dsimp only at h;cases W with
  |some v=>cases h
  | none=>
   dsimp only at h;cases j:s1.feet with
   |nil=>rw [j] at h;cases h
   | cons ft fr=>
    rw [j] at h;dsimp only at h;split at h
    ·rename_i u;obtain ⟨B,T⟩:=VA x J r (i+1) (nid+4) s1 s' V c' h hc;obtain ⟨E,z⟩:=qp x J N B;refine ⟨E,fun a y L=> ?_⟩;have G:ops[i]? =some o:=by
      have:(ops.drop i)[0]? =some o:=by rw [← L];rfl
      simpa using this
     have X:r=ops.drop (i+1):=by
      have:r=(ops.drop i).drop 1:=by rw [← L];rfl
      rw [this,Xjj]
     obtain ⟨O,rb,ups,A,hs⟩:=z a y;have d:=hs.feet rfl;rw [j] at d;simp only [List.cons.injEq] at d;rw [d.1] at u;obtain ⟨n,recs,t,e⟩:=T (by rw [hs.md,a]) (hs.dec rfl) X;refine ⟨n,{dst:=o.dst,v:=O,rt:=mF o.op.operands.toList++fF ops o,rb:=rb,ups:=ups}::recs,by simp [t], ?_⟩;have F:s.dfs.length≤s1.dfs.length:=by rw [hs.dfs];simp
     refine ⟨?_, ?_, ?_,Xqh F e.dle, ?_, ?_⟩
     ·rw [e.env,tu,hs.env rfl]
     ·rw [e.hp,wX,hs.hp]
     ·rw [e.feet,hs.feet rfl];simp [jk.foot,NC,GH];cases o.dst<;>rfl
     ·intro k q f b I;cases k with
      |zero=>
       simp at f;subst f;exact dR (List.all_eq_true.1 u b I)
      |succ k=>
       have:=e.bound k q (by simpa using f) b I;omega
     ·intro Y;have h1:=e.dle;obtain ⟨D,p⟩:=e.sem (by omega);have C:A= []:=by
       have:A.length=0:=by
        have:=hs.dfs;have Z:s1.dfs.length=A.length+s.dfs.length:=by rw [this];simp
        omega
       exact Xxd this
      subst C;refine ⟨by rw [D,hs.dfs];rfl, ?_⟩;intro k q f;cases k with
      |zero=>
       simp at f;subst f;exact ⟨o,G,rfl,hs.sem⟩
      |succ k=>
       obtain ⟨U,Q,M,K⟩:=p k q (by simpa using f);refine ⟨U,by rw [show i+(k+1)=i+1+k by omega];exact Q,M, ?_⟩;rw [Xxq,tu,wX];rw [hs.env rfl,hs.hp] at K;rw [show nid+4*(k+1)=nid+4+4*k by omega];exact K
    ·cases h
end
end AM
namespace AM
open Go
theorem BM {md:Region.Mode} (b:Array Nat) (i:Nat):∀ (l:List Edge) (s:Nat),(l.foldl (fun s e=>if Region.binds md e then s|||2^e.on|||b.getD e.on 0 else s) s).testBit i=true→
  s.testBit i=true∨∃ e ∈ l,Region.binds md e=true∧(i=e.on∨(b.getD e.on 0).testBit i=true)
 | [],s,h=> .inl h
 | e::r,s,h=>by
  simp only [Xqy] at h;rcases BM b i r _ h with a|⟨e',a,d⟩
  ·split at a
   ·rename_i c;simp only [Nat.testBit_or,Xq7,Nat.testBit_two_pow,decide_eq_true_eq] at a;rcases a with (a|a)|a
    ·exact .inl a
    ·exact .inr ⟨e,by simp,c,.inl a.symm⟩
    ·exact .inr ⟨e,by simp,c,.inr a⟩
   ·exact .inl a
  ·exact .inr ⟨e',by simp [a],d⟩
def mZ (acc:Array Nat) (o:Oper):Array Nat:=acc.push (o.after.toList.foldl (fun s e=>if Region.binds .any e then s|||2^e.on|||acc.getD e.on 0 else s) 0)
theorem BN (a:Array Nat) (x:Nat):(a.push x).getD a.size 0=x:=by simp [Array.getD_eq_getD_getElem?]
def Aa (ops:List Oper) (D:Nat→Bool):Prop:=∀ (k:Nat) (o:Oper),ops[k]? =some o→D k=true→∀ e ∈ o.after,Region.binds .any e=true→D e.on=true
def Yh (D:Nat→Bool) (acc:Array Nat):Prop:=∀ k,D k=true→∀ i,(acc.getD k 0).testBit i=true→D i=true
theorem Nj {ops:List Oper} {D:Nat→Bool} (j:Aa ops D):∀ (l:List Oper) (acc:Array Nat),Yh D acc→l=ops.drop acc.size→Yh D (l.foldl mZ acc)
 | [],acc,h,_=>h
 | o ::r,acc,h,hl=>by
  simp only [Xqy];have d:ops[acc.size]? =some o:=by
   have:(ops.drop acc.size)[0]? =some o:=by rw [← hl];rfl
   simpa using this
  refine Nj j r _ ?_ ?_
  ·intro k n i a;by_cases hks:k<acc.size
   ·refine h k n i ?_;simpa [mZ,Array.getD_eq_getD_getElem?,Array.getElem?_push,Nat.ne_of_lt hks] using a
   ·by_cases hke:k=acc.size
    ·subst hke;rw [mZ,BN] at a;rcases BM acc i _ _ a with c|⟨e,c,p,b⟩
     ·simp at c
     ·have f:=j _ o d n e (by simpa using c) p;rcases b with rfl|b
      ·exact f
      ·exact h _ f i b
    ·have:(mZ acc o)[k]? =none:=by
      simp only [mZ];rw [Array.getElem?_eq_none];simp;omega
     simp [Array.getD_eq_getD_getElem?,this] at a
  ·have:(mZ acc o).size=acc.size+1:=by simp [mZ]
   rw [this,← Xjj,← hl];rfl
theorem P5 (ops:List Oper):Region.before ops.toArray=ops.foldl mZ #[]:=by
 simp only [Region.before,← Array.foldl_toList];rfl
theorem nN {ops:List Oper} {D:Nat→Bool} (b:Aa ops D) {k i:Nat} (c:D k=true) (h:((Region.before ops.toArray).toList.getD k 0).testBit i=true):D i=true:=by
 have:=Nj b ops #[] (fun k _ i a=>by simp at a) (by simp);rw [← P5] at this;refine this k c i ?_;rw [π] at h;rw [Array.getD_eq_getD_getElem?];simpa using h
theorem oO {a b:List Nat} {x:Nat} (d:x ∈ a) (c:x ∈ b):CU a b=true:=List.any_eq_true.2 ⟨x,d,gp.2 c⟩
structure Gf (n:Nat) (bef:Nat→Nat→Bool) (recs:List jk):Prop where
 ok:∀ i j a b,recs[i]? =some a→recs[j]? =some b→i<j→(jq a.foot b.foot=true∨∃ x ∈ b.ups.map (·.1),n+4*i≤x∧x<n+4*i+4)→bef j i=true
theorem Dk {n:Nat} {d:List Nat} {recs:List jk} (h:rW n d (recs.map jk.foot).reverse=true):Gf n (fun j i=>(d.getD j 0).testBit i) recs:=by
 refine ⟨fun i j a b p k f e=> ?_⟩;simp only [rW,List.reverse_reverse,Xjv] at h;have c:=h (a.foot,i) (by rw [Xx6];simp [p]) (b.foot,j) (by rw [Xx6];simp [k]);simp only [Xq7,Xqk] at c;rcases c with (c|c)|c
 ·have:Xq5 i j=true:=Xqe f;rw [this] at c;cases c
 ·exfalso;rw [Bool.or_eq_false_iff] at c;rcases e with e|⟨x,l,q,o⟩
  ·rw [e] at c;cases c.1
  ·have:=List.any_eq_false.1 c.2 x l;simp only [η,not_and] at this;exact this (Xqe q) (Xqe o)
 ·exact c
section
variable {P:Program} {ap:AP} {H:bI}
theorem FR.congr {env env':dE} {hp hp':Hp} {dfs:List (Nat × List AV)} {nt:Nat} {m:aI} {S:aB} {w:World} {a:Act} (h:FR ap env hp dfs nt m S w a) (c:∀ t,env'.get t=env.get t) (b:ag hp'=ag hp):FR ap env' hp' dfs nt m S w a:=by
 refine ⟨b ▸ h.srel,fun t=> ?_,b ▸ h.dfs,h.size⟩;rw [c,b];exact h.env t
def ng (listed:Array Bool):Nat→Bool:=fun k=>listed.getD k false
theorem Wp {listed:Array Bool} {i:Nat} (a:i<listed.size) (k:Nat):ng (listed.setIfInBounds i true) k=(if k=i then true else ng listed k):=by
 simp only [ng,Array.getD_eq_getD_getElem?];by_cases h:k=i
 ·subst h;rw [if_pos rfl,Array.getElem?_setIfInBounds_self_of_lt a];rfl
 ·rw [if_neg h,Array.getElem?_setIfInBounds_ne (fun e=>h e.symm)]
def Aq (n:Nat) (D:Nat→Bool):Nat:=((Xqf n).filter fun i=> !D i).length
theorem zx {D D':Nat→Bool} {i:Nat} (c:D i=false) (b:∀ k,D' k=if k=i then true else D k):∀ (l:List Nat),l.Nodup→i ∈ l→(l.filter fun k=> !D k).length=(l.filter fun k=> !D' k).length+1
 | [],_,h=>by simp at h
 | a::r,hn,h=>by
  rw [Xzi] at hn;by_cases ha:a=i
  ·subst ha;have hsame:r.filter (fun k=> !D k)=r.filter (fun k=> !D' k):=by
    refine List.filter_congr fun k f=> ?_
    have:k ≠ a:=fun e=>hn.1 (e ▸ f)
    rw [b k,if_neg this]
   have d:D' a=true:=by rw [b a,if_pos rfl]
   simp [c,d,hsame]
  ·have j:=zx c b r hn.2 (by simpa [Ne.symm ha] using h);have:D' a=D a:=by rw [b a,if_neg ha]
   simp only [List.filter_cons,this];split<;>simp [j]
theorem UA {ops:List Oper} (i:pO ops=true) {listed:Array Bool} (p:listed.size=ops.length) (b:Region.ready .any ops.toArray listed= []):∀ k,k<ops.length→ng listed k=true:=by
 intro k
 induction k using Nat.strongRecOn with
 | _ k ih=>
  intro f;cases d:ng listed k with
  |true=>rfl
  | false=>
   exfalso;have a:k ∈ Region.ready .any ops.toArray listed:=by
    simp only [Region.ready,Xxa,Xwb,Xxe];refine ⟨f, ?_⟩;have o:listed.getD k true=false:=by
     simp only [ng,Array.getD_eq_getD_getElem?] at d ⊢;rw [Array.getElem?_eq_getElem (by omega)] at d ⊢;simpa using d
    have n:ops.toArray[k]? =some ops[k]:=by simp [f]
    rw [o,n];simp only [Bool.not_false,Bool.true_and,Xqr,Xq9,Array.all_eq_true',Xq7,Xqk];intro e l;cases h:Region.binds .any e with
    |false=>exact .inl rfl
    |true=>
     right;simp only [pO,Xjv] at i;have c:=i (ops[k],k) (by rw [Xx6];simp [f]) e (by simpa using l);rw [h] at c;simp only [Xvk,Xzl] at c;have j:=dR c;exact ih e.on j (by omega)
   rw [b] at a;cases a
theorem Dw {ops:List Oper} {listed:Array Bool} (k:listed.size=ops.length) {i:Nat} (h:i ∈ Region.ready .any ops.toArray listed):∃ o,ops[i]? =some o∧ng listed i=false∧i<ops.length∧∀ e ∈ o.after,Region.binds .any e=true→ng listed e.on=true:=by
 simp only [Region.ready,Xxa,Xwb,Xxe,η,Xqk] at h;obtain ⟨b,c,a⟩:=h;have j:ops.toArray[i]? =some ops[i]:=by simp [b]
 rw [j] at a;simp only [Xqr,Xq9,Array.all_eq_true',Xq7,Xqk] at a;refine ⟨ops[i],ζ b, ?_,b,fun e d f=> ?_⟩
 ·simp only [ng,Array.getD_eq_getD_getElem?] at c ⊢;rw [Array.getElem?_eq_getElem (by omega)] at c ⊢;simpa using c
 ·rcases a e d with h|h
  ·rw [f] at h;cases h
  ·exact h
end
end AM
namespace AM
open Go
theorem RD {a b:uZ} {x:Nat} (h:x ∈ a.wt) (c:x ∈ b.rt):jq a b=true:=by simp [jq,oO h c]
theorem IG {a b:uZ} {x:Nat} (h:x ∈ a.wt) (c:x ∈ b.wt):jq a b=true:=by simp [jq,oO h c]
theorem Rz {a b:uZ} {x:Nat} (h:x ∈ a.rt) (c:x ∈ b.wt):jq a b=true:=by simp [jq,oO h c]
theorem Qa {a b:uZ} {x:Nat} (h:x ∈ a.wb) (c:x ∈ b.rb):jq a b=true:=by simp [jq,oO h c]
theorem EW {a b:uZ} {x:Nat} (h:x ∈ a.wb) (c:x ∈ b.wb):jq a b=true:=by simp [jq,oO h c]
theorem P_ {a b:uZ} {x:Nat} (h:x ∈ a.rb) (c:x ∈ b.wb):jq a b=true:=by simp [jq,oO h c]
theorem rQ {d:Option Nat} {t:Nat} (h:d=some t):t ∈ NC d:=by subst h;simp [NC]
section
variable {P:Program} {ap:AP} {H:bI}
structure aaD (ap:AP) (ops:List Oper) (recs:List jk) (e0:dE) (hp0:Hp) (dfs:List (Nat × List AV)) (nt:Nat) (m0:aI) (S0:aB) (w0:World) (listed:Array Bool) (m:aI) (S:aB) (w:World) (a:Act):Prop where
 sz:listed.size=ops.length
 cl:Aa ops (ng listed)
 fr:Fr (ag hp0) m0 S0 w0 (ag (mM (ng listed) 0 hp0 recs)) m S w
 rel:FR ap (kS (ng listed) 0 e0 recs) (mM (ng listed) 0 hp0 recs) dfs nt m S w a
theorem IU {ops:List Oper} {recs:List jk} {s:RS} {A nt:Nat} (hnt:∀ o ∈ ops,∀ d,o.dst=some d→d<nt) (hlen:recs.length=ops.length)
  (hbound:∀ (k:Nat) (r:jk),recs[k]? =some r→∀ b ∈ r.ups.map (·.1),b<A+4*k+4)
  (hsem:∀ (k:Nat) (r:jk),recs[k]? =some r→∃ o,ops[k]? =some o∧r.dst=o.dst∧∀ (D:Nat→Bool) m S w (a:Act),bi ap (ag (mM D 0 s.hp recs)) m S w→(∀ t ∈ r.rt,VR (ag (mM D 0 s.hp recs)) m S ((mJ s.env (recs.take k)).get t) (a.tmps.getD t undef))→
   (∀ b ∈ r.rb,ag (BZ s.hp (recs.take k)) b=ag (mM D 0 s.hp recs) b)→(∀ j,j<4→ag (mM D 0 s.hp recs) (A+4*k+j)=none)→(∀ j,((Region.before ops.toArray).toList.getD j 0).testBit k=true→D j=false)→
   ∀ (Q:Exit→Act→World→Prop) (K:Act→World→Prop),Yg ap o (ag (mM D 0 s.hp recs)) m S w a r.v r.ups [] Q K none→Yf P ops.toArray Q o K a w)
  (hord:Gf A (fun j i=>((Region.before ops.toArray).toList.getD j 0).testBit i) recs) (hback:pO ops=true) (hn0:∀ b B,ag s.hp b=some B→b<A) {m0:aI} {S0:aB} {w0:World} {Q:Exit→Act→World→Prop}
  (hQ:∀ m S w a,Fr (ag s.hp) m0 S0 w0 (ag (BZ s.hp recs)) m S w→FR ap (mJ s.env recs) (BZ s.hp recs) s.dfs nt m S w a→Q .normal a w):
  ∀ (n:Nat) (listed:Array Bool) (m:aI) (S:aB) (w:World) (a:Act),aaD ap ops recs s.env s.hp s.dfs nt m0 S0 w0 listed m S w a→Aq ops.length (ng listed)≤n→wpAny P .any ops.toArray Q n listed a w:=by
 have hdone:∀ (listed:Array Bool) (m:aI) (S:aB) (w:World) (a:Act),aaD ap ops recs s.env s.hp s.dfs nt m0 S0 w0 listed m S w a→(∀ k,k<ops.length→ng listed k=true)→Q .normal a w:=by
  intro listed m S w a u y;have hh:∀ b,ag (BZ s.hp recs) b=ag (mM (ng listed) 0 s.hp recs) b:=fun b=>
   oM recs 0 _ _ rfl fun k r c _=>by rw [y (0+k) (by have:=(List.getElem?_eq_some_iff.1 c).1;omega)]
  have he:∀ t,(mJ s.env recs).get t=(kS (ng listed) 0 s.env recs).get t:=fun t=>
   lQ recs 0 _ _ rfl fun k r c _=>by rw [y (0+k) (by have:=(List.getElem?_eq_some_iff.1 c).1;omega)]
  have E:=funext hh;exact hQ m S w a (E ▸ u.fr) (u.rel.congr he E)
 intro n
 induction n with
 | zero=>
  intro listed m S w a u hm;have y:∀ k,k<ops.length→ng listed k=true:=by
   intro k c;cases f:ng listed k with
   |true=>rfl
   |false=>
    have N:k ∈ (Xqf ops.length).filter fun i=> !ng listed i:=by simp [c,f]
    have:(Xqf ops.length).filter (fun i=> !ng listed i)= []:=Xxd (Nat.le_zero.1 hm);rw [this] at N;cases N
  refine ⟨?_,hdone listed m S w a u y⟩;cases hr:Region.ready .any ops.toArray listed with
  |nil=>rfl
  |cons i r=>
   obtain ⟨o,_,p,h3,_⟩:=Dw u.sz (i:=i) (by rw [hr];simp);rw [y i h3] at p;cases p
 | succ n ih=>
  intro listed m S w a u hm;refine ⟨fun X=>hdone listed m S w a u (UA hback u.sz X),fun i hi=> ?_⟩;obtain ⟨o,L,C,Y,hedges⟩:=Dw u.sz hi;have v:recs[i]? =some recs[i]:=ζ (by omega);generalize recs[i]=r at v;obtain ⟨o',U,I,hstep⟩:=hsem i r v;rw [L] at U;cases U;have V:i<listed.size:=by rw [u.sz];exact Y
  have l:=Wp V;have O:Aa ops (ng (listed.setIfInBounds i true)):=by
   intro k o2 c f e he z;rw [l] at f ⊢;split
   ·rfl
   ·split at f
    ·rename_i F;subst F;rw [L] at c;cases c;exact hedges e he z
    ·exact u.cl k o2 c f e he z
  have M:∀ k q,recs[k]? =some q→k<i→(jq q.foot r.foot=true∨∃ x ∈ r.ups.map (·.1),A+4*k≤x∧x<A+4*k+4)→ng listed k=true:=by
   intro k q c F hc;have G:=hord.ok k i q r c v F hc;have p:=nN O (k:=i) (i:=k) (by rw [l,if_pos rfl]) G;rw [l,if_neg (by omega)] at p;exact p
  have hhigh:∀ k q,recs[k]? =some q→i<k→(jq r.foot q.foot=true∨∃ x ∈ q.ups.map (·.1),A+4*i≤x∧x<A+4*i+4)→ng listed k=false:=by
   intro k q c F hc;cases f:ng listed k with
   |false=>rfl
   |true=>
    have G:=hord.ok i k r q v c F hc;have p:=nN u.cl f G;rw [C] at p;cases p
  have R:∀ k q,recs[k]? =some q→(k<i→jq q.foot r.foot=true)→(i<k→jq r.foot q.foot=true)→decide (k<i)=ng listed k:=by
   intro k q c G p;rcases Xx9 k i with h|h|h
   ·rw [M k q c h (.inl (G h))];simp [h]
   ·subst h;rw [C];simp
   ·rw [hhigh k q c h (.inl (p h))];simp;omega
  have hagr':∀ k q,recs[k]? =some q→(k<i→jq q.foot r.foot=true)→(i<k→jq r.foot q.foot=true)→ng (listed.setIfInBounds i true) k=decide (k<i+1):=by
   intro k q c G p;rw [l];rcases Xx9 k i with h|h|h
   ·rw [if_neg (by omega),M k q c h (.inl (G h))];simp;omega
   ·subst h;simp
   ·rw [if_neg (by omega),hhigh k q c h (.inl (p h))];simp;omega
  have W:∀ t ∈ r.rt,(mJ s.env (recs.take i)).get t=(kS (ng listed) 0 s.env recs).get t:=by
   intro t J;rw [← wO];refine lQ recs 0 _ _ rfl fun k q c f=> ?_
   rw [Φ];exact R k q c (fun _=>RD (rQ f) J) (fun _=>Rz J (rQ f))
  have hhp:∀ b ∈ r.rb,ag (BZ s.hp (recs.take i)) b=ag (mM (ng listed) 0 s.hp recs) b:=by
   intro b z;rw [← Lu];refine oM recs 0 _ _ rfl fun k q c f=> ?_
   rw [Φ];exact R k q c (fun _=>Qa f z) (fun _=>P_ z f)
  have hfresh:∀ j,j<4→ag (mM (ng listed) 0 s.hp recs) (A+4*i+j)=none:=by
   intro j hj;have G:ag (mM (ng listed) 0 s.hp recs) (A+4*i+j)=ag (mM (fun _=>false) 0 s.hp recs) (A+4*i+j):=by
    refine oM recs 0 _ _ rfl fun k q c f=> ?_
    rw [Φ];have z:=hbound k q c _ f;rcases Xx9 k i with h|h|h
    ·omega
    ·subst h;exact C
    ·exact hhigh k q c h (.inr ⟨_,f,by omega,by omega⟩)
   rw [G,lV recs 0 _ (fun _ _=>rfl)];cases z:ag s.hp (A+4*i+j) with
   |none=>rfl
   |some B=>have:=hn0 _ _ z;omega
  have T:ops.toArray[i]? =some o:=by simpa using L
  have hgoal:Yf P ops.toArray Q o (wpAny P .any ops.toArray Q n (listed.setIfInBounds i true)) a w:=by
   refine hstep (ng listed) m S w a u.rel.srel (fun t J=>by rw [W t J];exact u.rel.env t) hhp hfresh (fun j hj=>by
    cases f:ng listed j with
    |false=>rfl
    |true=>
     have p:=nN u.cl f hj;rw [C] at p;cases p) Q _ ?_
   intro cv m' S' w' ds G p h3 h4;have hF:=u.rel.put (hnt o (Γ L)) G p h3 h4;rw [jA] at p;rw [μ] at hF;have he':∀ t,(kS (ng (listed.setIfInBounds i true)) 0 s.env recs).get t=(nY (kS (ng listed) 0 s.env recs) o.dst r.v).get t:=by
    intro t;by_cases J:o.dst=some t
    ·have h5:(kS (ng (listed.setIfInBounds i true)) 0 s.env recs).get t=(kS (fun j=>decide (j<i+1)) 0 s.env recs).get t:=by
      refine lQ recs 0 _ _ rfl fun k q c f=> ?_
      rw [Φ];have Z:t ∈ r.foot.wt:=rQ (I.trans J);exact hagr' k q c (fun _=>IG (rQ f) Z) (fun _=>IG Z (rQ f))
     rw [h5,wO,EZ _ _ _ _ v,I,J,iw,iw]
    ·rw [wR J];refine lQ recs 0 _ _ rfl fun k q c f=> ?_
     rw [Φ,l,if_neg]
     rintro rfl
     rw [v] at c;cases c;exact J (I ▸ f)
   have E:ag (mM (ng (listed.setIfInBounds i true)) 0 s.hp recs)=ag (r.ups++mM (ng listed) 0 s.hp recs):=by
    funext b;by_cases z:b ∈ r.ups.map (·.1)
    ·have h5:ag (mM (ng (listed.setIfInBounds i true)) 0 s.hp recs) b=ag (mM (fun j=>decide (j<i+1)) 0 s.hp recs) b:=by
      refine oM recs 0 _ _ rfl fun k q c f=> ?_
      rw [Φ];exact hagr' k q c (fun _=>EW f z) (fun _=>EW z f)
     rw [h5,Lu,Tf _ _ _ _ v];exact w_ z
    ·rw [pW z];refine oM recs 0 _ _ rfl fun k q c f=> ?_
     rw [Φ,l,if_neg]
     rintro rfl
     rw [v] at c;cases c;exact z f
   refine ih _ m' S' w' _ ⟨by rw [Array.size_setIfInBounds];exact u.sz,O, ?_,hF.congr he' E⟩ ?_
   ·rw [E];exact u.fr.trans p
   ·have:=zx C l (Xqf ops.length) Xx2 (by simp [Y]);simp only [Aq] at hm ⊢;omega
  simp only [wpOp,T];exact hgoal
theorem RN {ops:List Oper} {recs:List jk} {s s':RS} {q nt:Nat} (h:∀ o ∈ ops,∀ d,o.dst=some d→d<nt) (e:recs.length=ops.length) (f:Rk P ap ops 0 q s s' recs) (n:s'.dfs.length=s.dfs.length)
  (hord:Gf q (fun j i=>((Region.before ops.toArray).toList.getD j 0).testBit i) recs) (hback:pO ops=true) (hn0:∀ b B,ag s.hp b=some B→b<q) {m0:aI} {S0:aB} {w0:World} {Q:Exit→Act→World→Prop}
  (hQ:∀ m S w a,Fr (ag s.hp) m0 S0 w0 (ag (BZ s.hp recs)) m S w→FR ap (mJ s.env recs) (BZ s.hp recs) s.dfs nt m S w a→Q .normal a w):
  ∀ (fuel:Nat) (listed:Array Bool) (m:aI) (S:aB) (w:World) (a:Act),aaD ap ops recs s.env s.hp s.dfs nt m0 S0 w0 listed m S w a→Aq ops.length (ng listed)≤fuel→wpAny P .any ops.toArray Q fuel listed a w:=by
 obtain ⟨_,c⟩:=f.sem n;refine IU h e f.bound (fun k r C=> ?_) hord hback hn0 hQ;obtain ⟨o,t,E,x⟩:=c k r C;rw [Φ] at t;exact ⟨o,t,E,fun D m S w a A y l p _ Q K z=>x _ m S w a A y (fun b u B v=>by rw [← l b u];exact v) p Q K z⟩
def mQ (ap:AP) (base:Nat) (keep:List Nat) (hp0:Hp) (m:aI) (S:aB) (w:World) (nt:Nat) (s':St) (Q:Exit→Act→World→Prop):aV→Prop
 | .panic v=>match (cZ v).isEmpty with
  |true=> ∀ s1:St,s'=norm base keep s1→wz ap hp0 m S w nt s1.env s1.hp s1.dfs Q (some v)
  |false=>wz ap hp0 m S w nt s'.env s'.hp s'.dfs Q (some v)
 | .normal=> ∀ s1:St,s'=norm base keep s1→wz ap hp0 m S w nt s1.env s1.hp s1.dfs Q none
 |_=>True
theorem Hy (z:dF P ap) (F:P.follows .mixedOrders=true) (J:gY P ap H) {ops:List Oper} {l:Bool} {nt base:Nat} {keep:List Nat} (u:∀ o ∈ ops,∀ d,o.dst=some d→d<nt) {s:St} {e:aV} {s':St} {c c':Cx} {id:Nat}
  (h:Hw ap H base keep ops l s c= .ok (e,s') c') (hc:c'.Ok):c.Ok∧(s.md= .dead→s'.md= .dead∧(∀ m S w a,FR ap s.env s.hp s.dfs nt m S w a→∀ Q,
   mQ ap base keep s.hp m S w nt s' Q e→(Code.region id ops.toArray l).wp P Q a w)):=by
 unfold Hw at h;obtain ⟨⟨s1,p⟩,X,I,h⟩:=R.bind_ok h;dsimp only at h;have r:∀ b B,ag s.hp b=some B→b<fB s.hp:=fun b B q=>lG q
 cases p with
 | some v=>
  cases l with
  |true=>cases h
  | false=>
   dsimp only at h;split at h
   ·rename_i E;cases h;obtain ⟨f,hs⟩:=ku z J u ops 0 _ _ _ _ _ _ I hc;refine ⟨f,fun i=> ?_⟩;obtain ⟨x,D⟩:=hs i (fun t b q=>by cases q) rfl r;refine ⟨x,fun m S w a j Q y=>wp_region ?_⟩;simp only [mQ,E] at y;have:=D m S w a j Q (y _ rfl);rw [← Xjl] at this;simpa using this
   ·rename_i E;cases h;obtain ⟨f,hs⟩:=ku z J u ops 0 _ _ _ _ _ _ I hc;refine ⟨f,fun i=> ?_⟩;obtain ⟨x,D⟩:=hs i (fun t b q=>by cases q) rfl r;refine ⟨x,fun m S w a j Q y=>wp_region ?_⟩;simp only [mQ,E] at y;have:=D m S w a j Q y;rw [← Xjl] at this;simpa using this
 | none=>
  dsimp only at h;split at h
  ·rename_i hcond;cases h;cases l with
   |false=>
    obtain ⟨f,hs⟩:=ku z J u ops 0 _ _ _ _ _ _ I hc;refine ⟨f,fun i=> ?_⟩;obtain ⟨x,D⟩:=hs i (fun t b q=>by cases q) rfl r;refine ⟨x,fun m S w a j Q y=>wp_region ?_⟩;have:=D m S w a j Q (y _ rfl);rw [← Xjl] at this;simpa using this
   | true=>
    obtain ⟨f,hs⟩:=VA z J ops 0 _ _ _ _ _ I hc;refine ⟨f,fun i=> ?_⟩;obtain ⟨x,recs,G,n⟩:=hs i (fun t b q=>by cases q) rfl;refine ⟨x,fun m S w a j Q y=>wp_region_any F ?_⟩;simp only [Xvk,Xzl,η] at hcond;obtain ⟨⟨O,hback⟩,A⟩:=hcond;have A:=aF A;rw [n.feet,List.append_nil] at O;have M:=y _ rfl;have K:=(n.sem A).1;have C:ng (Array.replicate ops.length false)=fun _=>false:=by
     funext k;simp only [ng,Array.getD_eq_getD_getElem?];by_cases U:k<ops.length<;>simp [U]
    have N:ops.toArray.size=ops.length:=by simp
    rw [N];refine RN u G n A (Dk O) hback r (m0:=m) (S0:=S) (w0:=w) (Q:=Q) ?_ ops.length _ m S _ a ⟨by simp, ?_, ?_, ?_⟩ ?_
    ·intro V S' w' a' L W;refine M V S' w' a' ?_ ?_
     ·rw [n.hp];exact L
     ·rw [n.hp,n.env,K];exact W
    ·intro k o U T;rw [C] at T;cases T
    ·rw [C,lV recs 0 _ (fun _ _=>rfl)];exact ⟨Ge.refl _ _,gZ.refl _,rfl,rfl,rfl,ε _,fun _ _ _=>rfl,fun _ B h=> .inr ⟨B,h,rfl⟩,fun _ _ _ h=> .inl h,(MW.refl _).mb _ _⟩
    ·rw [C,lV recs 0 _ (fun _ _=>rfl),tq recs 0 _ (fun _ _=>rfl)];exact ⟨⟨j.srel.inj,fun b B q=>j.srel.blk b B q|>fun ⟨x,D,L⟩=> ⟨x,D,L⟩,j.srel.sealed,j.srel.own,j.srel.glob⟩,j.env,j.dfs,j.size⟩
    ·exact Xqh (List.length_filter_le _ _) (by simp)
  ·cases h
end
end AM
namespace AM
open Go
def zQ (acc:List Nat) (b:Nat):List Nat:=if lw acc b then acc else acc++ [b]
theorem PY (a:List Nat) (b:Nat) (h:a.Nodup):(zQ a b).Nodup∧∃ t,zQ a b=a++t:=by
 unfold zQ;split
 ·exact ⟨h,[],by simp⟩
 ·rename_i d;refine ⟨?_,[b],rfl⟩;rw [List.nodup_append];refine ⟨h,by simp, ?_⟩;intro x f y c e;simp at c;subst c;subst e;exact d (gp.2 f)
theorem mY:∀ (l acc:List Nat),acc.Nodup→(l.foldl zQ acc).Nodup∧∃ t,l.foldl zQ acc=acc++t
 | [],acc,h=> ⟨h,[],by simp⟩
 |b::r,acc,h=>by
  simp only [Xqy];obtain ⟨a,d,e⟩:=PY acc b h;obtain ⟨f,i,c⟩:=mY r _ a;exact ⟨f,d++i,by rw [c,e,Ξ]⟩
theorem A8:∀ (l acc:List Nat),l.Nodup→(∀ x ∈ l,x ∉ acc)→l.foldl zQ acc=acc++l
 | [],acc,_,_=>by simp
 | b::r,acc,h,hd=>by
  rw [Xzi] at h;have c:lw acc b=false:=by
   cases hm:lw acc b with
   |false=>rfl
   |true=>exact absurd (gp.1 hm) (hd b (by simp))
  simp only [Xqy];have:zQ acc b=acc++ [b]:=by simp [zQ,c]
  rw [this,A8 r _ h.2]
  ·simp
  ·intro x a hm;rcases List.mem_append.1 hm with hm|hm
   ·exact hd x (by simp [a]) hm
   ·simp at hm;subst hm;exact h.1 a
theorem QB (l:List Nat):fO l=l.foldl zQ []:=rfl
theorem Dc (n:Nat) (l:List Nat):(fO (Xqf n++l)).Nodup∧∃ t,fO (Xqf n++l)=Xqf n++t:=by
 rw [QB,List.foldl_append,A8 (Xqf n) [] Xx2 (by simp),μ];exact mY l _ Xx2
theorem lN (rd:bP):∀ (n:Nat) (l:List Nat),l.Nodup→(lM rd n l).Nodup∧∃ t,lM rd n l=l++t
 |0,l,h=> ⟨h,[],by simp [lM]⟩
 | n+1,l,h=>by
  simp only [lM];split
  ·exact ⟨h,[],by simp⟩
  ·obtain ⟨a,d,e⟩:=mY (l.flatMap fun b=>match rd b with|some B=>(match B.pr with|true=> []|false=>bG B.cells)|none=> []) l h;obtain ⟨f,i,c⟩:=lN rd n _ a;refine ⟨f,d++i, ?_⟩;exact c.trans (by rw [e,Ξ])
theorem yc {f:Nat→AV}:∀ (keep:List Nat) (t:Nat),ag (keep.map fun t=>(t,f t)) t=if t ∈ keep then some (f t) else none
 | [],t=>by simp [ag]
 | a::r,t=>by
  simp only [χ,ag,yc r t];cases h:Δ a t with
  |true=>have:=aF h;subst this;simp
  |false=>
   have b:t ≠ a:=by intro e;subst e;simp at h
   simp [b]
theorem rP {rd:bP} {mk:Nat→aK→aK}:∀ (ids:List Nat) (j p:Nat),ag ((ids.zipIdx j).filterMap fun (b,p)=>(rd b).map fun B=>(p,mk p B)) p=if j≤p then (ids[p - j]?).bind fun b=>(rd b).map (mk p) else none
 | [],j,p=>by simp [ag]
 | a ::r,j,p=>by
  have i:=rP (rd:=rd) (mk:=mk) r (j+1) p;rw [List.zipIdx_cons];cases c:rd a with
  | none=>
   rw [Xwf (by simp [c]),i];by_cases hj:j+1≤p
   ·rw [if_pos hj,if_pos (by omega)];obtain ⟨d,f⟩:∃ d,p - j=d+1:=⟨p - j - 1,by omega⟩
    rw [f,Xxt,show p - (j+1)=d by omega]
   ·rw [if_neg hj];by_cases hjp:j≤p
    ·rw [if_pos hjp,show p - j=0 by omega];simp [c]
    ·rw [if_neg hjp]
  | some B=>
   rw [Xwg (by simp [c];rfl)];simp only [ag];cases h:Δ j p with
   |true=>have:=aF h;subst this;simp [c]
   | false=>
    have k:j ≠ p:=by intro e;subst e;simp at h
    simp only [i];by_cases hj:j+1≤p
    ·rw [if_pos hj,if_pos (by omega)];obtain ⟨d,f⟩:∃ d,p - j=d+1:=⟨p - j - 1,by omega⟩
     rw [f,Xxt,show p - (j+1)=d by omega]
    ·rw [if_neg hj,if_neg (by omega)]
theorem yx:∀ {l:List Nat},l.Nodup→qc l=true
 | [],_=>rfl
 |b::r,h=>by
  rw [Xzi] at h;simp only [qc,η,Xqk];refine ⟨?_,yx h.2⟩;cases hm:lw r b with
  |false=>rfl
  |true=>exact absurd (gp.1 hm) h.1
section
variable {P:Program} {ap:AP} {H:bI}
theorem wo {g g':bP} {m c:aI} {S S':aB} {ρ:Nat→Nat→Option (Nat × Nat)} (b:gZ S S') (h:mV g m g' c ρ):∀ {l:List (Nat × List AV)} {ds:List Deferred},dW g m S l ds→dW g' c S' (l.map fun d=>(d.1,jO ρ d.2)) ds
 | [],[],_=>by simp [dW]
 |d::r,cd::cr,p=>by
  simp only [dW] at p;obtain ⟨⟨a,f,i⟩,e⟩:=p;simp only [χ,dW];exact ⟨⟨a,f,iI b h _ i⟩,wo b h e⟩
 | [],_::_,p=>by simp [dW] at p
 |_::_,[],p=>by simp [dW] at p
theorem jd {h0:List aK} {keep:List Nat} {s:St} {nt:Nat} {m m0:aI} {S S0:aB} {w w0:World} {a:Act} (c:Fr (aC h0) m0 S0 w0 (ag s.hp) m S w) (C:FR ap s.env s.hp s.dfs nt m S w a):
  ∃ m',Fr (aC h0) m0 S0 w0 (ag (norm h0.length keep s).hp) m' S w∧FR ap (norm h0.length keep s).env (norm h0.length keep s).hp (norm h0.length keep s).dfs nt m' S w a:=by
 obtain ⟨_,t0,Q⟩:=lN (ag s.hp) 20 (Xqf h0.length) Xx2;generalize hroots:t0++(rF keep s.env++s.dfs.flatMap (fun d=>bG d.2))=roots;have hroots':lM (ag s.hp) 20 (Xqf h0.length)++rF keep s.env++s.dfs.flatMap (fun d=>bG d.2)=Xqf h0.length++roots:=by rw [← hroots,Q];simp only [Ξ]
 obtain ⟨T,t1,K⟩:=Dc h0.length roots;obtain ⟨W,t2,I⟩:=lN (ag s.hp) 20 _ T;rw [K,Ξ] at I;have hsome:∀ b,b<h0.length→∃ B0 B,aC h0 b=some B0∧ag s.hp b=some B∧B.esz=B0.esz∧((B.ver=B0.ver∧m b=m0 b)∨B0.ver<B.ver):=by
  intro b z;obtain ⟨B,k,l⟩:=c.ge b h0[b] (by simp [aC,z]);exact ⟨h0[b],B,by simp [aC,z],k,l⟩
 generalize n:(lM (ag s.hp) 20 (fO (Xqf h0.length++roots))).filter (fun b=>(ag s.hp b).isSome)=ids;have O:ids.Nodup:=by rw [← n];exact W.filter _
 have D:=yx O;have x:∃ t,ids=Xqf h0.length++t:=by
  rw [← n,K,I,List.filter_append];refine ⟨_,congrArg (· ++_) ?_⟩;rw [List.filter_eq_self];intro b z;obtain ⟨_,B,_,l,_⟩:=hsome b (by simpa using z);simp [l]
 obtain ⟨t,x⟩:=x;have u:∀ b,b<h0.length→ids[b]? =some b:=by
  intro b z;rw [x,Xqa (by simpa using z)];simp [z]
 have J:∀ (p b:Nat),ids[p]? =some b→∃ B,ag s.hp b=some B:=by
  intro p b hp;have:=Γ hp;rw [← n,Xxa] at this;exact Option.isSome_iff_exists.1 this.2
 let ρ:Nat→Nat→Option (Nat × Nat):=fun b v=>match ag s.hp b with
  |some B=>match Δ B.ver v with
   |true=>(mO ids b).map fun p=>(p,match Xq5 p h0.length with|true=>v|false=>0)
   |false=>none
  |none=>none
 let mk:Nat→aK→aK:=fun p B=> {B with cells:=(match B.pr with|true=>B.cells|false=>jO ρ B.cells),ver:=match Xq5 p h0.length with|true=>B.ver|false=>0}
 have hnorm:norm h0.length keep s=⟨keep.map fun t=>(t,ren ρ (s.env.get t)),ids.zipIdx.filterMap fun (b,p)=>(ag s.hp b).map fun B=>(p,mk p B),s.md,s.dfs.map fun d=>(d.1,jO ρ d.2)⟩:=by
  unfold norm;simp only [hroots',n];rfl
 rw [hnorm];dsimp only;have A:∀ p,ag (ids.zipIdx.filterMap fun (b,p)=>(ag s.hp b).map fun B=>(p,mk p B)) p=(ids[p]?).bind fun b=>(ag s.hp b).map (mk p):=by
  intro p;rw [rP (rd:=ag s.hp) (mk:=mk) ids 0 p,if_pos (Xqp _),Nat.sub_zero]
 generalize (ids.zipIdx.filterMap fun (b,p)=>(ag s.hp b).map fun B=>(p,mk p B))=hp2 at A;have f:∀ (p:Nat) (B2:aK),ag hp2 p=some B2→∃ b B,ids[p]? =some b∧ag s.hp b=some B∧B2=mk p B:=by
  intro p B2 h;rw [A] at h;cases hp:ids[p]? with
  |none=>rw [hp] at h;cases h
  |some b=>
   rw [hp] at h;obtain ⟨B,L⟩:=J p b hp;simp only [Xjx,L,Xqr,Option.some.injEq] at h;exact ⟨b,B,rfl,L,h.symm⟩
 let m2:aI:=fun p=>m (ids.getD p 0)
 have j:∀ (p b:Nat),ids[p]? =some b→m2 p=m b:=by
  intro p b hp;show m (ids.getD p 0)=_;rw [π,hp];rfl
 have y:mV (ag s.hp) m (ag hp2) m2 ρ:=by
  intro b ver p Z h B L hver;simp only [ρ,L] at h;split at h
  ·rename_i G;have G:=aF G;simp only [Xqb,Prod.mk.injEq] at h;obtain ⟨q,F,rfl,rfl⟩:=h;have F:=lF F;refine ⟨mk q B, ?_, ?_,fun _=> ⟨G,j q b F,rfl⟩⟩
   ·rw [A,F];simp [L]
   ·simp only [mk];split
    ·omega
    ·exact ε _
  ·cases h
 have E:∀ (p q b:Nat),ids[p]? =some b→ids[q]? =some b→p=q:=by
  intro p q b hp F;have Y:=kF D hp;rw [kF D F] at Y;cases Y;rfl
 refine ⟨m2, ?_, ?_, ?_, ?_,C.size⟩
 ·refine ⟨?_,c.sle,c.os,c.tape,c.output,c.size,c.rest, ?_,c.sealN,fun p B2 hp=>by
   obtain ⟨b,B,k,l,rfl⟩:=f p B2 hp;rw [j p b k];exact c.mw b B l⟩
  ·intro b B0 z;have r:b<h0.length:=(List.getElem?_eq_some_iff.1 z).1;obtain ⟨B0',B,k,l,N,V⟩:=hsome b r;rw [z] at k;cases k;have U:Xq5 b h0.length=true:=Xqe r;refine ⟨mk b B,by rw [A,u b r];simp [l],N, ?_⟩;simp only [mk,U];rw [j b b (u b r)];exact V
  ·intro p B2 hp;obtain ⟨b,B,k,l,rfl⟩:=f p B2 hp;rw [j p b k];rcases c.img b B l with h|⟨B0,N,V⟩
   ·exact .inl h
   ·have r:b<h0.length:=(List.getElem?_eq_some_iff.1 N).1;have:=E p b b k (u b r);subst this;exact .inr ⟨B0,N,V⟩
 ·refine ⟨?_, ?_,C.srel.sealed, ?_,C.srel.glob⟩
  ·intro p q B2 B2' hp F e;obtain ⟨b,B,k,l,rfl⟩:=f p B2 hp;obtain ⟨b',B',M,R,rfl⟩:=f q B2' F;rw [j p b k,j q b' M] at e;have:=C.srel.inj b b' B B' l R e;subst this;exact E p q b k M
  ·intro p B2 hp;obtain ⟨b,B,k,l,rfl⟩:=f p B2 hp;rw [j p b k];obtain ⟨⟨cur,e,vs,rest,k1,k2,k3,k4,k5,k6⟩,k7,k8⟩:=C.srel.blk b B l;cases i:B.pr with
   |true=>exact ⟨⟨cur,e,vs,rest,k1,k2,fun _=>by simpa [mk,i] using k3 i,by simpa [mk,i] using aZ _ (k3 i),k5,k6⟩,k7,by simpa [mk,i] using k8⟩
   | false=>
    have G:=iI (gZ.refl S) y _ k4;exact ⟨⟨cur,e,vs,rest,k1,k2,fun h=>by simp [mk,i] at h,by simpa [mk,i] using G,k5,k6⟩,k7,by
     have:(mk p B).cells.length=B.cells.length:=by simp only [mk,i];rw [aY k4,aY G]
     rw [this];exact k8⟩
  ·intro p B2 hp o v X;obtain ⟨b,B,k,l,rfl⟩:=f p B2 hp;rw [j p b k] at X;exact C.srel.own b B l o v X
 ·intro t;simp only [dE.get,yc];by_cases ht:t ∈ keep
  ·rw [if_pos ht];exact qX (gZ.refl S) y _ (C.env t)
  ·rw [if_neg ht];simp [VR]
 ·exact wo (gZ.refl S) y C.dfs
end
end AM
namespace AM
open Go
mutual
theorem oI {g g':bP} {m n:aI} {S S':aB} (i:gZ S S'):∀ (x:AV) {v:Value},(∀ b ∈ cZ x,g' b=g b∧n b=m b)→VR g m S x v→VR g' n S' x v
 | .int _ _,_,_,p=>by simpa only [VR,PR] using p
 | .bool _,_,_,p=>by simpa only [VR,PR] using p
 | .str _,_,_,p=>by simpa only [VR,PR] using p
 | .nilS,_,_,p=>by simpa only [VR,PR] using p
 | .nilP,_,_,p=>by simpa only [VR,PR] using p
 | .raw _,_,_,p=>by simpa only [VR,PR] using p
 | .nilF,_,_,p=>by simpa only [VR,PR] using p
 | .nilI,_,_,p=>by simpa only [VR,PR] using p
 | .sl _ _ _,_,_,p=>by simp only [VR] at p ⊢;exact bK i _ p
 | .pp _ _,_,_,p=>by simp only [VR] at p ⊢;exact bK i _ p
 | .mp _ _,_,_,p=>by simp only [VR] at p ⊢;exact bK i _ p
 | .dead,_,_,_=>by simp only [VR]
 | .own _ _ _,_,_,p=>by simp only [VR] at p
 | .ref b _ _ _,_,h,p=>by
  obtain ⟨j,k⟩:=h b (by simp [cZ]);simp only [VR] at p ⊢;rw [j,k];exact p
 | .ptr b _ _,_,h,p=>by
  obtain ⟨j,k⟩:=h b (by simp [cZ]);simp only [VR] at p ⊢;rw [j,k];exact p
 | .mr b _,_,h,p=>by
  obtain ⟨j,k⟩:=h b (by simp [cZ]);simp only [VR] at p ⊢;rw [j,k];exact p
 | .agg l,_,h,p=>by
  simp only [VR] at p ⊢;obtain ⟨vs,e,q⟩:=p;exact ⟨vs,e,jl i l (fun b d=>h b (by simpa [cZ] using d)) q⟩
 | .tup l,_,h,p=>by
  simp only [VR] at p ⊢;obtain ⟨vs,e,q⟩:=p;exact ⟨vs,e,jl i l (fun b d=>h b (by simpa [cZ] using d)) q⟩
 | .fn f a c,_,h,p=>by
  simp only [VR] at p ⊢;obtain ⟨s,o,e,q,r⟩:=p;exact ⟨s,o,e,jl i a (fun b d=>h b (by simp [cZ,d])) q,jl i c (fun b d=>h b (by simp [cZ,d])) r⟩
 | .ifc t x,_,h,p=>by
  simp only [VR] at p ⊢;obtain ⟨u,e,q⟩:=p;exact ⟨u,e,oI i x (fun b d=>h b (by simpa [cZ] using d)) q⟩
theorem jl {g g':bP} {m d:aI} {S S':aB} (c:gZ S S'):∀ (l:List AV) {vs:List Value},(∀ b ∈ bG l,g' b=g b∧d b=m b)→aX g m S l vs→aX g' d S' l vs
 | [],[],_,_=>by simp only [aX]
 |x::r,v::vs,h,p=>by
  simp only [aX] at p ⊢;exact ⟨oI c x (fun b a=>h b (by simp [bG,a])) p.1,jl c r (fun b a=>h b (by simp [bG,a])) p.2⟩
 | [],_::_,_,p=>by simp [aX] at p
 |_::_,[],_,p=>by simp [aX] at p
end
theorem lm {g:bP} {m:aI} {S:aB} {x:AV} {v:Value} (h:(cZ x).isEmpty=true) (d:VR g m S x v):PR S x v:=by
 have c:cZ x= []:=by simpa using h
 exact lJ (m:=m) x (oI (gZ.refl S) x (fun b a=>by rw [c] at a;cases a) d)
def uK (nt:Nat) (o:Oper):Bool:=match o.dst with|some d=>Xq5 d nt|none=>true
def dm (nt:Nat):Code→Bool
 | .region _ ops _=>ops.toList.all (uK nt)
 | .seq a b=>dm nt a && dm nt b
 | .cond _ a b=>dm nt a && dm nt b
 | .block _ b=>dm nt b
 | .loop b=>dm nt b
 | .scope b=>dm nt b
 |_=>true
section
variable {P:Program} {ap:AP} {H:bI}
def lH (hp:Hp) (m:aI) (S:aB) (Q:Exit→Act→World→Prop) (a:Act) (w:World):aV→Prop
 | .normal=>Q .normal a w
 | .exit id=>Q (.exit id) a w
 | .ret=>Q .ret a w
 | .panic v=> ∀ cv,VR (ag hp) m S v cv→Q (.panic [{v:=cv,recovered:=false}]) a w
def XA (ap:AP) (h0:List aK) (m0:aI) (S0:aB) (w0:World) (nt:Nat) (s':St) (e:aV) (Q:Exit→Act→World→Prop):Prop:=
 ∀ m' S' w' a',Fr (aC h0) m0 S0 w0 (ag s'.hp) m' S' w'→FR ap s'.env s'.hp s'.dfs nt m' S' w' a'→lH s'.hp m' S' Q a' w' e
def af (P:Program) (ap:AP) (h0:List aK) (nt:Nat) (code:Code) (s:St) (e:aV) (s':St):Prop:=
 s.md= .dead→s'.md= .dead∧∀ m0 S0 w0 m S w a,Fr (aC h0) m0 S0 w0 (ag s.hp) m S w→FR ap s.env s.hp s.dfs nt m S w a→∀ Q,XA ap h0 m0 S0 w0 nt s' e Q→code.wp P Q a w
theorem af.still {h0:List aK} {nt:Nat} {b:Code} {s:St} {e:aV} (h:∀ (Q:Exit→Act→World→Prop) hp m S a w,lH hp m S Q a w e→b.wp P Q a w):af P ap h0 nt b s e s:=
 fun c=> ⟨c,fun _ _ _ m S w a d f Q i=>h Q s.hp m S a w (i m S w a d f)⟩
theorem Cb {h0:List aK} {nt:Nat} {b:Code} {f:St→Cx→R (aV × St)} (z:∀ s e s' c c',f s c= .ok (e,s') c'→c'.Ok→c.Ok∧af P ap h0 nt b s e s'):
  ∀ (n:Nat) (s:St) (e:aV) (s':St) (c c':Cx),N7 f n s c= .ok (e,s') c'→c'.Ok→c.Ok∧(s.md= .dead→s'.md= .dead∧∀ m0 S0 w0 m S w a,Fr (aC h0) m0 S0 w0 (ag s.hp) m S w→FR ap s.env s.hp s.dfs nt m S w a→∀ Q,XA ap h0 m0 S0 w0 nt s' e Q→Code.rounds P b Q n a w)
 |0,s,e,s',c,c',h,hc=>by cases h
 | n+1,s,e,s',c,c',h,hc=>by
  simp only [N7] at h;obtain ⟨⟨p,s1⟩,C,B,h⟩:=R.bind_ok h;dsimp only at h;have hother:p ≠ .normal→R.ok (p,s1) C=R.ok (e,s') c'→c.Ok∧(s.md= .dead→s'.md= .dead∧∀ m0 S0 w0 m S w a,Fr (aC h0) m0 S0 w0 (ag s.hp) m S w→FR ap s.env s.hp s.dfs nt m S w a→∀ Q,XA ap h0 m0 S0 w0 nt s' e Q→Code.rounds P b Q (n+1) a w):=by
   intro x D;cases D;obtain ⟨d,k⟩:=z _ _ _ _ _ B hc;refine ⟨d,fun i=> ?_⟩;obtain ⟨u,t⟩:=k i;refine ⟨u,fun m0 S0 w0 m S w a j q Q y=>t m0 S0 w0 m S w a j q _ ?_⟩;intro o S' w' a' A r;have:=y o S' w' a' A r;cases e with
   |normal=>exact absurd rfl x
   |exit id=>exact this
   |ret=>exact this
   |panic v=>exact this
  cases p with
  |normal=>
   dsimp only at h;obtain ⟨l,F⟩:=Cb z n s1 e s' C c' h hc;obtain ⟨d,k⟩:=z _ _ _ _ _ B l;refine ⟨d,fun i=> ?_⟩;obtain ⟨u,t⟩:=k i;obtain ⟨A,r⟩:=F u;refine ⟨A,fun m0 S0 w0 m S w a j q Q y=>t m0 S0 w0 m S w a j q _ ?_⟩;intro o S' w' a' G E;exact r m0 S0 w0 o S' w' a' G E Q y
  |exit id=>exact hother (by simp) h
  |ret=>exact hother (by simp) h
  |panic v=>exact hother (by simp) h
theorem dN (p:dF P ap) (i:P.follows .mixedOrders=true) (J:gY P ap H) {h0:List aK} {keep:List Nat} {lf nt:Nat}:∀ (code:Code),dm nt code=true→∀ (s:St) (e:aV) (s':St) (c c':Cx),jR ap H h0.length keep lf code s c= .ok (e,s') c'→c'.Ok→c.Ok∧af P ap h0 nt code s e s'
 | .skip,_,s,e,s',c,c',h,n=>by
  cases h;exact ⟨n,af.still fun Q hp m S a w q=>wp_skip q⟩
 | .label l,_,s,e,s',c,c',h,n=>by
  cases h;exact ⟨n,af.still fun Q hp m S a w q=>wp_label q⟩
 | .exit id,_,s,e,s',c,c',h,n=>by
  cases h;exact ⟨n,af.still fun Q hp m S a w q=>wp_exit q⟩
 | .ret,_,s,e,s',c,c',h,n=>by
  cases h;exact ⟨n,af.still fun Q hp m S a w q=>wp_ret q⟩
 | .region id ops draw,hd,s,e,s',c,c',h,n=>by
  have Y:∀ o ∈ ops.toList,∀ d,o.dst=some d→d<nt:=by
   intro o ho d W;have:=List.all_eq_true.1 hd o ho;simp only [uK,W] at this;exact dR this
  obtain ⟨j,hr⟩:=Hy p i J Y (id:=id) h n;refine ⟨j,fun k=> ?_⟩;obtain ⟨F,h2⟩:=hr k;refine ⟨F,fun m0 S0 w0 m S w a f u Q D=> ?_⟩;have:=h2 m S w a u Q;rw [Array.toArray_toList] at this;refine this ?_;cases e with
  |normal=>
   intro s1 L E S' w' a' C B;obtain ⟨V,r,A⟩:=jd (keep:=keep) (f.trans C) B;rw [← L] at r A;exact D V S' w' a' r A
  | panic v=>
   simp only [mQ];split
   ·rename_i Z;intro s1 L E S' w' a' cv C B r;obtain ⟨V,A,U⟩:=jd (keep:=keep) (f.trans C) B;rw [← L] at A U;exact D V S' w' a' A U cv (d_ _ (lm Z r))
   ·intro E S' w' a' cv C B r;exact D E S' w' a' (f.trans C) B cv r
  |exit id=>trivial
  |ret=>trivial
 | .seq x y,hd,s,e,s',c,c',h,n=>by
  simp only [dm,η] at hd;simp only [jR] at h;obtain ⟨⟨K,s1⟩,N,F,h⟩:=R.bind_ok h;dsimp only at h;have hother:K ≠ .normal→R.ok (K,s1) N=R.ok (e,s') c'→c.Ok∧af P ap h0 nt (.seq x y) s e s':=by
   intro M O;cases O;obtain ⟨j,G⟩:=dN p i J x hd.1 _ _ _ _ _ F n;refine ⟨j,fun k=> ?_⟩;obtain ⟨C,B⟩:=G k;refine ⟨C,fun m0 S0 w0 m S w a f u Q D=>wp_seq (B m0 S0 w0 m S w a f u _ ?_)⟩;intro E S' w' a' r A;have:=D E S' w' a' r A;cases e with
   |normal=>exact absurd rfl M
   |exit id=>exact this
   |ret=>exact this
   |panic v=>exact this
  cases K with
  |normal=>
   dsimp only at h;obtain ⟨I,ih⟩:=dN p i J y hd.2 _ _ _ _ _ h n;obtain ⟨j,G⟩:=dN p i J x hd.1 _ _ _ _ _ F I;refine ⟨j,fun k=> ?_⟩;obtain ⟨C,B⟩:=G k;obtain ⟨r,A⟩:=ih C;refine ⟨r,fun m0 S0 w0 m S w a f u Q D=>wp_seq (B m0 S0 w0 m S w a f u _ ?_)⟩;intro E S' w' a' U h8;exact A m0 S0 w0 E S' w' a' U h8 Q D
  |exit id=>exact hother (by simp) h
  |ret=>exact hother (by simp) h
  |panic v=>exact hother (by simp) h
 | .cond t x y,hd,s,e,s',c,c',h,n=>by
  simp only [dm,η] at hd;simp only [jR] at h;split at h
  ·rename_i bv hbv;obtain ⟨b',N,F,h⟩:=R.bind_ok h;have key:∀ (z:Code),(N.Ok→N.Ok∧z=if bv then x else y)→N.Ok∧af P ap h0 nt z s e s'→c.Ok∧af P ap h0 nt (.cond t x y) s e s':=by
    rintro z hzz ⟨I,ih⟩
    obtain ⟨j,hb⟩:=jV F I;refine ⟨j,fun k=> ?_⟩;obtain ⟨r,A⟩:=ih k;refine ⟨r,fun m0 S0 w0 m S w a f u Q D=>wp_cond (t:=bv) ?_ ?_⟩
    ·have:=vI u.srel (a:=a) (env:=s.env) t (fun t _=>u.env t);rw [hbv] at this;simpa only [VR,PR] using this
    ·rw [← (hzz I).2];exact A m0 S0 w0 m S w a f u Q D
   cases b' with
   |true=>exact key x (fun T=> ⟨T,by rw [← (jV F T).2];rfl⟩) (dN p i J x hd.1 _ _ _ _ _ h n)
   |false=>exact key y (fun T=> ⟨T,by rw [← (jV F T).2];rfl⟩) (dN p i J y hd.2 _ _ _ _ _ h n)
  ·cases h
 | .block id b,hd,s,e,s',c,c',h,n=>by
  simp only [dm] at hd;simp only [jR] at h;obtain ⟨⟨K,s1⟩,N,F,h⟩:=R.bind_ok h;dsimp only at h;have X:N=c':=by
   cases K<;>dsimp only at h
   ·cases h;rfl
   ·split at h<;>cases h<;>rfl
   ·cases h;rfl
   ·cases h;rfl
  subst X;obtain ⟨j,G⟩:=dN p i J b hd _ _ _ _ _ F n;refine ⟨j,fun k=> ?_⟩;obtain ⟨C,B⟩:=G k;have hs:s1=s':=by
   cases K<;>dsimp only at h
   ·cases h;rfl
   ·split at h<;>cases h<;>rfl
   ·cases h;rfl
   ·cases h;rfl
  subst hs;refine ⟨C,fun m0 S0 w0 m S w a f u Q D=>wp_block (B m0 S0 w0 m S w a f u _ ?_)⟩;intro E S' w' a' r A;have q:=D E S' w' a' r A;cases K with
  |normal=>cases h;exact q
  |ret=>cases h;exact q
  |panic v=>cases h;exact q
  | exit id'=>
   dsimp only at h;split at h
   ·rename_i O;cases h;show Exit.inBlock id Q (.exit id') a' w';simp only [Exit.inBlock,if_pos (aF O)];exact q
   ·rename_i O;cases h;show Exit.inBlock id Q (.exit id') a' w';have M:id' ≠ id:=by intro e;subst e;simp at O
    simp only [Exit.inBlock,if_neg M];exact q
 | .loop b,hd,s,e,s',c,c',h,n=>by
  simp only [dm] at hd;simp only [jR] at h;obtain ⟨j,G⟩:=Cb (fun s e s' c c' h n=>dN p i J b hd s e s' c c' h n) lf s e s' c c' h n;refine ⟨j,fun k=> ?_⟩;obtain ⟨C,B⟩:=G k;exact ⟨C,fun m0 S0 w0 m S w a f u Q D=>wp_loop_rounds lf (B m0 S0 w0 m S w a f u Q D)⟩
 | .scope b,hd,s,e,s',c,c',h,n=>by
  simp only [dm] at hd;simp only [jR] at h;obtain ⟨j,G⟩:=dN p i J b hd _ _ _ _ _ h n;refine ⟨j,fun k=> ?_⟩;obtain ⟨C,B⟩:=G k;refine ⟨C,fun m0 S0 w0 m S w a f u Q D=>wp_scope_straight (B m0 S0 w0 m S w a f u _ ?_)⟩;intro E S' w' a' r A;have q:=D E S' w' a' r A;cases e with
  |normal=>exact q
  |exit id=>exact q
  |ret=>exact q
  |panic v=>exact q
 | .rangeFunc _ _ _ _,_,s,e,s',c,c',h,n=>by cases h
 | .goto _,_,s,e,s',c,c',h,n=>by cases h
 | .refuse _,_,s,e,s',c,c',h,n=>by cases h
end
end AM
