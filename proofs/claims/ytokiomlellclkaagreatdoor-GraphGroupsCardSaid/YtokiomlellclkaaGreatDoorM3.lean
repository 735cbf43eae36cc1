/- The abstract machine over the code of the model, and the proof that it is sound. No conditions. -/
import Derived.Test.YtokiomlellclkaaGreatDoorM2
import Derived.Orders
import Derived.LoopN
import Derived.Scope
set_option linter.unusedSimpArgs false
set_option linter.unusedVariables false
open List renaming map_cons→Γ,getElem?_cons_succ→Xxx,filterMap_cons_none→Xwc,filterMap_cons_some→Xwd,mem_cons→Xqo,getElem?_append_left→υ,nil_append→Xqj,length_nil→Xqf,getElem?_eq_getElem→δ,getElem?_eq_none→Xxl,mem_of_getElem?→ο,getD_eq_getElem?_getD→γ,getElem?_map→φ,append_assoc→Xqi,mem_cons_self→Xxg,mem_cons_of_mem→Θ,drop_drop→Xjo,length_cons→τ,range'_succ→Xzt,take_zero→Xkc,take_succ_cons→Xx7,eq_nil_of_length_eq_zero→Xq0,foldl_cons→Xqw,all_eq_true→Xji,mem_zipIdx_iff_getElem?→Xjd,range→Ψ,nodup_cons→Xxo,mem_filter→Xq7,mem_range→Xju,size_toArray→Xxe,nodup_range→Xxr,range_eq_range'→Xjb
open Nat renaming add_assoc→Xx9,beq→Δ,le_of_not_lt→Xvr,le_refl→ζ,lt_of_lt_of_le→Xqy,zero_add→Φ,zero_le→Xqn,le_trans→Xqg,add_zero→Xxf,eq_of_beq_eq_true→Xqv,blt→Xxc,ble_eq_true_of_le→ξ,lt_trichotomy→Xj4
open Bool renaming and_eq_true→ε,not_eq_true'→Xqe,or_eq_true→Xq9,not_true→Xvb,false_or→Xz0
open Option renaming map_eq_some_iff→Ξ,bind_some→Xza,map_some→Xqu,getD_some→Xqt
namespace AM
open Go
def ax (h:List az):bD:=fun b=>h[b]?
def gY (gh gf:bD) (m:aB) (S:au):Nat→List AV→List Value→Prop
 |_,[],[]=>True
 |n,.own _ k _::r,v::vs=>VR gf m S (.ref n 0 0 k) v∧gY gh gf m S (n+1) r vs
 |n,x::r,v::vs=>VR gh m S x v∧gY gh gf m S n r vs
 |_,_,_=>False
def uV (gh gf:bD) (m:aB) (S:au) (n:Nat):AV→Value→Prop
 | .tup l,v=> ∃ vs,v= .tuple vs.toArray∧gY gh gf m S n l vs
 | .own _ k _,v=>VR gf m S (.ref n 0 0 k) v
 |x,v=>VR gh m S x v
def h_ (n:Nat):gV→List az
 | .ret v=>(iE n v).2
 | .pan _=> []
def VA (h':List az) (m':aB) (S':au):gV→Ending→Prop
 | .ret v,e=> ∃ cv,e= .returned cv∧uV (ax h') (ax (h'++(iE h'.length v).2)) m' S' h'.length v cv
 | .pan v,e=> ∃ cv,e= .panicked [{v:=cv,recovered:=false}]∧VR (ax h') m' S' v cv
structure zT (ap:AP) (h:List az) (m:aB) (S:au) (w:World) (out:gV) (h':List az) (m':aB) (S':au) (w':World) (e:Ending):Prop where
 srel:aZ ap (ax (h'++h_ h'.length out)) m' S' w'
 fr:Fr (ax h) m S w (ax (h'++h_ h'.length out)) m' S' w'
 out:VA h' m' S' out e
def oV (P:Program) (f:Nat):Prop:=∀ args w,(callFunc f args).run P w= .ok (.enter f args) w
structure ae (P:Program) (ap:AP) (f:Nat) (args:List AV) (h:List az) (out:gV) (h':List az):Prop where
 len:h.length≤h'.length
 ent:oV P f
 calls:∀ m S w cargs,aZ ap (ax h) m S w→aS (ax h) m S args cargs→Calls P f cargs.toArray w fun e w'=> ∃ m' S',zT ap h m S w out h' m' S' w' e
def gp (P:Program) (ap:AP) (H:bi):Prop:=∀ c f args h out h' md' c',H c .dead f args h= .ok (out,h',md') c'→c'.Ok→c.Ok∧ae P ap f args h out h'
section
variable {P:Program} {ap:AP} {g:bD} {m:aB} {S:au} {w:World}
mutual
theorem lC {m:aB} {S:au}:∀ (x:AV) {v:Value},VR (ax []) m S x v→PR S x v
 | .int _ _,_,p=>by simpa only [VR] using p
 | .bool _,_,p=>by simpa only [VR] using p
 | .str _,_,p=>by simpa only [VR] using p
 | .nilS,_,p=>by simpa only [VR] using p
 | .nilP,_,p=>by simpa only [VR] using p
 | .raw _,_,p=>by simpa only [VR] using p
 | .nilF,_,p=>by simpa only [VR] using p
 | .nilI,_,p=>by simpa only [VR] using p
 | .sl _ _ _,_,p=>by simpa only [VR] using p
 | .pp _ _,_,p=>by simpa only [VR] using p
 | .mp _ _,_,p=>by simpa only [VR] using p
 | .dead,_,_=>by simp only [PR]
 | .own _ _ _,_,p=>by simp only [VR] at p
 | .ref _ _ _ _,_,p=>by simp [VR,ax] at p
 | .ptr _ _ _,_,p=>by simp [VR,ax] at p
 | .mr _ _,_,p=>by simp [VR,ax] at p
 | .agg l,_,p=>by
  simp only [VR] at p;simp only [PR];obtain ⟨vs,e,q⟩:=p;exact ⟨vs,e,jb l q⟩
 | .tup l,_,p=>by
  simp only [VR] at p;simp only [PR];obtain ⟨vs,e,q⟩:=p;exact ⟨vs,e,jb l q⟩
 | .fn f a c,_,p=>by
  simp only [VR] at p;simp only [PR];obtain ⟨b,vc,e,q,r⟩:=p;exact ⟨b,vc,e,jb a q,jb c r⟩
 | .ifc t x,_,p=>by
  simp only [VR] at p;simp only [PR];obtain ⟨u,e,q⟩:=p;exact ⟨u,e,lC x q⟩
theorem jb {m:aB} {S:au}:∀ (l:List AV) {vs:List Value},aS (ax []) m S l vs→a_ S l vs
 | [],[],_=>by simp only [a_]
 |x::r,v::vs,p=>by simp only [aS] at p;simp only [a_];exact ⟨lC x p.1,jb r p.2⟩
 | [],_::_,p=>by simp [aS] at p
 |_::_,[],p=>by simp [aS] at p
end
theorem Yb (z:aZ ap g m S w) {M p:bD} {Y x:aB} {Sp S':au} {w':World} (L:aZ ap p x S' w') (r:Fr M Y Sp w p x S' w') (ι:Nat→Nat)
  (hdom:∀ i Bc,M i=some Bc→∃ B,g (ι i)=some B∧Y i=m (ι i))
  (hSp:gK S Sp) (hSpN:∀ k o v,Sp k o=some v→S k o=some v∨∃ b B,g b=some B∧(m b).1=k) {gN:bD} {mN:aB} (ρ:Nat→Nat→Option (Nat × Nat)) (hρ:mX p x gN mN ρ)
  (hnew:∀ i Bc,p i=some Bc→∃ B,gN (ι i)=some B∧mN (ι i)=x i∧B.esz=Bc.esz∧B.fro=Bc.fro∧B.fz=Bc.fz∧B.pr=Bc.pr∧(Bc.pr=true→B.cells=Bc.cells)∧(Bc.pr=false→B.cells=jG ρ Bc.cells))
  (c:∀ b B,gN b=some B→(∃ i Bc,p i=some Bc∧b=ι i)∨(∃ B0,g b=some B0∧mN b=m b∧B.cells=B0.cells∧B.pr=B0.pr∧B.esz=B0.esz∧(B.fro=false→B.fz=0)∧B.fz≤B.cells.length∧(∀ i Bc,M i=some Bc→b ≠ ι i)∧(∀ o v,Sp (m b).1 o=some v→B.fro=true∧o<B.fz)))
  (hge:Ge g m gN mN):aZ ap gN mN S' w'∧Fr g m S w gN mN S' w':=by
 have u:gK S S':=hSp.trans r.sle;have hcross:∀ b B0 i Bc,g b=some B0→p i=some Bc→(∀ i Bc,M i=some Bc→b ≠ ι i)→(m b).1 ≠ (x i).1:=by
  intro b B0 i Bc n a l e;have N:=z.lt n;rcases r.img i Bc a with d|⟨B1,d,y⟩
  ·omega
  ·obtain ⟨B2,E,K⟩:=hdom i B1 d;rw [K] at y;exact l i B1 d (z.inj b (ι i) B0 B2 n E (e.trans y))
 constructor
 ·refine ⟨?_, ?_,L.sealed, ?_,L.glob⟩
  ·intro b X B B' n Z e;rcases c b B n with ⟨i,Bi,a,rfl⟩|⟨B0,h0,d,_,_,_,_,_,y,_⟩<;>rcases c X B' Z with ⟨j,Bj,V,rfl⟩|⟨B0',Q,O,_,_,_,_,_,W,_⟩
   ·obtain ⟨_,_,t,_⟩:=hnew i Bi a;obtain ⟨_,_,s,_⟩:=hnew j Bj V;rw [t,s] at e;rw [L.inj i j Bi Bj a V e]
   ·obtain ⟨_,_,t,_⟩:=hnew i Bi a;rw [t,O] at e;exact absurd e.symm (hcross X B0' i Bi Q a W)
   ·obtain ⟨_,_,s,_⟩:=hnew j Bj V;rw [s,d] at e;exact absurd e (hcross b B0 j Bj h0 V y)
   ·rw [d,O] at e;exact z.inj b X B0 B0' h0 Q e
  ·intro b B n;rcases c b B n with ⟨i,Bi,a,rfl⟩|⟨B0,h0,d,E,K,U,h6,h7,y,_⟩
   ·obtain ⟨B1,F,t,s,T,J,e5,e6,e7⟩:=hnew i Bi a;rw [n] at F;cases F;rw [t];obtain ⟨⟨cur,e,vs,rest,k1,k2,k3,k4,k5,k6⟩,k7,k8⟩:=L.blk i Bi a;cases hp:Bi.pr with
    |true=>
     have hcells:=e6 hp;refine ⟨⟨cur,e,vs,rest,by rw [s];exact k1,k2,fun _=>by rw [hcells];exact k3 hp,by rw [hcells];exact aV _ (k3 hp),by rw [s];exact k5,by rw [s];exact k6⟩,by rw [T,J];exact k7,by rw [J,hcells];exact k8⟩
    |false=>
     have hcells:=e7 hp;have A:=iw (gK.refl S') hρ _ k4;have R:B.cells.length=Bi.cells.length:=by rw [aU k4,hcells,aU A]
     refine ⟨⟨cur,e,vs,rest,by rw [s];exact k1,k2,(fun h=>by rw [e5,hp] at h;cases h),by rw [hcells];exact A,by rw [s];exact k5,by rw [s];exact k6⟩,by rw [T,J];exact k7,by rw [J,R];exact k8⟩
   ·rw [d];have l:∀ i Bc,M i=some Bc→(Y i).1 ≠ (m b).1:=by
     intro i Bc a e;obtain ⟨B2,I,f⟩:=hdom i Bc a;rw [f] at e;exact y i Bc a (z.inj b (ι i) B0 B2 h0 I e.symm)
    obtain ⟨⟨cur,e,vs,rest,k1,k2,k3,k4,k5,k6⟩,k7,k8⟩:=z.blk b B0 h0;refine ⟨⟨cur,e,vs,rest,by rw [U];exact k1.same (r.rest _ (z.lt h0) l),k2,fun hp=>by rw [E];rw [K] at hp;exact aW u _ (k3 hp),by rw [E];exact iH u hge _ k4,by rw [U];exact k5,by rw [U];exact k6⟩,h6,h7⟩
  ·intro b B n o v A;rcases c b B n with ⟨i,Bi,a,rfl⟩|⟨B0,h0,d,E,K,U,h6,h7,y,I⟩
   ·obtain ⟨B1,F,t,s,T,J,e5,e6,e7⟩:=hnew i Bi a;rw [n] at F;cases F;rw [t] at A;rw [T,J];exact L.own i Bi a o v A
   ·rw [d] at A;rcases r.sealN _ _ _ A with f|f|⟨i,Bi,a,f⟩
    ·exact I o v f
    ·have:=z.lt h0;omega
    ·obtain ⟨B2,D,G⟩:=hdom i Bi a;rw [G] at f;exact absurd (z.inj b (ι i) B0 B2 h0 D f.symm) (y i Bi a)
 ·refine ⟨hge,u,r.os,r.tape,r.output,r.size, ?_, ?_, ?_, ?_⟩
  ·intro k C l;refine r.rest k C fun i Bc a e=> ?_
   obtain ⟨B2,I,f⟩:=hdom i Bc a;exact l (ι i) B2 I (by rw [← f];exact e)
  ·intro b B n;rcases c b B n with ⟨i,Bi,a,rfl⟩|⟨B0,h0,d,_⟩
   ·obtain ⟨B1,F,t,_⟩:=hnew i Bi a;rw [t];rcases r.img i Bi a with d|⟨B2,d,y⟩
    ·exact .inl d
    ·obtain ⟨B3,E,K⟩:=hdom i B2 d;exact .inr ⟨B3,E,by rw [y,K]⟩
   ·exact .inr ⟨B0,h0,by rw [d]⟩
  ·intro k o v A;rcases r.sealN _ _ _ A with f|f|⟨i,Bi,a,f⟩
   ·rcases hSpN _ _ _ f with h|h
    ·exact .inl h
    ·exact .inr (.inr h)
   ·exact .inr (.inl f)
   ·obtain ⟨B2,D,G⟩:=hdom i Bi a;exact .inr (.inr ⟨ι i,B2,D,by rw [← G];exact f⟩)
  ·intro b B n es clk C;rcases c b B n with ⟨i,Bi,a,rfl⟩|⟨B0,h0,d,_,_,_,_,_,l,_⟩
   ·obtain ⟨B1,F,t,_⟩:=hnew i Bi a;rw [t] at C ⊢;exact r.mw i Bi a es clk C
   ·rw [d] at C ⊢;have N:=z.lt h0;have he:w'.heap[(m b).1]? =w.heap[(m b).1]? :=r.rest _ N fun i Bc a e=>by
     obtain ⟨B2,I,f⟩:=hdom i Bc a;exact l i Bc a (z.inj b (ι i) B0 B2 h0 I (by rw [← f];exact e.symm))
    rw [he] at C;exact .inl ⟨es,clk,C,fun q=>q⟩
structure EC (F:AV→AV):Prop where
 own:∀ xs n e,F (.own xs n e)= .own xs n e
 tup:∀ l,F (.tup l)= .tup (l.map F)
 not:∀ x,(∀ xs n e,x ≠ .own xs n e)→(∀ xs n e,F x ≠ .own xs n e)
 notT:∀ x,(∀ l,x ≠ .tup l)→(∀ l,F x ≠ .tup l)
theorem bJ (n:Nat) {x:AV} (h:∀ xs k e,x ≠ .own xs k e) (r:List AV):eQ n (x::r)=(x::(eQ n r).1,(eQ n r).2):=by
 cases x<;>first|rfl|exact absurd rfl (h _ _ _)
theorem ig (n:Nat) {x:AV} (h:∀ xs k e,x ≠ .own xs k e) (a:∀ l,x ≠ .tup l):iE n x=(x,[]):=by
 cases x<;>first|rfl|exact absurd rfl (h _ _ _)|exact absurd rfl (a _)
theorem dm {gh gf:bD} {n:Nat} {x:AV} (h:∀ xs k e,x ≠ .own xs k e) {r:List AV} {v:Value} {vs:List Value}:gY gh gf m S n (x::r) (v::vs)=(VR gh m S x v∧gY gh gf m S n r vs):=by
 cases x<;>first|rfl|exact absurd rfl (h _ _ _)
theorem jK {gh gf:bD} {n:Nat} {x:AV} (h:∀ xs k e,x ≠ .own xs k e) (a:∀ l,x ≠ .tup l) {v:Value}:uV gh gf m S n x v=VR gh m S x v:=by
 cases x<;>first|rfl|exact absurd rfl (h _ _ _)|exact absurd rfl (a _)
theorem jy (x:AV):(∃ xs k e,x= .own xs k e)∨(∀ xs k e,x ≠ .own xs k e):=by
 cases x<;>first|exact .inl ⟨_,_,_,rfl⟩|exact .inr (fun _ _ _ h=>by cases h)
theorem yT (x:AV):(∃ l,x= .tup l)∨(∀ l,x ≠ .tup l):=by
 cases x<;>first|exact .inl ⟨_,rfl⟩|exact .inr (fun _ h=>by cases h)
theorem p_ {F:AV→AV} (c:EC F):∀ (l:List AV) (a b:Nat),(eQ a (l.map F)).2=(eQ b l).2
 | [],a,b=>rfl
 | x::r,a,b=>by
  rcases jy x with ⟨d,k,e,rfl⟩|hx
  ·simp only [Γ,c.own,eQ];rw [p_ c r (a+1) (b+1)]
  ·rw [Γ,bJ a (c.not x hx),bJ b hx];exact p_ c r a b
theorem zH {F:AV→AV} (c:EC F) (x:AV) (a b:Nat):(iE a (F x)).2=(iE b x).2:=by
 rcases jy x with ⟨d,k,e,rfl⟩|hx
 ·rw [c.own];rfl
 ·rcases yT x with ⟨l,rfl⟩|ht
  ·rw [c.tup];simp only [iE];exact p_ c l a b
  ·rw [ig a (c.not x hx) (c.notT x ht),ig b hx ht]
theorem sD {F:AV→AV} (a:EC F) {gh gf gN:bD} {m mN:aB} {S:au} {n nid:Nat} (b:∀ x v,VR gh m S x v→VR gN mN S (F x) v) (c:∀ i k v,VR gf m S (.ref (n+i) 0 0 k) v→VR gN mN S (.ref (nid+i) 0 0 k) v):
  ∀ (l:List AV) (vs:List Value) (j:Nat),gY gh gf m S (n+j) l vs→aS gN mN S (eQ (nid+j) (l.map F)).1 vs
 | [],[],j,_=>by simp [eQ,aS]
 | x::r,v::vs,j,h=>by
  rcases jy x with ⟨d,k,e,rfl⟩|hxo
  ·simp only [gY] at h;simp only [Γ,a.own,eQ,aS];exact ⟨c j k v h.1,by have:=sD a b c r vs (j+1);rw [← Xx9,← Xx9] at this;exact this h.2⟩
  ·rw [dm hxo] at h;rw [Γ,bJ _ (a.not x hxo)];simp only [aS];exact ⟨b x v h.1,sD a b c r vs j h.2⟩
 | [],_::_,_,h=>by simp [gY] at h
 |x::r,[],_,h=>by cases x<;>simp [gY] at h
theorem Dw {F:AV→AV} (a:EC F) {gh gf gN:bD} {m mN:aB} {S:au} {n nid:Nat} (b:∀ x v,VR gh m S x v→VR gN mN S (F x) v) (c:∀ i k v,VR gf m S (.ref (n+i) 0 0 k) v→VR gN mN S (.ref (nid+i) 0 0 k) v)
  {x:AV} {v:Value} (h:uV gh gf m S n x v):VR gN mN S (iE nid (F x)).1 v:=by
 rcases jy x with ⟨d,k,e,rfl⟩|hxo
 ·simp only [uV] at h;rw [a.own];exact c 0 k v h
 ·rcases yT x with ⟨l,rfl⟩|ht
  ·simp only [uV] at h;obtain ⟨vs,e,h⟩:=h;rw [a.tup];simp only [iE,VR];exact ⟨vs,e,sD a b c l vs 0 h⟩
  ·rw [jK hxo ht] at h;rw [ig _ (a.not x hxo) (a.notT x ht)];exact b x v h
theorem Jg:EC id:=⟨fun _ _ _=>rfl,fun l=>by simp,fun _ h=>h,fun _ h=>h⟩
theorem JD (ρ:Nat→Nat→Option (Nat × Nat)):∀ l,jG ρ l=l.map (ren ρ)
 | []=>rfl
 |x::r=>by simp [jG,JD ρ r]
theorem EW (ρ:Nat→Nat→Option (Nat × Nat)):EC (ren ρ):=by
 refine ⟨fun _ _ _=>rfl,fun l=>by simp [ren,JD], ?_, ?_⟩
 ·intro x h b n e a;cases x<;>simp only [ren] at a<;>first
   |(cases a;done)
   |(split at a<;>cases a;done)
   |exact h _ _ _ rfl
 ·intro x h l a;cases x<;>simp only [ren] at a<;>first
   |(cases a;done)
   |(split at a<;>cases a;done)
   |exact h _ rfl
theorem yz:∀ (bs:List az) (n b:Nat),ai (Df n bs) b=if n≤b then bs[b - n]? else none
 | [],n,b=>by simp [Df,ai]
 | B::r,n,b=>by
  simp only [Df,ai];cases h:Δ n b with
  |true=>
   have:=aA h;subst this;simp
  | false=>
   have c:n ≠ b:=by intro e;subst e;simp at h
   rw [yz r (n+1) b];by_cases hle:n≤b
   ·rw [if_pos hle,if_pos (show n+1≤b by omega)];obtain ⟨d,a⟩:∃ d,b - n=d+1:=⟨b - n - 1,by omega⟩
    rw [a,Xxx,show b - (n+1)=d by omega]
   ·rw [if_neg hle,if_neg (show ¬ n+1≤b by omega)]
theorem E_ {rd:bD} {mk:az→az}:∀ (fp:List Nat) (b:Nat),ai (fp.filterMap fun b=>(rd b).map fun B=>(b,mk B)) b=if b ∈ fp then (rd b).map mk else none
 | [],b=>by simp [ai]
 | a::r,b=>by
  have f:=E_ (rd:=rd) (mk:=mk) r b;cases c:rd a with
  |none=>
   rw [Xwc (by simp [c]),f];by_cases hab:b=a
   ·subst hab;simp [c]
   ·simp [hab]
  | some B=>
   rw [Xwd (by simp [c];rfl)];simp only [ai];cases h:Δ a b with
   |true=>have:=aA h;subst this;simp [c]
   |false=>
    have d:b ≠ a:=by intro e;subst e;simp at h
    simp only [f,Xqo,d,false_or]
end
end AM
namespace AM
open Go
def ZV (g:bD) (m:aB) (S:au):gV→Ending→Prop
 | .ret v,e=> ∃ cv,e= .returned cv∧VR g m S v cv
 | .pan v,e=> ∃ cv,e= .panicked [{v:=cv,recovered:=false}]∧VR g m S v cv
def Vw (ap:AP) (g:bD) (m:aB) (S:au) (w:World) (out:gV) (ups:List (Nat × az)) (e:Ending) (w':World):Prop:=
 ∃ m' S',aZ ap (bC g ups) m' S' w'∧Fr g m S w (bC g ups) m' S' w'∧ZV (bC g ups) m' S' out e
theorem dU {h a:List az} {b:Nat} (c:b<h.length):ax (h++a) b=ax h b:=by
 simp [ax,υ c]
theorem g_ {h a:List az} {b:Nat} (c:h.length≤b):ax (h++a) b=ax a (b - h.length):=by
 simp [ax,List.getElem?_append_right c]
def oZ (l:List az):Prop:=∀ B ∈ l,B.pr=true∧B.fro=false∧B.ver=0
theorem qc:∀ (l:List AV) (n:Nat),oZ (eQ n l).2
 | [],n=>by simp [eQ,oZ]
 | x::r,n=>by
  rcases jy x with ⟨b,k,e,rfl⟩|hx
  ·simp only [eQ];intro B a;rcases List.mem_cons.1 a with rfl|a
   ·exact ⟨rfl,rfl,rfl⟩
   ·exact qc r (n+1) B a
  ·rw [bJ n hx];exact qc r n
theorem JC (x:AV) (n:Nat):oZ (iE n x).2:=by
 rcases jy x with ⟨b,k,e,rfl⟩|hx
 ·intro B a;simp [iE] at a;subst a;exact ⟨rfl,rfl,rfl⟩
 ·rcases yT x with ⟨l,rfl⟩|ht
  ·simp only [iE];exact qc l n
  ·rw [ig n hx ht];simp [oZ]
theorem zF (o:gV) (n:Nat):oZ (h_ n o):=by
 cases o with
 |ret v=>exact JC v n
 |pan v=>simp [h_,oZ]
section
variable {P:Program} {ap:AP} {g:bD} {m:aB} {S:au} {w:World}
def G8 (nid:Nat) (F:AV→AV):gV→gV
 | .ret v=> .ret (iE nid (F v)).1
 | .pan v=> .pan (F v)
theorem zf (q:aZ ap g m S w) {rd:bD} (j:∀ b B,rd b=some B→g b=some B) {fp:List Nat} (X:∀ b B,rd b=some B→b ∈ fp) {nid:Nat} {args args':List AV} {cargs:List Value} {out:gV}
  (ha:fP (frz rd 6) args=some args') (hv:aS g m S args cargs) {C:List Value→(Ending→World→Prop)→Prop} (hmono:∀ cargs R R',C cargs R→(∀ e w',R e w'→R' e w')→C cargs R')
  (f:∀ m1 S1,gK S S1→aZ ap (ax []) m1 S1 w→aS (ax []) m1 S1 args' cargs→C cargs fun e w'=> ∃ m' S',zT ap [] m1 S1 w out [] m' S' w' e) (hfr:∀ i,i<(h_ 0 out).length→g (nid+i)=none):
  C cargs fun e w'=>Vw ap g m S w (G8 nid id out) (Df nid (h_ 0 out)++fp.filterMap fun b=>(rd b).map fun B=>(b,{B with fro:=true,fz:=B.cells.length})) e w':=by
 have K:a_ (bP S m rd w) args' cargs:=qR (fun x v y a d=>jf q j 6 x v y a d) ha hv;have t:=jT S m rd w
 let m0:aB:=fun _=>(0,0)
 have N:aZ ap (ax []) m0 (bP S m rd w) w:=by
  refine ⟨fun b b' B B' h=>by simp [ax] at h,fun b B h=>by simp [ax] at h,fun k o v h=>kE q h,fun b B h=>by simp [ax] at h, ?_⟩;intro k xs hk;obtain ⟨vs,a,d⟩:=q.glob k xs hk;exact ⟨vs,aW t _ a,d.mono t⟩
 refine hmono _ _ _ (f m0 (bP S m rd w) t N (aV _ K)) ?_
 rintro e w' ⟨m',S',hF⟩
 obtain ⟨A,l,r⟩:=hF;simp only [Xqj,Xqf] at A l r;generalize G:h_ 0 out=bs at A l hfr;have I:oZ bs:=G ▸ zF out 0
 let gN:bD:=bC g (Df nid bs++fp.filterMap fun b=>(rd b).map fun B=>(b,{B with fro:=true,fz:=B.cells.length}))
 let mN:aB:=fun b=>if nid≤b∧b - nid<bs.length then m' (b - nid) else m b
 have u:∀ b,gN b=if nid≤b∧b - nid<bs.length then bs[b - nid]? else match rd b with|some B=>some {B with fro:=true,fz:=B.cells.length}|none=>g b:=by
  intro b;show bC g _ b=_;unfold bC;have U:∀ mk:az→az,(if b ∈ fp then (rd b).map mk else none)=(rd b).map mk:=by
   intro mk;split
   ·rfl
   ·rename_i c;cases p:rd b with
    |none=>rfl
    |some B=>exact absurd (X b B p) c
  rw [fF,yz,E_,U];by_cases a:nid≤b
  ·by_cases d:b - nid<bs.length
   ·have f:nid≤b∧b - nid<bs.length:=⟨a,d⟩
    rw [if_pos a,if_pos f,δ d]
   ·have f:¬ (nid≤b∧b - nid<bs.length):=fun h=>d h.2
    rw [if_pos a,if_neg f,Xxl (Xvr d)];cases rd b<;>rfl
  ·have f:¬ (nid≤b∧b - nid<bs.length):=fun h=>a h.1
   rw [if_neg a,if_neg f];cases rd b<;>rfl
 have hnidg:∀ b B,g b=some B→¬ (nid≤b∧b - nid<bs.length):=by
  rintro b B c ⟨a,d⟩
  have:=hfr (b - nid) d;rw [show nid+(b - nid)=b by omega,c] at this;cases this
 have L:Ge g m gN mN:=by
  intro b B c;have Y:=hnidg b B c;have hm:mN b=m b:=if_neg Y;rw [u,if_neg Y];cases p:rd b with
  |none=>exact ⟨B,c,rfl,.inl ⟨rfl,hm⟩⟩
  |some B1=>
   have:=j b B1 p;rw [c] at this;cases this;exact ⟨_,rfl,rfl,.inl ⟨rfl,hm⟩⟩
 have z:∀ i B,bs[i]? =some B→gN (nid+i)=some B∧mN (nid+i)=m' i:=by
  intro i B D;have hl:=(List.getElem?_eq_some_iff.1 D).1;have f:nid≤nid+i∧nid+i - nid<bs.length:=by omega
  refine ⟨by rw [u,if_pos f,show nid+i - nid=i by omega];exact D, ?_⟩;show (if _ then _ else _)=_;rw [if_pos f,show nid+i - nid=i by omega]
 obtain ⟨W,Q⟩:=Yb (g:=g) (m:=m) (S:=S) (w:=w) q A l (fun i=>nid+i) (fun i Bc h=>by simp [ax] at h) t
  (fun k o v h=>(eU h).imp id fun ⟨_,b,B,a,d,_⟩=> ⟨b,B,j b B a,d⟩) (gN:=gN) (mN:=mN) (fun i v=>some (nid+i,v))
  (by
   intro b ver b' Z h B hB E;simp only [Option.some.injEq,Prod.mk.injEq] at h;obtain ⟨rfl,rfl⟩:=h;obtain ⟨a,d⟩:=z b B hB;exact ⟨B,a,E,fun e=> ⟨e,d,rfl⟩⟩)
  (by
   intro i Bc D;obtain ⟨a,d⟩:=z i Bc D;exact ⟨Bc,a,d,rfl,rfl,rfl,rfl,fun _=>rfl,fun hp=>by rw [(I Bc (ο D)).1] at hp;cases hp⟩)
  (by
   intro b B c;by_cases f:nid≤b∧b - nid<bs.length
   ·rw [u,if_pos f] at c;exact .inl ⟨b - nid,B,c,by omega⟩
   ·have hm:mN b=m b:=if_neg f;rw [u,if_neg f] at c;right;cases p:rd b with
    | none=>
     rw [p] at c;have c:g b=some B:=c;refine ⟨B,c,hm,rfl,rfl,rfl,(q.blk b B c).fz0,(q.blk b B c).fzle,(fun i Bc h=>by simp [ax] at h), ?_⟩;intro o v V;rcases eU V with h|⟨_,O,B1,a,d,_⟩
     ·exact q.own b B c o v h
     ·have:=q.inj O b B1 B (j _ _ a) c d;subst this;rw [a] at p;cases p
    | some B1=>
     rw [p] at c;have c:some {B1 with fro:=true,fz:=B1.cells.length}=some B:=c;cases c;have s:=j b B1 p;refine ⟨B1,s,hm,rfl,rfl,rfl,(fun h=>by cases h),ζ _,(fun i Bc h=>by simp [ax] at h), ?_⟩;intro o v V;refine ⟨rfl, ?_⟩;rcases eU V with h|⟨_,O,B2,a,d,M⟩
     ·exact Xqy (q.own b B1 s o v h).2 (q.blk b B1 s).fzle
     ·have:=q.inj O b B2 B1 (j _ _ a) s d;subst this;rw [a] at p;cases p;exact M)
  L
 refine ⟨mN,S',W,Q, ?_⟩;show ZV gN mN S' (G8 nid id out) e;cases out with
 |ret v=>
  obtain ⟨cv,T,a⟩:=r;refine ⟨cv,T, ?_⟩;have J:(iE 0 v).2=bs:=G;simp only [Xqf,Xqj,J] at a;refine Dw (n:=0) Jg (fun x v F=>ed x (lC x F)) ?_ a;intro i k v F;rw [Φ] at F;simp only [VR] at F ⊢;obtain ⟨B,d,M,h4,h5⟩:=F;obtain ⟨h6,h7⟩:=z i B d;exact ⟨B,h6,M,h4,by rw [h7];exact h5⟩
 |pan v=>
  obtain ⟨cv,T,a⟩:=r;exact ⟨cv,T,ed _ (lC _ a)⟩
end
end AM
namespace AM
open Go
theorem Js {b:Nat} {r:List Nat} (h:pR (b::r)=true):b ∉ r∧pR r=true:=by
 simp only [pR,ε,Xqe] at h;refine ⟨fun a=> ?_,h.2⟩;rw [fQ.2 a] at h;cases h.1
theorem kZ:∀ {l:List Nat} {b p:Nat},mQ l b=some p→l[p]? =some b
 | [],b,p,h=>by simp [mQ] at h
 | c::r,b,p,h=>by
  simp only [mQ] at h;split at h
  ·rename_i d;cases h;rw [aA d];rfl
  ·simp only [Ξ] at h;obtain ⟨q,a,rfl⟩:=h;simpa using kZ a
theorem jX:∀ {l:List Nat} {b p:Nat},pR l=true→l[p]? =some b→mQ l b=some p
 | [],b,p,_,h=>by simp at h
 |c::r,b,0,hn,h=>by simp at h;subst h;simp [mQ]
 | c::r,b,p+1,hn,h=>by
  obtain ⟨e,f⟩:=Js hn;have h:r[p]? =some b:=by simpa using h
  have a:Δ c b=false:=by
   cases d:Δ c b with
   |false=>rfl
   |true=>exact absurd (aA d ▸ ο h) e
  simp [mQ,a,jX f h]
theorem Jm {mk:Nat→az→az}:∀ (fp:List Nat) (h':List az) (b:Nat),ai ((J_ fp h').map fun (b,B)=>(b,mk b B)) b=(mQ fp b).bind fun p=>(h'[p]?).map (mk b)
 | [],h',b=>by cases h'<;>simp [J_,ai,mQ]
 |a::r,[],b=>by
  simp only [J_,List.map_nil,ai,mQ];cases Δ a b with
  |true=>rfl
  |false=>cases mQ r b<;>rfl
 | a::r,B::q,b=>by
  simp only [J_,Γ,ai,mQ];cases h:Δ a b with
  |true=>have:=aA h;subst this;rfl
  |false=>
   simp only [Jm r q b];cases mQ r b<;>simp
section
variable {P:Program} {ap:AP} {g:bD} {m:aB} {S:au} {w:World}
def Ii (ρ:Nat→Nat→Option (Nat × Nat)) (B:az):az:={B with cells:=(match B.pr with|true=>B.cells|false=>jG ρ B.cells),ver:=0}
theorem ar1 {a b n i:Nat} (h:b≤a):n+(a+i - b)=n+(a - b)+i:=by omega
theorem ar2 {a b i:Nat} (h:b≤a):b+(a+i - b)=a+i:=by omega
theorem VH {ρ:Nat→Nat→Option (Nat × Nat)} {l:List az} (h:oZ l):l.map (zV ρ 0)=l:=by
 induction l with
 |nil=>rfl
 |cons B r ih=>
  rw [Γ,ih fun B d=>h B (by simp [d])];obtain ⟨a,_,b⟩:=h B (by simp);obtain ⟨c,v,f,z,e,p⟩:=B;simp only at a b;subst a b;rfl
theorem zg (K:aZ ap g m S w) {rd:bD} (hrd:∀ b B,rd b=some B→g b=some B) {fp:List Nat} {M:List az} (hbl:fP rd fp=some M) (E:pR fp=true) {nid:Nat} {args:List AV} {cargs:List Value} {out:gV}
  {vers:Nat→Nat} (hvers:∀ b B,rd b=some B→vers b=B.ver) {ρ ρ':Nat→Nat→Option (Nat × Nat)} (hρe:∀ b v,ρ b v=match Δ v (vers b) with|true=>(mQ fp b).map fun p=>(p,0)|false=>none)
  {h':List az} (hρe':ρ'=MR nid fp vers h'.length)
  (hv:aS g m S args cargs) {C:List Value→(Ending→World→Prop)→Prop} (hmono:∀ cargs R R',C cargs R→(∀ e w',R e w'→R' e w')→C cargs R')
  (l:∀ m1 S1,gK S S1→aZ ap (ax (M.map (Ii ρ))) m1 S1 w→aS (ax (M.map (Ii ρ))) m1 S1 (jG ρ args) cargs→C cargs fun e w'=> ∃ m' S',zT ap (M.map (Ii ρ)) m1 S1 w out h' m' S' w' e) (hl:fp.length≤h'.length) (hfr:∀ i,i<(h'.length - fp.length)+(h_ h'.length out).length→g (nid+i)=none):
  C cargs fun e w'=>Vw ap g m S w (G8 (nid+(h'.length - fp.length)) (ren ρ') out) (Df nid ((h'.drop fp.length).map (zV ρ' 0)++h_ h'.length out)++(J_ fp h').map fun (b,B)=>(b,zV ρ' (vers b) B)) e w':=by
 have r:∀ p b,fp[p]? =some b→∃ B,rd b=some B∧g b=some B∧ax (M.map (Ii ρ)) p=some (Ii ρ B):=by
  intro p b hp;obtain ⟨B,a,c⟩:=(fA hbl).2 p b hp;exact ⟨B,c,hrd b B c,by simp [ax,a]⟩
 have t:∀ p Bc,ax (M.map (Ii ρ)) p=some Bc→∃ b B,fp[p]? =some b∧rd b=some B∧g b=some B∧Bc=Ii ρ B:=by
  intro p Bc hp;have u:p<fp.length:=by
   have:=(List.getElem?_eq_some_iff.1 hp).1;rw [List.length_map,(fA hbl).1] at this;exact this
  obtain ⟨B,a,c,d⟩:=r p _ (δ u);rw [d] at hp;cases hp;exact ⟨_,B,δ u,a,c,rfl⟩
 let mc:aB:=fun p=>m (fp.getD p 0)
 have j:∀ p b,fp[p]? =some b→mc p=m b:=by
  intro p b hp;show m (fp.getD p 0)=_;rw [γ,hp];rfl
 have N:mX g m (ax (M.map (Ii ρ))) mc ρ:=by
  intro b ver X I h B J A;rw [hρe] at h;split at h
  ·rename_i hve;simp only [Ξ,Prod.mk.injEq] at h;obtain ⟨p,hp,rfl,rfl⟩:=h;have hp:=kZ hp;obtain ⟨B1,a,c,d⟩:=r p b hp;rw [c] at J;cases J;exact ⟨_,d,Xqn _,fun _=> ⟨by rw [aA hve,hvers b _ a],j p b hp,rfl⟩⟩
  ·cases h
 have hSc:aZ ap (ax (M.map (Ii ρ))) mc S w:=by
  refine ⟨?_, ?_,K.sealed, ?_,K.glob⟩
  ·intro p q Bp Bq hp hq e;obtain ⟨b,B,a,c,d,_⟩:=t p Bp hp;obtain ⟨X,B',h1',h2',h3',_⟩:=t q Bq hq;rw [j p b a,j q X h1'] at e;have:=K.inj b X B B' d h3' e;subst this;have W:=jX E a;rw [jX E h1'] at W;cases W;rfl
  ·intro p Bp hp;obtain ⟨b,B,a,c,d,rfl⟩:=t p Bp hp;rw [j p b a];obtain ⟨⟨cur,e,vs,rest,k1,k2,k3,k4,k5,k6⟩,k7,k8⟩:=K.blk b B d;cases hp:B.pr with
   |true=>exact ⟨⟨cur,e,vs,rest,k1,k2,fun _=>by simpa [Ii,hp] using k3 hp,by simpa [Ii,hp] using aV _ (k3 hp),k5,k6⟩,k7,by simpa [Ii,hp] using k8⟩
   | false=>
    have hv:=iw (gK.refl S) N _ k4;exact ⟨⟨cur,e,vs,rest,k1,k2,fun h=>by simp [Ii,hp] at h,by simpa [Ii,hp] using hv,k5,k6⟩,k7,by
     have:(Ii ρ B).cells.length=B.cells.length:=by simp only [Ii,hp];rw [aU k4,aU hv]
     rw [this];exact k8⟩
  ·intro p Bp hp o v ho;obtain ⟨b,B,a,c,d,rfl⟩:=t p Bp hp;rw [j p b a] at ho;exact K.own b B d o v ho
 refine hmono _ _ _ (l mc S (gK.refl S) hSc (iw (gK.refl S) N _ hv)) ?_
 rintro e w' ⟨m',S',hF⟩
 obtain ⟨hsr,D,L⟩:=hF;generalize hbs:h_ h'.length out=bs0 at hsr D hfr;have hown:oZ bs0:=hbs ▸ zF out h'.length;obtain ⟨bs,F⟩:∃ bs,bs=h'.drop fp.length++bs0:=⟨_,rfl⟩
 have hbsl:bs.length=(h'.length - fp.length)+bs0.length:=by rw [F,List.length_append,List.length_drop]
 rw [← hbsl] at hfr
 let ups:=(J_ fp h').map fun (b,B)=>(b,zV ρ' (vers b) B)
 rw [show (h'.drop fp.length).map (zV ρ' 0)++bs0=bs.map (zV ρ' 0) by rw [F,List.map_append,VH hown]]
 let gN:bD:=bC g (Df nid (bs.map (zV ρ' 0))++ups)
 let mN:aB:=fun b=>if nid≤b∧b - nid<bs.length then m' (fp.length+(b - nid)) else match mQ fp b with|some p=>m' p|none=>m b
 have G:∀ b,gN b=if nid≤b∧b - nid<bs.length then (bs[b - nid]?).map (zV ρ' 0) else match (mQ fp b).bind fun p=>(h'[p]?).map (zV ρ' (vers b)) with|some B=>some B|none=>g b:=by
  intro b;show bC g _ b=_;unfold bC;rw [fF,yz,Jm (mk:=fun b B=>zV ρ' (vers b) B)];by_cases a:nid≤b
  ·by_cases c:b - nid<bs.length
   ·have l:nid≤b∧b - nid<bs.length:=⟨a,c⟩
    rw [if_pos a,if_pos l,φ,δ c];rfl
   ·have l:¬ (nid≤b∧b - nid<bs.length):=fun h=>c h.2
    rw [if_pos a,if_neg l,φ,Xxl (Xvr c)];rfl
  ·have l:¬ (nid≤b∧b - nid<bs.length):=fun h=>a h.1
   rw [if_neg a,if_neg l];rfl
 have hnidg:∀ b B,g b=some B→¬ (nid≤b∧b - nid<bs.length):=by
  rintro b B f ⟨a,c⟩
  have:=hfr (b - nid) c;rw [show nid+(b - nid)=b by omega,f] at this;cases this
 have hh':∀ p,p<fp.length→∃ B,h'[p]? =some B:=fun p hp=> ⟨_,δ (by omega)⟩
 have U:∀ p b,fp[p]? =some b→∀ Bc,h'[p]? =some Bc→gN b=some (zV ρ' (vers b) Bc)∧mN b=m' p:=by
  intro p b hp Bc J;obtain ⟨B,a,c,d⟩:=r p b hp;have Y:=hnidg b B c;refine ⟨by rw [G,if_neg Y,jX E hp];simp [J], ?_⟩;show (if _ then _ else _)=_;rw [if_neg Y,jX E hp]
 have T:∀ i B,bs[i]? =some B→gN (nid+i)=some (zV ρ' 0 B)∧mN (nid+i)=m' (fp.length+i):=by
  intro i B z;have hl:=(List.getElem?_eq_some_iff.1 z).1;have l:nid≤nid+i∧nid+i - nid<bs.length:=by omega
  refine ⟨by rw [G,if_pos l,show nid+i - nid=i by omega,z];rfl, ?_⟩;show (if _ then _ else _)=_;rw [if_pos l,show nid+i - nid=i by omega]
 have Q:∀ p,fp.length≤p→ax (h'++bs0) p=bs[p - fp.length]? :=by
  intro p hp;have he:h'++bs0=h'.take fp.length++bs:=by rw [F,← Xqi,List.take_append_drop]
  have u:(h'.take fp.length).length=fp.length:=by rw [List.length_take];omega
  rw [he,g_ (by omega),u];rfl
 have s:∀ p Bc,ax (h'++bs0) p=some Bc→(p<fp.length∧h'[p]? =some Bc)∨(fp.length≤p∧bs[p - fp.length]? =some Bc):=by
  intro p Bc h;by_cases hp:p<fp.length
  ·rw [dU (by omega)] at h;exact .inl ⟨hp,h⟩
  ·rw [Q p (by omega)] at h;exact .inr ⟨by omega,h⟩
 have hren':mX (ax (h'++bs0)) m' gN mN ρ':=by
  intro p ver X I h Bc J A;rw [hρe'] at h;unfold MR at h;split at h
  ·rename_i b hp;cases h;rcases s p Bc J with ⟨a,c⟩|⟨a,_⟩
   ·obtain ⟨d,y⟩:=U p _ hp Bc c;exact ⟨_,d,by simp only [zV];omega,fun e=> ⟨by simp only [zV] at e;omega,y,rfl⟩⟩
   ·have:=(List.getElem?_eq_some_iff.1 hp).1;omega
  ·rename_i hp;split at h
   ·cases h;have Z:=List.getElem?_eq_none_iff.1 hp;rcases s p Bc J with ⟨a,_⟩|⟨a,c⟩
    ·omega
    ·obtain ⟨d,y⟩:=T _ Bc c;exact ⟨_,d,by simp only [zV];omega,fun e=> ⟨by simp only [zV] at e;omega,by rw [y,show fp.length+(p - fp.length)=p by omega],rfl⟩⟩
   ·cases h
 have Z:Ge g m gN mN:=by
  intro b B f;have Y:=hnidg b B f;cases z:mQ fp b with
  | none=>
   have hm:mN b=m b:=by
    show (if _ then _ else _)=_;rw [if_neg Y,z]
   refine ⟨B, ?_,rfl,.inl ⟨rfl,hm⟩⟩;rw [G,if_neg Y,z];exact f
  | some p=>
   have hp:=kZ z;obtain ⟨B1,a,c,d⟩:=r p b hp;rw [c] at f;cases f;obtain ⟨Bc,y,h5,O⟩:=D.ge p _ d;rcases s p Bc y with ⟨_,V⟩|⟨V,_⟩
   ·obtain ⟨h8,h9⟩:=U p b hp Bc V;refine ⟨_,h8,h5, ?_⟩;rcases O with ⟨O,h6'⟩|O
    ·left;refine ⟨?_,by rw [h9,h6',j p b hp]⟩;simp only [zV,Ii] at O ⊢;rw [hvers b _ a];omega
    ·right;simp only [zV,Ii] at O ⊢;rw [hvers b _ a];omega
   ·have:=(List.getElem?_eq_some_iff.1 hp).1;omega
 let ι:Nat→Nat:=fun p=>if p<fp.length then fp.getD p 0 else nid+(p - fp.length)
 have hι:∀ p b,fp[p]? =some b→ι p=b:=by
  intro p b hp;show (if _ then _ else _)=_;rw [if_pos (List.getElem?_eq_some_iff.1 hp).1,γ,hp];rfl
 have hι':∀ i,ι (fp.length+i)=nid+i:=by
  intro i;show (if _ then _ else _)=_;rw [if_neg (by omega)];congr 1;omega
 obtain ⟨hsN,hfN⟩:=Yb (g:=g) (m:=m) (S:=S) (w:=w) K hsr D ι
  (by
   intro p Bc hp;obtain ⟨b,B,a,c,d,rfl⟩:=t p Bc hp;rw [hι p b a];exact ⟨B,d,j p b a⟩) (gK.refl S) (fun k o v h=> .inl h) (gN:=gN) (mN:=mN) ρ' hren'
  (by
   intro p Bc hp;rcases s p Bc hp with ⟨a,c⟩|⟨a,c⟩
   ·have hp:=δ a;obtain ⟨d,y⟩:=U p _ hp Bc c;rw [hι p _ hp];exact ⟨_,d,y,rfl,rfl,rfl,rfl,fun h=>by simp [zV,h],fun h=>by simp [zV,h]⟩
   ·obtain ⟨i,rfl⟩:∃ i,p=fp.length+i:=⟨p - fp.length,by omega⟩
    rw [show fp.length+i - fp.length=i by omega] at c;obtain ⟨d,y⟩:=T i Bc c;rw [hι' i];exact ⟨_,d,y,rfl,rfl,rfl,rfl,fun h=>by simp [zV,h],fun h=>by simp [zV,h]⟩)
  (by
   intro b B f;by_cases l:nid≤b∧b - nid<bs.length
   ·rw [G,if_pos l,Ξ] at f;obtain ⟨Bc,f,_⟩:=f;refine .inl ⟨fp.length+(b - nid),Bc, ?_,by rw [hι'];omega⟩;rw [Q _ (by omega),show fp.length+(b - nid) - fp.length=b - nid by omega];exact f
   ·rw [G,if_neg l] at f;cases z:mQ fp b with
    |some p=>
     have hp:=kZ z;have u:=(List.getElem?_eq_some_iff.1 hp).1;obtain ⟨Bc,y⟩:=hh' p u;exact .inl ⟨p,Bc,by rw [dU (by omega)];exact y,(hι p b hp).symm⟩
    | none=>
     have hm:mN b=m b:=by
      show (if _ then _ else _)=_;rw [if_neg l,z]
     rw [z] at f;have f:g b=some B:=f;refine .inr ⟨B,f,hm,rfl,rfl,rfl,(K.blk b B f).fz0,(K.blk b B f).fzle, ?_,fun o v ho=>K.own b B f o v ho⟩;intro p Bc hp e;obtain ⟨b1,B1,a,_⟩:=t p Bc hp;rw [hι p b1 a] at e;subst e;rw [jX E a] at z;cases z)
  Z
 refine ⟨mN,S',hsN,hfN, ?_⟩;show ZV gN mN S' (G8 (nid+(h'.length - fp.length)) (ren ρ') out) e;have hrenh:mX (ax h') m' gN mN ρ':=by
  intro p ver X I h Bc J A;refine hren' p ver X I h Bc ?_ A;rw [dU (List.getElem?_eq_some_iff.1 J).1];exact J
 cases out with
 |ret v=>
  obtain ⟨cv,W,a⟩:=L;refine ⟨cv,W, ?_⟩;have hbs':(iE h'.length v).2=bs0:=hbs;rw [hbs'] at a;refine Dw (n:=h'.length) (EW ρ') (fun x v hx=>qY (gK.refl S') hrenh x hx) ?_ a;intro i k v hx;simp only [VR] at hx ⊢;obtain ⟨B,c,d,y,h5⟩:=hx;rw [Q _ (Xqg hl (Nat.le_add_right _ _))] at c;obtain ⟨O,V⟩:=T _ B c;rw [ar1 hl] at O V;rw [ar2 hl] at V;exact ⟨_,O,Xqn _,y,fun e=>by rw [V];exact h5 (by simpa [zV] using e)⟩
 |pan v=>
  obtain ⟨cv,W,a⟩:=L;exact ⟨cv,W,qY (gK.refl S') hrenh _ a⟩
end
end AM
namespace AM
open Go
section
variable {P:Program} {ap:AP} {H:bi}
theorem wH {o:bD} {nid f:Nat} {args:List AV} {md:AV} {c c':Cx} {r:QE} (h:rC ap H o nid md f args c= .ok r c'):
  ∃ args0 h0 out0 h0',H c md f args0 h0= .ok (out0,h0',r.md) c'∧((∃ v,out0= .ret v)↔∃ v,r.out= .ret v)∧
  ∀ g m S w cargs (C:List Value→(Ending→World→Prop)→Prop),(∀ cargs R R',C cargs R→(∀ e w',R e w'→R' e w')→C cargs R')→aZ ap g m S w→(∀ b ∈ r.fp,∀ B,o b=some B→g b=some B)→(∀ i,i<4→g (nid+i)=none)→aS g m S args cargs→
   (∀ m1 S1,gK S S1→aZ ap (ax h0) m1 S1 w→aS (ax h0) m1 S1 args0 cargs→C cargs fun e w'=> ∃ m' S',zT ap h0 m1 S1 w out0 h0' m' S' w' e)→
   C cargs fun e w'=>Vw ap g m S w r.out r.ups e w':=by
 unfold rC at h;simp only at h;generalize E:lH o 6 (fJ (bg args))=fp at h
 let rd:bD:=fun b=>match kY fp b with|true=>o b|false=>none
 have a:∀ b B,rd b=some B→b ∈ fp∧o b=some B:=by
  intro b B d;dsimp only [rd] at d;split at d
  ·rename_i hm;exact ⟨fQ.1 hm,d⟩
  ·cases d
 split at h
 ·split at h
  ·cases h
  ·rename_i args' z;obtain ⟨⟨out,u,md⟩,D,x,h⟩:=R.bind_ok h;dsimp only at h;split at h
   ·cases h
   ·split at h
    ·rename_i v;split at h
     ·rename_i n;cases h;refine ⟨_,_,_,_,x,⟨fun _=> ⟨_,rfl⟩,fun _=> ⟨_,rfl⟩⟩, ?_⟩;intro g m S w cargs C hmono s k l t q;have j:h_ 0 (gV.ret v)=(iE nid v).2:=zH Jg v 0 nid;have:=zf s (rd:=rd) (fun b B d=>k b (a b B d).1 B (a b B d).2) (fun b B d=>(a b B d).1) (nid:=nid) z t hmono q (fun i p=>l i (by rw [j] at p;have:=eG n;omega));rw [j] at this;exact this
     ·cases h
    ·rename_i v;cases h;refine ⟨_,_,_,_,x,⟨(fun ⟨_,h⟩=>by cases h),(fun ⟨_,h⟩=>by cases h)⟩, ?_⟩;intro g m S w cargs C hmono s k l t q;exact zf s (rd:=rd) (fun b B d=>k b (a b B d).1 B (a b B d).2) (fun b B d=>(a b B d).1) (nid:=nid) z t hmono q (fun i p=>by simp [h_] at p)
 ·split at h
  ·cases h
  ·rename_i F y;obtain ⟨⟨out,u,md⟩,D,x,h⟩:=R.bind_ok h;dsimp only at h;split at h
   ·cases h
   ·rename_i hcond;simp only [ε] at hcond;have A:=eG hcond.1
    let vers:Nat→Nat:=fun b=>match rd b with|some B=>B.ver|none=>0
    have hvers':∀ b B,rd b=some B→vers b=B.ver:=by
     intro b B d;simp only [vers,d]
    let ρ':Nat→Nat→Option (Nat × Nat):=MR nid fp vers u.length
    split at h
    ·rename_i v;split at h
     ·rename_i n;cases h;refine ⟨_,_,_,_,x,⟨fun _=> ⟨_,rfl⟩,fun _=> ⟨_,rfl⟩⟩, ?_⟩;intro g m S w cargs C hmono s k l t q;have j:h_ u.length (gV.ret v)=(iE (nid+(u.length - fp.length)) (ren ρ' v)).2:=(zH (EW ρ') v (nid+(u.length - fp.length)) u.length).symm;have:=zg s (rd:=rd) (fun b B d=>k b (a b B d).1 B (a b B d).2) y hcond.2 (nid:=nid) hvers' (ρ':=ρ') (fun b v=>rfl) rfl t hmono q A (fun i p=>l i (by rw [j] at p;exact Xqy p (eG n)));rw [j] at this;exact this
     ·cases h
    ·rename_i v;split at h
     ·rename_i n;cases h;refine ⟨_,_,_,_,x,⟨(fun ⟨_,h⟩=>by cases h),(fun ⟨_,h⟩=>by cases h)⟩, ?_⟩;intro g m S w cargs C hmono s k l t q;exact zg s (rd:=rd) (fun b B d=>k b (a b B d).1 B (a b B d).2) y hcond.2 (nid:=nid) hvers' (ρ':=ρ') (fun b v=>rfl) rfl t hmono q A (fun i p=>l i (by simp only [h_,Xqf,Xxf] at p;exact Xqy p (eG n)))
     ·cases h
theorem Bz (z:gp P ap H) {a:bD} {nid f:Nat} {args:List AV} {c c':Cx} {r:QE} (h:rC ap H a nid .dead f args c= .ok r c') (v:c'.Ok):
  c.Ok∧oV P f∧∀ g m S w cargs,aZ ap g m S w→(∀ b ∈ r.fp,∀ B,a b=some B→g b=some B)→(∀ i,i<4→g (nid+i)=none)→aS g m S args cargs→
   Calls P f cargs.toArray w fun e w'=>Vw ap g m S w r.out r.ups e w':=by
 obtain ⟨args0,h0,p,x,t,_,q⟩:=wH h;obtain ⟨k,o⟩:=z _ _ _ _ _ _ _ _ t v;refine ⟨k,o.ent,fun g m S w cargs s j d u=> ?_⟩;exact q g m S w cargs (fun cargs R=>Calls P f cargs.toArray w R) (fun _ _ _ l n=>l.mono n) s j d u fun y S1 _ l n=>o.calls y S1 w cargs l n
end
end AM
namespace AM
open Go
def qx (dec:List (Nat × Bool)) (env:dG):Prop:=∀ t b,ai dec t=some b→env.get t= .bool b
def dR (g:bD) (m:aB) (S:au):List (Nat × List AV)→List Deferred→Prop
 | [],[]=>True
 |d::r,cd::cr=>(∃ cap,cd.target= .fn (.func d.1) cap∧aS g m S d.2 (cd.args++cap).toList)∧dR g m S r cr
 |_,_=>False
theorem sN {g g':bD} {m b:aB} {S S':au} (a:gK S S') (c:Ge g m g' b):∀ {l:List (Nat × List AV)} {ds:List Deferred},dR g m S l ds→dR g' b S' l ds
 | [],[],_=>by simp only [dR]
 |d::r,cd::cr,h=>by
  simp only [dR] at h ⊢;obtain ⟨⟨cap,e,f⟩,i⟩:=h;exact ⟨⟨cap,e,iH a c _ f⟩,sN a c i⟩
 | [],_::_,h=>by simp [dR] at h
 |_::_,[],h=>by simp [dR] at h
theorem yX {g:bD} {m:aB} {S:au}:∀ {l l':List (Nat × List AV)} {ds ds':List Deferred},dR g m S l ds→dR g m S l' ds'→dR g m S (l++l') (ds++ds')
 | [],_,[],_,_,h'=>by simpa using h'
 |d::r,_,cd::cr,_,h,h'=>by
  simp only [dR] at h;simp only [List.cons_append,dR];exact ⟨h.1,yX h.2 h'⟩
 | [],_,_::_,_,h,_=>by simp [dR] at h
 |_::_,_,[],_,h,_=>by simp [dR] at h
def XB (P:Program) (ops:Array Oper) (Q:Exit→Act→World→Prop) (o:Oper) (K:Act→World→Prop) (a:Act) (w:World):Prop:=
 if Region.wanted o (yielded ops a.tmps) then o.wp P a w K Q∨(o.asks P a w∧LetsOut Q) else K (a.put o.dst undef) w
def XC (ap:AP) (o:Oper) (g:bD) (m:aB) (S:au) (w:World) (a:Act) (v:AV) (ups:List (Nat × az)) (df:List (Nat × List AV)) (Q:Exit→Act→World→Prop) (K:Act→World→Prop):Option AV→Prop
 |none=> ∀ cv m' S' w' ds,aZ ap (bC g ups) m' S' w'→Fr g m S w (bC g ups) m' S' w'→VR (bC g ups) m' S' v cv→dR (bC g ups) m' S' df ds→K ({a with defers:=ds++a.defers}.put o.dst cv) w'
 |some pv=> ∀ cv m' S' w',aZ ap (bC g ups) m' S' w'→Fr g m S w (bC g ups) m' S' w'→VR (bC g ups) m' S' pv cv→Q (.panic [{v:=cv,recovered:=false}]) a w'
def FW (P:Program) (ap:AP) (ops:Array Oper) (o:Oper) (nid:Nat) (env:dG) (hp:Hp) (rt rb:List Nat) (v:AV) (ups:List (Nat × az)) (df:List (Nat × List AV)) (p:Option AV):Prop:=
 ∀ g m S w (a:Act),aZ ap g m S w→(∀ t ∈ rt,VR g m S (env.get t) (a.tmps.getD t undef))→(∀ b ∈ rb,∀ B,ai hp b=some B→g b=some B)→(∀ i,i<4→g (nid+i)=none)→
  ∀ (Q:Exit→Act→World→Prop) (K:Act→World→Prop),XC ap o g m S w a v ups df Q K p→XB P ops Q o K a w
structure XH (P:Program) (ap:AP) (ops:Array Oper) (o:Oper) (nid:Nat) (s s':RS) (p:Option AV) (v:AV) (rt rb:List Nat) (ups:List (Nat × az)) (df:List (Nat × List AV)):Prop where
 env:p=none→s'.env=nZ s.env o.dst v
 envp:p ≠ none→s'.env=s.env∧df= []
 hp:s'.hp=ups++s.hp
 md:s'.md=s.md
 dfs:s'.dfs=df++s.dfs
 dec:p=none→qx s'.dec s'.env
 feet:p=none→s'.feet={rt,wt:=Gm o,rb,wb:=ups.map (·.1)}::s.feet
 sem:FW P ap ops o nid s.env s.hp rt rb v ups df p
section
variable {P:Program} {ap:AP} {H:bi}
theorem Rq (e:Array Value) (t:Nat) {v:Value} (h:e.getD t undef=v) (b:v ≠ undef):e[t]? =some v:=by
 rw [Array.getD_eq_getD_getElem?] at h;cases a:e[t]? with
 |none=>rw [a] at h;exact absurd h.symm b
 |some u=>rw [a] at h;simpa using h
theorem Eb {ops:Array Oper} {tmps:Array Value} {j s:Nat} (hs:(ops[j]?).bind (·.dst)=some s) {b:Bool} (h:tmps.getD s undef= .bool b):yielded ops tmps j=some b:=by
 unfold yielded;rw [hs];simp only [Xza];rw [Rq tmps s h (by simp [undef])]
theorem Ie {ops:Array Oper} {tmps:Array Value} {j s:Nat} (hs:(ops[j]?).bind (·.dst)=some s) (h:tmps.getD s undef= .tuple #[]):yielded ops tmps j=none:=by
 unfold yielded;rw [hs];simp only [Xza];rw [Array.getD_eq_getD_getElem?] at h;cases a:tmps[s]? with
 |none=>rfl
 |some u=>
  rw [a] at h;simp at h;rw [h]
theorem pI {g:bD} {m:aB} {S:au} {w:World} (c:aZ ap g m S w) {env:dG} {a:Act} (x:Operand) (h:∀ t,x= .tmp t→VR g m S (env.get t) (a.tmps.getD t undef)):VR g m S (oG ap env x) (a.eval x):=by
 cases x with
 |tmp t=>exact h t rfl
 |const v=>exact ed _ (Ir S v)
 | global k=>
  simp only [oG,Act.eval];cases b:(ap.gl[k]?).join with
  |none=>simp only [VR]
  |some xs=>
   obtain ⟨vs,d,e⟩:=c.glob k xs b;simp only [VR,PR];exact ⟨k,0,vs,rfl,d,e⟩
 |func f=>
  simp only [oG,Act.eval,VR];exact ⟨[],[],rfl,by simp [aS],by simp [aS]⟩
theorem CZ {l:List Operand} {t:Nat} (h:Operand.tmp t ∈ l):t ∈ mg l:=by
 simp only [mg,List.mem_filterMap];exact ⟨_,h,rfl⟩
theorem Gx {ops:List Oper} {env:dG} {dec e:List (Nat × Bool)} {o:Oper} {c c':Cx} {run:Bool} (h:KU ops env dec o c= .ok (run,e) c') (q:c'.Ok):
  c.Ok∧(qx dec env→qx e env∧(∀ t b,ai dec t=some b→ai e t=some b)∧∀ g m S (a:Act),(∀ t ∈ fD ops o,VR g m S (env.get t) (a.tmps.getD t undef))→Region.wanted o (yielded ops.toArray a.tmps)=run):=by
 unfold KU at h;unfold fD;unfold Region.wanted;split at h
 ·rename_i u;cases h;simp only [u];exact ⟨q,fun k=> ⟨k,fun _ _ h=>h,fun _ _ _ _ _=>trivial⟩⟩
 ·rename_i j i u;simp only [u];split at h
  ·cases h
  ·rename_i s hs;have l:(ops.toArray[j]?).bind (·.dst)=some s:=by simpa using hs
   split at h
   ·rename_i b n;cases h;refine ⟨q,fun k=> ⟨k,fun _ _ h=>h,fun g m S a p=> ?_⟩⟩;have d:=p s (by simp);rw [k s b n] at d;simp only [VR,PR] at d;rw [Eb l d];cases i<;>cases b<;>rfl
   ·rename_i B;split at h
    ·rename_i b n;obtain ⟨C,D,d,z⟩:=R.bind_ok h;cases z;obtain ⟨y,rfl⟩:=jM d q;refine ⟨y,fun k=> ⟨?_, ?_,fun g m S a p=> ?_⟩⟩
     ·intro t x f;simp only [ai] at f;split at f
      ·rename_i A;cases f;rw [← aA A,n]
      ·exact k t x f
     ·intro t x f;simp only [ai];split
      ·rename_i A;rw [aA A] at B;rw [B] at f;cases f
      ·exact f
     ·have d:=p s (by simp);rw [n] at d;simp only [VR,PR] at d;rw [Eb l d];cases i<;>cases C<;>rfl
    ·rename_i n;cases h;refine ⟨q,fun k=> ⟨k,fun _ _ h=>h,fun g m S a p=> ?_⟩⟩;have d:=p s (by simp);rw [n] at d;simp only [VR] at d;obtain ⟨vs,d,z⟩:=d;cases vs with
     |nil=>rw [Ie l d];rfl
     |cons v r=>simp [aS] at z
    ·cases h
theorem IW {env:dG} {o:Oper} {v:AV} {t:Nat} (h:∀ d,o.dst=some d→d ≠ t):(nZ env o.dst v).get t=env.get t:=by
 unfold nZ;split
 ·rename_i d a;simp only [dG.get,ai];split
  ·rename_i b;exact absurd (aA b) (h d a)
  ·rfl
 ·rfl
theorem wK {dec:List (Nat × Bool)} {env:dG} {o:Oper} {v:AV} (e:qx dec env) (a:Nh dec o=true):qx dec (nZ env o.dst v):=by
 intro t b c;rw [IW]
 ·exact e t b c
 ·rintro d hdd rfl
  unfold Nh at a;rw [hdd] at a;simp [c] at a
end
end AM
namespace AM
open Go
section
variable {P:Program} {ap:AP} {H:bi}
theorem Si {c:Cx} {dst:Option Nat} {v:AV} (h:(Cb c dst v).2.Ok):c.Ok∧bF v (Cb c dst v).1:=by
 obtain ⟨cl,orc,bs,ps,ans,hs⟩:=c;unfold Cb at h ⊢;dsimp only at h ⊢;split at h
 ·rename_i d x r f;split at h
  ·rename_i b;have e:bF v x:=h.ps _ (Xxg ..);refine ⟨⟨h.bs,fun p hp=>h.ps p (Θ _ hp)⟩, ?_⟩;simp only [b];exact e
  ·rename_i b;refine ⟨h, ?_⟩;simp only [b];exact fun _ _ _ _ a=>a
 ·rename_i i;exact ⟨h,fun _ _ _ _ a=>a⟩
theorem R_ {c:Cx} {dst:Option Nat} (h:(NF c dst).2.Ok):c.Ok:=by
 obtain ⟨cl,orc,bs,ps,ans,hs⟩:=c;unfold NF at h;dsimp only at h;split at h
 ·split at h
  ·exact ⟨h.bs,h.ps⟩
  ·exact h
 ·exact h
theorem RY {c:Cx} {dst:Option Nat} {ups:List (Nat × az)} (h:(B_ c dst ups).2.Ok):c.Ok∧(B_ c dst ups).1=ups:=by
 obtain ⟨cl,orc,bs,ps,ans,hs⟩:=c;unfold B_ at h ⊢;dsimp only at h ⊢;split at h
 ·rename_i d e r i b B;split at h
  ·rename_i a;have f:B.cells=e:=h.ps _ (Xxg ..);refine ⟨⟨h.bs,fun p hp=>h.ps p (Θ _ hp)⟩, ?_⟩;simp only [a,← f]
  ·rename_i a;refine ⟨h, ?_⟩;simp only [a]
 ·rename_i j;exact ⟨h,rfl⟩
theorem RZ {nid:Nat} {c:Cx} {dst:Option Nat} {v:AV} {ups:List (Nat × az)} (h:(wV nid c dst v ups).2.2.Ok):c.Ok∧(((wV nid c dst v ups).1=v∧(wV nid c dst v ups).2.1=ups)∨
  ∃ n B,v= .ref nid B.ver 0 n∧ups= [(nid,B)]∧B.pr=true∧B.fro=false∧B.cells.length=n*B.esz∧0<n∧(wV nid c dst v ups).1= .sl B.cells n true∧(wV nid c dst v ups).2.1= [(nid,{B with fro:=true,fz:=B.cells.length})]):=by
 obtain ⟨cl,orc,bs,ps,ans,hs⟩:=c;unfold wV at h ⊢;dsimp only at h ⊢;split at h
 ·rename_i d r s b ver n q B;split at h
  ·rename_i a;refine ⟨⟨h.bs,h.ps⟩,.inr ?_⟩;simp only [ε,Xqe] at a;obtain ⟨_,⟨⟨⟨⟨⟨i,j⟩,k⟩,o⟩,p⟩,f⟩,l⟩:=a;have i:=Xqv i;have j:=Xqv j;have k:=Xqv k;have f:=Xqv f;subst i j k;exact ⟨n,B,rfl,rfl,o,p,f,Nat.pos_of_ne_zero fun e=>by subst e;simp at l,rfl,rfl⟩
  ·rename_i a;refine ⟨h,.inl ?_⟩;simp [a]
 ·exact ⟨h,.inl ⟨rfl,rfl⟩⟩
theorem fO.shut {g:bD} {m:aB} {S:au} {w:World} {s:Sem Next} {b n:Nat} {B:az} (hb:g b=none) (U:B.pr=true) (N:B.fro=false) (hn:B.cells.length=n*B.esz) (h0:0<n) (h:fO P ap g m S w s (.ref b B.ver 0 n) [(b,B)]):
  ∃ nx c S' w',s.run P w= .ok nx w'∧aZ ap (bC g [(b,{B with fro:=true,fz:=B.cells.length})]) c S' w'∧Fr g m S w (bC g [(b,{B with fro:=true,fz:=B.cells.length})]) c S' w'∧((∃ cv,nx= .value cv∧VR (bC g [(b,{B with fro:=true,fz:=B.cells.length})]) c S' (.sl B.cells n true) cv)∨(nx= .skip∧AV.ref b B.ver 0 n= .dead)):=by
 obtain ⟨nx,c,w',M,A,l,p⟩:=h;have t:bC g [(b,B)] b=some B:=by simp [bC,ai]
 have I:∀ x,x ≠ b→∀ C:az,bC g [(b,C)] x=g x:=fun x a C=>by
  have:Δ b x=false:=by rw [Bool.eq_false_iff];exact fun e=>a (Xqv e).symm
  simp [bC,ai,this]
 have L:bC g [(b,{B with fro:=true,fz:=B.cells.length})] b=some {B with fro:=true,fz:=B.cells.length}:=by simp [bC,ai]
 have i:∀ x C,bC g [(b,{B with fro:=true,fz:=B.cells.length})] x=some C→(x=b∧C={B with fro:=true,fz:=B.cells.length})∨(x ≠ b∧bC g [(b,B)] x=some C):=fun x C a=>by
  by_cases e:x=b
  ·subst e;rw [L] at a;cases a;exact .inl ⟨rfl,rfl⟩
  ·rw [I x e] at a;exact .inr ⟨e,by rw [I x e];exact a⟩
 have fresh:w.heap.size≤(c b).1:=by
  rcases l.img b B t with e|⟨B0,e,_⟩
  ·exact e
  ·rw [hb] at e;cases e
 have R:∀ o,S (c b).1 o=none:=fun o=>by
  cases hs:S (c b).1 o with
  |none=>rfl
  |some v=>have:=(A.own b B t o v hs).1;rw [N] at this;cases this
 obtain ⟨⟨cur,e,vs,rest,r1,Y,J,r4,X,r6⟩,_,_⟩:=A.blk b B t;have J:=J U;have Q:=jL J
 let S':au:=fun k o=>if k=(c b).1 then vs[o]? else S k o
 have f:gK S S':=fun k o v E=>by
  show (if k=(c b).1 then vs[o]? else S k o)=some v;split
  ·rename_i e;subst e;rw [R] at E;cases E
  ·exact E
 have K:Ge (bC g [(b,B)]) c (bC g [(b,{B with fro:=true,fz:=B.cells.length})]) c:=fun x C a=>by
  by_cases e:x=b
  ·subst e;rw [t] at a;cases a;exact ⟨_,L,rfl,.inl ⟨rfl,rfl⟩⟩
  ·rw [I x e] at a;exact ⟨C,by rw [I x e];exact a,rfl,.inl ⟨rfl,rfl⟩⟩
 have T:0<B.esz∧B.esz ≠ dJ:=by
  rcases p with ⟨cv,_,p⟩|⟨_,e⟩
  ·simp only [VR] at p;obtain ⟨B1,F,_,_,p⟩:=p;rw [t] at F;cases F;obtain ⟨_,_,_,_,Z,V⟩:=p rfl;exact ⟨Z,V⟩
  ·cases e
 have hcell:∀ o v,vs[o]? =some v→bT w' (c b).1 o=some v:=fun o v r=>by
  refine pq ?_ (X T.2 v (ο r));rw [iI (r1.cells T.2),Y,υ (List.getElem?_eq_some_iff.1 r).1];exact r
 refine ⟨nx,c,S',w',M,⟨fun x y C D a hy W=> ?_,fun x C a=> ?_,fun k o v E=> ?_,fun x C a o v r=> ?_,fun q xs hq=> ?_⟩,⟨fun x C a=> ?_,l.sle.trans f,l.os,l.tape,l.output,l.size,l.rest,fun x C a=> ?_,fun k o v E=> ?_,fun x C a=> ?_⟩, ?_⟩
 ·have z:∃ C',bC g [(b,B)] x=some C':=by
   rcases i x C a with ⟨e,_⟩|⟨_,e⟩
   ·exact ⟨B,by rw [e];exact t⟩
   ·exact ⟨C,e⟩
  have G:∃ C',bC g [(b,B)] y=some C':=by
   rcases i y D hy with ⟨e,_⟩|⟨_,e⟩
   ·exact ⟨B,by rw [e];exact t⟩
   ·exact ⟨D,e⟩
  obtain ⟨_,z⟩:=z;obtain ⟨_,G⟩:=G;exact A.inj x y _ _ z G W
 ·rcases i x C a with ⟨rfl,rfl⟩|⟨_,e⟩
  ·exact ⟨⟨cur,e,vs,rest,r1,Y,fun _=>aW f _ J,iH f K _ r4,X,r6⟩,fun h=>(by cases h),ζ _⟩
  ·exact (A.blk x C e).mono f K rfl
 ·have d:(if k=(c b).1 then vs[o]? else S k o)=some v:=E;by_cases e:k=(c b).1
  ·rw [if_pos e] at d;rw [e];exact hcell o v d
  ·rw [if_neg e] at d;exact A.sealed k o v d
 ·have r:(if (c x).1=(c b).1 then vs[o]? else S (c x).1 o)=some v:=r;rcases i x C a with ⟨rfl,rfl⟩|⟨O,e⟩
  ·rw [if_pos rfl] at r;exact ⟨rfl,by show o<B.cells.length;rw [Q];exact (List.getElem?_eq_some_iff.1 r).1⟩
  ·rw [if_neg fun F=>O (A.inj x b _ _ e t F)] at r;exact A.own x C e o v r
 ·obtain ⟨us,k1,k2⟩:=A.glob q xs hq;exact ⟨us,aW f _ k1,k2.mono f⟩
 ·obtain ⟨C',z,G⟩:=l.ge x C a;have O:x ≠ b:=fun e=>by subst e;rw [hb] at a;cases a
  exact ⟨C',by rw [I x O];rw [I x O] at z;exact z,G⟩
 ·rcases i x C a with ⟨rfl,rfl⟩|⟨_,e⟩
  ·exact .inl fresh
  ·exact l.img x C e
 ·have d:(if k=(c b).1 then vs[o]? else S k o)=some v:=E;by_cases e:k=(c b).1
  ·rw [e];exact .inr (.inl fresh)
  ·rw [if_neg e] at d;exact l.sealN k o v d
 ·rcases i x C a with ⟨rfl,rfl⟩|⟨_,e⟩
  ·exact l.mw x B t
  ·exact l.mw x C e
 ·rcases p with ⟨cv,z,p⟩|⟨_,e⟩
  ·refine .inl ⟨cv,z, ?_⟩;simp only [VR] at p;obtain ⟨B1,F,_,_,p⟩:=p;rw [t] at F;cases F;obtain ⟨o,G,Z,V,_⟩:=p rfl;have r:=V (by omega);simp only [VR,PR];refine ⟨_,_,G,by omega,.inr ⟨_,_,vs,rfl,aW f _ J,fun j u hj=> ⟨?_,X T.2 u (ο hj)⟩⟩⟩;show (if (c b).1=(c b).1 then vs[o+j]? else S (c b).1 (o+j))=some u;rw [if_pos rfl,r];simpa using hj
  ·cases e
theorem zJ {a:Act} {g:Operand} {args:Array Operand} {argTypes:Array TypeId} {ty:TypeId} {f:Nat} {first cap:Array Value} (h:a.eval g= .func (.func f) first cap) (w:World):
  (resolve a.eval {callee:= .value g,args,argTypes} ty).run P w= .ok {target:= .fn (.func f) cap,args:=first++args.map a.eval} w:=by
 simp only [resolve,h,Deferred.ofValue];rfl
theorem Es {a:Act} {g:Operand} {args:Array Operand} {argTypes:Array TypeId} {ty:TypeId} {f:Nat} {first cap:Array Value} (h:a.eval g= .func (.func f) first cap) (b:oV P f) (w:World):
  (do let d ← resolve a.eval {callee:= .value g,args,argTypes} ty;invoke d.target d.args:Sem Next).run P w= .ok (.enter f ((first++args.map a.eval)++cap)) w:=by
 rw [Sem.run_bind,zJ h,Result.andThen_ok];exact b _ _
theorem Bf {g:bD} {m:aB} {S:au} {ρ:Operand→AV} {cρ:Operand→Value} {args:Array Operand} (h:∀ o ∈ args,VR g m S (ρ o) (cρ o)):aS g m S (args.toList.map ρ) (args.map cρ).toList:=by
 rw [Array.toList_map];exact sO _ fun o a=>h o (by simpa using a)
theorem yA:∀ {l:Hp} {b:Nat} {B:az},ai l b=some B→(b,B) ∈ l
 | [],_,_,h=>by cases h
 | (k,X)::r,b,B,h=>by
  simp only [ai] at h;split at h
  ·rename_i a;cases h;have:=aA a;subst this;exact Xxg ..
  ·exact Θ _ (yA h)
theorem CW {α β:Type} {f g:α→β}:∀ {l:List α},l.map f=l.map g→∀ {x:α},x ∈ l→f x=g x
 | [],_,_,h=>by cases h
 |a::r,h,x,hx=>by
  simp only [Γ,List.cons.injEq] at h;rcases List.mem_cons.1 hx with rfl|hx
  ·exact h.1
  ·exact CW h.2 hx
theorem LW {t:Nat} {b:String} {f:Nat} (l:di P ap) (h:ap.mtAt t b=some f) (v:Value) (n:Nat) (w:World):(method (n+1) t v b).run P w= .ok (f,v) w:=by
 unfold AP.mtAt at h;obtain ⟨q,r,rfl⟩:=Option.map_eq_some_iff.1 h;have p:=List.find?_some r;have a:=List.all_eq_true.1 l.mt _ (List.mem_of_find?_eq_some r);simp only [ε,beq_iff_eq] at p;obtain ⟨o,u⟩:=p;have o:=aA o;subst o;subst u;unfold mtB at a;split at a
 ·rename_i i s;split at a
  ·rename_i m hm;rw [ε] at a;obtain ⟨hp,a⟩:=a;have hpath:m.path.toList= []:=by simpa using hp
   unfold method;rw [Sem.run_bind,run_typeInfo w s,Result.andThen_ok];simp only [hm,hpath,follow];split at a
   ·rename_i f e k c;have:=aA a;subst this;simp [k,receiverAt,run_underlying c w,Place.get]
   ·cases a
   ·rename_i f d j k c;have:=aA a;subst this;cases d<;>first|exact (j _ rfl).elim|simp [k,receiverAt,run_underlying c w,Place.get]
   ·cases a
  ·cases a
 ·cases a
theorem DI {a:Act} {g:Operand} {b:String} {args:Array Operand} {argTypes:Array TypeId} {ty:TypeId} {t f:Nat} {cv:Value} (c:di P ap) (e:ap.mtAt t b=some f) (h:a.eval g= .iface t cv) (j:oV P f) (w:World):
  (do let d ← resolve a.eval {callee:= .invoke g b,args,argTypes} ty;invoke d.target d.args:Sem Next).run P w= .ok (.enter f (cv::(args.map a.eval).toList).toArray) w:=by
 have hm:(method (P.types.size+Made.depth) t cv b).run P w= .ok (f,cv) w:=LW c e cv (P.types.size+Made.depth - 1) w;have h0:(#[Value.iface t cv]++args.map a.eval)[0]? =some (.iface t cv):=by rw [Array.getElem?_append_left (by simp)];rfl
 simp only [resolve,h,Sem.run_bind,Sem.run_pure,Result.andThen_ok,invoke,h0,callMethod];have i:#[cv]++(#[Value.iface t cv]++args.map a.eval).extract 1 (#[Value.iface t cv]++args.map a.eval).size=(cv::(args.map a.eval).toList).toArray:=by
  apply Array.toList_inj.1;simp;exact List.take_of_length_le (by simp)
 rw [show (program.run P w)= .ok P w from rfl,Result.andThen_ok,hm,Result.andThen_ok,i];exact j _ _
theorem wI (X:gp P ap H) {nid:Nat} {ops:List Oper} {o:Oper} {s s':RS} {dec:List (Nat × Bool)} {f:Nat} {T:List AV} {p:Option AV} {U c':Cx} (h:F_ ap H nid o s (mg o.op.operands.toList++fD ops o) dec f T U= .ok (s',p) c') (E:c'.Ok) (l:Nh dec o=true)
  (hex:oV P f→∀ {g:bD} {m:aB} {S:au} {w:World} {a:Act},aZ ap g m S w→(∀ t ∈ mg o.op.operands.toList++fD ops o,VR g m S (s.env.get t) (a.tmps.getD t undef))→∃ cargs:List Value,(execOp a.eval o).run P w= .ok (.enter f cargs.toArray) w∧aS g m S T cargs):
  U.Ok∧(s.md= .dead→qx dec s.env→(∀ (Q:Exit→Act→World→Prop) (K:Act→World→Prop) (g:bD) (m:aB) (S:au) (a:Act) (w:World),(∀ t ∈ mg o.op.operands.toList++fD ops o,VR g m S (s.env.get t) (a.tmps.getD t undef))→o.wp P a w K Q→XB P ops.toArray Q o K a w)→
   ∃ v rb ups df,XH P ap ops.toArray o nid s s' p v (mg o.op.operands.toList++fD ops o) rb ups df):=by
 unfold F_ at h;obtain ⟨r,F,W,h⟩:=R.bind_ok h;have G:F.Ok:=by
  revert h
  cases J:NF F o.dst with
  | mk u N=>
   have j:N.Ok→F.Ok:=fun V=>R_ (by rw [J];exact V)
   cases u with
   | true=>
    dsimp only;cases r.out with
    |ret v=>
     dsimp only;split
     ·intro h;cases h;exact j ⟨E.bs,fun p hp=>E.ps p (Θ _ hp)⟩
     ·intro h;cases h
    |pan v=>intro h;cases h
   |false=>dsimp only;cases r.out<;>intro h<;>cases h<;>exact j E
 obtain ⟨L,O,hcall⟩:=Bz X W G;refine ⟨L,fun Y D hwant=> ?_⟩;split at h
 ·rename_i N J;split at h
  ·rename_i v c;split at h
   ·rename_i A;cases h;have I:r.ups.map (fun (q:Nat × az)=>some q.2)=r.ups.map (fun (q:Nat × az)=>ai s.hp q.1):=E.ps _ (Xxg ..);refine ⟨v,r.fp,[],[],⟨fun _=>rfl,fun h=>absurd rfl h,rfl,rfl,rfl,fun _=>wK D l,fun _=>rfl, ?_⟩⟩;intro g m S w a k n d i Q K z;have M:bC g r.ups=g:=by
     funext b;unfold bC;cases Z:ai r.ups b with
     |none=>rfl
     |some B=>
      have hm:=yA Z;have x:=CW I hm;exact (d b (fQ.1 (List.all_eq_true.1 A _ hm)) B x.symm).symm
    refine hwant Q K g m S a w n ?_;obtain ⟨cargs,x,C⟩:=hex O k n;unfold Oper.wp;rw [x];refine (hcall g m S w _ k d i C).mono ?_
    rintro e w' ⟨m',S',j,h4,h5⟩
    rw [c] at h5;obtain ⟨cv,rfl,y⟩:=h5;rw [M] at j h4 y;exact z cv m' S' w' [] j h4 y (by simp [dR])
   ·cases h
  ·cases h
 ·rename_i N J;split at h
  ·rename_i v c;cases h;refine ⟨v,r.fp,r.ups,[],⟨fun _=>rfl,fun h=>absurd rfl h,rfl,rfl,rfl,fun _=>wK D l,fun _=>rfl, ?_⟩⟩;intro g m S w a k n d i Q K z;refine hwant Q K g m S a w n ?_;obtain ⟨cargs,x,C⟩:=hex O k n;unfold Oper.wp;rw [x];refine (hcall g m S w _ k d i C).mono ?_
   rintro e w' ⟨m',S',j,h4,h5⟩
   rw [c] at h5;obtain ⟨cv,rfl,y⟩:=h5;exact z cv m' S' w' [] j h4 y (by simp [dR])
  ·rename_i v c;cases h;refine ⟨v,r.fp,r.ups,[],⟨fun h=>(by cases h),fun _=> ⟨rfl,rfl⟩,rfl,rfl,rfl,fun h=>(by cases h),fun h=>(by cases h), ?_⟩⟩;intro g m S w a k n d i Q K z;refine hwant Q K g m S a w n ?_;obtain ⟨cargs,x,C⟩:=hex O k n;unfold Oper.wp;rw [x];refine (hcall g m S w _ k d i C).mono ?_
   rintro e w' ⟨m',S',j,h4,h5⟩
   rw [c] at h5;obtain ⟨cv,rfl,y⟩:=h5;exact z cv m' S' w' j h4 y
theorem qj (hap:di P ap) (hH:gp P ap H) {nid:Nat} {ops:List Oper} {o:Oper} {s s':RS} {p:Option AV} {c c':Cx} (h:J6 ap H nid ops o s c= .ok (s',p) c') (N:c'.Ok):
  c.Ok∧(s.md= .dead→qx s.dec s.env→∃ v rb ups df,XH P ap ops.toArray o nid s s' p v (mg o.op.operands.toList++fD ops o) rb ups df):=by
 unfold J6 at h;obtain ⟨⟨run,dec⟩,c1,e1,h⟩:=R.bind_ok h;dsimp only at h;split at h
 ·cases h
 rename_i z;have hguard:∀ c1ok:c1.Ok,c.Ok∧(qx s.dec s.env→qx dec s.env∧(∀ t b,ai s.dec t=some b→ai dec t=some b)∧∀ g m S (a:Act),(∀ t ∈ fD ops o,VR g m S (s.env.get t) (a.tmps.getD t undef))→Region.wanted o (yielded ops.toArray a.tmps)=run):=fun hk=>Gx e1 hk
 have y:∀ {g:bD} {m:aB} {S:au} {w:World} {a:Act},aZ ap g m S w→(∀ t ∈ mg o.op.operands.toList++fD ops o,VR g m S (s.env.get t) (a.tmps.getD t undef))→∀ x ∈ o.op.operands,VR g m S (oG ap s.env x) (a.eval x):=by
  intro g m S w a C k x I;refine pI C x fun t ht=>k t ?_
  subst ht;exact List.mem_append.2 (.inl (CZ (by simpa using I)))
 split at h
 ·
  cases h;obtain ⟨j,J⟩:=hguard N;refine ⟨j,fun q d=> ?_⟩;obtain ⟨hd,_,hw⟩:=J d;refine ⟨.tup [],[],[],[],⟨fun _=>rfl,fun h=>absurd rfl h,rfl,rfl,rfl,fun _=>wK hd z,fun _=>rfl, ?_⟩⟩;intro g m S w a C k _ _ Q K X;unfold XB;rw [hw g m S a fun t ht=>k t (List.mem_append.2 (.inr ht))];simp only [Bool.false_eq_true,if_false];have:=X undef m S w [] (by rw [dP];exact C) (by rw [dP];exact Fr.refl _ _ _ _) (by simp only [VR];exact ⟨[],rfl,by simp [aS]⟩) (by simp [dR]);exact this
 ·
  have hwant:∀ (Q:Exit→Act→World→Prop) (K:Act→World→Prop) (g:bD) (m:aB) (S:au) (a:Act) (w:World),c1.Ok→qx s.dec s.env→(∀ t ∈ mg o.op.operands.toList++fD ops o,VR g m S (s.env.get t) (a.tmps.getD t undef))→o.wp P a w K Q→XB P ops.toArray Q o K a w:=by
   intro Q K g m S a w hk d k hh;obtain ⟨_,_,hw⟩:=(hguard hk).2 d;unfold XB;rw [hw g m S a fun t ht=>k t (List.mem_append.2 (.inr ht))];simp only [if_true];exact .inl hh
  split at h
  ·
   rename_i gf args argTypes i;split at h
   ·rename_i f first cap hf
    obtain ⟨r,hs⟩:=wI hH h N z (fun hE {g m S w a} C k=>by
     have A:=y C k;rw [i] at A;have l:=A gf (by simp [Op.operands,Call.operands]);rw [hf] at l;simp only [VR] at l;obtain ⟨vf,vc,E,G,L⟩:=l;refine ⟨(vf++(args.map a.eval).toList)++vc, ?_,fH (fH G (Bf fun x I=>A x (by simp [Op.operands,Call.operands,I]))) L⟩;have:=Es (args:=args) (argTypes:=argTypes) (ty:=o.type) E hE w;unfold execOp;rw [i];dsimp only;rw [this];congr 2;apply Array.toList_inj.1;simp)
    obtain ⟨j,J⟩:=hguard r;refine ⟨j,fun q d=> ?_⟩;exact hs q (J d).1 fun Q K g m S a w k hh=>hwant Q K g m S a w r d k hh
   ·cases h
  ·
   rename_i gf name args argTypes i;split at h
   ·rename_i ty vv hf;split at h
    ·rename_i f hmt;obtain ⟨r,hs⟩:=wI hH h N z (fun hE {g m S w a} C k=>by
      have A:=y C k;rw [i] at A;have l:=A gf (by simp [Op.operands,Call.operands]);rw [hf] at l;simp only [VR] at l;obtain ⟨cv,E,G⟩:=l;refine ⟨cv::(args.map a.eval).toList, ?_, ?_⟩
      ·have:=DI hap hmt (args:=args) (argTypes:=argTypes) (ty:=o.type) E hE w;unfold execOp;rw [i];dsimp only;rw [this]
      ·simp only [aS];exact ⟨G,Bf fun x I=>A x (by simp [Op.operands,Call.operands,I])⟩)
     obtain ⟨j,J⟩:=hguard r;refine ⟨j,fun q d=> ?_⟩;exact hs q (J d).1 fun Q K g m S a w k hh=>hwant Q K g m S a w r d k hh
    ·cases h
   ·cases h
  ·
   split at h
   ·cases h;exact ⟨(hguard N).1,fun q=>by simp_all⟩
   ·cases h;exact ⟨(hguard N).1,fun q=>by simp_all⟩
   ·cases h
  ·
   rename_i gf args argTypes i;split at h
   ·rename_i f first cap hf
    cases h;obtain ⟨j,J⟩:=hguard N;refine ⟨j,fun q d=> ?_⟩;obtain ⟨hd,_,_⟩:=J d;refine ⟨.dead,[],[],[(f,first++args.toList.map (oG ap s.env)++cap)],⟨fun _=>rfl,fun h=>absurd rfl h,rfl,rfl,rfl,fun _=>wK hd z,fun _=>rfl, ?_⟩⟩;intro g m S w a C k hag V Q K X;refine hwant Q K g m S a w N d k ?_;have A:=y C k;rw [i] at A;have l:=A gf (by simp [Op.operands,Call.operands]);rw [hf] at l;simp only [VR] at l;obtain ⟨vf,vc,E,G,L⟩:=l;unfold Oper.wp;have hr:(execOp a.eval o).run P w= .ok (.defer {target:= .fn (.func f) vc.toArray,args:=vf.toArray++args.map a.eval}) w:=by
     unfold execOp;rw [i];dsimp only;rw [Sem.run_bind,zJ E,Result.andThen_ok];rfl
    rw [hr];refine X undef m S w [{target:= .fn (.func f) vc.toArray,args:=vf.toArray++args.map a.eval}] (by rw [dP];exact C) (by rw [dP];exact Fr.refl _ _ _ _) (by simp only [VR]) ?_;simp only [dR,dP,and_true];refine ⟨vc.toArray,rfl, ?_⟩;have:=fH (fH G (Bf (args:=args) fun x I=>A x (by simp [Op.operands,Call.operands,I]))) L;simpa using this
   ·cases h
  ·
   rename_i x i;split at h
   ·rename_i t v I;cases h;obtain ⟨j,J⟩:=hguard N;refine ⟨j,fun q d=> ?_⟩;obtain ⟨hd,_,_⟩:=J d;refine ⟨.dead,[],[],[],⟨fun h=>(by cases h),fun _=> ⟨rfl,rfl⟩,rfl,rfl,rfl,fun h=>(by cases h),fun h=>(by cases h), ?_⟩⟩;intro g m S w a C k hag V Q K X;refine hwant Q K g m S a w N d k ?_;have A:=y C k;rw [i] at A;have l:=A x (by simp [Op.operands]);rw [I] at l;have h2':=l;simp only [VR] at h2';obtain ⟨u,E,G⟩:=h2';unfold Oper.wp;have hr:(execOp a.eval o).run P w= .halt (.panic (a.eval x)) w:=by
     unfold execOp;rw [i];dsimp only;rw [E];rfl
    rw [hr];exact X _ m S w (by rw [dP];exact C) (by rw [dP];exact Fr.refl _ _ _ _) (by rw [dP];exact l)
   ·cases h
  ·
   rename_i op n1 n2 n3 n4;obtain ⟨em,c2,Z,h⟩:=R.bind_ok h;split at h
   ·cases h
   ·rename_i v ups bs i;obtain ⟨_,c3,e3,h⟩:=R.bind_ok h;have hv0:(wV nid c3 o.dst v ups).2.2.Ok→_:=RZ;generalize wV nid c3 o.dst v ups=q0 at h hv0;obtain ⟨v0,D,T⟩:=q0;dsimp only at h hv0;have hv1:(Cb T o.dst v0).2.Ok→T.Ok∧bF v0 (Cb T o.dst v0).1:=Si;generalize Cb T o.dst v0=q1 at h hv1;obtain ⟨v1,c4⟩:=q1;dsimp only at h hv1;have Y:(B_ c4 o.dst D).2.Ok→c4.Ok∧(B_ c4 o.dst D).1=D:=RY;generalize B_ c4 o.dst D=q2 at h Y;obtain ⟨F,c5⟩:=q2;dsimp only at h Y;cases h;obtain ⟨hc4,hups⟩:=Y N;subst hups;obtain ⟨hc30,W⟩:=hv1 hc4;obtain ⟨hc3,hf⟩:=hv0 hc30;obtain ⟨hc2,hbs⟩:=Gn e3 hc3;have hem:c1.Ok∧∀ n,wL (oG ap s.env) o.op=some n→Δ n 0=em:=by
     split at Z
     ·rename_i n hn;obtain ⟨hk,rfl⟩:=jM Z hc2;exact ⟨hk,fun n' M=>by rw [hn] at M;cases M;rfl⟩
     ·rename_i hn;cases Z;exact ⟨hc2,fun n' M=>by rw [hn] at M;cases M⟩
    obtain ⟨r,hem⟩:=hem;obtain ⟨j,J⟩:=hguard r;refine ⟨j,fun q d=> ?_⟩;obtain ⟨hd,_,_⟩:=J d;refine ⟨v1,TY (oG ap s.env) o.op,F,[],⟨fun _=>rfl,fun h=>absurd rfl h,rfl,rfl,rfl,fun _=>wK hd z,fun _=>rfl, ?_⟩⟩;intro g m S w a C k hag V Q K X;refine hwant Q K g m S a w r d k ?_;have A:=y C k;have U:=P6 hap C (nid:=nid) (V 0 (by omega)) (ρ:=oG ap s.env) (cρ:=a.eval) (fun b B hb=>by
      split at hb
      ·rename_i hm;exact hag b (fQ.1 hm) B hb
      ·cases hb) o A (dec:=fun| .tmp t=>ai dec t|_=>none) (fun x I b hb=>by
      split at hb
      ·rename_i t;have:=k t (List.mem_append.2 (.inl (CZ (by simpa using I))));rw [hd t b hb] at this;simp only [VR,PR] at this;exact this
      ·cases hb) hem i hbs
    have U:∃ nx O S' w',(execOp a.eval o).run P w= .ok nx w'∧aZ ap (bC g F) O S' w'∧Fr g m S w (bC g F) O S' w'∧((∃ cv,nx= .value cv∧VR (bC g F) O S' v0 cv)∨(nx= .skip∧v0= .dead)):=by
     rcases hf with ⟨e1,Z⟩|⟨n,B,e1,Z,e3,e4,e5,e6,e7,e8⟩
     ·subst e1 Z;obtain ⟨nx,O,w',l,E,G,L⟩:=U;exact ⟨nx,O,S,w',l,E,G,L⟩
     ·subst e1 Z e7 e8;obtain ⟨nx,O,S',w',l,E,G,L⟩:=fO.shut (V 0 (by omega)) e3 e4 e5 e6 U;exact ⟨nx,O,S',w',l,E,G,L.imp id fun ⟨_,e⟩=>by cases e⟩
    obtain ⟨nx,O,S',w',l,E,G,L⟩:=U;unfold Oper.wp;rw [l];rcases L with ⟨cv,rfl,L⟩|⟨rfl,rfl⟩
    ·exact X cv O S' w' [] E G (W _ _ _ _ L) (by simp [dR])
    ·exact X undef O S' w' [] E G (W _ _ _ _ (by simp only [VR])) (by simp [dR])
end
end AM
namespace AM
open Go
theorem jR:∀ {hp:Hp} {b:Nat} {B:az},ai hp b=some B→b<dV hp
 | [],b,B,h=>by simp [ai] at h
 | (c,C)::r,b,B,h=>by
  simp only [ai] at h;simp only [dV];split at h
  ·rename_i d;have d:=aA d;subst d;split
   ·rename_i a;exact dW a
   ·omega
  ·have f:=jR h;split
   ·exact f
   ·rename_i a;have:¬ c<dV r:=fun e=>by
     have:Xxc c (dV r)=true:=by
      show Nat.ble (c+1) (dV r)=true;exact ξ e
     rw [this] at a;cases a
    omega
theorem CV:∀ {l:Hp} {b:Nat} {B:az},ai l b=some B→b ∈ l.map (·.1)
 | [],b,B,h=>by simp [ai] at h
 |(c,C)::r,b,B,h=>by
  simp only [ai] at h;split at h
  ·rename_i a;simp [aA a]
  ·simp [CV h]
structure FR (ap:AP) (env:dG) (hp:Hp) (dfs:List (Nat × List AV)) (nt:Nat) (m:aB) (S:au) (w:World) (a:Act):Prop where
 srel:aZ ap (ai hp) m S w
 env:∀ t,VR (ai hp) m S (env.get t) (a.tmps.getD t undef)
 dfs:dR (ai hp) m S dfs a.defers
 size:a.tmps.size=nt
theorem ay (a:Act) (d:Option Nat) (v:Value):(a.put d v).tmps.size=a.tmps.size:=by
 cases d<;>simp [Act.put]
theorem lZ (a:Act) (d:Option Nat) (v:Value):(a.put d v).defers=a.defers:=by
 cases d<;>simp [Act.put]
theorem jS (a:Act) (d:Option Nat) (v:Value) {t:Nat} (h:d ≠ some t):(a.put d v).tmps.getD t undef=a.tmps.getD t undef:=by
 cases d with
 |none=>rfl
 |some d=>
  have b:d ≠ t:=fun e=>h (by rw [e])
  simp only [Act.put,Array.getD_eq_getD_getElem?];rw [Array.getElem?_setIfInBounds_ne b]
theorem cZ (a:Act) (d:Nat) (v:Value) (h:d<a.tmps.size):(a.put (some d) v).tmps.getD d undef=v:=by
 simp only [Act.put,Array.getD_eq_getD_getElem?];rw [Array.getElem?_setIfInBounds_self_of_lt h];rfl
theorem gZ {env:dG} {d:Nat} {v:AV}:(nZ env (some d) v).get d=v:=by simp [nZ,dG.get,ai]
theorem wQ {env:dG} {dst:Option Nat} {v:AV} {t:Nat} (h:dst ≠ some t):(nZ env dst v).get t=env.get t:=by
 cases dst with
 |none=>rfl
 | some d=>
  have a:Δ d t=false:=by
   cases b:Δ d t with
   |false=>rfl
   |true=>exact absurd (by rw [aA b]) h
  simp [nZ,dG.get,ai,a]
section
variable {P:Program} {ap:AP} {H:bi}
theorem FR.put {env:dG} {hp ups:Hp} {dfs e:List (Nat × List AV)} {nt:Nat} {m b:aB} {S S':au} {w w':World} {a:Act} (h:FR ap env hp dfs nt m S w a) {dst:Option Nat} (f:∀ d,dst=some d→d<nt) {v:AV} {cv:Value} {c:List Deferred}
  (h1:aZ ap (bC (ai hp) ups) b S' w') (h2:Fr (ai hp) m S w (bC (ai hp) ups) b S' w') (h3:VR (bC (ai hp) ups) b S' v cv) (h4:dR (bC (ai hp) ups) b S' e c):
  FR ap (nZ env dst v) (ups++hp) (e++dfs) nt b S' w' ({a with defers:=c++a.defers}.put dst cv):=by
 rw [jl] at h1 h2 h3 h4;refine ⟨h1, ?_, ?_, ?_⟩
 ·intro t;by_cases ht:dst=some t
  ·subst ht;rw [gZ,cZ _ _ _ (by have:=f t rfl;have:=h.size;simpa [this] using f t rfl)];exact h3
  ·rw [wQ ht,jS _ _ _ ht];exact jW h2.sle h2.ge _ (h.env t)
 ·rw [lZ];exact yX h4 (sN h2.sle h2.ge h.dfs)
 ·rw [ay];exact h.size
theorem FR.still {env:dG} {hp ups:Hp} {dfs:List (Nat × List AV)} {nt:Nat} {m b:aB} {S S':au} {w w':World} {a:Act} (h:FR ap env hp dfs nt m S w a)
  (h1:aZ ap (bC (ai hp) ups) b S' w') (h2:Fr (ai hp) m S w (bC (ai hp) ups) b S' w'):FR ap env (ups++hp) dfs nt b S' w' a:=by
 rw [jl] at h1 h2;exact ⟨h1,fun t=>jW h2.sle h2.ge _ (h.env t),sN h2.sle h2.ge h.dfs,h.size⟩
def qU (ap:AP) (hp0:Hp) (m:aB) (S:au) (w:World) (nt:Nat) (env:dG) (hp:Hp) (dfs:List (Nat × List AV)) (Q:Exit→Act→World→Prop):Option AV→Prop
 |none=> ∀ m' S' w' a',Fr (ai hp0) m S w (ai hp) m' S' w'→FR ap env hp dfs nt m' S' w' a'→Q .normal a' w'
 |some v=> ∀ m' S' w' a' cv,Fr (ai hp0) m S w (ai hp) m' S' w'→FR ap env hp dfs nt m' S' w' a'→VR (ai hp) m' S' v cv→Q (.panic [{v:=cv,recovered:=false}]) a' w'
theorem qM {ops:Array Oper} {Q:Exit→Act→World→Prop} {i:Nat} {o:Oper} (b:ops[i]? =some o) (rest:List Nat) (a:Act) (w:World):wpOps P ops Q (i::rest) a w↔XB P ops Q o (wpOps P ops Q rest) a w:=by
 simp only [wpOps,b,XB]
theorem La {hp ups:Hp} {nid:Nat} (d:∀ b B,ai hp b=some B→b<nid) (e:(ups.map (·.1)).all (fun x=>Xxc x (nid+4))=true):∀ b B,ai (ups++hp) b=some B→b<nid+4:=by
 intro b B a;rw [fF] at a;split at a
 ·rename_i x c;have hm:b ∈ ups.map (·.1):=CV c;exact dW (List.all_eq_true.1 e b hm)
 ·have:=d b B a;omega
theorem ji (D:di P ap) (hH:gp P ap H) {ops:List Oper} {nt:Nat} (M:∀ o ∈ ops,∀ d,o.dst=some d→d<nt):∀ (l:List Oper) (i nid:Nat) (s s':RS) (p:Option AV) (c c':Cx),mf ap H ops l nid s c= .ok (s',p) c'→c'.Ok→
  c.Ok∧(s.md= .dead→qx s.dec s.env→l=ops.drop i→(∀ b B,ai s.hp b=some B→b<nid)→
  s'.md= .dead∧∀ m S w a,FR ap s.env s.hp s.dfs nt m S w a→∀ Q,qU ap s.hp m S w nt s'.env s'.hp s'.dfs Q p→wpOps P ops.toArray Q (List.range' i l.length) a w)
 | [],i,nid,s,s',p,c,c',h,hc=>by
  cases h;exact ⟨hc,fun e _ _ _=> ⟨e,fun m S w a x Q u=>u m S w a (Fr.refl _ _ _ _) x⟩⟩
 | o ::r,i,nid,s,s',p,c,c',h,hc=>by
  simp only [mf] at h;obtain ⟨⟨s1,p1⟩,c1,e1,h⟩:=R.bind_ok h;dsimp only at h;have hfresh:(∀ b B,ai s.hp b=some B→b<nid)→∀ j,j<4→ai s.hp (nid+j)=none:=by
   intro G j _;cases hb:ai s.hp (nid+j) with
   |none=>rfl
   |some B=>have:=G _ _ hb;omega
  have z:o::r=ops.drop i→ops[i]? =some o∧ops.toArray[i]? =some o∧r=ops.drop (i+1)∧∀ d,o.dst=some d→d<nt:=by
   intro I;have f:ops[i]? =some o:=by
    have:(ops.drop i)[0]? =some o:=by rw [← I];rfl
    simpa using this
   have N:r=ops.drop (i+1):=by
    have:r=(ops.drop i).drop 1:=by rw [← I];rfl
    rw [this,Xjo]
   exact ⟨f,by simpa using f,N,M o (ο f)⟩
  cases p1 with
  |some v=>
   cases h;obtain ⟨C,E⟩:=qj D hH e1 hc;refine ⟨C,fun e q I G=> ?_⟩;obtain ⟨f,n,N,hd⟩:=z I;obtain ⟨v1,rb,ups,df,hs⟩:=E e q;refine ⟨by rw [hs.md,e],fun m S w a x Q u=> ?_⟩;rw [τ,Xzt,qM n];refine hs.sem (ai s.hp) m S w a x.srel (fun t _=>x.env t) (fun b _ B T=>T) (hfresh G) Q _ ?_;intro cv W S' w' Z y O;have Y:=x.still Z y;rw [jl] at y O;obtain ⟨k,rfl⟩:=hs.envp (by simp);have u:=u W S' w' a cv;rw [hs.hp,hs.dfs,k] at u;exact u y Y O
  | none=>
   dsimp only at h;cases A:s1.feet with
   |nil=>rw [A] at h;cases h
   | cons ft fr=>
    rw [A] at h;dsimp only at h;split at h
    ·rename_i L;obtain ⟨hc1,V⟩:=ji D hH M r (i+1) (nid+4) s1 s' p c1 c' h hc;obtain ⟨C,E⟩:=qj D hH e1 hc1;refine ⟨C,fun e q I G=> ?_⟩;obtain ⟨f,n,N,hd⟩:=z I;obtain ⟨v1,rb,ups,df,hs⟩:=E e q;have F:=hs.feet rfl;rw [A] at F;simp only [List.cons.injEq] at F;rw [F.1] at L;obtain ⟨J,V⟩:=V (by rw [hs.md,e]) (hs.dec rfl) N (by rw [hs.hp];exact La G L);refine ⟨J,fun m S w a x Q u=> ?_⟩;rw [τ,Xzt,qM n];refine hs.sem (ai s.hp) m S w a x.srel (fun t _=>x.env t) (fun b _ B T=>T) (hfresh G) Q _ ?_;intro cv W S' w' ds Z y O h4;have K:=x.put hd Z y O h4;rw [jl] at y;have k:=hs.env rfl;rw [← k,← hs.hp,← hs.dfs] at K;refine V W S' w' _ K Q ?_;rw [← hs.hp] at y;cases p with
     |none=>exact fun m2 S2 w2 a2 X U=>u m2 S2 w2 a2 (y.trans X) U
     |some v=>exact fun m2 S2 w2 a2 cv2 X U h7=>u m2 S2 w2 a2 cv2 (y.trans X) U h7
    ·cases h
end
end AM
namespace AM
open Go
structure jc where
 dst:Option Nat
 v:AV
 rt:List Nat
 rb:List Nat
 ups:List (Nat × az)
def Nj (d:Option Nat):List Nat:=match d with|some d=> [d]|none=> []
def jc.foot (r:jc):uU:={rt:=r.rt,wt:=Nj r.dst,rb:=r.rb,wb:=r.ups.map (·.1)}
def kG (D:Nat→Bool):Nat→dG→List jc→dG
 |_,e,[]=>e
 |j,e,r::rs=>kG D (j+1) (match D j with|true=>nZ e r.dst r.v|false=>e) rs
def mP (D:Nat→Bool):Nat→Hp→List jc→Hp
 |_,h,[]=>h
 |j,h,r::rs=>mP D (j+1) (match D j with|true=>r.ups++h|false=>h) rs
theorem lJ {D D':Nat→Bool} {t:Nat}:∀ (rs:List jc) (j:Nat) (e e':dG),e.get t=e'.get t→(∀ k r,rs[k]? =some r→r.dst=some t→D (j+k)=D' (j+k))→(kG D j e rs).get t=(kG D' j e' rs).get t
 | [],_,_,_,he,_=>he
 | r::rs,j,e,e',he,h=>by
  simp only [kG];refine lJ rs (j+1) _ _ ?_ fun k r' b a=> ?_
  ·by_cases a:r.dst=some t
   ·have h0:=h 0 r rfl a;rw [Xxf] at h0;rw [h0];cases D' j with
    |true=>simp only [a,gZ]
    |false=>exact he
   ·cases D j<;>cases D' j<;>simp only [wQ a,he]
  ·have:=h (k+1) r' (by simpa using b) a;rwa [show j+(k+1)=j+1+k by omega] at this
theorem GN:∀ {l:Hp} {b:Nat},b ∉ l.map (·.1)→ai l b=none:=by
 intro l b h;cases a:ai l b with
 |none=>rfl
 |some B=>exact absurd (CV a) h
theorem pO {ups hp:Hp} {b:Nat} (h:b ∉ ups.map (·.1)):ai (ups++hp) b=ai hp b:=by
 rw [fF,GN h]
theorem rU:∀ {l:Hp} {b:Nat},b ∈ l.map (·.1)→∃ B,ai l b=some B
 | [],b,h=>by simp at h
 | (c,C)::r,b,h=>by
  simp only [ai];cases a:Δ c b with
  |true=>exact ⟨C,rfl⟩
  |false=>
   simp only [Γ,Xqo] at h;rcases h with h|h
   ·subst h;simp at a
   ·exact rU h
theorem w_ {ups hp hp':Hp} {b:Nat} (h:b ∈ ups.map (·.1)):ai (ups++hp) b=ai (ups++hp') b:=by
 obtain ⟨B,a⟩:=rU h;rw [fF,fF,a]
theorem oJ {D D':Nat→Bool} {b:Nat}:∀ (rs:List jc) (j:Nat) (h h':Hp),ai h b=ai h' b→(∀ k r,rs[k]? =some r→b ∈ r.ups.map (·.1)→D (j+k)=D' (j+k))→ai (mP D j h rs) b=ai (mP D' j h' rs) b
 | [],_,_,_,he,_=>he
 | r::rs,j,e,e',he,h=>by
  simp only [mP];refine oJ rs (j+1) _ _ ?_ fun k r' c a=> ?_
  ·by_cases a:b ∈ r.ups.map (·.1)
   ·have h0:=h 0 r rfl a;rw [Xxf] at h0;rw [h0];cases D' j with
    |true=>exact w_ a
    |false=>exact he
   ·cases D j<;>cases D' j<;>simp only [pO a,he]
  ·have:=h (k+1) r' (by simpa using c) a;rwa [show j+(k+1)=j+1+k by omega] at this
theorem oD:∀ (rs:List jc) (j:Nat) (e:dG) {D:Nat→Bool},(∀ k,k<rs.length→D (j+k)=false)→kG D j e rs=e
 | [],_,_,_,_=>rfl
 |r::rs,j,e,D,h=>by
  have h0:=h 0 (by simp);rw [Xxf] at h0;simp only [kG,h0];exact oD rs (j+1) e fun k a=>by have:=h (k+1) (by simpa using a);rwa [show j+(k+1)=j+1+k by omega] at this
theorem jr:∀ (rs:List jc) (j:Nat) (e:Hp) {D:Nat→Bool},(∀ k,k<rs.length→D (j+k)=false)→mP D j e rs=e
 | [],_,_,_,_=>rfl
 |r::rs,j,e,D,h=>by
  have h0:=h 0 (by simp);rw [Xxf] at h0;simp only [mP,h0];exact jr rs (j+1) e fun k a=>by have:=h (k+1) (by simpa using a);rwa [show j+(k+1)=j+1+k by omega] at this
def mO (e:dG) (rs:List jc):dG:=kG (fun _=>true) 0 e rs
def Ce (h:Hp) (rs:List jc):Hp:=mP (fun _=>true) 0 h rs
theorem vk (D:Nat→Bool):∀ (rs:List jc) (j d:Nat) (e:dG),kG D (j+d) e rs=kG (fun k=>D (k+d)) j e rs
 | [],_,_,_=>rfl
 |r::rs,j,d,e=>by
  simp only [kG];rw [show j+d+1=j+1+d by omega];exact vk D rs (j+1) d _
theorem yh (D:Nat→Bool):∀ (rs:List jc) (j d:Nat) (e:Hp),mP D (j+d) e rs=mP (fun k=>D (k+d)) j e rs
 | [],_,_,_=>rfl
 |r::rs,j,d,e=>by
  simp only [mP];rw [show j+d+1=j+1+d by omega];exact yh D rs (j+1) d _
theorem tu (e:dG) (r:jc) (a:List jc):mO e (r::a)=mO (nZ e r.dst r.v) a:=by
 simp only [mO,kG];exact vk (fun _=>true) a 0 1 _
theorem wW (h:Hp) (r:jc) (a:List jc):Ce h (r::a)=Ce (r.ups++h) a:=by
 simp only [Ce,mP];exact yh (fun _=>true) a 0 1 _
theorem wM:∀ (rs:List jc) (k:Nat) (e:dG),kG (fun j=>decide (j<k)) 0 e rs=mO e (rs.take k)
 |rs,0,e=>by
  simp only [Xkc];exact oD rs 0 e fun _ _=>by simp
 | [],k+1,e=>rfl
 |r::rs,k+1,e=>by
  simp only [Xx7,tu,kG];rw [show decide (0<k+1)=true by simp];dsimp only;rw [← wM rs k];have:=vk (fun j=>decide (j<k+1)) rs 0 1 (nZ e r.dst r.v);rw [this];congr 1;funext j;simp
theorem KX:∀ (rs:List jc) (k:Nat) (e:Hp),mP (fun j=>decide (j<k)) 0 e rs=Ce e (rs.take k)
 |rs,0,e=>by
  simp only [Xkc];exact jr rs 0 e fun _ _=>by simp
 | [],k+1,e=>rfl
 |r::rs,k+1,e=>by
  simp only [Xx7,wW,mP];rw [show decide (0<k+1)=true by simp];dsimp only;rw [← KX rs k];have:=yh (fun j=>decide (j<k+1)) rs 0 1 (r.ups++e);rw [this];congr 1;funext j;simp
theorem EP (e:dG):∀ (b:List jc) (k:Nat) (r:jc),b[k]? =some r→mO e (b.take (k+1))=nZ (mO e (b.take k)) r.dst r.v:=by
 intro b
 induction b generalizing e with
 |nil=>intro k r h;simp at h
 | cons a b ih=>
  intro k r h;cases k with
  |zero=>simp at h;subst h;rfl
  |succ k=>
   simp only [Xx7,tu];exact ih _ k r (by simpa using h)
theorem Sl (e:Hp):∀ (b:List jc) (k:Nat) (r:jc),b[k]? =some r→Ce e (b.take (k+1))=r.ups++Ce e (b.take k):=by
 intro b
 induction b generalizing e with
 |nil=>intro k r h;simp at h
 | cons a b ih=>
  intro k r h;cases k with
  |zero=>simp at h;subst h;rfl
  |succ k=>
   simp only [Xx7,wW];exact ih _ k r (by simpa using h)
section
variable {P:Program} {ap:AP} {H:bi}
structure QN (P:Program) (ap:AP) (ops:List Oper) (i nid:Nat) (s s':RS) (recs:List jc):Prop where
 env:s'.env=mO s.env recs
 hp:s'.hp=Ce s.hp recs
 feet:s'.feet=(recs.map jc.foot).reverse++s.feet
 dle:s.dfs.length≤s'.dfs.length
 bound:∀ (k:Nat) (r:jc),recs[k]? =some r→∀ b ∈ r.ups.map (·.1),b<nid+4*k+4
 sem:s'.dfs.length=s.dfs.length→s'.dfs=s.dfs∧∀ (k:Nat) (r:jc),recs[k]? =some r→∃ o,ops[i+k]? =some o∧r.dst=o.dst∧FW P ap ops.toArray o (nid+4*k) (mO s.env (recs.take k)) (Ce s.hp (recs.take k)) r.rt r.rb r.v r.ups [] none
theorem OM (p:di P ap) (K:gp P ap H) {ops:List Oper}:∀ (l:List Oper) (i nid:Nat) (s s':RS) (c c':Cx),mf ap H ops l nid s c= .ok (s',none) c'→c'.Ok→
  c.Ok∧(s.md= .dead→qx s.dec s.env→l=ops.drop i→s'.md= .dead∧∃ recs:List jc,recs.length=l.length∧QN P ap ops i nid s s' recs)
 | [],i,nid,s,s',c,c',h,hc=>by
  cases h;exact ⟨hc,fun a _ _=> ⟨a,[],rfl,⟨rfl,rfl,rfl,ζ _,fun k r h=>by simp at h,fun _=> ⟨rfl,fun k r h=>by simp at h⟩⟩⟩⟩
 | o :: r,i,nid,s,s',c,c',h,hc=>by
  simp only [mf] at h;obtain ⟨⟨s1,M⟩,V,W,h⟩:=R.bind_ok h;dsimp only at h;cases M with
  |some v=>cases h
  | none=>
   dsimp only at h;cases d:s1.feet with
   |nil=>rw [d] at h;cases h
   | cons ft fr=>
    rw [d] at h;dsimp only at h;split at h
    ·rename_i u;obtain ⟨F,N⟩:=OM p K r (i+1) (nid+4) s1 s' V c' h hc;obtain ⟨z,E⟩:=qj p K W F;refine ⟨z,fun a y L=> ?_⟩;have A:ops[i]? =some o:=by
      have:(ops.drop i)[0]? =some o:=by rw [← L];rfl
      simpa using this
     have U:r=ops.drop (i+1):=by
      have:r=(ops.drop i).drop 1:=by rw [← L];rfl
      rw [this,Xjo]
     obtain ⟨X,rb,ups,G,hs⟩:=E a y;have f:=hs.feet rfl;rw [d] at f;simp only [List.cons.injEq] at f;rw [f.1] at u;obtain ⟨t,recs,x,j⟩:=N (by rw [hs.md,a]) (hs.dec rfl) U;refine ⟨t,{dst:=o.dst,v:=X,rt:=mg o.op.operands.toList++fD ops o,rb:=rb,ups:=ups}::recs,by simp [x], ?_⟩;have B:s.dfs.length≤s1.dfs.length:=by rw [hs.dfs];simp
     refine ⟨?_, ?_, ?_,Xqg B j.dle, ?_, ?_⟩
     ·rw [j.env,tu,hs.env rfl]
     ·rw [j.hp,wW,hs.hp]
     ·rw [j.feet,hs.feet rfl];simp [jc.foot,Nj,Gm];cases o.dst<;>rfl
     ·intro k q e b J;cases k with
      |zero=>
       simp at e;subst e;exact dW (List.all_eq_true.1 u b J)
      |succ k=>
       have:=j.bound k q (by simpa using e) b J;omega
     ·intro he;have Y:=j.dle;obtain ⟨C,n⟩:=j.sem (by omega);have D:G= []:=by
       have:G.length=0:=by
        have:=hs.dfs;have Z:s1.dfs.length=G.length+s.dfs.length:=by rw [this];simp
        omega
       exact Xq0 this
      subst D;refine ⟨by rw [C,hs.dfs];rfl, ?_⟩;intro k q e;cases k with
      |zero=>
       simp at e;subst e;exact ⟨o,A,rfl,hs.sem⟩
      |succ k=>
       obtain ⟨O,Q,T,I⟩:=n k q (by simpa using e);refine ⟨O,by rw [show i+(k+1)=i+1+k by omega];exact Q,T, ?_⟩;rw [Xx7,tu,wW];rw [hs.env rfl,hs.hp] at I;rw [show nid+4*(k+1)=nid+4+4*k by omega];exact I
    ·cases h
end
end AM
namespace AM
open Go
theorem BQ {md:Region.Mode} (b:Array Nat) (i:Nat):∀ (l:List Edge) (s:Nat),(l.foldl (fun s e=>if Region.binds md e then s|||2^e.on|||b.getD e.on 0 else s) s).testBit i=true→
  s.testBit i=true∨∃ e ∈ l,Region.binds md e=true∧(i=e.on∨(b.getD e.on 0).testBit i=true)
 | [],s,h=> .inl h
 | e::r,s,h=>by
  simp only [Xqw] at h;rcases BQ b i r _ h with a|⟨e',a,d⟩
  ·split at a
   ·rename_i c;simp only [Nat.testBit_or,Xq9,Nat.testBit_two_pow,decide_eq_true_eq] at a;rcases a with (a|a)|a
    ·exact .inl a
    ·exact .inr ⟨e,by simp,c,.inl a.symm⟩
    ·exact .inr ⟨e,by simp,c,.inr a⟩
   ·exact .inl a
  ·exact .inr ⟨e',by simp [a],d⟩
def ng (acc:Array Nat) (o:Oper):Array Nat:=acc.push (o.after.toList.foldl (fun s e=>if Region.binds .any e then s|||2^e.on|||acc.getD e.on 0 else s) 0)
theorem BR (a:Array Nat) (x:Nat):(a.push x).getD a.size 0=x:=by simp [Array.getD_eq_getD_getElem?]
def Ae (ops:List Oper) (D:Nat→Bool):Prop:=∀ (k:Nat) (o:Oper),ops[k]? =some o→D k=true→∀ e ∈ o.after,Region.binds .any e=true→D e.on=true
def XD (D:Nat→Bool) (acc:Array Nat):Prop:=∀ k,D k=true→∀ i,(acc.getD k 0).testBit i=true→D i=true
theorem MV {ops:List Oper} {D:Nat→Bool} (n:Ae ops D):∀ (l:List Oper) (acc:Array Nat),XD D acc→l=ops.drop acc.size→XD D (l.foldl ng acc)
 | [],acc,h,_=>h
 | o ::r,acc,h,hl=>by
  simp only [Xqw];have b:ops[acc.size]? =some o:=by
   have:(ops.drop acc.size)[0]? =some o:=by rw [← hl];rfl
   simpa using this
  refine MV n r _ ?_ ?_
  ·intro k f i a;by_cases hks:k<acc.size
   ·refine h k f i ?_;simpa [ng,Array.getD_eq_getD_getElem?,Array.getElem?_push,Nat.ne_of_lt hks] using a
   ·by_cases hke:k=acc.size
    ·subst hke;rw [ng,BR] at a;rcases BQ acc i _ _ a with c|⟨e,c,p,d⟩
     ·simp at c
     ·have j:=n _ o b f e (by simpa using c) p;rcases d with rfl|d
      ·exact j
      ·exact h _ j i d
    ·have:(ng acc o)[k]? =none:=by
      simp only [ng];rw [Array.getElem?_eq_none];simp;omega
     simp [Array.getD_eq_getD_getElem?,this] at a
  ·have:(ng acc o).size=acc.size+1:=by simp [ng]
   rw [this,← Xjo,← hl];rfl
theorem Pi (ops:List Oper):Region.before ops.toArray=ops.foldl ng #[]:=by
 simp only [Region.before,← Array.foldl_toList];rfl
theorem nT {ops:List Oper} {D:Nat→Bool} (c:Ae ops D) {k i:Nat} (a:D k=true) (h:((Region.before ops.toArray).toList.getD k 0).testBit i=true):D i=true:=by
 have:=MV c ops #[] (fun k _ i b=>by simp at b) (by simp);rw [← Pi] at this;refine this k a i ?_;rw [γ] at h;rw [Array.getD_eq_getD_getElem?];simpa using h
theorem oM {a b:List Nat} {x:Nat} (d:x ∈ a) (c:x ∈ b):CX a b=true:=List.any_eq_true.2 ⟨x,d,fQ.2 c⟩
structure FU (n:Nat) (bef:Nat→Nat→Bool) (recs:List jc):Prop where
 ok:∀ i j a b,recs[i]? =some a→recs[j]? =some b→i<j→(je a.foot b.foot=true∨∃ x ∈ b.ups.map (·.1),n+4*i≤x∧x<n+4*i+4)→bef j i=true
theorem vK {n:Nat} {bef:List Nat} {recs:List jc} (h:oO n bef (recs.map jc.foot).reverse=true):FU n (fun j i=>(bef.getD j 0).testBit i) recs:=by
 refine ⟨fun i j a b p k e d=> ?_⟩;simp only [oO,List.reverse_reverse,Xji] at h;have c:=h (a.foot,i) (by rw [Xjd];simp [p]) (b.foot,j) (by rw [Xjd];simp [k]);simp only [Xq9,Xqe] at c;rcases c with (c|c)|c
 ·have:Xxc i j=true:=ξ e;rw [this] at c;cases c
 ·exfalso;rw [Bool.or_eq_false_iff] at c;rcases d with d|⟨x,f,l,o⟩
  ·rw [d] at c;cases c.1
  ·have:=List.any_eq_false.1 c.2 x f;simp only [ε,not_and] at this;exact this (ξ l) (ξ o)
 ·exact c
section
variable {P:Program} {ap:AP} {H:bi}
theorem FR.congr {env env':dG} {hp hp':Hp} {dfs:List (Nat × List AV)} {nt:Nat} {m:aB} {S:au} {w:World} {a:Act} (h:FR ap env hp dfs nt m S w a) (c:∀ t,env'.get t=env.get t) (b:ai hp'=ai hp):FR ap env' hp' dfs nt m S w a:=by
 refine ⟨b ▸ h.srel,fun t=> ?_,b ▸ h.dfs,h.size⟩;rw [c,b];exact h.env t
def mF (listed:Array Bool):Nat→Bool:=fun k=>listed.getD k false
theorem VO {listed:Array Bool} {i:Nat} (a:i<listed.size) (k:Nat):mF (listed.setIfInBounds i true) k=(if k=i then true else mF listed k):=by
 simp only [mF,Array.getD_eq_getD_getElem?];by_cases h:k=i
 ·subst h;rw [if_pos rfl,Array.getElem?_setIfInBounds_self_of_lt a];rfl
 ·rw [if_neg h,Array.getElem?_setIfInBounds_ne (fun e=>h e.symm)]
def Aq (n:Nat) (D:Nat→Bool):Nat:=((Ψ n).filter fun i=> !D i).length
theorem zD {D D':Nat→Bool} {i:Nat} (c:D i=false) (b:∀ k,D' k=if k=i then true else D k):∀ (l:List Nat),l.Nodup→i ∈ l→(l.filter fun k=> !D k).length=(l.filter fun k=> !D' k).length+1
 | [],_,h=>by simp at h
 | a::r,hn,h=>by
  rw [Xxo] at hn;by_cases ha:a=i
  ·subst ha;have hsame:r.filter (fun k=> !D k)=r.filter (fun k=> !D' k):=by
    refine List.filter_congr fun k d=> ?_
    have:k ≠ a:=fun e=>hn.1 (e ▸ d)
    rw [b k,if_neg this]
   have f:D' a=true:=by rw [b a,if_pos rfl]
   simp [c,f,hsame]
  ·have j:=zD c b r hn.2 (by simpa [Ne.symm ha] using h);have:D' a=D a:=by rw [b a,if_neg ha]
   simp only [List.filter_cons,this];split<;>simp [j]
theorem TZ {ops:List Oper} (i:ny ops=true) {listed:Array Bool} (j:listed.size=ops.length) (b:Region.ready .any ops.toArray listed= []):∀ k,k<ops.length→mF listed k=true:=by
 intro k
 induction k using Nat.strongRecOn with
 | _ k ih=>
  intro d;cases h:mF listed k with
  |true=>rfl
  | false=>
   exfalso;have a:k ∈ Region.ready .any ops.toArray listed:=by
    simp only [Region.ready,Xq7,Xju,Xxe];refine ⟨d, ?_⟩;have n:listed.getD k true=false:=by
     simp only [mF,Array.getD_eq_getD_getElem?] at h ⊢;rw [Array.getElem?_eq_getElem (by omega)] at h ⊢;simpa using h
    have o:ops.toArray[k]? =some ops[k]:=by simp [d]
    rw [n,o];simp only [Bool.not_false,Bool.true_and,Xqu,Xqt,Array.all_eq_true',Xq9,Xqe];intro e l;cases c:Region.binds .any e with
    |false=>exact .inl rfl
    |true=>
     right;simp only [ny,Xji] at i;have f:=i (ops[k],k) (by rw [Xjd];simp [d]) e (by simpa using l);rw [c] at f;simp only [Xvb,Xz0] at f;have p:=dW f;exact ih e.on p (by omega)
   rw [b] at a;cases a
theorem Dt {ops:List Oper} {listed:Array Bool} (d:listed.size=ops.length) {i:Nat} (h:i ∈ Region.ready .any ops.toArray listed):∃ o,ops[i]? =some o∧mF listed i=false∧i<ops.length∧∀ e ∈ o.after,Region.binds .any e=true→mF listed e.on=true:=by
 simp only [Region.ready,Xq7,Xju,Xxe,ε,Xqe] at h;obtain ⟨a,b,c⟩:=h;have k:ops.toArray[i]? =some ops[i]:=by simp [a]
 rw [k] at c;simp only [Xqu,Xqt,Array.all_eq_true',Xq9,Xqe] at c;refine ⟨ops[i],δ a, ?_,a,fun e j f=> ?_⟩
 ·simp only [mF,Array.getD_eq_getD_getElem?] at b ⊢;rw [Array.getElem?_eq_getElem (by omega)] at b ⊢;simpa using b
 ·rcases c e j with h|h
  ·rw [f] at h;cases h
  ·exact h
end
end AM
namespace AM
open Go
theorem QW {a b:uU} {x:Nat} (h:x ∈ a.wt) (c:x ∈ b.rt):je a b=true:=by simp [je,oM h c]
theorem IB {a b:uU} {x:Nat} (h:x ∈ a.wt) (c:x ∈ b.wt):je a b=true:=by simp [je,oM h c]
theorem QV {a b:uU} {x:Nat} (h:x ∈ a.rt) (c:x ∈ b.wt):je a b=true:=by simp [je,oM h c]
theorem Pn {a b:uU} {x:Nat} (h:x ∈ a.wb) (c:x ∈ b.rb):je a b=true:=by simp [je,oM h c]
theorem EL {a b:uU} {x:Nat} (h:x ∈ a.wb) (c:x ∈ b.wb):je a b=true:=by simp [je,oM h c]
theorem Pm {a b:uU} {x:Nat} (h:x ∈ a.rb) (c:x ∈ b.wb):je a b=true:=by simp [je,oM h c]
theorem rY {d:Option Nat} {t:Nat} (h:d=some t):t ∈ Nj d:=by subst h;simp [Nj]
section
variable {P:Program} {ap:AP} {H:bi}
structure ZT (ap:AP) (ops:List Oper) (recs:List jc) (e0:dG) (hp0:Hp) (dfs:List (Nat × List AV)) (nt:Nat) (m0:aB) (S0:au) (w0:World) (listed:Array Bool) (m:aB) (S:au) (w:World) (a:Act):Prop where
 sz:listed.size=ops.length
 cl:Ae ops (mF listed)
 fr:Fr (ai hp0) m0 S0 w0 (ai (mP (mF listed) 0 hp0 recs)) m S w
 rel:FR ap (kG (mF listed) 0 e0 recs) (mP (mF listed) 0 hp0 recs) dfs nt m S w a
theorem IL {ops:List Oper} {recs:List jc} {s:RS} {A nt:Nat} (hnt:∀ o ∈ ops,∀ d,o.dst=some d→d<nt) (hlen:recs.length=ops.length)
  (hbound:∀ (k:Nat) (r:jc),recs[k]? =some r→∀ b ∈ r.ups.map (·.1),b<A+4*k+4)
  (hsem:∀ (k:Nat) (r:jc),recs[k]? =some r→∃ o,ops[k]? =some o∧r.dst=o.dst∧∀ (D:Nat→Bool) m S w (a:Act),aZ ap (ai (mP D 0 s.hp recs)) m S w→(∀ t ∈ r.rt,VR (ai (mP D 0 s.hp recs)) m S ((mO s.env (recs.take k)).get t) (a.tmps.getD t undef))→
   (∀ b ∈ r.rb,ai (Ce s.hp (recs.take k)) b=ai (mP D 0 s.hp recs) b)→(∀ j,j<4→ai (mP D 0 s.hp recs) (A+4*k+j)=none)→(∀ j,((Region.before ops.toArray).toList.getD j 0).testBit k=true→D j=false)→
   ∀ (Q:Exit→Act→World→Prop) (K:Act→World→Prop),XC ap o (ai (mP D 0 s.hp recs)) m S w a r.v r.ups [] Q K none→XB P ops.toArray Q o K a w)
  (hord:FU A (fun j i=>((Region.before ops.toArray).toList.getD j 0).testBit i) recs) (hback:ny ops=true) (hn0:∀ b B,ai s.hp b=some B→b<A) {m0:aB} {S0:au} {w0:World} {Q:Exit→Act→World→Prop}
  (hQ:∀ m S w a,Fr (ai s.hp) m0 S0 w0 (ai (Ce s.hp recs)) m S w→FR ap (mO s.env recs) (Ce s.hp recs) s.dfs nt m S w a→Q .normal a w):
  ∀ (n:Nat) (listed:Array Bool) (m:aB) (S:au) (w:World) (a:Act),ZT ap ops recs s.env s.hp s.dfs nt m0 S0 w0 listed m S w a→Aq ops.length (mF listed)≤n→wpAny P .any ops.toArray Q n listed a w:=by
 have hdone:∀ (listed:Array Bool) (m:aB) (S:au) (w:World) (a:Act),ZT ap ops recs s.env s.hp s.dfs nt m0 S0 w0 listed m S w a→(∀ k,k<ops.length→mF listed k=true)→Q .normal a w:=by
  intro listed m S w a u y;have hh:∀ b,ai (Ce s.hp recs) b=ai (mP (mF listed) 0 s.hp recs) b:=fun b=>
   oJ recs 0 _ _ rfl fun k r c _=>by rw [y (0+k) (by have:=(List.getElem?_eq_some_iff.1 c).1;omega)]
  have he:∀ t,(mO s.env recs).get t=(kG (mF listed) 0 s.env recs).get t:=fun t=>
   lJ recs 0 _ _ rfl fun k r c _=>by rw [y (0+k) (by have:=(List.getElem?_eq_some_iff.1 c).1;omega)]
  have F:=funext hh;exact hQ m S w a (F ▸ u.fr) (u.rel.congr he F)
 intro n
 induction n with
 | zero=>
  intro listed m S w a u hm;have y:∀ k,k<ops.length→mF listed k=true:=by
   intro k c;cases f:mF listed k with
   |true=>rfl
   |false=>
    have N:k ∈ (Ψ ops.length).filter fun i=> !mF listed i:=by simp [c,f]
    have:(Ψ ops.length).filter (fun i=> !mF listed i)= []:=Xq0 (Nat.le_zero.1 hm);rw [this] at N;cases N
  refine ⟨?_,hdone listed m S w a u y⟩;cases hr:Region.ready .any ops.toArray listed with
  |nil=>rfl
  |cons i r=>
   obtain ⟨o,_,p,h3,_⟩:=Dt u.sz (i:=i) (by rw [hr];simp);rw [y i h3] at p;cases p
 | succ n ih=>
  intro listed m S w a u hm;refine ⟨fun U=>hdone listed m S w a u (TZ hback u.sz U),fun i hi=> ?_⟩;obtain ⟨o,J,C,V,hedges⟩:=Dt u.sz hi;have v:recs[i]? =some recs[i]:=δ (by omega);generalize recs[i]=r at v;obtain ⟨o',W,I,hstep⟩:=hsem i r v;rw [J] at W;cases W;have Z:i<listed.size:=by rw [u.sz];exact V
  have l:=VO Z;have O:Ae ops (mF (listed.setIfInBounds i true)):=by
   intro k o2 c f e he z;rw [l] at f ⊢;split
   ·rfl
   ·split at f
    ·rename_i G;subst G;rw [J] at c;cases c;exact hedges e he z
    ·exact u.cl k o2 c f e he z
  have R:∀ k q,recs[k]? =some q→k<i→(je q.foot r.foot=true∨∃ x ∈ r.ups.map (·.1),A+4*k≤x∧x<A+4*k+4)→mF listed k=true:=by
   intro k q c G hc;have E:=hord.ok k i q r c v G hc;have p:=nT O (k:=i) (i:=k) (by rw [l,if_pos rfl]) E;rw [l,if_neg (by omega)] at p;exact p
  have hhigh:∀ k q,recs[k]? =some q→i<k→(je r.foot q.foot=true∨∃ x ∈ q.ups.map (·.1),A+4*i≤x∧x<A+4*i+4)→mF listed k=false:=by
   intro k q c G hc;cases f:mF listed k with
   |false=>rfl
   |true=>
    have E:=hord.ok i k r q v c G hc;have p:=nT u.cl f E;rw [C] at p;cases p
  have M:∀ k q,recs[k]? =some q→(k<i→je q.foot r.foot=true)→(i<k→je r.foot q.foot=true)→decide (k<i)=mF listed k:=by
   intro k q c E p;rcases Xj4 k i with h|h|h
   ·rw [R k q c h (.inl (E h))];simp [h]
   ·subst h;rw [C];simp
   ·rw [hhigh k q c h (.inl (p h))];simp;omega
  have hagr':∀ k q,recs[k]? =some q→(k<i→je q.foot r.foot=true)→(i<k→je r.foot q.foot=true)→mF (listed.setIfInBounds i true) k=decide (k<i+1):=by
   intro k q c E p;rw [l];rcases Xj4 k i with h|h|h
   ·rw [if_neg (by omega),R k q c h (.inl (E h))];simp;omega
   ·subst h;simp
   ·rw [if_neg (by omega),hhigh k q c h (.inl (p h))];simp;omega
  have Y:∀ t ∈ r.rt,(mO s.env (recs.take i)).get t=(kG (mF listed) 0 s.env recs).get t:=by
   intro t L;rw [← wM];refine lJ recs 0 _ _ rfl fun k q c f=> ?_
   rw [Φ];exact M k q c (fun _=>QW (rY f) L) (fun _=>QV L (rY f))
  have hhp:∀ b ∈ r.rb,ai (Ce s.hp (recs.take i)) b=ai (mP (mF listed) 0 s.hp recs) b:=by
   intro b z;rw [← KX];refine oJ recs 0 _ _ rfl fun k q c f=> ?_
   rw [Φ];exact M k q c (fun _=>Pn f z) (fun _=>Pm z f)
  have hfresh:∀ j,j<4→ai (mP (mF listed) 0 s.hp recs) (A+4*i+j)=none:=by
   intro j hj;have E:ai (mP (mF listed) 0 s.hp recs) (A+4*i+j)=ai (mP (fun _=>false) 0 s.hp recs) (A+4*i+j):=by
    refine oJ recs 0 _ _ rfl fun k q c f=> ?_
    rw [Φ];have z:=hbound k q c _ f;rcases Xj4 k i with h|h|h
    ·omega
    ·subst h;exact C
    ·exact hhigh k q c h (.inr ⟨_,f,by omega,by omega⟩)
   rw [E,jr recs 0 _ (fun _ _=>rfl)];cases z:ai s.hp (A+4*i+j) with
   |none=>rfl
   |some B=>have:=hn0 _ _ z;omega
  have T:ops.toArray[i]? =some o:=by simpa using J
  have hgoal:XB P ops.toArray Q o (wpAny P .any ops.toArray Q n (listed.setIfInBounds i true)) a w:=by
   refine hstep (mF listed) m S w a u.rel.srel (fun t L=>by rw [Y t L];exact u.rel.env t) hhp hfresh (fun j hj=>by
    cases f:mF listed j with
    |false=>rfl
    |true=>
     have p:=nT u.cl f hj;rw [C] at p;cases p) Q _ ?_
   intro cv m' S' w' ds E p h3 h4;have hF:=u.rel.put (hnt o (ο J)) E p h3 h4;rw [jl] at p;rw [Xqj] at hF;have he':∀ t,(kG (mF (listed.setIfInBounds i true)) 0 s.env recs).get t=(nZ (kG (mF listed) 0 s.env recs) o.dst r.v).get t:=by
    intro t;by_cases L:o.dst=some t
    ·have h5:(kG (mF (listed.setIfInBounds i true)) 0 s.env recs).get t=(kG (fun j=>decide (j<i+1)) 0 s.env recs).get t:=by
      refine lJ recs 0 _ _ rfl fun k q c f=> ?_
      rw [Φ];have X:t ∈ r.foot.wt:=rY (I.trans L);exact hagr' k q c (fun _=>IB (rY f) X) (fun _=>IB X (rY f))
     rw [h5,wM,EP _ _ _ _ v,I,L,gZ,gZ]
    ·rw [wQ L];refine lJ recs 0 _ _ rfl fun k q c f=> ?_
     rw [Φ,l,if_neg]
     rintro rfl
     rw [v] at c;cases c;exact L (I ▸ f)
   have F:ai (mP (mF (listed.setIfInBounds i true)) 0 s.hp recs)=ai (r.ups++mP (mF listed) 0 s.hp recs):=by
    funext b;by_cases z:b ∈ r.ups.map (·.1)
    ·have h5:ai (mP (mF (listed.setIfInBounds i true)) 0 s.hp recs) b=ai (mP (fun j=>decide (j<i+1)) 0 s.hp recs) b:=by
      refine oJ recs 0 _ _ rfl fun k q c f=> ?_
      rw [Φ];exact hagr' k q c (fun _=>EL f z) (fun _=>EL z f)
     rw [h5,KX,Sl _ _ _ _ v];exact w_ z
    ·rw [pO z];refine oJ recs 0 _ _ rfl fun k q c f=> ?_
     rw [Φ,l,if_neg]
     rintro rfl
     rw [v] at c;cases c;exact z f
   refine ih _ m' S' w' _ ⟨by rw [Array.size_setIfInBounds];exact u.sz,O, ?_,hF.congr he' F⟩ ?_
   ·rw [F];exact u.fr.trans p
   ·have:=zD C l (Ψ ops.length) Xxr (by simp [V]);simp only [Aq] at hm ⊢;omega
  simp only [wpOp,T];exact hgoal
theorem IK {ops:List Oper} {recs:List jc} {s s':RS} {p nt:Nat} (q:∀ o ∈ ops,∀ d,o.dst=some d→d<nt) (c:recs.length=ops.length) (f:QN P ap ops 0 p s s' recs) (n:s'.dfs.length=s.dfs.length)
  (hord:FU p (fun j i=>((Region.before ops.toArray).toList.getD j 0).testBit i) recs) (hback:ny ops=true) (hn0:∀ b B,ai s.hp b=some B→b<p) {m0:aB} {S0:au} {w0:World} {Q:Exit→Act→World→Prop}
  (hQ:∀ m S w a,Fr (ai s.hp) m0 S0 w0 (ai (Ce s.hp recs)) m S w→FR ap (mO s.env recs) (Ce s.hp recs) s.dfs nt m S w a→Q .normal a w):
  ∀ (fuel:Nat) (listed:Array Bool) (m:aB) (S:au) (w:World) (a:Act),ZT ap ops recs s.env s.hp s.dfs nt m0 S0 w0 listed m S w a→Aq ops.length (mF listed)≤fuel→wpAny P .any ops.toArray Q fuel listed a w:=by
 obtain ⟨_,e⟩:=f.sem n;refine IL q c f.bound (fun k r u=> ?_) hord hback hn0 hQ;obtain ⟨o,t,C,E⟩:=e k r u;rw [Φ] at t;exact ⟨o,t,C,fun D m S w a v z l h _ Q K A=>E _ m S w a v z (fun b x B y=>by rw [← l b x];exact y) h Q K A⟩
def mW (ap:AP) (base:Nat) (keep:List Nat) (hp0:Hp) (m:aB) (S:au) (w:World) (nt:Nat) (s':St) (Q:Exit→Act→World→Prop):aJ→Prop
 | .panic v=>match (bZ v).isEmpty with
  |true=> ∀ s1:St,s'=norm base keep s1→qU ap hp0 m S w nt s1.env s1.hp s1.dfs Q (some v)
  |false=>qU ap hp0 m S w nt s'.env s'.hp s'.dfs Q (some v)
 | .normal=> ∀ s1:St,s'=norm base keep s1→qU ap hp0 m S w nt s1.env s1.hp s1.dfs Q none
 |_=>True
theorem Hl (y:di P ap) (F:P.follows .mixedOrders=true) (J:gp P ap H) {ops:List Oper} {l:Bool} {nt base:Nat} {keep:List Nat} (A:∀ o ∈ ops,∀ d,o.dst=some d→d<nt) {s:St} {e:aJ} {s':St} {c c':Cx} {id:Nat}
  (h:Hg ap H base keep ops l s c= .ok (e,s') c') (hc:c'.Ok):c.Ok∧(s.md= .dead→s'.md= .dead∧(∀ m S w a,FR ap s.env s.hp s.dfs nt m S w a→∀ Q,
   mW ap base keep s.hp m S w nt s' Q e→(Code.region id ops.toArray l).wp P Q a w)):=by
 unfold Hg at h;obtain ⟨⟨s1,p⟩,X,I,h⟩:=R.bind_ok h;dsimp only at h;have r:∀ b B,ai s.hp b=some B→b<dV s.hp:=fun b B q=>jR q
 cases p with
 | some v=>
  cases l with
  |true=>cases h
  | false=>
   dsimp only at h;split at h
   ·rename_i C;cases h;obtain ⟨f,hs⟩:=ji y J A ops 0 _ _ _ _ _ _ I hc;refine ⟨f,fun i=> ?_⟩;obtain ⟨z,E⟩:=hs i (fun t b q=>by cases q) rfl r;refine ⟨z,fun m S w a j Q x=>wp_region ?_⟩;simp only [mW,C] at x;have:=E m S w a j Q (x _ rfl);rw [← Xjb] at this;simpa using this
   ·rename_i C;cases h;obtain ⟨f,hs⟩:=ji y J A ops 0 _ _ _ _ _ _ I hc;refine ⟨f,fun i=> ?_⟩;obtain ⟨z,E⟩:=hs i (fun t b q=>by cases q) rfl r;refine ⟨z,fun m S w a j Q x=>wp_region ?_⟩;simp only [mW,C] at x;have:=E m S w a j Q x;rw [← Xjb] at this;simpa using this
 | none=>
  dsimp only at h;split at h
  ·rename_i hcond;cases h;cases l with
   |false=>
    obtain ⟨f,hs⟩:=ji y J A ops 0 _ _ _ _ _ _ I hc;refine ⟨f,fun i=> ?_⟩;obtain ⟨z,E⟩:=hs i (fun t b q=>by cases q) rfl r;refine ⟨z,fun m S w a j Q x=>wp_region ?_⟩;have:=E m S w a j Q (x _ rfl);rw [← Xjb] at this;simpa using this
   | true=>
    obtain ⟨f,hs⟩:=OM y J ops 0 _ _ _ _ _ I hc;refine ⟨f,fun i=> ?_⟩;obtain ⟨z,recs,G,n⟩:=hs i (fun t b q=>by cases q) rfl;refine ⟨z,fun m S w a j Q x=>wp_region_any F ?_⟩;simp only [Xvb,Xz0,ε] at hcond;obtain ⟨⟨U,hback⟩,u⟩:=hcond;have u:=aA u;rw [n.feet,List.append_nil] at U;have L:=x _ rfl;have K:=(n.sem u).1;have D:mF (Array.replicate ops.length false)=fun _=>false:=by
     funext k;simp only [mF,Array.getD_eq_getD_getElem?];by_cases O:k<ops.length<;>simp [O]
    have N:ops.toArray.size=ops.length:=by simp
    rw [N];refine IK A G n u (vK U) hback r (m0:=m) (S0:=S) (w0:=w) (Q:=Q) ?_ ops.length _ m S _ a ⟨by simp, ?_, ?_, ?_⟩ ?_
    ·intro V S' w' a' M W;refine L V S' w' a' ?_ ?_
     ·rw [n.hp];exact M
     ·rw [n.hp,n.env,K];exact W
    ·intro k o O T;rw [D] at T;cases T
    ·rw [D,jr recs 0 _ (fun _ _=>rfl)];exact ⟨Ge.refl _ _,gK.refl _,rfl,rfl,rfl,ζ _,fun _ _ _=>rfl,fun _ B h=> .inr ⟨B,h,rfl⟩,fun _ _ _ h=> .inl h,(MW.refl _).mb _ _⟩
    ·rw [D,jr recs 0 _ (fun _ _=>rfl),oD recs 0 _ (fun _ _=>rfl)];exact ⟨⟨j.srel.inj,fun b B q=>j.srel.blk b B q|>fun ⟨z,E,M⟩=> ⟨z,E,M⟩,j.srel.sealed,j.srel.own,j.srel.glob⟩,j.env,j.dfs,j.size⟩
    ·exact Xqg (List.length_filter_le _ _) (by simp)
  ·cases h
end
end AM
namespace AM
open Go
def zU (acc:List Nat) (b:Nat):List Nat:=if kY acc b then acc else acc++ [b]
theorem Ph (a:List Nat) (b:Nat) (h:a.Nodup):(zU a b).Nodup∧∃ t,zU a b=a++t:=by
 unfold zU;split
 ·exact ⟨h,[],by simp⟩
 ·rename_i f;refine ⟨?_,[b],rfl⟩;rw [List.nodup_append];refine ⟨h,by simp, ?_⟩;intro x d y c e;simp at c;subst c;subst e;exact f (fQ.2 d)
theorem m_:∀ (l acc:List Nat),acc.Nodup→(l.foldl zU acc).Nodup∧∃ t,l.foldl zU acc=acc++t
 | [],acc,h=> ⟨h,[],by simp⟩
 |b::r,acc,h=>by
  simp only [Xqw];obtain ⟨e,a,i⟩:=Ph acc b h;obtain ⟨f,c,d⟩:=m_ r _ e;exact ⟨f,a++c,by rw [d,i,Xqi]⟩
theorem Bl:∀ (l acc:List Nat),l.Nodup→(∀ x ∈ l,x ∉ acc)→l.foldl zU acc=acc++l
 | [],acc,_,_=>by simp
 | b::r,acc,h,hd=>by
  rw [Xxo] at h;have c:kY acc b=false:=by
   cases hm:kY acc b with
   |false=>rfl
   |true=>exact absurd (fQ.1 hm) (hd b (by simp))
  simp only [Xqw];have:zU acc b=acc++ [b]:=by simp [zU,c]
  rw [this,Bl r _ h.2]
  ·simp
  ·intro x a hm;rcases List.mem_append.1 hm with hm|hm
   ·exact hd x (by simp [a]) hm
   ·simp at hm;subst hm;exact h.1 a
theorem P5 (l:List Nat):fJ l=l.foldl zU []:=rfl
theorem C_ (n:Nat) (l:List Nat):(fJ (Ψ n++l)).Nodup∧∃ t,fJ (Ψ n++l)=Ψ n++t:=by
 rw [P5,List.foldl_append,Bl (Ψ n) [] Xxr (by simp),Xqj];exact m_ l _ Xxr
theorem lI (rd:bD):∀ (n:Nat) (l:List Nat),l.Nodup→(lH rd n l).Nodup∧∃ t,lH rd n l=l++t
 |0,l,h=> ⟨h,[],by simp [lH]⟩
 | n+1,l,h=>by
  simp only [lH];split
  ·exact ⟨h,[],by simp⟩
  ·obtain ⟨e,a,i⟩:=m_ (l.flatMap fun b=>match rd b with|some B=>(match B.pr with|true=> []|false=>bg B.cells)|none=> []) l h;obtain ⟨f,c,d⟩:=lI rd n _ e;refine ⟨f,a++c, ?_⟩;exact d.trans (by rw [i,Xqi])
theorem yw {f:Nat→AV}:∀ (keep:List Nat) (t:Nat),ai (keep.map fun t=>(t,f t)) t=if t ∈ keep then some (f t) else none
 | [],t=>by simp [ai]
 | a::r,t=>by
  simp only [Γ,ai,yw r t];cases h:Δ a t with
  |true=>have:=aA h;subst this;simp
  |false=>
   have b:t ≠ a:=by intro e;subst e;simp at h
   simp [b]
theorem rV {rd:bD} {mk:Nat→az→az}:∀ (ids:List Nat) (j p:Nat),ai ((ids.zipIdx j).filterMap fun (b,p)=>(rd b).map fun B=>(p,mk p B)) p=if j≤p then (ids[p - j]?).bind fun b=>(rd b).map (mk p) else none
 | [],j,p=>by simp [ai]
 | a ::r,j,p=>by
  have i:=rV (rd:=rd) (mk:=mk) r (j+1) p;rw [List.zipIdx_cons];cases c:rd a with
  | none=>
   rw [Xwc (by simp [c]),i];by_cases hj:j+1≤p
   ·rw [if_pos hj,if_pos (by omega)];obtain ⟨d,f⟩:∃ d,p - j=d+1:=⟨p - j - 1,by omega⟩
    rw [f,Xxx,show p - (j+1)=d by omega]
   ·rw [if_neg hj];by_cases hjp:j≤p
    ·rw [if_pos hjp,show p - j=0 by omega];simp [c]
    ·rw [if_neg hjp]
  | some B=>
   rw [Xwd (by simp [c];rfl)];simp only [ai];cases h:Δ j p with
   |true=>have:=aA h;subst this;simp [c]
   | false=>
    have k:j ≠ p:=by intro e;subst e;simp at h
    simp only [i];by_cases hj:j+1≤p
    ·rw [if_pos hj,if_pos (by omega)];obtain ⟨d,f⟩:∃ d,p - j=d+1:=⟨p - j - 1,by omega⟩
     rw [f,Xxx,show p - (j+1)=d by omega]
    ·rw [if_neg hj,if_neg (by omega)]
theorem yF:∀ {l:List Nat},l.Nodup→pR l=true
 | [],_=>rfl
 |b::r,h=>by
  rw [Xxo] at h;simp only [pR,ε,Xqe];refine ⟨?_,yF h.2⟩;cases hm:kY r b with
  |false=>rfl
  |true=>exact absurd (fQ.1 hm) h.1
section
variable {P:Program} {ap:AP} {H:bi}
theorem wo {g g':bD} {m b:aB} {S S':au} {ρ:Nat→Nat→Option (Nat × Nat)} (a:gK S S') (h:mX g m g' b ρ):∀ {l:List (Nat × List AV)} {ds:List Deferred},dR g m S l ds→dR g' b S' (l.map fun d=>(d.1,jG ρ d.2)) ds
 | [],[],_=>by simp [dR]
 |d::r,cd::cr,p=>by
  simp only [dR] at p;obtain ⟨⟨cap,c,e⟩,f⟩:=p;simp only [Γ,dR];exact ⟨⟨cap,c,iw a h _ e⟩,wo a h f⟩
 | [],_::_,p=>by simp [dR] at p
 |_::_,[],p=>by simp [dR] at p
theorem iW {h0:List az} {keep:List Nat} {s:St} {nt:Nat} {m m0:aB} {S S0:au} {w w0:World} {a:Act} (c:Fr (ax h0) m0 S0 w0 (ai s.hp) m S w) (E:FR ap s.env s.hp s.dfs nt m S w a):
  ∃ m',Fr (ax h0) m0 S0 w0 (ai (norm h0.length keep s).hp) m' S w∧FR ap (norm h0.length keep s).env (norm h0.length keep s).hp (norm h0.length keep s).dfs nt m' S w a:=by
 obtain ⟨_,t0,R⟩:=lI (ai s.hp) 20 (Ψ h0.length) Xxr;generalize hroots:t0++(rE keep s.env++s.dfs.flatMap (fun d=>bg d.2))=roots;have hroots':lH (ai s.hp) 20 (Ψ h0.length)++rE keep s.env++s.dfs.flatMap (fun d=>bg d.2)=Ψ h0.length++roots:=by rw [← hroots,R];simp only [Xqi]
 obtain ⟨U,t1,I⟩:=C_ h0.length roots;obtain ⟨V,t2,M⟩:=lI (ai s.hp) 20 _ U;rw [I,Xqi] at M;have hsome:∀ b,b<h0.length→∃ B0 B,ax h0 b=some B0∧ai s.hp b=some B∧B.esz=B0.esz∧((B.ver=B0.ver∧m b=m0 b)∨B0.ver<B.ver):=by
  intro b z;obtain ⟨B,k,l⟩:=c.ge b h0[b] (by simp [ax,z]);exact ⟨h0[b],B,by simp [ax,z],k,l⟩
 generalize n:(lH (ai s.hp) 20 (fJ (Ψ h0.length++roots))).filter (fun b=>(ai s.hp b).isSome)=ids;have Q:ids.Nodup:=by rw [← n];exact V.filter _
 have F:=yF Q;have u:∃ t,ids=Ψ h0.length++t:=by
  rw [← n,I,M,List.filter_append];refine ⟨_,congrArg (· ++_) ?_⟩;rw [List.filter_eq_self];intro b z;obtain ⟨_,B,_,l,_⟩:=hsome b (by simpa using z);simp [l]
 obtain ⟨t,u⟩:=u;have y:∀ b,b<h0.length→ids[b]? =some b:=by
  intro b z;rw [u,υ (by simpa using z)];simp [z]
 have L:∀ (p b:Nat),ids[p]? =some b→∃ B,ai s.hp b=some B:=by
  intro p b hp;have:=ο hp;rw [← n,Xq7] at this;exact Option.isSome_iff_exists.1 this.2
 let ρ:Nat→Nat→Option (Nat × Nat):=fun b v=>match ai s.hp b with
  |some B=>match Δ B.ver v with
   |true=>(mQ ids b).map fun p=>(p,match Xxc p h0.length with|true=>v|false=>0)
   |false=>none
  |none=>none
 let mk:Nat→az→az:=fun p B=> {B with cells:=(match B.pr with|true=>B.cells|false=>jG ρ B.cells),ver:=match Xxc p h0.length with|true=>B.ver|false=>0}
 have hnorm:norm h0.length keep s=⟨keep.map fun t=>(t,ren ρ (s.env.get t)),ids.zipIdx.filterMap fun (b,p)=>(ai s.hp b).map fun B=>(p,mk p B),s.md,s.dfs.map fun d=>(d.1,jG ρ d.2)⟩:=by
  unfold norm;simp only [hroots',n];rfl
 rw [hnorm];dsimp only;have A:∀ p,ai (ids.zipIdx.filterMap fun (b,p)=>(ai s.hp b).map fun B=>(p,mk p B)) p=(ids[p]?).bind fun b=>(ai s.hp b).map (mk p):=by
  intro p;rw [rV (rd:=ai s.hp) (mk:=mk) ids 0 p,if_pos (Xqn _),Nat.sub_zero]
 generalize (ids.zipIdx.filterMap fun (b,p)=>(ai s.hp b).map fun B=>(p,mk p B))=hp2 at A;have f:∀ (p:Nat) (B2:az),ai hp2 p=some B2→∃ b B,ids[p]? =some b∧ai s.hp b=some B∧B2=mk p B:=by
  intro p B2 h;rw [A] at h;cases hp:ids[p]? with
  |none=>rw [hp] at h;cases h
  |some b=>
   rw [hp] at h;obtain ⟨B,K⟩:=L p b hp;simp only [Xza,K,Xqu,Option.some.injEq] at h;exact ⟨b,B,rfl,K,h.symm⟩
 let m2:aB:=fun p=>m (ids.getD p 0)
 have j:∀ (p b:Nat),ids[p]? =some b→m2 p=m b:=by
  intro p b hp;show m (ids.getD p 0)=_;rw [γ,hp];rfl
 have x:mX (ai s.hp) m (ai hp2) m2 ρ:=by
  intro b ver p ver' h B K X;simp only [ρ,K] at h;split at h
  ·rename_i G;have G:=aA G;simp only [Ξ,Prod.mk.injEq] at h;obtain ⟨q,C,rfl,rfl⟩:=h;have C:=kZ C;refine ⟨mk q B, ?_, ?_,fun _=> ⟨G,j q b C,rfl⟩⟩
   ·rw [A,C];simp [K]
   ·simp only [mk];split
    ·omega
    ·exact ζ _
  ·cases h
 have D:∀ (p q b:Nat),ids[p]? =some b→ids[q]? =some b→p=q:=by
  intro p q b hp C;have Y:=jX F hp;rw [jX F C] at Y;cases Y;rfl
 refine ⟨m2, ?_, ?_, ?_, ?_,E.size⟩
 ·refine ⟨?_,c.sle,c.os,c.tape,c.output,c.size,c.rest, ?_,c.sealN,fun p B2 hp=>by
   obtain ⟨b,B,k,l,rfl⟩:=f p B2 hp;rw [j p b k];exact c.mw b B l⟩
  ·intro b B0 z;have r:b<h0.length:=(List.getElem?_eq_some_iff.1 z).1;obtain ⟨B0',B,k,l,N,T⟩:=hsome b r;rw [z] at k;cases k;have W:Xxc b h0.length=true:=ξ r;refine ⟨mk b B,by rw [A,y b r];simp [l],N, ?_⟩;simp only [mk,W];rw [j b b (y b r)];exact T
  ·intro p B2 hp;obtain ⟨b,B,k,l,rfl⟩:=f p B2 hp;rw [j p b k];rcases c.img b B l with h|⟨B0,N,T⟩
   ·exact .inl h
   ·have r:b<h0.length:=(List.getElem?_eq_some_iff.1 N).1;have:=D p b b k (y b r);subst this;exact .inr ⟨B0,N,T⟩
 ·refine ⟨?_, ?_,E.srel.sealed, ?_,E.srel.glob⟩
  ·intro p q B2 B2' hp C e;obtain ⟨b,B,k,l,rfl⟩:=f p B2 hp;obtain ⟨Z,B',J,O,rfl⟩:=f q B2' C;rw [j p b k,j q Z J] at e;have:=E.srel.inj b Z B B' l O e;subst this;exact D p q b k J
  ·intro p B2 hp;obtain ⟨b,B,k,l,rfl⟩:=f p B2 hp;rw [j p b k];obtain ⟨⟨cur,e,vs,rest,k1,k2,k3,k4,k5,k6⟩,k7,k8⟩:=E.srel.blk b B l;cases i:B.pr with
   |true=>exact ⟨⟨cur,e,vs,rest,k1,k2,fun _=>by simpa [mk,i] using k3 i,by simpa [mk,i] using aV _ (k3 i),k5,k6⟩,k7,by simpa [mk,i] using k8⟩
   | false=>
    have G:=iw (gK.refl S) x _ k4;exact ⟨⟨cur,e,vs,rest,k1,k2,fun h=>by simp [mk,i] at h,by simpa [mk,i] using G,k5,k6⟩,k7,by
     have:(mk p B).cells.length=B.cells.length:=by simp only [mk,i];rw [aU k4,aU G]
     rw [this];exact k8⟩
  ·intro p B2 hp o v ho;obtain ⟨b,B,k,l,rfl⟩:=f p B2 hp;rw [j p b k] at ho;exact E.srel.own b B l o v ho
 ·intro t;simp only [dG.get,yw];by_cases ht:t ∈ keep
  ·rw [if_pos ht];exact qY (gK.refl S) x _ (E.env t)
  ·rw [if_neg ht];simp [VR]
 ·exact wo (gK.refl S) x E.dfs
end
end AM
namespace AM
open Go
mutual
theorem lF {g g':bD} {m n:aB} {S S':au} (i:gK S S'):∀ (x:AV) {v:Value},(∀ b ∈ bZ x,g' b=g b∧n b=m b)→VR g m S x v→VR g' n S' x v
 | .int _ _,_,_,p=>by simpa only [VR,PR] using p
 | .bool _,_,_,p=>by simpa only [VR,PR] using p
 | .str _,_,_,p=>by simpa only [VR,PR] using p
 | .nilS,_,_,p=>by simpa only [VR,PR] using p
 | .nilP,_,_,p=>by simpa only [VR,PR] using p
 | .raw _,_,_,p=>by simpa only [VR,PR] using p
 | .nilF,_,_,p=>by simpa only [VR,PR] using p
 | .nilI,_,_,p=>by simpa only [VR,PR] using p
 | .sl _ _ _,_,_,p=>by simp only [VR] at p ⊢;exact bn i _ p
 | .pp _ _,_,_,p=>by simp only [VR] at p ⊢;exact bn i _ p
 | .mp _ _,_,_,p=>by simp only [VR] at p ⊢;exact bn i _ p
 | .dead,_,_,_=>by simp only [VR]
 | .own _ _ _,_,_,p=>by simp only [VR] at p
 | .ref b _ _ _,_,h,p=>by
  obtain ⟨j,k⟩:=h b (by simp [bZ]);simp only [VR] at p ⊢;rw [j,k];exact p
 | .ptr b _ _,_,h,p=>by
  obtain ⟨j,k⟩:=h b (by simp [bZ]);simp only [VR] at p ⊢;rw [j,k];exact p
 | .mr b _,_,h,p=>by
  obtain ⟨j,k⟩:=h b (by simp [bZ]);simp only [VR] at p ⊢;rw [j,k];exact p
 | .agg l,_,h,p=>by
  simp only [VR] at p ⊢;obtain ⟨vs,e,q⟩:=p;exact ⟨vs,e,jd i l (fun b d=>h b (by simpa [bZ] using d)) q⟩
 | .tup l,_,h,p=>by
  simp only [VR] at p ⊢;obtain ⟨vs,e,q⟩:=p;exact ⟨vs,e,jd i l (fun b d=>h b (by simpa [bZ] using d)) q⟩
 | .fn f a c,_,h,p=>by
  simp only [VR] at p ⊢;obtain ⟨o,vc,e,q,r⟩:=p;exact ⟨o,vc,e,jd i a (fun b d=>h b (by simp [bZ,d])) q,jd i c (fun b d=>h b (by simp [bZ,d])) r⟩
 | .ifc t x,_,h,p=>by
  simp only [VR] at p ⊢;obtain ⟨u,e,q⟩:=p;exact ⟨u,e,lF i x (fun b d=>h b (by simpa [bZ] using d)) q⟩
theorem jd {g g':bD} {m d:aB} {S S':au} (c:gK S S'):∀ (l:List AV) {vs:List Value},(∀ b ∈ bg l,g' b=g b∧d b=m b)→aS g m S l vs→aS g' d S' l vs
 | [],[],_,_=>by simp only [aS]
 |x::r,v::vs,h,p=>by
  simp only [aS] at p ⊢;exact ⟨lF c x (fun b a=>h b (by simp [bg,a])) p.1,jd c r (fun b a=>h b (by simp [bg,a])) p.2⟩
 | [],_::_,_,p=>by simp [aS] at p
 |_::_,[],_,p=>by simp [aS] at p
end
theorem kR {g:bD} {m:aB} {S:au} {x:AV} {v:Value} (h:(bZ x).isEmpty=true) (d:VR g m S x v):PR S x v:=by
 have c:bZ x= []:=by simpa using h
 exact lC (m:=m) x (lF (gK.refl S) x (fun b a=>by rw [c] at a;cases a) d)
def qE (nt:Nat) (o:Oper):Bool:=match o.dst with|some d=>Xxc d nt|none=>true
def dA (nt:Nat):Code→Bool
 | .region _ ops _=>ops.toList.all (qE nt)
 | .seq a b=>dA nt a && dA nt b
 | .cond _ a b=>dA nt a && dA nt b
 | .block _ b=>dA nt b
 | .loop b=>dA nt b
 | .scope b=>dA nt b
 |_=>true
section
variable {P:Program} {ap:AP} {H:bi}
def qy (hp:Hp) (m:aB) (S:au) (Q:Exit→Act→World→Prop) (a:Act) (w:World):aJ→Prop
 | .normal=>Q .normal a w
 | .exit id=>Q (.exit id) a w
 | .ret=>Q .ret a w
 | .panic v=> ∀ cv,VR (ai hp) m S v cv→Q (.panic [{v:=cv,recovered:=false}]) a w
def XA (ap:AP) (h0:List az) (m0:aB) (S0:au) (w0:World) (nt:Nat) (s':St) (e:aJ) (Q:Exit→Act→World→Prop):Prop:=
 ∀ m' S' w' a',Fr (ax h0) m0 S0 w0 (ai s'.hp) m' S' w'→FR ap s'.env s'.hp s'.dfs nt m' S' w' a'→qy s'.hp m' S' Q a' w' e
def ag (P:Program) (ap:AP) (h0:List az) (nt:Nat) (code:Code) (s:St) (e:aJ) (s':St):Prop:=
 s.md= .dead→s'.md= .dead∧∀ m0 S0 w0 m S w a,Fr (ax h0) m0 S0 w0 (ai s.hp) m S w→FR ap s.env s.hp s.dfs nt m S w a→∀ Q,XA ap h0 m0 S0 w0 nt s' e Q→code.wp P Q a w
theorem ag.still {h0:List az} {nt:Nat} {b:Code} {s:St} {e:aJ} (h:∀ (Q:Exit→Act→World→Prop) hp m S a w,qy hp m S Q a w e→b.wp P Q a w):ag P ap h0 nt b s e s:=
 fun c=> ⟨c,fun _ _ _ m S w a f d Q i=>h Q s.hp m S a w (i m S w a f d)⟩
theorem Ci {h0:List az} {nt:Nat} {b:Code} {f:St→Cx→R (aJ × St)} (l:∀ s e s' c c',f s c= .ok (e,s') c'→c'.Ok→c.Ok∧ag P ap h0 nt b s e s'):
  ∀ (n:Nat) (s:St) (e:aJ) (s':St) (c c':Cx),NM f n s c= .ok (e,s') c'→c'.Ok→c.Ok∧(s.md= .dead→s'.md= .dead∧∀ m0 S0 w0 m S w a,Fr (ax h0) m0 S0 w0 (ai s.hp) m S w→FR ap s.env s.hp s.dfs nt m S w a→∀ Q,XA ap h0 m0 S0 w0 nt s' e Q→Code.rounds P b Q n a w)
 |0,s,e,s',c,c',h,hc=>by cases h
 | n+1,s,e,s',c,c',h,hc=>by
  simp only [NM] at h;obtain ⟨⟨y,s1⟩,C,B,h⟩:=R.bind_ok h;dsimp only at h;have hother:y ≠ .normal→R.ok (y,s1) C=R.ok (e,s') c'→c.Ok∧(s.md= .dead→s'.md= .dead∧∀ m0 S0 w0 m S w a,Fr (ax h0) m0 S0 w0 (ai s.hp) m S w→FR ap s.env s.hp s.dfs nt m S w a→∀ Q,XA ap h0 m0 S0 w0 nt s' e Q→Code.rounds P b Q (n+1) a w):=by
   intro k G;cases G;obtain ⟨d,u⟩:=l _ _ _ _ _ B hc;refine ⟨d,fun j=> ?_⟩;obtain ⟨x,q⟩:=u j;refine ⟨x,fun m0 S0 w0 m S w a i A Q t=>q m0 S0 w0 m S w a i A _ ?_⟩;intro p S' w' a' r o;have:=t p S' w' a' r o;cases e with
   |normal=>exact absurd rfl k
   |exit id=>exact this
   |ret=>exact this
   |panic v=>exact this
  cases y with
  |normal=>
   dsimp only at h;obtain ⟨z,E⟩:=Ci l n s1 e s' C c' h hc;obtain ⟨d,u⟩:=l _ _ _ _ _ B z;refine ⟨d,fun j=> ?_⟩;obtain ⟨x,q⟩:=u j;obtain ⟨r,o⟩:=E x;refine ⟨r,fun m0 S0 w0 m S w a i A Q t=>q m0 S0 w0 m S w a i A _ ?_⟩;intro p S' w' a' F D;exact o m0 S0 w0 p S' w' a' F D Q t
  |exit id=>exact hother (by simp) h
  |ret=>exact hother (by simp) h
  |panic v=>exact hother (by simp) h
theorem dQ (p:di P ap) (i:P.follows .mixedOrders=true) (J:gp P ap H) {h0:List az} {keep:List Nat} {lf nt:Nat}:∀ (code:Code),dA nt code=true→∀ (s:St) (e:aJ) (s':St) (c c':Cx),jI ap H h0.length keep lf code s c= .ok (e,s') c'→c'.Ok→c.Ok∧ag P ap h0 nt code s e s'
 | .skip,_,s,e,s',c,c',h,n=>by
  cases h;exact ⟨n,ag.still fun Q hp m S a w q=>wp_skip q⟩
 | .label l,_,s,e,s',c,c',h,n=>by
  cases h;exact ⟨n,ag.still fun Q hp m S a w q=>wp_label q⟩
 | .exit id,_,s,e,s',c,c',h,n=>by
  cases h;exact ⟨n,ag.still fun Q hp m S a w q=>wp_exit q⟩
 | .ret,_,s,e,s',c,c',h,n=>by
  cases h;exact ⟨n,ag.still fun Q hp m S a w q=>wp_ret q⟩
 | .region id ops draw,hd,s,e,s',c,c',h,n=>by
  have hnt:∀ o ∈ ops.toList,∀ d,o.dst=some d→d<nt:=by
   intro o ho d Z;have:=List.all_eq_true.1 hd o ho;simp only [qE,Z] at this;exact dW this
  obtain ⟨j,hr⟩:=Hl p i J hnt (id:=id) h n;refine ⟨j,fun k=> ?_⟩;obtain ⟨F,h2⟩:=hr k;refine ⟨F,fun m0 S0 w0 m S w a f D Q B=> ?_⟩;have:=h2 m S w a D Q;rw [Array.toArray_toList] at this;refine this ?_;cases e with
  |normal=>
   intro s1 N E S' w' a' C A;obtain ⟨Y,r,u⟩:=iW (keep:=keep) (f.trans C) A;rw [← N] at r u;exact B Y S' w' a' r u
  | panic v=>
   simp only [mW];split
   ·rename_i W;intro s1 N E S' w' a' cv C A r;obtain ⟨Y,u,U⟩:=iW (keep:=keep) (f.trans C) A;rw [← N] at u U;exact B Y S' w' a' u U cv (ed _ (kR W r))
   ·intro E S' w' a' cv C A r;exact B E S' w' a' (f.trans C) A cv r
  |exit id=>trivial
  |ret=>trivial
 | .seq x y,hd,s,e,s',c,c',h,n=>by
  simp only [dA,ε] at hd;simp only [jI] at h;obtain ⟨⟨M,s1⟩,L,F,h⟩:=R.bind_ok h;dsimp only at h;have hother:M ≠ .normal→R.ok (M,s1) L=R.ok (e,s') c'→c.Ok∧ag P ap h0 nt (.seq x y) s e s':=by
   intro K T;cases T;obtain ⟨j,G⟩:=dQ p i J x hd.1 _ _ _ _ _ F n;refine ⟨j,fun k=> ?_⟩;obtain ⟨C,A⟩:=G k;refine ⟨C,fun m0 S0 w0 m S w a f D Q B=>wp_seq (A m0 S0 w0 m S w a f D _ ?_)⟩;intro E S' w' a' r u;have:=B E S' w' a' r u;cases e with
   |normal=>exact absurd rfl K
   |exit id=>exact this
   |ret=>exact this
   |panic v=>exact this
  cases M with
  |normal=>
   dsimp only at h;obtain ⟨I,V⟩:=dQ p i J y hd.2 _ _ _ _ _ h n;obtain ⟨j,G⟩:=dQ p i J x hd.1 _ _ _ _ _ F I;refine ⟨j,fun k=> ?_⟩;obtain ⟨C,A⟩:=G k;obtain ⟨r,u⟩:=V C;refine ⟨r,fun m0 S0 w0 m S w a f D Q B=>wp_seq (A m0 S0 w0 m S w a f D _ ?_)⟩;intro E S' w' a' U h8;exact u m0 S0 w0 E S' w' a' U h8 Q B
  |exit id=>exact hother (by simp) h
  |ret=>exact hother (by simp) h
  |panic v=>exact hother (by simp) h
 | .cond t x y,hd,s,e,s',c,c',h,n=>by
  simp only [dA,ε] at hd;simp only [jI] at h;split at h
  ·rename_i bv X;obtain ⟨b',L,F,h⟩:=R.bind_ok h;have key:∀ (z:Code),(L.Ok→L.Ok∧z=if bv then x else y)→L.Ok∧ag P ap h0 nt z s e s'→c.Ok∧ag P ap h0 nt (.cond t x y) s e s':=by
    rintro z hzz ⟨I,V⟩
    obtain ⟨j,hb⟩:=jM F I;refine ⟨j,fun k=> ?_⟩;obtain ⟨r,u⟩:=V k;refine ⟨r,fun m0 S0 w0 m S w a f D Q B=>wp_cond (t:=bv) ?_ ?_⟩
    ·have:=pI D.srel (a:=a) (env:=s.env) t (fun t _=>D.env t);rw [X] at this;simpa only [VR,PR] using this
    ·rw [← (hzz I).2];exact u m0 S0 w0 m S w a f D Q B
   cases b' with
   |true=>exact key x (fun O=> ⟨O,by rw [← (jM F O).2];rfl⟩) (dQ p i J x hd.1 _ _ _ _ _ h n)
   |false=>exact key y (fun O=> ⟨O,by rw [← (jM F O).2];rfl⟩) (dQ p i J y hd.2 _ _ _ _ _ h n)
  ·cases h
 | .block id b,hd,s,e,s',c,c',h,n=>by
  simp only [dA] at hd;simp only [jI] at h;obtain ⟨⟨M,s1⟩,L,F,h⟩:=R.bind_ok h;dsimp only at h;have hcc:L=c':=by
   cases M<;>dsimp only at h
   ·cases h;rfl
   ·split at h<;>cases h<;>rfl
   ·cases h;rfl
   ·cases h;rfl
  subst hcc;obtain ⟨j,G⟩:=dQ p i J b hd _ _ _ _ _ F n;refine ⟨j,fun k=> ?_⟩;obtain ⟨C,A⟩:=G k;have hs:s1=s':=by
   cases M<;>dsimp only at h
   ·cases h;rfl
   ·split at h<;>cases h<;>rfl
   ·cases h;rfl
   ·cases h;rfl
  subst hs;refine ⟨C,fun m0 S0 w0 m S w a f D Q B=>wp_block (A m0 S0 w0 m S w a f D _ ?_)⟩;intro E S' w' a' r u;have q:=B E S' w' a' r u;cases M with
  |normal=>cases h;exact q
  |ret=>cases h;exact q
  |panic v=>cases h;exact q
  | exit id'=>
   dsimp only at h;split at h
   ·rename_i T;cases h;show Exit.inBlock id Q (.exit id') a' w';simp only [Exit.inBlock,if_pos (aA T)];exact q
   ·rename_i T;cases h;show Exit.inBlock id Q (.exit id') a' w';have K:id' ≠ id:=by intro e;subst e;simp at T
    simp only [Exit.inBlock,if_neg K];exact q
 | .loop b,hd,s,e,s',c,c',h,n=>by
  simp only [dA] at hd;simp only [jI] at h;obtain ⟨j,G⟩:=Ci (fun s e s' c c' h n=>dQ p i J b hd s e s' c c' h n) lf s e s' c c' h n;refine ⟨j,fun k=> ?_⟩;obtain ⟨C,A⟩:=G k;exact ⟨C,fun m0 S0 w0 m S w a f D Q B=>wp_loop_rounds lf (A m0 S0 w0 m S w a f D Q B)⟩
 | .scope b,hd,s,e,s',c,c',h,n=>by
  simp only [dA] at hd;simp only [jI] at h;obtain ⟨j,G⟩:=dQ p i J b hd _ _ _ _ _ h n;refine ⟨j,fun k=> ?_⟩;obtain ⟨C,A⟩:=G k;refine ⟨C,fun m0 S0 w0 m S w a f D Q B=>wp_scope_straight (A m0 S0 w0 m S w a f D _ ?_)⟩;intro E S' w' a' r u;have q:=B E S' w' a' r u;cases e with
  |normal=>exact q
  |exit id=>exact q
  |ret=>exact q
  |panic v=>exact q
 | .rangeFunc _ _ _ _,_,s,e,s',c,c',h,n=>by cases h
 | .goto _,_,s,e,s',c,c',h,n=>by cases h
 | .refuse _,_,s,e,s',c,c',h,n=>by cases h
end
end AM
