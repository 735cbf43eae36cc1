/- The abstract machine over the code of the model, and the proof that it is sound. No conditions. -/
import Derived.Test.YtokiomlellclkaaGreatDoorM2
import Derived.Orders
import Derived.LoopN
import Derived.Scope
set_option linter.unusedSimpArgs false
set_option linter.unusedVariables false
open List renaming map_cons→φ,getElem?_cons_succ→Xxh,filterMap_cons_none→Xz1,filterMap_cons_some→Xz2,mem_cons→Xqs,getElem?_append_left→Xqc,nil_append→θ,length_nil→Xqh,getElem?_eq_getElem→ν,getElem?_eq_none→Xxo,mem_of_getElem?→χ,getD_eq_getElem?_getD→Xqj,getElem?_map→Ξ,append_assoc→Δ,mem_cons_self→Xqp,mem_cons_of_mem→Xqk,drop_drop→Xx7,length_cons→Γ,range'_succ→Xzf,take_zero→Xzb,take_succ_cons→Xxj,eq_nil_of_length_eq_zero→Xxe,foldl_cons→Xqw,all_eq_true→Xjk,mem_zipIdx_iff_getElem?→Xxv,range→Xqd,nodup_cons→Xj5,mem_filter→Xxg,mem_range→Xws,size_toArray→Xqz,nodup_range→Xx2,range_eq_range'→Xx9
open Nat renaming add_assoc→Xxm,beq→υ,le_of_not_lt→Xvp,le_refl→ζ,lt_of_lt_of_le→Xqf,zero_add→Θ,zero_le→Xqr,le_trans→Xqg,add_zero→Xqo,eq_of_beq_eq_true→Xqq,blt→Xq6,ble_eq_true_of_le→Xqb,lt_trichotomy→Xxx
open Bool renaming and_eq_true→δ,not_eq_true'→Xqi,or_eq_true→Xxf,not_true→Xw3,false_or→Xw6
open Option renaming map_eq_some_iff→Φ,bind_some→Xzh,map_some→Xqu,getD_some→Xxd
namespace AM
open Go
def aF (h:List aP):bJ:=fun b=>h[b]?
def gQ (gh gf:bJ) (m:aH) (S:az):Nat→List AV→List Value→Prop
 |_,[],[]=>True
 |n,.own _ k _::r,v::vs=>VR gf m S (.ref n 0 0 k) v∧gQ gh gf m S (n+1) r vs
 |n,x::r,v::vs=>VR gh m S x v∧gQ gh gf m S n r vs
 |_,_,_=>False
def ug (gh gf:bJ) (m:aH) (S:az) (n:Nat):AV→Value→Prop
 | .tup l,v=> ∃ vs,v= .tuple vs.toArray∧gQ gh gf m S n l vs
 | .own _ k _,v=>VR gf m S (.ref n 0 0 k) v
 |x,v=>VR gh m S x v
def iE (n:Nat):gK→List aP
 | .ret v=>(iR n v).2
 | .pan _=> []
def TV (h':List aP) (m':aH) (S':az):gK→Ending→Prop
 | .ret v,e=> ∃ cv,e= .returned cv∧ug (aF h') (aF (h'++(iR h'.length v).2)) m' S' h'.length v cv
 | .pan v,e=> ∃ cv,e= .panicked [{v:=cv,recovered:=false}]∧VR (aF h') m' S' v cv
structure yG (ap:AP) (h:List aP) (m:aH) (S:az) (w:World) (out:gK) (h':List aP) (m':aH) (S':az) (w':World) (e:Ending):Prop where
 srel:bf ap (aF (h'++iE h'.length out)) m' S' w'
 fr:Fr (aF h) m S w (aF (h'++iE h'.length out)) m' S' w'
 out:TV h' m' S' out e
def ql (P:Program) (f:Nat):Prop:=∀ args w,(callFunc f args).run P w= .ok (.enter f args) w
structure af (P:Program) (ap:AP) (f:Nat) (args:List AV) (h:List aP) (out:gK) (h':List aP):Prop where
 len:h.length≤h'.length
 ent:ql P f
 calls:∀ m S w cargs,bf ap (aF h) m S w→aU (aF h) m S args cargs→Calls P f cargs.toArray w fun e w'=> ∃ m' S',yG ap h m S w out h' m' S' w' e
def gz (P:Program) (ap:AP) (H:bG):Prop:=∀ c f args h out h' md' c',H c .dead f args h= .ok (out,h',md') c'→c'.Ok→c.Ok∧af P ap f args h out h'
section
variable {P:Program} {ap:AP} {g:bJ} {m:aH} {S:az} {w:World}
mutual
theorem kP {m:aH} {S:az}:∀ (x:AV) {v:Value},VR (aF []) m S x v→PR S x v
 | .int _ _,_,p=>by simpa only [VR] using p
 | .bool _,_,p=>by simpa only [VR] using p
 | .str _,_,p=>by simpa only [VR] using p
 | .nilS,_,p=>by simpa only [VR] using p
 | .nilP,_,p=>by simpa only [VR] using p
 | .raw _,_,p=>by simpa only [VR] using p
 | .nilF,_,p=>by simpa only [VR] using p
 | .nilI,_,p=>by simpa only [VR] using p
 | .sl _ _ _,_,p=>by simpa only [VR] using p
 | .pp _ _,_,p=>by simpa only [VR] using p
 | .mp _ _,_,p=>by simpa only [VR] using p
 | .dead,_,_=>by simp only [PR]
 | .own _ _ _,_,p=>by simp only [VR] at p
 | .ref _ _ _ _,_,p=>by simp [VR,aF] at p
 | .ptr _ _ _,_,p=>by simp [VR,aF] at p
 | .mr _ _,_,p=>by simp [VR,aF] at p
 | .agg l,_,p=>by
  simp only [VR] at p;simp only [PR];obtain ⟨vs,e,q⟩:=p;exact ⟨vs,e,iV l q⟩
 | .tup l,_,p=>by
  simp only [VR] at p;simp only [PR];obtain ⟨vs,e,q⟩:=p;exact ⟨vs,e,iV l q⟩
 | .fn f a c,_,p=>by
  simp only [VR] at p;simp only [PR];obtain ⟨d,b,e,q,r⟩:=p;exact ⟨d,b,e,iV a q,iV c r⟩
 | .ifc t x,_,p=>by
  simp only [VR] at p;simp only [PR];obtain ⟨u,e,q⟩:=p;exact ⟨u,e,kP x q⟩
theorem iV {m:aH} {S:az}:∀ (l:List AV) {vs:List Value},aU (aF []) m S l vs→bi S l vs
 | [],[],_=>by simp only [bi]
 |x::r,v::vs,p=>by simp only [aU] at p;simp only [bi];exact ⟨kP x p.1,iV r p.2⟩
 | [],_::_,p=>by simp [aU] at p
 |_::_,[],p=>by simp [aU] at p
end
theorem Wu (y:bf ap g m S w) {L r:bJ} {Y x:aH} {Sp S':az} {w':World} (N:bf ap r x S' w') (p:Fr L Y Sp w r x S' w') (ι:Nat→Nat)
  (hdom:∀ i Bc,L i=some Bc→∃ B,g (ι i)=some B∧Y i=m (ι i))
  (hSp:ig S Sp) (hSpN:∀ k o v,Sp k o=some v→S k o=some v∨∃ b B,g b=some B∧(m b).1=k) {gN:bJ} {mN:aH} (ρ:Nat→Nat→Option (Nat × Nat)) (hρ:nD r x gN mN ρ)
  (hnew:∀ i Bc,r i=some Bc→∃ B,gN (ι i)=some B∧mN (ι i)=x i∧B.esz=Bc.esz∧B.fro=Bc.fro∧B.fz=Bc.fz∧B.pr=Bc.pr∧(Bc.pr=true→B.cells=Bc.cells)∧(Bc.pr=false→B.cells=jV ρ Bc.cells))
  (c:∀ b B,gN b=some B→(∃ i Bc,r i=some Bc∧b=ι i)∨(∃ B0,g b=some B0∧mN b=m b∧B.cells=B0.cells∧B.pr=B0.pr∧B.esz=B0.esz∧(B.fro=false→B.fz=0)∧B.fz≤B.cells.length∧(∀ i Bc,L i=some Bc→b ≠ ι i)∧(∀ o v,Sp (m b).1 o=some v→B.fro=true∧o<B.fz)))
  (hge:Ge g m gN mN):bf ap gN mN S' w'∧Fr g m S w gN mN S' w':=by
 have s:ig S S':=hSp.trans p.sle;have hcross:∀ b B0 i Bc,g b=some B0→r i=some Bc→(∀ i Bc,L i=some Bc→b ≠ ι i)→(m b).1 ≠ (x i).1:=by
  intro b B0 i Bc n a l e;have O:=y.lt n;rcases p.img i Bc a with d|⟨B1,d,z⟩
  ·omega
  ·obtain ⟨B2,I,K⟩:=hdom i B1 d;rw [K] at z;exact l i B1 d (y.inj b (ι i) B0 B2 n I (e.trans z))
 constructor
 ·refine ⟨?_, ?_,N.sealed, ?_,N.glob⟩
  ·intro b W B B' n Z e;rcases c b B n with ⟨i,Bi,a,rfl⟩|⟨B0,h0,d,_,_,_,_,_,z,_⟩<;>rcases c W B' Z with ⟨j,Bj,V,rfl⟩|⟨B0',M,Q,_,_,_,_,_,X,_⟩
   ·obtain ⟨_,_,t,_⟩:=hnew i Bi a;obtain ⟨_,_,u,_⟩:=hnew j Bj V;rw [t,u] at e;rw [N.inj i j Bi Bj a V e]
   ·obtain ⟨_,_,t,_⟩:=hnew i Bi a;rw [t,Q] at e;exact absurd e.symm (hcross W B0' i Bi M a X)
   ·obtain ⟨_,_,u,_⟩:=hnew j Bj V;rw [u,d] at e;exact absurd e (hcross b B0 j Bj h0 V z)
   ·rw [d,Q] at e;exact y.inj b W B0 B0' h0 M e
  ·intro b B n;rcases c b B n with ⟨i,Bi,a,rfl⟩|⟨B0,h0,d,I,K,U,h6,h7,z,_⟩
   ·obtain ⟨B1,F,t,u,T,J,e5,e6,e7⟩:=hnew i Bi a;rw [n] at F;cases F;rw [t];obtain ⟨⟨cur,e,vs,rest,k1,k2,k3,k4,k5,k6⟩,k7,k8⟩:=N.blk i Bi a;cases hp:Bi.pr with
    |true=>
     have hcells:=e6 hp;refine ⟨⟨cur,e,vs,rest,by rw [u];exact k1,k2,fun _=>by rw [hcells];exact k3 hp,by rw [hcells];exact aZ _ (k3 hp),by rw [u];exact k5,by rw [u];exact k6⟩,by rw [T,J];exact k7,by rw [J,hcells];exact k8⟩
    |false=>
     have hcells:=e7 hp;have A:=iI (ig.refl S') hρ _ k4;have R:B.cells.length=Bi.cells.length:=by rw [aW k4,hcells,aW A]
     refine ⟨⟨cur,e,vs,rest,by rw [u];exact k1,k2,(fun h=>by rw [e5,hp] at h;cases h),by rw [hcells];exact A,by rw [u];exact k5,by rw [u];exact k6⟩,by rw [T,J];exact k7,by rw [J,R];exact k8⟩
   ·rw [d];have l:∀ i Bc,L i=some Bc→(Y i).1 ≠ (m b).1:=by
     intro i Bc a e;obtain ⟨B2,D,f⟩:=hdom i Bc a;rw [f] at e;exact z i Bc a (y.inj b (ι i) B0 B2 h0 D e.symm)
    obtain ⟨⟨cur,e,vs,rest,k1,k2,k3,k4,k5,k6⟩,k7,k8⟩:=y.blk b B0 h0;refine ⟨⟨cur,e,vs,rest,by rw [U];exact k1.same (p.rest _ (y.lt h0) l),k2,fun hp=>by rw [I];rw [K] at hp;exact aV s _ (k3 hp),by rw [I];exact iw s hge _ k4,by rw [U];exact k5,by rw [U];exact k6⟩,h6,h7⟩
  ·intro b B n o v A;rcases c b B n with ⟨i,Bi,a,rfl⟩|⟨B0,h0,d,I,K,U,h6,h7,z,D⟩
   ·obtain ⟨B1,F,t,u,T,J,e5,e6,e7⟩:=hnew i Bi a;rw [n] at F;cases F;rw [t] at A;rw [T,J];exact N.own i Bi a o v A
   ·rw [d] at A;rcases p.sealN _ _ _ A with f|f|⟨i,Bi,a,f⟩
    ·exact D o v f
    ·have:=y.lt h0;omega
    ·obtain ⟨B2,C,E⟩:=hdom i Bi a;rw [E] at f;exact absurd (y.inj b (ι i) B0 B2 h0 C f.symm) (z i Bi a)
 ·refine ⟨hge,s,p.os,p.tape,p.output,p.size, ?_, ?_, ?_, ?_⟩
  ·intro k G l;refine p.rest k G fun i Bc a e=> ?_
   obtain ⟨B2,D,f⟩:=hdom i Bc a;exact l (ι i) B2 D (by rw [← f];exact e)
  ·intro b B n;rcases c b B n with ⟨i,Bi,a,rfl⟩|⟨B0,h0,d,_⟩
   ·obtain ⟨B1,F,t,_⟩:=hnew i Bi a;rw [t];rcases p.img i Bi a with d|⟨B2,d,z⟩
    ·exact .inl d
    ·obtain ⟨B3,I,K⟩:=hdom i B2 d;exact .inr ⟨B3,I,by rw [z,K]⟩
   ·exact .inr ⟨B0,h0,by rw [d]⟩
  ·intro k o v A;rcases p.sealN _ _ _ A with f|f|⟨i,Bi,a,f⟩
   ·rcases hSpN _ _ _ f with h|h
    ·exact .inl h
    ·exact .inr (.inr h)
   ·exact .inr (.inl f)
   ·obtain ⟨B2,C,E⟩:=hdom i Bi a;exact .inr (.inr ⟨ι i,B2,C,by rw [← E];exact f⟩)
  ·intro b B n es clk G;rcases c b B n with ⟨i,Bi,a,rfl⟩|⟨B0,h0,d,_,_,_,_,_,l,_⟩
   ·obtain ⟨B1,F,t,_⟩:=hnew i Bi a;rw [t] at G ⊢;exact p.mw i Bi a es clk G
   ·rw [d] at G ⊢;have O:=y.lt h0;have he:w'.heap[(m b).1]? =w.heap[(m b).1]? :=p.rest _ O fun i Bc a e=>by
     obtain ⟨B2,D,f⟩:=hdom i Bc a;exact l i Bc a (y.inj b (ι i) B0 B2 h0 D (by rw [← f];exact e.symm))
    rw [he] at G;exact .inl ⟨es,clk,G,fun q=>q⟩
structure Dz (F:AV→AV):Prop where
 own:∀ xs n e,F (.own xs n e)= .own xs n e
 tup:∀ l,F (.tup l)= .tup (l.map F)
 not:∀ x,(∀ xs n e,x ≠ .own xs n e)→(∀ xs n e,F x ≠ .own xs n e)
 notT:∀ x,(∀ l,x ≠ .tup l)→(∀ l,F x ≠ .tup l)
theorem bM (n:Nat) {x:AV} (h:∀ xs k e,x ≠ .own xs k e) (r:List AV):eF n (x::r)=(x::(eF n r).1,(eF n r).2):=by
 cases x<;>first|rfl|exact absurd rfl (h _ _ _)
theorem gW (n:Nat) {x:AV} (h:∀ xs k e,x ≠ .own xs k e) (a:∀ l,x ≠ .tup l):iR n x=(x,[]):=by
 cases x<;>first|rfl|exact absurd rfl (h _ _ _)|exact absurd rfl (a _)
theorem cZ {gh gf:bJ} {n:Nat} {x:AV} (h:∀ xs k e,x ≠ .own xs k e) {r:List AV} {v:Value} {vs:List Value}:gQ gh gf m S n (x::r) (v::vs)=(VR gh m S x v∧gQ gh gf m S n r vs):=by
 cases x<;>first|rfl|exact absurd rfl (h _ _ _)
theorem jD {gh gf:bJ} {n:Nat} {x:AV} (h:∀ xs k e,x ≠ .own xs k e) (a:∀ l,x ≠ .tup l) {v:Value}:ug gh gf m S n x v=VR gh m S x v:=by
 cases x<;>first|rfl|exact absurd rfl (h _ _ _)|exact absurd rfl (a _)
theorem jm (x:AV):(∃ xs k e,x= .own xs k e)∨(∀ xs k e,x ≠ .own xs k e):=by
 cases x<;>first|exact .inl ⟨_,_,_,rfl⟩|exact .inr (fun _ _ _ h=>by cases h)
theorem xB (x:AV):(∃ l,x= .tup l)∨(∀ l,x ≠ .tup l):=by
 cases x<;>first|exact .inl ⟨_,rfl⟩|exact .inr (fun _ h=>by cases h)
theorem oV {F:AV→AV} (c:Dz F):∀ (l:List AV) (a b:Nat),(eF a (l.map F)).2=(eF b l).2
 | [],a,b=>rfl
 | x::r,a,b=>by
  rcases jm x with ⟨d,k,e,rfl⟩|hx
  ·simp only [φ,c.own,eF];rw [oV c r (a+1) (b+1)]
  ·rw [φ,bM a (c.not x hx),bM b hx];exact oV c r a b
theorem yw {F:AV→AV} (c:Dz F) (x:AV) (a b:Nat):(iR a (F x)).2=(iR b x).2:=by
 rcases jm x with ⟨d,k,e,rfl⟩|hx
 ·rw [c.own];rfl
 ·rcases xB x with ⟨l,rfl⟩|ht
  ·rw [c.tup];simp only [iR];exact oV c l a b
  ·rw [gW a (c.not x hx) (c.notT x ht),gW b hx ht]
theorem qP {F:AV→AV} (a:Dz F) {gh gf gN:bJ} {m mN:aH} {S:az} {n nid:Nat} (c:∀ x v,VR gh m S x v→VR gN mN S (F x) v) (b:∀ i k v,VR gf m S (.ref (n+i) 0 0 k) v→VR gN mN S (.ref (nid+i) 0 0 k) v):
  ∀ (l:List AV) (vs:List Value) (j:Nat),gQ gh gf m S (n+j) l vs→aU gN mN S (eF (nid+j) (l.map F)).1 vs
 | [],[],j,_=>by simp [eF,aU]
 | x::r,v::vs,j,h=>by
  rcases jm x with ⟨d,k,e,rfl⟩|hxo
  ·simp only [gQ] at h;simp only [φ,a.own,eF,aU];exact ⟨b j k v h.1,by have:=qP a c b r vs (j+1);rw [← Xxm,← Xxm] at this;exact this h.2⟩
  ·rw [cZ hxo] at h;rw [φ,bM _ (a.not x hxo)];simp only [aU];exact ⟨c x v h.1,qP a c b r vs j h.2⟩
 | [],_::_,_,h=>by simp [gQ] at h
 |x::r,[],_,h=>by cases x<;>simp [gQ] at h
theorem BP {F:AV→AV} (a:Dz F) {gh gf gN:bJ} {m mN:aH} {S:az} {n nid:Nat} (c:∀ x v,VR gh m S x v→VR gN mN S (F x) v) (b:∀ i k v,VR gf m S (.ref (n+i) 0 0 k) v→VR gN mN S (.ref (nid+i) 0 0 k) v)
  {x:AV} {v:Value} (h:ug gh gf m S n x v):VR gN mN S (iR nid (F x)).1 v:=by
 rcases jm x with ⟨d,k,e,rfl⟩|hxo
 ·simp only [ug] at h;rw [a.own];exact b 0 k v h
 ·rcases xB x with ⟨l,rfl⟩|ht
  ·simp only [ug] at h;obtain ⟨vs,e,h⟩:=h;rw [a.tup];simp only [iR,VR];exact ⟨vs,e,qP a c b l vs 0 h⟩
  ·rw [jD hxo ht] at h;rw [gW _ (a.not x hxo) (a.notT x ht)];exact c x v h
theorem Hz:Dz id:=⟨fun _ _ _=>rfl,fun l=>by simp,fun _ h=>h,fun _ h=>h⟩
theorem Iw (ρ:Nat→Nat→Option (Nat × Nat)):∀ l,jV ρ l=l.map (ren ρ)
 | []=>rfl
 |x::r=>by simp [jV,Iw ρ r]
theorem Ea (ρ:Nat→Nat→Option (Nat × Nat)):Dz (ren ρ):=by
 refine ⟨fun _ _ _=>rfl,fun l=>by simp [ren,Iw], ?_, ?_⟩
 ·intro x h b n e a;cases x<;>simp only [ren] at a<;>first
   |(cases a;done)
   |(split at a<;>cases a;done)
   |exact h _ _ _ rfl
 ·intro x h l a;cases x<;>simp only [ren] at a<;>first
   |(cases a;done)
   |(split at a<;>cases a;done)
   |exact h _ rfl
theorem wY:∀ (bs:List aP) (n b:Nat),ah (BA n bs) b=if n≤b then bs[b - n]? else none
 | [],n,b=>by simp [BA,ah]
 | B::r,n,b=>by
  simp only [BA,ah];cases h:υ n b with
  |true=>
   have:=aA h;subst this;simp
  | false=>
   have c:n ≠ b:=by intro e;subst e;simp at h
   rw [wY r (n+1) b];by_cases hle:n≤b
   ·rw [if_pos hle,if_pos (show n+1≤b by omega)];obtain ⟨d,a⟩:∃ d,b - n=d+1:=⟨b - n - 1,by omega⟩
    rw [a,Xxh,show b - (n+1)=d by omega]
   ·rw [if_neg hle,if_neg (show ¬ n+1≤b by omega)]
theorem Eh {rd:bJ} {mk:aP→aP}:∀ (fp:List Nat) (b:Nat),ah (fp.filterMap fun b=>(rd b).map fun B=>(b,mk B)) b=if b ∈ fp then (rd b).map mk else none
 | [],b=>by simp [ah]
 | a::r,b=>by
  have f:=Eh (rd:=rd) (mk:=mk) r b;cases c:rd a with
  |none=>
   rw [Xz1 (by simp [c]),f];by_cases hab:b=a
   ·subst hab;simp [c]
   ·simp [hab]
  | some B=>
   rw [Xz2 (by simp [c];rfl)];simp only [ah];cases h:υ a b with
   |true=>have:=aA h;subst this;simp [c]
   |false=>
    have d:b ≠ a:=by intro e;subst e;simp at h
    simp only [f,Xqs,d,false_or]
end
end AM
namespace AM
open Go
def Yl (g:bJ) (m:aH) (S:az):gK→Ending→Prop
 | .ret v,e=> ∃ cv,e= .returned cv∧VR g m S v cv
 | .pan v,e=> ∃ cv,e= .panicked [{v:=cv,recovered:=false}]∧VR g m S v cv
def TS (ap:AP) (g:bJ) (m:aH) (S:az) (w:World) (out:gK) (ups:List (Nat × aP)) (e:Ending) (w':World):Prop:=
 ∃ m' S',bf ap (bH g ups) m' S' w'∧Fr g m S w (bH g ups) m' S' w'∧Yl (bH g ups) m' S' out e
theorem dL {h c:List aP} {b:Nat} (a:b<h.length):aF (h++c) b=aF h b:=by
 simp [aF,Xqc a]
theorem gV {h a:List aP} {b:Nat} (c:h.length≤b):aF (h++a) b=aF a (b - h.length):=by
 simp [aF,List.getElem?_append_right c]
def og (l:List aP):Prop:=∀ B ∈ l,B.pr=true∧B.fro=false∧B.ver=0
theorem oW:∀ (l:List AV) (n:Nat),og (eF n l).2
 | [],n=>by simp [eF,og]
 | x::r,n=>by
  rcases jm x with ⟨b,k,e,rfl⟩|hx
  ·simp only [eF];intro B a;rcases List.mem_cons.1 a with rfl|a
   ·exact ⟨rfl,rfl,rfl⟩
   ·exact oW r (n+1) B a
  ·rw [bM n hx];exact oW r n
theorem Iu (x:AV) (n:Nat):og (iR n x).2:=by
 rcases jm x with ⟨b,k,e,rfl⟩|hx
 ·intro B a;simp [iR] at a;subst a;exact ⟨rfl,rfl,rfl⟩
 ·rcases xB x with ⟨l,rfl⟩|ht
  ·simp only [iR];exact oW l n
  ·rw [gW n hx ht];simp [og]
theorem yt (o:gK) (n:Nat):og (iE n o):=by
 cases o with
 |ret v=>exact Iu v n
 |pan v=>simp [iE,og]
section
variable {P:Program} {ap:AP} {g:bJ} {m:aH} {S:az} {w:World}
def FW (nid:Nat) (F:AV→AV):gK→gK
 | .ret v=> .ret (iR nid (F v)).1
 | .pan v=> .pan (F v)
theorem xO (l:bf ap g m S w) {rd:bJ} (j:∀ b B,rd b=some B→g b=some B) {K:List Nat} (T:∀ b B,rd b=some B→b ∈ K) {nid:Nat} {args args':List AV} {cargs:List Value} {out:gK}
  (ha:fM (frz rd 6) args=some args') (hv:aU g m S args cargs) {C:List Value→(Ending→World→Prop)→Prop} (hmono:∀ cargs R R',C cargs R→(∀ e w',R e w'→R' e w')→C cargs R')
  (f:∀ m1 S1,ig S S1→bf ap (aF []) m1 S1 w→aU (aF []) m1 S1 args' cargs→C cargs fun e w'=> ∃ m' S',yG ap [] m1 S1 w out [] m' S' w' e) (hfr:∀ i,i<(iE 0 out).length→g (nid+i)=none):
  C cargs fun e w'=>TS ap g m S w (FW nid id out) (BA nid (iE 0 out)++K.filterMap fun b=>(rd b).map fun B=>(b,{B with fro:=true,fz:=B.cells.length})) e w':=by
 have N:bi (bU S m rd w) args' cargs:=qm (fun x v y a d=>iZ l j 6 x v y a d) ha hv;have u:=jJ S m rd w
 let m0:aH:=fun _=>(0,0)
 have M:bf ap (aF []) m0 (bU S m rd w) w:=by
  refine ⟨fun b b' B B' h=>by simp [aF] at h,fun b B h=>by simp [aF] at h,fun k o v h=>jX l h,fun b B h=>by simp [aF] at h, ?_⟩;intro k xs hk;obtain ⟨vs,a,d⟩:=l.glob k xs hk;exact ⟨vs,aV u _ a,d.mono u⟩
 refine hmono _ _ _ (f m0 (bU S m rd w) u M (aZ _ N)) ?_
 rintro e w' ⟨m',S',hF⟩
 obtain ⟨A,p,r⟩:=hF;simp only [θ,Xqh] at A p r;generalize J:iE 0 out=bs at A p hfr;have G:og bs:=J ▸ yt out 0
 let gN:bJ:=bH g (BA nid bs++K.filterMap fun b=>(rd b).map fun B=>(b,{B with fro:=true,fz:=B.cells.length}))
 let mN:aH:=fun b=>if nid≤b∧b - nid<bs.length then m' (b - nid) else m b
 have s:∀ b,gN b=if nid≤b∧b - nid<bs.length then bs[b - nid]? else match rd b with|some B=>some {B with fro:=true,fz:=B.cells.length}|none=>g b:=by
  intro b;show bH g _ b=_;unfold bH;have Y:∀ mk:aP→aP,(if b ∈ K then (rd b).map mk else none)=(rd b).map mk:=by
   intro mk;split
   ·rfl
   ·rename_i c;cases q:rd b with
    |none=>rfl
    |some B=>exact absurd (T b B q) c
  rw [eY,wY,Eh,Y];by_cases a:nid≤b
  ·by_cases d:b - nid<bs.length
   ·have f:nid≤b∧b - nid<bs.length:=⟨a,d⟩
    rw [if_pos a,if_pos f,ν d]
   ·have f:¬ (nid≤b∧b - nid<bs.length):=fun h=>d h.2
    rw [if_pos a,if_neg f,Xxo (Xvp d)];cases rd b<;>rfl
  ·have f:¬ (nid≤b∧b - nid<bs.length):=fun h=>a h.1
   rw [if_neg a,if_neg f];cases rd b<;>rfl
 have hnidg:∀ b B,g b=some B→¬ (nid≤b∧b - nid<bs.length):=by
  rintro b B c ⟨a,d⟩
  have:=hfr (b - nid) d;rw [show nid+(b - nid)=b by omega,c] at this;cases this
 have W:Ge g m gN mN:=by
  intro b B c;have hn:=hnidg b B c;have hm:mN b=m b:=if_neg hn;rw [s,if_neg hn];cases q:rd b with
  |none=>exact ⟨B,c,rfl,.inl ⟨rfl,hm⟩⟩
  |some B1=>
   have:=j b B1 q;rw [c] at this;cases this;exact ⟨_,rfl,rfl,.inl ⟨rfl,hm⟩⟩
 have z:∀ i B,bs[i]? =some B→gN (nid+i)=some B∧mN (nid+i)=m' i:=by
  intro i B F;have hl:=(List.getElem?_eq_some_iff.1 F).1;have f:nid≤nid+i∧nid+i - nid<bs.length:=by omega
  refine ⟨by rw [s,if_pos f,show nid+i - nid=i by omega];exact F, ?_⟩;show (if _ then _ else _)=_;rw [if_pos f,show nid+i - nid=i by omega]
 obtain ⟨U,Q⟩:=Wu (g:=g) (m:=m) (S:=S) (w:=w) l A p (fun i=>nid+i) (fun i Bc h=>by simp [aF] at h) u
  (fun k o v h=>(dW h).imp id fun ⟨_,b,B,a,d,_⟩=> ⟨b,B,j b B a,d⟩) (gN:=gN) (mN:=mN) (fun i v=>some (nid+i,v))
  (by
   intro b ver b' Z h B hB D;simp only [Option.some.injEq,Prod.mk.injEq] at h;obtain ⟨rfl,rfl⟩:=h;obtain ⟨a,d⟩:=z b B hB;exact ⟨B,a,D,fun e=> ⟨e,d,rfl⟩⟩)
  (by
   intro i Bc F;obtain ⟨a,d⟩:=z i Bc F;exact ⟨Bc,a,d,rfl,rfl,rfl,rfl,fun _=>rfl,fun hp=>by rw [(G Bc (χ F)).1] at hp;cases hp⟩)
  (by
   intro b B c;by_cases f:nid≤b∧b - nid<bs.length
   ·rw [s,if_pos f] at c;exact .inl ⟨b - nid,B,c,by omega⟩
   ·have hm:mN b=m b:=if_neg f;rw [s,if_neg f] at c;right;cases q:rd b with
    | none=>
     rw [q] at c;have c:g b=some B:=c;refine ⟨B,c,hm,rfl,rfl,rfl,(l.blk b B c).fz0,(l.blk b B c).fzle,(fun i Bc h=>by simp [aF] at h), ?_⟩;intro o v O;rcases dW O with h|⟨_,X,B1,a,d,_⟩
     ·exact l.own b B c o v h
     ·have:=l.inj X b B1 B (j _ _ a) c d;subst this;rw [a] at q;cases q
    | some B1=>
     rw [q] at c;have c:some {B1 with fro:=true,fz:=B1.cells.length}=some B:=c;cases c;have t:=j b B1 q;refine ⟨B1,t,hm,rfl,rfl,rfl,(fun h=>by cases h),ζ _,(fun i Bc h=>by simp [aF] at h), ?_⟩;intro o v O;refine ⟨rfl, ?_⟩;rcases dW O with h|⟨_,X,B2,a,d,V⟩
     ·exact Xqf (l.own b B1 t o v h).2 (l.blk b B1 t).fzle
     ·have:=l.inj X b B2 B1 (j _ _ a) t d;subst this;rw [a] at q;cases q;exact V)
  W
 refine ⟨mN,S',U,Q, ?_⟩;show Yl gN mN S' (FW nid id out) e;cases out with
 |ret v=>
  obtain ⟨cv,L,a⟩:=r;refine ⟨cv,L, ?_⟩;have I:(iR 0 v).2=bs:=J;simp only [Xqh,θ,I] at a;refine BP (n:=0) Hz (fun x v E=>dQ x (kP x E)) ?_ a;intro i k v E;rw [Θ] at E;simp only [VR] at E ⊢;obtain ⟨B,d,V,h4,h5⟩:=E;obtain ⟨h6,h7⟩:=z i B d;exact ⟨B,h6,V,h4,by rw [h7];exact h5⟩
 |pan v=>
  obtain ⟨cv,L,a⟩:=r;exact ⟨cv,L,dQ _ (kP _ a)⟩
end
end AM
namespace AM
open Go
theorem Ih {b:Nat} {r:List Nat} (h:oP (b::r)=true):b ∉ r∧oP r=true:=by
 simp only [oP,δ,Xqi] at h;refine ⟨fun a=> ?_,h.2⟩;rw [fO.2 a] at h;cases h.1
theorem nP:∀ {l:List Nat} {b p:Nat},mM l b=some p→l[p]? =some b
 | [],b,p,h=>by simp [mM] at h
 | c::r,b,p,h=>by
  simp only [mM] at h;split at h
  ·rename_i d;cases h;rw [aA d];rfl
  ·simp only [Φ] at h;obtain ⟨q,a,rfl⟩:=h;simpa using nP a
theorem lY:∀ {l:List Nat} {b p:Nat},oP l=true→l[p]? =some b→mM l b=some p
 | [],b,p,_,h=>by simp at h
 |c::r,b,0,hn,h=>by simp at h;subst h;simp [mM]
 | c::r,b,p+1,hn,h=>by
  obtain ⟨e,d⟩:=Ih hn;have h:r[p]? =some b:=by simpa using h
  have a:υ c b=false:=by
   cases f:υ c b with
   |false=>rfl
   |true=>exact absurd (aA f ▸ χ h) e
  simp [mM,a,lY d h]
theorem Ib {mk:Nat→aP→aP}:∀ (fp:List Nat) (h':List aP) (b:Nat),ah ((Jc fp h').map fun (b,B)=>(b,mk b B)) b=(mM fp b).bind fun p=>(h'[p]?).map (mk b)
 | [],h',b=>by cases h'<;>simp [Jc,ah,mM]
 |a::r,[],b=>by
  simp only [Jc,List.map_nil,ah,mM];cases υ a b with
  |true=>rfl
  |false=>cases mM r b<;>rfl
 | a::r,B::q,b=>by
  simp only [Jc,φ,ah,mM];cases h:υ a b with
  |true=>have:=aA h;subst this;rfl
  |false=>
   simp only [Ib r q b];cases mM r b<;>simp
section
variable {P:Program} {ap:AP} {g:bJ} {m:aH} {S:az} {w:World}
def Gu (ρ:Nat→Nat→Option (Nat × Nat)) (B:aP):aP:={B with cells:=(match B.pr with|true=>B.cells|false=>jV ρ B.cells),ver:=0}
theorem ar1 {a b n i:Nat} (h:b≤a):n+(a+i - b)=n+(a - b)+i:=by omega
theorem ar2 {a b i:Nat} (h:b≤a):b+(a+i - b)=a+i:=by omega
theorem Ua {ρ:Nat→Nat→Option (Nat × Nat)} {l:List aP} (h:og l):l.map (yI ρ 0)=l:=by
 induction l with
 |nil=>rfl
 |cons B r ih=>
  rw [φ,ih fun B d=>h B (by simp [d])];obtain ⟨a,_,b⟩:=h B (by simp);obtain ⟨c,v,f,z,e,p⟩:=B;simp only at a b;subst a b;rfl
theorem xP (L:bf ap g m S w) {rd:bJ} (hrd:∀ b B,rd b=some B→g b=some B) {a:List Nat} {M:List aP} (hbl:fM rd a=some M) (I:oP a=true) {nid:Nat} {args:List AV} {cargs:List Value} {out:gK}
  {vers:Nat→Nat} (hvers:∀ b B,rd b=some B→vers b=B.ver) {ρ ρ':Nat→Nat→Option (Nat × Nat)} (hρe:∀ b v,ρ b v=match υ v (vers b) with|true=>(mM a b).map fun p=>(p,0)|false=>none)
  {h':List aP} (hρe':ρ'=KD nid a vers h'.length)
  (hv:aU g m S args cargs) {C:List Value→(Ending→World→Prop)→Prop} (hmono:∀ cargs R R',C cargs R→(∀ e w',R e w'→R' e w')→C cargs R')
  (s:∀ m1 S1,ig S S1→bf ap (aF (M.map (Gu ρ))) m1 S1 w→aU (aF (M.map (Gu ρ))) m1 S1 (jV ρ args) cargs→C cargs fun e w'=> ∃ m' S',yG ap (M.map (Gu ρ)) m1 S1 w out h' m' S' w' e) (hl:a.length≤h'.length) (hfr:∀ i,i<(h'.length - a.length)+(iE h'.length out).length→g (nid+i)=none):
  C cargs fun e w'=>TS ap g m S w (FW (nid+(h'.length - a.length)) (ren ρ') out) (BA nid ((h'.drop a.length).map (yI ρ' 0)++iE h'.length out)++(Jc a h').map fun (b,B)=>(b,yI ρ' (vers b) B)) e w':=by
 have t:∀ p b,a[p]? =some b→∃ B,rd b=some B∧g b=some B∧aF (M.map (Gu ρ)) p=some (Gu ρ B):=by
  intro p b hp;obtain ⟨B,c,d⟩:=(d_ hbl).2 p b hp;exact ⟨B,d,hrd b B d,by simp [aF,c]⟩
 have u:∀ p Bc,aF (M.map (Gu ρ)) p=some Bc→∃ b B,a[p]? =some b∧rd b=some B∧g b=some B∧Bc=Gu ρ B:=by
  intro p Bc hp;have z:p<a.length:=by
   have:=(List.getElem?_eq_some_iff.1 hp).1;rw [List.length_map,(d_ hbl).1] at this;exact this
  obtain ⟨B,c,d,f⟩:=t p _ (ν z);rw [f] at hp;cases hp;exact ⟨_,B,ν z,c,d,rfl⟩
 let mc:aH:=fun p=>m (a.getD p 0)
 have l:∀ p b,a[p]? =some b→mc p=m b:=by
  intro p b hp;show m (a.getD p 0)=_;rw [Xqj,hp];rfl
 have N:nD g m (aF (M.map (Gu ρ))) mc ρ:=by
  intro b ver W D h B K J;rw [hρe] at h;split at h
  ·rename_i hve;simp only [Φ,Prod.mk.injEq] at h;obtain ⟨p,hp,rfl,rfl⟩:=h;have hp:=nP hp;obtain ⟨B1,c,d,f⟩:=t p b hp;rw [d] at K;cases K;exact ⟨_,f,Xqr _,fun _=> ⟨by rw [aA hve,hvers b _ c],l p b hp,rfl⟩⟩
  ·cases h
 have hSc:bf ap (aF (M.map (Gu ρ))) mc S w:=by
  refine ⟨?_, ?_,L.sealed, ?_,L.glob⟩
  ·intro p q Bp Bq hp hq e;obtain ⟨b,B,c,d,f,_⟩:=u p Bp hp;obtain ⟨W,B',h1',h2',h3',_⟩:=u q Bq hq;rw [l p b c,l q W h1'] at e;have:=L.inj b W B B' f h3' e;subst this;have X:=lY I c;rw [lY I h1'] at X;cases X;rfl
  ·intro p Bp hp;obtain ⟨b,B,c,d,f,rfl⟩:=u p Bp hp;rw [l p b c];obtain ⟨⟨cur,e,vs,rest,k1,k2,k3,k4,k5,k6⟩,k7,k8⟩:=L.blk b B f;cases hp:B.pr with
   |true=>exact ⟨⟨cur,e,vs,rest,k1,k2,fun _=>by simpa [Gu,hp] using k3 hp,by simpa [Gu,hp] using aZ _ (k3 hp),k5,k6⟩,k7,by simpa [Gu,hp] using k8⟩
   | false=>
    have hv:=iI (ig.refl S) N _ k4;exact ⟨⟨cur,e,vs,rest,k1,k2,fun h=>by simp [Gu,hp] at h,by simpa [Gu,hp] using hv,k5,k6⟩,k7,by
     have:(Gu ρ B).cells.length=B.cells.length:=by simp only [Gu,hp];rw [aW k4,aW hv]
     rw [this];exact k8⟩
  ·intro p Bp hp o v ho;obtain ⟨b,B,c,d,f,rfl⟩:=u p Bp hp;rw [l p b c] at ho;exact L.own b B f o v ho
 refine hmono _ _ _ (s mc S (ig.refl S) hSc (iI (ig.refl S) N _ hv)) ?_
 rintro e w' ⟨m',S',hF⟩
 obtain ⟨hsr,F,Q⟩:=hF;generalize hbs:iE h'.length out=bs0 at hsr F hfr;have hown:og bs0:=hbs ▸ yt out h'.length;obtain ⟨bs,E⟩:∃ bs,bs=h'.drop a.length++bs0:=⟨_,rfl⟩
 have hbsl:bs.length=(h'.length - a.length)+bs0.length:=by rw [E,List.length_append,List.length_drop]
 rw [← hbsl] at hfr
 let ups:=(Jc a h').map fun (b,B)=>(b,yI ρ' (vers b) B)
 rw [show (h'.drop a.length).map (yI ρ' 0)++bs0=bs.map (yI ρ' 0) by rw [E,List.map_append,Ua hown]]
 let gN:bJ:=bH g (BA nid (bs.map (yI ρ' 0))++ups)
 let mN:aH:=fun b=>if nid≤b∧b - nid<bs.length then m' (a.length+(b - nid)) else match mM a b with|some p=>m' p|none=>m b
 have G:∀ b,gN b=if nid≤b∧b - nid<bs.length then (bs[b - nid]?).map (yI ρ' 0) else match (mM a b).bind fun p=>(h'[p]?).map (yI ρ' (vers b)) with|some B=>some B|none=>g b:=by
  intro b;show bH g _ b=_;unfold bH;rw [eY,wY,Ib (mk:=fun b B=>yI ρ' (vers b) B)];by_cases c:nid≤b
  ·by_cases d:b - nid<bs.length
   ·have s:nid≤b∧b - nid<bs.length:=⟨c,d⟩
    rw [if_pos c,if_pos s,Ξ,ν d];rfl
   ·have s:¬ (nid≤b∧b - nid<bs.length):=fun h=>d h.2
    rw [if_pos c,if_neg s,Ξ,Xxo (Xvp d)];rfl
  ·have s:¬ (nid≤b∧b - nid<bs.length):=fun h=>c h.1
   rw [if_neg c,if_neg s];rfl
 have hnidg:∀ b B,g b=some B→¬ (nid≤b∧b - nid<bs.length):=by
  rintro b B j ⟨c,d⟩
  have:=hfr (b - nid) d;rw [show nid+(b - nid)=b by omega,j] at this;cases this
 have hh':∀ p,p<a.length→∃ B,h'[p]? =some B:=fun p hp=> ⟨_,ν (by omega)⟩
 have V:∀ p b,a[p]? =some b→∀ Bc,h'[p]? =some Bc→gN b=some (yI ρ' (vers b) Bc)∧mN b=m' p:=by
  intro p b hp Bc K;obtain ⟨B,c,d,f⟩:=t p b hp;have Z:=hnidg b B d;refine ⟨by rw [G,if_neg Z,lY I hp];simp [K], ?_⟩;show (if _ then _ else _)=_;rw [if_neg Z,lY I hp]
 have T:∀ i B,bs[i]? =some B→gN (nid+i)=some (yI ρ' 0 B)∧mN (nid+i)=m' (a.length+i):=by
  intro i B A;have hl:=(List.getElem?_eq_some_iff.1 A).1;have s:nid≤nid+i∧nid+i - nid<bs.length:=by omega
  refine ⟨by rw [G,if_pos s,show nid+i - nid=i by omega,A];rfl, ?_⟩;show (if _ then _ else _)=_;rw [if_pos s,show nid+i - nid=i by omega]
 have U:∀ p,a.length≤p→aF (h'++bs0) p=bs[p - a.length]? :=by
  intro p hp;have he:h'++bs0=h'.take a.length++bs:=by rw [E,← Δ,List.take_append_drop]
  have z:(h'.take a.length).length=a.length:=by rw [List.length_take];omega
  rw [he,gV (by omega),z];rfl
 have r:∀ p Bc,aF (h'++bs0) p=some Bc→(p<a.length∧h'[p]? =some Bc)∨(a.length≤p∧bs[p - a.length]? =some Bc):=by
  intro p Bc h;by_cases hp:p<a.length
  ·rw [dL (by omega)] at h;exact .inl ⟨hp,h⟩
  ·rw [U p (by omega)] at h;exact .inr ⟨by omega,h⟩
 have hren':nD (aF (h'++bs0)) m' gN mN ρ':=by
  intro p ver W D h Bc K J;rw [hρe'] at h;unfold KD at h;split at h
  ·rename_i b hp;cases h;rcases r p Bc K with ⟨c,d⟩|⟨c,_⟩
   ·obtain ⟨f,y⟩:=V p _ hp Bc d;exact ⟨_,f,by simp only [yI];omega,fun e=> ⟨by simp only [yI] at e;omega,y,rfl⟩⟩
   ·have:=(List.getElem?_eq_some_iff.1 hp).1;omega
  ·rename_i hp;split at h
   ·cases h;have hge:=List.getElem?_eq_none_iff.1 hp;rcases r p Bc K with ⟨c,_⟩|⟨c,d⟩
    ·omega
    ·obtain ⟨f,y⟩:=T _ Bc d;exact ⟨_,f,by simp only [yI];omega,fun e=> ⟨by simp only [yI] at e;omega,by rw [y,show a.length+(p - a.length)=p by omega],rfl⟩⟩
   ·cases h
 have hge:Ge g m gN mN:=by
  intro b B j;have Z:=hnidg b B j;cases A:mM a b with
  | none=>
   have hm:mN b=m b:=by
    show (if _ then _ else _)=_;rw [if_neg Z,A]
   refine ⟨B, ?_,rfl,.inl ⟨rfl,hm⟩⟩;rw [G,if_neg Z,A];exact j
  | some p=>
   have hp:=nP A;obtain ⟨B1,c,d,f⟩:=t p b hp;rw [d] at j;cases j;obtain ⟨Bc,y,h5,O⟩:=F.ge p _ f;rcases r p Bc y with ⟨_,Y⟩|⟨Y,_⟩
   ·obtain ⟨h8,h9⟩:=V p b hp Bc Y;refine ⟨_,h8,h5, ?_⟩;rcases O with ⟨O,h6'⟩|O
    ·left;refine ⟨?_,by rw [h9,h6',l p b hp]⟩;simp only [yI,Gu] at O ⊢;rw [hvers b _ c];omega
    ·right;simp only [yI,Gu] at O ⊢;rw [hvers b _ c];omega
   ·have:=(List.getElem?_eq_some_iff.1 hp).1;omega
 let ι:Nat→Nat:=fun p=>if p<a.length then a.getD p 0 else nid+(p - a.length)
 have hι:∀ p b,a[p]? =some b→ι p=b:=by
  intro p b hp;show (if _ then _ else _)=_;rw [if_pos (List.getElem?_eq_some_iff.1 hp).1,Xqj,hp];rfl
 have hι':∀ i,ι (a.length+i)=nid+i:=by
  intro i;show (if _ then _ else _)=_;rw [if_neg (by omega)];congr 1;omega
 obtain ⟨hsN,hfN⟩:=Wu (g:=g) (m:=m) (S:=S) (w:=w) L hsr F ι
  (by
   intro p Bc hp;obtain ⟨b,B,c,d,f,rfl⟩:=u p Bc hp;rw [hι p b c];exact ⟨B,f,l p b c⟩) (ig.refl S) (fun k o v h=> .inl h) (gN:=gN) (mN:=mN) ρ' hren'
  (by
   intro p Bc hp;rcases r p Bc hp with ⟨c,d⟩|⟨c,d⟩
   ·have hp:=ν c;obtain ⟨f,y⟩:=V p _ hp Bc d;rw [hι p _ hp];exact ⟨_,f,y,rfl,rfl,rfl,rfl,fun h=>by simp [yI,h],fun h=>by simp [yI,h]⟩
   ·obtain ⟨i,rfl⟩:∃ i,p=a.length+i:=⟨p - a.length,by omega⟩
    rw [show a.length+i - a.length=i by omega] at d;obtain ⟨f,y⟩:=T i Bc d;rw [hι' i];exact ⟨_,f,y,rfl,rfl,rfl,rfl,fun h=>by simp [yI,h],fun h=>by simp [yI,h]⟩)
  (by
   intro b B j;by_cases s:nid≤b∧b - nid<bs.length
   ·rw [G,if_pos s,Φ] at j;obtain ⟨Bc,j,_⟩:=j;refine .inl ⟨a.length+(b - nid),Bc, ?_,by rw [hι'];omega⟩;rw [U _ (by omega),show a.length+(b - nid) - a.length=b - nid by omega];exact j
   ·rw [G,if_neg s] at j;cases A:mM a b with
    |some p=>
     have hp:=nP A;have z:=(List.getElem?_eq_some_iff.1 hp).1;obtain ⟨Bc,y⟩:=hh' p z;exact .inl ⟨p,Bc,by rw [dL (by omega)];exact y,(hι p b hp).symm⟩
    | none=>
     have hm:mN b=m b:=by
      show (if _ then _ else _)=_;rw [if_neg s,A]
     rw [A] at j;have j:g b=some B:=j;refine .inr ⟨B,j,hm,rfl,rfl,rfl,(L.blk b B j).fz0,(L.blk b B j).fzle, ?_,fun o v ho=>L.own b B j o v ho⟩;intro p Bc hp e;obtain ⟨b1,B1,c,_⟩:=u p Bc hp;rw [hι p b1 c] at e;subst e;rw [lY I c] at A;cases A)
  hge
 refine ⟨mN,S',hsN,hfN, ?_⟩;show Yl gN mN S' (FW (nid+(h'.length - a.length)) (ren ρ') out) e;have hrenh:nD (aF h') m' gN mN ρ':=by
  intro p ver W D h Bc K J;refine hren' p ver W D h Bc ?_ J;rw [dL (List.getElem?_eq_some_iff.1 K).1];exact K
 cases out with
 |ret v=>
  obtain ⟨cv,X,c⟩:=Q;refine ⟨cv,X, ?_⟩;have hbs':(iR h'.length v).2=bs0:=hbs;rw [hbs'] at c;refine BP (n:=h'.length) (Ea ρ') (fun x v hx=>ui (ig.refl S') hrenh x hx) ?_ c;intro i k v hx;simp only [VR] at hx ⊢;obtain ⟨B,d,f,y,h5⟩:=hx;rw [U _ (Xqg hl (Nat.le_add_right _ _))] at d;obtain ⟨O,Y⟩:=T _ B d;rw [ar1 hl] at O Y;rw [ar2 hl] at Y;exact ⟨_,O,Xqr _,y,fun e=>by rw [Y];exact h5 (by simpa [yI] using e)⟩
 |pan v=>
  obtain ⟨cv,X,c⟩:=Q;exact ⟨cv,X,ui (ig.refl S') hrenh _ c⟩
end
end AM
namespace AM
open Go
section
variable {P:Program} {ap:AP} {H:bG}
theorem u_ {o:bJ} {nid f:Nat} {args:List AV} {md:AV} {c c':Cx} {r:Ph} (h:qy ap H o nid md f args c= .ok r c'):
  ∃ args0 h0 out0 h0',H c md f args0 h0= .ok (out0,h0',r.md) c'∧((∃ v,out0= .ret v)↔∃ v,r.out= .ret v)∧
  ∀ g m S w cargs (C:List Value→(Ending→World→Prop)→Prop),(∀ cargs R R',C cargs R→(∀ e w',R e w'→R' e w')→C cargs R')→bf ap g m S w→(∀ b ∈ r.fp,∀ B,o b=some B→g b=some B)→(∀ i,i<4→g (nid+i)=none)→aU g m S args cargs→
   (∀ m1 S1,ig S S1→bf ap (aF h0) m1 S1 w→aU (aF h0) m1 S1 args0 cargs→C cargs fun e w'=> ∃ m' S',yG ap h0 m1 S1 w out0 h0' m' S' w' e)→
   C cargs fun e w'=>TS ap g m S w r.out r.ups e w':=by
 unfold qy at h;simp only at h;generalize D:mG o 6 (fP (bD args))=fp at h
 let rd:bJ:=fun b=>match kJ fp b with|true=>o b|false=>none
 have a:∀ b B,rd b=some B→b ∈ fp∧o b=some B:=by
  intro b B d;dsimp only [rd] at d;split at d
  ·rename_i hm;exact ⟨fO.1 hm,d⟩
  ·cases d
 split at h
 ·split at h
  ·cases h
  ·rename_i args' z;obtain ⟨⟨out,u,md⟩,E,x,h⟩:=R.bind_ok h;dsimp only at h;split at h
   ·cases h
   ·split at h
    ·rename_i v;split at h
     ·rename_i n;cases h;refine ⟨_,_,_,_,x,⟨fun _=> ⟨_,rfl⟩,fun _=> ⟨_,rfl⟩⟩, ?_⟩;intro g m S w cargs C hmono t k l s q;have j:iE 0 (gK.ret v)=(iR nid v).2:=yw Hz v 0 nid;have:=xO t (rd:=rd) (fun b B d=>k b (a b B d).1 B (a b B d).2) (fun b B d=>(a b B d).1) (nid:=nid) z s hmono q (fun i p=>l i (by rw [j] at p;have:=dU n;omega));rw [j] at this;exact this
     ·cases h
    ·rename_i v;cases h;refine ⟨_,_,_,_,x,⟨(fun ⟨_,h⟩=>by cases h),(fun ⟨_,h⟩=>by cases h)⟩, ?_⟩;intro g m S w cargs C hmono t k l s q;exact xO t (rd:=rd) (fun b B d=>k b (a b B d).1 B (a b B d).2) (fun b B d=>(a b B d).1) (nid:=nid) z s hmono q (fun i p=>by simp [iE] at p)
 ·split at h
  ·cases h
  ·rename_i F y;obtain ⟨⟨out,u,md⟩,E,x,h⟩:=R.bind_ok h;dsimp only at h;split at h
   ·cases h
   ·rename_i hcond;simp only [δ] at hcond;have A:=dU hcond.1
    let vers:Nat→Nat:=fun b=>match rd b with|some B=>B.ver|none=>0
    have hvers':∀ b B,rd b=some B→vers b=B.ver:=by
     intro b B d;simp only [vers,d]
    let ρ':Nat→Nat→Option (Nat × Nat):=KD nid fp vers u.length
    split at h
    ·rename_i v;split at h
     ·rename_i n;cases h;refine ⟨_,_,_,_,x,⟨fun _=> ⟨_,rfl⟩,fun _=> ⟨_,rfl⟩⟩, ?_⟩;intro g m S w cargs C hmono t k l s q;have j:iE u.length (gK.ret v)=(iR (nid+(u.length - fp.length)) (ren ρ' v)).2:=(yw (Ea ρ') v (nid+(u.length - fp.length)) u.length).symm;have:=xP t (rd:=rd) (fun b B d=>k b (a b B d).1 B (a b B d).2) y hcond.2 (nid:=nid) hvers' (ρ':=ρ') (fun b v=>rfl) rfl s hmono q A (fun i p=>l i (by rw [j] at p;exact Xqf p (dU n)));rw [j] at this;exact this
     ·cases h
    ·rename_i v;split at h
     ·rename_i n;cases h;refine ⟨_,_,_,_,x,⟨(fun ⟨_,h⟩=>by cases h),(fun ⟨_,h⟩=>by cases h)⟩, ?_⟩;intro g m S w cargs C hmono t k l s q;exact xP t (rd:=rd) (fun b B d=>k b (a b B d).1 B (a b B d).2) y hcond.2 (nid:=nid) hvers' (ρ':=ρ') (fun b v=>rfl) rfl s hmono q A (fun i p=>l i (by simp only [iE,Xqh,Xqo] at p;exact Xqf p (dU n)))
     ·cases h
theorem zM (z:gz P ap H) {a:bJ} {nid f:Nat} {args:List AV} {c c':Cx} {r:Ph} (h:qy ap H a nid .dead f args c= .ok r c') (s:c'.Ok):
  c.Ok∧ql P f∧∀ g m S w cargs,bf ap g m S w→(∀ b ∈ r.fp,∀ B,a b=some B→g b=some B)→(∀ i,i<4→g (nid+i)=none)→aU g m S args cargs→
   Calls P f cargs.toArray w fun e w'=>TS ap g m S w r.out r.ups e w':=by
 obtain ⟨args0,h0,o,q,t,_,u⟩:=u_ h;obtain ⟨n,p⟩:=z _ _ _ _ _ _ _ _ t s;refine ⟨n,p.ent,fun g m S w cargs y l k v=> ?_⟩;exact u g m S w cargs (fun cargs R=>Calls P f cargs.toArray w R) (fun _ _ _ d j=>d.mono j) y l k v fun x S1 _ d j=>p.calls x S1 w cargs d j
end
end AM
namespace AM
open Go
def pR (dec:List (Nat × Bool)) (env:dK):Prop:=∀ t b,ah dec t=some b→env.get t= .bool b
def dS (g:bJ) (m:aH) (S:az):List (Nat × List AV)→List Deferred→Prop
 | [],[]=>True
 |d::r,cd::cr=>(∃ cap,cd.target= .fn (.func d.1) cap∧aU g m S d.2 (cd.args++cap).toList)∧dS g m S r cr
 |_,_=>False
theorem qY {g g':bJ} {m e:aH} {S S':az} (c:ig S S') (b:Ge g m g' e):∀ {l:List (Nat × List AV)} {ds:List Deferred},dS g m S l ds→dS g' e S' l ds
 | [],[],_=>by simp only [dS]
 |d::r,cd::cr,h=>by
  simp only [dS] at h ⊢;obtain ⟨⟨a,f,i⟩,j⟩:=h;exact ⟨⟨a,f,iw c b _ i⟩,qY c b j⟩
 | [],_::_,h=>by simp [dS] at h
 |_::_,[],h=>by simp [dS] at h
theorem xF {g:bJ} {m:aH} {S:az}:∀ {l l':List (Nat × List AV)} {ds ds':List Deferred},dS g m S l ds→dS g m S l' ds'→dS g m S (l++l') (ds++ds')
 | [],_,[],_,_,h'=>by simpa using h'
 |d::r,_,cd::cr,_,h,h'=>by
  simp only [dS] at h;simp only [List.cons_append,dS];exact ⟨h.1,xF h.2 h'⟩
 | [],_,_::_,_,h,_=>by simp [dS] at h
 |_::_,_,[],_,h,_=>by simp [dS] at h
def VJ (P:Program) (ops:Array Oper) (Q:Exit→Act→World→Prop) (o:Oper) (K:Act→World→Prop) (a:Act) (w:World):Prop:=
 if Region.wanted o (yielded ops a.tmps) then o.wp P a w K Q∨(o.asks P a w∧LetsOut Q) else K (a.put o.dst undef) w
def VK (ap:AP) (o:Oper) (g:bJ) (m:aH) (S:az) (w:World) (a:Act) (v:AV) (ups:List (Nat × aP)) (df:List (Nat × List AV)) (Q:Exit→Act→World→Prop) (K:Act→World→Prop):Option AV→Prop
 |none=> ∀ cv m' S' w' ds,bf ap (bH g ups) m' S' w'→Fr g m S w (bH g ups) m' S' w'→VR (bH g ups) m' S' v cv→dS (bH g ups) m' S' df ds→K ({a with defers:=ds++a.defers}.put o.dst cv) w'
 |some pv=> ∀ cv m' S' w',bf ap (bH g ups) m' S' w'→Fr g m S w (bH g ups) m' S' w'→VR (bH g ups) m' S' pv cv→Q (.panic [{v:=cv,recovered:=false}]) a w'
def EN (P:Program) (ap:AP) (ops:Array Oper) (o:Oper) (nid:Nat) (env:dK) (hp:Hp) (rt rb:List Nat) (v:AV) (ups:List (Nat × aP)) (df:List (Nat × List AV)) (p:Option AV):Prop:=
 ∀ g m S w (a:Act),bf ap g m S w→(∀ t ∈ rt,VR g m S (env.get t) (a.tmps.getD t undef))→(∀ b ∈ rb,∀ B,ah hp b=some B→g b=some B)→(∀ i,i<4→g (nid+i)=none)→
  ∀ (Q:Exit→Act→World→Prop) (K:Act→World→Prop),VK ap o g m S w a v ups df Q K p→VJ P ops Q o K a w
structure VQ (P:Program) (ap:AP) (ops:Array Oper) (o:Oper) (nid:Nat) (s s':RS) (p:Option AV) (v:AV) (rt rb:List Nat) (ups:List (Nat × aP)) (df:List (Nat × List AV)):Prop where
 env:p=none→s'.env=mX s.env o.dst v
 envp:p ≠ none→s'.env=s.env∧df= []
 hp:s'.hp=ups++s.hp
 md:s'.md=s.md
 dfs:s'.dfs=df++s.dfs
 dec:p=none→pR s'.dec s'.env
 feet:p=none→s'.feet={rt,wt:=Fa o,rb,wb:=ups.map (·.1)}::s.feet
 sem:EN P ap ops o nid s.env s.hp rt rb v ups df p
section
variable {P:Program} {ap:AP} {H:bG}
theorem P9 (e:Array Value) (t:Nat) {v:Value} (h:e.getD t undef=v) (b:v ≠ undef):e[t]? =some v:=by
 rw [Array.getD_eq_getD_getElem?] at h;cases a:e[t]? with
 |none=>rw [a] at h;exact absurd h.symm b
 |some u=>rw [a] at h;simpa using h
theorem CV {ops:Array Oper} {tmps:Array Value} {j s:Nat} (hs:(ops[j]?).bind (·.dst)=some s) {b:Bool} (h:tmps.getD s undef= .bool b):yielded ops tmps j=some b:=by
 unfold yielded;rw [hs];simp only [Xzh];rw [P9 tmps s h (by simp [undef])]
theorem Gs {ops:Array Oper} {tmps:Array Value} {j s:Nat} (hs:(ops[j]?).bind (·.dst)=some s) (h:tmps.getD s undef= .tuple #[]):yielded ops tmps j=none:=by
 unfold yielded;rw [hs];simp only [Xzh];rw [Array.getD_eq_getD_getElem?] at h;cases a:tmps[s]? with
 |none=>rfl
 |some u=>
  rw [a] at h;simp at h;rw [h]
theorem uu {g:bJ} {m:aH} {S:az} {w:World} (d:bf ap g m S w) {env:dK} {a:Act} (x:Operand) (h:∀ t,x= .tmp t→VR g m S (env.get t) (a.tmps.getD t undef)):VR g m S (pW ap env x) (a.eval x):=by
 cases x with
 |tmp t=>exact h t rfl
 |const v=>exact dQ _ (Gz S v)
 | global k=>
  simp only [pW,Act.eval];cases c:(ap.gl[k]?).join with
  |none=>simp only [VR]
  |some xs=>
   obtain ⟨vs,b,e⟩:=d.glob k xs c;simp only [VR,PR];exact ⟨k,0,vs,rfl,b,e⟩
 |func f=>
  simp only [pW,Act.eval,VR];exact ⟨[],[],rfl,by simp [aU],by simp [aU]⟩
theorem Bh {l:List Operand} {t:Nat} (h:Operand.tmp t ∈ l):t ∈ lw l:=by
 simp only [lw,List.mem_filterMap];exact ⟨_,h,rfl⟩
theorem Fj {ops:List Oper} {env:dK} {dec e:List (Nat × Bool)} {o:Oper} {c c':Cx} {run:Bool} (h:JE ops env dec o c= .ok (run,e) c') (q:c'.Ok):
  c.Ok∧(pR dec env→pR e env∧(∀ t b,ah dec t=some b→ah e t=some b)∧∀ g m S (a:Act),(∀ t ∈ eU ops o,VR g m S (env.get t) (a.tmps.getD t undef))→Region.wanted o (yielded ops.toArray a.tmps)=run):=by
 unfold JE at h;unfold eU;unfold Region.wanted;split at h
 ·rename_i z;cases h;simp only [z];exact ⟨q,fun f=> ⟨f,fun _ _ h=>h,fun _ _ _ _ _=>trivial⟩⟩
 ·rename_i j i z;simp only [z];split at h
  ·cases h
  ·rename_i s hs;have l:(ops.toArray[j]?).bind (·.dst)=some s:=by simpa using hs
   split at h
   ·rename_i b n;cases h;refine ⟨q,fun f=> ⟨f,fun _ _ h=>h,fun g m S a p=> ?_⟩⟩;have d:=p s (by simp);rw [f s b n] at d;simp only [VR,PR] at d;rw [CV l d];cases i<;>cases b<;>rfl
   ·rename_i B;split at h
    ·rename_i b n;obtain ⟨C,D,d,A⟩:=R.bind_ok h;cases A;obtain ⟨u,rfl⟩:=jG d q;refine ⟨u,fun f=> ⟨?_, ?_,fun g m S a p=> ?_⟩⟩
     ·intro t x k;simp only [ah] at k;split at k
      ·rename_i y;cases k;rw [← aA y,n]
      ·exact f t x k
     ·intro t x k;simp only [ah];split
      ·rename_i y;rw [aA y] at B;rw [B] at k;cases k
      ·exact k
     ·have d:=p s (by simp);rw [n] at d;simp only [VR,PR] at d;rw [CV l d];cases i<;>cases C<;>rfl
    ·rename_i n;cases h;refine ⟨q,fun f=> ⟨f,fun _ _ h=>h,fun g m S a p=> ?_⟩⟩;have d:=p s (by simp);rw [n] at d;simp only [VR] at d;obtain ⟨vs,d,A⟩:=d;cases vs with
     |nil=>rw [Gs l d];rfl
     |cons v r=>simp [aU] at A
    ·cases h
theorem He {env:dK} {o:Oper} {v:AV} {t:Nat} (h:∀ d,o.dst=some d→d ≠ t):(mX env o.dst v).get t=env.get t:=by
 unfold mX;split
 ·rename_i d b;simp only [dK.get,ah];split
  ·rename_i a;exact absurd (aA a) (h d b)
  ·rfl
 ·rfl
theorem vz {dec:List (Nat × Bool)} {env:dK} {o:Oper} {v:AV} (e:pR dec env) (a:KQ dec o=true):pR dec (mX env o.dst v):=by
 intro t b c;rw [He]
 ·exact e t b c
 ·rintro d hdd rfl
  unfold KQ at a;rw [hdd] at a;simp [c] at a
end
end AM
namespace AM
open Go
section
variable {P:Program} {ap:AP} {H:bG}
theorem Qr {c:Cx} {dst:Option Nat} {v:AV} (h:(Au c dst v).2.Ok):c.Ok∧bF v (Au c dst v).1:=by
 obtain ⟨cl,orc,bs,ps,ans,hs⟩:=c;unfold Au at h ⊢;dsimp only at h ⊢;split at h
 ·rename_i d x r i;split at h
  ·rename_i a;have e:bF v x:=h.ps _ (Xqp ..);refine ⟨⟨h.bs,fun p hp=>h.ps p (Xqk _ hp)⟩, ?_⟩;simp only [a];exact e
  ·rename_i a;refine ⟨h, ?_⟩;simp only [a];exact fun _ _ _ _ b=>b
 ·rename_i f;exact ⟨h,fun _ _ _ _ b=>b⟩
theorem Qq {c:Cx} {dst:Option Nat} (h:(Lr c dst).2.Ok):c.Ok:=by
 obtain ⟨cl,orc,bs,ps,ans,hs⟩:=c;unfold Lr at h;dsimp only at h;split at h
 ·split at h
  ·exact ⟨h.bs,h.ps⟩
  ·exact h
 ·exact h
theorem Qo {c:Cx} {dst:Option Nat} {ups:List (Nat × aP)} (h:(Ar c dst ups).2.Ok):c.Ok∧(Ar c dst ups).1=ups:=by
 obtain ⟨cl,orc,bs,ps,ans,hs⟩:=c;unfold Ar at h ⊢;dsimp only at h ⊢;split at h
 ·rename_i d f r j b B;split at h
  ·rename_i a;have e:B.cells=f:=h.ps _ (Xqp ..);refine ⟨⟨h.bs,fun p hp=>h.ps p (Xqk _ hp)⟩, ?_⟩;simp only [a,← e]
  ·rename_i a;refine ⟨h, ?_⟩;simp only [a]
 ·rename_i i;exact ⟨h,rfl⟩
theorem Qp {nid:Nat} {c:Cx} {dst:Option Nat} {v:AV} {ups:List (Nat × aP)} (h:(vN nid c dst v ups).2.2.Ok):c.Ok∧(((vN nid c dst v ups).1=v∧(vN nid c dst v ups).2.1=ups)∨
  ∃ n B,v= .ref nid B.ver 0 n∧ups= [(nid,B)]∧B.pr=true∧B.fro=false∧B.cells.length=n*B.esz∧0<n∧(vN nid c dst v ups).1= .sl B.cells n true∧(vN nid c dst v ups).2.1= [(nid,{B with fro:=true,fz:=B.cells.length})]):=by
 obtain ⟨cl,orc,bs,ps,ans,hs⟩:=c;unfold vN at h ⊢;dsimp only at h ⊢;split at h
 ·rename_i d r s b ver n q B;split at h
  ·rename_i a;refine ⟨⟨h.bs,h.ps⟩,.inr ?_⟩;simp only [δ,Xqi] at a;obtain ⟨_,⟨⟨⟨⟨⟨f,i⟩,j⟩,p⟩,o⟩,k⟩,l⟩:=a;have f:=Xqq f;have i:=Xqq i;have j:=Xqq j;have k:=Xqq k;subst f i j;exact ⟨n,B,rfl,rfl,p,o,k,Nat.pos_of_ne_zero fun e=>by subst e;simp at l,rfl,rfl⟩
  ·rename_i a;refine ⟨h,.inl ?_⟩;simp [a]
 ·exact ⟨h,.inl ⟨rfl,rfl⟩⟩
theorem fG.shut {g:bJ} {m:aH} {S:az} {w:World} {s:Sem Next} {b n:Nat} {B:aP} (hb:g b=none) (V:B.pr=true) (N:B.fro=false) (hn:B.cells.length=n*B.esz) (h0:0<n) (h:fG P ap g m S w s (.ref b B.ver 0 n) [(b,B)]):
  ∃ J c S' w',s.run P w= .ok J w'∧bf ap (bH g [(b,{B with fro:=true,fz:=B.cells.length})]) c S' w'∧Fr g m S w (bH g [(b,{B with fro:=true,fz:=B.cells.length})]) c S' w'∧((∃ cv,J= .value cv∧VR (bH g [(b,{B with fro:=true,fz:=B.cells.length})]) c S' (.sl B.cells n true) cv)∨(J= .skip∧AV.ref b B.ver 0 n= .dead)):=by
 obtain ⟨J,c,w',O,A,p,l⟩:=h;have t:bH g [(b,B)] b=some B:=by simp [bH,ah]
 have I:∀ x,x ≠ b→∀ C:aP,bH g [(b,C)] x=g x:=fun x a C=>by
  have:υ b x=false:=by rw [Bool.eq_false_iff];exact fun e=>a (Xqq e).symm
  simp [bH,ah,this]
 have K:bH g [(b,{B with fro:=true,fz:=B.cells.length})] b=some {B with fro:=true,fz:=B.cells.length}:=by simp [bH,ah]
 have i:∀ x C,bH g [(b,{B with fro:=true,fz:=B.cells.length})] x=some C→(x=b∧C={B with fro:=true,fz:=B.cells.length})∨(x ≠ b∧bH g [(b,B)] x=some C):=fun x C a=>by
  by_cases e:x=b
  ·subst e;rw [K] at a;cases a;exact .inl ⟨rfl,rfl⟩
  ·rw [I x e] at a;exact .inr ⟨e,by rw [I x e];exact a⟩
 have fresh:w.heap.size≤(c b).1:=by
  rcases p.img b B t with e|⟨B0,e,_⟩
  ·exact e
  ·rw [hb] at e;cases e
 have X:∀ o,S (c b).1 o=none:=fun o=>by
  cases hs:S (c b).1 o with
  |none=>rfl
  |some v=>have:=(A.own b B t o v hs).1;rw [N] at this;cases this
 obtain ⟨⟨cur,e,vs,rest,Z,r2,M,r4,Y,r6⟩,_,_⟩:=A.blk b B t;have M:=M V;have R:=jE M
 let S':az:=fun k o=>if k=(c b).1 then vs[o]? else S k o
 have d:ig S S':=fun k o v F=>by
  show (if k=(c b).1 then vs[o]? else S k o)=some v;split
  ·rename_i e;subst e;rw [X] at F;cases F
  ·exact F
 have L:Ge (bH g [(b,B)]) c (bH g [(b,{B with fro:=true,fz:=B.cells.length})]) c:=fun x C a=>by
  by_cases e:x=b
  ·subst e;rw [t] at a;cases a;exact ⟨_,K,rfl,.inl ⟨rfl,rfl⟩⟩
  ·rw [I x e] at a;exact ⟨C,by rw [I x e];exact a,rfl,.inl ⟨rfl,rfl⟩⟩
 have W:0<B.esz∧B.esz ≠ dN:=by
  rcases l with ⟨cv,_,l⟩|⟨_,e⟩
  ·simp only [VR] at l;obtain ⟨B1,E,_,_,l⟩:=l;rw [t] at E;cases E;obtain ⟨_,_,_,_,h3,T⟩:=l rfl;exact ⟨h3,T⟩
  ·cases e
 have hcell:∀ o v,vs[o]? =some v→bW w' (c b).1 o=some v:=fun o v r=>by
  refine oz ?_ (Y W.2 v (χ r));rw [jh (Z.cells W.2),r2,Xqc (List.getElem?_eq_some_iff.1 r).1];exact r
 refine ⟨J,c,S',w',O,⟨fun x y C D a hy U=> ?_,fun x C a=> ?_,fun k o v F=> ?_,fun x C a o v r=> ?_,fun q xs hq=> ?_⟩,⟨fun x C a=> ?_,p.sle.trans d,p.os,p.tape,p.output,p.size,p.rest,fun x C a=> ?_,fun k o v F=> ?_,fun x C a=> ?_⟩, ?_⟩
 ·have z:∃ C',bH g [(b,B)] x=some C':=by
   rcases i x C a with ⟨e,_⟩|⟨_,e⟩
   ·exact ⟨B,by rw [e];exact t⟩
   ·exact ⟨C,e⟩
  have G:∃ C',bH g [(b,B)] y=some C':=by
   rcases i y D hy with ⟨e,_⟩|⟨_,e⟩
   ·exact ⟨B,by rw [e];exact t⟩
   ·exact ⟨D,e⟩
  obtain ⟨_,z⟩:=z;obtain ⟨_,G⟩:=G;exact A.inj x y _ _ z G U
 ·rcases i x C a with ⟨rfl,rfl⟩|⟨_,e⟩
  ·exact ⟨⟨cur,e,vs,rest,Z,r2,fun _=>aV d _ M,iw d L _ r4,Y,r6⟩,fun h=>(by cases h),ζ _⟩
  ·exact (A.blk x C e).mono d L rfl
 ·have f:(if k=(c b).1 then vs[o]? else S k o)=some v:=F;by_cases e:k=(c b).1
  ·rw [if_pos e] at f;rw [e];exact hcell o v f
  ·rw [if_neg e] at f;exact A.sealed k o v f
 ·have r:(if (c x).1=(c b).1 then vs[o]? else S (c x).1 o)=some v:=r;rcases i x C a with ⟨rfl,rfl⟩|⟨Q,e⟩
  ·rw [if_pos rfl] at r;exact ⟨rfl,by show o<B.cells.length;rw [R];exact (List.getElem?_eq_some_iff.1 r).1⟩
  ·rw [if_neg fun E=>Q (A.inj x b _ _ e t E)] at r;exact A.own x C e o v r
 ·obtain ⟨us,k1,k2⟩:=A.glob q xs hq;exact ⟨us,aV d _ k1,k2.mono d⟩
 ·obtain ⟨C',z,G⟩:=p.ge x C a;have Q:x ≠ b:=fun e=>by subst e;rw [hb] at a;cases a
  exact ⟨C',by rw [I x Q];rw [I x Q] at z;exact z,G⟩
 ·rcases i x C a with ⟨rfl,rfl⟩|⟨_,e⟩
  ·exact .inl fresh
  ·exact p.img x C e
 ·have f:(if k=(c b).1 then vs[o]? else S k o)=some v:=F;by_cases e:k=(c b).1
  ·rw [e];exact .inr (.inl fresh)
  ·rw [if_neg e] at f;exact p.sealN k o v f
 ·rcases i x C a with ⟨rfl,rfl⟩|⟨_,e⟩
  ·exact p.mw x B t
  ·exact p.mw x C e
 ·rcases l with ⟨cv,z,l⟩|⟨_,e⟩
  ·refine .inl ⟨cv,z, ?_⟩;simp only [VR] at l;obtain ⟨B1,E,_,_,l⟩:=l;rw [t] at E;cases E;obtain ⟨o,G,h3,T,_⟩:=l rfl;have r:=T (by omega);simp only [VR,PR];refine ⟨_,_,G,by omega,.inr ⟨_,_,vs,rfl,aV d _ M,fun j u hj=> ⟨?_,Y W.2 u (χ hj)⟩⟩⟩;show (if (c b).1=(c b).1 then vs[o+j]? else S (c b).1 (o+j))=some u;rw [if_pos rfl,r];simpa using hj
  ·cases e
theorem yz {a:Act} {g:Operand} {args:Array Operand} {argTypes:Array TypeId} {ty:TypeId} {f:Nat} {first b:Array Value} (h:a.eval g= .func (.func f) first b) (w:World):
  (resolve a.eval {callee:= .value g,args,argTypes} ty).run P w= .ok {target:= .fn (.func f) b,args:=first++args.map a.eval} w:=by
 simp only [resolve,h,Deferred.ofValue];rfl
theorem Dt {a:Act} {g:Operand} {args:Array Operand} {argTypes:Array TypeId} {ty:TypeId} {f:Nat} {first b:Array Value} (h:a.eval g= .func (.func f) first b) (c:ql P f) (w:World):
  (do let d ← resolve a.eval {callee:= .value g,args,argTypes} ty;invoke d.target d.args:Sem Next).run P w= .ok (.enter f ((first++args.map a.eval)++b)) w:=by
 rw [Sem.run_bind,yz h,Result.andThen_ok];exact c _ _
theorem zG {g:bJ} {m:aH} {S:az} {ρ:Operand→AV} {cρ:Operand→Value} {args:Array Operand} (h:∀ o ∈ args,VR g m S (ρ o) (cρ o)):aU g m S (args.toList.map ρ) (args.map cρ).toList:=by
 rw [Array.toList_map];exact qZ _ fun o a=>h o (by simpa using a)
theorem wZ:∀ {l:Hp} {b:Nat} {B:aP},ah l b=some B→(b,B) ∈ l
 | [],_,_,h=>by cases h
 | (k,X)::r,b,B,h=>by
  simp only [ah] at h;split at h
  ·rename_i a;cases h;have:=aA a;subst this;exact Xqp ..
  ·exact Xqk _ (wZ h)
theorem Be {α β:Type} {f g:α→β}:∀ {l:List α},l.map f=l.map g→∀ {x:α},x ∈ l→f x=g x
 | [],_,_,h=>by cases h
 |a::r,h,x,hx=>by
  simp only [φ,List.cons.injEq] at h;rcases List.mem_cons.1 hx with rfl|hx
  ·exact h.1
  ·exact Be h.2 hx
theorem J8 {t:Nat} {b:String} {f:Nat} (k:dJ P ap) (h:ap.mtAt t b=some f) (v:Value) (n:Nat) (w:World):(method (n+1) t v b).run P w= .ok (f,v) w:=by
 unfold AP.mtAt at h;obtain ⟨q,p,rfl⟩:=Option.map_eq_some_iff.1 h;have r:=List.find?_some p;have a:=List.all_eq_true.1 k.mt _ (List.mem_of_find?_eq_some p);simp only [δ,beq_iff_eq] at r;obtain ⟨c,u⟩:=r;have c:=aA c;subst c;subst u;unfold mtB at a;split at a
 ·rename_i i s;split at a
  ·rename_i m hm;rw [δ] at a;obtain ⟨hp,a⟩:=a;have hpath:m.path.toList= []:=by simpa using hp
   unfold method;rw [Sem.run_bind,run_typeInfo w s,Result.andThen_ok];simp only [hm,hpath,follow];split at a
   ·rename_i f e o j;have:=aA a;subst this;simp [o,receiverAt,run_underlying j w,Place.get]
   ·cases a
   ·rename_i f d l o j;have:=aA a;subst this;cases d<;>first|exact (l _ rfl).elim|simp [o,receiverAt,run_underlying j w,Place.get]
   ·cases a
  ·cases a
 ·cases a
theorem BZ {a:Act} {g:Operand} {b:String} {args:Array Operand} {argTypes:Array TypeId} {ty:TypeId} {t f:Nat} {cv:Value} (e:dJ P ap) (c:ap.mtAt t b=some f) (h:a.eval g= .iface t cv) (j:ql P f) (w:World):
  (do let d ← resolve a.eval {callee:= .invoke g b,args,argTypes} ty;invoke d.target d.args:Sem Next).run P w= .ok (.enter f (cv::(args.map a.eval).toList).toArray) w:=by
 have hm:(method (P.types.size+Made.depth) t cv b).run P w= .ok (f,cv) w:=J8 e c cv (P.types.size+Made.depth - 1) w;have h0:(#[Value.iface t cv]++args.map a.eval)[0]? =some (.iface t cv):=by rw [Array.getElem?_append_left (by simp)];rfl
 simp only [resolve,h,Sem.run_bind,Sem.run_pure,Result.andThen_ok,invoke,h0,callMethod];have i:#[cv]++(#[Value.iface t cv]++args.map a.eval).extract 1 (#[Value.iface t cv]++args.map a.eval).size=(cv::(args.map a.eval).toList).toArray:=by
  apply Array.toList_inj.1;simp;exact List.take_of_length_le (by simp)
 rw [show (program.run P w)= .ok P w from rfl,Result.andThen_ok,hm,Result.andThen_ok,i];exact j _ _
theorem vg (Z:gz P ap H) {nid:Nat} {ops:List Oper} {o:Oper} {s s':RS} {dec:List (Nat × Bool)} {f:Nat} {U:List AV} {p:Option AV} {T c':Cx} (h:ET ap H nid o s (lw o.op.operands.toList++eU ops o) dec f U T= .ok (s',p) c') (E:c'.Ok) (n:KQ dec o=true)
  (hex:ql P f→∀ {g:bJ} {m:aH} {S:az} {w:World} {a:Act},bf ap g m S w→(∀ t ∈ lw o.op.operands.toList++eU ops o,VR g m S (s.env.get t) (a.tmps.getD t undef))→∃ cargs:List Value,(execOp a.eval o).run P w= .ok (.enter f cargs.toArray) w∧aU g m S U cargs):
  T.Ok∧(s.md= .dead→pR dec s.env→(∀ (Q:Exit→Act→World→Prop) (K:Act→World→Prop) (g:bJ) (m:aH) (S:az) (a:Act) (w:World),(∀ t ∈ lw o.op.operands.toList++eU ops o,VR g m S (s.env.get t) (a.tmps.getD t undef))→o.wp P a w K Q→VJ P ops.toArray Q o K a w)→
   ∃ v rb ups df,VQ P ap ops.toArray o nid s s' p v (lw o.op.operands.toList++eU ops o) rb ups df):=by
 unfold ET at h;obtain ⟨r,M,V,h⟩:=R.bind_ok h;have I:M.Ok:=by
  revert h
  cases J:Lr M o.dst with
  | mk u G=>
   have j:G.Ok→M.Ok:=fun Y=>Qq (by rw [J];exact Y)
   cases u with
   | true=>
    dsimp only;cases r.out with
    |ret v=>
     dsimp only;split
     ·intro h;cases h;exact j ⟨E.bs,fun p hp=>E.ps p (Xqk _ hp)⟩
     ·intro h;cases h
    |pan v=>intro h;cases h
   |false=>dsimp only;cases r.out<;>intro h<;>cases h<;>exact j E
 obtain ⟨L,O,hcall⟩:=zM Z V I;refine ⟨L,fun W C hwant=> ?_⟩;split at h
 ·rename_i G J;split at h
  ·rename_i v c;split at h
   ·rename_i D;cases h;have N:r.ups.map (fun (q:Nat × aP)=>some q.2)=r.ups.map (fun (q:Nat × aP)=>ah s.hp q.1):=E.ps _ (Xqp ..);refine ⟨v,r.fp,[],[],⟨fun _=>rfl,fun h=>absurd rfl h,rfl,rfl,rfl,fun _=>vz C n,fun _=>rfl, ?_⟩⟩;intro g m S w a l k d i Q K z;have F:bH g r.ups=g:=by
     funext b;unfold bH;cases X:ah r.ups b with
     |none=>rfl
     |some B=>
      have hm:=wZ X;have x:=Be N hm;exact (d b (fO.1 (List.all_eq_true.1 D _ hm)) B x.symm).symm
    refine hwant Q K g m S a w k ?_;obtain ⟨cargs,x,A⟩:=hex O l k;unfold Oper.wp;rw [x];refine (hcall g m S w _ l d i A).mono ?_
    rintro e w' ⟨m',S',j,h4,h5⟩
    rw [c] at h5;obtain ⟨cv,rfl,y⟩:=h5;rw [F] at j h4 y;exact z cv m' S' w' [] j h4 y (by simp [dS])
   ·cases h
  ·cases h
 ·rename_i G J;split at h
  ·rename_i v c;cases h;refine ⟨v,r.fp,r.ups,[],⟨fun _=>rfl,fun h=>absurd rfl h,rfl,rfl,rfl,fun _=>vz C n,fun _=>rfl, ?_⟩⟩;intro g m S w a l k d i Q K z;refine hwant Q K g m S a w k ?_;obtain ⟨cargs,x,A⟩:=hex O l k;unfold Oper.wp;rw [x];refine (hcall g m S w _ l d i A).mono ?_
   rintro e w' ⟨m',S',j,h4,h5⟩
   rw [c] at h5;obtain ⟨cv,rfl,y⟩:=h5;exact z cv m' S' w' [] j h4 y (by simp [dS])
  ·rename_i v c;cases h;refine ⟨v,r.fp,r.ups,[],⟨fun h=>(by cases h),fun _=> ⟨rfl,rfl⟩,rfl,rfl,rfl,fun h=>(by cases h),fun h=>(by cases h), ?_⟩⟩;intro g m S w a l k d i Q K z;refine hwant Q K g m S a w k ?_;obtain ⟨cargs,x,A⟩:=hex O l k;unfold Oper.wp;rw [x];refine (hcall g m S w _ l d i A).mono ?_
   rintro e w' ⟨m',S',j,h4,h5⟩
   rw [c] at h5;obtain ⟨cv,rfl,y⟩:=h5;exact z cv m' S' w' j h4 y
theorem pF (hap:dJ P ap) (hH:gz P ap H) {nid:Nat} {ops:List Oper} {o:Oper} {s s':RS} {p:Option AV} {c c':Cx} (h:I8 ap H nid ops o s c= .ok (s',p) c') (O:c'.Ok):
  c.Ok∧(s.md= .dead→pR s.dec s.env→∃ v rb ups df,VQ P ap ops.toArray o nid s s' p v (lw o.op.operands.toList++eU ops o) rb ups df):=by
 unfold I8 at h;obtain ⟨⟨run,dec⟩,c1,e1,h⟩:=R.bind_ok h;dsimp only at h;split at h
 ·cases h
 rename_i z;have hguard:∀ c1ok:c1.Ok,c.Ok∧(pR s.dec s.env→pR dec s.env∧(∀ t b,ah s.dec t=some b→ah dec t=some b)∧∀ g m S (a:Act),(∀ t ∈ eU ops o,VR g m S (s.env.get t) (a.tmps.getD t undef))→Region.wanted o (yielded ops.toArray a.tmps)=run):=fun hk=>Fj e1 hk
 have r:∀ {g:bJ} {m:aH} {S:az} {w:World} {a:Act},bf ap g m S w→(∀ t ∈ lw o.op.operands.toList++eU ops o,VR g m S (s.env.get t) (a.tmps.getD t undef))→∀ x ∈ o.op.operands,VR g m S (pW ap s.env x) (a.eval x):=by
  intro g m S w a C j x M;refine uu C x fun t ht=>j t ?_
  subst ht;exact List.mem_append.2 (.inl (Bh (by simpa using M)))
 split at h
 ·
  cases h;obtain ⟨k,L⟩:=hguard O;refine ⟨k,fun q d=> ?_⟩;obtain ⟨hd,_,hw⟩:=L d;refine ⟨.tup [],[],[],[],⟨fun _=>rfl,fun h=>absurd rfl h,rfl,rfl,rfl,fun _=>vz hd z,fun _=>rfl, ?_⟩⟩;intro g m S w a C j _ _ Q K X;unfold VJ;rw [hw g m S a fun t ht=>j t (List.mem_append.2 (.inr ht))];simp only [Bool.false_eq_true,if_false];have:=X undef m S w [] (by rw [dE];exact C) (by rw [dE];exact Fr.refl _ _ _ _) (by simp only [VR];exact ⟨[],rfl,by simp [aU]⟩) (by simp [dS]);exact this
 ·
  have hwant:∀ (Q:Exit→Act→World→Prop) (K:Act→World→Prop) (g:bJ) (m:aH) (S:az) (a:Act) (w:World),c1.Ok→pR s.dec s.env→(∀ t ∈ lw o.op.operands.toList++eU ops o,VR g m S (s.env.get t) (a.tmps.getD t undef))→o.wp P a w K Q→VJ P ops.toArray Q o K a w:=by
   intro Q K g m S a w hk d j hh;obtain ⟨_,_,hw⟩:=(hguard hk).2 d;unfold VJ;rw [hw g m S a fun t ht=>j t (List.mem_append.2 (.inr ht))];simp only [if_true];exact .inl hh
  split at h
  ·
   rename_i gf args argTypes i;split at h
   ·rename_i f first cap hf
    obtain ⟨y,hs⟩:=vg hH h O z (fun hE {g m S w a} C j=>by
     have A:=r C j;rw [i] at A;have l:=A gf (by simp [Op.operands,Call.operands]);rw [hf] at l;simp only [VR] at l;obtain ⟨vf,vc,F,G,J⟩:=l;refine ⟨(vf++(args.map a.eval).toList)++vc, ?_,fC (fC G (zG fun x M=>A x (by simp [Op.operands,Call.operands,M]))) J⟩;have:=Dt (args:=args) (argTypes:=argTypes) (ty:=o.type) F hE w;unfold execOp;rw [i];dsimp only;rw [this];congr 2;apply Array.toList_inj.1;simp)
    obtain ⟨k,L⟩:=hguard y;refine ⟨k,fun q d=> ?_⟩;exact hs q (L d).1 fun Q K g m S a w j hh=>hwant Q K g m S a w y d j hh
   ·cases h
  ·
   rename_i gf name args argTypes i;split at h
   ·rename_i ty vv hf;split at h
    ·rename_i f hmt;obtain ⟨y,hs⟩:=vg hH h O z (fun hE {g m S w a} C j=>by
      have A:=r C j;rw [i] at A;have l:=A gf (by simp [Op.operands,Call.operands]);rw [hf] at l;simp only [VR] at l;obtain ⟨cv,F,G⟩:=l;refine ⟨cv::(args.map a.eval).toList, ?_, ?_⟩
      ·have:=BZ hap hmt (args:=args) (argTypes:=argTypes) (ty:=o.type) F hE w;unfold execOp;rw [i];dsimp only;rw [this]
      ·simp only [aU];exact ⟨G,zG fun x M=>A x (by simp [Op.operands,Call.operands,M])⟩)
     obtain ⟨k,L⟩:=hguard y;refine ⟨k,fun q d=> ?_⟩;exact hs q (L d).1 fun Q K g m S a w j hh=>hwant Q K g m S a w y d j hh
    ·cases h
   ·cases h
  ·
   split at h
   ·cases h;exact ⟨(hguard O).1,fun q=>by simp_all⟩
   ·cases h;exact ⟨(hguard O).1,fun q=>by simp_all⟩
   ·cases h
  ·
   rename_i gf args argTypes i;split at h
   ·rename_i f first cap hf
    cases h;obtain ⟨k,L⟩:=hguard O;refine ⟨k,fun q d=> ?_⟩;obtain ⟨hd,_,_⟩:=L d;refine ⟨.dead,[],[],[(f,first++args.toList.map (pW ap s.env)++cap)],⟨fun _=>rfl,fun h=>absurd rfl h,rfl,rfl,rfl,fun _=>vz hd z,fun _=>rfl, ?_⟩⟩;intro g m S w a C j hag T Q K X;refine hwant Q K g m S a w O d j ?_;have A:=r C j;rw [i] at A;have l:=A gf (by simp [Op.operands,Call.operands]);rw [hf] at l;simp only [VR] at l;obtain ⟨vf,vc,F,G,J⟩:=l;unfold Oper.wp;have hr:(execOp a.eval o).run P w= .ok (.defer {target:= .fn (.func f) vc.toArray,args:=vf.toArray++args.map a.eval}) w:=by
     unfold execOp;rw [i];dsimp only;rw [Sem.run_bind,yz F,Result.andThen_ok];rfl
    rw [hr];refine X undef m S w [{target:= .fn (.func f) vc.toArray,args:=vf.toArray++args.map a.eval}] (by rw [dE];exact C) (by rw [dE];exact Fr.refl _ _ _ _) (by simp only [VR]) ?_;simp only [dS,dE,and_true];refine ⟨vc.toArray,rfl, ?_⟩;have:=fC (fC G (zG (args:=args) fun x M=>A x (by simp [Op.operands,Call.operands,M]))) J;simpa using this
   ·cases h
  ·
   rename_i x i;split at h
   ·rename_i t v M;cases h;obtain ⟨k,L⟩:=hguard O;refine ⟨k,fun q d=> ?_⟩;obtain ⟨hd,_,_⟩:=L d;refine ⟨.dead,[],[],[],⟨fun h=>(by cases h),fun _=> ⟨rfl,rfl⟩,rfl,rfl,rfl,fun h=>(by cases h),fun h=>(by cases h), ?_⟩⟩;intro g m S w a C j hag T Q K X;refine hwant Q K g m S a w O d j ?_;have A:=r C j;rw [i] at A;have l:=A x (by simp [Op.operands]);rw [M] at l;have h2':=l;simp only [VR] at h2';obtain ⟨u,F,G⟩:=h2';unfold Oper.wp;have hr:(execOp a.eval o).run P w= .halt (.panic (a.eval x)) w:=by
     unfold execOp;rw [i];dsimp only;rw [F];rfl
    rw [hr];exact X _ m S w (by rw [dE];exact C) (by rw [dE];exact Fr.refl _ _ _ _) (by rw [dE];exact l)
   ·cases h
  ·
   rename_i op n1 n2 n3 n4;obtain ⟨em,c2,e2,h⟩:=R.bind_ok h;split at h
   ·cases h
   ·rename_i v ups bs i;obtain ⟨_,c3,e3,h⟩:=R.bind_ok h;have Z:(vN nid c3 o.dst v ups).2.2.Ok→_:=Qp;generalize vN nid c3 o.dst v ups=q0 at h Z;obtain ⟨v0,E,V⟩:=q0;dsimp only at h Z;have hv1:(Au V o.dst v0).2.Ok→V.Ok∧bF v0 (Au V o.dst v0).1:=Qr;generalize Au V o.dst v0=q1 at h hv1;obtain ⟨v1,c4⟩:=q1;dsimp only at h hv1;have hv2:(Ar c4 o.dst E).2.Ok→c4.Ok∧(Ar c4 o.dst E).1=E:=Qo;generalize Ar c4 o.dst E=q2 at h hv2;obtain ⟨D,c5⟩:=q2;dsimp only at h hv2;cases h;obtain ⟨hc4,hups⟩:=hv2 O;subst hups;obtain ⟨hc30,Y⟩:=hv1 hc4;obtain ⟨hc3,hf⟩:=Z hc30;obtain ⟨hc2,hbs⟩:=Fb e3 hc3;have hem:c1.Ok∧∀ n,vC (pW ap s.env) o.op=some n→υ n 0=em:=by
     split at e2
     ·rename_i n hn;obtain ⟨hk,rfl⟩:=jG e2 hc2;exact ⟨hk,fun n' I=>by rw [hn] at I;cases I;rfl⟩
     ·rename_i hn;cases e2;exact ⟨hc2,fun n' I=>by rw [hn] at I;cases I⟩
    obtain ⟨y,hem⟩:=hem;obtain ⟨k,L⟩:=hguard y;refine ⟨k,fun q d=> ?_⟩;obtain ⟨hd,_,_⟩:=L d;refine ⟨v1,Rn (pW ap s.env) o.op,D,[],⟨fun _=>rfl,fun h=>absurd rfl h,rfl,rfl,rfl,fun _=>vz hd z,fun _=>rfl, ?_⟩⟩;intro g m S w a C j hag T Q K X;refine hwant Q K g m S a w y d j ?_;have A:=r C j;have U:=OG hap C (nid:=nid) (T 0 (by omega)) (ρ:=pW ap s.env) (cρ:=a.eval) (fun b B hb=>by
      split at hb
      ·rename_i hm;exact hag b (fO.1 hm) B hb
      ·cases hb) o A (dec:=fun| .tmp t=>ah dec t|_=>none) (fun x M b hb=>by
      split at hb
      ·rename_i t;have:=j t (List.mem_append.2 (.inl (Bh (by simpa using M))));rw [hd t b hb] at this;simp only [VR,PR] at this;exact this
      ·cases hb) hem i hbs
    have U:∃ W N S' w',(execOp a.eval o).run P w= .ok W w'∧bf ap (bH g D) N S' w'∧Fr g m S w (bH g D) N S' w'∧((∃ cv,W= .value cv∧VR (bH g D) N S' v0 cv)∨(W= .skip∧v0= .dead)):=by
     rcases hf with ⟨e1,e2⟩|⟨n,B,e1,e2,e3,e4,e5,e6,e7,e8⟩
     ·subst e1 e2;obtain ⟨W,N,w',l,F,G,J⟩:=U;exact ⟨W,N,S,w',l,F,G,J⟩
     ·subst e1 e2 e7 e8;obtain ⟨W,N,S',w',l,F,G,J⟩:=fG.shut (T 0 (by omega)) e3 e4 e5 e6 U;exact ⟨W,N,S',w',l,F,G,J.imp id fun ⟨_,e⟩=>by cases e⟩
    obtain ⟨W,N,S',w',l,F,G,J⟩:=U;unfold Oper.wp;rw [l];rcases J with ⟨cv,rfl,J⟩|⟨rfl,rfl⟩
    ·exact X cv N S' w' [] F G (Y _ _ _ _ J) (by simp [dS])
    ·exact X undef N S' w' [] F G (Y _ _ _ _ (by simp only [VR])) (by simp [dS])
end
end AM
namespace AM
open Go
theorem kM:∀ {hp:Hp} {b:Nat} {B:aP},ah hp b=some B→b<eu hp
 | [],b,B,h=>by simp [ah] at h
 | (c,C)::r,b,B,h=>by
  simp only [ah] at h;simp only [eu];split at h
  ·rename_i d;have d:=aA d;subst d;split
   ·rename_i a;exact dV a
   ·omega
  ·have e:=kM h;split
   ·exact e
   ·rename_i a;have:¬ c<eu r:=fun f=>by
     have:Xq6 c (eu r)=true:=by
      show Nat.ble (c+1) (eu r)=true;exact Xqb f
     rw [this] at a;cases a
    omega
theorem Ba:∀ {l:Hp} {b:Nat} {B:aP},ah l b=some B→b ∈ l.map (·.1)
 | [],b,B,h=>by simp [ah] at h
 |(c,C)::r,b,B,h=>by
  simp only [ah] at h;split at h
  ·rename_i a;simp [aA a]
  ·simp [Ba h]
structure FR (ap:AP) (env:dK) (hp:Hp) (dfs:List (Nat × List AV)) (nt:Nat) (m:aH) (S:az) (w:World) (a:Act):Prop where
 srel:bf ap (ah hp) m S w
 env:∀ t,VR (ah hp) m S (env.get t) (a.tmps.getD t undef)
 dfs:dS (ah hp) m S dfs a.defers
 size:a.tmps.size=nt
theorem aC (a:Act) (d:Option Nat) (v:Value):(a.put d v).tmps.size=a.tmps.size:=by
 cases d<;>simp [Act.put]
theorem lq (a:Act) (d:Option Nat) (v:Value):(a.put d v).defers=a.defers:=by
 cases d<;>simp [Act.put]
theorem jI (a:Act) (d:Option Nat) (v:Value) {t:Nat} (h:d ≠ some t):(a.put d v).tmps.getD t undef=a.tmps.getD t undef:=by
 cases d with
 |none=>rfl
 |some d=>
  have b:d ≠ t:=fun e=>h (by rw [e])
  simp only [Act.put,Array.getD_eq_getD_getElem?];rw [Array.getElem?_setIfInBounds_ne b]
theorem bY (a:Act) (d:Nat) (v:Value) (h:d<a.tmps.size):(a.put (some d) v).tmps.getD d undef=v:=by
 simp only [Act.put,Array.getD_eq_getD_getElem?];rw [Array.getElem?_setIfInBounds_self_of_lt h];rfl
theorem gU {env:dK} {d:Nat} {v:AV}:(mX env (some d) v).get d=v:=by simp [mX,dK.get,ah]
theorem vI {env:dK} {dst:Option Nat} {v:AV} {t:Nat} (h:dst ≠ some t):(mX env dst v).get t=env.get t:=by
 cases dst with
 |none=>rfl
 | some d=>
  have a:υ d t=false:=by
   cases b:υ d t with
   |false=>rfl
   |true=>exact absurd (by rw [aA b]) h
  simp [mX,dK.get,ah,a]
section
variable {P:Program} {ap:AP} {H:bG}
theorem FR.put {env:dK} {hp ups:Hp} {dfs f:List (Nat × List AV)} {nt:Nat} {m b:aH} {S S':az} {w w':World} {a:Act} (h:FR ap env hp dfs nt m S w a) {dst:Option Nat} (c:∀ d,dst=some d→d<nt) {v:AV} {cv:Value} {e:List Deferred}
  (h1:bf ap (bH (ah hp) ups) b S' w') (h2:Fr (ah hp) m S w (bH (ah hp) ups) b S' w') (h3:VR (bH (ah hp) ups) b S' v cv) (h4:dS (bH (ah hp) ups) b S' f e):
  FR ap (mX env dst v) (ups++hp) (f++dfs) nt b S' w' ({a with defers:=e++a.defers}.put dst cv):=by
 rw [jd] at h1 h2 h3 h4;refine ⟨h1, ?_, ?_, ?_⟩
 ·intro t;by_cases ht:dst=some t
  ·subst ht;rw [gU,bY _ _ _ (by have:=c t rfl;have:=h.size;simpa [this] using c t rfl)];exact h3
  ·rw [vI ht,jI _ _ _ ht];exact jO h2.sle h2.ge _ (h.env t)
 ·rw [lq];exact xF h4 (qY h2.sle h2.ge h.dfs)
 ·rw [aC];exact h.size
theorem FR.still {env:dK} {hp ups:Hp} {dfs:List (Nat × List AV)} {nt:Nat} {m b:aH} {S S':az} {w w':World} {a:Act} (h:FR ap env hp dfs nt m S w a)
  (h1:bf ap (bH (ah hp) ups) b S' w') (h2:Fr (ah hp) m S w (bH (ah hp) ups) b S' w'):FR ap env (ups++hp) dfs nt b S' w' a:=by
 rw [jd] at h1 h2;exact ⟨h1,fun t=>jO h2.sle h2.ge _ (h.env t),qY h2.sle h2.ge h.dfs,h.size⟩
def uQ (ap:AP) (hp0:Hp) (m:aH) (S:az) (w:World) (nt:Nat) (env:dK) (hp:Hp) (dfs:List (Nat × List AV)) (Q:Exit→Act→World→Prop):Option AV→Prop
 |none=> ∀ m' S' w' a',Fr (ah hp0) m S w (ah hp) m' S' w'→FR ap env hp dfs nt m' S' w' a'→Q .normal a' w'
 |some v=> ∀ m' S' w' a' cv,Fr (ah hp0) m S w (ah hp) m' S' w'→FR ap env hp dfs nt m' S' w' a'→VR (ah hp) m' S' v cv→Q (.panic [{v:=cv,recovered:=false}]) a' w'
theorem qh {ops:Array Oper} {Q:Exit→Act→World→Prop} {i:Nat} {o:Oper} (b:ops[i]? =some o) (rest:List Nat) (a:Act) (w:World):wpOps P ops Q (i::rest) a w↔VJ P ops Q o (wpOps P ops Q rest) a w:=by
 simp only [wpOps,b,VJ]
theorem JI {hp ups:Hp} {nid:Nat} (d:∀ b B,ah hp b=some B→b<nid) (c:(ups.map (·.1)).all (fun x=>Xq6 x (nid+4))=true):∀ b B,ah (ups++hp) b=some B→b<nid+4:=by
 intro b B a;rw [eY] at a;split at a
 ·rename_i x e;have hm:b ∈ ups.map (·.1):=Ba e;exact dV (List.all_eq_true.1 c b hm)
 ·have:=d b B a;omega
theorem jK (A:dJ P ap) (hH:gz P ap H) {ops:List Oper} {nt:Nat} (K:∀ o ∈ ops,∀ d,o.dst=some d→d<nt):∀ (l:List Oper) (i nid:Nat) (s s':RS) (p:Option AV) (c c':Cx),m_ ap H ops l nid s c= .ok (s',p) c'→c'.Ok→
  c.Ok∧(s.md= .dead→pR s.dec s.env→l=ops.drop i→(∀ b B,ah s.hp b=some B→b<nid)→
  s'.md= .dead∧∀ m S w a,FR ap s.env s.hp s.dfs nt m S w a→∀ Q,uQ ap s.hp m S w nt s'.env s'.hp s'.dfs Q p→wpOps P ops.toArray Q (List.range' i l.length) a w)
 | [],i,nid,s,s',p,c,c',h,hc=>by
  cases h;exact ⟨hc,fun e _ _ _=> ⟨e,fun m S w a u Q x=>x m S w a (Fr.refl _ _ _ _) u⟩⟩
 | o ::r,i,nid,s,s',p,c,c',h,hc=>by
  simp only [m_] at h;obtain ⟨⟨s1,p1⟩,c1,e1,h⟩:=R.bind_ok h;dsimp only at h;have hfresh:(∀ b B,ah s.hp b=some B→b<nid)→∀ j,j<4→ah s.hp (nid+j)=none:=by
   intro I j _;cases hb:ah s.hp (nid+j) with
   |none=>rfl
   |some B=>have:=I _ _ hb;omega
  have z:o::r=ops.drop i→ops[i]? =some o∧ops.toArray[i]? =some o∧r=ops.drop (i+1)∧∀ d,o.dst=some d→d<nt:=by
   intro G;have k:ops[i]? =some o:=by
    have:(ops.drop i)[0]? =some o:=by rw [← G];rfl
    simpa using this
   have O:r=ops.drop (i+1):=by
    have:r=(ops.drop i).drop 1:=by rw [← G];rfl
    rw [this,Xx7]
   exact ⟨k,by simpa using k,O,K o (χ k)⟩
  cases p1 with
  |some v=>
   cases h;obtain ⟨E,F⟩:=pF A hH e1 hc;refine ⟨E,fun e f G I=> ?_⟩;obtain ⟨k,n,O,hd⟩:=z G;obtain ⟨v1,rb,ups,df,hs⟩:=F e f;refine ⟨by rw [hs.md,e],fun m S w a u Q x=> ?_⟩;rw [Γ,Xzf,qh n];refine hs.sem (ah s.hp) m S w a u.srel (fun t _=>u.env t) (fun b _ B X=>X) (hfresh I) Q _ ?_;intro cv Y S' w' T y N;have hst:=u.still T y;rw [jd] at y N;obtain ⟨q,rfl⟩:=hs.envp (by simp);have x:=x Y S' w' a cv;rw [hs.hp,hs.dfs,q] at x;exact x y hst N
  | none=>
   dsimp only at h;cases D:s1.feet with
   |nil=>rw [D] at h;cases h
   | cons ft fr=>
    rw [D] at h;dsimp only at h;split at h
    ·rename_i L;obtain ⟨hc1,ih⟩:=jK A hH K r (i+1) (nid+4) s1 s' p c1 c' h hc;obtain ⟨E,F⟩:=pF A hH e1 hc1;refine ⟨E,fun e f G I=> ?_⟩;obtain ⟨k,n,O,hd⟩:=z G;obtain ⟨v1,rb,ups,df,hs⟩:=F e f;have C:=hs.feet rfl;rw [D] at C;simp only [List.cons.injEq] at C;rw [C.1] at L;obtain ⟨M,ih⟩:=ih (by rw [hs.md,e]) (hs.dec rfl) O (by rw [hs.hp];exact JI I L);refine ⟨M,fun m S w a u Q x=> ?_⟩;rw [Γ,Xzf,qh n];refine hs.sem (ah s.hp) m S w a u.srel (fun t _=>u.env t) (fun b _ B X=>X) (hfresh I) Q _ ?_;intro cv Y S' w' ds T y N h4;have J:=u.put hd T y N h4;rw [jd] at y;have q:=hs.env rfl;rw [← q,← hs.hp,← hs.dfs] at J;refine ih Y S' w' _ J Q ?_;rw [← hs.hp] at y;cases p with
     |none=>exact fun W S2 U a2 V h6=>x W S2 U a2 (y.trans V) h6
     |some v=>exact fun W S2 U a2 Z V h6 h7=>x W S2 U a2 Z (y.trans V) h6 h7
    ·cases h
end
end AM
namespace AM
open Go
structure iW where
 dst:Option Nat
 v:AV
 rt:List Nat
 rb:List Nat
 ups:List (Nat × aP)
def KR (d:Option Nat):List Nat:=match d with|some d=> [d]|none=> []
def iW.foot (r:iW):uf:={rt:=r.rt,wt:=KR r.dst,rb:=r.rb,wb:=r.ups.map (·.1)}
def j_ (D:Nat→Bool):Nat→dK→List iW→dK
 |_,e,[]=>e
 |j,e,r::rs=>j_ D (j+1) (match D j with|true=>mX e r.dst r.v|false=>e) rs
def lH (D:Nat→Bool):Nat→Hp→List iW→Hp
 |_,h,[]=>h
 |j,h,r::rs=>lH D (j+1) (match D j with|true=>r.ups++h|false=>h) rs
theorem kT {D D':Nat→Bool} {t:Nat}:∀ (rs:List iW) (j:Nat) (e e':dK),e.get t=e'.get t→(∀ k r,rs[k]? =some r→r.dst=some t→D (j+k)=D' (j+k))→(j_ D j e rs).get t=(j_ D' j e' rs).get t
 | [],_,_,_,he,_=>he
 | r::rs,j,e,e',he,h=>by
  simp only [j_];refine kT rs (j+1) _ _ ?_ fun k c b a=> ?_
  ·by_cases a:r.dst=some t
   ·have h0:=h 0 r rfl a;rw [Xqo] at h0;rw [h0];cases D' j with
    |true=>simp only [a,gU]
    |false=>exact he
   ·cases D j<;>cases D' j<;>simp only [vI a,he]
  ·have:=h (k+1) c (by simpa using b) a;rwa [show j+(k+1)=j+1+k by omega] at this
theorem FH:∀ {l:Hp} {b:Nat},b ∉ l.map (·.1)→ah l b=none:=by
 intro l b h;cases a:ah l b with
 |none=>rfl
 |some B=>exact absurd (Ba a) h
theorem oM {ups hp:Hp} {b:Nat} (h:b ∉ ups.map (·.1)):ah (ups++hp) b=ah hp b:=by
 rw [eY,FH h]
theorem qJ:∀ {l:Hp} {b:Nat},b ∈ l.map (·.1)→∃ B,ah l b=some B
 | [],b,h=>by simp at h
 | (c,C)::r,b,h=>by
  simp only [ah];cases a:υ c b with
  |true=>exact ⟨C,rfl⟩
  |false=>
   simp only [φ,Xqs] at h;rcases h with h|h
   ·subst h;simp at a
   ·exact qJ h
theorem vS {ups hp hp':Hp} {b:Nat} (h:b ∈ ups.map (·.1)):ah (ups++hp) b=ah (ups++hp') b:=by
 obtain ⟨B,a⟩:=qJ h;rw [eY,eY,a]
theorem nN {D D':Nat→Bool} {b:Nat}:∀ (rs:List iW) (j:Nat) (h h':Hp),ah h b=ah h' b→(∀ k r,rs[k]? =some r→b ∈ r.ups.map (·.1)→D (j+k)=D' (j+k))→ah (lH D j h rs) b=ah (lH D' j h' rs) b
 | [],_,_,_,he,_=>he
 | r::rs,j,e,e',he,h=>by
  simp only [lH];refine nN rs (j+1) _ _ ?_ fun k d c a=> ?_
  ·by_cases a:b ∈ r.ups.map (·.1)
   ·have h0:=h 0 r rfl a;rw [Xqo] at h0;rw [h0];cases D' j with
    |true=>exact vS a
    |false=>exact he
   ·cases D j<;>cases D' j<;>simp only [oM a,he]
  ·have:=h (k+1) d (by simpa using c) a;rwa [show j+(k+1)=j+1+k by omega] at this
theorem rJ:∀ (rs:List iW) (j:Nat) (e:dK) {D:Nat→Bool},(∀ k,k<rs.length→D (j+k)=false)→j_ D j e rs=e
 | [],_,_,_,_=>rfl
 |r::rs,j,e,D,h=>by
  have h0:=h 0 (by simp);rw [Xqo] at h0;simp only [j_,h0];exact rJ rs (j+1) e fun k a=>by have:=h (k+1) (by simpa using a);rwa [show j+(k+1)=j+1+k by omega] at this
theorem kX:∀ (rs:List iW) (j:Nat) (e:Hp) {D:Nat→Bool},(∀ k,k<rs.length→D (j+k)=false)→lH D j e rs=e
 | [],_,_,_,_=>rfl
 |r::rs,j,e,D,h=>by
  have h0:=h 0 (by simp);rw [Xqo] at h0;simp only [lH,h0];exact kX rs (j+1) e fun k a=>by have:=h (k+1) (by simpa using a);rwa [show j+(k+1)=j+1+k by omega] at this
def lF (e:dK) (rs:List iW):dK:=j_ (fun _=>true) 0 e rs
def Az (h:Hp) (rs:List iW):Hp:=lH (fun _=>true) 0 h rs
theorem uq (D:Nat→Bool):∀ (rs:List iW) (j d:Nat) (e:dK),j_ D (j+d) e rs=j_ (fun k=>D (k+d)) j e rs
 | [],_,_,_=>rfl
 |r::rs,j,d,e=>by
  simp only [j_];rw [show j+d+1=j+1+d by omega];exact uq D rs (j+1) d _
theorem wR (D:Nat→Bool):∀ (rs:List iW) (j d:Nat) (e:Hp),lH D (j+d) e rs=lH (fun k=>D (k+d)) j e rs
 | [],_,_,_=>rfl
 |r::rs,j,d,e=>by
  simp only [lH];rw [show j+d+1=j+1+d by omega];exact wR D rs (j+1) d _
theorem rM (e:dK) (r:iW) (a:List iW):lF e (r::a)=lF (mX e r.dst r.v) a:=by
 simp only [lF,j_];exact uq (fun _=>true) a 0 1 _
theorem vO (h:Hp) (r:iW) (a:List iW):Az h (r::a)=Az (r.ups++h) a:=by
 simp only [Az,lH];exact wR (fun _=>true) a 0 1 _
theorem vF:∀ (rs:List iW) (k:Nat) (e:dK),j_ (fun j=>decide (j<k)) 0 e rs=lF e (rs.take k)
 |rs,0,e=>by
  simp only [Xzb];exact rJ rs 0 e fun _ _=>by simp
 | [],k+1,e=>rfl
 |r::rs,k+1,e=>by
  simp only [Xxj,rM,j_];rw [show decide (0<k+1)=true by simp];dsimp only;rw [← vF rs k];have:=uq (fun j=>decide (j<k+1)) rs 0 1 (mX e r.dst r.v);rw [this];congr 1;funext j;simp
theorem JF:∀ (rs:List iW) (k:Nat) (e:Hp),lH (fun j=>decide (j<k)) 0 e rs=Az e (rs.take k)
 |rs,0,e=>by
  simp only [Xzb];exact kX rs 0 e fun _ _=>by simp
 | [],k+1,e=>rfl
 |r::rs,k+1,e=>by
  simp only [Xxj,vO,lH];rw [show decide (0<k+1)=true by simp];dsimp only;rw [← JF rs k];have:=wR (fun j=>decide (j<k+1)) rs 0 1 (r.ups++e);rw [this];congr 1;funext j;simp
theorem DX (e:dK):∀ (b:List iW) (k:Nat) (r:iW),b[k]? =some r→lF e (b.take (k+1))=mX (lF e (b.take k)) r.dst r.v:=by
 intro b
 induction b generalizing e with
 |nil=>intro k r h;simp at h
 | cons a b ih=>
  intro k r h;cases k with
  |zero=>simp at h;subst h;rfl
  |succ k=>
   simp only [Xxj,rM];exact ih _ k r (by simpa using h)
theorem Qu (e:Hp):∀ (b:List iW) (k:Nat) (r:iW),b[k]? =some r→Az e (b.take (k+1))=r.ups++Az e (b.take k):=by
 intro b
 induction b generalizing e with
 |nil=>intro k r h;simp at h
 | cons a b ih=>
  intro k r h;cases k with
  |zero=>simp at h;subst h;rfl
  |succ k=>
   simp only [Xxj,vO];exact ih _ k r (by simpa using h)
section
variable {P:Program} {ap:AP} {H:bG}
structure Po (P:Program) (ap:AP) (ops:List Oper) (i nid:Nat) (s s':RS) (recs:List iW):Prop where
 env:s'.env=lF s.env recs
 hp:s'.hp=Az s.hp recs
 feet:s'.feet=(recs.map iW.foot).reverse++s.feet
 dle:s.dfs.length≤s'.dfs.length
 bound:∀ (k:Nat) (r:iW),recs[k]? =some r→∀ b ∈ r.ups.map (·.1),b<nid+4*k+4
 sem:s'.dfs.length=s.dfs.length→s'.dfs=s.dfs∧∀ (k:Nat) (r:iW),recs[k]? =some r→∃ o,ops[i+k]? =some o∧r.dst=o.dst∧EN P ap ops.toArray o (nid+4*k) (lF s.env (recs.take k)) (Az s.hp (recs.take k)) r.rt r.rb r.v r.ups [] none
theorem Tm (n:dJ P ap) (M:gz P ap H) {ops:List Oper}:∀ (l:List Oper) (i nid:Nat) (s s':RS) (c c':Cx),m_ ap H ops l nid s c= .ok (s',none) c'→c'.Ok→
  c.Ok∧(s.md= .dead→pR s.dec s.env→l=ops.drop i→s'.md= .dead∧∃ recs:List iW,recs.length=l.length∧Po P ap ops i nid s s' recs)
 | [],i,nid,s,s',c,c',h,hc=>by
  cases h;exact ⟨hc,fun a _ _=> ⟨a,[],rfl,⟨rfl,rfl,rfl,ζ _,fun k r h=>by simp at h,fun _=> ⟨rfl,fun k r h=>by simp at h⟩⟩⟩⟩
 | o :: r,i,nid,s,s',c,c',h,hc=>by
  simp only [m_] at h;obtain ⟨⟨z,T⟩,W,O,h⟩:=R.bind_ok h;dsimp only at h;cases T with
  |some v=>cases h
  | none=>
   dsimp only at h;cases e:z.feet with
   |nil=>rw [e] at h;cases h
   | cons ft fr=>
    rw [e] at h;dsimp only at h;split at h
    ·rename_i p;obtain ⟨E,V⟩:=Tm n M r (i+1) (nid+4) z s' W c' h hc;obtain ⟨A,G⟩:=pF n M O E;refine ⟨A,fun a t J=> ?_⟩;have D:ops[i]? =some o:=by
      have:(ops.drop i)[0]? =some o:=by rw [← J];rfl
      simpa using this
     have X:r=ops.drop (i+1):=by
      have:r=(ops.drop i).drop 1:=by rw [← J];rfl
      rw [this,Xx7]
     obtain ⟨U,rb,ups,C,hs⟩:=G a t;have d:=hs.feet rfl;rw [e] at d;simp only [List.cons.injEq] at d;rw [d.1] at p;obtain ⟨x,recs,y,f⟩:=V (by rw [hs.md,a]) (hs.dec rfl) X;refine ⟨x,{dst:=o.dst,v:=U,rt:=lw o.op.operands.toList++eU ops o,rb:=rb,ups:=ups}::recs,by simp [y], ?_⟩;have B:s.dfs.length≤z.dfs.length:=by rw [hs.dfs];simp
     refine ⟨?_, ?_, ?_,Xqg B f.dle, ?_, ?_⟩
     ·rw [f.env,rM,hs.env rfl]
     ·rw [f.hp,vO,hs.hp]
     ·rw [f.feet,hs.feet rfl];simp [iW.foot,KR,Fa];cases o.dst<;>rfl
     ·intro k q j b K;cases k with
      |zero=>
       simp at j;subst j;exact dV (List.all_eq_true.1 p b K)
      |succ k=>
       have:=f.bound k q (by simpa using j) b K;omega
     ·intro Z;have h1:=f.dle;obtain ⟨I,u⟩:=f.sem (by omega);have F:C= []:=by
       have:C.length=0:=by
        have:=hs.dfs;have h3:z.dfs.length=C.length+s.dfs.length:=by rw [this];simp
        omega
       exact Xxe this
      subst F;refine ⟨by rw [I,hs.dfs];rfl, ?_⟩;intro k q j;cases k with
      |zero=>
       simp at j;subst j;exact ⟨o,D,rfl,hs.sem⟩
      |succ k=>
       obtain ⟨Q,Y,N,L⟩:=u k q (by simpa using j);refine ⟨Q,by rw [show i+(k+1)=i+1+k by omega];exact Y,N, ?_⟩;rw [Xxj,rM,vO];rw [hs.env rfl,hs.hp] at L;rw [show nid+4*(k+1)=nid+4+4*k by omega];exact L
    ·cases h
end
end AM
namespace AM
open Go
theorem Ai {md:Region.Mode} (b:Array Nat) (i:Nat):∀ (l:List Edge) (s:Nat),(l.foldl (fun s e=>if Region.binds md e then s|||2^e.on|||b.getD e.on 0 else s) s).testBit i=true→
  s.testBit i=true∨∃ e ∈ l,Region.binds md e=true∧(i=e.on∨(b.getD e.on 0).testBit i=true)
 | [],s,h=> .inl h
 | e::r,s,h=>by
  simp only [Xqw] at h;rcases Ai b i r _ h with a|⟨e',a,d⟩
  ·split at a
   ·rename_i c;simp only [Nat.testBit_or,Xxf,Nat.testBit_two_pow,decide_eq_true_eq] at a;rcases a with (a|a)|a
    ·exact .inl a
    ·exact .inr ⟨e,by simp,c,.inl a.symm⟩
    ·exact .inr ⟨e,by simp,c,.inr a⟩
   ·exact .inl a
  ·exact .inr ⟨e',by simp [a],d⟩
def lN (acc:Array Nat) (o:Oper):Array Nat:=acc.push (o.after.toList.foldl (fun s e=>if Region.binds .any e then s|||2^e.on|||acc.getD e.on 0 else s) 0)
theorem Aj (a:Array Nat) (x:Nat):(a.push x).getD a.size 0=x:=by simp [Array.getD_eq_getD_getElem?]
def yR (ops:List Oper) (D:Nat→Bool):Prop:=∀ (k:Nat) (o:Oper),ops[k]? =some o→D k=true→∀ e ∈ o.after,Region.binds .any e=true→D e.on=true
def VL (D:Nat→Bool) (acc:Array Nat):Prop:=∀ k,D k=true→∀ i,(acc.getD k 0).testBit i=true→D i=true
theorem KF {ops:List Oper} {D:Nat→Bool} (n:yR ops D):∀ (l:List Oper) (acc:Array Nat),VL D acc→l=ops.drop acc.size→VL D (l.foldl lN acc)
 | [],acc,h,_=>h
 | o ::r,acc,h,hl=>by
  simp only [Xqw];have c:ops[acc.size]? =some o:=by
   have:(ops.drop acc.size)[0]? =some o:=by rw [← hl];rfl
   simpa using this
  refine KF n r _ ?_ ?_
  ·intro k j i a;by_cases hks:k<acc.size
   ·refine h k j i ?_;simpa [lN,Array.getD_eq_getD_getElem?,Array.getElem?_push,Nat.ne_of_lt hks] using a
   ·by_cases hke:k=acc.size
    ·subst hke;rw [lN,Aj] at a;rcases Ai acc i _ _ a with b|⟨e,b,p,d⟩
     ·simp at b
     ·have f:=n _ o c j e (by simpa using b) p;rcases d with rfl|d
      ·exact f
      ·exact h _ f i d
    ·have:(lN acc o)[k]? =none:=by
      simp only [lN];rw [Array.getElem?_eq_none];simp;omega
     simp [Array.getD_eq_getD_getElem?,this] at a
  ·have:(lN acc o).size=acc.size+1:=by simp [lN]
   rw [this,← Xx7,← hl];rfl
theorem NU (ops:List Oper):Region.before ops.toArray=ops.foldl lN #[]:=by
 simp only [Region.before,← Array.foldl_toList];rfl
theorem mF {ops:List Oper} {D:Nat→Bool} (b:yR ops D) {k i:Nat} (c:D k=true) (h:((Region.before ops.toArray).toList.getD k 0).testBit i=true):D i=true:=by
 have:=KF b ops #[] (fun k _ i a=>by simp at a) (by simp);rw [← NU] at this;refine this k c i ?_;rw [Xqj] at h;rw [Array.getD_eq_getD_getElem?];simpa using h
theorem nS {a b:List Nat} {x:Nat} (c:x ∈ a) (d:x ∈ b):Bf a b=true:=List.any_eq_true.2 ⟨x,c,fO.2 d⟩
structure EM (n:Nat) (bef:Nat→Nat→Bool) (recs:List iW):Prop where
 ok:∀ i j a b,recs[i]? =some a→recs[j]? =some b→i<j→(iY a.foot b.foot=true∨∃ x ∈ b.ups.map (·.1),n+4*i≤x∧x<n+4*i+4)→bef j i=true
theorem BF {n:Nat} {d:List Nat} {recs:List iW} (h:qO n d (recs.map iW.foot).reverse=true):EM n (fun j i=>(d.getD j 0).testBit i) recs:=by
 refine ⟨fun i j a b k l f e=> ?_⟩;simp only [qO,List.reverse_reverse,Xjk] at h;have c:=h (a.foot,i) (by rw [Xxv];simp [k]) (b.foot,j) (by rw [Xxv];simp [l]);simp only [Xxf,Xqi] at c;rcases c with (c|c)|c
 ·have:Xq6 i j=true:=Xqb f;rw [this] at c;cases c
 ·exfalso;rw [Bool.or_eq_false_iff] at c;rcases e with e|⟨x,p,o,q⟩
  ·rw [e] at c;cases c.1
  ·have:=List.any_eq_false.1 c.2 x p;simp only [δ,not_and] at this;exact this (Xqb o) (Xqb q)
 ·exact c
section
variable {P:Program} {ap:AP} {H:bG}
theorem FR.congr {env env':dK} {hp hp':Hp} {dfs:List (Nat × List AV)} {nt:Nat} {m:aH} {S:az} {w:World} {a:Act} (h:FR ap env hp dfs nt m S w a) (c:∀ t,env'.get t=env.get t) (b:ah hp'=ah hp):FR ap env' hp' dfs nt m S w a:=by
 refine ⟨b ▸ h.srel,fun t=> ?_,b ▸ h.dfs,h.size⟩;rw [c,b];exact h.env t
def lS (listed:Array Bool):Nat→Bool:=fun k=>listed.getD k false
theorem Uf {listed:Array Bool} {i:Nat} (a:i<listed.size) (k:Nat):lS (listed.setIfInBounds i true) k=(if k=i then true else lS listed k):=by
 simp only [lS,Array.getD_eq_getD_getElem?];by_cases h:k=i
 ·subst h;rw [if_pos rfl,Array.getElem?_setIfInBounds_self_of_lt a];rfl
 ·rw [if_neg h,Array.getElem?_setIfInBounds_ne (fun e=>h e.symm)]
def y_ (n:Nat) (D:Nat→Bool):Nat:=((Xqd n).filter fun i=> !D i).length
theorem yj {D D':Nat→Bool} {i:Nat} (c:D i=false) (b:∀ k,D' k=if k=i then true else D k):∀ (l:List Nat),l.Nodup→i ∈ l→(l.filter fun k=> !D k).length=(l.filter fun k=> !D' k).length+1
 | [],_,h=>by simp at h
 | a::r,hn,h=>by
  rw [Xj5] at hn;by_cases ha:a=i
  ·subst ha;have hsame:r.filter (fun k=> !D k)=r.filter (fun k=> !D' k):=by
    refine List.filter_congr fun k f=> ?_
    have:k ≠ a:=fun e=>hn.1 (e ▸ f)
    rw [b k,if_neg this]
   have d:D' a=true:=by rw [b a,if_pos rfl]
   simp [c,d,hsame]
  ·have j:=yj c b r hn.2 (by simpa [Ne.symm ha] using h);have:D' a=D a:=by rw [b a,if_neg ha]
   simp only [List.filter_cons,this];split<;>simp [j]
theorem Ro {ops:List Oper} (i:oH ops=true) {listed:Array Bool} (n:listed.size=ops.length) (b:Region.ready .any ops.toArray listed= []):∀ k,k<ops.length→lS listed k=true:=by
 intro k
 induction k using Nat.strongRecOn with
 | _ k ih=>
  intro c;cases d:lS listed k with
  |true=>rfl
  | false=>
   exfalso;have a:k ∈ Region.ready .any ops.toArray listed:=by
    simp only [Region.ready,Xxg,Xws,Xqz];refine ⟨c, ?_⟩;have l:listed.getD k true=false:=by
     simp only [lS,Array.getD_eq_getD_getElem?] at d ⊢;rw [Array.getElem?_eq_getElem (by omega)] at d ⊢;simpa using d
    have p:ops.toArray[k]? =some ops[k]:=by simp [c]
    rw [l,p];simp only [Bool.not_false,Bool.true_and,Xqu,Xxd,Array.all_eq_true',Xxf,Xqi];intro e j;cases f:Region.binds .any e with
    |false=>exact .inl rfl
    |true=>
     right;simp only [oH,Xjk] at i;have h:=i (ops[k],k) (by rw [Xxv];simp [c]) e (by simpa using j);rw [f] at h;simp only [Xw3,Xw6] at h;have o:=dV h;exact ih e.on o (by omega)
   rw [b] at a;cases a
theorem BM {ops:List Oper} {listed:Array Bool} (f:listed.size=ops.length) {i:Nat} (h:i ∈ Region.ready .any ops.toArray listed):∃ o,ops[i]? =some o∧lS listed i=false∧i<ops.length∧∀ e ∈ o.after,Region.binds .any e=true→lS listed e.on=true:=by
 simp only [Region.ready,Xxg,Xws,Xqz,δ,Xqi] at h;obtain ⟨a,b,c⟩:=h;have k:ops.toArray[i]? =some ops[i]:=by simp [a]
 rw [k] at c;simp only [Xqu,Xxd,Array.all_eq_true',Xxf,Xqi] at c;refine ⟨ops[i],ν a, ?_,a,fun e d j=> ?_⟩
 ·simp only [lS,Array.getD_eq_getD_getElem?] at b ⊢;rw [Array.getElem?_eq_getElem (by omega)] at b ⊢;simpa using b
 ·rcases c e d with h|h
  ·rw [j] at h;cases h
  ·exact h
end
end AM
namespace AM
open Go
theorem PL {a b:uf} {x:Nat} (h:x ∈ a.wt) (c:x ∈ b.rt):iY a b=true:=by simp [iY,nS h c]
theorem GM {a b:uf} {x:Nat} (h:x ∈ a.wt) (c:x ∈ b.wt):iY a b=true:=by simp [iY,nS h c]
theorem PK {a b:uf} {x:Nat} (h:x ∈ a.rt) (c:x ∈ b.wt):iY a b=true:=by simp [iY,nS h c]
theorem N7 {a b:uf} {x:Nat} (h:x ∈ a.wb) (c:x ∈ b.rb):iY a b=true:=by simp [iY,nS h c]
theorem DU {a b:uf} {x:Nat} (h:x ∈ a.wb) (c:x ∈ b.wb):iY a b=true:=by simp [iY,nS h c]
theorem NZ {a b:uf} {x:Nat} (h:x ∈ a.rb) (c:x ∈ b.wb):iY a b=true:=by simp [iY,nS h c]
theorem qK {d:Option Nat} {t:Nat} (h:d=some t):t ∈ KR d:=by subst h;simp [KR]
section
variable {P:Program} {ap:AP} {H:bG}
structure Yj (ap:AP) (ops:List Oper) (recs:List iW) (e0:dK) (hp0:Hp) (dfs:List (Nat × List AV)) (nt:Nat) (m0:aH) (S0:az) (w0:World) (listed:Array Bool) (m:aH) (S:az) (w:World) (a:Act):Prop where
 sz:listed.size=ops.length
 cl:yR ops (lS listed)
 fr:Fr (ah hp0) m0 S0 w0 (ah (lH (lS listed) 0 hp0 recs)) m S w
 rel:FR ap (j_ (lS listed) 0 e0 recs) (lH (lS listed) 0 hp0 recs) dfs nt m S w a
theorem G5 {ops:List Oper} {recs:List iW} {s:RS} {A nt:Nat} (hnt:∀ o ∈ ops,∀ d,o.dst=some d→d<nt) (hlen:recs.length=ops.length)
  (hbound:∀ (k:Nat) (r:iW),recs[k]? =some r→∀ b ∈ r.ups.map (·.1),b<A+4*k+4)
  (hsem:∀ (k:Nat) (r:iW),recs[k]? =some r→∃ o,ops[k]? =some o∧r.dst=o.dst∧∀ (D:Nat→Bool) m S w (a:Act),bf ap (ah (lH D 0 s.hp recs)) m S w→(∀ t ∈ r.rt,VR (ah (lH D 0 s.hp recs)) m S ((lF s.env (recs.take k)).get t) (a.tmps.getD t undef))→
   (∀ b ∈ r.rb,ah (Az s.hp (recs.take k)) b=ah (lH D 0 s.hp recs) b)→(∀ j,j<4→ah (lH D 0 s.hp recs) (A+4*k+j)=none)→(∀ j,((Region.before ops.toArray).toList.getD j 0).testBit k=true→D j=false)→
   ∀ (Q:Exit→Act→World→Prop) (K:Act→World→Prop),VK ap o (ah (lH D 0 s.hp recs)) m S w a r.v r.ups [] Q K none→VJ P ops.toArray Q o K a w)
  (hord:EM A (fun j i=>((Region.before ops.toArray).toList.getD j 0).testBit i) recs) (hback:oH ops=true) (hn0:∀ b B,ah s.hp b=some B→b<A) {m0:aH} {S0:az} {w0:World} {Q:Exit→Act→World→Prop}
  (hQ:∀ m S w a,Fr (ah s.hp) m0 S0 w0 (ah (Az s.hp recs)) m S w→FR ap (lF s.env recs) (Az s.hp recs) s.dfs nt m S w a→Q .normal a w):
  ∀ (n:Nat) (listed:Array Bool) (m:aH) (S:az) (w:World) (a:Act),Yj ap ops recs s.env s.hp s.dfs nt m0 S0 w0 listed m S w a→y_ ops.length (lS listed)≤n→wpAny P .any ops.toArray Q n listed a w:=by
 have hdone:∀ (listed:Array Bool) (m:aH) (S:az) (w:World) (a:Act),Yj ap ops recs s.env s.hp s.dfs nt m0 S0 w0 listed m S w a→(∀ k,k<ops.length→lS listed k=true)→Q .normal a w:=by
  intro listed m S w a u y;have hh:∀ b,ah (Az s.hp recs) b=ah (lH (lS listed) 0 s.hp recs) b:=fun b=>
   nN recs 0 _ _ rfl fun k r c _=>by rw [y (0+k) (by have:=(List.getElem?_eq_some_iff.1 c).1;omega)]
  have he:∀ t,(lF s.env recs).get t=(j_ (lS listed) 0 s.env recs).get t:=fun t=>
   kT recs 0 _ _ rfl fun k r c _=>by rw [y (0+k) (by have:=(List.getElem?_eq_some_iff.1 c).1;omega)]
  have F:=funext hh;exact hQ m S w a (F ▸ u.fr) (u.rel.congr he F)
 intro n
 induction n with
 | zero=>
  intro listed m S w a u hm;have y:∀ k,k<ops.length→lS listed k=true:=by
   intro k c;cases f:lS listed k with
   |true=>rfl
   |false=>
    have R:k ∈ (Xqd ops.length).filter fun i=> !lS listed i:=by simp [c,f]
    have:(Xqd ops.length).filter (fun i=> !lS listed i)= []:=Xxe (Nat.le_zero.1 hm);rw [this] at R;cases R
  refine ⟨?_,hdone listed m S w a u y⟩;cases hr:Region.ready .any ops.toArray listed with
  |nil=>rfl
  |cons i r=>
   obtain ⟨o,_,p,h3,_⟩:=BM u.sz (i:=i) (by rw [hr];simp);rw [y i h3] at p;cases p
 | succ n ih=>
  intro listed m S w a u hm;refine ⟨fun Z=>hdone listed m S w a u (Ro hback u.sz Z),fun i hi=> ?_⟩;obtain ⟨o,L,G,X,hedges⟩:=BM u.sz hi;have v:recs[i]? =some recs[i]:=ν (by omega);generalize recs[i]=r at v;obtain ⟨o',U,I,hstep⟩:=hsem i r v;rw [L] at U;cases U;have Y:i<listed.size:=by rw [u.sz];exact X
  have l:=Uf Y;have O:yR ops (lS (listed.setIfInBounds i true)):=by
   intro k o2 c f e he z;rw [l] at f ⊢;split
   ·rfl
   ·split at f
    ·rename_i C;subst C;rw [L] at c;cases c;exact hedges e he z
    ·exact u.cl k o2 c f e he z
  have N:∀ k q,recs[k]? =some q→k<i→(iY q.foot r.foot=true∨∃ x ∈ r.ups.map (·.1),A+4*k≤x∧x<A+4*k+4)→lS listed k=true:=by
   intro k q c C hc;have E:=hord.ok k i q r c v C hc;have p:=mF O (k:=i) (i:=k) (by rw [l,if_pos rfl]) E;rw [l,if_neg (by omega)] at p;exact p
  have hhigh:∀ k q,recs[k]? =some q→i<k→(iY r.foot q.foot=true∨∃ x ∈ q.ups.map (·.1),A+4*i≤x∧x<A+4*i+4)→lS listed k=false:=by
   intro k q c C hc;cases f:lS listed k with
   |false=>rfl
   |true=>
    have E:=hord.ok i k r q v c C hc;have p:=mF u.cl f E;rw [G] at p;cases p
  have M:∀ k q,recs[k]? =some q→(k<i→iY q.foot r.foot=true)→(i<k→iY r.foot q.foot=true)→decide (k<i)=lS listed k:=by
   intro k q c E p;rcases Xxx k i with h|h|h
   ·rw [N k q c h (.inl (E h))];simp [h]
   ·subst h;rw [G];simp
   ·rw [hhigh k q c h (.inl (p h))];simp;omega
  have hagr':∀ k q,recs[k]? =some q→(k<i→iY q.foot r.foot=true)→(i<k→iY r.foot q.foot=true)→lS (listed.setIfInBounds i true) k=decide (k<i+1):=by
   intro k q c E p;rw [l];rcases Xxx k i with h|h|h
   ·rw [if_neg (by omega),N k q c h (.inl (E h))];simp;omega
   ·subst h;simp
   ·rw [if_neg (by omega),hhigh k q c h (.inl (p h))];simp;omega
  have W:∀ t ∈ r.rt,(lF s.env (recs.take i)).get t=(j_ (lS listed) 0 s.env recs).get t:=by
   intro t J;rw [← vF];refine kT recs 0 _ _ rfl fun k q c f=> ?_
   rw [Θ];exact M k q c (fun _=>PL (qK f) J) (fun _=>PK J (qK f))
  have hhp:∀ b ∈ r.rb,ah (Az s.hp (recs.take i)) b=ah (lH (lS listed) 0 s.hp recs) b:=by
   intro b z;rw [← JF];refine nN recs 0 _ _ rfl fun k q c f=> ?_
   rw [Θ];exact M k q c (fun _=>N7 f z) (fun _=>NZ z f)
  have hfresh:∀ j,j<4→ah (lH (lS listed) 0 s.hp recs) (A+4*i+j)=none:=by
   intro j hj;have E:ah (lH (lS listed) 0 s.hp recs) (A+4*i+j)=ah (lH (fun _=>false) 0 s.hp recs) (A+4*i+j):=by
    refine nN recs 0 _ _ rfl fun k q c f=> ?_
    rw [Θ];have z:=hbound k q c _ f;rcases Xxx k i with h|h|h
    ·omega
    ·subst h;exact G
    ·exact hhigh k q c h (.inr ⟨_,f,by omega,by omega⟩)
   rw [E,kX recs 0 _ (fun _ _=>rfl)];cases z:ah s.hp (A+4*i+j) with
   |none=>rfl
   |some B=>have:=hn0 _ _ z;omega
  have T:ops.toArray[i]? =some o:=by simpa using L
  have hgoal:VJ P ops.toArray Q o (wpAny P .any ops.toArray Q n (listed.setIfInBounds i true)) a w:=by
   refine hstep (lS listed) m S w a u.rel.srel (fun t J=>by rw [W t J];exact u.rel.env t) hhp hfresh (fun j hj=>by
    cases f:lS listed j with
    |false=>rfl
    |true=>
     have p:=mF u.cl f hj;rw [G] at p;cases p) Q _ ?_
   intro cv m' S' w' ds E p h3 h4;have hF:=u.rel.put (hnt o (χ L)) E p h3 h4;rw [jd] at p;rw [θ] at hF;have he':∀ t,(j_ (lS (listed.setIfInBounds i true)) 0 s.env recs).get t=(mX (j_ (lS listed) 0 s.env recs) o.dst r.v).get t:=by
    intro t;by_cases J:o.dst=some t
    ·have h5:(j_ (lS (listed.setIfInBounds i true)) 0 s.env recs).get t=(j_ (fun j=>decide (j<i+1)) 0 s.env recs).get t:=by
      refine kT recs 0 _ _ rfl fun k q c f=> ?_
      rw [Θ];have V:t ∈ r.foot.wt:=qK (I.trans J);exact hagr' k q c (fun _=>GM (qK f) V) (fun _=>GM V (qK f))
     rw [h5,vF,DX _ _ _ _ v,I,J,gU,gU]
    ·rw [vI J];refine kT recs 0 _ _ rfl fun k q c f=> ?_
     rw [Θ,l,if_neg]
     rintro rfl
     rw [v] at c;cases c;exact J (I ▸ f)
   have F:ah (lH (lS (listed.setIfInBounds i true)) 0 s.hp recs)=ah (r.ups++lH (lS listed) 0 s.hp recs):=by
    funext b;by_cases z:b ∈ r.ups.map (·.1)
    ·have h5:ah (lH (lS (listed.setIfInBounds i true)) 0 s.hp recs) b=ah (lH (fun j=>decide (j<i+1)) 0 s.hp recs) b:=by
      refine nN recs 0 _ _ rfl fun k q c f=> ?_
      rw [Θ];exact hagr' k q c (fun _=>DU f z) (fun _=>DU z f)
     rw [h5,JF,Qu _ _ _ _ v];exact vS z
    ·rw [oM z];refine nN recs 0 _ _ rfl fun k q c f=> ?_
     rw [Θ,l,if_neg]
     rintro rfl
     rw [v] at c;cases c;exact z f
   refine ih _ m' S' w' _ ⟨by rw [Array.size_setIfInBounds];exact u.sz,O, ?_,hF.congr he' F⟩ ?_
   ·rw [F];exact u.fr.trans p
   ·have:=yj G l (Xqd ops.length) Xx2 (by simp [X]);simp only [y_] at hm ⊢;omega
  simp only [wpOp,T];exact hgoal
theorem PT {ops:List Oper} {recs:List iW} {s s':RS} {h nt:Nat} (n:∀ o ∈ ops,∀ d,o.dst=some d→d<nt) (f:recs.length=ops.length) (e:Po P ap ops 0 h s s' recs) (q:s'.dfs.length=s.dfs.length)
  (hord:EM h (fun j i=>((Region.before ops.toArray).toList.getD j 0).testBit i) recs) (hback:oH ops=true) (hn0:∀ b B,ah s.hp b=some B→b<h) {m0:aH} {S0:az} {w0:World} {Q:Exit→Act→World→Prop}
  (hQ:∀ m S w a,Fr (ah s.hp) m0 S0 w0 (ah (Az s.hp recs)) m S w→FR ap (lF s.env recs) (Az s.hp recs) s.dfs nt m S w a→Q .normal a w):
  ∀ (fuel:Nat) (listed:Array Bool) (m:aH) (S:az) (w:World) (a:Act),Yj ap ops recs s.env s.hp s.dfs nt m0 S0 w0 listed m S w a→y_ ops.length (lS listed)≤fuel→wpAny P .any ops.toArray Q fuel listed a w:=by
 obtain ⟨_,c⟩:=e.sem q;refine G5 n f e.bound (fun k r u=> ?_) hord hback hn0 hQ;obtain ⟨o,t,x,A⟩:=c k r u;rw [Θ] at t;exact ⟨o,t,x,fun D m S w a C y p l _ Q K v=>A _ m S w a C y (fun b E B z=>by rw [← p b E];exact z) l Q K v⟩
def lJ (ap:AP) (base:Nat) (keep:List Nat) (hp0:Hp) (m:aH) (S:az) (w:World) (nt:Nat) (s':St) (Q:Exit→Act→World→Prop):aY→Prop
 | .panic v=>match (bZ v).isEmpty with
  |true=> ∀ s1:St,s'=norm base keep s1→uQ ap hp0 m S w nt s1.env s1.hp s1.dfs Q (some v)
  |false=>uQ ap hp0 m S w nt s'.env s'.hp s'.dfs Q (some v)
 | .normal=> ∀ s1:St,s'=norm base keep s1→uQ ap hp0 m S w nt s1.env s1.hp s1.dfs Q none
 |_=>True
theorem F8 (u:dJ P ap) (F:P.follows .mixedOrders=true) (J:gz P ap H) {ops:List Oper} {l:Bool} {nt base:Nat} {keep:List Nat} (x:∀ o ∈ ops,∀ d,o.dst=some d→d<nt) {s:St} {e:aY} {s':St} {c c':Cx} {id:Nat}
  (h:F7 ap H base keep ops l s c= .ok (e,s') c') (hc:c'.Ok):c.Ok∧(s.md= .dead→s'.md= .dead∧(∀ m S w a,FR ap s.env s.hp s.dfs nt m S w a→∀ Q,
   lJ ap base keep s.hp m S w nt s' Q e→(Code.region id ops.toArray l).wp P Q a w)):=by
 unfold F7 at h;obtain ⟨⟨X,p⟩,Y,I,h⟩:=R.bind_ok h;dsimp only at h;have y:∀ b B,ah s.hp b=some B→b<eu s.hp:=fun b B q=>kM q
 cases p with
 | some v=>
  cases l with
  |true=>cases h
  | false=>
   dsimp only at h;split at h
   ·rename_i E;cases h;obtain ⟨i,hs⟩:=jK u J x ops 0 _ _ _ _ _ _ I hc;refine ⟨i,fun f=> ?_⟩;obtain ⟨r,D⟩:=hs f (fun t b q=>by cases q) rfl y;refine ⟨r,fun m S w a j Q A=>wp_region ?_⟩;simp only [lJ,E] at A;have:=D m S w a j Q (A _ rfl);rw [← Xx9] at this;simpa using this
   ·rename_i E;cases h;obtain ⟨i,hs⟩:=jK u J x ops 0 _ _ _ _ _ _ I hc;refine ⟨i,fun f=> ?_⟩;obtain ⟨r,D⟩:=hs f (fun t b q=>by cases q) rfl y;refine ⟨r,fun m S w a j Q A=>wp_region ?_⟩;simp only [lJ,E] at A;have:=D m S w a j Q A;rw [← Xx9] at this;simpa using this
 | none=>
  dsimp only at h;split at h
  ·rename_i hcond;cases h;cases l with
   |false=>
    obtain ⟨i,hs⟩:=jK u J x ops 0 _ _ _ _ _ _ I hc;refine ⟨i,fun f=> ?_⟩;obtain ⟨r,D⟩:=hs f (fun t b q=>by cases q) rfl y;refine ⟨r,fun m S w a j Q A=>wp_region ?_⟩;have:=D m S w a j Q (A _ rfl);rw [← Xx9] at this;simpa using this
   | true=>
    obtain ⟨i,hs⟩:=Tm u J ops 0 _ _ _ _ _ I hc;refine ⟨i,fun f=> ?_⟩;obtain ⟨r,recs,G,n⟩:=hs f (fun t b q=>by cases q) rfl;refine ⟨r,fun m S w a j Q A=>wp_region_any F ?_⟩;simp only [Xw3,Xw6,δ] at hcond;obtain ⟨⟨T,hback⟩,z⟩:=hcond;have z:=aA z;rw [n.feet,List.append_nil] at T;have M:=A _ rfl;have L:=(n.sem z).1;have C:lS (Array.replicate ops.length false)=fun _=>false:=by
     funext k;simp only [lS,Array.getD_eq_getD_getElem?];by_cases U:k<ops.length<;>simp [U]
    have K:ops.toArray.size=ops.length:=by simp
    rw [K];refine PT x G n z (BF T) hback y (m0:=m) (S0:=S) (w0:=w) (Q:=Q) ?_ ops.length _ m S _ a ⟨by simp, ?_, ?_, ?_⟩ ?_
    ·intro V S' w' a' N W;refine M V S' w' a' ?_ ?_
     ·rw [n.hp];exact N
     ·rw [n.hp,n.env,L];exact W
    ·intro k o U O;rw [C] at O;cases O
    ·rw [C,kX recs 0 _ (fun _ _=>rfl)];exact ⟨Ge.refl _ _,ig.refl _,rfl,rfl,rfl,ζ _,fun _ _ _=>rfl,fun _ B h=> .inr ⟨B,h,rfl⟩,fun _ _ _ h=> .inl h,(MW.refl _).mb _ _⟩
    ·rw [C,kX recs 0 _ (fun _ _=>rfl),rJ recs 0 _ (fun _ _=>rfl)];exact ⟨⟨j.srel.inj,fun b B q=>j.srel.blk b B q|>fun ⟨r,D,N⟩=> ⟨r,D,N⟩,j.srel.sealed,j.srel.own,j.srel.glob⟩,j.env,j.dfs,j.size⟩
    ·exact Xqg (List.length_filter_le _ _) (by simp)
  ·cases h
end
end AM
namespace AM
open Go
def yH (acc:List Nat) (b:Nat):List Nat:=if kJ acc b then acc else acc++ [b]
theorem NS (a:List Nat) (b:Nat) (h:a.Nodup):(yH a b).Nodup∧∃ t,yH a b=a++t:=by
 unfold yH;split
 ·exact ⟨h,[],by simp⟩
 ·rename_i d;refine ⟨?_,[b],rfl⟩;rw [List.nodup_append];refine ⟨h,by simp, ?_⟩;intro x f y c e;simp at c;subst c;subst e;exact d (fO.2 f)
theorem lM:∀ (l acc:List Nat),acc.Nodup→(l.foldl yH acc).Nodup∧∃ t,l.foldl yH acc=acc++t
 | [],acc,h=> ⟨h,[],by simp⟩
 |b::r,acc,h=>by
  simp only [Xqw];obtain ⟨d,e,a⟩:=NS acc b h;obtain ⟨i,f,c⟩:=lM r _ d;exact ⟨i,e++f,by rw [c,a,Δ]⟩
theorem zJ:∀ (l acc:List Nat),l.Nodup→(∀ x ∈ l,x ∉ acc)→l.foldl yH acc=acc++l
 | [],acc,_,_=>by simp
 | b::r,acc,h,hd=>by
  rw [Xj5] at h;have c:kJ acc b=false:=by
   cases hm:kJ acc b with
   |false=>rfl
   |true=>exact absurd (fO.1 hm) (hd b (by simp))
  simp only [Xqw];have:yH acc b=acc++ [b]:=by simp [yH,c]
  rw [this,zJ r _ h.2]
  ·simp
  ·intro x a hm;rcases List.mem_append.1 hm with hm|hm
   ·exact hd x (by simp [a]) hm
   ·simp at hm;subst hm;exact h.1 a
theorem OD (l:List Nat):fP l=l.foldl yH []:=rfl
theorem JS (n:Nat) (l:List Nat):(fP (Xqd n++l)).Nodup∧∃ t,fP (Xqd n++l)=Xqd n++t:=by
 rw [OD,List.foldl_append,zJ (Xqd n) [] Xx2 (by simp),θ];exact lM l _ Xx2
theorem qC (rd:bJ):∀ (n:Nat) (l:List Nat),l.Nodup→(mG rd n l).Nodup∧∃ t,mG rd n l=l++t
 |0,l,h=> ⟨h,[],by simp [mG]⟩
 | n+1,l,h=>by
  simp only [mG];split
  ·exact ⟨h,[],by simp⟩
  ·obtain ⟨d,e,a⟩:=lM (l.flatMap fun b=>match rd b with|some B=>(match B.pr with|true=> []|false=>bD B.cells)|none=> []) l h;obtain ⟨i,f,c⟩:=qC rd n _ d;refine ⟨i,e++f, ?_⟩;exact c.trans (by rw [a,Δ])
theorem Eg {f:Nat→AV}:∀ (keep:List Nat) (t:Nat),ah (keep.map fun t=>(t,f t)) t=if t ∈ keep then some (f t) else none
 | [],t=>by simp [ah]
 | a::r,t=>by
  simp only [φ,ah,Eg r t];cases h:υ a t with
  |true=>have:=aA h;subst this;simp
  |false=>
   have b:t ≠ a:=by intro e;subst e;simp at h
   simp [b]
theorem yf {rd:bJ} {mk:Nat→aP→aP}:∀ (ids:List Nat) (j p:Nat),ah ((ids.zipIdx j).filterMap fun (b,p)=>(rd b).map fun B=>(p,mk p B)) p=if j≤p then (ids[p - j]?).bind fun b=>(rd b).map (mk p) else none
 | [],j,p=>by simp [ah]
 | a ::r,j,p=>by
  have i:=yf (rd:=rd) (mk:=mk) r (j+1) p;rw [List.zipIdx_cons];cases c:rd a with
  | none=>
   rw [Xz1 (by simp [c]),i];by_cases hj:j+1≤p
   ·rw [if_pos hj,if_pos (by omega)];obtain ⟨d,f⟩:∃ d,p - j=d+1:=⟨p - j - 1,by omega⟩
    rw [f,Xxh,show p - (j+1)=d by omega]
   ·rw [if_neg hj];by_cases hjp:j≤p
    ·rw [if_pos hjp,show p - j=0 by omega];simp [c]
    ·rw [if_neg hjp]
  | some B=>
   rw [Xz2 (by simp [c];rfl)];simp only [ah];cases h:υ j p with
   |true=>have:=aA h;subst this;simp [c]
   | false=>
    have k:j ≠ p:=by intro e;subst e;simp at h
    simp only [i];by_cases hj:j+1≤p
    ·rw [if_pos hj,if_pos (by omega)];obtain ⟨d,f⟩:∃ d,p - j=d+1:=⟨p - j - 1,by omega⟩
     rw [f,Xxh,show p - (j+1)=d by omega]
    ·rw [if_neg hj,if_neg (by omega)]
theorem En:∀ {l:List Nat},l.Nodup→oP l=true
 | [],_=>rfl
 |b::r,h=>by
  rw [Xj5] at h;simp only [oP,δ,Xqi];refine ⟨?_,En h.2⟩;cases hm:kJ r b with
  |false=>rfl
  |true=>exact absurd (fO.1 hm) h.1
section
variable {P:Program} {ap:AP} {H:bG}
theorem zu {g g':bJ} {m c:aH} {S S':az} {ρ:Nat→Nat→Option (Nat × Nat)} (b:ig S S') (h:nD g m g' c ρ):∀ {l:List (Nat × List AV)} {ds:List Deferred},dS g m S l ds→dS g' c S' (l.map fun d=>(d.1,jV ρ d.2)) ds
 | [],[],_=>by simp [dS]
 |d::r,cd::cr,p=>by
  simp only [dS] at p;obtain ⟨⟨a,e,f⟩,i⟩:=p;simp only [φ,dS];exact ⟨⟨a,e,iI b h _ f⟩,zu b h i⟩
 | [],_::_,p=>by simp [dS] at p
 |_::_,[],p=>by simp [dS] at p
theorem iP {h0:List aP} {keep:List Nat} {s:St} {nt:Nat} {m m0:aH} {S S0:az} {w w0:World} {a:Act} (c:Fr (aF h0) m0 S0 w0 (ah s.hp) m S w) (E:FR ap s.env s.hp s.dfs nt m S w a):
  ∃ m',Fr (aF h0) m0 S0 w0 (ah (norm h0.length keep s).hp) m' S w∧FR ap (norm h0.length keep s).env (norm h0.length keep s).hp (norm h0.length keep s).dfs nt m' S w a:=by
 obtain ⟨_,t0,R⟩:=qC (ah s.hp) 20 (Xqd h0.length) Xx2;generalize hroots:t0++(Ac keep s.env++s.dfs.flatMap (fun d=>bD d.2))=roots;have hroots':mG (ah s.hp) 20 (Xqd h0.length)++Ac keep s.env++s.dfs.flatMap (fun d=>bD d.2)=Xqd h0.length++roots:=by rw [← hroots,R];simp only [Δ]
 obtain ⟨W,t1,J⟩:=JS h0.length roots;obtain ⟨Q,t2,K⟩:=qC (ah s.hp) 20 _ W;rw [J,Δ] at K;have hsome:∀ b,b<h0.length→∃ B0 B,aF h0 b=some B0∧ah s.hp b=some B∧B.esz=B0.esz∧((B.ver=B0.ver∧m b=m0 b)∨B0.ver<B.ver):=by
  intro b z;obtain ⟨B,k,l⟩:=c.ge b h0[b] (by simp [aF,z]);exact ⟨h0[b],B,by simp [aF,z],k,l⟩
 generalize n:(mG (ah s.hp) 20 (fP (Xqd h0.length++roots))).filter (fun b=>(ah s.hp b).isSome)=ids;have U:ids.Nodup:=by rw [← n];exact Q.filter _
 have D:=En U;have u:∃ t,ids=Xqd h0.length++t:=by
  rw [← n,J,K,List.filter_append];refine ⟨_,congrArg (· ++_) ?_⟩;rw [List.filter_eq_self];intro b z;obtain ⟨_,B,_,l,_⟩:=hsome b (by simpa using z);simp [l]
 obtain ⟨t,u⟩:=u;have x:∀ b,b<h0.length→ids[b]? =some b:=by
  intro b z;rw [u,Xqc (by simpa using z)];simp [z]
 have L:∀ (p b:Nat),ids[p]? =some b→∃ B,ah s.hp b=some B:=by
  intro p b hp;have:=χ hp;rw [← n,Xxg] at this;exact Option.isSome_iff_exists.1 this.2
 let ρ:Nat→Nat→Option (Nat × Nat):=fun b v=>match ah s.hp b with
  |some B=>match υ B.ver v with
   |true=>(mM ids b).map fun p=>(p,match Xq6 p h0.length with|true=>v|false=>0)
   |false=>none
  |none=>none
 let mk:Nat→aP→aP:=fun p B=> {B with cells:=(match B.pr with|true=>B.cells|false=>jV ρ B.cells),ver:=match Xq6 p h0.length with|true=>B.ver|false=>0}
 have hnorm:norm h0.length keep s=⟨keep.map fun t=>(t,ren ρ (s.env.get t)),ids.zipIdx.filterMap fun (b,p)=>(ah s.hp b).map fun B=>(p,mk p B),s.md,s.dfs.map fun d=>(d.1,jV ρ d.2)⟩:=by
  unfold norm;simp only [hroots',n];rfl
 rw [hnorm];dsimp only;have A:∀ p,ah (ids.zipIdx.filterMap fun (b,p)=>(ah s.hp b).map fun B=>(p,mk p B)) p=(ids[p]?).bind fun b=>(ah s.hp b).map (mk p):=by
  intro p;rw [yf (rd:=ah s.hp) (mk:=mk) ids 0 p,if_pos (Xqr _),Nat.sub_zero]
 generalize (ids.zipIdx.filterMap fun (b,p)=>(ah s.hp b).map fun B=>(p,mk p B))=hp2 at A;have f:∀ (p:Nat) (B2:aP),ah hp2 p=some B2→∃ b B,ids[p]? =some b∧ah s.hp b=some B∧B2=mk p B:=by
  intro p B2 h;rw [A] at h;cases hp:ids[p]? with
  |none=>rw [hp] at h;cases h
  |some b=>
   rw [hp] at h;obtain ⟨B,I⟩:=L p b hp;simp only [Xzh,I,Xqu,Option.some.injEq] at h;exact ⟨b,B,rfl,I,h.symm⟩
 let m2:aH:=fun p=>m (ids.getD p 0)
 have j:∀ (p b:Nat),ids[p]? =some b→m2 p=m b:=by
  intro p b hp;show m (ids.getD p 0)=_;rw [Xqj,hp];rfl
 have y:nD (ah s.hp) m (ah hp2) m2 ρ:=by
  intro b ver p Y h B I hver;simp only [ρ,I] at h;split at h
  ·rename_i G;have G:=aA G;simp only [Φ,Prod.mk.injEq] at h;obtain ⟨q,C,rfl,rfl⟩:=h;have C:=nP C;refine ⟨mk q B, ?_, ?_,fun _=> ⟨G,j q b C,rfl⟩⟩
   ·rw [A,C];simp [I]
   ·simp only [mk];split
    ·omega
    ·exact ζ _
  ·cases h
 have F:∀ (p q b:Nat),ids[p]? =some b→ids[q]? =some b→p=q:=by
  intro p q b hp C;have Z:=lY D hp;rw [lY D C] at Z;cases Z;rfl
 refine ⟨m2, ?_, ?_, ?_, ?_,E.size⟩
 ·refine ⟨?_,c.sle,c.os,c.tape,c.output,c.size,c.rest, ?_,c.sealN,fun p B2 hp=>by
   obtain ⟨b,B,k,l,rfl⟩:=f p B2 hp;rw [j p b k];exact c.mw b B l⟩
  ·intro b B0 z;have r:b<h0.length:=(List.getElem?_eq_some_iff.1 z).1;obtain ⟨B0',B,k,l,N,T⟩:=hsome b r;rw [z] at k;cases k;have V:Xq6 b h0.length=true:=Xqb r;refine ⟨mk b B,by rw [A,x b r];simp [l],N, ?_⟩;simp only [mk,V];rw [j b b (x b r)];exact T
  ·intro p B2 hp;obtain ⟨b,B,k,l,rfl⟩:=f p B2 hp;rw [j p b k];rcases c.img b B l with h|⟨B0,N,T⟩
   ·exact .inl h
   ·have r:b<h0.length:=(List.getElem?_eq_some_iff.1 N).1;have:=F p b b k (x b r);subst this;exact .inr ⟨B0,N,T⟩
 ·refine ⟨?_, ?_,E.srel.sealed, ?_,E.srel.glob⟩
  ·intro p q B2 B2' hp C e;obtain ⟨b,B,k,l,rfl⟩:=f p B2 hp;obtain ⟨X,B',M,O,rfl⟩:=f q B2' C;rw [j p b k,j q X M] at e;have:=E.srel.inj b X B B' l O e;subst this;exact F p q b k M
  ·intro p B2 hp;obtain ⟨b,B,k,l,rfl⟩:=f p B2 hp;rw [j p b k];obtain ⟨⟨cur,e,vs,rest,k1,k2,k3,k4,k5,k6⟩,k7,k8⟩:=E.srel.blk b B l;cases i:B.pr with
   |true=>exact ⟨⟨cur,e,vs,rest,k1,k2,fun _=>by simpa [mk,i] using k3 i,by simpa [mk,i] using aZ _ (k3 i),k5,k6⟩,k7,by simpa [mk,i] using k8⟩
   | false=>
    have G:=iI (ig.refl S) y _ k4;exact ⟨⟨cur,e,vs,rest,k1,k2,fun h=>by simp [mk,i] at h,by simpa [mk,i] using G,k5,k6⟩,k7,by
     have:(mk p B).cells.length=B.cells.length:=by simp only [mk,i];rw [aW k4,aW G]
     rw [this];exact k8⟩
  ·intro p B2 hp o v ho;obtain ⟨b,B,k,l,rfl⟩:=f p B2 hp;rw [j p b k] at ho;exact E.srel.own b B l o v ho
 ·intro t;simp only [dK.get,Eg];by_cases ht:t ∈ keep
  ·rw [if_pos ht];exact ui (ig.refl S) y _ (E.env t)
  ·rw [if_neg ht];simp [VR]
 ·exact zu (ig.refl S) y E.dfs
end
end AM
namespace AM
open Go
mutual
theorem qp {g g':bJ} {m n:aH} {S S':az} (i:ig S S'):∀ (x:AV) {v:Value},(∀ b ∈ bZ x,g' b=g b∧n b=m b)→VR g m S x v→VR g' n S' x v
 | .int _ _,_,_,p=>by simpa only [VR,PR] using p
 | .bool _,_,_,p=>by simpa only [VR,PR] using p
 | .str _,_,_,p=>by simpa only [VR,PR] using p
 | .nilS,_,_,p=>by simpa only [VR,PR] using p
 | .nilP,_,_,p=>by simpa only [VR,PR] using p
 | .raw _,_,_,p=>by simpa only [VR,PR] using p
 | .nilF,_,_,p=>by simpa only [VR,PR] using p
 | .nilI,_,_,p=>by simpa only [VR,PR] using p
 | .sl _ _ _,_,_,p=>by simp only [VR] at p ⊢;exact bI i _ p
 | .pp _ _,_,_,p=>by simp only [VR] at p ⊢;exact bI i _ p
 | .mp _ _,_,_,p=>by simp only [VR] at p ⊢;exact bI i _ p
 | .dead,_,_,_=>by simp only [VR]
 | .own _ _ _,_,_,p=>by simp only [VR] at p
 | .ref b _ _ _,_,h,p=>by
  obtain ⟨j,k⟩:=h b (by simp [bZ]);simp only [VR] at p ⊢;rw [j,k];exact p
 | .ptr b _ _,_,h,p=>by
  obtain ⟨j,k⟩:=h b (by simp [bZ]);simp only [VR] at p ⊢;rw [j,k];exact p
 | .mr b _,_,h,p=>by
  obtain ⟨j,k⟩:=h b (by simp [bZ]);simp only [VR] at p ⊢;rw [j,k];exact p
 | .agg l,_,h,p=>by
  simp only [VR] at p ⊢;obtain ⟨vs,e,q⟩:=p;exact ⟨vs,e,jF i l (fun b d=>h b (by simpa [bZ] using d)) q⟩
 | .tup l,_,h,p=>by
  simp only [VR] at p ⊢;obtain ⟨vs,e,q⟩:=p;exact ⟨vs,e,jF i l (fun b d=>h b (by simpa [bZ] using d)) q⟩
 | .fn f a c,_,h,p=>by
  simp only [VR] at p ⊢;obtain ⟨o,s,e,q,r⟩:=p;exact ⟨o,s,e,jF i a (fun b d=>h b (by simp [bZ,d])) q,jF i c (fun b d=>h b (by simp [bZ,d])) r⟩
 | .ifc t x,_,h,p=>by
  simp only [VR] at p ⊢;obtain ⟨u,e,q⟩:=p;exact ⟨u,e,qp i x (fun b d=>h b (by simpa [bZ] using d)) q⟩
theorem jF {g g':bJ} {m d:aH} {S S':az} (c:ig S S'):∀ (l:List AV) {vs:List Value},(∀ b ∈ bD l,g' b=g b∧d b=m b)→aU g m S l vs→aU g' d S' l vs
 | [],[],_,_=>by simp only [aU]
 |x::r,v::vs,h,p=>by
  simp only [aU] at p ⊢;exact ⟨qp c x (fun b a=>h b (by simp [bD,a])) p.1,jF c r (fun b a=>h b (by simp [bD,a])) p.2⟩
 | [],_::_,_,p=>by simp [aU] at p
 |_::_,[],_,p=>by simp [aU] at p
end
theorem kG {g:bJ} {m:aH} {S:az} {x:AV} {v:Value} (h:(bZ x).isEmpty=true) (d:VR g m S x v):PR S x v:=by
 have c:bZ x= []:=by simpa using h
 exact kP (m:=m) x (qp (ig.refl S) x (fun b a=>by rw [c] at a;cases a) d)
def tu (nt:Nat) (o:Oper):Bool:=match o.dst with|some d=>Xq6 d nt|none=>true
def cO (nt:Nat):Code→Bool
 | .region _ ops _=>ops.toList.all (tu nt)
 | .seq a b=>cO nt a && cO nt b
 | .cond _ a b=>cO nt a && cO nt b
 | .block _ b=>cO nt b
 | .loop b=>cO nt b
 | .scope b=>cO nt b
 |_=>true
section
variable {P:Program} {ap:AP} {H:bG}
def xG (hp:Hp) (m:aH) (S:az) (Q:Exit→Act→World→Prop) (a:Act) (w:World):aY→Prop
 | .normal=>Q .normal a w
 | .exit id=>Q (.exit id) a w
 | .ret=>Q .ret a w
 | .panic v=> ∀ cv,VR (ah hp) m S v cv→Q (.panic [{v:=cv,recovered:=false}]) a w
def XA (ap:AP) (h0:List aP) (m0:aH) (S0:az) (w0:World) (nt:Nat) (s':St) (e:aY) (Q:Exit→Act→World→Prop):Prop:=
 ∀ m' S' w' a',Fr (aF h0) m0 S0 w0 (ah s'.hp) m' S' w'→FR ap s'.env s'.hp s'.dfs nt m' S' w' a'→xG s'.hp m' S' Q a' w' e
def ak (P:Program) (ap:AP) (h0:List aP) (nt:Nat) (code:Code) (s:St) (e:aY) (s':St):Prop:=
 s.md= .dead→s'.md= .dead∧∀ m0 S0 w0 m S w a,Fr (aF h0) m0 S0 w0 (ah s.hp) m S w→FR ap s.env s.hp s.dfs nt m S w a→∀ Q,XA ap h0 m0 S0 w0 nt s' e Q→code.wp P Q a w
theorem ak.still {h0:List aP} {nt:Nat} {b:Code} {s:St} {e:aY} (h:∀ (Q:Exit→Act→World→Prop) hp m S a w,xG hp m S Q a w e→b.wp P Q a w):ak P ap h0 nt b s e s:=
 fun c=> ⟨c,fun _ _ _ m S w a i f Q d=>h Q s.hp m S a w (d m S w a i f)⟩
theorem AL {h0:List aP} {nt:Nat} {b:Code} {f:St→Cx→R (aY × St)} (r:∀ s e s' c c',f s c= .ok (e,s') c'→c'.Ok→c.Ok∧ak P ap h0 nt b s e s'):
  ∀ (n:Nat) (s:St) (e:aY) (s':St) (c c':Cx),LG f n s c= .ok (e,s') c'→c'.Ok→c.Ok∧(s.md= .dead→s'.md= .dead∧∀ m0 S0 w0 m S w a,Fr (aF h0) m0 S0 w0 (ah s.hp) m S w→FR ap s.env s.hp s.dfs nt m S w a→∀ Q,XA ap h0 m0 S0 w0 nt s' e Q→Code.rounds P b Q n a w)
 |0,s,e,s',c,c',h,hc=>by cases h
 | n+1,s,e,s',c,c',h,hc=>by
  simp only [LG] at h;obtain ⟨⟨l,C⟩,D,B,h⟩:=R.bind_ok h;dsimp only at h;have hother:l ≠ .normal→R.ok (l,C) D=R.ok (e,s') c'→c.Ok∧(s.md= .dead→s'.md= .dead∧∀ m0 S0 w0 m S w a,Fr (aF h0) m0 S0 w0 (ah s.hp) m S w→FR ap s.env s.hp s.dfs nt m S w a→∀ Q,XA ap h0 m0 S0 w0 nt s' e Q→Code.rounds P b Q (n+1) a w):=by
   intro p E;cases E;obtain ⟨j,t⟩:=r _ _ _ _ _ B hc;refine ⟨j,fun i=> ?_⟩;obtain ⟨y,z⟩:=t i;refine ⟨y,fun m0 S0 w0 m S w a d o Q u=>z m0 S0 w0 m S w a d o _ ?_⟩;intro q S' w' a' k A;have:=u q S' w' a' k A;cases e with
   |normal=>exact absurd rfl p
   |exit id=>exact this
   |ret=>exact this
   |panic v=>exact this
  cases l with
  |normal=>
   dsimp only at h;obtain ⟨x,F⟩:=AL r n C e s' D c' h hc;obtain ⟨j,t⟩:=r _ _ _ _ _ B x;refine ⟨j,fun i=> ?_⟩;obtain ⟨y,z⟩:=t i;obtain ⟨k,A⟩:=F y;refine ⟨k,fun m0 S0 w0 m S w a d o Q u=>z m0 S0 w0 m S w a d o _ ?_⟩;intro q S' w' a' G I;exact A m0 S0 w0 q S' w' a' G I Q u
  |exit id=>exact hother (by simp) h
  |ret=>exact hother (by simp) h
  |panic v=>exact hother (by simp) h
theorem dF (p:dJ P ap) (i:P.follows .mixedOrders=true) (J:gz P ap H) {h0:List aP} {keep:List Nat} {lf nt:Nat}:∀ (code:Code),cO nt code=true→∀ (s:St) (e:aY) (s':St) (c c':Cx),jC ap H h0.length keep lf code s c= .ok (e,s') c'→c'.Ok→c.Ok∧ak P ap h0 nt code s e s'
 | .skip,_,s,e,s',c,c',h,n=>by
  cases h;exact ⟨n,ak.still fun Q hp m S a w q=>wp_skip q⟩
 | .label l,_,s,e,s',c,c',h,n=>by
  cases h;exact ⟨n,ak.still fun Q hp m S a w q=>wp_label q⟩
 | .exit id,_,s,e,s',c,c',h,n=>by
  cases h;exact ⟨n,ak.still fun Q hp m S a w q=>wp_exit q⟩
 | .ret,_,s,e,s',c,c',h,n=>by
  cases h;exact ⟨n,ak.still fun Q hp m S a w q=>wp_ret q⟩
 | .region id ops draw,hd,s,e,s',c,c',h,n=>by
  have Y:∀ o ∈ ops.toList,∀ d,o.dst=some d→d<nt:=by
   intro o ho d W;have:=List.all_eq_true.1 hd o ho;simp only [tu,W] at this;exact dV this
  obtain ⟨k,hr⟩:=F8 p i J Y (id:=id) h n;refine ⟨k,fun j=> ?_⟩;obtain ⟨F,h2⟩:=hr j;refine ⟨F,fun m0 S0 w0 m S w a f u Q A=> ?_⟩;have:=h2 m S w a u Q;rw [Array.toArray_toList] at this;refine this ?_;cases e with
  |normal=>
   intro T L E S' w' a' B C;obtain ⟨X,r,D⟩:=iP (keep:=keep) (f.trans B) C;rw [← L] at r D;exact A X S' w' a' r D
  | panic v=>
   simp only [lJ];split
   ·rename_i hre;intro T L E S' w' a' cv B C r;obtain ⟨X,D,V⟩:=iP (keep:=keep) (f.trans B) C;rw [← L] at D V;exact A X S' w' a' D V cv (dQ _ (kG hre r))
   ·intro E S' w' a' cv B C r;exact A E S' w' a' (f.trans B) C cv r
  |exit id=>trivial
  |ret=>trivial
 | .seq x y,hd,s,e,s',c,c',h,n=>by
  simp only [cO,δ] at hd;simp only [jC] at h;obtain ⟨⟨K,T⟩,N,F,h⟩:=R.bind_ok h;dsimp only at h;have hother:K ≠ .normal→R.ok (K,T) N=R.ok (e,s') c'→c.Ok∧ak P ap h0 nt (.seq x y) s e s':=by
   intro M O;cases O;obtain ⟨k,G⟩:=dF p i J x hd.1 _ _ _ _ _ F n;refine ⟨k,fun j=> ?_⟩;obtain ⟨B,C⟩:=G j;refine ⟨B,fun m0 S0 w0 m S w a f u Q A=>wp_seq (C m0 S0 w0 m S w a f u _ ?_)⟩;intro E S' w' a' r D;have:=A E S' w' a' r D;cases e with
   |normal=>exact absurd rfl M
   |exit id=>exact this
   |ret=>exact this
   |panic v=>exact this
  cases K with
  |normal=>
   dsimp only at h;obtain ⟨I,ih⟩:=dF p i J y hd.2 _ _ _ _ _ h n;obtain ⟨k,G⟩:=dF p i J x hd.1 _ _ _ _ _ F I;refine ⟨k,fun j=> ?_⟩;obtain ⟨B,C⟩:=G j;obtain ⟨r,D⟩:=ih B;refine ⟨r,fun m0 S0 w0 m S w a f u Q A=>wp_seq (C m0 S0 w0 m S w a f u _ ?_)⟩;intro E S' w' a' V h8;exact D m0 S0 w0 E S' w' a' V h8 Q A
  |exit id=>exact hother (by simp) h
  |ret=>exact hother (by simp) h
  |panic v=>exact hother (by simp) h
 | .cond t x y,hd,s,e,s',c,c',h,n=>by
  simp only [cO,δ] at hd;simp only [jC] at h;split at h
  ·rename_i bv hbv;obtain ⟨b',N,F,h⟩:=R.bind_ok h;have key:∀ (z:Code),(N.Ok→N.Ok∧z=if bv then x else y)→N.Ok∧ak P ap h0 nt z s e s'→c.Ok∧ak P ap h0 nt (.cond t x y) s e s':=by
    rintro z hzz ⟨I,ih⟩
    obtain ⟨k,hb⟩:=jG F I;refine ⟨k,fun j=> ?_⟩;obtain ⟨r,D⟩:=ih j;refine ⟨r,fun m0 S0 w0 m S w a f u Q A=>wp_cond (t:=bv) ?_ ?_⟩
    ·have:=uu u.srel (a:=a) (env:=s.env) t (fun t _=>u.env t);rw [hbv] at this;simpa only [VR,PR] using this
    ·rw [← (hzz I).2];exact D m0 S0 w0 m S w a f u Q A
   cases b' with
   |true=>exact key x (fun U=> ⟨U,by rw [← (jG F U).2];rfl⟩) (dF p i J x hd.1 _ _ _ _ _ h n)
   |false=>exact key y (fun U=> ⟨U,by rw [← (jG F U).2];rfl⟩) (dF p i J y hd.2 _ _ _ _ _ h n)
  ·cases h
 | .block id b,hd,s,e,s',c,c',h,n=>by
  simp only [cO] at hd;simp only [jC] at h;obtain ⟨⟨K,T⟩,N,F,h⟩:=R.bind_ok h;dsimp only at h;have Z:N=c':=by
   cases K<;>dsimp only at h
   ·cases h;rfl
   ·split at h<;>cases h<;>rfl
   ·cases h;rfl
   ·cases h;rfl
  subst Z;obtain ⟨k,G⟩:=dF p i J b hd _ _ _ _ _ F n;refine ⟨k,fun j=> ?_⟩;obtain ⟨B,C⟩:=G j;have hs:T=s':=by
   cases K<;>dsimp only at h
   ·cases h;rfl
   ·split at h<;>cases h<;>rfl
   ·cases h;rfl
   ·cases h;rfl
  subst hs;refine ⟨B,fun m0 S0 w0 m S w a f u Q A=>wp_block (C m0 S0 w0 m S w a f u _ ?_)⟩;intro E S' w' a' r D;have q:=A E S' w' a' r D;cases K with
  |normal=>cases h;exact q
  |ret=>cases h;exact q
  |panic v=>cases h;exact q
  | exit id'=>
   dsimp only at h;split at h
   ·rename_i O;cases h;show Exit.inBlock id Q (.exit id') a' w';simp only [Exit.inBlock,if_pos (aA O)];exact q
   ·rename_i O;cases h;show Exit.inBlock id Q (.exit id') a' w';have M:id' ≠ id:=by intro e;subst e;simp at O
    simp only [Exit.inBlock,if_neg M];exact q
 | .loop b,hd,s,e,s',c,c',h,n=>by
  simp only [cO] at hd;simp only [jC] at h;obtain ⟨k,G⟩:=AL (fun s e s' c c' h n=>dF p i J b hd s e s' c c' h n) lf s e s' c c' h n;refine ⟨k,fun j=> ?_⟩;obtain ⟨B,C⟩:=G j;exact ⟨B,fun m0 S0 w0 m S w a f u Q A=>wp_loop_rounds lf (C m0 S0 w0 m S w a f u Q A)⟩
 | .scope b,hd,s,e,s',c,c',h,n=>by
  simp only [cO] at hd;simp only [jC] at h;obtain ⟨k,G⟩:=dF p i J b hd _ _ _ _ _ h n;refine ⟨k,fun j=> ?_⟩;obtain ⟨B,C⟩:=G j;refine ⟨B,fun m0 S0 w0 m S w a f u Q A=>wp_scope_straight (C m0 S0 w0 m S w a f u _ ?_)⟩;intro E S' w' a' r D;have q:=A E S' w' a' r D;cases e with
  |normal=>exact q
  |exit id=>exact q
  |ret=>exact q
  |panic v=>exact q
 | .rangeFunc _ _ _ _,_,s,e,s',c,c',h,n=>by cases h
 | .goto _,_,s,e,s',c,c',h,n=>by cases h
 | .refuse _,_,s,e,s',c,c',h,n=>by cases h
end
end AM
