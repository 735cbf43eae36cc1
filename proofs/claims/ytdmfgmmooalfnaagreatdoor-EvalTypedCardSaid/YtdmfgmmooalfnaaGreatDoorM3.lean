/- The abstract machine over the code of the model, and the proof that it is sound. No conditions. -/
import Derived.Test.YtdmfgmmooalfnaaGreatDoorM2
import Derived.Orders
import Derived.LoopN
import Derived.Scope
set_option linter.unusedSimpArgs false
set_option linter.unusedVariables false
open List renaming map_cons→Xqb,getElem?_cons_succ→Xzb,filterMap_cons_none→Xvs,filterMap_cons_some→Xvt,mem_cons→Xwp,getElem?_append_left→Xxb,nil_append→Xqi,length_nil→Xqa,getElem?_eq_getElem→π,getElem?_eq_none→Xq7,mem_of_getElem?→Xqt,getD_eq_getElem?_getD→κ,getElem?_map→Xq6,append_assoc→τ,mem_cons_self→Xjv,mem_cons_of_mem→Xje,drop_drop→Xjs,length_cons→ξ,range'_succ→Xv7,take_zero→Xvn,take_succ_cons→Xx6,eq_nil_of_length_eq_zero→Xxo,foldl_cons→Xjt,all_eq_true→Xjz,mem_zipIdx_iff_getElem?→Xzc,range→Xq9,nodup_cons→Xkf,mem_filter→Xvf,mem_range→Yq7,size_toArray→Xzr,nodup_range→Xwe,range_eq_range'→Xwb
open Nat renaming add_assoc→Xxy,beq→Xqn,le_of_not_lt→Xv5,le_refl→Δ,lt_of_lt_of_le→Φ,zero_add→Xqd,zero_le→Xx1,le_trans→Xxr,add_zero→Xq8,blt→Xjh,ble_eq_true_of_le→Xql,lt_trichotomy→Xzf
open Bool renaming and_eq_true→ο,not_eq_true'→Xqw,or_eq_true→Xzi,not_true→Xqq,false_or→Xwo
open Option renaming map_eq_some_iff→Xqr,bind_some→Xw4,map_some→Xjn,getD_some→Xwc
namespace AM
open Go
def bP (h:List bg):dJ:=fun b=>h[b]?
def jH (gh gf:dJ) (m:bf) (S:aZ):Nat→List AV→List Value→Prop
 |_,[],[]=>True
 |n,.own _ k _::r,v::vs=>VR gf m S (.ref n 0 0 k) v∧jH gh gf m S (n+1) r vs
 |n,x::r,v::vs=>VR gh m S x v∧jH gh gf m S n r vs
 |_,_,_=>False
def Dh (gh gf:dJ) (m:bf) (S:aZ) (n:Nat):AV→Value→Prop
 | .tup l,v=> ∃ vs,v= .tuple vs.toArray∧jH gh gf m S n l vs
 | .own _ k _,v=>VR gf m S (.ref n 0 0 k) v
 |x,v=>VR gh m S x v
def nH (n:Nat):kG→List bg
 | .ret v=>(lW n v).2
 | .pan _=> []
def aeq (h':List bg) (m':bf) (S':aZ):kG→Ending→Prop
 | .ret v,e=> ∃ cv,e= .returned cv∧Dh (bP h') (bP (h'++(lW h'.length v).2)) m' S' h'.length v cv
 | .pan v,e=> ∃ cv,e= .panicked [{v:=cv,recovered:=false}]∧VR (bP h') m' S' v cv
structure G_ (ap:AP) (h:List bg) (m:bf) (S:aZ) (w:World) (out:kG) (h':List bg) (m':bf) (S':aZ) (w':World) (e:Ending):Prop where
 srel:bY ap (bP (h'++nH h'.length out)) m' S' w'
 fr:Fr (bP h) m S w (bP (h'++nH h'.length out)) m' S' w'
 out:aeq h' m' S' out e
def Ed (P:Program) (f:Nat):Prop:=∀ args w,(callFunc f args).run P w= .ok (.enter f args) w
structure aG (P:Program) (ap:AP) (f:Nat) (args:List AV) (h:List bg) (out:kG) (h':List bg):Prop where
 len:h.length≤h'.length
 ent:Ed P f
 calls:∀ m S w cargs,bY ap (bP h) m S w→bF (bP h) m S args cargs→Calls P f cargs.toArray w fun e w'=> ∃ m' S',G_ ap h m S w out h' m' S' w' e
def nG (P:Program) (ap:AP) (H:dD):Prop:=∀ c f args h out h' md' c',H c .dead f args h= .ok (out,h',md') c'→c'.Ok→c.Ok∧aG P ap f args h out h'
section
variable {P:Program} {ap:AP} {g:dJ} {m:bf} {S:aZ} {w:World}
mutual
theorem oL {m:bf} {S:aZ}:∀ (x:AV) {v:Value},VR (bP []) m S x v→PR S x v
 | .int _ _,_,p=>by simpa only [VR] using p
 | .bool _,_,p=>by simpa only [VR] using p
 | .str _,_,p=>by simpa only [VR] using p
 | .nilS,_,p=>by simpa only [VR] using p
 | .nilP,_,p=>by simpa only [VR] using p
 | .nilF,_,p=>by simpa only [VR] using p
 | .nilI,_,p=>by simpa only [VR] using p
 | .sl _ _ _,_,p=>by simpa only [VR] using p
 | .pp _ _,_,p=>by simpa only [VR] using p
 | .mp _ _,_,p=>by simpa only [VR] using p
 | .dead,_,_=>by simp only [PR]
 | .own _ _ _,_,p=>by simp only [VR] at p
 | .ref _ _ _ _,_,p=>by simp [VR,bP] at p
 | .ptr _ _ _,_,p=>by simp [VR,bP] at p
 | .mr _ _,_,p=>by simp [VR,bP] at p
 | .agg l,_,p=>by
  simp only [VR] at p;simp only [PR];obtain ⟨vs,e,q⟩:=p;exact ⟨vs,e,mJ l q⟩
 | .tup l,_,p=>by
  simp only [VR] at p;simp only [PR];obtain ⟨vs,e,q⟩:=p;exact ⟨vs,e,mJ l q⟩
 | .fn f a c,_,p=>by
  simp only [VR] at p;simp only [PR];obtain ⟨b,d,e,q,r⟩:=p;exact ⟨b,d,e,mJ a q,mJ c r⟩
 | .ifc t x,_,p=>by
  simp only [VR] at p;simp only [PR];obtain ⟨u,e,q⟩:=p;exact ⟨u,e,oL x q⟩
theorem mJ {m:bf} {S:aZ}:∀ (l:List AV) {vs:List Value},bF (bP []) m S l vs→eG S l vs
 | [],[],_=>by simp only [eG]
 |x::r,v::vs,p=>by simp only [bF] at p;simp only [eG];exact ⟨oL x p.1,mJ r p.2⟩
 | [],_::_,p=>by simp [bF] at p
 |_::_,[],p=>by simp [bF] at p
end
theorem adX (A:bY ap g m S w) {J l:dJ} {W u:bf} {Sp S':aZ} {w':World} (M:bY ap l u S' w') (p:Fr J W Sp w l u S' w') (ι:Nat→Nat)
  (hdom:∀ i Bc,J i=some Bc→∃ B,g (ι i)=some B∧W i=m (ι i))
  (hSp:pY S Sp) (hSpN:∀ k o v,Sp k o=some v→S k o=some v∨∃ b B,g b=some B∧(m b).1=k) {gN:dJ} {mN:bf} (ρ:Nat→Nat→Option (Nat × Nat)) (hρ:uH l u gN mN ρ)
  (hnew:∀ i Bc,l i=some Bc→∃ B,gN (ι i)=some B∧mN (ι i)=u i∧B.esz=Bc.esz∧B.fro=Bc.fro∧B.fz=Bc.fz∧B.pr=Bc.pr∧(Bc.pr=true→B.cells=Bc.cells)∧(Bc.pr=false→B.cells=nI ρ Bc.cells))
  (c:∀ b B,gN b=some B→(∃ i Bc,l i=some Bc∧b=ι i)∨(∃ B0,g b=some B0∧mN b=m b∧B.cells=B0.cells∧B.pr=B0.pr∧B.esz=B0.esz∧(B.fro=false→B.fz=0)∧B.fz≤B.cells.length∧(∀ i Bc,J i=some Bc→b ≠ ι i)∧(∀ o v,Sp (m b).1 o=some v→B.fro=true∧o<B.fz)))
  (hge:Ge g m gN mN):bY ap gN mN S' w'∧Fr g m S w gN mN S' w':=by
 have r:pY S S':=hSp.trans p.sle;have hcross:∀ b B0 i Bc,g b=some B0→l i=some Bc→(∀ i Bc,J i=some Bc→b ≠ ι i)→(m b).1 ≠ (u i).1:=by
  intro b B0 i Bc n a s e;have hlt:=A.lt n;rcases p.img i Bc a with d|⟨B1,d,x⟩
  ·omega
  ·obtain ⟨B2,E,F⟩:=hdom i B1 d;rw [F] at x;exact s i B1 d (A.inj b (ι i) B0 B2 n E (e.trans x))
 constructor
 ·refine ⟨?_, ?_,M.sealed, ?_,M.glob⟩
  ·intro b X B B' n U e;rcases c b B n with ⟨i,Bi,a,rfl⟩|⟨B0,t,d,_,_,_,_,_,x,_⟩<;>rcases c X B' U with ⟨j,Bj,R,rfl⟩|⟨B0',K,O,_,_,_,_,_,V,_⟩
   ·obtain ⟨_,_,z,_⟩:=hnew i Bi a;obtain ⟨_,_,q,_⟩:=hnew j Bj R;rw [z,q] at e;rw [M.inj i j Bi Bj a R e]
   ·obtain ⟨_,_,z,_⟩:=hnew i Bi a;rw [z,O] at e;exact absurd e.symm (hcross X B0' i Bi K a V)
   ·obtain ⟨_,_,q,_⟩:=hnew j Bj R;rw [q,d] at e;exact absurd e (hcross b B0 j Bj t R x)
   ·rw [d,O] at e;exact A.inj b X B0 B0' t K e
  ·intro b B n;rcases c b B n with ⟨i,Bi,a,rfl⟩|⟨B0,t,d,E,F,Q,Y,h7,x,_⟩
   ·obtain ⟨B1,G,z,q,T,I,e5,Z,e7⟩:=hnew i Bi a;rw [n] at G;cases G;rw [z];obtain ⟨⟨cur,e,vs,rest,k1,k2,k3,k4,k5,k6⟩,k7,k8⟩:=M.blk i Bi a;cases hp:Bi.pr with
    |true=>
     have hcells:=Z hp;refine ⟨⟨cur,e,vs,rest,by rw [q];exact k1,k2,fun _=>by rw [hcells];exact k3 hp,by rw [hcells];exact b_ _ (k3 hp),by rw [q];exact k5,by rw [q];exact k6⟩,by rw [T,I];exact k7,by rw [I,hcells];exact k8⟩
    |false=>
     have hcells:=e7 hp;have y:=kQ (pY.refl S') hρ _ k4;have N:B.cells.length=Bi.cells.length:=by rw [bZ k4,hcells,bZ y]
     refine ⟨⟨cur,e,vs,rest,by rw [q];exact k1,k2,(fun h=>by rw [e5,hp] at h;cases h),by rw [hcells];exact y,by rw [q];exact k5,by rw [q];exact k6⟩,by rw [T,I];exact k7,by rw [I,N];exact k8⟩
   ·rw [d];have s:∀ i Bc,J i=some Bc→(W i).1 ≠ (m b).1:=by
     intro i Bc a e;obtain ⟨B2,L,f⟩:=hdom i Bc a;rw [f] at e;exact x i Bc a (A.inj b (ι i) B0 B2 t L e.symm)
    obtain ⟨⟨cur,e,vs,rest,k1,k2,k3,k4,k5,k6⟩,k7,k8⟩:=A.blk b B0 t;refine ⟨⟨cur,e,vs,rest,by rw [Q];exact k1.same (p.rest _ (A.lt t) s),k2,fun hp=>by rw [E];rw [F] at hp;exact dE r _ (k3 hp),by rw [E];exact mM r hge _ k4,by rw [Q];exact k5,by rw [Q];exact k6⟩,Y,h7⟩
  ·intro b B n o v y;rcases c b B n with ⟨i,Bi,a,rfl⟩|⟨B0,t,d,E,F,Q,Y,h7,x,L⟩
   ·obtain ⟨B1,G,z,q,T,I,e5,Z,e7⟩:=hnew i Bi a;rw [n] at G;cases G;rw [z] at y;rw [T,I];exact M.own i Bi a o v y
   ·rw [d] at y;rcases p.sealN _ _ _ y with f|f|⟨i,Bi,a,f⟩
    ·exact L o v f
    ·have:=A.lt t;omega
    ·obtain ⟨B2,D,C⟩:=hdom i Bi a;rw [C] at f;exact absurd (A.inj b (ι i) B0 B2 t D f.symm) (x i Bi a)
 ·refine ⟨hge,r,p.os,p.tape,p.output,p.size, ?_, ?_, ?_⟩
  ·intro k hk s;refine p.rest k hk fun i Bc a e=> ?_
   obtain ⟨B2,L,f⟩:=hdom i Bc a;exact s (ι i) B2 L (by rw [← f];exact e)
  ·intro b B n;rcases c b B n with ⟨i,Bi,a,rfl⟩|⟨B0,t,d,_⟩
   ·obtain ⟨B1,G,z,_⟩:=hnew i Bi a;rw [z];rcases p.img i Bi a with d|⟨B2,d,x⟩
    ·exact .inl d
    ·obtain ⟨B3,E,F⟩:=hdom i B2 d;exact .inr ⟨B3,E,by rw [x,F]⟩
   ·exact .inr ⟨B0,t,by rw [d]⟩
  ·intro k o v y;rcases p.sealN _ _ _ y with f|f|⟨i,Bi,a,f⟩
   ·rcases hSpN _ _ _ f with h|h
    ·exact .inl h
    ·exact .inr (.inr h)
   ·exact .inr (.inl f)
   ·obtain ⟨B2,D,C⟩:=hdom i Bi a;exact .inr (.inr ⟨ι i,B2,D,by rw [← C];exact f⟩)
structure H9 (F:AV→AV):Prop where
 own:∀ xs n e,F (.own xs n e)= .own xs n e
 tup:∀ l,F (.tup l)= .tup (l.map F)
 not:∀ x,(∀ xs n e,x ≠ .own xs n e)→(∀ xs n e,F x ≠ .own xs n e)
 notT:∀ x,(∀ l,x ≠ .tup l)→(∀ l,F x ≠ .tup l)
theorem bI (n:Nat) {x:AV} (h:∀ xs k e,x ≠ .own xs k e) (r:List AV):fU n (x::r)=(x::(fU n r).1,(fU n r).2):=by
 cases x<;>first|rfl|exact absurd rfl (h _ _ _)
theorem jq (n:Nat) {x:AV} (h:∀ xs k e,x ≠ .own xs k e) (a:∀ l,x ≠ .tup l):lW n x=(x,[]):=by
 cases x<;>first|rfl|exact absurd rfl (h _ _ _)|exact absurd rfl (a _)
theorem bW {gh a:dJ} {n:Nat} {x:AV} (h:∀ xs k e,x ≠ .own xs k e) {r:List AV} {v:Value} {vs:List Value}:jH gh a m S n (x::r) (v::vs)=(VR gh m S x v∧jH gh a m S n r vs):=by
 cases x<;>first|rfl|exact absurd rfl (h _ _ _)
theorem lM {gh b:dJ} {n:Nat} {x:AV} (h:∀ xs k e,x ≠ .own xs k e) (a:∀ l,x ≠ .tup l) {v:Value}:Dh gh b m S n x v=VR gh m S x v:=by
 cases x<;>first|rfl|exact absurd rfl (h _ _ _)|exact absurd rfl (a _)
theorem jF (x:AV):(∃ xs k e,x= .own xs k e)∨(∀ xs k e,x ≠ .own xs k e):=by
 cases x<;>first|exact .inl ⟨_,_,_,rfl⟩|exact .inr (fun _ _ _ h=>by cases h)
theorem BN (x:AV):(∃ l,x= .tup l)∨(∀ l,x ≠ .tup l):=by
 cases x<;>first|exact .inl ⟨_,rfl⟩|exact .inr (fun _ h=>by cases h)
theorem ut {F:AV→AV} (c:H9 F):∀ (l:List AV) (a b:Nat),(fU a (l.map F)).2=(fU b l).2
 | [],a,b=>rfl
 | x::r,a,b=>by
  rcases jF x with ⟨xs,k,e,rfl⟩|hx
  ·simp only [Xqb,c.own,fU];rw [ut c r (a+1) (b+1)]
  ·rw [Xqb,bI a (c.not x hx),bI b hx];exact ut c r a b
theorem CU {F:AV→AV} (c:H9 F) (x:AV) (a b:Nat):(lW a (F x)).2=(lW b x).2:=by
 rcases jF x with ⟨xs,k,e,rfl⟩|hx
 ·rw [c.own];rfl
 ·rcases BN x with ⟨l,rfl⟩|ht
  ·rw [c.tup];simp only [lW];exact ut c l a b
  ·rw [jq a (c.not x hx) (c.notT x ht),jq b hx ht]
theorem vW {F:AV→AV} (a:H9 F) {gh d gN:dJ} {m mN:bf} {S:aZ} {n nid:Nat} (b:∀ x v,VR gh m S x v→VR gN mN S (F x) v) (c:∀ i k v,VR d m S (.ref (n+i) 0 0 k) v→VR gN mN S (.ref (nid+i) 0 0 k) v):
  ∀ (l:List AV) (vs:List Value) (j:Nat),jH gh d m S (n+j) l vs→bF gN mN S (fU (nid+j) (l.map F)).1 vs
 | [],[],j,_=>by simp [fU,bF]
 | x::r,v::vs,j,h=>by
  rcases jF x with ⟨xs,k,e,rfl⟩|hxo
  ·simp only [jH] at h;simp only [Xqb,a.own,fU,bF];exact ⟨c j k v h.1,by have:=vW a b c r vs (j+1);rw [← Xxy,← Xxy] at this;exact this h.2⟩
  ·rw [bW hxo] at h;rw [Xqb,bI _ (a.not x hxo)];simp only [bF];exact ⟨b x v h.1,vW a b c r vs j h.2⟩
 | [],_::_,_,h=>by simp [jH] at h
 |x::r,[],_,h=>by cases x<;>simp [jH] at h
theorem Gh {F:AV→AV} (a:H9 F) {gh d gN:dJ} {m mN:bf} {S:aZ} {n nid:Nat} (c:∀ x v,VR gh m S x v→VR gN mN S (F x) v) (b:∀ i k v,VR d m S (.ref (n+i) 0 0 k) v→VR gN mN S (.ref (nid+i) 0 0 k) v)
  {x:AV} {v:Value} (h:Dh gh d m S n x v):VR gN mN S (lW nid (F x)).1 v:=by
 rcases jF x with ⟨xs,k,e,rfl⟩|hxo
 ·simp only [Dh] at h;rw [a.own];exact b 0 k v h
 ·rcases BN x with ⟨l,rfl⟩|ht
  ·simp only [Dh] at h;obtain ⟨vs,e,h⟩:=h;rw [a.tup];simp only [lW,VR];exact ⟨vs,e,vW a c b l vs 0 h⟩
  ·rw [lM hxo ht] at h;rw [jq _ (a.not x hxo) (a.notT x ht)];exact c x v h
theorem Mc:H9 id:=⟨fun _ _ _=>rfl,fun l=>by simp,fun _ h=>h,fun _ h=>h⟩
theorem Np (ρ:Nat→Nat→Option (Nat × Nat)):∀ l,nI ρ l=l.map (ren ρ)
 | []=>rfl
 |x::r=>by simp [nI,Np ρ r]
theorem IA (ρ:Nat→Nat→Option (Nat × Nat)):H9 (ren ρ):=by
 refine ⟨fun _ _ _=>rfl,fun l=>by simp [ren,Np], ?_, ?_⟩
 ·intro x h xs n e a;cases x<;>simp only [ren] at a<;>first
   |(cases a;done)
   |(split at a<;>cases a;done)
   |exact h _ _ _ rfl
 ·intro x h l a;cases x<;>simp only [ren] at a<;>first
   |(cases a;done)
   |(split at a<;>cases a;done)
   |exact h _ rfl
theorem A_:∀ (bs:List bg) (n b:Nat),aB (FT n bs) b=if n≤b then bs[b - n]? else none
 | [],n,b=>by simp [FT,aB]
 | B::r,n,b=>by
  simp only [FT,aB];cases h:Xqn n b with
  |true=>
   have:=aU h;subst this;simp
  | false=>
   have a:n ≠ b:=by intro e;subst e;simp at h
   rw [A_ r (n+1) b];by_cases hle:n≤b
   ·rw [if_pos hle,if_pos (show n+1≤b by omega)];obtain ⟨d,hd⟩:∃ d,b - n=d+1:=⟨b - n - 1,by omega⟩
    rw [hd,Xzb,show b - (n+1)=d by omega]
   ·rw [if_neg hle,if_neg (show ¬ n+1≤b by omega)]
theorem IJ {rd:dJ} {mk:bg→bg}:∀ (fp:List Nat) (b:Nat),aB (fp.filterMap fun b=>(rd b).map fun B=>(b,mk B)) b=if b ∈ fp then (rd b).map mk else none
 | [],b=>by simp [aB]
 | a::r,b=>by
  have f:=IJ (rd:=rd) (mk:=mk) r b;cases c:rd a with
  |none=>
   rw [Xvs (by simp [c]),f];by_cases hab:b=a
   ·subst hab;simp [c]
   ·simp [hab]
  | some B=>
   rw [Xvt (by simp [c];rfl)];simp only [aB];cases h:Xqn a b with
   |true=>have:=aU h;subst this;simp [c]
   |false=>
    have d:b ≠ a:=by intro e;subst e;simp at h
    simp only [f,Xwp,d,false_or]
end
end AM
namespace AM
open Go
def aer (g:dJ) (m:bf) (S:aZ):kG→Ending→Prop
 | .ret v,e=> ∃ cv,e= .returned cv∧VR g m S v cv
 | .pan v,e=> ∃ cv,e= .panicked [{v:=cv,recovered:=false}]∧VR g m S v cv
def ZW (ap:AP) (g:dJ) (m:bf) (S:aZ) (w:World) (out:kG) (ups:List (Nat × bg)) (e:Ending) (w':World):Prop:=
 ∃ m' S',bY ap (dV g ups) m' S' w'∧Fr g m S w (dV g ups) m' S' w'∧aer (dV g ups) m' S' out e
theorem fG {h c:List bg} {b:Nat} (a:b<h.length):bP (h++c) b=bP h b:=by
 simp [bP,Xxb a]
theorem jg {h a:List bg} {b:Nat} (c:h.length≤b):bP (h++a) b=bP a (b - h.length):=by
 simp [bP,List.getElem?_append_right c]
def sW (l:List bg):Prop:=∀ B ∈ l,B.pr=true∧B.fro=false∧B.ver=0
theorem uu:∀ (l:List AV) (n:Nat),sW (fU n l).2
 | [],n=>by simp [fU,sW]
 | x::r,n=>by
  rcases jF x with ⟨xs,k,e,rfl⟩|hx
  ·simp only [fU];intro B a;rcases List.mem_cons.1 a with rfl|a
   ·exact ⟨rfl,rfl,rfl⟩
   ·exact uu r (n+1) B a
  ·rw [bI n hx];exact uu r n
theorem Nl (x:AV) (n:Nat):sW (lW n x).2:=by
 rcases jF x with ⟨xs,k,e,rfl⟩|hx
 ·intro B a;simp [lW] at a;subst a;exact ⟨rfl,rfl,rfl⟩
 ·rcases BN x with ⟨l,rfl⟩|ht
  ·simp only [lW];exact uu l n
  ·rw [jq n hx ht];simp [sW]
theorem CS (o:kG) (n:Nat):sW (nH n o):=by
 cases o with
 |ret v=>exact Nl v n
 |pan v=>simp [nH,sW]
section
variable {P:Program} {ap:AP} {g:dJ} {m:bf} {S:aZ} {w:World}
def J3 (nid:Nat) (F:AV→AV):kG→kG
 | .ret v=> .ret (lW nid (F v)).1
 | .pan v=> .pan (F v)
theorem BV (l:bY ap g m S w) {rd:dJ} (j:∀ b B,rd b=some B→g b=some B) {L:List Nat} (N:∀ b B,rd b=some B→b ∈ L) {nid:Nat} {args args':List AV} {cargs:List Value} {out:kG}
  (ha:kK (frz rd 6) args=some args') (hv:bF g m S args cargs) {C:List Value→(Ending→World→Prop)→Prop} (hmono:∀ cargs R R',C cargs R→(∀ e w',R e w'→R' e w')→C cargs R')
  (f:∀ m1 S1,pY S S1→bY ap (bP []) m1 S1 w→bF (bP []) m1 S1 args' cargs→C cargs fun e w'=> ∃ m' S',G_ ap [] m1 S1 w out [] m' S' w' e) (hfr:∀ i,i<(nH 0 out).length→g (nid+i)=none):
  C cargs fun e w'=>ZW ap g m S w (J3 nid id out) (FT nid (nH 0 out)++L.filterMap fun b=>(rd b).map fun B=>(b,{B with fro:=true,fz:=B.cells.length})) e w':=by
 have T:eG (dL S m rd w) args' cargs:=uS (fun x v y a d=>lU l j 6 x v y a d) ha hv;have s:=oG S m rd w
 let m0:bf:=fun _=>(0,0)
 have M:bY ap (bP []) m0 (dL S m rd w) w:=by
  refine ⟨fun b b' B B' h=>by simp [bP] at h,fun b B h=>by simp [bP] at h,fun k o v h=>qG l h,fun b B h=>by simp [bP] at h, ?_⟩;intro k xs hk;obtain ⟨vs,a,d⟩:=l.glob k xs hk;exact ⟨vs,dE s _ a,d.mono s⟩
 refine hmono _ _ _ (f m0 (dL S m rd w) s M (b_ _ T)) ?_
 rintro e w' ⟨m',S',hF⟩
 obtain ⟨z,q,p⟩:=hF;simp only [Xqi,Xqa] at z q p;generalize I:nH 0 out=bs at z q hfr;have D:sW bs:=I ▸ CS out 0
 let gN:dJ:=dV g (FT nid bs++L.filterMap fun b=>(rd b).map fun B=>(b,{B with fro:=true,fz:=B.cells.length}))
 let mN:bf:=fun b=>if nid≤b∧b - nid<bs.length then m' (b - nid) else m b
 have u:∀ b,gN b=if nid≤b∧b - nid<bs.length then bs[b - nid]? else match rd b with|some B=>some {B with fro:=true,fz:=B.cells.length}|none=>g b:=by
  intro b;show dV g _ b=_;unfold dV;have X:∀ mk:bg→bg,(if b ∈ L then (rd b).map mk else none)=(rd b).map mk:=by
   intro mk;split
   ·rfl
   ·rename_i c;cases r:rd b with
    |none=>rfl
    |some B=>exact absurd (N b B r) c
  rw [iM,A_,IJ,X];by_cases a:nid≤b
  ·by_cases d:b - nid<bs.length
   ·have f:nid≤b∧b - nid<bs.length:=⟨a,d⟩
    rw [if_pos a,if_pos f,π d]
   ·have f:¬ (nid≤b∧b - nid<bs.length):=fun h=>d h.2
    rw [if_pos a,if_neg f,Xq7 (Xv5 d)];cases rd b<;>rfl
  ·have f:¬ (nid≤b∧b - nid<bs.length):=fun h=>a h.1
   rw [if_neg a,if_neg f];cases rd b<;>rfl
 have hnidg:∀ b B,g b=some B→¬ (nid≤b∧b - nid<bs.length):=by
  rintro b B c ⟨a,d⟩
  have:=hfr (b - nid) d;rw [show nid+(b - nid)=b by omega,c] at this;cases this
 have W:Ge g m gN mN:=by
  intro b B c;have hn:=hnidg b B c;have E:mN b=m b:=if_neg hn;rw [u,if_neg hn];cases r:rd b with
  |none=>exact ⟨B,c,rfl,.inl ⟨rfl,E⟩⟩
  |some B1=>
   have:=j b B1 r;rw [c] at this;cases this;exact ⟨_,rfl,rfl,.inl ⟨rfl,E⟩⟩
 have A:∀ i B,bs[i]? =some B→gN (nid+i)=some B∧mN (nid+i)=m' i:=by
  intro i B F;have hl:=(List.getElem?_eq_some_iff.1 F).1;have f:nid≤nid+i∧nid+i - nid<bs.length:=by omega
  refine ⟨by rw [u,if_pos f,show nid+i - nid=i by omega];exact F, ?_⟩;show (if _ then _ else _)=_;rw [if_pos f,show nid+i - nid=i by omega]
 obtain ⟨U,O⟩:=adX (g:=g) (m:=m) (S:=S) (w:=w) l z q (fun i=>nid+i) (fun i Bc h=>by simp [bP] at h) s
  (fun k o v h=>(fV h).imp id fun ⟨_,b,B,a,d,_⟩=> ⟨b,B,j b B a,d⟩) (gN:=gN) (mN:=mN) (fun i v=>some (nid+i,v))
  (by
   intro b ver b' ver' h B hB G;simp only [Option.some.injEq,Prod.mk.injEq] at h;obtain ⟨rfl,rfl⟩:=h;obtain ⟨a,d⟩:=A b B hB;exact ⟨B,a,G,fun e=> ⟨e,d,rfl⟩⟩)
  (by
   intro i Bc F;obtain ⟨a,d⟩:=A i Bc F;exact ⟨Bc,a,d,rfl,rfl,rfl,rfl,fun _=>rfl,fun hp=>by rw [(D Bc (Xqt F)).1] at hp;cases hp⟩)
  (by
   intro b B c;by_cases f:nid≤b∧b - nid<bs.length
   ·rw [u,if_pos f] at c;exact .inl ⟨b - nid,B,c,by omega⟩
   ·have E:mN b=m b:=if_neg f;rw [u,if_neg f] at c;right;cases r:rd b with
    | none=>
     rw [r] at c;have c:g b=some B:=c;refine ⟨B,c,E,rfl,rfl,rfl,(l.blk b B c).fz0,(l.blk b B c).fzle,(fun i Bc h=>by simp [bP] at h), ?_⟩;intro o v V;rcases fV V with h|⟨_,Z,B1,a,d,_⟩
     ·exact l.own b B c o v h
     ·have:=l.inj Z b B1 B (j _ _ a) c d;subst this;rw [a] at r;cases r
    | some B1=>
     rw [r] at c;have c:some {B1 with fro:=true,fz:=B1.cells.length}=some B:=c;cases c;have t:=j b B1 r;refine ⟨B1,t,E,rfl,rfl,rfl,(fun h=>by cases h),Δ _,(fun i Bc h=>by simp [bP] at h), ?_⟩;intro o v V;refine ⟨rfl, ?_⟩;rcases fV V with h|⟨_,Z,B2,a,d,Q⟩
     ·exact Φ (l.own b B1 t o v h).2 (l.blk b B1 t).fzle
     ·have:=l.inj Z b B2 B1 (j _ _ a) t d;subst this;rw [a] at r;cases r;exact Q)
  W
 refine ⟨mN,S',U,O, ?_⟩;show aer gN mN S' (J3 nid id out) e;cases out with
 |ret v=>
  obtain ⟨cv,Y,a⟩:=p;refine ⟨cv,Y, ?_⟩;have K:(lW 0 v).2=bs:=I;simp only [Xqa,Xqi,K] at a;refine Gh (n:=0) Mc (fun x v J=>iG x (oL x J)) ?_ a;intro i k v J;rw [Xqd] at J;simp only [VR] at J ⊢;obtain ⟨B,d,Q,h4,h5⟩:=J;obtain ⟨h6,h7⟩:=A i B d;exact ⟨B,h6,Q,h4,by rw [h7];exact h5⟩
 |pan v=>
  obtain ⟨cv,Y,a⟩:=p;exact ⟨cv,Y,iG _ (oL _ a)⟩
end
end AM
namespace AM
open Go
theorem MP {b:Nat} {r:List Nat} (h:ui (b::r)=true):b ∉ r∧ui r=true:=by
 simp only [ui,ο,Xqw] at h;refine ⟨fun a=> ?_,h.2⟩;rw [jM.2 a] at h;cases h.1
theorem rZ:∀ {l:List Nat} {b p:Nat},qO l b=some p→l[p]? =some b
 | [],b,p,h=>by simp [qO] at h
 | c::r,b,p,h=>by
  simp only [qO] at h;split at h
  ·rename_i d;cases h;rw [aU d];rfl
  ·simp only [Xqr] at h;obtain ⟨q,a,rfl⟩:=h;simpa using rZ a
theorem qy:∀ {l:List Nat} {b p:Nat},ui l=true→l[p]? =some b→qO l b=some p
 | [],b,p,_,h=>by simp at h
 |c::r,b,0,hn,h=>by simp at h;subst h;simp [qO]
 | c::r,b,p+1,hn,h=>by
  obtain ⟨d,f⟩:=MP hn;have h:r[p]? =some b:=by simpa using h
  have a:Xqn c b=false:=by
   cases e:Xqn c b with
   |false=>rfl
   |true=>exact absurd (aU e ▸ Xqt h) d
  simp [qO,a,qy f h]
theorem MJ {mk:Nat→bg→bg}:∀ (fp:List Nat) (h':List bg) (b:Nat),aB ((Ob fp h').map fun (b,B)=>(b,mk b B)) b=(qO fp b).bind fun p=>(h'[p]?).map (mk b)
 | [],h',b=>by cases h'<;>simp [Ob,aB,qO]
 |a::r,[],b=>by
  simp only [Ob,List.map_nil,aB,qO];cases Xqn a b with
  |true=>rfl
  |false=>cases qO r b<;>rfl
 | a::r,B::q,b=>by
  simp only [Ob,Xqb,aB,qO];cases h:Xqn a b with
  |true=>have:=aU h;subst this;rfl
  |false=>
   simp only [MJ r q b];cases qO r b<;>simp
section
variable {P:Program} {ap:AP} {g:dJ} {m:bf} {S:aZ} {w:World}
def KI (ρ:Nat→Nat→Option (Nat × Nat)) (B:bg):bg:={B with cells:=(match B.pr with|true=>B.cells|false=>nI ρ B.cells),ver:=0}
theorem ar1 {a b n i:Nat} (h:b≤a):n+(a+i - b)=n+(a - b)+i:=by omega
theorem ar2 {a b i:Nat} (h:b≤a):b+(a+i - b)=a+i:=by omega
theorem aaj {ρ:Nat→Nat→Option (Nat × Nat)} {l:List bg} (h:sW l):l.map (Dk ρ 0)=l:=by
 induction l with
 |nil=>rfl
 |cons B r ih=>
  rw [Xqb,ih fun B d=>h B (by simp [d])];obtain ⟨b,_,a⟩:=h B (by simp);obtain ⟨c,v,f,z,e,p⟩:=B;simp only at b a;subst b a;rfl
theorem BX (L:bY ap g m S w) {rd:dJ} (hrd:∀ b B,rd b=some B→g b=some B) {a:List Nat} {Q:List bg} (hbl:kK rd a=some Q) (I:ui a=true) {nid:Nat} {args:List AV} {cargs:List Value} {out:kG}
  {vers:Nat→Nat} (hvers:∀ b B,rd b=some B→vers b=B.ver) {ρ ρ':Nat→Nat→Option (Nat × Nat)} (hρe:∀ b v,ρ b v=match Xqn v (vers b) with|true=>(qO a b).map fun p=>(p,0)|false=>none)
  {h':List bg} (hρe':ρ'=Qx nid a vers h'.length)
  (hv:bF g m S args cargs) {C:List Value→(Ending→World→Prop)→Prop} (hmono:∀ cargs R R',C cargs R→(∀ e w',R e w'→R' e w')→C cargs R')
  (r:∀ m1 S1,pY S S1→bY ap (bP (Q.map (KI ρ))) m1 S1 w→bF (bP (Q.map (KI ρ))) m1 S1 (nI ρ args) cargs→C cargs fun e w'=> ∃ m' S',G_ ap (Q.map (KI ρ)) m1 S1 w out h' m' S' w' e) (hl:a.length≤h'.length) (hfr:∀ i,i<(h'.length - a.length)+(nH h'.length out).length→g (nid+i)=none):
  C cargs fun e w'=>ZW ap g m S w (J3 (nid+(h'.length - a.length)) (ren ρ') out) (FT nid ((h'.drop a.length).map (Dk ρ' 0)++nH h'.length out)++(Ob a h').map fun (b,B)=>(b,Dk ρ' (vers b) B)) e w':=by
 have s:∀ p b,a[p]? =some b→∃ B,rd b=some B∧g b=some B∧bP (Q.map (KI ρ)) p=some (KI ρ B):=by
  intro p b hp;obtain ⟨B,c,d⟩:=(jh hbl).2 p b hp;exact ⟨B,d,hrd b B d,by simp [bP,c]⟩
 have u:∀ p Bc,bP (Q.map (KI ρ)) p=some Bc→∃ b B,a[p]? =some b∧rd b=some B∧g b=some B∧Bc=KI ρ B:=by
  intro p Bc hp;have z:p<a.length:=by
   have:=(List.getElem?_eq_some_iff.1 hp).1;rw [List.length_map,(jh hbl).1] at this;exact this
  obtain ⟨B,c,d,f⟩:=s p _ (π z);rw [f] at hp;cases hp;exact ⟨_,B,π z,c,d,rfl⟩
 let mc:bf:=fun p=>m (a.getD p 0)
 have l:∀ p b,a[p]? =some b→mc p=m b:=by
  intro p b hp;show m (a.getD p 0)=_;rw [κ,hp];rfl
 have N:uH g m (bP (Q.map (KI ρ))) mc ρ:=by
  intro b ver X D h B K J;rw [hρe] at h;split at h
  ·rename_i hve;simp only [Xqr,Prod.mk.injEq] at h;obtain ⟨p,hp,rfl,rfl⟩:=h;have hp:=rZ hp;obtain ⟨B1,c,d,f⟩:=s p b hp;rw [d] at K;cases K;exact ⟨_,f,Xx1 _,fun _=> ⟨by rw [aU hve,hvers b _ c],l p b hp,rfl⟩⟩
  ·cases h
 have hSc:bY ap (bP (Q.map (KI ρ))) mc S w:=by
  refine ⟨?_, ?_,L.sealed, ?_,L.glob⟩
  ·intro p q Bp Bq hp hq e;obtain ⟨b,B,c,d,f,_⟩:=u p Bp hp;obtain ⟨X,B',h1',h2',h3',_⟩:=u q Bq hq;rw [l p b c,l q X h1'] at e;have:=L.inj b X B B' f h3' e;subst this;have W:=qy I c;rw [qy I h1'] at W;cases W;rfl
  ·intro p Bp hp;obtain ⟨b,B,c,d,f,rfl⟩:=u p Bp hp;rw [l p b c];obtain ⟨⟨cur,e,vs,rest,k1,k2,k3,k4,k5,k6⟩,k7,k8⟩:=L.blk b B f;cases hp:B.pr with
   |true=>exact ⟨⟨cur,e,vs,rest,k1,k2,fun _=>by simpa [KI,hp] using k3 hp,by simpa [KI,hp] using b_ _ (k3 hp),k5,k6⟩,k7,by simpa [KI,hp] using k8⟩
   | false=>
    have hv:=kQ (pY.refl S) N _ k4;exact ⟨⟨cur,e,vs,rest,k1,k2,fun h=>by simp [KI,hp] at h,by simpa [KI,hp] using hv,k5,k6⟩,k7,by
     have:(KI ρ B).cells.length=B.cells.length:=by simp only [KI,hp];rw [bZ k4,bZ hv]
     rw [this];exact k8⟩
  ·intro p Bp hp o v ho;obtain ⟨b,B,c,d,f,rfl⟩:=u p Bp hp;rw [l p b c] at ho;exact L.own b B f o v ho
 refine hmono _ _ _ (r mc S (pY.refl S) hSc (kQ (pY.refl S) N _ hv)) ?_
 rintro e w' ⟨m',S',hF⟩
 obtain ⟨hsr,E,O⟩:=hF;generalize hbs:nH h'.length out=bs0 at hsr E hfr;have hown:sW bs0:=hbs ▸ CS out h'.length;obtain ⟨bs,F⟩:∃ bs,bs=h'.drop a.length++bs0:=⟨_,rfl⟩
 have hbsl:bs.length=(h'.length - a.length)+bs0.length:=by rw [F,List.length_append,List.length_drop]
 rw [← hbsl] at hfr
 let ups:=(Ob a h').map fun (b,B)=>(b,Dk ρ' (vers b) B)
 rw [show (h'.drop a.length).map (Dk ρ' 0)++bs0=bs.map (Dk ρ' 0) by rw [F,List.map_append,aaj hown]]
 let gN:dJ:=dV g (FT nid (bs.map (Dk ρ' 0))++ups)
 let mN:bf:=fun b=>if nid≤b∧b - nid<bs.length then m' (a.length+(b - nid)) else match qO a b with|some p=>m' p|none=>m b
 have G:∀ b,gN b=if nid≤b∧b - nid<bs.length then (bs[b - nid]?).map (Dk ρ' 0) else match (qO a b).bind fun p=>(h'[p]?).map (Dk ρ' (vers b)) with|some B=>some B|none=>g b:=by
  intro b;show dV g _ b=_;unfold dV;rw [iM,A_,MJ (mk:=fun b B=>Dk ρ' (vers b) B)];by_cases c:nid≤b
  ·by_cases d:b - nid<bs.length
   ·have r:nid≤b∧b - nid<bs.length:=⟨c,d⟩
    rw [if_pos c,if_pos r,Xq6,π d];rfl
   ·have r:¬ (nid≤b∧b - nid<bs.length):=fun h=>d h.2
    rw [if_pos c,if_neg r,Xq6,Xq7 (Xv5 d)];rfl
  ·have r:¬ (nid≤b∧b - nid<bs.length):=fun h=>c h.1
   rw [if_neg c,if_neg r];rfl
 have hnidg:∀ b B,g b=some B→¬ (nid≤b∧b - nid<bs.length):=by
  rintro b B j ⟨c,d⟩
  have:=hfr (b - nid) d;rw [show nid+(b - nid)=b by omega,j] at this;cases this
 have hh':∀ p,p<a.length→∃ B,h'[p]? =some B:=fun p hp=> ⟨_,π (by omega)⟩
 have T:∀ p b,a[p]? =some b→∀ Bc,h'[p]? =some Bc→gN b=some (Dk ρ' (vers b) Bc)∧mN b=m' p:=by
  intro p b hp Bc K;obtain ⟨B,c,d,f⟩:=s p b hp;have Z:=hnidg b B d;refine ⟨by rw [G,if_neg Z,qy I hp];simp [K], ?_⟩;show (if _ then _ else _)=_;rw [if_neg Z,qy I hp]
 have V:∀ i B,bs[i]? =some B→gN (nid+i)=some (Dk ρ' 0 B)∧mN (nid+i)=m' (a.length+i):=by
  intro i B A;have hl:=(List.getElem?_eq_some_iff.1 A).1;have r:nid≤nid+i∧nid+i - nid<bs.length:=by omega
  refine ⟨by rw [G,if_pos r,show nid+i - nid=i by omega,A];rfl, ?_⟩;show (if _ then _ else _)=_;rw [if_pos r,show nid+i - nid=i by omega]
 have U:∀ p,a.length≤p→bP (h'++bs0) p=bs[p - a.length]? :=by
  intro p hp;have he:h'++bs0=h'.take a.length++bs:=by rw [F,← τ,List.take_append_drop]
  have z:(h'.take a.length).length=a.length:=by rw [List.length_take];omega
  rw [he,jg (by omega),z];rfl
 have t:∀ p Bc,bP (h'++bs0) p=some Bc→(p<a.length∧h'[p]? =some Bc)∨(a.length≤p∧bs[p - a.length]? =some Bc):=by
  intro p Bc h;by_cases hp:p<a.length
  ·rw [fG (by omega)] at h;exact .inl ⟨hp,h⟩
  ·rw [U p (by omega)] at h;exact .inr ⟨by omega,h⟩
 have hren':uH (bP (h'++bs0)) m' gN mN ρ':=by
  intro p ver X D h Bc K J;rw [hρe'] at h;unfold Qx at h;split at h
  ·rename_i b hp;cases h;rcases t p Bc K with ⟨c,d⟩|⟨c,_⟩
   ·obtain ⟨f,y⟩:=T p _ hp Bc d;exact ⟨_,f,by simp only [Dk];omega,fun e=> ⟨by simp only [Dk] at e;omega,y,rfl⟩⟩
   ·have:=(List.getElem?_eq_some_iff.1 hp).1;omega
  ·rename_i hp;split at h
   ·cases h;have hge:=List.getElem?_eq_none_iff.1 hp;rcases t p Bc K with ⟨c,_⟩|⟨c,d⟩
    ·omega
    ·obtain ⟨f,y⟩:=V _ Bc d;exact ⟨_,f,by simp only [Dk];omega,fun e=> ⟨by simp only [Dk] at e;omega,by rw [y,show a.length+(p - a.length)=p by omega],rfl⟩⟩
   ·cases h
 have hge:Ge g m gN mN:=by
  intro b B j;have Z:=hnidg b B j;cases A:qO a b with
  | none=>
   have hm:mN b=m b:=by
    show (if _ then _ else _)=_;rw [if_neg Z,A]
   refine ⟨B, ?_,rfl,.inl ⟨rfl,hm⟩⟩;rw [G,if_neg Z,A];exact j
  | some p=>
   have hp:=rZ A;obtain ⟨B1,c,d,f⟩:=s p b hp;rw [d] at j;cases j;obtain ⟨Bc,y,h5,M⟩:=E.ge p _ f;rcases t p Bc y with ⟨_,Y⟩|⟨Y,_⟩
   ·obtain ⟨h8,h9⟩:=T p b hp Bc Y;refine ⟨_,h8,h5, ?_⟩;rcases M with ⟨M,h6'⟩|M
    ·left;refine ⟨?_,by rw [h9,h6',l p b hp]⟩;simp only [Dk,KI] at M ⊢;rw [hvers b _ c];omega
    ·right;simp only [Dk,KI] at M ⊢;rw [hvers b _ c];omega
   ·have:=(List.getElem?_eq_some_iff.1 hp).1;omega
 let ι:Nat→Nat:=fun p=>if p<a.length then a.getD p 0 else nid+(p - a.length)
 have hι:∀ p b,a[p]? =some b→ι p=b:=by
  intro p b hp;show (if _ then _ else _)=_;rw [if_pos (List.getElem?_eq_some_iff.1 hp).1,κ,hp];rfl
 have hι':∀ i,ι (a.length+i)=nid+i:=by
  intro i;show (if _ then _ else _)=_;rw [if_neg (by omega)];congr 1;omega
 obtain ⟨hsN,hfN⟩:=adX (g:=g) (m:=m) (S:=S) (w:=w) L hsr E ι
  (by
   intro p Bc hp;obtain ⟨b,B,c,d,f,rfl⟩:=u p Bc hp;rw [hι p b c];exact ⟨B,f,l p b c⟩) (pY.refl S) (fun k o v h=> .inl h) (gN:=gN) (mN:=mN) ρ' hren'
  (by
   intro p Bc hp;rcases t p Bc hp with ⟨c,d⟩|⟨c,d⟩
   ·have hp:=π c;obtain ⟨f,y⟩:=T p _ hp Bc d;rw [hι p _ hp];exact ⟨_,f,y,rfl,rfl,rfl,rfl,fun h=>by simp [Dk,h],fun h=>by simp [Dk,h]⟩
   ·obtain ⟨i,rfl⟩:∃ i,p=a.length+i:=⟨p - a.length,by omega⟩
    rw [show a.length+i - a.length=i by omega] at d;obtain ⟨f,y⟩:=V i Bc d;rw [hι' i];exact ⟨_,f,y,rfl,rfl,rfl,rfl,fun h=>by simp [Dk,h],fun h=>by simp [Dk,h]⟩)
  (by
   intro b B j;by_cases r:nid≤b∧b - nid<bs.length
   ·rw [G,if_pos r,Xqr] at j;obtain ⟨Bc,j,_⟩:=j;refine .inl ⟨a.length+(b - nid),Bc, ?_,by rw [hι'];omega⟩;rw [U _ (by omega),show a.length+(b - nid) - a.length=b - nid by omega];exact j
   ·rw [G,if_neg r] at j;cases A:qO a b with
    |some p=>
     have hp:=rZ A;have z:=(List.getElem?_eq_some_iff.1 hp).1;obtain ⟨Bc,y⟩:=hh' p z;exact .inl ⟨p,Bc,by rw [fG (by omega)];exact y,(hι p b hp).symm⟩
    | none=>
     have hm:mN b=m b:=by
      show (if _ then _ else _)=_;rw [if_neg r,A]
     rw [A] at j;have j:g b=some B:=j;refine .inr ⟨B,j,hm,rfl,rfl,rfl,(L.blk b B j).fz0,(L.blk b B j).fzle, ?_,fun o v ho=>L.own b B j o v ho⟩;intro p Bc hp e;obtain ⟨b1,B1,c,_⟩:=u p Bc hp;rw [hι p b1 c] at e;subst e;rw [qy I c] at A;cases A)
  hge
 refine ⟨mN,S',hsN,hfN, ?_⟩;show aer gN mN S' (J3 (nid+(h'.length - a.length)) (ren ρ') out) e;have hrenh:uH (bP h') m' gN mN ρ':=by
  intro p ver X D h Bc K J;refine hren' p ver X D h Bc ?_ J;rw [fG (List.getElem?_eq_some_iff.1 K).1];exact K
 cases out with
 |ret v=>
  obtain ⟨cv,W,c⟩:=O;refine ⟨cv,W, ?_⟩;have hbs':(lW h'.length v).2=bs0:=hbs;rw [hbs'] at c;refine Gh (n:=h'.length) (IA ρ') (fun x v hx=>Au (pY.refl S') hrenh x hx) ?_ c;intro i k v hx;simp only [VR] at hx ⊢;obtain ⟨B,d,f,y,h5⟩:=hx;rw [U _ (Xxr hl (Nat.le_add_right _ _))] at d;obtain ⟨M,Y⟩:=V _ B d;rw [ar1 hl] at M Y;rw [ar2 hl] at Y;exact ⟨_,M,Xx1 _,y,fun e=>by rw [Y];exact h5 (by simpa [Dk] using e)⟩
 |pan v=>
  obtain ⟨cv,W,c⟩:=O;exact ⟨cv,W,Au (pY.refl S') hrenh _ c⟩
end
end AM
namespace AM
open Go
section
variable {P:Program} {ap:AP} {H:dD}
theorem yR {o:dJ} {nid f:Nat} {args:List AV} {md:AV} {c D:Cx} {r:V5} (h:uY ap H o nid md f args c= .ok r D):
  ∃ args0 h0 out0 h0',H c md f args0 h0= .ok (out0,h0',r.md) D∧((∃ v,out0= .ret v)↔∃ v,r.out= .ret v)∧
  ∀ g m S w cargs (C:List Value→(Ending→World→Prop)→Prop),(∀ cargs R R',C cargs R→(∀ e w',R e w'→R' e w')→C cargs R')→bY ap g m S w→(∀ b ∈ r.fp,∀ B,o b=some B→g b=some B)→(∀ i,i<4→g (nid+i)=none)→bF g m S args cargs→
   (∀ m1 S1,pY S S1→bY ap (bP h0) m1 S1 w→bF (bP h0) m1 S1 args0 cargs→C cargs fun e w'=> ∃ m' S',G_ ap h0 m1 S1 w out0 h0' m' S' w' e)→
   C cargs fun e w'=>ZW ap g m S w r.out r.ups e w':=by
 unfold uY at h;simp only at h;generalize F:uO o 6 (jl (bV args))=fp at h
 let rd:dJ:=fun b=>match uf fp b with|true=>o b|false=>none
 have a:∀ b B,rd b=some B→b ∈ fp∧o b=some B:=by
  intro b B d;dsimp only [rd] at d;split at d
  ·rename_i E;exact ⟨jM.1 E,d⟩
  ·cases d
 split at h
 ·split at h
  ·cases h
  ·rename_i args' A;obtain ⟨⟨out,u,md⟩,G,x,h⟩:=R.bind_ok h;dsimp only at h;split at h
   ·cases h
   ·split at h
    ·rename_i v;split at h
     ·rename_i n;cases h;refine ⟨_,_,_,_,x,⟨fun _=> ⟨_,rfl⟩,fun _=> ⟨_,rfl⟩⟩, ?_⟩;intro g m S w cargs C hmono q k l t s;have j:nH 0 (kG.ret v)=(lW nid v).2:=CU Mc v 0 nid;have:=BV q (rd:=rd) (fun b B d=>k b (a b B d).1 B (a b B d).2) (fun b B d=>(a b B d).1) (nid:=nid) A t hmono s (fun i p=>l i (by rw [j] at p;have:=gB n;omega));rw [j] at this;exact this
     ·cases h
    ·rename_i v;cases h;refine ⟨_,_,_,_,x,⟨(fun ⟨_,h⟩=>by cases h),(fun ⟨_,h⟩=>by cases h)⟩, ?_⟩;intro g m S w cargs C hmono q k l t s;exact BV q (rd:=rd) (fun b B d=>k b (a b B d).1 B (a b B d).2) (fun b B d=>(a b B d).1) (nid:=nid) A t hmono s (fun i p=>by simp [nH] at p)
 ·split at h
  ·cases h
  ·rename_i I y;obtain ⟨⟨out,u,md⟩,G,x,h⟩:=R.bind_ok h;dsimp only at h;split at h
   ·cases h
   ·rename_i hcond;simp only [ο] at hcond;have z:=gB hcond.1
    let vers:Nat→Nat:=fun b=>match rd b with|some B=>B.ver|none=>0
    have hvers':∀ b B,rd b=some B→vers b=B.ver:=by
     intro b B d;simp only [vers,d]
    let ρ':Nat→Nat→Option (Nat × Nat):=Qx nid fp vers u.length
    split at h
    ·rename_i v;split at h
     ·rename_i n;cases h;refine ⟨_,_,_,_,x,⟨fun _=> ⟨_,rfl⟩,fun _=> ⟨_,rfl⟩⟩, ?_⟩;intro g m S w cargs C hmono q k l t s;have j:nH u.length (kG.ret v)=(lW (nid+(u.length - fp.length)) (ren ρ' v)).2:=(CU (IA ρ') v (nid+(u.length - fp.length)) u.length).symm;have:=BX q (rd:=rd) (fun b B d=>k b (a b B d).1 B (a b B d).2) y hcond.2 (nid:=nid) hvers' (ρ':=ρ') (fun b v=>rfl) rfl t hmono s z (fun i p=>l i (by rw [j] at p;exact Φ p (gB n)));rw [j] at this;exact this
     ·cases h
    ·rename_i v;split at h
     ·rename_i n;cases h;refine ⟨_,_,_,_,x,⟨(fun ⟨_,h⟩=>by cases h),(fun ⟨_,h⟩=>by cases h)⟩, ?_⟩;intro g m S w cargs C hmono q k l t s;exact BX q (rd:=rd) (fun b B d=>k b (a b B d).1 B (a b B d).2) y hcond.2 (nid:=nid) hvers' (ρ':=ρ') (fun b v=>rfl) rfl t hmono s z (fun i p=>l i (by simp only [nH,Xqa,Xq8] at p;exact Φ p (gB n)))
     ·cases h
theorem Eu (z:nG P ap H) {a:dJ} {nid f:Nat} {args:List AV} {c q:Cx} {r:V5} (h:uY ap H a nid .dead f args c= .ok r q) (u:q.Ok):
  c.Ok∧Ed P f∧∀ g m S w cargs,bY ap g m S w→(∀ b ∈ r.fp,∀ B,a b=some B→g b=some B)→(∀ i,i<4→g (nid+i)=none)→bF g m S args cargs→
   Calls P f cargs.toArray w fun e w'=>ZW ap g m S w r.out r.ups e w':=by
 obtain ⟨args0,C,o,y,A,_,v⟩:=yR h;obtain ⟨d,p⟩:=z _ _ _ _ _ _ _ _ A u;refine ⟨d,p.ent,fun g m S w cargs s n j x=> ?_⟩;exact v g m S w cargs (fun cargs R=>Calls P f cargs.toArray w R) (fun _ _ _ l k=>l.mono k) s n j x fun t S1 _ l k=>p.calls t S1 w cargs l k
end
end AM
namespace AM
open Go
def uQ (dec:List (Nat × Bool)) (env:iT):Prop:=∀ t b,aB dec t=some b→env.get t= .bool b
def iy (g:dJ) (m:bf) (S:aZ):List (Nat × List AV)→List Deferred→Prop
 | [],[]=>True
 |d::r,cd::cr=>(∃ cap,cd.target= .fn (.func d.1) cap∧bF g m S d.2 (cd.args++cap).toList)∧iy g m S r cr
 |_,_=>False
theorem ww {g g':dJ} {m e:bf} {S S':aZ} (b:pY S S') (c:Ge g m g' e):∀ {l:List (Nat × List AV)} {ds:List Deferred},iy g m S l ds→iy g' e S' l ds
 | [],[],_=>by simp only [iy]
 |d::r,cd::cr,h=>by
  simp only [iy] at h ⊢;obtain ⟨⟨a,j,i⟩,f⟩:=h;exact ⟨⟨a,j,mM b c _ i⟩,ww b c f⟩
 | [],_::_,h=>by simp [iy] at h
 |_::_,[],h=>by simp [iy] at h
theorem BQ {g:dJ} {m:bf} {S:aZ}:∀ {l l':List (Nat × List AV)} {ds ds':List Deferred},iy g m S l ds→iy g m S l' ds'→iy g m S (l++l') (ds++ds')
 | [],_,[],_,_,h'=>by simpa using h'
 |d::r,_,cd::cr,_,h,h'=>by
  simp only [iy] at h;simp only [List.cons_append,iy];exact ⟨h.1,BQ h.2 h'⟩
 | [],_,_::_,_,h,_=>by simp [iy] at h
 |_::_,_,[],_,h,_=>by simp [iy] at h
def wpO (P:Program) (ops:Array Oper) (Q:Exit→Act→World→Prop) (o:Oper) (K:Act→World→Prop) (a:Act) (w:World):Prop:=
 if Region.wanted o (yielded ops a.tmps) then o.wp P a w K Q∨(o.asks P a w∧LetsOut Q) else K (a.put o.dst undef) w
def adF (ap:AP) (o:Oper) (g:dJ) (m:bf) (S:aZ) (w:World) (a:Act) (v:AV) (ups:List (Nat × bg)) (df:List (Nat × List AV)) (Q:Exit→Act→World→Prop) (K:Act→World→Prop):Option AV→Prop
 |none=> ∀ cv m' S' w' ds,bY ap (dV g ups) m' S' w'→Fr g m S w (dV g ups) m' S' w'→VR (dV g ups) m' S' v cv→iy (dV g ups) m' S' df ds→K ({a with defers:=ds++a.defers}.put o.dst cv) w'
 |some pv=> ∀ cv m' S' w',bY ap (dV g ups) m' S' w'→Fr g m S w (dV g ups) m' S' w'→VR (dV g ups) m' S' pv cv→Q (.panic [{v:=cv,recovered:=false}]) a w'
def Qu (P:Program) (ap:AP) (ops:Array Oper) (o:Oper) (nid:Nat) (env:iT) (hp:Hp) (rt rb:List Nat) (v:AV) (ups:List (Nat × bg)) (df:List (Nat × List AV)) (p:Option AV):Prop:=
 ∀ g m S w (a:Act),bY ap g m S w→(∀ t ∈ rt,VR g m S (env.get t) (a.tmps.getD t undef))→(∀ b ∈ rb,∀ B,aB hp b=some B→g b=some B)→(∀ i,i<4→g (nid+i)=none)→
  ∀ (Q:Exit→Act→World→Prop) (K:Act→World→Prop),adF ap o g m S w a v ups df Q K p→wpO P ops Q o K a w
structure ahS (P:Program) (ap:AP) (ops:Array Oper) (o:Oper) (nid:Nat) (s s':RS) (p:Option AV) (v:AV) (rt rb:List Nat) (ups:List (Nat × bg)) (df:List (Nat × List AV)):Prop where
 env:p=none→s'.env=qU s.env o.dst v
 envp:p ≠ none→s'.env=s.env∧df= []
 hp:s'.hp=ups++s.hp
 md:s'.md=s.md
 dfs:s'.dfs=df++s.dfs
 dec:p=none→uQ s'.dec s'.env
 feet:p=none→s'.feet={rt,wt:=Jo o,rb,wb:=ups.map (·.1)}::s.feet
 sem:Qu P ap ops o nid s.env s.hp rt rb v ups df p
section
variable {P:Program} {ap:AP} {H:dD}
theorem XL (e:Array Value) (t:Nat) {v:Value} (h:e.getD t undef=v) (b:v ≠ undef):e[t]? =some v:=by
 rw [Array.getD_eq_getD_getElem?] at h;cases a:e[t]? with
 |none=>rw [a] at h;exact absurd h.symm b
 |some u=>rw [a] at h;simpa using h
theorem GL {ops:Array Oper} {tmps:Array Value} {j s:Nat} (hs:(ops[j]?).bind (·.dst)=some s) {b:Bool} (h:tmps.getD s undef= .bool b):yielded ops tmps j=some b:=by
 unfold yielded;rw [hs];simp only [Xw4];rw [XL tmps s h (by simp [undef])]
theorem KE {ops:Array Oper} {tmps:Array Value} {j s:Nat} (hs:(ops[j]?).bind (·.dst)=some s) (h:tmps.getD s undef= .tuple #[]):yielded ops tmps j=none:=by
 unfold yielded;rw [hs];simp only [Xw4];rw [Array.getD_eq_getD_getElem?] at h;cases a:tmps[s]? with
 |none=>rfl
 |some u=>
  rw [a] at h;simp at h;rw [h]
theorem xR {g:dJ} {m:bf} {S:aZ} {w:World} (b:bY ap g m S w) {env:iT} {a:Act} (x:Operand) (h:∀ t,x= .tmp t→VR g m S (env.get t) (a.tmps.getD t undef)):VR g m S (rQ ap env x) (a.eval x):=by
 cases x with
 |tmp t=>exact h t rfl
 |const v=>exact iG _ (KQ S v)
 | global k=>
  simp only [rQ,Act.eval];cases d:(ap.gl[k]?).join with
  |none=>simp only [VR]
  |some xs=>
   obtain ⟨vs,e,c⟩:=b.glob k xs d;simp only [VR,PR];exact ⟨k,0,vs,rfl,e,c⟩
 |func f=>
  simp only [rQ,Act.eval,VR];exact ⟨[],[],rfl,by simp [bF],by simp [bF]⟩
theorem FH {l:List Operand} {t:Nat} (h:Operand.tmp t ∈ l):t ∈ v_ l:=by
 simp only [v_,List.mem_filterMap];exact ⟨_,h,rfl⟩
theorem Jy {ops:List Oper} {env:iT} {dec e:List (Nat × Bool)} {o:Oper} {c B:Cx} {run:Bool} (h:O6 ops env dec o c= .ok (run,e) B) (p:B.Ok):
  c.Ok∧(uQ dec env→uQ e env∧(∀ t b,aB dec t=some b→aB e t=some b)∧∀ g m S (a:Act),(∀ t ∈ jy ops o,VR g m S (env.get t) (a.tmps.getD t undef))→Region.wanted o (yielded ops.toArray a.tmps)=run):=by
 unfold O6 at h;unfold jy;unfold Region.wanted;split at h
 ·rename_i y;cases h;simp only [y];exact ⟨p,fun hd=> ⟨hd,fun _ _ h=>h,fun _ _ _ _ _=>trivial⟩⟩
 ·rename_i j f y;simp only [y];split at h
  ·cases h
  ·rename_i s hs;have k:(ops.toArray[j]?).bind (·.dst)=some s:=by simpa using hs
   split at h
   ·rename_i b l;cases h;refine ⟨p,fun hd=> ⟨hd,fun _ _ h=>h,fun g m S a n=> ?_⟩⟩;have d:=n s (by simp);rw [hd s b l] at d;simp only [VR,PR] at d;rw [GL k d];cases f<;>cases b<;>rfl
   ·rename_i A;split at h
    ·rename_i b l;obtain ⟨C,D,d,u⟩:=R.bind_ok h;cases u;obtain ⟨q,rfl⟩:=lN d p;refine ⟨q,fun hd=> ⟨?_, ?_,fun g m S a n=> ?_⟩⟩
     ·intro t x i;simp only [aB] at i;split at i
      ·rename_i z;cases i;rw [← aU z,l]
      ·exact hd t x i
     ·intro t x i;simp only [aB];split
      ·rename_i z;rw [aU z] at A;rw [A] at i;cases i
      ·exact i
     ·have d:=n s (by simp);rw [l] at d;simp only [VR,PR] at d;rw [GL k d];cases f<;>cases C<;>rfl
    ·rename_i l;cases h;refine ⟨p,fun hd=> ⟨hd,fun _ _ h=>h,fun g m S a n=> ?_⟩⟩;have d:=n s (by simp);rw [l] at d;simp only [VR] at d;obtain ⟨vs,d,u⟩:=d;cases vs with
     |nil=>rw [KE k d];rfl
     |cons v r=>simp [bF] at u
    ·cases h
theorem LZ {env:iT} {o:Oper} {v:AV} {t:Nat} (h:∀ d,o.dst=some d→d ≠ t):(qU env o.dst v).get t=env.get t:=by
 unfold qU;split
 ·rename_i d hd;simp only [iT.get,aB];split
  ·rename_i a;exact absurd (aU a) (h d hd)
  ·rfl
 ·rfl
theorem yX {dec:List (Nat × Bool)} {env:iT} {o:Oper} {v:AV} (hd:uQ dec env) (a:Xa dec o=true):uQ dec (qU env o.dst v):=by
 intro t b c;rw [LZ]
 ·exact hd t b c
 ·rintro d hdd rfl
  unfold Xa at a;rw [hdd] at a;simp [c] at a
end
end AM
namespace AM
open Go
section
variable {P:Program} {ap:AP} {H:dD}
theorem XR {c:Cx} {dst:Option Nat} {v:AV} (h:(EW c dst v).2.Ok):c.Ok∧aQ v (EW c dst v).1:=by
 obtain ⟨cl,orc,bs,ps,ans,hs⟩:=c;unfold EW at h ⊢;dsimp only at h ⊢;split at h
 ·rename_i d x r i;split at h
  ·rename_i b;have e:aQ v x:=h.ps _ (Xjv ..);refine ⟨⟨h.bs,fun p hp=>h.ps p (Xje _ hp)⟩, ?_⟩;simp only [b];exact e
  ·rename_i b;refine ⟨h, ?_⟩;simp only [b];exact fun _ _ _ _ a=>a
 ·rename_i f;exact ⟨h,fun _ _ _ _ a=>a⟩
theorem XQ {c:Cx} {dst:Option Nat} (h:(Q7 c dst).2.Ok):c.Ok:=by
 obtain ⟨cl,orc,bs,ps,ans,hs⟩:=c;unfold Q7 at h;dsimp only at h;split at h
 ·split at h
  ·exact ⟨h.bs,h.ps⟩
  ·exact h
 ·exact h
theorem XP {c:Cx} {dst:Option Nat} {ups:List (Nat × bg)} (h:(EU c dst ups).2.Ok):c.Ok∧(EU c dst ups).1=ups:=by
 obtain ⟨cl,orc,bs,ps,ans,hs⟩:=c;unfold EU at h ⊢;dsimp only at h ⊢;split at h
 ·rename_i d xs r i b B;split at h
  ·rename_i a;have e:B.cells=xs:=h.ps _ (Xjv ..);refine ⟨⟨h.bs,fun p hp=>h.ps p (Xje _ hp)⟩, ?_⟩;simp only [a,← e]
  ·rename_i a;refine ⟨h, ?_⟩;simp only [a]
 ·rename_i f;exact ⟨h,rfl⟩
theorem CX {a:Act} {g:Operand} {args:Array Operand} {argTypes:Array TypeId} {ty:TypeId} {f:Nat} {first b:Array Value} (h:a.eval g= .func (.func f) first b) (w:World):
  (resolve a.eval {callee:= .value g,args,argTypes} ty).run P w= .ok {target:= .fn (.func f) b,args:=first++args.map a.eval} w:=by
 simp only [resolve,h,Deferred.ofValue];rfl
theorem Hz {a:Act} {g:Operand} {args:Array Operand} {argTypes:Array TypeId} {ty:TypeId} {f:Nat} {first b:Array Value} (h:a.eval g= .func (.func f) first b) (c:Ed P f) (w:World):
  (do let d ← resolve a.eval {callee:= .value g,args,argTypes} ty;invoke d.target d.args:Sem Next).run P w= .ok (.enter f ((first++args.map a.eval)++b)) w:=by
 rw [Sem.run_bind,CX h,Result.andThen_ok];exact c _ _
theorem KU {g:dJ} {m:bf} {S:aZ} {ρ:Operand→AV} {cρ:Operand→Value} {args:Array Operand} (h:∀ o ∈ args,VR g m S (ρ o) (cρ o)):bF g m S (args.toList.map ρ) (args.map cρ).toList:=by
 rw [Array.toList_map];exact wB _ fun o a=>h o (by simpa using a)
theorem IK:∀ {l:Hp} {b:Nat} {B:bg},aB l b=some B→(b,B) ∈ l
 | [],_,_,h=>by cases h
 | (k,X)::r,b,B,h=>by
  simp only [aB] at h;split at h
  ·rename_i a;cases h;have:=aU a;subst this;exact Xjv ..
  ·exact Xje _ (IK h)
theorem FB {α β:Type} {f g:α→β}:∀ {l:List α},l.map f=l.map g→∀ {x:α},x ∈ l→f x=g x
 | [],_,_,h=>by cases h
 |a::r,h,x,hx=>by
  simp only [Xqb,List.cons.injEq] at h;rcases List.mem_cons.1 hx with rfl|hx
  ·exact h.1
  ·exact FB h.2 hx
theorem yx (hap:iU P ap) (hH:nG P ap H) {nid:Nat} {ops:List Oper} {o:Oper} {s s':RS} {p:Option AV} {c c':Cx} (h:TB ap H nid ops o s c= .ok (s',p) c') (T:c'.Ok):
  c.Ok∧(s.md= .dead→uQ s.dec s.env→∃ v rb ups df,ahS P ap ops.toArray o nid s s' p v (v_ o.op.operands.toList++jy ops o) rb ups df):=by
 unfold TB at h;obtain ⟨⟨run,dec⟩,c1,e1,h⟩:=R.bind_ok h;dsimp only at h;split at h
 ·cases h
 rename_i F;have hguard:∀ c1ok:c1.Ok,c.Ok∧(uQ s.dec s.env→uQ dec s.env∧(∀ t b,aB s.dec t=some b→aB dec t=some b)∧∀ g m S (a:Act),(∀ t ∈ jy ops o,VR g m S (s.env.get t) (a.tmps.getD t undef))→Region.wanted o (yielded ops.toArray a.tmps)=run):=fun hk=>Jy e1 hk
 have L:∀ {g:dJ} {m:bf} {S:aZ} {w:World} {a:Act},bY ap g m S w→(∀ t ∈ v_ o.op.operands.toList++jy ops o,VR g m S (s.env.get t) (a.tmps.getD t undef))→∀ x ∈ o.op.operands,VR g m S (rQ ap s.env x) (a.eval x):=by
  intro g m S w a j i x Y;refine xR j x fun t ht=>i t ?_
  subst ht;exact List.mem_append.2 (.inl (FH (by simpa using Y)))
 split at h
 ·
  cases h;obtain ⟨C,X⟩:=hguard T;refine ⟨C,fun O d=> ?_⟩;obtain ⟨hd,_,hw⟩:=X d;refine ⟨.tup [],[],[],[],⟨fun _=>rfl,fun h=>absurd rfl h,rfl,rfl,rfl,fun _=>yX hd F,fun _=>rfl, ?_⟩⟩;intro g m S w a j i _ _ Q K N;unfold wpO;rw [hw g m S a fun t ht=>i t (List.mem_append.2 (.inr ht))];simp only [Bool.false_eq_true,if_false];have:=N undef m S w [] (by rw [fP];exact j) (by rw [fP];exact Fr.refl _ _ _ _) (by simp only [VR];exact ⟨[],rfl,by simp [bF]⟩) (by simp [iy]);exact this
 ·
  have hwant:∀ (Q:Exit→Act→World→Prop) (K:Act→World→Prop) (g:dJ) (m:bf) (S:aZ) (a:Act) (w:World),c1.Ok→uQ s.dec s.env→(∀ t ∈ v_ o.op.operands.toList++jy ops o,VR g m S (s.env.get t) (a.tmps.getD t undef))→o.wp P a w K Q→wpO P ops.toArray Q o K a w:=by
   intro Q K g m S a w hk d i hh;obtain ⟨_,_,hw⟩:=(hguard hk).2 d;unfold wpO;rw [hw g m S a fun t ht=>i t (List.mem_append.2 (.inr ht))];simp only [if_true];exact .inl hh
  split at h
  ·
   rename_i gf args argTypes k;split at h
   ·rename_i f first cap hf
    obtain ⟨r,c2,e2,h⟩:=R.bind_ok h;have W:c2.Ok:=by
     revert h
     cases hu:Q7 c2 o.dst with
     | mk u Z=>
      have D:Z.Ok→c2.Ok:=fun hk=>XQ (by rw [hu];exact hk)
      cases u with
      | true=>
       dsimp only;cases r.out with
       |ret v=>
        dsimp only;split
        ·intro h;cases h;exact D ⟨T.bs,fun p hp=>T.ps p (Xje _ hp)⟩
        ·intro h;cases h
       |pan v=>intro h;cases h
      |false=>dsimp only;cases r.out<;>intro h<;>cases h<;>exact D T
    obtain ⟨I,hE,hcall⟩:=Eu hH e2 W;obtain ⟨C,X⟩:=hguard I;refine ⟨C,fun O d=> ?_⟩;obtain ⟨hd,_,_⟩:=X d;have hargs:∀ {g:dJ} {m:bf} {S:aZ} {w:World} {a:Act},bY ap g m S w→(∀ t ∈ v_ o.op.operands.toList++jy ops o,VR g m S (s.env.get t) (a.tmps.getD t undef))→
      ∃ vf J:List Value,a.eval gf= .func (.func f) vf.toArray J.toArray∧bF g m S (first++args.toList.map (rQ ap s.env)++cap) ((vf++(args.map a.eval).toList)++J):=by
     intro g m S w a j i;have y:=L j i;rw [k] at y;have z:=y gf (by simp [Op.operands,Call.operands]);rw [hf] at z;simp only [VR] at z;obtain ⟨vf,J,D,M,G⟩:=z;exact ⟨vf,J,D,iC (iC M (KU fun x Y=>y x (by simp [Op.operands,Call.operands,Y]))) G⟩
    have V:∀ {a:Act} {vf J:List Value} (w:World),a.eval gf= .func (.func f) vf.toArray J.toArray→(execOp a.eval o).run P w= .ok (.enter f (((vf++(args.map a.eval).toList)++J).toArray)) w:=by
     intro a vf J w he;have:=Hz (args:=args) (argTypes:=argTypes) (ty:=o.type) he hE w;unfold execOp;rw [k];dsimp only;rw [this];congr 2;apply Array.toList_inj.1;simp
    split at h
    ·rename_i Z hu;split at h
     ·rename_i v E;split at h
      ·rename_i hall;cases h;have heq:r.ups.map (fun (q:Nat × bg)=>some q.2)=r.ups.map (fun (q:Nat × bg)=>aB s.hp q.1):=T.ps _ (Xjv ..);refine ⟨v,r.fp,[],[],⟨fun _=>rfl,fun h=>absurd rfl h,rfl,rfl,rfl,fun _=>yX hd F,fun _=>rfl, ?_⟩⟩;intro g m S w a j i l A Q K N;have hg':dV g r.ups=g:=by
        funext b;unfold dV;cases hl:aB r.ups b with
        |none=>rfl
        |some B=>
         have hm:=IK hl;have y:=FB heq hm;exact (l b (jM.1 (List.all_eq_true.1 hall _ hm)) B y.symm).symm
       refine hwant Q K g m S a w I d i ?_;obtain ⟨vf,J,y,z⟩:=hargs j i;unfold Oper.wp;rw [V w y];refine (hcall g m S w _ j l A z).mono ?_
       rintro e w' ⟨m',S',D,M,G⟩
       rw [E] at G;obtain ⟨cv,rfl,h6⟩:=G;rw [hg'] at D M h6;exact N cv m' S' w' [] D M h6 (by simp [iy])
      ·cases h
     ·cases h
    ·rename_i Z hu;split at h
     ·rename_i v E;cases h;refine ⟨v,r.fp,r.ups,[],⟨fun _=>rfl,fun h=>absurd rfl h,rfl,rfl,rfl,fun _=>yX hd F,fun _=>rfl, ?_⟩⟩;intro g m S w a j i l A Q K N;refine hwant Q K g m S a w I d i ?_;obtain ⟨vf,J,y,z⟩:=hargs j i;unfold Oper.wp;rw [V w y];refine (hcall g m S w _ j l A z).mono ?_
      rintro e w' ⟨m',S',D,M,G⟩
      rw [E] at G;obtain ⟨cv,rfl,h6⟩:=G;exact N cv m' S' w' [] D M h6 (by simp [iy])
     ·rename_i v E;cases h;refine ⟨v,r.fp,r.ups,[],⟨fun h=>(by cases h),fun _=> ⟨rfl,rfl⟩,rfl,rfl,rfl,fun h=>(by cases h),fun h=>(by cases h), ?_⟩⟩;intro g m S w a j i l A Q K N;refine hwant Q K g m S a w I d i ?_;obtain ⟨vf,J,y,z⟩:=hargs j i;unfold Oper.wp;rw [V w y];refine (hcall g m S w _ j l A z).mono ?_
      rintro e w' ⟨m',S',D,M,G⟩
      rw [E] at G;obtain ⟨cv,rfl,h6⟩:=G;exact N cv m' S' w' D M h6
   ·cases h
  ·
   split at h
   ·cases h;exact ⟨(hguard T).1,fun O=>by simp_all⟩
   ·cases h;exact ⟨(hguard T).1,fun O=>by simp_all⟩
   ·cases h
  ·
   rename_i gf args argTypes k;split at h
   ·rename_i f first cap hf
    cases h;obtain ⟨C,X⟩:=hguard T;refine ⟨C,fun O d=> ?_⟩;obtain ⟨hd,_,_⟩:=X d;refine ⟨.dead,[],[],[(f,first++args.toList.map (rQ ap s.env)++cap)],⟨fun _=>rfl,fun h=>absurd rfl h,rfl,rfl,rfl,fun _=>yX hd F,fun _=>rfl, ?_⟩⟩;intro g m S w a j i l A Q K N;refine hwant Q K g m S a w T d i ?_;have y:=L j i;rw [k] at y;have z:=y gf (by simp [Op.operands,Call.operands]);rw [hf] at z;simp only [VR] at z;obtain ⟨vf,J,D,M,G⟩:=z;unfold Oper.wp;have hr:(execOp a.eval o).run P w= .ok (.defer {target:= .fn (.func f) J.toArray,args:=vf.toArray++args.map a.eval}) w:=by
     unfold execOp;rw [k];dsimp only;rw [Sem.run_bind,CX D,Result.andThen_ok];rfl
    rw [hr];refine N undef m S w [{target:= .fn (.func f) J.toArray,args:=vf.toArray++args.map a.eval}] (by rw [fP];exact j) (by rw [fP];exact Fr.refl _ _ _ _) (by simp only [VR]) ?_;simp only [iy,fP,and_true];refine ⟨J.toArray,rfl, ?_⟩;have:=iC (iC M (KU (args:=args) fun x Y=>y x (by simp [Op.operands,Call.operands,Y]))) G;simpa using this
   ·cases h
  ·
   rename_i x k;split at h
   ·rename_i t v Y;cases h;obtain ⟨C,X⟩:=hguard T;refine ⟨C,fun O d=> ?_⟩;obtain ⟨hd,_,_⟩:=X d;refine ⟨.dead,[],[],[],⟨fun h=>(by cases h),fun _=> ⟨rfl,rfl⟩,rfl,rfl,rfl,fun h=>(by cases h),fun h=>(by cases h), ?_⟩⟩;intro g m S w a j i l A Q K N;refine hwant Q K g m S a w T d i ?_;have y:=L j i;rw [k] at y;have z:=y x (by simp [Op.operands]);rw [Y] at z;have h2':=z;simp only [VR] at h2';obtain ⟨u,D,M⟩:=h2';unfold Oper.wp;have hr:(execOp a.eval o).run P w= .halt (.panic (a.eval x)) w:=by
     unfold execOp;rw [k];dsimp only;rw [D];rfl
    rw [hr];exact N _ m S w (by rw [fP];exact j) (by rw [fP];exact Fr.refl _ _ _ _) (by rw [fP];exact z)
   ·cases h
  ·
   rename_i op n1 n2 n3 n4;obtain ⟨em,c2,e2,h⟩:=R.bind_ok h;split at h
   ·cases h
   ·rename_i v ups bs k;obtain ⟨_,Z,e3,h⟩:=R.bind_ok h;have hv1:(EW Z o.dst v).2.Ok→Z.Ok∧aQ v (EW Z o.dst v).1:=XR;generalize EW Z o.dst v=q1 at h hv1;obtain ⟨v1,c4⟩:=q1;dsimp only at h hv1;have hv2:(EU c4 o.dst ups).2.Ok→c4.Ok∧(EU c4 o.dst ups).1=ups:=XP;generalize EU c4 o.dst ups=q2 at h hv2;obtain ⟨ups1,c5⟩:=q2;dsimp only at h hv2;cases h;obtain ⟨hc4,hups⟩:=hv2 T;subst hups;obtain ⟨hc3,hfit⟩:=hv1 hc4;obtain ⟨W,hbs⟩:=Jq e3 hc3;have hem:c1.Ok∧∀ n,zi (rQ ap s.env) o.op=some n→Xqn n 0=em:=by
     split at e2
     ·rename_i n hn;obtain ⟨hk,rfl⟩:=lN e2 W;exact ⟨hk,fun n' U=>by rw [hn] at U;cases U;rfl⟩
     ·rename_i hn;cases e2;exact ⟨W,fun n' U=>by rw [hn] at U;cases U⟩
    obtain ⟨I,hem⟩:=hem;obtain ⟨C,X⟩:=hguard I;refine ⟨C,fun O d=> ?_⟩;obtain ⟨hd,_,_⟩:=X d;refine ⟨v1,YP (rQ ap s.env) o.op,ups1,[],⟨fun _=>rfl,fun h=>absurd rfl h,rfl,rfl,rfl,fun _=>yX hd F,fun _=>rfl, ?_⟩⟩;intro g m S w a j i l A Q K N;refine hwant Q K g m S a w I d i ?_;have y:=L j i;have hok:=Vd hap j (nid:=nid) (A 0 (by omega)) (ρ:=rQ ap s.env) (cρ:=a.eval) (fun b B hb=>by
      split at hb
      ·rename_i hm;exact l b (jM.1 hm) B hb
      ·cases hb) o y (dec:=fun| .tmp t=>aB dec t|_=>none) (fun x Y b hb=>by
      split at hb
      ·rename_i t;have:=i t (List.mem_append.2 (.inl (FH (by simpa using Y))));rw [hd t b hb] at this;simp only [VR,PR] at this;exact this
      ·cases hb) hem k hbs
    obtain ⟨nx,m',w',z,D,M,G⟩:=hok;unfold Oper.wp;rw [z];rcases G with ⟨cv,rfl,G⟩|⟨rfl,rfl⟩
    ·exact N cv m' S w' [] D M (hfit _ _ _ _ G) (by simp [iy])
    ·exact N undef m' S w' [] D M (hfit _ _ _ _ (by simp only [VR])) (by simp [iy])
end
end AM
namespace AM
open Go
theorem wK:∀ {hp:Hp} {b:Nat} {B:bg},aB hp b=some B→b<kY hp
 | [],b,B,h=>by simp [aB] at h
 | (c,C)::r,b,B,h=>by
  simp only [aB] at h;simp only [kY];split at h
  ·rename_i d;have d:=aU d;subst d;split
   ·rename_i a;exact gG a
   ·omega
  ·have e:=wK h;split
   ·exact e
   ·rename_i a;have:¬ c<kY r:=fun f=>by
     have:Xjh c (kY r)=true:=by
      show Nat.ble (c+1) (kY r)=true;exact Xql f
     rw [this] at a;cases a
    omega
theorem Fj:∀ {l:Hp} {b:Nat} {B:bg},aB l b=some B→b ∈ l.map (·.1)
 | [],b,B,h=>by simp [aB] at h
 |(c,C)::r,b,B,h=>by
  simp only [aB] at h;split at h
  ·rename_i a;simp [aU a]
  ·simp [Fj h]
structure FR (ap:AP) (env:iT) (hp:Hp) (dfs:List (Nat × List AV)) (nt:Nat) (m:bf) (S:aZ) (w:World) (a:Act):Prop where
 srel:bY ap (aB hp) m S w
 env:∀ t,VR (aB hp) m S (env.get t) (a.tmps.getD t undef)
 dfs:iy (aB hp) m S dfs a.defers
 size:a.tmps.size=nt
theorem Na (a:Act) (d:Option Nat) (v:Value):(a.put d v).tmps.size=a.tmps.size:=by
 cases d<;>simp [Act.put]
theorem F6 (a:Act) (d:Option Nat) (v:Value):(a.put d v).defers=a.defers:=by
 cases d<;>simp [Act.put]
theorem F8 (a:Act) (d:Option Nat) (v:Value) {t:Nat} (h:d ≠ some t):(a.put d v).tmps.getD t undef=a.tmps.getD t undef:=by
 cases d with
 |none=>rfl
 |some d=>
  have b:d ≠ t:=fun e=>h (by rw [e])
  simp only [Act.put,Array.getD_eq_getD_getElem?];rw [Array.getElem?_setIfInBounds_ne b]
theorem F7 (a:Act) (d:Nat) (v:Value) (h:d<a.tmps.size):(a.put (some d) v).tmps.getD d undef=v:=by
 simp only [Act.put,Array.getD_eq_getD_getElem?];rw [Array.getElem?_setIfInBounds_self_of_lt h];rfl
theorem mP {env:iT} {d:Nat} {v:AV}:(qU env (some d) v).get d=v:=by simp [qU,iT.get,aB]
theorem zt {env:iT} {dst:Option Nat} {v:AV} {t:Nat} (h:dst ≠ some t):(qU env dst v).get t=env.get t:=by
 cases dst with
 |none=>rfl
 | some d=>
  have a:Xqn d t=false:=by
   cases b:Xqn d t with
   |false=>rfl
   |true=>exact absurd (by rw [aU b]) h
  simp [qU,iT.get,aB,a]
section
variable {P:Program} {ap:AP} {H:dD}
theorem FR.put {env:iT} {hp ups:Hp} {dfs c:List (Nat × List AV)} {nt:Nat} {m b:bf} {S S':aZ} {w w':World} {a:Act} (h:FR ap env hp dfs nt m S w a) {dst:Option Nat} (hd:∀ d,dst=some d→d<nt) {v:AV} {cv:Value} {e:List Deferred}
  (h1:bY ap (dV (aB hp) ups) b S' w') (h2:Fr (aB hp) m S w (dV (aB hp) ups) b S' w') (h3:VR (dV (aB hp) ups) b S' v cv) (h4:iy (dV (aB hp) ups) b S' c e):
  FR ap (qU env dst v) (ups++hp) (c++dfs) nt b S' w' ({a with defers:=e++a.defers}.put dst cv):=by
 rw [kF] at h1 h2 h3 h4;refine ⟨h1, ?_, ?_, ?_⟩
 ·intro t;by_cases ht:dst=some t
  ·subst ht;rw [mP,F7 _ _ _ (by have:=hd t rfl;have:=h.size;simpa [this] using hd t rfl)];exact h3
  ·rw [zt ht,F8 _ _ _ ht];exact qj h2.sle h2.ge _ (h.env t)
 ·rw [F6];exact BQ h4 (ww h2.sle h2.ge h.dfs)
 ·rw [Na];exact h.size
theorem FR.still {env:iT} {hp ups:Hp} {dfs:List (Nat × List AV)} {nt:Nat} {m b:bf} {S S':aZ} {w w':World} {a:Act} (h:FR ap env hp dfs nt m S w a)
  (h1:bY ap (dV (aB hp) ups) b S' w') (h2:Fr (aB hp) m S w (dV (aB hp) ups) b S' w'):FR ap env (ups++hp) dfs nt b S' w' a:=by
 rw [kF] at h1 h2;exact ⟨h1,fun t=>qj h2.sle h2.ge _ (h.env t),ww h2.sle h2.ge h.dfs,h.size⟩
def yI (ap:AP) (hp0:Hp) (m:bf) (S:aZ) (w:World) (nt:Nat) (env:iT) (hp:Hp) (dfs:List (Nat × List AV)) (Q:Exit→Act→World→Prop):Option AV→Prop
 |none=> ∀ m' S' w' a',Fr (aB hp0) m S w (aB hp) m' S' w'→FR ap env hp dfs nt m' S' w' a'→Q .normal a' w'
 |some v=> ∀ m' S' w' a' cv,Fr (aB hp0) m S w (aB hp) m' S' w'→FR ap env hp dfs nt m' S' w' a'→VR (aB hp) m' S' v cv→Q (.panic [{v:=cv,recovered:=false}]) a' w'
theorem uN {ops:Array Oper} {Q:Exit→Act→World→Prop} {i:Nat} {o:Oper} (b:ops[i]? =some o) (rest:List Nat) (a:Act) (w:World):wpOps P ops Q (i::rest) a w↔wpO P ops Q o (wpOps P ops Q rest) a w:=by
 simp only [wpOps,b,wpO]
theorem Pg {hp ups:Hp} {nid:Nat} (f:∀ b B,aB hp b=some B→b<nid) (e:(ups.map (·.1)).all (fun x=>Xjh x (nid+4))=true):∀ b B,aB (ups++hp) b=some B→b<nid+4:=by
 intro b B a;rw [iM] at a;split at a
 ·rename_i x d;have c:b ∈ ups.map (·.1):=Fj d;exact gG (List.all_eq_true.1 e b c)
 ·have:=f b B a;omega
theorem oH (C:iU P ap) (X:nG P ap H) {ops:List Oper} {nt:Nat} (L:∀ o ∈ ops,∀ d,o.dst=some d→d<nt):∀ (l:List Oper) (i nid:Nat) (s s':RS) (p:Option AV) (c c':Cx),yz ap H ops l nid s c= .ok (s',p) c'→c'.Ok→
  c.Ok∧(s.md= .dead→uQ s.dec s.env→l=ops.drop i→(∀ b B,aB s.hp b=some B→b<nid)→
  s'.md= .dead∧∀ m S w a,FR ap s.env s.hp s.dfs nt m S w a→∀ Q,yI ap s.hp m S w nt s'.env s'.hp s'.dfs Q p→wpOps P ops.toArray Q (List.range' i l.length) a w)
 | [],i,nid,s,s',p,c,c',h,hc=>by
  cases h;exact ⟨hc,fun e _ _ _=> ⟨e,fun m S w a x Q y=>y m S w a (Fr.refl _ _ _ _) x⟩⟩
 | o ::r,i,nid,s,s',p,c,c',h,hc=>by
  simp only [yz] at h;obtain ⟨⟨s1,p1⟩,c1,e1,h⟩:=R.bind_ok h;dsimp only at h;have hfresh:(∀ b B,aB s.hp b=some B→b<nid)→∀ j,j<4→aB s.hp (nid+j)=none:=by
   intro I j _;cases hb:aB s.hp (nid+j) with
   |none=>rfl
   |some B=>have:=I _ _ hb;omega
  have z:o::r=ops.drop i→ops[i]? =some o∧ops.toArray[i]? =some o∧r=ops.drop (i+1)∧∀ d,o.dst=some d→d<nt:=by
   intro G;have f:ops[i]? =some o:=by
    have:(ops.drop i)[0]? =some o:=by rw [← G];rfl
    simpa using this
   have O:r=ops.drop (i+1):=by
    have:r=(ops.drop i).drop 1:=by rw [← G];rfl
    rw [this,Xjs]
   exact ⟨f,by simpa using f,O,L o (Xqt f)⟩
  cases p1 with
  |some v=>
   cases h;obtain ⟨A,F⟩:=yx C X e1 hc;refine ⟨A,fun e k G I=> ?_⟩;obtain ⟨f,n,O,hd⟩:=z G;obtain ⟨v1,rb,ups,df,hs⟩:=F e k;refine ⟨by rw [hs.md,e],fun m S w a x Q y=> ?_⟩;rw [ξ,Xv7,uN n];refine hs.sem (aB s.hp) m S w a x.srel (fun t _=>x.env t) (fun b _ B hB=>hB) (hfresh I) Q _ ?_;intro cv m' S' w' Y u N;have V:=x.still Y u;rw [kF] at u N;obtain ⟨q,rfl⟩:=hs.envp (by simp);have y:=y m' S' w' a cv;rw [hs.hp,hs.dfs,q] at y;exact y u V N
  | none=>
   dsimp only at h;cases E:s1.feet with
   |nil=>rw [E] at h;cases h
   | cons ft fr=>
    rw [E] at h;dsimp only at h;split at h
    ·rename_i K;obtain ⟨hc1,ih⟩:=oH C X L r (i+1) (nid+4) s1 s' p c1 c' h hc;obtain ⟨A,F⟩:=yx C X e1 hc1;refine ⟨A,fun e k G I=> ?_⟩;obtain ⟨f,n,O,hd⟩:=z G;obtain ⟨v1,rb,ups,df,hs⟩:=F e k;have D:=hs.feet rfl;rw [E] at D;simp only [List.cons.injEq] at D;rw [D.1] at K;obtain ⟨M,ih⟩:=ih (by rw [hs.md,e]) (hs.dec rfl) O (by rw [hs.hp];exact Pg I K);refine ⟨M,fun m S w a x Q y=> ?_⟩;rw [ξ,Xv7,uN n];refine hs.sem (aB s.hp) m S w a x.srel (fun t _=>x.env t) (fun b _ B hB=>hB) (hfresh I) Q _ ?_;intro cv m' S' w' ds Y u N h4;have J:=x.put hd Y u N h4;rw [kF] at u;have q:=hs.env rfl;rw [← q,← hs.hp,← hs.dfs] at J;refine ih m' S' w' _ J Q ?_;rw [← hs.hp] at u;cases p with
     |none=>exact fun m2 S2 w2 T U W=>y m2 S2 w2 T (u.trans U) W
     |some v=>exact fun m2 S2 w2 T Z U W h7=>y m2 S2 w2 T Z (u.trans U) W h7
    ·cases h
end
end AM
namespace AM
open Go
structure uP where
 dst:Option Nat
 v:AV
 rt:List Nat
 rb:List Nat
 ups:List (Nat × bg)
def QS (d:Option Nat):List Nat:=match d with|some d=> [d]|none=> []
def uP.foot (r:uP):Ee:={rt:=r.rt,wt:=QS r.dst,rb:=r.rb,wb:=r.ups.map (·.1)}
def rP (D:Nat→Bool):Nat→iT→List uP→iT
 |_,e,[]=>e
 |j,e,r::rs=>rP D (j+1) (match D j with|true=>qU e r.dst r.v|false=>e) rs
def zA (D:Nat→Bool):Nat→Hp→List uP→Hp
 |_,h,[]=>h
 |j,h,r::rs=>zA D (j+1) (match D j with|true=>r.ups++h|false=>h) rs
theorem vk {D D':Nat→Bool} {t:Nat}:∀ (rs:List uP) (j:Nat) (e e':iT),e.get t=e'.get t→(∀ k r,rs[k]? =some r→r.dst=some t→D (j+k)=D' (j+k))→(rP D j e rs).get t=(rP D' j e' rs).get t
 | [],_,_,_,he,_=>he
 | r::rs,j,e,e',he,h=>by
  simp only [rP];refine vk rs (j+1) _ _ ?_ fun k b c hd=> ?_
  ·by_cases hd:r.dst=some t
   ·have a:=h 0 r rfl hd;rw [Xq8] at a;rw [a];cases D' j with
    |true=>simp only [hd,mP]
    |false=>exact he
   ·cases D j<;>cases D' j<;>simp only [zt hd,he]
  ·have:=h (k+1) b (by simpa using c) hd;rwa [show j+(k+1)=j+1+k by omega] at this
theorem JI:∀ {l:Hp} {b:Nat},b ∉ l.map (·.1)→aB l b=none:=by
 intro l b h;cases a:aB l b with
 |none=>rfl
 |some B=>exact absurd (Fj a) h
theorem zJ {ups hp:Hp} {b:Nat} (h:b ∉ ups.map (·.1)):aB (ups++hp) b=aB hp b:=by
 rw [iM,JI h]
theorem Cj:∀ {l:Hp} {b:Nat},b ∈ l.map (·.1)→∃ B,aB l b=some B
 | [],b,h=>by simp at h
 | (c,C)::r,b,h=>by
  simp only [aB];cases a:Xqn c b with
  |true=>exact ⟨C,rfl⟩
  |false=>
   simp only [Xqb,Xwp] at h;rcases h with h|h
   ·subst h;simp at a
   ·exact Cj h
theorem zI {ups hp a:Hp} {b:Nat} (h:b ∈ ups.map (·.1)):aB (ups++hp) b=aB (ups++a) b:=by
 obtain ⟨B,c⟩:=Cj h;rw [iM,iM,c]
theorem rY {D D':Nat→Bool} {b:Nat}:∀ (rs:List uP) (j:Nat) (h h':Hp),aB h b=aB h' b→(∀ k r,rs[k]? =some r→b ∈ r.ups.map (·.1)→D (j+k)=D' (j+k))→aB (zA D j h rs) b=aB (zA D' j h' rs) b
 | [],_,_,_,he,_=>he
 | r::rs,j,e,e',he,h=>by
  simp only [zA];refine rY rs (j+1) _ _ ?_ fun k c d hd=> ?_
  ·by_cases hd:b ∈ r.ups.map (·.1)
   ·have a:=h 0 r rfl hd;rw [Xq8] at a;rw [a];cases D' j with
    |true=>exact zI hd
    |false=>exact he
   ·cases D j<;>cases D' j<;>simp only [zJ hd,he]
  ·have:=h (k+1) c (by simpa using d) hd;rwa [show j+(k+1)=j+1+k by omega] at this
theorem AO:∀ (a:List uP) (j:Nat) (e:iT) {D:Nat→Bool},(∀ k,k<a.length→D (j+k)=false)→rP D j e a=e
 | [],_,_,_,_=>rfl
 |r::a,j,e,D,h=>by
  have b:=h 0 (by simp);rw [Xq8] at b;simp only [rP,b];exact AO a (j+1) e fun k c=>by have:=h (k+1) (by simpa using c);rwa [show j+(k+1)=j+1+k by omega] at this
theorem vI:∀ (a:List uP) (j:Nat) (e:Hp) {D:Nat→Bool},(∀ k,k<a.length→D (j+k)=false)→zA D j e a=e
 | [],_,_,_,_=>rfl
 |r::a,j,e,D,h=>by
  have b:=h 0 (by simp);rw [Xq8] at b;simp only [zA,b];exact vI a (j+1) e fun k c=>by have:=h (k+1) (by simpa using c);rwa [show j+(k+1)=j+1+k by omega] at this
def AQ (e:iT) (rs:List uP):iT:=rP (fun _=>true) 0 e rs
def O8 (h:Hp) (rs:List uP):Hp:=zA (fun _=>true) 0 h rs
theorem xP (D:Nat→Bool):∀ (rs:List uP) (j d:Nat) (e:iT),rP D (j+d) e rs=rP (fun k=>D (k+d)) j e rs
 | [],_,_,_=>rfl
 |r::rs,j,d,e=>by
  simp only [rP];rw [show j+d+1=j+1+d by omega];exact xP D rs (j+1) d _
theorem AY (D:Nat→Bool):∀ (rs:List uP) (j d:Nat) (e:Hp),zA D (j+d) e rs=zA (fun k=>D (k+d)) j e rs
 | [],_,_,_=>rfl
 |r::rs,j,d,e=>by
  simp only [zA];rw [show j+d+1=j+1+d by omega];exact AY D rs (j+1) d _
theorem wH (e:iT) (r:uP) (a:List uP):AQ e (r::a)=AQ (qU e r.dst r.v) a:=by
 simp only [AQ,rP];exact xP (fun _=>true) a 0 1 _
theorem zB (h:Hp) (r:uP) (a:List uP):O8 h (r::a)=O8 (r.ups++h) a:=by
 simp only [O8,zA];exact AY (fun _=>true) a 0 1 _
theorem Jr:∀ (a:List uP) (k:Nat) (e:iT),rP (fun j=>decide (j<k)) 0 e a=AQ e (a.take k)
 |a,0,e=>by
  simp only [Xvn];exact AO a 0 e fun _ _=>by simp
 | [],k+1,e=>rfl
 |r::a,k+1,e=>by
  simp only [Xx6,wH,rP];rw [show decide (0<k+1)=true by simp];dsimp only;rw [← Jr a k];have:=xP (fun j=>decide (j<k+1)) a 0 1 (qU e r.dst r.v);rw [this];congr 1;funext j;simp
theorem O7:∀ (a:List uP) (k:Nat) (e:Hp),zA (fun j=>decide (j<k)) 0 e a=O8 e (a.take k)
 |a,0,e=>by
  simp only [Xvn];exact vI a 0 e fun _ _=>by simp
 | [],k+1,e=>rfl
 |r::a,k+1,e=>by
  simp only [Xx6,zB,zA];rw [show decide (0<k+1)=true by simp];dsimp only;rw [← O7 a k];have:=AY (fun j=>decide (j<k+1)) a 0 1 (r.ups++e);rw [this];congr 1;funext j;simp
theorem UC (e:iT):∀ (b:List uP) (k:Nat) (r:uP),b[k]? =some r→AQ e (b.take (k+1))=qU (AQ e (b.take k)) r.dst r.v:=by
 intro b
 induction b generalizing e with
 |nil=>intro k r h;simp at h
 | cons a b ih=>
  intro k r h;cases k with
  |zero=>simp at h;subst h;rfl
  |succ k=>
   simp only [Xx6,wH];exact ih _ k r (by simpa using h)
theorem XT (e:Hp):∀ (b:List uP) (k:Nat) (r:uP),b[k]? =some r→O8 e (b.take (k+1))=r.ups++O8 e (b.take k):=by
 intro b
 induction b generalizing e with
 |nil=>intro k r h;simp at h
 | cons a b ih=>
  intro k r h;cases k with
  |zero=>simp at h;subst h;rfl
  |succ k=>
   simp only [Xx6,zB];exact ih _ k r (by simpa using h)
section
variable {P:Program} {ap:AP} {H:dD}
structure We (P:Program) (ap:AP) (ops:List Oper) (i nid:Nat) (s s':RS) (recs:List uP):Prop where
 env:s'.env=AQ s.env recs
 hp:s'.hp=O8 s.hp recs
 feet:s'.feet=(recs.map uP.foot).reverse++s.feet
 dle:s.dfs.length≤s'.dfs.length
 bound:∀ (k:Nat) (r:uP),recs[k]? =some r→∀ b ∈ r.ups.map (·.1),b<nid+4*k+4
 sem:s'.dfs.length=s.dfs.length→s'.dfs=s.dfs∧∀ (k:Nat) (r:uP),recs[k]? =some r→∃ o,ops[i+k]? =some o∧r.dst=o.dst∧Qu P ap ops.toArray o (nid+4*k) (AQ s.env (recs.take k)) (O8 s.hp (recs.take k)) r.rt r.rb r.v r.ups [] none
theorem aei (p:iU P ap) (M:nG P ap H) {ops:List Oper}:∀ (l:List Oper) (i nid:Nat) (s s':RS) (c c':Cx),yz ap H ops l nid s c= .ok (s',none) c'→c'.Ok→
  c.Ok∧(s.md= .dead→uQ s.dec s.env→l=ops.drop i→s'.md= .dead∧∃ a:List uP,a.length=l.length∧We P ap ops i nid s s' a)
 | [],i,nid,s,s',c,c',h,hc=>by
  cases h;exact ⟨hc,fun d _ _=> ⟨d,[],rfl,⟨rfl,rfl,rfl,Δ _,fun k r h=>by simp at h,fun _=> ⟨rfl,fun k r h=>by simp at h⟩⟩⟩⟩
 | o :: r,i,nid,s,s',c,c',h,hc=>by
  simp only [yz] at h;obtain ⟨⟨A,T⟩,U,Y,h⟩:=R.bind_ok h;dsimp only at h;cases T with
  |some v=>cases h
  | none=>
   dsimp only at h;cases n:A.feet with
   |nil=>rw [n] at h;cases h
   | cons ft fr=>
    rw [n] at h;dsimp only at h;split at h
    ·rename_i x;obtain ⟨G,X⟩:=aei p M r (i+1) (nid+4) A s' U c' h hc;obtain ⟨B,J⟩:=yx p M Y G;refine ⟨B,fun d t L=> ?_⟩;have E:ops[i]? =some o:=by
      have:(ops.drop i)[0]? =some o:=by rw [← L];rfl
      simpa using this
     have V:r=ops.drop (i+1):=by
      have:r=(ops.drop i).drop 1:=by rw [← L];rfl
      rw [this,Xjs]
     obtain ⟨v1,rb,ups,F,hs⟩:=J d t;have f:=hs.feet rfl;rw [n] at f;simp only [List.cons.injEq] at f;rw [f.1] at x;obtain ⟨y,a,u,j⟩:=X (by rw [hs.md,d]) (hs.dec rfl) V;refine ⟨y,{dst:=o.dst,v:=v1,rt:=v_ o.op.operands.toList++jy ops o,rb:=rb,ups:=ups}::a,by simp [u], ?_⟩;have D:s.dfs.length≤A.dfs.length:=by rw [hs.dfs];simp
     refine ⟨?_, ?_, ?_,Xxr D j.dle, ?_, ?_⟩
     ·rw [j.env,wH,hs.env rfl]
     ·rw [j.hp,zB,hs.hp]
     ·rw [j.feet,hs.feet rfl];simp [uP.foot,QS,Jo];cases o.dst<;>rfl
     ·intro k q e b N;cases k with
      |zero=>
       simp at e;subst e;exact gG (List.all_eq_true.1 x b N)
      |succ k=>
       have:=j.bound k q (by simpa using e) b N;omega
     ·intro Z;have h1:=j.dle;obtain ⟨C,z⟩:=j.sem (by omega);have I:F= []:=by
       have:F.length=0:=by
        have:=hs.dfs;have h3:A.dfs.length=F.length+s.dfs.length:=by rw [this];simp
        omega
       exact Xxo this
      subst I;refine ⟨by rw [C,hs.dfs];rfl, ?_⟩;intro k q e;cases k with
      |zero=>
       simp at e;subst e;exact ⟨o,E,rfl,hs.sem⟩
      |succ k=>
       obtain ⟨Q,W,O,K⟩:=z k q (by simpa using e);refine ⟨Q,by rw [show i+(k+1)=i+1+k by omega];exact W,O, ?_⟩;rw [Xx6,wH,zB];rw [hs.env rfl,hs.hp] at K;rw [show nid+4*(k+1)=nid+4+4*k by omega];exact K
    ·cases h
end
end AM
namespace AM
open Go
theorem ER {md:Region.Mode} (b:Array Nat) (i:Nat):∀ (l:List Edge) (s:Nat),(l.foldl (fun s e=>if Region.binds md e then s|||2^e.on|||b.getD e.on 0 else s) s).testBit i=true→
  s.testBit i=true∨∃ e ∈ l,Region.binds md e=true∧(i=e.on∨(b.getD e.on 0).testBit i=true)
 | [],s,h=> .inl h
 | e::r,s,h=>by
  simp only [Xjt] at h;rcases ER b i r _ h with a|⟨e',a,d⟩
  ·split at a
   ·rename_i c;simp only [Nat.testBit_or,Xzi,Nat.testBit_two_pow,decide_eq_true_eq] at a;rcases a with (a|a)|a
    ·exact .inl a
    ·exact .inr ⟨e,by simp,c,.inl a.symm⟩
    ·exact .inr ⟨e,by simp,c,.inr a⟩
   ·exact .inl a
  ·exact .inr ⟨e',by simp [a],d⟩
def qo (acc:Array Nat) (o:Oper):Array Nat:=acc.push (o.after.toList.foldl (fun s e=>if Region.binds .any e then s|||2^e.on|||acc.getD e.on 0 else s) 0)
theorem ES (a:Array Nat) (x:Nat):(a.push x).getD a.size 0=x:=by simp [Array.getD_eq_getD_getElem?]
def Dw (ops:List Oper) (D:Nat→Bool):Prop:=∀ (k:Nat) (o:Oper),ops[k]? =some o→D k=true→∀ e ∈ o.after,Region.binds .any e=true→D e.on=true
def adG (D:Nat→Bool) (acc:Array Nat):Prop:=∀ k,D k=true→∀ i,(acc.getD k 0).testBit i=true→D i=true
theorem Qy {ops:List Oper} {D:Nat→Bool} (n:Dw ops D):∀ (l:List Oper) (acc:Array Nat),adG D acc→l=ops.drop acc.size→adG D (l.foldl qo acc)
 | [],acc,h,_=>h
 | o ::r,acc,h,hl=>by
  simp only [Xjt];have c:ops[acc.size]? =some o:=by
   have:(ops.drop acc.size)[0]? =some o:=by rw [← hl];rfl
   simpa using this
  refine Qy n r _ ?_ ?_
  ·intro k j i a;by_cases hks:k<acc.size
   ·refine h k j i ?_;simpa [qo,Array.getD_eq_getD_getElem?,Array.getElem?_push,Nat.ne_of_lt hks] using a
   ·by_cases hke:k=acc.size
    ·subst hke;rw [qo,ES] at a;rcases ER acc i _ _ a with d|⟨e,d,p,b⟩
     ·simp at d
     ·have f:=n _ o c j e (by simpa using d) p;rcases b with rfl|b
      ·exact f
      ·exact h _ f i b
    ·have:(qo acc o)[k]? =none:=by
      simp only [qo];rw [Array.getElem?_eq_none];simp;omega
     simp [Array.getD_eq_getD_getElem?,this] at a
  ·have:(qo acc o).size=acc.size+1:=by simp [qo]
   rw [this,← Xjs,← hl];rfl
theorem Uf (ops:List Oper):Region.before ops.toArray=ops.foldl qo #[]:=by
 simp only [Region.before,← Array.foldl_toList];rfl
theorem qL {ops:List Oper} {D:Nat→Bool} (c:Dw ops D) {k i:Nat} (b:D k=true) (h:((Region.before ops.toArray).toList.getD k 0).testBit i=true):D i=true:=by
 have:=Qy c ops #[] (fun k _ i a=>by simp at a) (by simp);rw [← Uf] at this;refine this k b i ?_;rw [κ] at h;rw [Array.getD_eq_getD_getElem?];simpa using h
theorem su {a b:List Nat} {x:Nat} (d:x ∈ a) (c:x ∈ b):FC a b=true:=List.any_eq_true.2 ⟨x,d,jM.2 c⟩
structure Jb (n:Nat) (bef:Nat→Nat→Bool) (recs:List uP):Prop where
 ok:∀ i j a b,recs[i]? =some a→recs[j]? =some b→i<j→(kC a.foot b.foot=true∨∃ x ∈ b.ups.map (·.1),n+4*i≤x∧x<n+4*i+4)→bef j i=true
theorem PM {n:Nat} {e:List Nat} {d:List uP} (h:FW n e (d.map uP.foot).reverse=true):Jb n (fun j i=>(e.getD j 0).testBit i) d:=by
 refine ⟨fun i j a b r q k f=> ?_⟩;simp only [FW,List.reverse_reverse,Xjz] at h;have c:=h (a.foot,i) (by rw [Xzc];simp [r]) (b.foot,j) (by rw [Xzc];simp [q]);simp only [Xzi,Xqw] at c;rcases c with (c|c)|c
 ·have:Xjh i j=true:=Xql k;rw [this] at c;cases c
 ·exfalso;rw [Bool.or_eq_false_iff] at c;rcases f with f|⟨x,l,p,o⟩
  ·rw [f] at c;cases c.1
  ·have:=List.any_eq_false.1 c.2 x l;simp only [ο,not_and] at this;exact this (Xql p) (Xql o)
 ·exact c
section
variable {P:Program} {ap:AP} {H:dD}
theorem FR.congr {env b:iT} {hp c:Hp} {dfs:List (Nat × List AV)} {nt:Nat} {m:bf} {S:aZ} {w:World} {a:Act} (h:FR ap env hp dfs nt m S w a) (e:∀ t,b.get t=env.get t) (d:aB c=aB hp):FR ap b c dfs nt m S w a:=by
 refine ⟨d ▸ h.srel,fun t=> ?_,d ▸ h.dfs,h.size⟩;rw [e,d];exact h.env t
def qX (listed:Array Bool):Nat→Bool:=fun k=>listed.getD k false
theorem aaC {listed:Array Bool} {i:Nat} (a:i<listed.size) (k:Nat):qX (listed.setIfInBounds i true) k=(if k=i then true else qX listed k):=by
 simp only [qX,Array.getD_eq_getD_getElem?];by_cases h:k=i
 ·subst h;rw [if_pos rfl,Array.getElem?_setIfInBounds_self_of_lt a];rfl
 ·rw [if_neg h,Array.getElem?_setIfInBounds_ne (fun e=>h e.symm)]
def JM (n:Nat) (D:Nat→Bool):Nat:=((Xq9 n).filter fun i=> !D i).length
theorem CJ {D D':Nat→Bool} {i:Nat} (c:D i=false) (b:∀ k,D' k=if k=i then true else D k):∀ (l:List Nat),l.Nodup→i ∈ l→(l.filter fun k=> !D k).length=(l.filter fun k=> !D' k).length+1
 | [],_,h=>by simp at h
 | a::r,hn,h=>by
  rw [Xkf] at hn;by_cases ha:a=i
  ·subst ha;have hsame:r.filter (fun k=> !D k)=r.filter (fun k=> !D' k):=by
    refine List.filter_congr fun k f=> ?_
    have:k ≠ a:=fun e=>hn.1 (e ▸ f)
    rw [b k,if_neg this]
   have j:D' a=true:=by rw [b a,if_pos rfl]
   simp [c,j,hsame]
  ·have d:=CJ c b r hn.2 (by simpa [Ne.symm ha] using h);have:D' a=D a:=by rw [b a,if_neg ha]
   simp only [List.filter_cons,this];split<;>simp [d]
theorem YQ {ops:List Oper} (h:zh ops=true) {listed:Array Bool} (l:listed.size=ops.length) (b:Region.ready .any ops.toArray listed= []):∀ k,k<ops.length→qX listed k=true:=by
 intro k
 induction k using Nat.strongRecOn with
 | _ k ih=>
  intro f;cases hd:qX listed k with
  |true=>rfl
  | false=>
   exfalso;have a:k ∈ Region.ready .any ops.toArray listed:=by
    simp only [Region.ready,Xvf,Yq7,Xzr];refine ⟨f, ?_⟩;have i:listed.getD k true=false:=by
     simp only [qX,Array.getD_eq_getD_getElem?] at hd ⊢;rw [Array.getElem?_eq_getElem (by omega)] at hd ⊢;simpa using hd
    have j:ops.toArray[k]? =some ops[k]:=by simp [f]
    rw [i,j];simp only [Bool.not_false,Bool.true_and,Xjn,Xwc,Array.all_eq_true',Xzi,Xqw];intro e o;cases c:Region.binds .any e with
    |false=>exact .inl rfl
    |true=>
     right;simp only [zh,Xjz] at h;have d:=h (ops[k],k) (by rw [Xzc];simp [f]) e (by simpa using o);rw [c] at d;simp only [Xqq,Xwo] at d;have n:=gG d;exact ih e.on n (by omega)
   rw [b] at a;cases a
theorem Gf {ops:List Oper} {listed:Array Bool} (f:listed.size=ops.length) {i:Nat} (h:i ∈ Region.ready .any ops.toArray listed):∃ o,ops[i]? =some o∧qX listed i=false∧i<ops.length∧∀ e ∈ o.after,Region.binds .any e=true→qX listed e.on=true:=by
 simp only [Region.ready,Xvf,Yq7,Xzr,ο,Xqw] at h;obtain ⟨c,a,b⟩:=h;have d:ops.toArray[i]? =some ops[i]:=by simp [c]
 rw [d] at b;simp only [Xjn,Xwc,Array.all_eq_true',Xzi,Xqw] at b;refine ⟨ops[i],π c, ?_,c,fun e k j=> ?_⟩
 ·simp only [qX,Array.getD_eq_getD_getElem?] at a ⊢;rw [Array.getElem?_eq_getElem (by omega)] at a ⊢;simpa using a
 ·rcases b e k with h|h
  ·rw [j] at h;cases h
  ·exact h
end
end AM
namespace AM
open Go
theorem WL {a b:Ee} {x:Nat} (h:x ∈ a.wt) (c:x ∈ b.rt):kC a b=true:=by simp [kC,su h c]
theorem Lj {a b:Ee} {x:Nat} (h:x ∈ a.wt) (c:x ∈ b.wt):kC a b=true:=by simp [kC,su h c]
theorem WJ {a b:Ee} {x:Nat} (h:x ∈ a.rt) (c:x ∈ b.wt):kC a b=true:=by simp [kC,su h c]
theorem Ul {a b:Ee} {x:Nat} (h:x ∈ a.wb) (c:x ∈ b.rb):kC a b=true:=by simp [kC,su h c]
theorem Ij {a b:Ee} {x:Nat} (h:x ∈ a.wb) (c:x ∈ b.wb):kC a b=true:=by simp [kC,su h c]
theorem Uk {a b:Ee} {x:Nat} (h:x ∈ a.rb) (c:x ∈ b.wb):kC a b=true:=by simp [kC,su h c]
theorem vN {d:Option Nat} {t:Nat} (h:d=some t):t ∈ QS d:=by subst h;simp [QS]
section
variable {P:Program} {ap:AP} {H:dD}
structure aep (ap:AP) (ops:List Oper) (recs:List uP) (e0:iT) (hp0:Hp) (dfs:List (Nat × List AV)) (nt:Nat) (m0:bf) (S0:aZ) (w0:World) (listed:Array Bool) (m:bf) (S:aZ) (w:World) (a:Act):Prop where
 sz:listed.size=ops.length
 cl:Dw ops (qX listed)
 fr:Fr (aB hp0) m0 S0 w0 (aB (zA (qX listed) 0 hp0 recs)) m S w
 rel:FR ap (rP (qX listed) 0 e0 recs) (zA (qX listed) 0 hp0 recs) dfs nt m S w a
theorem WY {ops:List Oper} {c:List uP} {s:RS} {A nt:Nat} (hnt:∀ o ∈ ops,∀ d,o.dst=some d→d<nt) (hlen:c.length=ops.length)
  (hbound:∀ (k:Nat) (r:uP),c[k]? =some r→∀ b ∈ r.ups.map (·.1),b<A+4*k+4)
  (hsem:∀ (k:Nat) (r:uP),c[k]? =some r→∃ o,ops[k]? =some o∧r.dst=o.dst∧∀ (D:Nat→Bool) m S w (a:Act),bY ap (aB (zA D 0 s.hp c)) m S w→(∀ t ∈ r.rt,VR (aB (zA D 0 s.hp c)) m S ((AQ s.env (c.take k)).get t) (a.tmps.getD t undef))→
   (∀ b ∈ r.rb,aB (O8 s.hp (c.take k)) b=aB (zA D 0 s.hp c) b)→(∀ j,j<4→aB (zA D 0 s.hp c) (A+4*k+j)=none)→(∀ j,((Region.before ops.toArray).toList.getD j 0).testBit k=true→D j=false)→
   ∀ (Q:Exit→Act→World→Prop) (K:Act→World→Prop),adF ap o (aB (zA D 0 s.hp c)) m S w a r.v r.ups [] Q K none→wpO P ops.toArray Q o K a w)
  (hord:Jb A (fun j i=>((Region.before ops.toArray).toList.getD j 0).testBit i) c) (hback:zh ops=true) (hn0:∀ b B,aB s.hp b=some B→b<A) {m0:bf} {S0:aZ} {w0:World} {Q:Exit→Act→World→Prop}
  (hQ:∀ m S w a,Fr (aB s.hp) m0 S0 w0 (aB (O8 s.hp c)) m S w→FR ap (AQ s.env c) (O8 s.hp c) s.dfs nt m S w a→Q .normal a w):
  ∀ (n:Nat) (listed:Array Bool) (m:bf) (S:aZ) (w:World) (a:Act),aep ap ops c s.env s.hp s.dfs nt m0 S0 w0 listed m S w a→JM ops.length (qX listed)≤n→wpAny P .any ops.toArray Q n listed a w:=by
 have hdone:∀ (listed:Array Bool) (m:bf) (S:aZ) (w:World) (a:Act),aep ap ops c s.env s.hp s.dfs nt m0 S0 w0 listed m S w a→(∀ k,k<ops.length→qX listed k=true)→Q .normal a w:=by
  intro listed m S w a u y;have hh:∀ b,aB (O8 s.hp c) b=aB (zA (qX listed) 0 s.hp c) b:=fun b=>
   rY c 0 _ _ rfl fun k r f _=>by rw [y (0+k) (by have:=(List.getElem?_eq_some_iff.1 f).1;omega)]
  have he:∀ t,(AQ s.env c).get t=(rP (qX listed) 0 s.env c).get t:=fun t=>
   vk c 0 _ _ rfl fun k r f _=>by rw [y (0+k) (by have:=(List.getElem?_eq_some_iff.1 f).1;omega)]
  have G:=funext hh;exact hQ m S w a (G ▸ u.fr) (u.rel.congr he G)
 intro n
 induction n with
 | zero=>
  intro listed m S w a u hm;have y:∀ k,k<ops.length→qX listed k=true:=by
   intro k f;cases hd:qX listed k with
   |true=>rfl
   |false=>
    have N:k ∈ (Xq9 ops.length).filter fun i=> !qX listed i:=by simp [f,hd]
    have:(Xq9 ops.length).filter (fun i=> !qX listed i)= []:=Xxo (Nat.le_zero.1 hm);rw [this] at N;cases N
  refine ⟨?_,hdone listed m S w a u y⟩;cases hr:Region.ready .any ops.toArray listed with
  |nil=>rfl
  |cons i r=>
   obtain ⟨o,_,p,h3,_⟩:=Gf u.sz (i:=i) (by rw [hr];simp);rw [y i h3] at p;cases p
 | succ n ih=>
  intro listed m S w a u hm;refine ⟨fun X=>hdone listed m S w a u (YQ hback u.sz X),fun i hi=> ?_⟩;obtain ⟨o,J,C,Y,hedges⟩:=Gf u.sz hi;have v:c[i]? =some c[i]:=π (by omega);generalize c[i]=r at v;obtain ⟨o',V,I,hstep⟩:=hsem i r v;rw [J] at V;cases V;have Z:i<listed.size:=by rw [u.sz];exact Y
  have l:=aaC Z;have M:Dw ops (qX (listed.setIfInBounds i true)):=by
   intro k o2 f hd e he z;rw [l] at hd ⊢;split
   ·rfl
   ·split at hd
    ·rename_i F;subst F;rw [J] at f;cases f;exact hedges e he z
    ·exact u.cl k o2 f hd e he z
  have R:∀ k q,c[k]? =some q→k<i→(kC q.foot r.foot=true∨∃ x ∈ r.ups.map (·.1),A+4*k≤x∧x<A+4*k+4)→qX listed k=true:=by
   intro k q f F hc;have E:=hord.ok k i q r f v F hc;have p:=qL M (k:=i) (i:=k) (by rw [l,if_pos rfl]) E;rw [l,if_neg (by omega)] at p;exact p
  have hhigh:∀ k q,c[k]? =some q→i<k→(kC r.foot q.foot=true∨∃ x ∈ q.ups.map (·.1),A+4*i≤x∧x<A+4*i+4)→qX listed k=false:=by
   intro k q f F hc;cases hd:qX listed k with
   |false=>rfl
   |true=>
    have E:=hord.ok i k r q v f F hc;have p:=qL u.cl hd E;rw [C] at p;cases p
  have O:∀ k q,c[k]? =some q→(k<i→kC q.foot r.foot=true)→(i<k→kC r.foot q.foot=true)→decide (k<i)=qX listed k:=by
   intro k q f E p;rcases Xzf k i with h|h|h
   ·rw [R k q f h (.inl (E h))];simp [h]
   ·subst h;rw [C];simp
   ·rw [hhigh k q f h (.inl (p h))];simp;omega
  have hagr':∀ k q,c[k]? =some q→(k<i→kC q.foot r.foot=true)→(i<k→kC r.foot q.foot=true)→qX (listed.setIfInBounds i true) k=decide (k<i+1):=by
   intro k q f E p;rw [l];rcases Xzf k i with h|h|h
   ·rw [if_neg (by omega),R k q f h (.inl (E h))];simp;omega
   ·subst h;simp
   ·rw [if_neg (by omega),hhigh k q f h (.inl (p h))];simp;omega
  have W:∀ t ∈ r.rt,(AQ s.env (c.take i)).get t=(rP (qX listed) 0 s.env c).get t:=by
   intro t L;rw [← Jr];refine vk c 0 _ _ rfl fun k q f hd=> ?_
   rw [Xqd];exact O k q f (fun _=>WL (vN hd) L) (fun _=>WJ L (vN hd))
  have hhp:∀ b ∈ r.rb,aB (O8 s.hp (c.take i)) b=aB (zA (qX listed) 0 s.hp c) b:=by
   intro b z;rw [← O7];refine rY c 0 _ _ rfl fun k q f hd=> ?_
   rw [Xqd];exact O k q f (fun _=>Ul hd z) (fun _=>Uk z hd)
  have hfresh:∀ j,j<4→aB (zA (qX listed) 0 s.hp c) (A+4*i+j)=none:=by
   intro j hj;have E:aB (zA (qX listed) 0 s.hp c) (A+4*i+j)=aB (zA (fun _=>false) 0 s.hp c) (A+4*i+j):=by
    refine rY c 0 _ _ rfl fun k q f hd=> ?_
    rw [Xqd];have z:=hbound k q f _ hd;rcases Xzf k i with h|h|h
    ·omega
    ·subst h;exact C
    ·exact hhigh k q f h (.inr ⟨_,hd,by omega,by omega⟩)
   rw [E,vI c 0 _ (fun _ _=>rfl)];cases z:aB s.hp (A+4*i+j) with
   |none=>rfl
   |some B=>have:=hn0 _ _ z;omega
  have U:ops.toArray[i]? =some o:=by simpa using J
  have hgoal:wpO P ops.toArray Q o (wpAny P .any ops.toArray Q n (listed.setIfInBounds i true)) a w:=by
   refine hstep (qX listed) m S w a u.rel.srel (fun t L=>by rw [W t L];exact u.rel.env t) hhp hfresh (fun j hj=>by
    cases hd:qX listed j with
    |false=>rfl
    |true=>
     have p:=qL u.cl hd hj;rw [C] at p;cases p) Q _ ?_
   intro cv m' S' w' ds E p h3 h4;have hF:=u.rel.put (hnt o (Xqt J)) E p h3 h4;rw [kF] at p;rw [Xqi] at hF;have he':∀ t,(rP (qX (listed.setIfInBounds i true)) 0 s.env c).get t=(qU (rP (qX listed) 0 s.env c) o.dst r.v).get t:=by
    intro t;by_cases L:o.dst=some t
    ·have h5:(rP (qX (listed.setIfInBounds i true)) 0 s.env c).get t=(rP (fun j=>decide (j<i+1)) 0 s.env c).get t:=by
      refine vk c 0 _ _ rfl fun k q f hd=> ?_
      rw [Xqd];have T:t ∈ r.foot.wt:=vN (I.trans L);exact hagr' k q f (fun _=>Lj (vN hd) T) (fun _=>Lj T (vN hd))
     rw [h5,Jr,UC _ _ _ _ v,I,L,mP,mP]
    ·rw [zt L];refine vk c 0 _ _ rfl fun k q f hd=> ?_
     rw [Xqd,l,if_neg]
     rintro rfl
     rw [v] at f;cases f;exact L (I ▸ hd)
   have G:aB (zA (qX (listed.setIfInBounds i true)) 0 s.hp c)=aB (r.ups++zA (qX listed) 0 s.hp c):=by
    funext b;by_cases z:b ∈ r.ups.map (·.1)
    ·have h5:aB (zA (qX (listed.setIfInBounds i true)) 0 s.hp c) b=aB (zA (fun j=>decide (j<i+1)) 0 s.hp c) b:=by
      refine rY c 0 _ _ rfl fun k q f hd=> ?_
      rw [Xqd];exact hagr' k q f (fun _=>Ij hd z) (fun _=>Ij z hd)
     rw [h5,O7,XT _ _ _ _ v];exact zI z
    ·rw [zJ z];refine rY c 0 _ _ rfl fun k q f hd=> ?_
     rw [Xqd,l,if_neg]
     rintro rfl
     rw [v] at f;cases f;exact z hd
   refine ih _ m' S' w' _ ⟨by rw [Array.size_setIfInBounds];exact u.sz,M, ?_,hF.congr he' G⟩ ?_
   ·rw [G];exact u.fr.trans p
   ·have:=CJ C l (Xq9 ops.length) Xwe (by simp [Y]);simp only [JM] at hm ⊢;omega
  simp only [wpOp,U];exact hgoal
theorem WX {ops:List Oper} {c:List uP} {s s':RS} {n nt:Nat} (p:∀ o ∈ ops,∀ d,o.dst=some d→d<nt) (e:c.length=ops.length) (f:We P ap ops 0 n s s' c) (q:s'.dfs.length=s.dfs.length)
  (hord:Jb n (fun j i=>((Region.before ops.toArray).toList.getD j 0).testBit i) c) (hback:zh ops=true) (hn0:∀ b B,aB s.hp b=some B→b<n) {m0:bf} {S0:aZ} {w0:World} {Q:Exit→Act→World→Prop}
  (hQ:∀ m S w a,Fr (aB s.hp) m0 S0 w0 (aB (O8 s.hp c)) m S w→FR ap (AQ s.env c) (O8 s.hp c) s.dfs nt m S w a→Q .normal a w):
  ∀ (fuel:Nat) (listed:Array Bool) (m:bf) (S:aZ) (w:World) (a:Act),aep ap ops c s.env s.hp s.dfs nt m0 S0 w0 listed m S w a→JM ops.length (qX listed)≤fuel→wpAny P .any ops.toArray Q fuel listed a w:=by
 obtain ⟨_,h⟩:=f.sem q;refine WY p e f.bound (fun k r F=> ?_) hord hback hn0 hQ;obtain ⟨o,u,E,A⟩:=h k r F;rw [Xqd] at u;exact ⟨o,u,E,fun D m S w a v x t l _ Q K y=>A _ m S w a v x (fun b C B z=>by rw [← t b C];exact z) l Q K y⟩
def qi (ap:AP) (base:Nat) (keep:List Nat) (hp0:Hp) (m:bf) (S:aZ) (w:World) (nt:Nat) (s':St) (Q:Exit→Act→World→Prop):bM→Prop
 | .panic v=>match (d_ v).isEmpty with
  |true=> ∀ s1:St,s'=norm base keep s1→yI ap hp0 m S w nt s1.env s1.hp s1.dfs Q (some v)
  |false=>yI ap hp0 m S w nt s'.env s'.hp s'.dfs Q (some v)
 | .normal=> ∀ s1:St,s'=norm base keep s1→yI ap hp0 m S w nt s1.env s1.hp s1.dfs Q none
 |_=>True
theorem J_ (x:iU P ap) (I:P.follows .mixedOrders=true) (J:nG P ap H) {ops:List Oper} {l:Bool} {nt base:Nat} {keep:List Nat} (z:∀ o ∈ ops,∀ d,o.dst=some d→d<nt) {s:St} {e:bM} {s':St} {c U:Cx} {id:Nat}
  (h:J9 ap H base keep ops l s c= .ok (e,s') U) (hc:U.Ok):c.Ok∧(s.md= .dead→s'.md= .dead∧(∀ m S w a,FR ap s.env s.hp s.dfs nt m S w a→∀ Q,
   qi ap base keep s.hp m S w nt s' Q e→(Code.region id ops.toArray l).wp P Q a w)):=by
 unfold J9 at h;obtain ⟨⟨s1,p⟩,Z,K,h⟩:=R.bind_ok h;dsimp only at h;have C:∀ b B,aB s.hp b=some B→b<kY s.hp:=fun b B q=>wK q
 cases p with
 | some v=>
  cases l with
  |true=>cases h
  | false=>
   dsimp only at h;split at h
   ·rename_i F;cases h;obtain ⟨f,hs⟩:=oH x J z ops 0 _ _ _ _ _ _ K hc;refine ⟨f,fun i=> ?_⟩;obtain ⟨y,E⟩:=hs i (fun t b q=>by cases q) rfl C;refine ⟨y,fun m S w a j Q A=>wp_region ?_⟩;simp only [qi,F] at A;have:=E m S w a j Q (A _ rfl);rw [← Xwb] at this;simpa using this
   ·rename_i F;cases h;obtain ⟨f,hs⟩:=oH x J z ops 0 _ _ _ _ _ _ K hc;refine ⟨f,fun i=> ?_⟩;obtain ⟨y,E⟩:=hs i (fun t b q=>by cases q) rfl C;refine ⟨y,fun m S w a j Q A=>wp_region ?_⟩;simp only [qi,F] at A;have:=E m S w a j Q A;rw [← Xwb] at this;simpa using this
 | none=>
  dsimp only at h;split at h
  ·rename_i hcond;cases h;cases l with
   |false=>
    obtain ⟨f,hs⟩:=oH x J z ops 0 _ _ _ _ _ _ K hc;refine ⟨f,fun i=> ?_⟩;obtain ⟨y,E⟩:=hs i (fun t b q=>by cases q) rfl C;refine ⟨y,fun m S w a j Q A=>wp_region ?_⟩;have:=E m S w a j Q (A _ rfl);rw [← Xwb] at this;simpa using this
   | true=>
    obtain ⟨f,hs⟩:=aei x J ops 0 _ _ _ _ _ K hc;refine ⟨f,fun i=> ?_⟩;obtain ⟨y,r,G,n⟩:=hs i (fun t b q=>by cases q) rfl;refine ⟨y,fun m S w a j Q A=>wp_region_any I ?_⟩;simp only [Xqq,Xwo,ο] at hcond;obtain ⟨⟨V,hback⟩,u⟩:=hcond;have u:=aU u;rw [n.feet,List.append_nil] at V;have L:=A _ rfl;have O:=(n.sem u).1;have D:qX (Array.replicate ops.length false)=fun _=>false:=by
     funext k;simp only [qX,Array.getD_eq_getD_getElem?];by_cases T:k<ops.length<;>simp [T]
    have N:ops.toArray.size=ops.length:=by simp
    rw [N];refine WX z G n u (PM V) hback C (m0:=m) (S0:=S) (w0:=w) (Q:=Q) ?_ ops.length _ m S _ a ⟨by simp, ?_, ?_, ?_⟩ ?_
    ·intro X S' w' W M Y;refine L X S' w' W ?_ ?_
     ·rw [n.hp];exact M
     ·rw [n.hp,n.env,O];exact Y
    ·intro k o T hd;rw [D] at hd;cases hd
    ·rw [D,vI r 0 _ (fun _ _=>rfl)];exact ⟨Ge.refl _ _,pY.refl _,rfl,rfl,rfl,Δ _,fun _ _ _=>rfl,fun _ B h=> .inr ⟨B,h,rfl⟩,fun _ _ _ h=> .inl h⟩
    ·rw [D,vI r 0 _ (fun _ _=>rfl),AO r 0 _ (fun _ _=>rfl)];exact ⟨⟨j.srel.inj,fun b B q=>j.srel.blk b B q|>fun ⟨y,E,M⟩=> ⟨y,E,M⟩,j.srel.sealed,j.srel.own,j.srel.glob⟩,j.env,j.dfs,j.size⟩
    ·exact Xxr (List.length_filter_le _ _) (by simp)
  ·cases h
end
end AM
namespace AM
open Go
def Di (acc:List Nat) (b:Nat):List Nat:=if uf acc b then acc else acc++ [b]
theorem T_ (a:List Nat) (b:Nat) (h:a.Nodup):(Di a b).Nodup∧∃ t,Di a b=a++t:=by
 unfold Di;split
 ·exact ⟨h,[],by simp⟩
 ·rename_i f;refine ⟨?_,[b],rfl⟩;rw [List.nodup_append];refine ⟨h,by simp, ?_⟩;intro x d y c e;simp at c;subst c;subst e;exact f (jM.2 d)
theorem ql:∀ (l a:List Nat),a.Nodup→(l.foldl Di a).Nodup∧∃ t,l.foldl Di a=a++t
 | [],a,h=> ⟨h,[],by simp⟩
 |b::r,a,h=>by
  simp only [Xjt];obtain ⟨e,d,i⟩:=T_ a b h;obtain ⟨f,j,c⟩:=ql r _ e;exact ⟨f,d++j,by rw [c,i,τ]⟩
theorem Em:∀ (l a:List Nat),l.Nodup→(∀ x ∈ l,x ∉ a)→l.foldl Di a=a++l
 | [],a,_,_=>by simp
 | b::r,a,h,hd=>by
  rw [Xkf] at h;have e:uf a b=false:=by
   cases c:uf a b with
   |false=>rfl
   |true=>exact absurd (jM.1 c) (hd b (by simp))
  simp only [Xjt];have:Di a b=a++ [b]:=by simp [Di,e]
  rw [this,Em r _ h.2]
  ·simp
  ·intro x d c;rcases List.mem_append.1 c with c|c
   ·exact hd x (by simp [d]) c
   ·simp at c;subst c;exact h.1 d
theorem U5 (l:List Nat):jl l=l.foldl Di []:=rfl
theorem PH (n:Nat) (l:List Nat):(jl (Xq9 n++l)).Nodup∧∃ t,jl (Xq9 n++l)=Xq9 n++t:=by
 rw [U5,List.foldl_append,Em (Xq9 n) [] Xwe (by simp),Xqi];exact ql l _ Xwe
theorem u_ (rd:dJ):∀ (n:Nat) (l:List Nat),l.Nodup→(uO rd n l).Nodup∧∃ t,uO rd n l=l++t
 |0,l,h=> ⟨h,[],by simp [uO]⟩
 | n+1,l,h=>by
  simp only [uO];split
  ·exact ⟨h,[],by simp⟩
  ·obtain ⟨f,c,e⟩:=ql (l.flatMap fun b=>match rd b with|some B=>(match B.pr with|true=> []|false=>bV B.cells)|none=> []) l h;obtain ⟨d,i,a⟩:=u_ rd n _ f;refine ⟨d,c++i, ?_⟩;exact a.trans (by rw [e,τ])
theorem II {f:Nat→AV}:∀ (keep:List Nat) (t:Nat),aB (keep.map fun t=>(t,f t)) t=if t ∈ keep then some (f t) else none
 | [],t=>by simp [aB]
 | a::r,t=>by
  simp only [Xqb,aB,II r t];cases h:Xqn a t with
  |true=>have:=aU h;subst this;simp
  |false=>
   have b:t ≠ a:=by intro e;subst e;simp at h
   simp [b]
theorem Cm {rd:dJ} {mk:Nat→bg→bg}:∀ (ids:List Nat) (j p:Nat),aB ((ids.zipIdx j).filterMap fun (b,p)=>(rd b).map fun B=>(p,mk p B)) p=if j≤p then (ids[p - j]?).bind fun b=>(rd b).map (mk p) else none
 | [],j,p=>by simp [aB]
 | a ::r,j,p=>by
  have f:=Cm (rd:=rd) (mk:=mk) r (j+1) p;rw [List.zipIdx_cons];cases c:rd a with
  | none=>
   rw [Xvs (by simp [c]),f];by_cases hj:j+1≤p
   ·rw [if_pos hj,if_pos (by omega)];obtain ⟨d,hd⟩:∃ d,p - j=d+1:=⟨p - j - 1,by omega⟩
    rw [hd,Xzb,show p - (j+1)=d by omega]
   ·rw [if_neg hj];by_cases hjp:j≤p
    ·rw [if_pos hjp,show p - j=0 by omega];simp [c]
    ·rw [if_neg hjp]
  | some B=>
   rw [Xvt (by simp [c];rfl)];simp only [aB];cases h:Xqn j p with
   |true=>have:=aU h;subst this;simp [c]
   | false=>
    have i:j ≠ p:=by intro e;subst e;simp at h
    simp only [f];by_cases hj:j+1≤p
    ·rw [if_pos hj,if_pos (by omega)];obtain ⟨d,hd⟩:∃ d,p - j=d+1:=⟨p - j - 1,by omega⟩
     rw [hd,Xzb,show p - (j+1)=d by omega]
    ·rw [if_neg hj,if_neg (by omega)]
theorem IQ:∀ {l:List Nat},l.Nodup→ui l=true
 | [],_=>rfl
 |b::r,h=>by
  rw [Xkf] at h;simp only [ui,ο,Xqw];refine ⟨?_,IQ h.2⟩;cases a:uf r b with
  |false=>rfl
  |true=>exact absurd (jM.1 a) h.1
section
variable {P:Program} {ap:AP} {H:dD}
theorem KJ {g g':dJ} {m c:bf} {S S':aZ} {ρ:Nat→Nat→Option (Nat × Nat)} (b:pY S S') (h:uH g m g' c ρ):∀ {l:List (Nat × List AV)} {ds:List Deferred},iy g m S l ds→iy g' c S' (l.map fun d=>(d.1,nI ρ d.2)) ds
 | [],[],_=>by simp [iy]
 |d::r,cd::cr,p=>by
  simp only [iy] at p;obtain ⟨⟨a,i,f⟩,e⟩:=p;simp only [Xqb,iy];exact ⟨⟨a,i,kQ b h _ f⟩,KJ b h e⟩
 | [],_::_,p=>by simp [iy] at p
 |_::_,[],p=>by simp [iy] at p
theorem uj {c:List bg} {keep:List Nat} {s:St} {nt:Nat} {m m0:bf} {S S0:aZ} {w w0:World} {a:Act} (f:Fr (bP c) m0 S0 w0 (aB s.hp) m S w) (F:FR ap s.env s.hp s.dfs nt m S w a):
  ∃ m',Fr (bP c) m0 S0 w0 (aB (norm c.length keep s).hp) m' S w∧FR ap (norm c.length keep s).env (norm c.length keep s).hp (norm c.length keep s).dfs nt m' S w a:=by
 obtain ⟨_,t0,T⟩:=u_ (aB s.hp) 20 (Xq9 c.length) Xwe;generalize hroots:t0++(EL keep s.env++s.dfs.flatMap (fun d=>bV d.2))=roots;have hroots':uO (aB s.hp) 20 (Xq9 c.length)++EL keep s.env++s.dfs.flatMap (fun d=>bV d.2)=Xq9 c.length++roots:=by rw [← hroots,T];simp only [τ]
 obtain ⟨R,t1,J⟩:=PH c.length roots;obtain ⟨Q,t2,L⟩:=u_ (aB s.hp) 20 _ R;rw [J,τ] at L;have hsome:∀ b,b<c.length→∃ B0 B,bP c b=some B0∧aB s.hp b=some B∧B.esz=B0.esz∧((B.ver=B0.ver∧m b=m0 b)∨B0.ver<B.ver):=by
  intro b A;obtain ⟨B,l,r⟩:=f.ge b c[b] (by simp [bP,A]);exact ⟨c[b],B,by simp [bP,A],l,r⟩
 generalize n:(uO (aB s.hp) 20 (jl (Xq9 c.length++roots))).filter (fun b=>(aB s.hp b).isSome)=ids;have X:ids.Nodup:=by rw [← n];exact Q.filter _
 have G:=IQ X;have y:∃ t,ids=Xq9 c.length++t:=by
  rw [← n,J,L,List.filter_append];refine ⟨_,congrArg (· ++_) ?_⟩;rw [List.filter_eq_self];intro b A;obtain ⟨_,B,_,r,_⟩:=hsome b (by simpa using A);simp [r]
 obtain ⟨t,y⟩:=y;have z:∀ b,b<c.length→ids[b]? =some b:=by
  intro b A;rw [y,Xxb (by simpa using A)];simp [A]
 have M:∀ (p b:Nat),ids[p]? =some b→∃ B,aB s.hp b=some B:=by
  intro p b hp;have:=Xqt hp;rw [← n,Xvf] at this;exact Option.isSome_iff_exists.1 this.2
 let ρ:Nat→Nat→Option (Nat × Nat):=fun b v=>match aB s.hp b with
  |some B=>match Xqn B.ver v with
   |true=>(qO ids b).map fun p=>(p,match Xjh p c.length with|true=>v|false=>0)
   |false=>none
  |none=>none
 let mk:Nat→bg→bg:=fun p B=> {B with cells:=(match B.pr with|true=>B.cells|false=>nI ρ B.cells),ver:=match Xjh p c.length with|true=>B.ver|false=>0}
 have hnorm:norm c.length keep s=⟨keep.map fun t=>(t,ren ρ (s.env.get t)),ids.zipIdx.filterMap fun (b,p)=>(aB s.hp b).map fun B=>(p,mk p B),s.md,s.dfs.map fun d=>(d.1,nI ρ d.2)⟩:=by
  unfold norm;simp only [hroots',n];rfl
 rw [hnorm];dsimp only;have C:∀ p,aB (ids.zipIdx.filterMap fun (b,p)=>(aB s.hp b).map fun B=>(p,mk p B)) p=(ids[p]?).bind fun b=>(aB s.hp b).map (mk p):=by
  intro p;rw [Cm (rd:=aB s.hp) (mk:=mk) ids 0 p,if_pos (Xx1 _),Nat.sub_zero]
 generalize (ids.zipIdx.filterMap fun (b,p)=>(aB s.hp b).map fun B=>(p,mk p B))=hp2 at C;have j:∀ (p:Nat) (B2:bg),aB hp2 p=some B2→∃ b B,ids[p]? =some b∧aB s.hp b=some B∧B2=mk p B:=by
  intro p B2 h;rw [C] at h;cases hp:ids[p]? with
  |none=>rw [hp] at h;cases h
  |some b=>
   rw [hp] at h;obtain ⟨B,K⟩:=M p b hp;simp only [Xw4,K,Xjn,Option.some.injEq] at h;exact ⟨b,B,rfl,K,h.symm⟩
 let m2:bf:=fun p=>m (ids.getD p 0)
 have k:∀ (p b:Nat),ids[p]? =some b→m2 p=m b:=by
  intro p b hp;show m (ids.getD p 0)=_;rw [κ,hp];rfl
 have x:uH (aB s.hp) m (aB hp2) m2 ρ:=by
  intro b ver p Y h B K hver;simp only [ρ,K] at h;split at h
  ·rename_i I;have I:=aU I;simp only [Xqr,Prod.mk.injEq] at h;obtain ⟨q,D,rfl,rfl⟩:=h;have D:=rZ D;refine ⟨mk q B, ?_, ?_,fun _=> ⟨I,k q b D,rfl⟩⟩
   ·rw [C,D];simp [K]
   ·simp only [mk];split
    ·omega
    ·exact Δ _
  ·cases h
 have E:∀ (p q b:Nat),ids[p]? =some b→ids[q]? =some b→p=q:=by
  intro p q b hp D;have e1:=qy G hp;rw [qy G D] at e1;cases e1;rfl
 refine ⟨m2, ?_, ?_, ?_, ?_,F.size⟩
 ·refine ⟨?_,f.sle,f.os,f.tape,f.output,f.size,f.rest, ?_,f.sealN⟩
  ·intro b B0 A;have u:b<c.length:=(List.getElem?_eq_some_iff.1 A).1;obtain ⟨B0',B,l,r,O,U⟩:=hsome b u;rw [A] at l;cases l;have V:Xjh b c.length=true:=Xql u;refine ⟨mk b B,by rw [C,z b u];simp [r],O, ?_⟩;simp only [mk,V];rw [k b b (z b u)];exact U
  ·intro p B2 hp;obtain ⟨b,B,l,r,rfl⟩:=j p B2 hp;rw [k p b l];rcases f.img b B r with h|⟨B0,O,U⟩
   ·exact .inl h
   ·have u:b<c.length:=(List.getElem?_eq_some_iff.1 O).1;have:=E p b b l (z b u);subst this;exact .inr ⟨B0,O,U⟩
 ·refine ⟨?_, ?_,F.srel.sealed, ?_,F.srel.glob⟩
  ·intro p q B2 B2' hp D e;obtain ⟨b,B,l,r,rfl⟩:=j p B2 hp;obtain ⟨b',B',N,W,rfl⟩:=j q B2' D;rw [k p b l,k q b' N] at e;have:=F.srel.inj b b' B B' r W e;subst this;exact E p q b l N
  ·intro p B2 hp;obtain ⟨b,B,l,r,rfl⟩:=j p B2 hp;rw [k p b l];obtain ⟨⟨cur,e,vs,rest,k1,k2,k3,k4,k5,k6⟩,k7,k8⟩:=F.srel.blk b B r;cases i:B.pr with
   |true=>exact ⟨⟨cur,e,vs,rest,k1,k2,fun _=>by simpa [mk,i] using k3 i,by simpa [mk,i] using b_ _ (k3 i),k5,k6⟩,k7,by simpa [mk,i] using k8⟩
   | false=>
    have I:=kQ (pY.refl S) x _ k4;exact ⟨⟨cur,e,vs,rest,k1,k2,fun h=>by simp [mk,i] at h,by simpa [mk,i] using I,k5,k6⟩,k7,by
     have:(mk p B).cells.length=B.cells.length:=by simp only [mk,i];rw [bZ k4,bZ I]
     rw [this];exact k8⟩
  ·intro p B2 hp o v Z;obtain ⟨b,B,l,r,rfl⟩:=j p B2 hp;rw [k p b l] at Z;exact F.srel.own b B r o v Z
 ·intro t;simp only [iT.get,II];by_cases ht:t ∈ keep
  ·rw [if_pos ht];exact Au (pY.refl S) x _ (F.env t)
  ·rw [if_neg ht];simp [VR]
 ·exact KJ (pY.refl S) x F.dfs
end
end AM
namespace AM
open Go
mutual
theorem yJ {g g':dJ} {m n:bf} {S S':aZ} (i:pY S S'):∀ (x:AV) {v:Value},(∀ b ∈ d_ x,g' b=g b∧n b=m b)→VR g m S x v→VR g' n S' x v
 | .int _ _,_,_,p=>by simpa only [VR,PR] using p
 | .bool _,_,_,p=>by simpa only [VR,PR] using p
 | .str _,_,_,p=>by simpa only [VR,PR] using p
 | .nilS,_,_,p=>by simpa only [VR,PR] using p
 | .nilP,_,_,p=>by simpa only [VR,PR] using p
 | .nilF,_,_,p=>by simpa only [VR,PR] using p
 | .nilI,_,_,p=>by simpa only [VR,PR] using p
 | .sl _ _ _,_,_,p=>by simp only [VR] at p ⊢;exact dF i _ p
 | .pp _ _,_,_,p=>by simp only [VR] at p ⊢;exact dF i _ p
 | .mp _ _,_,_,p=>by simp only [VR] at p ⊢;exact dF i _ p
 | .dead,_,_,_=>by simp only [VR]
 | .own _ _ _,_,_,p=>by simp only [VR] at p
 | .ref b _ _ _,_,h,p=>by
  obtain ⟨k,j⟩:=h b (by simp [d_]);simp only [VR] at p ⊢;rw [k,j];exact p
 | .ptr b _ _,_,h,p=>by
  obtain ⟨k,j⟩:=h b (by simp [d_]);simp only [VR] at p ⊢;rw [k,j];exact p
 | .mr b _,_,h,p=>by
  obtain ⟨k,j⟩:=h b (by simp [d_]);simp only [VR] at p ⊢;rw [k,j];exact p
 | .agg l,_,h,p=>by
  simp only [VR] at p ⊢;obtain ⟨vs,e,q⟩:=p;exact ⟨vs,e,oh i l (fun b d=>h b (by simpa [d_] using d)) q⟩
 | .tup l,_,h,p=>by
  simp only [VR] at p ⊢;obtain ⟨vs,e,q⟩:=p;exact ⟨vs,e,oh i l (fun b d=>h b (by simpa [d_] using d)) q⟩
 | .fn f a c,_,h,p=>by
  simp only [VR] at p ⊢;obtain ⟨s,o,e,q,r⟩:=p;exact ⟨s,o,e,oh i a (fun b d=>h b (by simp [d_,d])) q,oh i c (fun b d=>h b (by simp [d_,d])) r⟩
 | .ifc t x,_,h,p=>by
  simp only [VR] at p ⊢;obtain ⟨u,e,q⟩:=p;exact ⟨u,e,yJ i x (fun b d=>h b (by simpa [d_] using d)) q⟩
theorem oh {g g':dJ} {m d:bf} {S S':aZ} (c:pY S S'):∀ (l:List AV) {vs:List Value},(∀ b ∈ bV l,g' b=g b∧d b=m b)→bF g m S l vs→bF g' d S' l vs
 | [],[],_,_=>by simp only [bF]
 |x::r,v::vs,h,p=>by
  simp only [bF] at p ⊢;exact ⟨yJ c x (fun b a=>h b (by simp [bV,a])) p.1,oh c r (fun b a=>h b (by simp [bV,a])) p.2⟩
 | [],_::_,_,p=>by simp [bF] at p
 |_::_,[],_,p=>by simp [bF] at p
end
theorem nS {g:dJ} {m:bf} {S:aZ} {x:AV} {v:Value} (h:(d_ x).isEmpty=true) (c:VR g m S x v):PR S x v:=by
 have d:d_ x= []:=by simpa using h
 exact oL (m:=m) x (yJ (pY.refl S) x (fun b a=>by rw [d] at a;cases a) c)
def QR (nt:Nat) (o:Oper):Bool:=match o.dst with|some d=>Xjh d nt|none=>true
def dO (nt:Nat):Code→Bool
 | .region _ ops _=>ops.toList.all (QR nt)
 | .seq a b=>dO nt a && dO nt b
 | .cond _ a b=>dO nt a && dO nt b
 | .block _ b=>dO nt b
 | .loop b=>dO nt b
 | .scope b=>dO nt b
 |_=>true
section
variable {P:Program} {ap:AP} {H:dD}
def V6 (hp:Hp) (m:bf) (S:aZ) (Q:Exit→Act→World→Prop) (a:Act) (w:World):bM→Prop
 | .normal=>Q .normal a w
 | .exit id=>Q (.exit id) a w
 | .ret=>Q .ret a w
 | .panic v=> ∀ cv,VR (aB hp) m S v cv→Q (.panic [{v:=cv,recovered:=false}]) a w
def XA (ap:AP) (h0:List bg) (m0:bf) (S0:aZ) (w0:World) (nt:Nat) (s':St) (e:bM) (Q:Exit→Act→World→Prop):Prop:=
 ∀ m' S' w' a',Fr (bP h0) m0 S0 w0 (aB s'.hp) m' S' w'→FR ap s'.env s'.hp s'.dfs nt m' S' w' a'→V6 s'.hp m' S' Q a' w' e
def au (P:Program) (ap:AP) (h0:List bg) (nt:Nat) (code:Code) (s:St) (e:bM) (s':St):Prop:=
 s.md= .dead→s'.md= .dead∧∀ m0 S0 w0 m S w a,Fr (bP h0) m0 S0 w0 (aB s.hp) m S w→FR ap s.env s.hp s.dfs nt m S w a→∀ Q,XA ap h0 m0 S0 w0 nt s' e Q→code.wp P Q a w
theorem au.still {f:List bg} {nt:Nat} {b:Code} {s:St} {e:bM} (h:∀ (Q:Exit→Act→World→Prop) hp m S a w,V6 hp m S Q a w e→b.wp P Q a w):au P ap f nt b s e s:=
 fun c=> ⟨c,fun _ _ _ m S w a d j Q i=>h Q s.hp m S a w (i m S w a d j)⟩
theorem EZ {k:List bg} {nt:Nat} {b:Code} {f:St→Cx→R (bM × St)} (o:∀ s e s' c c',f s c= .ok (e,s') c'→c'.Ok→c.Ok∧au P ap k nt b s e s'):
  ∀ (n:Nat) (s:St) (e:bM) (s':St) (c c':Cx),Rj f n s c= .ok (e,s') c'→c'.Ok→c.Ok∧(s.md= .dead→s'.md= .dead∧∀ m0 S0 w0 m S w a,Fr (bP k) m0 S0 w0 (aB s.hp) m S w→FR ap s.env s.hp s.dfs nt m S w a→∀ Q,XA ap k m0 S0 w0 nt s' e Q→Code.rounds P b Q n a w)
 |0,s,e,s',c,c',h,hc=>by cases h
 | n+1,s,e,s',c,c',h,hc=>by
  simp only [Rj] at h;obtain ⟨⟨C,F⟩,E,D,h⟩:=R.bind_ok h;dsimp only at h;have hother:C ≠ .normal→R.ok (C,F) E=R.ok (e,s') c'→c.Ok∧(s.md= .dead→s'.md= .dead∧∀ m0 S0 w0 m S w a,Fr (bP k) m0 S0 w0 (aB s.hp) m S w→FR ap s.env s.hp s.dfs nt m S w a→∀ Q,XA ap k m0 S0 w0 nt s' e Q→Code.rounds P b Q (n+1) a w):=by
   intro u G;cases G;obtain ⟨d,x⟩:=o _ _ _ _ _ D hc;refine ⟨d,fun i=> ?_⟩;obtain ⟨q,B⟩:=x i;refine ⟨q,fun m0 S0 w0 m S w a j t Q z=>B m0 S0 w0 m S w a j t _ ?_⟩;intro A S' w' y l p;have:=z A S' w' y l p;cases e with
   |normal=>exact absurd rfl u
   |exit id=>exact this
   |ret=>exact this
   |panic v=>exact this
  cases C with
  |normal=>
   dsimp only at h;obtain ⟨r,K⟩:=EZ o n F e s' E c' h hc;obtain ⟨d,x⟩:=o _ _ _ _ _ D r;refine ⟨d,fun i=> ?_⟩;obtain ⟨q,B⟩:=x i;obtain ⟨l,p⟩:=K q;refine ⟨l,fun m0 S0 w0 m S w a j t Q z=>B m0 S0 w0 m S w a j t _ ?_⟩;intro A S' w' y I J;exact p m0 S0 w0 A S' w' y I J Q z
  |exit id=>exact hother (by simp) h
  |ret=>exact hother (by simp) h
  |panic v=>exact hother (by simp) h
theorem fA (q:iU P ap) (i:P.follows .mixedOrders=true) (J:nG P ap H) {V:List bg} {keep:List Nat} {lf nt:Nat}:∀ (code:Code),dO nt code=true→∀ (s:St) (e:bM) (s':St) (c p:Cx),lK ap H V.length keep lf code s c= .ok (e,s') p→p.Ok→c.Ok∧au P ap V nt code s e s'
 | .skip,_,s,e,s',c,p,h,n=>by
  cases h;exact ⟨n,au.still fun Q hp m S a w r=>wp_skip r⟩
 | .label l,_,s,e,s',c,p,h,n=>by
  cases h;exact ⟨n,au.still fun Q hp m S a w r=>wp_label r⟩
 | .exit id,_,s,e,s',c,p,h,n=>by
  cases h;exact ⟨n,au.still fun Q hp m S a w r=>wp_exit r⟩
 | .ret,_,s,e,s',c,p,h,n=>by
  cases h;exact ⟨n,au.still fun Q hp m S a w r=>wp_ret r⟩
 | .region id ops draw,hd,s,e,s',c,p,h,n=>by
  have hnt:∀ o ∈ ops.toList,∀ d,o.dst=some d→d<nt:=by
   intro o ho d Z;have:=List.all_eq_true.1 hd o ho;simp only [QR,Z] at this;exact gG this
  obtain ⟨j,hr⟩:=J_ q i J hnt (id:=id) h n;refine ⟨j,fun k=> ?_⟩;obtain ⟨I,h2⟩:=hr k;refine ⟨I,fun m0 S0 w0 m S w a f C Q E=> ?_⟩;have:=h2 m S w a C Q;rw [Array.toArray_toList] at this;refine this ?_;cases e with
  |normal=>
   intro X N G S' w' D B F;obtain ⟨m2,u,A⟩:=uj (keep:=keep) (f.trans B) F;rw [← N] at u A;exact E m2 S' w' D u A
  | panic v=>
   simp only [qi];split
   ·rename_i hre;intro X N G S' w' D cv B F u;obtain ⟨m2,A,Y⟩:=uj (keep:=keep) (f.trans B) F;rw [← N] at A Y;exact E m2 S' w' D A Y cv (iG _ (nS hre u))
   ·intro G S' w' D cv B F u;exact E G S' w' D (f.trans B) F cv u
  |exit id=>trivial
  |ret=>trivial
 | .seq x y,hd,s,e,s',c,p,h,n=>by
  simp only [dO,ο] at hd;simp only [lK] at h;obtain ⟨⟨T,X⟩,M,I,h⟩:=R.bind_ok h;dsimp only at h;have hother:T ≠ .normal→R.ok (T,X) M=R.ok (e,s') p→c.Ok∧au P ap V nt (.seq x y) s e s':=by
   intro O U;cases U;obtain ⟨j,L⟩:=fA q i J x hd.1 _ _ _ _ _ I n;refine ⟨j,fun k=> ?_⟩;obtain ⟨B,F⟩:=L k;refine ⟨B,fun m0 S0 w0 m S w a f C Q E=>wp_seq (F m0 S0 w0 m S w a f C _ ?_)⟩;intro G S' w' D u A;have:=E G S' w' D u A;cases e with
   |normal=>exact absurd rfl O
   |exit id=>exact this
   |ret=>exact this
   |panic v=>exact this
  cases T with
  |normal=>
   dsimp only at h;obtain ⟨K,ih⟩:=fA q i J y hd.2 _ _ _ _ _ h n;obtain ⟨j,L⟩:=fA q i J x hd.1 _ _ _ _ _ I K;refine ⟨j,fun k=> ?_⟩;obtain ⟨B,F⟩:=L k;obtain ⟨u,A⟩:=ih B;refine ⟨u,fun m0 S0 w0 m S w a f C Q E=>wp_seq (F m0 S0 w0 m S w a f C _ ?_)⟩;intro G S' w' D Y h8;exact A m0 S0 w0 G S' w' D Y h8 Q E
  |exit id=>exact hother (by simp) h
  |ret=>exact hother (by simp) h
  |panic v=>exact hother (by simp) h
 | .cond t x y,hd,s,e,s',c,p,h,n=>by
  simp only [dO,ο] at hd;simp only [lK] at h;split at h
  ·rename_i bv hbv;obtain ⟨b',M,I,h⟩:=R.bind_ok h;have key:∀ (z:Code),(M.Ok→M.Ok∧z=if bv then x else y)→M.Ok∧au P ap V nt z s e s'→c.Ok∧au P ap V nt (.cond t x y) s e s':=by
    rintro z hzz ⟨K,ih⟩
    obtain ⟨j,hb⟩:=lN I K;refine ⟨j,fun k=> ?_⟩;obtain ⟨u,A⟩:=ih k;refine ⟨u,fun m0 S0 w0 m S w a f C Q E=>wp_cond (t:=bv) ?_ ?_⟩
    ·have:=xR C.srel (a:=a) (env:=s.env) t (fun t _=>C.env t);rw [hbv] at this;simpa only [VR,PR] using this
    ·rw [← (hzz K).2];exact A m0 S0 w0 m S w a f C Q E
   cases b' with
   |true=>exact key x (fun W=> ⟨W,by rw [← (lN I W).2];rfl⟩) (fA q i J x hd.1 _ _ _ _ _ h n)
   |false=>exact key y (fun W=> ⟨W,by rw [← (lN I W).2];rfl⟩) (fA q i J y hd.2 _ _ _ _ _ h n)
  ·cases h
 | .block id b,hd,s,e,s',c,p,h,n=>by
  simp only [dO] at hd;simp only [lK] at h;obtain ⟨⟨T,X⟩,M,I,h⟩:=R.bind_ok h;dsimp only at h;have hcc:M=p:=by
   cases T<;>dsimp only at h
   ·cases h;rfl
   ·split at h<;>cases h<;>rfl
   ·cases h;rfl
   ·cases h;rfl
  subst hcc;obtain ⟨j,L⟩:=fA q i J b hd _ _ _ _ _ I n;refine ⟨j,fun k=> ?_⟩;obtain ⟨B,F⟩:=L k;have hs:X=s':=by
   cases T<;>dsimp only at h
   ·cases h;rfl
   ·split at h<;>cases h<;>rfl
   ·cases h;rfl
   ·cases h;rfl
  subst hs;refine ⟨B,fun m0 S0 w0 m S w a f C Q E=>wp_block (F m0 S0 w0 m S w a f C _ ?_)⟩;intro G S' w' D u A;have r:=E G S' w' D u A;cases T with
  |normal=>cases h;exact r
  |ret=>cases h;exact r
  |panic v=>cases h;exact r
  | exit id'=>
   dsimp only at h;split at h
   ·rename_i U;cases h;show Exit.inBlock id Q (.exit id') D w';simp only [Exit.inBlock,if_pos (aU U)];exact r
   ·rename_i U;cases h;show Exit.inBlock id Q (.exit id') D w';have O:id' ≠ id:=by intro e;subst e;simp at U
    simp only [Exit.inBlock,if_neg O];exact r
 | .loop b,hd,s,e,s',c,p,h,n=>by
  simp only [dO] at hd;simp only [lK] at h;obtain ⟨j,L⟩:=EZ (fun s e s' c p h n=>fA q i J b hd s e s' c p h n) lf s e s' c p h n;refine ⟨j,fun k=> ?_⟩;obtain ⟨B,F⟩:=L k;exact ⟨B,fun m0 S0 w0 m S w a f C Q E=>wp_loop_rounds lf (F m0 S0 w0 m S w a f C Q E)⟩
 | .scope b,hd,s,e,s',c,p,h,n=>by
  simp only [dO] at hd;simp only [lK] at h;obtain ⟨j,L⟩:=fA q i J b hd _ _ _ _ _ h n;refine ⟨j,fun k=> ?_⟩;obtain ⟨B,F⟩:=L k;refine ⟨B,fun m0 S0 w0 m S w a f C Q E=>wp_scope_straight (F m0 S0 w0 m S w a f C _ ?_)⟩;intro G S' w' D u A;have r:=E G S' w' D u A;cases e with
  |normal=>exact r
  |exit id=>exact r
  |ret=>exact r
  |panic v=>exact r
 | .rangeFunc _ _ _ _,_,s,e,s',c,p,h,n=>by cases h
 | .goto _,_,s,e,s',c,p,h,n=>by cases h
 | .refuse _,_,s,e,s',c,p,h,n=>by cases h
end
end AM
