/- The abstract machine over the code of the model, and the proof that it is sound. No conditions. -/
import Derived.Test.YtdmfgmmooalfnaaGreatDoorM2
import Derived.Orders
import Derived.LoopN
import Derived.Scope
set_option linter.unusedSimpArgs false
set_option linter.unusedVariables false
open List renaming map_cons→Xqh,getElem?_cons_succ→Xj4,filterMap_cons_none→Xvo,filterMap_cons_some→Xvp,mem_cons→Xwk,getElem?_append_left→Xxd,nil_append→Xqk,length_nil→Xqb,getElem?_eq_getElem→ξ,getElem?_eq_none→Xq4,mem_of_getElem?→Xqj,getD_eq_getElem?_getD→ο,getElem?_map→Xq3,append_assoc→Xqd,mem_cons_self→Xjp,mem_cons_of_mem→Xx3,drop_drop→Xjm,length_cons→μ,range'_succ→Xv4,take_zero→Xvf,take_succ_cons→Xxw,eq_nil_of_length_eq_zero→Xxh,foldl_cons→Xjn,all_eq_true→Xzb,mem_zipIdx_iff_getElem?→Xj5,range→Xq6,nodup_cons→Xkd,mem_filter→Xw9,mem_range→Yqt,size_toArray→Xzn,nodup_range→Xz8,range_eq_range'→Xz7
open Nat renaming add_assoc→Xze,beq→Xqq,le_of_not_lt→Xv0,le_refl→Δ,lt_of_lt_of_le→Xqa,zero_add→Xqf,zero_le→Xxk,le_trans→Xq1,add_zero→Xq0,blt→Xja,ble_eq_true_of_le→Xqt,lt_trichotomy→Xj7
open Bool renaming and_eq_true→π,not_eq_true'→Xqo,or_eq_true→Xw8,not_true→Xwh,false_or→Xwi
open Option renaming map_eq_some_iff→Xqp,bind_some→Xw2,map_some→Xje,getD_some→Xw0
namespace AM
open Go
def bH (h:List bg):dG:=fun b=>h[b]?
def jE (gh gf:dG) (m:aZ) (S:aT):Nat→List AV→List Value→Prop
 |_,[],[]=>True
 |n,.own _ k _::r,v::vs=>VR gf m S (.ref n 0 0 k) v∧jE gh gf m S (n+1) r vs
 |n,x::r,v::vs=>VR gh m S x v∧jE gh gf m S n r vs
 |_,_,_=>False
def BV (gh gf:dG) (m:aZ) (S:aT) (n:Nat):AV→Value→Prop
 | .tup l,v=> ∃ vs,v= .tuple vs.toArray∧jE gh gf m S n l vs
 | .own _ k _,v=>VR gf m S (.ref n 0 0 k) v
 |x,v=>VR gh m S x v
def mY (n:Nat):kJ→List bg
 | .ret v=>(lM n v).2
 | .pan _=> []
def acR (h':List bg) (m':aZ) (S':aT):kJ→Ending→Prop
 | .ret v,e=> ∃ cv,e= .returned cv∧BV (bH h') (bH (h'++(lM h'.length v).2)) m' S' h'.length v cv
 | .pan v,e=> ∃ cv,e= .panicked [{v:=cv,recovered:=false}]∧VR (bH h') m' S' v cv
structure F8 (ap:AP) (h:List bg) (m:aZ) (S:aT) (w:World) (out:kJ) (h':List bg) (m':aZ) (S':aT) (w':World) (e:Ending):Prop where
 srel:bU ap (bH (h'++mY h'.length out)) m' S' w'
 fr:Fr (bH h) m S w (bH (h'++mY h'.length out)) m' S' w'
 out:acR h' m' S' out e
def Dj (P:Program) (f:Nat):Prop:=∀ args w,(callFunc f args).run P w= .ok (.enter f args) w
structure bD (P:Program) (ap:AP) (f:Nat) (args:List AV) (h:List bg) (out:kJ) (h':List bg):Prop where
 len:h.length≤h'.length
 ent:Dj P f
 calls:∀ m S w cargs,bU ap (bH h) m S w→bi (bH h) m S args cargs→Calls P f cargs.toArray w fun e w'=> ∃ m' S',F8 ap h m S w out h' m' S' w' e
def mW (P:Program) (ap:AP) (H:di):Prop:=∀ c f args h out h' md' c',H c .dead f args h= .ok (out,h',md') c'→c'.Ok→c.Ok∧bD P ap f args h out h'
section
variable {P:Program} {ap:AP} {g:dG} {m:aZ} {S:aT} {w:World}
mutual
theorem nV {m:aZ} {S:aT}:∀ (x:AV) {v:Value},VR (bH []) m S x v→PR S x v
 | .int _ _,_,p=>by simpa only [VR] using p
 | .bool _,_,p=>by simpa only [VR] using p
 | .str _,_,p=>by simpa only [VR] using p
 | .nilS,_,p=>by simpa only [VR] using p
 | .nilP,_,p=>by simpa only [VR] using p
 | .nilF,_,p=>by simpa only [VR] using p
 | .nilI,_,p=>by simpa only [VR] using p
 | .sl _ _ _,_,p=>by simpa only [VR] using p
 | .pp _ _,_,p=>by simpa only [VR] using p
 | .mp _ _,_,p=>by simpa only [VR] using p
 | .dead,_,_=>by simp only [PR]
 | .own _ _ _,_,p=>by simp only [VR] at p
 | .ref _ _ _ _,_,p=>by simp [VR,bH] at p
 | .ptr _ _ _,_,p=>by simp [VR,bH] at p
 | .mr _ _,_,p=>by simp [VR,bH] at p
 | .agg l,_,p=>by
  simp only [VR] at p;simp only [PR];obtain ⟨vs,e,q⟩:=p;exact ⟨vs,e,mf l q⟩
 | .tup l,_,p=>by
  simp only [VR] at p;simp only [PR];obtain ⟨vs,e,q⟩:=p;exact ⟨vs,e,mf l q⟩
 | .fn f a c,_,p=>by
  simp only [VR] at p;simp only [PR];obtain ⟨b,d,e,q,r⟩:=p;exact ⟨b,d,e,mf a q,mf c r⟩
 | .ifc t x,_,p=>by
  simp only [VR] at p;simp only [PR];obtain ⟨u,e,q⟩:=p;exact ⟨u,e,nV x q⟩
theorem mf {m:aZ} {S:aT}:∀ (l:List AV) {vs:List Value},bi (bH []) m S l vs→dY S l vs
 | [],[],_=>by simp only [dY]
 |x::r,v::vs,p=>by simp only [bi] at p;simp only [dY];exact ⟨nV x p.1,mf r p.2⟩
 | [],_::_,p=>by simp [bi] at p
 |_::_,[],p=>by simp [bi] at p
end
theorem acl (A:bU ap g m S w) {L l:dG} {W t:aZ} {Sp S':aT} {w':World} (N:bU ap l t S' w') (p:Fr L W Sp w l t S' w') (ι:Nat→Nat)
  (hdom:∀ i Bc,L i=some Bc→∃ B,g (ι i)=some B∧W i=m (ι i))
  (hSp:oQ S Sp) (hSpN:∀ k o v,Sp k o=some v→S k o=some v∨∃ b B,g b=some B∧(m b).1=k) {gN:dG} {mN:aZ} (ρ:Nat→Nat→Option (Nat × Nat)) (hρ:sO l t gN mN ρ)
  (hnew:∀ i Bc,l i=some Bc→∃ B,gN (ι i)=some B∧mN (ι i)=t i∧B.esz=Bc.esz∧B.fro=Bc.fro∧B.fz=Bc.fz∧B.pr=Bc.pr∧(Bc.pr=true→B.cells=Bc.cells)∧(Bc.pr=false→B.cells=mZ ρ Bc.cells))
  (c:∀ b B,gN b=some B→(∃ i Bc,l i=some Bc∧b=ι i)∨(∃ B0,g b=some B0∧mN b=m b∧B.cells=B0.cells∧B.pr=B0.pr∧B.esz=B0.esz∧(B.fro=false→B.fz=0)∧B.fz≤B.cells.length∧(∀ i Bc,L i=some Bc→b ≠ ι i)∧(∀ o v,Sp (m b).1 o=some v→B.fro=true∧o<B.fz)))
  (hge:Ge g m gN mN):bU ap gN mN S' w'∧Fr g m S w gN mN S' w':=by
 have s:oQ S S':=hSp.trans p.sle;have hcross:∀ b B0 i Bc,g b=some B0→l i=some Bc→(∀ i Bc,L i=some Bc→b ≠ ι i)→(m b).1 ≠ (t i).1:=by
  intro b B0 i Bc n a u e;have hlt:=A.lt n;rcases p.img i Bc a with d|⟨B1,d,x⟩
  ·omega
  ·obtain ⟨B2,D,I⟩:=hdom i B1 d;rw [I] at x;exact u i B1 d (A.inj b (ι i) B0 B2 n D (e.trans x))
 constructor
 ·refine ⟨?_, ?_,N.sealed, ?_,N.glob⟩
  ·intro b V B B' n X e;rcases c b B n with ⟨i,Bi,a,rfl⟩|⟨B0,r,d,_,_,_,_,_,x,_⟩<;>rcases c V B' X with ⟨j,Bj,Q,rfl⟩|⟨B0',M,J,_,_,_,_,_,U,_⟩
   ·obtain ⟨_,_,y,_⟩:=hnew i Bi a;obtain ⟨_,_,q,_⟩:=hnew j Bj Q;rw [y,q] at e;rw [N.inj i j Bi Bj a Q e]
   ·obtain ⟨_,_,y,_⟩:=hnew i Bi a;rw [y,J] at e;exact absurd e.symm (hcross V B0' i Bi M a U)
   ·obtain ⟨_,_,q,_⟩:=hnew j Bj Q;rw [q,d] at e;exact absurd e (hcross b B0 j Bj r Q x)
   ·rw [d,J] at e;exact A.inj b V B0 B0' r M e
  ·intro b B n;rcases c b B n with ⟨i,Bi,a,rfl⟩|⟨B0,r,d,D,I,T,h6,h7,x,_⟩
   ·obtain ⟨B1,F,y,q,R,G,e5,Z,Y⟩:=hnew i Bi a;rw [n] at F;cases F;rw [y];obtain ⟨⟨cur,e,vs,rest,k1,k2,k3,k4,k5,k6⟩,k7,k8⟩:=N.blk i Bi a;cases hp:Bi.pr with
    |true=>
     have hcells:=Z hp;refine ⟨⟨cur,e,vs,rest,by rw [q];exact k1,k2,fun _=>by rw [hcells];exact k3 hp,by rw [hcells];exact bW _ (k3 hp),by rw [q];exact k5,by rw [q];exact k6⟩,by rw [R,G];exact k7,by rw [G,hcells];exact k8⟩
    |false=>
     have hcells:=Y hp;have z:=kP (oQ.refl S') hρ _ k4;have K:B.cells.length=Bi.cells.length:=by rw [bV k4,hcells,bV z]
     refine ⟨⟨cur,e,vs,rest,by rw [q];exact k1,k2,(fun h=>by rw [e5,hp] at h;cases h),by rw [hcells];exact z,by rw [q];exact k5,by rw [q];exact k6⟩,by rw [R,G];exact k7,by rw [G,K];exact k8⟩
   ·rw [d];have u:∀ i Bc,L i=some Bc→(W i).1 ≠ (m b).1:=by
     intro i Bc a e;obtain ⟨B2,O,f⟩:=hdom i Bc a;rw [f] at e;exact x i Bc a (A.inj b (ι i) B0 B2 r O e.symm)
    obtain ⟨⟨cur,e,vs,rest,k1,k2,k3,k4,k5,k6⟩,k7,k8⟩:=A.blk b B0 r;refine ⟨⟨cur,e,vs,rest,by rw [T];exact k1.same (p.rest _ (A.lt r) u),k2,fun hp=>by rw [D];rw [I] at hp;exact dm s _ (k3 hp),by rw [D];exact mg s hge _ k4,by rw [T];exact k5,by rw [T];exact k6⟩,h6,h7⟩
  ·intro b B n o v z;rcases c b B n with ⟨i,Bi,a,rfl⟩|⟨B0,r,d,D,I,T,h6,h7,x,O⟩
   ·obtain ⟨B1,F,y,q,R,G,e5,Z,Y⟩:=hnew i Bi a;rw [n] at F;cases F;rw [y] at z;rw [R,G];exact N.own i Bi a o v z
   ·rw [d] at z;rcases p.sealN _ _ _ z with f|f|⟨i,Bi,a,f⟩
    ·exact O o v f
    ·have:=A.lt r;omega
    ·obtain ⟨B2,C,E⟩:=hdom i Bi a;rw [E] at f;exact absurd (A.inj b (ι i) B0 B2 r C f.symm) (x i Bi a)
 ·refine ⟨hge,s,p.os,p.tape,p.output,p.size, ?_, ?_, ?_⟩
  ·intro k hk u;refine p.rest k hk fun i Bc a e=> ?_
   obtain ⟨B2,O,f⟩:=hdom i Bc a;exact u (ι i) B2 O (by rw [← f];exact e)
  ·intro b B n;rcases c b B n with ⟨i,Bi,a,rfl⟩|⟨B0,r,d,_⟩
   ·obtain ⟨B1,F,y,_⟩:=hnew i Bi a;rw [y];rcases p.img i Bi a with d|⟨B2,d,x⟩
    ·exact .inl d
    ·obtain ⟨B3,D,I⟩:=hdom i B2 d;exact .inr ⟨B3,D,by rw [x,I]⟩
   ·exact .inr ⟨B0,r,by rw [d]⟩
  ·intro k o v z;rcases p.sealN _ _ _ z with f|f|⟨i,Bi,a,f⟩
   ·rcases hSpN _ _ _ f with h|h
    ·exact .inl h
    ·exact .inr (.inr h)
   ·exact .inr (.inl f)
   ·obtain ⟨B2,C,E⟩:=hdom i Bi a;exact .inr (.inr ⟨ι i,B2,C,by rw [← E];exact f⟩)
structure Gw (F:AV→AV):Prop where
 own:∀ xs n e,F (.own xs n e)= .own xs n e
 tup:∀ l,F (.tup l)= .tup (l.map F)
 not:∀ x,(∀ xs n e,x ≠ .own xs n e)→(∀ xs n e,F x ≠ .own xs n e)
 notT:∀ x,(∀ l,x ≠ .tup l)→(∀ l,F x ≠ .tup l)
theorem bC (n:Nat) {x:AV} (h:∀ xs k e,x ≠ .own xs k e) (r:List AV):fM n (x::r)=(x::(fM n r).1,(fM n r).2):=by
 cases x<;>first|rfl|exact absurd rfl (h _ _ _)
theorem jm (n:Nat) {x:AV} (h:∀ xs k e,x ≠ .own xs k e) (a:∀ l,x ≠ .tup l):lM n x=(x,[]):=by
 cases x<;>first|rfl|exact absurd rfl (h _ _ _)|exact absurd rfl (a _)
theorem bT {gh a:dG} {n:Nat} {x:AV} (h:∀ xs k e,x ≠ .own xs k e) {r:List AV} {v:Value} {vs:List Value}:jE gh a m S n (x::r) (v::vs)=(VR gh m S x v∧jE gh a m S n r vs):=by
 cases x<;>first|rfl|exact absurd rfl (h _ _ _)
theorem lG {gh b:dG} {n:Nat} {x:AV} (h:∀ xs k e,x ≠ .own xs k e) (a:∀ l,x ≠ .tup l) {v:Value}:BV gh b m S n x v=VR gh m S x v:=by
 cases x<;>first|rfl|exact absurd rfl (h _ _ _)|exact absurd rfl (a _)
theorem jB (x:AV):(∃ xs k e,x= .own xs k e)∨(∀ xs k e,x ≠ .own xs k e):=by
 cases x<;>first|exact .inl ⟨_,_,_,rfl⟩|exact .inr (fun _ _ _ h=>by cases h)
theorem AQ (x:AV):(∃ l,x= .tup l)∨(∀ l,x ≠ .tup l):=by
 cases x<;>first|exact .inl ⟨_,rfl⟩|exact .inr (fun _ h=>by cases h)
theorem su {F:AV→AV} (c:Gw F):∀ (l:List AV) (a b:Nat),(fM a (l.map F)).2=(fM b l).2
 | [],a,b=>rfl
 | x::r,a,b=>by
  rcases jB x with ⟨d,k,e,rfl⟩|hx
  ·simp only [Xqh,c.own,fM];rw [su c r (a+1) (b+1)]
  ·rw [Xqh,bC a (c.not x hx),bC b hx];exact su c r a b
theorem BK {F:AV→AV} (c:Gw F) (x:AV) (a b:Nat):(lM a (F x)).2=(lM b x).2:=by
 rcases jB x with ⟨d,k,e,rfl⟩|hx
 ·rw [c.own];rfl
 ·rcases AQ x with ⟨l,rfl⟩|ht
  ·rw [c.tup];simp only [lM];exact su c l a b
  ·rw [jm a (c.not x hx) (c.notT x ht),jm b hx ht]
theorem uJ {F:AV→AV} (a:Gw F) {gh d gN:dG} {m mN:aZ} {S:aT} {n nid:Nat} (c:∀ x v,VR gh m S x v→VR gN mN S (F x) v) (b:∀ i k v,VR d m S (.ref (n+i) 0 0 k) v→VR gN mN S (.ref (nid+i) 0 0 k) v):
  ∀ (l:List AV) (vs:List Value) (j:Nat),jE gh d m S (n+j) l vs→bi gN mN S (fM (nid+j) (l.map F)).1 vs
 | [],[],j,_=>by simp [fM,bi]
 | x::r,v::vs,j,h=>by
  rcases jB x with ⟨f,k,e,rfl⟩|hxo
  ·simp only [jE] at h;simp only [Xqh,a.own,fM,bi];exact ⟨b j k v h.1,by have:=uJ a c b r vs (j+1);rw [← Xze,← Xze] at this;exact this h.2⟩
  ·rw [bT hxo] at h;rw [Xqh,bC _ (a.not x hxo)];simp only [bi];exact ⟨c x v h.1,uJ a c b r vs j h.2⟩
 | [],_::_,_,h=>by simp [jE] at h
 |x::r,[],_,h=>by cases x<;>simp [jE] at h
theorem Fg {F:AV→AV} (a:Gw F) {gh b gN:dG} {m mN:aZ} {S:aT} {n nid:Nat} (c:∀ x v,VR gh m S x v→VR gN mN S (F x) v) (d:∀ i k v,VR b m S (.ref (n+i) 0 0 k) v→VR gN mN S (.ref (nid+i) 0 0 k) v)
  {x:AV} {v:Value} (h:BV gh b m S n x v):VR gN mN S (lM nid (F x)).1 v:=by
 rcases jB x with ⟨f,k,e,rfl⟩|hxo
 ·simp only [BV] at h;rw [a.own];exact d 0 k v h
 ·rcases AQ x with ⟨l,rfl⟩|ht
  ·simp only [BV] at h;obtain ⟨vs,e,h⟩:=h;rw [a.tup];simp only [lM,VR];exact ⟨vs,e,uJ a c d l vs 0 h⟩
  ·rw [lG hxo ht] at h;rw [jm _ (a.not x hxo) (a.notT x ht)];exact c x v h
theorem KP:Gw id:=⟨fun _ _ _=>rfl,fun l=>by simp,fun _ h=>h,fun _ h=>h⟩
theorem LV (ρ:Nat→Nat→Option (Nat × Nat)):∀ l,mZ ρ l=l.map (ren ρ)
 | []=>rfl
 |x::r=>by simp [mZ,LV ρ r]
theorem Ha (ρ:Nat→Nat→Option (Nat × Nat)):Gw (ren ρ):=by
 refine ⟨fun _ _ _=>rfl,fun l=>by simp [ren,LV], ?_, ?_⟩
 ·intro x h b n e a;cases x<;>simp only [ren] at a<;>first
   |(cases a;done)
   |(split at a<;>cases a;done)
   |exact h _ _ _ rfl
 ·intro x h l a;cases x<;>simp only [ren] at a<;>first
   |(cases a;done)
   |(split at a<;>cases a;done)
   |exact h _ rfl
theorem zU:∀ (bs:List bg) (n b:Nat),aA (ER n bs) b=if n≤b then bs[b - n]? else none
 | [],n,b=>by simp [ER,aA]
 | B::r,n,b=>by
  simp only [ER,aA];cases h:Xqq n b with
  |true=>
   have:=aJ h;subst this;simp
  | false=>
   have a:n ≠ b:=by intro e;subst e;simp at h
   rw [zU r (n+1) b];by_cases hle:n≤b
   ·rw [if_pos hle,if_pos (show n+1≤b by omega)];obtain ⟨d,hd⟩:∃ d,b - n=d+1:=⟨b - n - 1,by omega⟩
    rw [hd,Xj4,show b - (n+1)=d by omega]
   ·rw [if_neg hle,if_neg (show ¬ n+1≤b by omega)]
theorem Ho {rd:dG} {mk:bg→bg}:∀ (fp:List Nat) (b:Nat),aA (fp.filterMap fun b=>(rd b).map fun B=>(b,mk B)) b=if b ∈ fp then (rd b).map mk else none
 | [],b=>by simp [aA]
 | a::r,b=>by
  have f:=Ho (rd:=rd) (mk:=mk) r b;cases c:rd a with
  |none=>
   rw [Xvo (by simp [c]),f];by_cases hab:b=a
   ·subst hab;simp [c]
   ·simp [hab]
  | some B=>
   rw [Xvp (by simp [c];rfl)];simp only [aA];cases h:Xqq a b with
   |true=>have:=aJ h;subst this;simp [c]
   |false=>
    have d:b ≠ a:=by intro e;subst e;simp at h
    simp only [f,Xwk,d,false_or]
end
end AM
namespace AM
open Go
def acS (g:dG) (m:aZ) (S:aT):kJ→Ending→Prop
 | .ret v,e=> ∃ cv,e= .returned cv∧VR g m S v cv
 | .pan v,e=> ∃ cv,e= .panicked [{v:=cv,recovered:=false}]∧VR g m S v cv
def Yd (ap:AP) (g:dG) (m:aZ) (S:aT) (w:World) (out:kJ) (ups:List (Nat × bg)) (e:Ending) (w':World):Prop:=
 ∃ m' S',bU ap (dP g ups) m' S' w'∧Fr g m S w (dP g ups) m' S' w'∧acS (dP g ups) m' S' out e
theorem fD {h c:List bg} {b:Nat} (a:b<h.length):bH (h++c) b=bH h b:=by
 simp [bH,Xxd a]
theorem jg {h a:List bg} {b:Nat} (c:h.length≤b):bH (h++a) b=bH a (b - h.length):=by
 simp [bH,List.getElem?_append_right c]
def rD (l:List bg):Prop:=∀ B ∈ l,B.pr=true∧B.fro=false∧B.ver=0
theorem sD:∀ (l:List AV) (n:Nat),rD (fM n l).2
 | [],n=>by simp [fM,rD]
 | x::r,n=>by
  rcases jB x with ⟨b,k,e,rfl⟩|hx
  ·simp only [fM];intro B a;rcases List.mem_cons.1 a with rfl|a
   ·exact ⟨rfl,rfl,rfl⟩
   ·exact sD r (n+1) B a
  ·rw [bC n hx];exact sD r n
theorem LU (x:AV) (n:Nat):rD (lM n x).2:=by
 rcases jB x with ⟨b,k,e,rfl⟩|hx
 ·intro B a;simp [lM] at a;subst a;exact ⟨rfl,rfl,rfl⟩
 ·rcases AQ x with ⟨l,rfl⟩|ht
  ·simp only [lM];exact sD l n
  ·rw [jm n hx ht];simp [rD]
theorem BJ (o:kJ) (n:Nat):rD (mY n o):=by
 cases o with
 |ret v=>exact LU v n
 |pan v=>simp [mY,rD]
section
variable {P:Program} {ap:AP} {g:dG} {m:aZ} {S:aT} {w:World}
def Jj (nid:Nat) (F:AV→AV):kJ→kJ
 | .ret v=> .ret (lM nid (F v)).1
 | .pan v=> .pan (F v)
theorem A_ (p:bU ap g m S w) {rd:dG} (j:∀ b B,rd b=some B→g b=some B) {L:List Nat} (W:∀ b B,rd b=some B→b ∈ L) {nid:Nat} {args args':List AV} {cargs:List Value} {out:kJ}
  (ha:kG (frz rd 6) args=some args') (hv:bi g m S args cargs) {C:List Value→(Ending→World→Prop)→Prop} (hmono:∀ cargs R R',C cargs R→(∀ e w',R e w'→R' e w')→C cargs R')
  (f:∀ m1 S1,oQ S S1→bU ap (bH []) m1 S1 w→bi (bH []) m1 S1 args' cargs→C cargs fun e w'=> ∃ m' S',F8 ap [] m1 S1 w out [] m' S' w' e) (hfr:∀ i,i<(mY 0 out).length→g (nid+i)=none):
  C cargs fun e w'=>Yd ap g m S w (Jj nid id out) (ER nid (mY 0 out)++L.filterMap fun b=>(rd b).map fun B=>(b,{B with fro:=true,fz:=B.cells.length})) e w':=by
 have X:dY (dL S m rd w) args' cargs:=tH (fun x v y a d=>lK p j 6 x v y a d) ha hv;have u:=nP S m rd w
 let m0:aZ:=fun _=>(0,0)
 have T:bU ap (bH []) m0 (dL S m rd w) w:=by
  refine ⟨fun b b' B B' h=>by simp [bH] at h,fun b B h=>by simp [bH] at h,fun k o v h=>pY p h,fun b B h=>by simp [bH] at h, ?_⟩;intro k xs hk;obtain ⟨vs,a,d⟩:=p.glob k xs hk;exact ⟨vs,dm u _ a,d.mono u⟩
 refine hmono _ _ _ (f m0 (dL S m rd w) u T (bW _ X)) ?_
 rintro e w' ⟨m',S',hF⟩
 obtain ⟨A,q,l⟩:=hF;simp only [Xqk,Xqb] at A q l;generalize E:mY 0 out=bs at A q hfr;have F:rD bs:=E ▸ BJ out 0
 let gN:dG:=dP g (ER nid bs++L.filterMap fun b=>(rd b).map fun B=>(b,{B with fro:=true,fz:=B.cells.length}))
 let mN:aZ:=fun b=>if nid≤b∧b - nid<bs.length then m' (b - nid) else m b
 have s:∀ b,gN b=if nid≤b∧b - nid<bs.length then bs[b - nid]? else match rd b with|some B=>some {B with fro:=true,fz:=B.cells.length}|none=>g b:=by
  intro b;show dP g _ b=_;unfold dP;have O:∀ mk:bg→bg,(if b ∈ L then (rd b).map mk else none)=(rd b).map mk:=by
   intro mk;split
   ·rfl
   ·rename_i c;cases r:rd b with
    |none=>rfl
    |some B=>exact absurd (W b B r) c
  rw [iH,zU,Ho,O];by_cases a:nid≤b
  ·by_cases d:b - nid<bs.length
   ·have f:nid≤b∧b - nid<bs.length:=⟨a,d⟩
    rw [if_pos a,if_pos f,ξ d]
   ·have f:¬ (nid≤b∧b - nid<bs.length):=fun h=>d h.2
    rw [if_pos a,if_neg f,Xq4 (Xv0 d)];cases rd b<;>rfl
  ·have f:¬ (nid≤b∧b - nid<bs.length):=fun h=>a h.1
   rw [if_neg a,if_neg f];cases rd b<;>rfl
 have hnidg:∀ b B,g b=some B→¬ (nid≤b∧b - nid<bs.length):=by
  rintro b B c ⟨a,d⟩
  have:=hfr (b - nid) d;rw [show nid+(b - nid)=b by omega,c] at this;cases this
 have Z:Ge g m gN mN:=by
  intro b B c;have hn:=hnidg b B c;have D:mN b=m b:=if_neg hn;rw [s,if_neg hn];cases r:rd b with
  |none=>exact ⟨B,c,rfl,.inl ⟨rfl,D⟩⟩
  |some B1=>
   have:=j b B1 r;rw [c] at this;cases this;exact ⟨_,rfl,rfl,.inl ⟨rfl,D⟩⟩
 have z:∀ i B,bs[i]? =some B→gN (nid+i)=some B∧mN (nid+i)=m' i:=by
  intro i B K;have hl:=(List.getElem?_eq_some_iff.1 K).1;have f:nid≤nid+i∧nid+i - nid<bs.length:=by omega
  refine ⟨by rw [s,if_pos f,show nid+i - nid=i by omega];exact K, ?_⟩;show (if _ then _ else _)=_;rw [if_pos f,show nid+i - nid=i by omega]
 obtain ⟨U,Q⟩:=acl (g:=g) (m:=m) (S:=S) (w:=w) p A q (fun i=>nid+i) (fun i Bc h=>by simp [bH] at h) u
  (fun k o v h=>(fO h).imp id fun ⟨_,b,B,a,d,_⟩=> ⟨b,B,j b B a,d⟩) (gN:=gN) (mN:=mN) (fun i v=>some (nid+i,v))
  (by
   intro b ver b' ver' h B hB I;simp only [Option.some.injEq,Prod.mk.injEq] at h;obtain ⟨rfl,rfl⟩:=h;obtain ⟨a,d⟩:=z b B hB;exact ⟨B,a,I,fun e=> ⟨e,d,rfl⟩⟩)
  (by
   intro i Bc K;obtain ⟨a,d⟩:=z i Bc K;exact ⟨Bc,a,d,rfl,rfl,rfl,rfl,fun _=>rfl,fun hp=>by rw [(F Bc (Xqj K)).1] at hp;cases hp⟩)
  (by
   intro b B c;by_cases f:nid≤b∧b - nid<bs.length
   ·rw [s,if_pos f] at c;exact .inl ⟨b - nid,B,c,by omega⟩
   ·have D:mN b=m b:=if_neg f;rw [s,if_neg f] at c;right;cases r:rd b with
    | none=>
     rw [r] at c;have c:g b=some B:=c;refine ⟨B,c,D,rfl,rfl,rfl,(p.blk b B c).fz0,(p.blk b B c).fzle,(fun i Bc h=>by simp [bH] at h), ?_⟩;intro o v N;rcases fO N with h|⟨_,V,B1,a,d,_⟩
     ·exact p.own b B c o v h
     ·have:=p.inj V b B1 B (j _ _ a) c d;subst this;rw [a] at r;cases r
    | some B1=>
     rw [r] at c;have c:some {B1 with fro:=true,fz:=B1.cells.length}=some B:=c;cases c;have t:=j b B1 r;refine ⟨B1,t,D,rfl,rfl,rfl,(fun h=>by cases h),Δ _,(fun i Bc h=>by simp [bH] at h), ?_⟩;intro o v N;refine ⟨rfl, ?_⟩;rcases fO N with h|⟨_,V,B2,a,d,M⟩
     ·exact Xqa (p.own b B1 t o v h).2 (p.blk b B1 t).fzle
     ·have:=p.inj V b B2 B1 (j _ _ a) t d;subst this;rw [a] at r;cases r;exact M)
  Z
 refine ⟨mN,S',U,Q, ?_⟩;show acS gN mN S' (Jj nid id out) e;cases out with
 |ret v=>
  obtain ⟨cv,Y,a⟩:=l;refine ⟨cv,Y, ?_⟩;have G:(lM 0 v).2=bs:=E;simp only [Xqb,Xqk,G] at a;refine Fg (n:=0) KP (fun x v J=>iD x (nV x J)) ?_ a;intro i k v J;rw [Xqf] at J;simp only [VR] at J ⊢;obtain ⟨B,d,M,h4,h5⟩:=J;obtain ⟨h6,h7⟩:=z i B d;exact ⟨B,h6,M,h4,by rw [h7];exact h5⟩
 |pan v=>
  obtain ⟨cv,Y,a⟩:=l;exact ⟨cv,Y,iD _ (nV _ a)⟩
end
end AM
namespace AM
open Go
theorem Lj {b:Nat} {r:List Nat} (h:rW (b::r)=true):b ∉ r∧rW r=true:=by
 simp only [rW,π,Xqo] at h;refine ⟨fun a=> ?_,h.2⟩;rw [jK.2 a] at h;cases h.1
theorem qR:∀ {l:List Nat} {b p:Nat},qi l b=some p→l[p]? =some b
 | [],b,p,h=>by simp [qi] at h
 | c::r,b,p,h=>by
  simp only [qi] at h;split at h
  ·rename_i a;cases h;rw [aJ a];rfl
  ·simp only [Xqp] at h;obtain ⟨q,d,rfl⟩:=h;simpa using qR d
theorem pO:∀ {l:List Nat} {b p:Nat},rW l=true→l[p]? =some b→qi l b=some p
 | [],b,p,_,h=>by simp at h
 |c::r,b,0,hn,h=>by simp at h;subst h;simp [qi]
 | c::r,b,p+1,hn,h=>by
  obtain ⟨f,e⟩:=Lj hn;have h:r[p]? =some b:=by simpa using h
  have a:Xqq c b=false:=by
   cases d:Xqq c b with
   |false=>rfl
   |true=>exact absurd (aJ d ▸ Xqj h) f
  simp [qi,a,pO e h]
theorem K_ {mk:Nat→bg→bg}:∀ (fp:List Nat) (h':List bg) (b:Nat),aA ((MV fp h').map fun (b,B)=>(b,mk b B)) b=(qi fp b).bind fun p=>(h'[p]?).map (mk b)
 | [],h',b=>by cases h'<;>simp [MV,aA,qi]
 |a::r,[],b=>by
  simp only [MV,List.map_nil,aA,qi];cases Xqq a b with
  |true=>rfl
  |false=>cases qi r b<;>rfl
 | a::r,B::q,b=>by
  simp only [MV,Xqh,aA,qi];cases h:Xqq a b with
  |true=>have:=aJ h;subst this;rfl
  |false=>
   simp only [K_ r q b];cases qi r b<;>simp
section
variable {P:Program} {ap:AP} {g:dG} {m:aZ} {S:aT} {w:World}
def JO (ρ:Nat→Nat→Option (Nat × Nat)) (B:bg):bg:={B with cells:=(match B.pr with|true=>B.cells|false=>mZ ρ B.cells),ver:=0}
theorem ar1 {a b n i:Nat} (h:b≤a):n+(a+i - b)=n+(a - b)+i:=by omega
theorem ar2 {a b i:Nat} (h:b≤a):b+(a+i - b)=a+i:=by omega
theorem Yy {ρ:Nat→Nat→Option (Nat × Nat)} {l:List bg} (h:rD l):l.map (B_ ρ 0)=l:=by
 induction l with
 |nil=>rfl
 |cons B r ih=>
  rw [Xqh,ih fun B d=>h B (by simp [d])];obtain ⟨a,_,b⟩:=h B (by simp);obtain ⟨c,v,f,z,e,p⟩:=B;simp only at a b;subst a b;rfl
theorem Ba (L:bU ap g m S w) {rd:dG} (hrd:∀ b B,rd b=some B→g b=some B) {a:List Nat} {N:List bg} (hbl:kG rd a=some N) (E:rW a=true) {nid:Nat} {args:List AV} {cargs:List Value} {out:kJ}
  {vers:Nat→Nat} (hvers:∀ b B,rd b=some B→vers b=B.ver) {ρ ρ':Nat→Nat→Option (Nat × Nat)} (hρe:∀ b v,ρ b v=match Xqq v (vers b) with|true=>(qi a b).map fun p=>(p,0)|false=>none)
  {h':List bg} (hρe':ρ'=Pn nid a vers h'.length)
  (hv:bi g m S args cargs) {C:List Value→(Ending→World→Prop)→Prop} (hmono:∀ cargs R R',C cargs R→(∀ e w',R e w'→R' e w')→C cargs R')
  (t:∀ m1 S1,oQ S S1→bU ap (bH (N.map (JO ρ))) m1 S1 w→bi (bH (N.map (JO ρ))) m1 S1 (mZ ρ args) cargs→C cargs fun e w'=> ∃ m' S',F8 ap (N.map (JO ρ)) m1 S1 w out h' m' S' w' e) (hl:a.length≤h'.length) (hfr:∀ i,i<(h'.length - a.length)+(mY h'.length out).length→g (nid+i)=none):
  C cargs fun e w'=>Yd ap g m S w (Jj (nid+(h'.length - a.length)) (ren ρ') out) (ER nid ((h'.drop a.length).map (B_ ρ' 0)++mY h'.length out)++(MV a h').map fun (b,B)=>(b,B_ ρ' (vers b) B)) e w':=by
 have s:∀ p b,a[p]? =some b→∃ B,rd b=some B∧g b=some B∧bH (N.map (JO ρ)) p=some (JO ρ B):=by
  intro p b hp;obtain ⟨B,c,d⟩:=(jh hbl).2 p b hp;exact ⟨B,d,hrd b B d,by simp [bH,c]⟩
 have u:∀ p Bc,bH (N.map (JO ρ)) p=some Bc→∃ b B,a[p]? =some b∧rd b=some B∧g b=some B∧Bc=JO ρ B:=by
  intro p Bc hp;have y:p<a.length:=by
   have:=(List.getElem?_eq_some_iff.1 hp).1;rw [List.length_map,(jh hbl).1] at this;exact this
  obtain ⟨B,c,d,f⟩:=s p _ (ξ y);rw [f] at hp;cases hp;exact ⟨_,B,ξ y,c,d,rfl⟩
 let mc:aZ:=fun p=>m (a.getD p 0)
 have l:∀ p b,a[p]? =some b→mc p=m b:=by
  intro p b hp;show m (a.getD p 0)=_;rw [ο,hp];rfl
 have O:sO g m (bH (N.map (JO ρ))) mc ρ:=by
  intro b ver W F h B K J;rw [hρe] at h;split at h
  ·rename_i hve;simp only [Xqp,Prod.mk.injEq] at h;obtain ⟨p,hp,rfl,rfl⟩:=h;have hp:=qR hp;obtain ⟨B1,c,d,f⟩:=s p b hp;rw [d] at K;cases K;exact ⟨_,f,Xxk _,fun _=> ⟨by rw [aJ hve,hvers b _ c],l p b hp,rfl⟩⟩
  ·cases h
 have hSc:bU ap (bH (N.map (JO ρ))) mc S w:=by
  refine ⟨?_, ?_,L.sealed, ?_,L.glob⟩
  ·intro p q Bp Bq hp hq e;obtain ⟨b,B,c,d,f,_⟩:=u p Bp hp;obtain ⟨W,B',Z,h2',h3',_⟩:=u q Bq hq;rw [l p b c,l q W Z] at e;have:=L.inj b W B B' f h3' e;subst this;have X:=pO E c;rw [pO E Z] at X;cases X;rfl
  ·intro p Bp hp;obtain ⟨b,B,c,d,f,rfl⟩:=u p Bp hp;rw [l p b c];obtain ⟨⟨cur,e,vs,rest,k1,k2,k3,k4,k5,k6⟩,k7,k8⟩:=L.blk b B f;cases hp:B.pr with
   |true=>exact ⟨⟨cur,e,vs,rest,k1,k2,fun _=>by simpa [JO,hp] using k3 hp,by simpa [JO,hp] using bW _ (k3 hp),k5,k6⟩,k7,by simpa [JO,hp] using k8⟩
   | false=>
    have hv:=kP (oQ.refl S) O _ k4;exact ⟨⟨cur,e,vs,rest,k1,k2,fun h=>by simp [JO,hp] at h,by simpa [JO,hp] using hv,k5,k6⟩,k7,by
     have:(JO ρ B).cells.length=B.cells.length:=by simp only [JO,hp];rw [bV k4,bV hv]
     rw [this];exact k8⟩
  ·intro p Bp hp o v ho;obtain ⟨b,B,c,d,f,rfl⟩:=u p Bp hp;rw [l p b c] at ho;exact L.own b B f o v ho
 refine hmono _ _ _ (t mc S (oQ.refl S) hSc (kP (oQ.refl S) O _ hv)) ?_
 rintro e w' ⟨m',S',hF⟩
 obtain ⟨hsr,G,M⟩:=hF;generalize hbs:mY h'.length out=bs0 at hsr G hfr;have hown:rD bs0:=hbs ▸ BJ out h'.length;obtain ⟨bs,I⟩:∃ bs,bs=h'.drop a.length++bs0:=⟨_,rfl⟩
 have hbsl:bs.length=(h'.length - a.length)+bs0.length:=by rw [I,List.length_append,List.length_drop]
 rw [← hbsl] at hfr
 let ups:=(MV a h').map fun (b,B)=>(b,B_ ρ' (vers b) B)
 rw [show (h'.drop a.length).map (B_ ρ' 0)++bs0=bs.map (B_ ρ' 0) by rw [I,List.map_append,Yy hown]]
 let gN:dG:=dP g (ER nid (bs.map (B_ ρ' 0))++ups)
 let mN:aZ:=fun b=>if nid≤b∧b - nid<bs.length then m' (a.length+(b - nid)) else match qi a b with|some p=>m' p|none=>m b
 have D:∀ b,gN b=if nid≤b∧b - nid<bs.length then (bs[b - nid]?).map (B_ ρ' 0) else match (qi a b).bind fun p=>(h'[p]?).map (B_ ρ' (vers b)) with|some B=>some B|none=>g b:=by
  intro b;show dP g _ b=_;unfold dP;rw [iH,zU,K_ (mk:=fun b B=>B_ ρ' (vers b) B)];by_cases c:nid≤b
  ·by_cases d:b - nid<bs.length
   ·have t:nid≤b∧b - nid<bs.length:=⟨c,d⟩
    rw [if_pos c,if_pos t,Xq3,ξ d];rfl
   ·have t:¬ (nid≤b∧b - nid<bs.length):=fun h=>d h.2
    rw [if_pos c,if_neg t,Xq3,Xq4 (Xv0 d)];rfl
  ·have t:¬ (nid≤b∧b - nid<bs.length):=fun h=>c h.1
   rw [if_neg c,if_neg t];rfl
 have hnidg:∀ b B,g b=some B→¬ (nid≤b∧b - nid<bs.length):=by
  rintro b B j ⟨c,d⟩
  have:=hfr (b - nid) d;rw [show nid+(b - nid)=b by omega,j] at this;cases this
 have hh':∀ p,p<a.length→∃ B,h'[p]? =some B:=fun p hp=> ⟨_,ξ (by omega)⟩
 have V:∀ p b,a[p]? =some b→∀ Bc,h'[p]? =some Bc→gN b=some (B_ ρ' (vers b) Bc)∧mN b=m' p:=by
  intro p b hp Bc K;obtain ⟨B,c,d,f⟩:=s p b hp;have hn:=hnidg b B d;refine ⟨by rw [D,if_neg hn,pO E hp];simp [K], ?_⟩;show (if _ then _ else _)=_;rw [if_neg hn,pO E hp]
 have T:∀ i B,bs[i]? =some B→gN (nid+i)=some (B_ ρ' 0 B)∧mN (nid+i)=m' (a.length+i):=by
  intro i B A;have hl:=(List.getElem?_eq_some_iff.1 A).1;have t:nid≤nid+i∧nid+i - nid<bs.length:=by omega
  refine ⟨by rw [D,if_pos t,show nid+i - nid=i by omega,A];rfl, ?_⟩;show (if _ then _ else _)=_;rw [if_pos t,show nid+i - nid=i by omega]
 have U:∀ p,a.length≤p→bH (h'++bs0) p=bs[p - a.length]? :=by
  intro p hp;have he:h'++bs0=h'.take a.length++bs:=by rw [I,← Xqd,List.take_append_drop]
  have y:(h'.take a.length).length=a.length:=by rw [List.length_take];omega
  rw [he,jg (by omega),y];rfl
 have r:∀ p Bc,bH (h'++bs0) p=some Bc→(p<a.length∧h'[p]? =some Bc)∨(a.length≤p∧bs[p - a.length]? =some Bc):=by
  intro p Bc h;by_cases hp:p<a.length
  ·rw [fD (by omega)] at h;exact .inl ⟨hp,h⟩
  ·rw [U p (by omega)] at h;exact .inr ⟨by omega,h⟩
 have hren':sO (bH (h'++bs0)) m' gN mN ρ':=by
  intro p ver W F h Bc K J;rw [hρe'] at h;unfold Pn at h;split at h
  ·rename_i b hp;cases h;rcases r p Bc K with ⟨c,d⟩|⟨c,_⟩
   ·obtain ⟨f,z⟩:=V p _ hp Bc d;exact ⟨_,f,by simp only [B_];omega,fun e=> ⟨by simp only [B_] at e;omega,z,rfl⟩⟩
   ·have:=(List.getElem?_eq_some_iff.1 hp).1;omega
  ·rename_i hp;split at h
   ·cases h;have hge:=List.getElem?_eq_none_iff.1 hp;rcases r p Bc K with ⟨c,_⟩|⟨c,d⟩
    ·omega
    ·obtain ⟨f,z⟩:=T _ Bc d;exact ⟨_,f,by simp only [B_];omega,fun e=> ⟨by simp only [B_] at e;omega,by rw [z,show a.length+(p - a.length)=p by omega],rfl⟩⟩
   ·cases h
 have hge:Ge g m gN mN:=by
  intro b B j;have hn:=hnidg b B j;cases A:qi a b with
  | none=>
   have hm:mN b=m b:=by
    show (if _ then _ else _)=_;rw [if_neg hn,A]
   refine ⟨B, ?_,rfl,.inl ⟨rfl,hm⟩⟩;rw [D,if_neg hn,A];exact j
  | some p=>
   have hp:=qR A;obtain ⟨B1,c,d,f⟩:=s p b hp;rw [d] at j;cases j;obtain ⟨Bc,z,h5,Q⟩:=G.ge p _ f;rcases r p Bc z with ⟨_,Y⟩|⟨Y,_⟩
   ·obtain ⟨h8,h9⟩:=V p b hp Bc Y;refine ⟨_,h8,h5, ?_⟩;rcases Q with ⟨Q,h6'⟩|Q
    ·left;refine ⟨?_,by rw [h9,h6',l p b hp]⟩;simp only [B_,JO] at Q ⊢;rw [hvers b _ c];omega
    ·right;simp only [B_,JO] at Q ⊢;rw [hvers b _ c];omega
   ·have:=(List.getElem?_eq_some_iff.1 hp).1;omega
 let ι:Nat→Nat:=fun p=>if p<a.length then a.getD p 0 else nid+(p - a.length)
 have hι:∀ p b,a[p]? =some b→ι p=b:=by
  intro p b hp;show (if _ then _ else _)=_;rw [if_pos (List.getElem?_eq_some_iff.1 hp).1,ο,hp];rfl
 have hι':∀ i,ι (a.length+i)=nid+i:=by
  intro i;show (if _ then _ else _)=_;rw [if_neg (by omega)];congr 1;omega
 obtain ⟨hsN,hfN⟩:=acl (g:=g) (m:=m) (S:=S) (w:=w) L hsr G ι
  (by
   intro p Bc hp;obtain ⟨b,B,c,d,f,rfl⟩:=u p Bc hp;rw [hι p b c];exact ⟨B,f,l p b c⟩) (oQ.refl S) (fun k o v h=> .inl h) (gN:=gN) (mN:=mN) ρ' hren'
  (by
   intro p Bc hp;rcases r p Bc hp with ⟨c,d⟩|⟨c,d⟩
   ·have hp:=ξ c;obtain ⟨f,z⟩:=V p _ hp Bc d;rw [hι p _ hp];exact ⟨_,f,z,rfl,rfl,rfl,rfl,fun h=>by simp [B_,h],fun h=>by simp [B_,h]⟩
   ·obtain ⟨i,rfl⟩:∃ i,p=a.length+i:=⟨p - a.length,by omega⟩
    rw [show a.length+i - a.length=i by omega] at d;obtain ⟨f,z⟩:=T i Bc d;rw [hι' i];exact ⟨_,f,z,rfl,rfl,rfl,rfl,fun h=>by simp [B_,h],fun h=>by simp [B_,h]⟩)
  (by
   intro b B j;by_cases t:nid≤b∧b - nid<bs.length
   ·rw [D,if_pos t,Xqp] at j;obtain ⟨Bc,j,_⟩:=j;refine .inl ⟨a.length+(b - nid),Bc, ?_,by rw [hι'];omega⟩;rw [U _ (by omega),show a.length+(b - nid) - a.length=b - nid by omega];exact j
   ·rw [D,if_neg t] at j;cases A:qi a b with
    |some p=>
     have hp:=qR A;have y:=(List.getElem?_eq_some_iff.1 hp).1;obtain ⟨Bc,z⟩:=hh' p y;exact .inl ⟨p,Bc,by rw [fD (by omega)];exact z,(hι p b hp).symm⟩
    | none=>
     have hm:mN b=m b:=by
      show (if _ then _ else _)=_;rw [if_neg t,A]
     rw [A] at j;have j:g b=some B:=j;refine .inr ⟨B,j,hm,rfl,rfl,rfl,(L.blk b B j).fz0,(L.blk b B j).fzle, ?_,fun o v ho=>L.own b B j o v ho⟩;intro p Bc hp e;obtain ⟨b1,B1,c,_⟩:=u p Bc hp;rw [hι p b1 c] at e;subst e;rw [pO E c] at A;cases A)
  hge
 refine ⟨mN,S',hsN,hfN, ?_⟩;show acS gN mN S' (Jj (nid+(h'.length - a.length)) (ren ρ') out) e;have hrenh:sO (bH h') m' gN mN ρ':=by
  intro p ver W F h Bc K J;refine hren' p ver W F h Bc ?_ J;rw [fD (List.getElem?_eq_some_iff.1 K).1];exact K
 cases out with
 |ret v=>
  obtain ⟨cv,X,c⟩:=M;refine ⟨cv,X, ?_⟩;have hbs':(lM h'.length v).2=bs0:=hbs;rw [hbs'] at c;refine Fg (n:=h'.length) (Ha ρ') (fun x v hx=>zt (oQ.refl S') hrenh x hx) ?_ c;intro i k v hx;simp only [VR] at hx ⊢;obtain ⟨B,d,f,z,h5⟩:=hx;rw [U _ (Xq1 hl (Nat.le_add_right _ _))] at d;obtain ⟨Q,Y⟩:=T _ B d;rw [ar1 hl] at Q Y;rw [ar2 hl] at Y;exact ⟨_,Q,Xxk _,z,fun e=>by rw [Y];exact h5 (by simpa [B_] using e)⟩
 |pan v=>
  obtain ⟨cv,X,c⟩:=M;exact ⟨cv,X,zt (oQ.refl S') hrenh _ c⟩
end
end AM
namespace AM
open Go
section
variable {P:Program} {ap:AP} {H:di}
theorem xY {o:dG} {nid f:Nat} {args:List AV} {md:AV} {c A:Cx} {r:Un} (h:tV ap H o nid md f args c= .ok r A):
  ∃ args0 h0 out0 h0',H c md f args0 h0= .ok (out0,h0',r.md) A∧((∃ v,out0= .ret v)↔∃ v,r.out= .ret v)∧
  ∀ g m S w cargs (C:List Value→(Ending→World→Prop)→Prop),(∀ cargs R R',C cargs R→(∀ e w',R e w'→R' e w')→C cargs R')→bU ap g m S w→(∀ b ∈ r.fp,∀ B,o b=some B→g b=some B)→(∀ i,i<4→g (nid+i)=none)→bi g m S args cargs→
   (∀ m1 S1,oQ S S1→bU ap (bH h0) m1 S1 w→bi (bH h0) m1 S1 args0 cargs→C cargs fun e w'=> ∃ m' S',F8 ap h0 m1 S1 w out0 h0' m' S' w' e)→
   C cargs fun e w'=>Yd ap g m S w r.out r.ups e w':=by
 unfold tV at h;simp only at h;generalize G:tq o 6 (jk (bQ args))=fp at h
 let rd:dG:=fun b=>match rQ fp b with|true=>o b|false=>none
 have a:∀ b B,rd b=some B→b ∈ fp∧o b=some B:=by
  intro b B d;dsimp only [rd] at d;split at d
  ·rename_i E;exact ⟨jK.1 E,d⟩
  ·cases d
 split at h
 ·split at h
  ·cases h
  ·rename_i args' D;obtain ⟨⟨out,u,md⟩,F,x,h⟩:=R.bind_ok h;dsimp only at h;split at h
   ·cases h
   ·split at h
    ·rename_i v;split at h
     ·rename_i n;cases h;refine ⟨_,_,_,_,x,⟨fun _=> ⟨_,rfl⟩,fun _=> ⟨_,rfl⟩⟩, ?_⟩;intro g m S w cargs C hmono q k l t s;have j:mY 0 (kJ.ret v)=(lM nid v).2:=BK KP v 0 nid;have:=A_ q (rd:=rd) (fun b B d=>k b (a b B d).1 B (a b B d).2) (fun b B d=>(a b B d).1) (nid:=nid) D t hmono s (fun i p=>l i (by rw [j] at p;have:=gp n;omega));rw [j] at this;exact this
     ·cases h
    ·rename_i v;cases h;refine ⟨_,_,_,_,x,⟨(fun ⟨_,h⟩=>by cases h),(fun ⟨_,h⟩=>by cases h)⟩, ?_⟩;intro g m S w cargs C hmono q k l t s;exact A_ q (rd:=rd) (fun b B d=>k b (a b B d).1 B (a b B d).2) (fun b B d=>(a b B d).1) (nid:=nid) D t hmono s (fun i p=>by simp [mY] at p)
 ·split at h
  ·cases h
  ·rename_i I y;obtain ⟨⟨out,u,md⟩,F,x,h⟩:=R.bind_ok h;dsimp only at h;split at h
   ·cases h
   ·rename_i hcond;simp only [π] at hcond;have z:=gp hcond.1
    let vers:Nat→Nat:=fun b=>match rd b with|some B=>B.ver|none=>0
    have hvers':∀ b B,rd b=some B→vers b=B.ver:=by
     intro b B d;simp only [vers,d]
    let ρ':Nat→Nat→Option (Nat × Nat):=Pn nid fp vers u.length
    split at h
    ·rename_i v;split at h
     ·rename_i n;cases h;refine ⟨_,_,_,_,x,⟨fun _=> ⟨_,rfl⟩,fun _=> ⟨_,rfl⟩⟩, ?_⟩;intro g m S w cargs C hmono q k l t s;have j:mY u.length (kJ.ret v)=(lM (nid+(u.length - fp.length)) (ren ρ' v)).2:=(BK (Ha ρ') v (nid+(u.length - fp.length)) u.length).symm;have:=Ba q (rd:=rd) (fun b B d=>k b (a b B d).1 B (a b B d).2) y hcond.2 (nid:=nid) hvers' (ρ':=ρ') (fun b v=>rfl) rfl t hmono s z (fun i p=>l i (by rw [j] at p;exact Xqa p (gp n)));rw [j] at this;exact this
     ·cases h
    ·rename_i v;split at h
     ·rename_i n;cases h;refine ⟨_,_,_,_,x,⟨(fun ⟨_,h⟩=>by cases h),(fun ⟨_,h⟩=>by cases h)⟩, ?_⟩;intro g m S w cargs C hmono q k l t s;exact Ba q (rd:=rd) (fun b B d=>k b (a b B d).1 B (a b B d).2) y hcond.2 (nid:=nid) hvers' (ρ':=ρ') (fun b v=>rfl) rfl t hmono s z (fun i p=>l i (by simp only [mY,Xqb,Xq0] at p;exact Xqa p (gp n)))
     ·cases h
theorem DC (s:mW P ap H) {a:dG} {nid f:Nat} {args:List AV} {c p:Cx} {r:Un} (h:tV ap H a nid .dead f args c= .ok r p) (x:p.Ok):
  c.Ok∧Dj P f∧∀ g m S w cargs,bU ap g m S w→(∀ b ∈ r.fp,∀ B,a b=some B→g b=some B)→(∀ i,i<4→g (nid+i)=none)→bi g m S args cargs→
   Calls P f cargs.toArray w fun e w'=>Yd ap g m S w r.out r.ups e w':=by
 obtain ⟨args0,C,o,t,z,_,v⟩:=xY h;obtain ⟨k,q⟩:=s _ _ _ _ _ _ _ _ z x;refine ⟨k,q.ent,fun g m S w cargs u d j y=> ?_⟩;exact v g m S w cargs (fun cargs R=>Calls P f cargs.toArray w R) (fun _ _ _ l n=>l.mono n) u d j y fun A S1 _ l n=>q.calls A S1 w cargs l n
end
end AM
namespace AM
open Go
def tC (dec:List (Nat × Bool)) (env:ja):Prop:=∀ t b,aA dec t=some b→env.get t= .bool b
def h_ (g:dG) (m:aZ) (S:aT):List (Nat × List AV)→List Deferred→Prop
 | [],[]=>True
 |d::r,cd::cr=>(∃ cap,cd.target= .fn (.func d.1) cap∧bi g m S d.2 (cd.args++cap).toList)∧h_ g m S r cr
 |_,_=>False
theorem uP {g g':dG} {m e:aZ} {S S':aT} (c:oQ S S') (b:Ge g m g' e):∀ {l:List (Nat × List AV)} {ds:List Deferred},h_ g m S l ds→h_ g' e S' l ds
 | [],[],_=>by simp only [h_]
 |d::r,cd::cr,h=>by
  simp only [h_] at h ⊢;obtain ⟨⟨a,f,j⟩,i⟩:=h;exact ⟨⟨a,f,mg c b _ j⟩,uP c b i⟩
 | [],_::_,h=>by simp [h_] at h
 |_::_,[],h=>by simp [h_] at h
theorem AY {g:dG} {m:aZ} {S:aT}:∀ {l l':List (Nat × List AV)} {ds ds':List Deferred},h_ g m S l ds→h_ g m S l' ds'→h_ g m S (l++l') (ds++ds')
 | [],_,[],_,_,h'=>by simpa using h'
 |d::r,_,cd::cr,_,h,h'=>by
  simp only [h_] at h;simp only [List.cons_append,h_];exact ⟨h.1,AY h.2 h'⟩
 | [],_,_::_,_,h,_=>by simp [h_] at h
 |_::_,_,[],_,h,_=>by simp [h_] at h
def wpO (P:Program) (ops:Array Oper) (Q:Exit→Act→World→Prop) (o:Oper) (K:Act→World→Prop) (a:Act) (w:World):Prop:=
 if Region.wanted o (yielded ops a.tmps) then o.wp P a w K Q∨(o.asks P a w∧LetsOut Q) else K (a.put o.dst undef) w
def ab4 (ap:AP) (o:Oper) (g:dG) (m:aZ) (S:aT) (w:World) (a:Act) (v:AV) (ups:List (Nat × bg)) (df:List (Nat × List AV)) (Q:Exit→Act→World→Prop) (K:Act→World→Prop):Option AV→Prop
 |none=> ∀ cv m' S' w' ds,bU ap (dP g ups) m' S' w'→Fr g m S w (dP g ups) m' S' w'→VR (dP g ups) m' S' v cv→h_ (dP g ups) m' S' df ds→K ({a with defers:=ds++a.defers}.put o.dst cv) w'
 |some pv=> ∀ cv m' S' w',bU ap (dP g ups) m' S' w'→Fr g m S w (dP g ups) m' S' w'→VR (dP g ups) m' S' pv cv→Q (.panic [{v:=cv,recovered:=false}]) a w'
def Pi (P:Program) (ap:AP) (ops:Array Oper) (o:Oper) (nid:Nat) (env:ja) (hp:Hp) (rt rb:List Nat) (v:AV) (ups:List (Nat × bg)) (df:List (Nat × List AV)) (p:Option AV):Prop:=
 ∀ g m S w (a:Act),bU ap g m S w→(∀ t ∈ rt,VR g m S (env.get t) (a.tmps.getD t undef))→(∀ b ∈ rb,∀ B,aA hp b=some B→g b=some B)→(∀ i,i<4→g (nid+i)=none)→
  ∀ (Q:Exit→Act→World→Prop) (K:Act→World→Prop),ab4 ap o g m S w a v ups df Q K p→wpO P ops Q o K a w
structure agC (P:Program) (ap:AP) (ops:Array Oper) (o:Oper) (nid:Nat) (s s':RS) (p:Option AV) (v:AV) (rt rb:List Nat) (ups:List (Nat × bg)) (df:List (Nat × List AV)):Prop where
 env:p=none→s'.env=qm s.env o.dst v
 envp:p ≠ none→s'.env=s.env∧df= []
 hp:s'.hp=ups++s.hp
 md:s'.md=s.md
 dfs:s'.dfs=df++s.dfs
 dec:p=none→tC s'.dec s'.env
 feet:p=none→s'.feet={rt,wt:=IA o,rb,wb:=ups.map (·.1)}::s.feet
 sem:Pi P ap ops o nid s.env s.hp rt rb v ups df p
section
variable {P:Program} {ap:AP} {H:di}
theorem VK (e:Array Value) (t:Nat) {v:Value} (h:e.getD t undef=v) (b:v ≠ undef):e[t]? =some v:=by
 rw [Array.getD_eq_getD_getElem?] at h;cases a:e[t]? with
 |none=>rw [a] at h;exact absurd h.symm b
 |some u=>rw [a] at h;simpa using h
theorem FZ {ops:Array Oper} {tmps:Array Value} {j s:Nat} (hs:(ops[j]?).bind (·.dst)=some s) {b:Bool} (h:tmps.getD s undef= .bool b):yielded ops tmps j=some b:=by
 unfold yielded;rw [hs];simp only [Xw2];rw [VK tmps s h (by simp [undef])]
theorem JJ {ops:Array Oper} {tmps:Array Value} {j s:Nat} (hs:(ops[j]?).bind (·.dst)=some s) (h:tmps.getD s undef= .tuple #[]):yielded ops tmps j=none:=by
 unfold yielded;rw [hs];simp only [Xw2];rw [Array.getD_eq_getD_getElem?] at h;cases a:tmps[s]? with
 |none=>rfl
 |some u=>
  rw [a] at h;simp at h;rw [h]
theorem w_ {g:dG} {m:aZ} {S:aT} {w:World} (e:bU ap g m S w) {env:ja} {a:Act} (x:Operand) (h:∀ t,x= .tmp t→VR g m S (env.get t) (a.tmps.getD t undef)):VR g m S (qM ap env x) (a.eval x):=by
 cases x with
 |tmp t=>exact h t rfl
 |const v=>exact iD _ (JS S v)
 | global k=>
  simp only [qM,Act.eval];cases b:(ap.gl[k]?).join with
  |none=>simp only [VR]
  |some xs=>
   obtain ⟨vs,c,d⟩:=e.glob k xs b;simp only [VR,PR];exact ⟨k,0,vs,rfl,c,d⟩
 |func f=>
  simp only [qM,Act.eval,VR];exact ⟨[],[],rfl,by simp [bi],by simp [bi]⟩
theorem EK {l:List Operand} {t:Nat} (h:Operand.tmp t ∈ l):t ∈ uM l:=by
 simp only [uM,List.mem_filterMap];exact ⟨_,h,rfl⟩
theorem IP {ops:List Oper} {env:ja} {dec e:List (Nat × Bool)} {o:Oper} {c B:Cx} {run:Bool} (h:N8 ops env dec o c= .ok (run,e) B) (p:B.Ok):
  c.Ok∧(tC dec env→tC e env∧(∀ t b,aA dec t=some b→aA e t=some b)∧∀ g m S (a:Act),(∀ t ∈ jv ops o,VR g m S (env.get t) (a.tmps.getD t undef))→Region.wanted o (yielded ops.toArray a.tmps)=run):=by
 unfold N8 at h;unfold jv;unfold Region.wanted;split at h
 ·rename_i q;cases h;simp only [q];exact ⟨p,fun hd=> ⟨hd,fun _ _ h=>h,fun _ _ _ _ _=>trivial⟩⟩
 ·rename_i j f q;simp only [q];split at h
  ·cases h
  ·rename_i s hs;have k:(ops.toArray[j]?).bind (·.dst)=some s:=by simpa using hs
   split at h
   ·rename_i b l;cases h;refine ⟨p,fun hd=> ⟨hd,fun _ _ h=>h,fun g m S a n=> ?_⟩⟩;have d:=n s (by simp);rw [hd s b l] at d;simp only [VR,PR] at d;rw [FZ k d];cases f<;>cases b<;>rfl
   ·rename_i A;split at h
    ·rename_i b l;obtain ⟨C,D,d,u⟩:=R.bind_ok h;cases u;obtain ⟨z,rfl⟩:=lI d p;refine ⟨z,fun hd=> ⟨?_, ?_,fun g m S a n=> ?_⟩⟩
     ·intro t x i;simp only [aA] at i;split at i
      ·rename_i y;cases i;rw [← aJ y,l]
      ·exact hd t x i
     ·intro t x i;simp only [aA];split
      ·rename_i y;rw [aJ y] at A;rw [A] at i;cases i
      ·exact i
     ·have d:=n s (by simp);rw [l] at d;simp only [VR,PR] at d;rw [FZ k d];cases f<;>cases C<;>rfl
    ·rename_i l;cases h;refine ⟨p,fun hd=> ⟨hd,fun _ _ h=>h,fun g m S a n=> ?_⟩⟩;have d:=n s (by simp);rw [l] at d;simp only [VR] at d;obtain ⟨vs,d,u⟩:=d;cases vs with
     |nil=>rw [JJ k d];rfl
     |cons v r=>simp [bi] at u
    ·cases h
theorem KJ {env:ja} {o:Oper} {v:AV} {t:Nat} (h:∀ d,o.dst=some d→d ≠ t):(qm env o.dst v).get t=env.get t:=by
 unfold qm;split
 ·rename_i d hd;simp only [ja.get,aA];split
  ·rename_i a;exact absurd (aJ a) (h d hd)
  ·rfl
 ·rfl
theorem yf {dec:List (Nat × Bool)} {env:ja} {o:Oper} {v:AV} (hd:tC dec env) (a:Va dec o=true):tC dec (qm env o.dst v):=by
 intro t b c;rw [KJ]
 ·exact hd t b c
 ·rintro d hdd rfl
  unfold Va at a;rw [hdd] at a;simp [c] at a
end
end AM
namespace AM
open Go
section
variable {P:Program} {ap:AP} {H:di}
theorem VQ {c:Cx} {dst:Option Nat} {v:AV} (h:(Eh c dst v).2.Ok):c.Ok∧aS v (Eh c dst v).1:=by
 obtain ⟨cl,orc,bs,ps,ans,hs⟩:=c;unfold Eh at h ⊢;dsimp only at h ⊢;split at h
 ·rename_i d x r f;split at h
  ·rename_i a;have e:aS v x:=h.ps _ (Xjp ..);refine ⟨⟨h.bs,fun p hp=>h.ps p (Xx3 _ hp)⟩, ?_⟩;simp only [a];exact e
  ·rename_i a;refine ⟨h, ?_⟩;simp only [a];exact fun _ _ _ _ b=>b
 ·rename_i i;exact ⟨h,fun _ _ _ _ b=>b⟩
theorem VP {c:Cx} {dst:Option Nat} (h:(PX c dst).2.Ok):c.Ok:=by
 obtain ⟨cl,orc,bs,ps,ans,hs⟩:=c;unfold PX at h;dsimp only at h;split at h
 ·split at h
  ·exact ⟨h.bs,h.ps⟩
  ·exact h
 ·exact h
theorem VO {c:Cx} {dst:Option Nat} {ups:List (Nat × bg)} (h:(Eg c dst ups).2.Ok):c.Ok∧(Eg c dst ups).1=ups:=by
 obtain ⟨cl,orc,bs,ps,ans,hs⟩:=c;unfold Eg at h ⊢;dsimp only at h ⊢;split at h
 ·rename_i d f r i b B;split at h
  ·rename_i a;have e:B.cells=f:=h.ps _ (Xjp ..);refine ⟨⟨h.bs,fun p hp=>h.ps p (Xx3 _ hp)⟩, ?_⟩;simp only [a,← e]
  ·rename_i a;refine ⟨h, ?_⟩;simp only [a]
 ·rename_i j;exact ⟨h,rfl⟩
theorem BN {a:Act} {g:Operand} {args:Array Operand} {argTypes:Array TypeId} {ty:TypeId} {f:Nat} {first b:Array Value} (h:a.eval g= .func (.func f) first b) (w:World):
  (resolve a.eval {callee:= .value g,args,argTypes} ty).run P w= .ok {target:= .fn (.func f) b,args:=first++args.map a.eval} w:=by
 simp only [resolve,h,Deferred.ofValue];rfl
theorem Gq {a:Act} {g:Operand} {args:Array Operand} {argTypes:Array TypeId} {ty:TypeId} {f:Nat} {first b:Array Value} (h:a.eval g= .func (.func f) first b) (c:Dj P f) (w:World):
  (do let d ← resolve a.eval {callee:= .value g,args,argTypes} ty;invoke d.target d.args:Sem Next).run P w= .ok (.enter f ((first++args.map a.eval)++b)) w:=by
 rw [Sem.run_bind,BN h,Result.andThen_ok];exact c _ _
theorem JW {g:dG} {m:aZ} {S:aT} {ρ:Operand→AV} {cρ:Operand→Value} {args:Array Operand} (h:∀ o ∈ args,VR g m S (ρ o) (cρ o)):bi g m S (args.toList.map ρ) (args.map cρ).toList:=by
 rw [Array.toList_map];exact uS _ fun o a=>h o (by simpa using a)
theorem Hq:∀ {l:Hp} {b:Nat} {B:bg},aA l b=some B→(b,B) ∈ l
 | [],_,_,h=>by cases h
 | (k,X)::r,b,B,h=>by
  simp only [aA] at h;split at h
  ·rename_i a;cases h;have:=aJ a;subst this;exact Xjp ..
  ·exact Xx3 _ (Hq h)
theorem EH {α β:Type} {f g:α→β}:∀ {l:List α},l.map f=l.map g→∀ {x:α},x ∈ l→f x=g x
 | [],_,_,h=>by cases h
 |a::r,h,x,hx=>by
  simp only [Xqh,List.cons.injEq] at h;rcases List.mem_cons.1 hx with rfl|hx
  ·exact h.1
  ·exact EH h.2 hx
theorem xB (hap:iY P ap) (hH:mW P ap H) {nid:Nat} {ops:List Oper} {o:Oper} {s s':RS} {p:Option AV} {c c':Cx} (h:QT ap H nid ops o s c= .ok (s',p) c') (T:c'.Ok):
  c.Ok∧(s.md= .dead→tC s.dec s.env→∃ v rb ups df,agC P ap ops.toArray o nid s s' p v (uM o.op.operands.toList++jv ops o) rb ups df):=by
 unfold QT at h;obtain ⟨⟨run,dec⟩,c1,e1,h⟩:=R.bind_ok h;dsimp only at h;split at h
 ·cases h
 rename_i F;have hguard:∀ c1ok:c1.Ok,c.Ok∧(tC s.dec s.env→tC dec s.env∧(∀ t b,aA s.dec t=some b→aA dec t=some b)∧∀ g m S (a:Act),(∀ t ∈ jv ops o,VR g m S (s.env.get t) (a.tmps.getD t undef))→Region.wanted o (yielded ops.toArray a.tmps)=run):=fun hk=>IP e1 hk
 have M:∀ {g:dG} {m:aZ} {S:aT} {w:World} {a:Act},bU ap g m S w→(∀ t ∈ uM o.op.operands.toList++jv ops o,VR g m S (s.env.get t) (a.tmps.getD t undef))→∀ x ∈ o.op.operands,VR g m S (qM ap s.env x) (a.eval x):=by
  intro g m S w a j i x X;refine w_ j x fun t ht=>i t ?_
  subst ht;exact List.mem_append.2 (.inl (EK (by simpa using X)))
 split at h
 ·
  cases h;obtain ⟨C,W⟩:=hguard T;refine ⟨C,fun O d=> ?_⟩;obtain ⟨hd,_,hw⟩:=W d;refine ⟨.tup [],[],[],[],⟨fun _=>rfl,fun h=>absurd rfl h,rfl,rfl,rfl,fun _=>yf hd F,fun _=>rfl, ?_⟩⟩;intro g m S w a j i _ _ Q K L;unfold wpO;rw [hw g m S a fun t ht=>i t (List.mem_append.2 (.inr ht))];simp only [Bool.false_eq_true,if_false];have:=L undef m S w [] (by rw [fJ];exact j) (by rw [fJ];exact Fr.refl _ _ _ _) (by simp only [VR];exact ⟨[],rfl,by simp [bi]⟩) (by simp [h_]);exact this
 ·
  have hwant:∀ (Q:Exit→Act→World→Prop) (K:Act→World→Prop) (g:dG) (m:aZ) (S:aT) (a:Act) (w:World),c1.Ok→tC s.dec s.env→(∀ t ∈ uM o.op.operands.toList++jv ops o,VR g m S (s.env.get t) (a.tmps.getD t undef))→o.wp P a w K Q→wpO P ops.toArray Q o K a w:=by
   intro Q K g m S a w hk d i hh;obtain ⟨_,_,hw⟩:=(hguard hk).2 d;unfold wpO;rw [hw g m S a fun t ht=>i t (List.mem_append.2 (.inr ht))];simp only [if_true];exact .inl hh
  split at h
  ·
   rename_i gf args argTypes l;split at h
   ·rename_i f first cap hf
    obtain ⟨r,c2,e2,h⟩:=R.bind_ok h;have Y:c2.Ok:=by
     revert h
     cases hu:PX c2 o.dst with
     | mk u Z=>
      have D:Z.Ok→c2.Ok:=fun hk=>VP (by rw [hu];exact hk)
      cases u with
      | true=>
       dsimp only;cases r.out with
       |ret v=>
        dsimp only;split
        ·intro h;cases h;exact D ⟨T.bs,fun p hp=>T.ps p (Xx3 _ hp)⟩
        ·intro h;cases h
       |pan v=>intro h;cases h
      |false=>dsimp only;cases r.out<;>intro h<;>cases h<;>exact D T
    obtain ⟨I,hE,hcall⟩:=DC hH e2 Y;obtain ⟨C,W⟩:=hguard I;refine ⟨C,fun O d=> ?_⟩;obtain ⟨hd,_,_⟩:=W d;have hargs:∀ {g:dG} {m:aZ} {S:aT} {w:World} {a:Act},bU ap g m S w→(∀ t ∈ uM o.op.operands.toList++jv ops o,VR g m S (s.env.get t) (a.tmps.getD t undef))→
      ∃ vf J:List Value,a.eval gf= .func (.func f) vf.toArray J.toArray∧bi g m S (first++args.toList.map (qM ap s.env)++cap) ((vf++(args.map a.eval).toList)++J):=by
     intro g m S w a j i;have y:=M j i;rw [l] at y;have A:=y gf (by simp [Op.operands,Call.operands]);rw [hf] at A;simp only [VR] at A;obtain ⟨vf,J,D,N,G⟩:=A;exact ⟨vf,J,D,ig (ig N (JW fun x X=>y x (by simp [Op.operands,Call.operands,X]))) G⟩
    have U:∀ {a:Act} {vf J:List Value} (w:World),a.eval gf= .func (.func f) vf.toArray J.toArray→(execOp a.eval o).run P w= .ok (.enter f (((vf++(args.map a.eval).toList)++J).toArray)) w:=by
     intro a vf J w he;have:=Gq (args:=args) (argTypes:=argTypes) (ty:=o.type) he hE w;unfold execOp;rw [l];dsimp only;rw [this];congr 2;apply Array.toList_inj.1;simp
    split at h
    ·rename_i Z hu;split at h
     ·rename_i v E;split at h
      ·rename_i hall;cases h;have heq:r.ups.map (fun (q:Nat × bg)=>some q.2)=r.ups.map (fun (q:Nat × bg)=>aA s.hp q.1):=T.ps _ (Xjp ..);refine ⟨v,r.fp,[],[],⟨fun _=>rfl,fun h=>absurd rfl h,rfl,rfl,rfl,fun _=>yf hd F,fun _=>rfl, ?_⟩⟩;intro g m S w a j i k z Q K L;have hg':dP g r.ups=g:=by
        funext b;unfold dP;cases hl:aA r.ups b with
        |none=>rfl
        |some B=>
         have hm:=Hq hl;have y:=EH heq hm;exact (k b (jK.1 (List.all_eq_true.1 hall _ hm)) B y.symm).symm
       refine hwant Q K g m S a w I d i ?_;obtain ⟨vf,J,y,A⟩:=hargs j i;unfold Oper.wp;rw [U w y];refine (hcall g m S w _ j k z A).mono ?_
       rintro e w' ⟨m',S',D,N,G⟩
       rw [E] at G;obtain ⟨cv,rfl,h6⟩:=G;rw [hg'] at D N h6;exact L cv m' S' w' [] D N h6 (by simp [h_])
      ·cases h
     ·cases h
    ·rename_i Z hu;split at h
     ·rename_i v E;cases h;refine ⟨v,r.fp,r.ups,[],⟨fun _=>rfl,fun h=>absurd rfl h,rfl,rfl,rfl,fun _=>yf hd F,fun _=>rfl, ?_⟩⟩;intro g m S w a j i k z Q K L;refine hwant Q K g m S a w I d i ?_;obtain ⟨vf,J,y,A⟩:=hargs j i;unfold Oper.wp;rw [U w y];refine (hcall g m S w _ j k z A).mono ?_
      rintro e w' ⟨m',S',D,N,G⟩
      rw [E] at G;obtain ⟨cv,rfl,h6⟩:=G;exact L cv m' S' w' [] D N h6 (by simp [h_])
     ·rename_i v E;cases h;refine ⟨v,r.fp,r.ups,[],⟨fun h=>(by cases h),fun _=> ⟨rfl,rfl⟩,rfl,rfl,rfl,fun h=>(by cases h),fun h=>(by cases h), ?_⟩⟩;intro g m S w a j i k z Q K L;refine hwant Q K g m S a w I d i ?_;obtain ⟨vf,J,y,A⟩:=hargs j i;unfold Oper.wp;rw [U w y];refine (hcall g m S w _ j k z A).mono ?_
      rintro e w' ⟨m',S',D,N,G⟩
      rw [E] at G;obtain ⟨cv,rfl,h6⟩:=G;exact L cv m' S' w' D N h6
   ·cases h
  ·
   split at h
   ·cases h;exact ⟨(hguard T).1,fun O=>by simp_all⟩
   ·cases h;exact ⟨(hguard T).1,fun O=>by simp_all⟩
   ·cases h
  ·
   rename_i gf args argTypes l;split at h
   ·rename_i f first cap hf
    cases h;obtain ⟨C,W⟩:=hguard T;refine ⟨C,fun O d=> ?_⟩;obtain ⟨hd,_,_⟩:=W d;refine ⟨.dead,[],[],[(f,first++args.toList.map (qM ap s.env)++cap)],⟨fun _=>rfl,fun h=>absurd rfl h,rfl,rfl,rfl,fun _=>yf hd F,fun _=>rfl, ?_⟩⟩;intro g m S w a j i k z Q K L;refine hwant Q K g m S a w T d i ?_;have y:=M j i;rw [l] at y;have A:=y gf (by simp [Op.operands,Call.operands]);rw [hf] at A;simp only [VR] at A;obtain ⟨vf,J,D,N,G⟩:=A;unfold Oper.wp;have hr:(execOp a.eval o).run P w= .ok (.defer {target:= .fn (.func f) J.toArray,args:=vf.toArray++args.map a.eval}) w:=by
     unfold execOp;rw [l];dsimp only;rw [Sem.run_bind,BN D,Result.andThen_ok];rfl
    rw [hr];refine L undef m S w [{target:= .fn (.func f) J.toArray,args:=vf.toArray++args.map a.eval}] (by rw [fJ];exact j) (by rw [fJ];exact Fr.refl _ _ _ _) (by simp only [VR]) ?_;simp only [h_,fJ,and_true];refine ⟨J.toArray,rfl, ?_⟩;have:=ig (ig N (JW (args:=args) fun x X=>y x (by simp [Op.operands,Call.operands,X]))) G;simpa using this
   ·cases h
  ·
   rename_i x l;split at h
   ·rename_i t v X;cases h;obtain ⟨C,W⟩:=hguard T;refine ⟨C,fun O d=> ?_⟩;obtain ⟨hd,_,_⟩:=W d;refine ⟨.dead,[],[],[],⟨fun h=>(by cases h),fun _=> ⟨rfl,rfl⟩,rfl,rfl,rfl,fun h=>(by cases h),fun h=>(by cases h), ?_⟩⟩;intro g m S w a j i k z Q K L;refine hwant Q K g m S a w T d i ?_;have y:=M j i;rw [l] at y;have A:=y x (by simp [Op.operands]);rw [X] at A;have h2':=A;simp only [VR] at h2';obtain ⟨u,D,N⟩:=h2';unfold Oper.wp;have hr:(execOp a.eval o).run P w= .halt (.panic (a.eval x)) w:=by
     unfold execOp;rw [l];dsimp only;rw [D];rfl
    rw [hr];exact L _ m S w (by rw [fJ];exact j) (by rw [fJ];exact Fr.refl _ _ _ _) (by rw [fJ];exact A)
   ·cases h
  ·
   rename_i op n1 n2 n3 n4;obtain ⟨em,c2,e2,h⟩:=R.bind_ok h;split at h
   ·cases h
   ·rename_i v ups bs l;obtain ⟨_,Z,e3,h⟩:=R.bind_ok h;have hv1:(Eh Z o.dst v).2.Ok→Z.Ok∧aS v (Eh Z o.dst v).1:=VQ;generalize Eh Z o.dst v=q1 at h hv1;obtain ⟨v1,c4⟩:=q1;dsimp only at h hv1;have hv2:(Eg c4 o.dst ups).2.Ok→c4.Ok∧(Eg c4 o.dst ups).1=ups:=VO;generalize Eg c4 o.dst ups=q2 at h hv2;obtain ⟨ups1,c5⟩:=q2;dsimp only at h hv2;cases h;obtain ⟨hc4,hups⟩:=hv2 T;subst hups;obtain ⟨hc3,hfit⟩:=hv1 hc4;obtain ⟨Y,hbs⟩:=IC e3 hc3;have hem:c1.Ok∧∀ n,yw (qM ap s.env) o.op=some n→Xqq n 0=em:=by
     split at e2
     ·rename_i n hn;obtain ⟨hk,rfl⟩:=lI e2 Y;exact ⟨hk,fun n' V=>by rw [hn] at V;cases V;rfl⟩
     ·rename_i hn;cases e2;exact ⟨Y,fun n' V=>by rw [hn] at V;cases V⟩
    obtain ⟨I,hem⟩:=hem;obtain ⟨C,W⟩:=hguard I;refine ⟨C,fun O d=> ?_⟩;obtain ⟨hd,_,_⟩:=W d;refine ⟨v1,W_ (qM ap s.env) o.op,ups1,[],⟨fun _=>rfl,fun h=>absurd rfl h,rfl,rfl,rfl,fun _=>yf hd F,fun _=>rfl, ?_⟩⟩;intro g m S w a j i k z Q K L;refine hwant Q K g m S a w I d i ?_;have y:=M j i;have hok:=SY hap j (nid:=nid) (z 0 (by omega)) (ρ:=qM ap s.env) (cρ:=a.eval) (fun b B hb=>by
      split at hb
      ·rename_i hm;exact k b (jK.1 hm) B hb
      ·cases hb) o y (dec:=fun| .tmp t=>aA dec t|_=>none) (fun x X b hb=>by
      split at hb
      ·rename_i t;have:=i t (List.mem_append.2 (.inl (EK (by simpa using X))));rw [hd t b hb] at this;simp only [VR,PR] at this;exact this
      ·cases hb) hem l hbs
    obtain ⟨nx,m',w',A,D,N,G⟩:=hok;unfold Oper.wp;rw [A];rcases G with ⟨cv,rfl,G⟩|⟨rfl,rfl⟩
    ·exact L cv m' S w' [] D N (hfit _ _ _ _ G) (by simp [h_])
    ·exact L undef m' S w' [] D N (hfit _ _ _ _ (by simp only [VR])) (by simp [h_])
end
end AM
namespace AM
open Go
theorem vF:∀ {hp:Hp} {b:Nat} {B:bg},aA hp b=some B→b<kX hp
 | [],b,B,h=>by simp [aA] at h
 | (c,C)::r,b,B,h=>by
  simp only [aA] at h;simp only [kX];split at h
  ·rename_i d;have d:=aJ d;subst d;split
   ·rename_i a;exact gq a
   ·omega
  ·have e:=vF h;split
   ·exact e
   ·rename_i a;have:¬ c<kX r:=fun f=>by
     have:Xja c (kX r)=true:=by
      show Nat.ble (c+1) (kX r)=true;exact Xqt f
     rw [this] at a;cases a
    omega
theorem EE:∀ {l:Hp} {b:Nat} {B:bg},aA l b=some B→b ∈ l.map (·.1)
 | [],b,B,h=>by simp [aA] at h
 |(c,C)::r,b,B,h=>by
  simp only [aA] at h;split at h
  ·rename_i a;simp [aJ a]
  ·simp [EE h]
structure FR (ap:AP) (env:ja) (hp:Hp) (dfs:List (Nat × List AV)) (nt:Nat) (m:aZ) (S:aT) (w:World) (a:Act):Prop where
 srel:bU ap (aA hp) m S w
 env:∀ t,VR (aA hp) m S (env.get t) (a.tmps.getD t undef)
 dfs:h_ (aA hp) m S dfs a.defers
 size:a.tmps.size=nt
theorem LC (a:Act) (d:Option Nat) (v:Value):(a.put d v).tmps.size=a.tmps.size:=by
 cases d<;>simp [Act.put]
theorem EZ (a:Act) (d:Option Nat) (v:Value):(a.put d v).defers=a.defers:=by
 cases d<;>simp [Act.put]
theorem E8 (a:Act) (d:Option Nat) (v:Value) {t:Nat} (h:d ≠ some t):(a.put d v).tmps.getD t undef=a.tmps.getD t undef:=by
 cases d with
 |none=>rfl
 |some d=>
  have b:d ≠ t:=fun e=>h (by rw [e])
  simp only [Act.put,Array.getD_eq_getD_getElem?];rw [Array.getElem?_setIfInBounds_ne b]
theorem E5 (a:Act) (d:Nat) (v:Value) (h:d<a.tmps.size):(a.put (some d) v).tmps.getD d undef=v:=by
 simp only [Act.put,Array.getD_eq_getD_getElem?];rw [Array.getElem?_setIfInBounds_self_of_lt h];rfl
theorem mD {env:ja} {d:Nat} {v:AV}:(qm env (some d) v).get d=v:=by simp [qm,ja.get,aA]
theorem yB {env:ja} {dst:Option Nat} {v:AV} {t:Nat} (h:dst ≠ some t):(qm env dst v).get t=env.get t:=by
 cases dst with
 |none=>rfl
 | some d=>
  have a:Xqq d t=false:=by
   cases b:Xqq d t with
   |false=>rfl
   |true=>exact absurd (by rw [aJ b]) h
  simp [qm,ja.get,aA,a]
section
variable {P:Program} {ap:AP} {H:di}
theorem FR.put {env:ja} {hp ups:Hp} {dfs e:List (Nat × List AV)} {nt:Nat} {m b:aZ} {S S':aT} {w w':World} {a:Act} (h:FR ap env hp dfs nt m S w a) {dst:Option Nat} (hd:∀ d,dst=some d→d<nt) {v:AV} {cv:Value} {c:List Deferred}
  (h1:bU ap (dP (aA hp) ups) b S' w') (h2:Fr (aA hp) m S w (dP (aA hp) ups) b S' w') (h3:VR (dP (aA hp) ups) b S' v cv) (h4:h_ (dP (aA hp) ups) b S' e c):
  FR ap (qm env dst v) (ups++hp) (e++dfs) nt b S' w' ({a with defers:=c++a.defers}.put dst cv):=by
 rw [kF] at h1 h2 h3 h4;refine ⟨h1, ?_, ?_, ?_⟩
 ·intro t;by_cases ht:dst=some t
  ·subst ht;rw [mD,E5 _ _ _ (by have:=hd t rfl;have:=h.size;simpa [this] using hd t rfl)];exact h3
  ·rw [yB ht,E8 _ _ _ ht];exact o_ h2.sle h2.ge _ (h.env t)
 ·rw [EZ];exact AY h4 (uP h2.sle h2.ge h.dfs)
 ·rw [LC];exact h.size
theorem FR.still {env:ja} {hp ups:Hp} {dfs:List (Nat × List AV)} {nt:Nat} {m b:aZ} {S S':aT} {w w':World} {a:Act} (h:FR ap env hp dfs nt m S w a)
  (h1:bU ap (dP (aA hp) ups) b S' w') (h2:Fr (aA hp) m S w (dP (aA hp) ups) b S' w'):FR ap env (ups++hp) dfs nt b S' w' a:=by
 rw [kF] at h1 h2;exact ⟨h1,fun t=>o_ h2.sle h2.ge _ (h.env t),uP h2.sle h2.ge h.dfs,h.size⟩
def xN (ap:AP) (hp0:Hp) (m:aZ) (S:aT) (w:World) (nt:Nat) (env:ja) (hp:Hp) (dfs:List (Nat × List AV)) (Q:Exit→Act→World→Prop):Option AV→Prop
 |none=> ∀ m' S' w' a',Fr (aA hp0) m S w (aA hp) m' S' w'→FR ap env hp dfs nt m' S' w' a'→Q .normal a' w'
 |some v=> ∀ m' S' w' a' cv,Fr (aA hp0) m S w (aA hp) m' S' w'→FR ap env hp dfs nt m' S' w' a'→VR (aA hp) m' S' v cv→Q (.panic [{v:=cv,recovered:=false}]) a' w'
theorem sZ {ops:Array Oper} {Q:Exit→Act→World→Prop} {i:Nat} {o:Oper} (b:ops[i]? =some o) (rest:List Nat) (a:Act) (w:World):wpOps P ops Q (i::rest) a w↔wpO P ops Q o (wpOps P ops Q rest) a w:=by
 simp only [wpOps,b,wpO]
theorem Oc {hp ups:Hp} {nid:Nat} (d:∀ b B,aA hp b=some B→b<nid) (c:(ups.map (·.1)).all (fun x=>Xja x (nid+4))=true):∀ b B,aA (ups++hp) b=some B→b<nid+4:=by
 intro b B a;rw [iH] at a;split at a
 ·rename_i x e;have f:b ∈ ups.map (·.1):=EE e;exact gq (List.all_eq_true.1 c b f)
 ·have:=d b B a;omega
theorem nS (D:iY P ap) (Z:mW P ap H) {ops:List Oper} {nt:Nat} (K:∀ o ∈ ops,∀ d,o.dst=some d→d<nt):∀ (l:List Oper) (i nid:Nat) (s s':RS) (p:Option AV) (c c':Cx),xC ap H ops l nid s c= .ok (s',p) c'→c'.Ok→
  c.Ok∧(s.md= .dead→tC s.dec s.env→l=ops.drop i→(∀ b B,aA s.hp b=some B→b<nid)→
  s'.md= .dead∧∀ m S w a,FR ap s.env s.hp s.dfs nt m S w a→∀ Q,xN ap s.hp m S w nt s'.env s'.hp s'.dfs Q p→wpOps P ops.toArray Q (List.range' i l.length) a w)
 | [],i,nid,s,s',p,c,c',h,hc=>by
  cases h;exact ⟨hc,fun e _ _ _=> ⟨e,fun m S w a y Q u=>u m S w a (Fr.refl _ _ _ _) y⟩⟩
 | o ::r,i,nid,s,s',p,c,c',h,hc=>by
  simp only [xC] at h;obtain ⟨⟨s1,p1⟩,c1,e1,h⟩:=R.bind_ok h;dsimp only at h;have hfresh:(∀ b B,aA s.hp b=some B→b<nid)→∀ j,j<4→aA s.hp (nid+j)=none:=by
   intro I j _;cases hb:aA s.hp (nid+j) with
   |none=>rfl
   |some B=>have:=I _ _ hb;omega
  have z:o::r=ops.drop i→ops[i]? =some o∧ops.toArray[i]? =some o∧r=ops.drop (i+1)∧∀ d,o.dst=some d→d<nt:=by
   intro G;have n:ops[i]? =some o:=by
    have:(ops.drop i)[0]? =some o:=by rw [← G];rfl
    simpa using this
   have O:r=ops.drop (i+1):=by
    have:r=(ops.drop i).drop 1:=by rw [← G];rfl
    rw [this,Xjm]
   exact ⟨n,by simpa using n,O,K o (Xqj n)⟩
  cases p1 with
  |some v=>
   cases h;obtain ⟨E,A⟩:=xB D Z e1 hc;refine ⟨E,fun e k G I=> ?_⟩;obtain ⟨n,f,O,hd⟩:=z G;obtain ⟨v1,rb,ups,df,hs⟩:=A e k;refine ⟨by rw [hs.md,e],fun m S w a y Q u=> ?_⟩;rw [μ,Xv4,sZ f];refine hs.sem (aA s.hp) m S w a y.srel (fun t _=>y.env t) (fun b _ B hB=>hB) (hfresh I) Q _ ?_;intro cv m' S' w' h1 x N;have hst:=y.still h1 x;rw [kF] at x N;obtain ⟨q,rfl⟩:=hs.envp (by simp);have u:=u m' S' w' a cv;rw [hs.hp,hs.dfs,q] at u;exact u x hst N
  | none=>
   dsimp only at h;cases C:s1.feet with
   |nil=>rw [C] at h;cases h
   | cons ft fr=>
    rw [C] at h;dsimp only at h;split at h
    ·rename_i J;obtain ⟨Y,ih⟩:=nS D Z K r (i+1) (nid+4) s1 s' p c1 c' h hc;obtain ⟨E,A⟩:=xB D Z e1 Y;refine ⟨E,fun e k G I=> ?_⟩;obtain ⟨n,f,O,hd⟩:=z G;obtain ⟨v1,rb,ups,df,hs⟩:=A e k;have F:=hs.feet rfl;rw [C] at F;simp only [List.cons.injEq] at F;rw [F.1] at J;obtain ⟨M,ih⟩:=ih (by rw [hs.md,e]) (hs.dec rfl) O (by rw [hs.hp];exact Oc I J);refine ⟨M,fun m S w a y Q u=> ?_⟩;rw [μ,Xv4,sZ f];refine hs.sem (aA s.hp) m S w a y.srel (fun t _=>y.env t) (fun b _ B hB=>hB) (hfresh I) Q _ ?_;intro cv m' S' w' ds h1 x N h4;have L:=y.put hd h1 x N h4;rw [kF] at x;have q:=hs.env rfl;rw [← q,← hs.hp,← hs.dfs] at L;refine ih m' S' w' _ L Q ?_;rw [← hs.hp] at x;cases p with
     |none=>exact fun U S2 V a2 W T=>u U S2 V a2 (x.trans W) T
     |some v=>exact fun U S2 V a2 X W T h7=>u U S2 V a2 X (x.trans W) T h7
    ·cases h
end
end AM
namespace AM
open Go
structure tu where
 dst:Option Nat
 v:AV
 rt:List Nat
 rb:List Nat
 ups:List (Nat × bg)
def PO (d:Option Nat):List Nat:=match d with|some d=> [d]|none=> []
def tu.foot (r:tu):Dl:={rt:=r.rt,wt:=PO r.dst,rb:=r.rb,wb:=r.ups.map (·.1)}
def qL (D:Nat→Bool):Nat→ja→List tu→ja
 |_,e,[]=>e
 |j,e,r::rs=>qL D (j+1) (match D j with|true=>qm e r.dst r.v|false=>e) rs
def yE (D:Nat→Bool):Nat→Hp→List tu→Hp
 |_,h,[]=>h
 |j,h,r::rs=>yE D (j+1) (match D j with|true=>r.ups++h|false=>h) rs
theorem ug {D D':Nat→Bool} {t:Nat}:∀ (rs:List tu) (j:Nat) (e e':ja),e.get t=e'.get t→(∀ k r,rs[k]? =some r→r.dst=some t→D (j+k)=D' (j+k))→(qL D j e rs).get t=(qL D' j e' rs).get t
 | [],_,_,_,he,_=>he
 | r::rs,j,e,e',he,h=>by
  simp only [qL];refine ug rs (j+1) _ _ ?_ fun k c b hd=> ?_
  ·by_cases hd:r.dst=some t
   ·have a:=h 0 r rfl hd;rw [Xq0] at a;rw [a];cases D' j with
    |true=>simp only [hd,mD]
    |false=>exact he
   ·cases D j<;>cases D' j<;>simp only [yB hd,he]
  ·have:=h (k+1) c (by simpa using b) hd;rwa [show j+(k+1)=j+1+k by omega] at this
theorem I4:∀ {l:Hp} {b:Nat},b ∉ l.map (·.1)→aA l b=none:=by
 intro l b h;cases a:aA l b with
 |none=>rfl
 |some B=>exact absurd (EE a) h
theorem yJ {ups hp:Hp} {b:Nat} (h:b ∉ ups.map (·.1)):aA (ups++hp) b=aA hp b:=by
 rw [iH,I4 h]
theorem BA:∀ {l:Hp} {b:Nat},b ∈ l.map (·.1)→∃ B,aA l b=some B
 | [],b,h=>by simp at h
 | (c,C)::r,b,h=>by
  simp only [aA];cases a:Xqq c b with
  |true=>exact ⟨C,rfl⟩
  |false=>
   simp only [Xqh,Xwk] at h;rcases h with h|h
   ·subst h;simp at a
   ·exact BA h
theorem yI {ups hp hp':Hp} {b:Nat} (h:b ∈ ups.map (·.1)):aA (ups++hp) b=aA (ups++hp') b:=by
 obtain ⟨B,a⟩:=BA h;rw [iH,iH,a]
theorem qQ {D D':Nat→Bool} {b:Nat}:∀ (rs:List tu) (j:Nat) (h h':Hp),aA h b=aA h' b→(∀ k r,rs[k]? =some r→b ∈ r.ups.map (·.1)→D (j+k)=D' (j+k))→aA (yE D j h rs) b=aA (yE D' j h' rs) b
 | [],_,_,_,he,_=>he
 | r::rs,j,e,e',he,h=>by
  simp only [yE];refine qQ rs (j+1) _ _ ?_ fun k d c hd=> ?_
  ·by_cases hd:b ∈ r.ups.map (·.1)
   ·have a:=h 0 r rfl hd;rw [Xq0] at a;rw [a];cases D' j with
    |true=>exact yI hd
    |false=>exact he
   ·cases D j<;>cases D' j<;>simp only [yJ hd,he]
  ·have:=h (k+1) d (by simpa using c) hd;rwa [show j+(k+1)=j+1+k by omega] at this
theorem zH:∀ (a:List tu) (j:Nat) (e:ja) {D:Nat→Bool},(∀ k,k<a.length→D (j+k)=false)→qL D j e a=e
 | [],_,_,_,_=>rfl
 |r::a,j,e,D,h=>by
  have b:=h 0 (by simp);rw [Xq0] at b;simp only [qL,b];exact zH a (j+1) e fun k c=>by have:=h (k+1) (by simpa using c);rwa [show j+(k+1)=j+1+k by omega] at this
theorem uq:∀ (a:List tu) (j:Nat) (e:Hp) {D:Nat→Bool},(∀ k,k<a.length→D (j+k)=false)→yE D j e a=e
 | [],_,_,_,_=>rfl
 |r::a,j,e,D,h=>by
  have b:=h 0 (by simp);rw [Xq0] at b;simp only [yE,b];exact uq a (j+1) e fun k c=>by have:=h (k+1) (by simpa using c);rwa [show j+(k+1)=j+1+k by omega] at this
def zI (e:ja) (rs:List tu):ja:=qL (fun _=>true) 0 e rs
def N_ (h:Hp) (rs:List tu):Hp:=yE (fun _=>true) 0 h rs
theorem wY (D:Nat→Bool):∀ (rs:List tu) (j d:Nat) (e:ja),qL D (j+d) e rs=qL (fun k=>D (k+d)) j e rs
 | [],_,_,_=>rfl
 |r::rs,j,d,e=>by
  simp only [qL];rw [show j+d+1=j+1+d by omega];exact wY D rs (j+1) d _
theorem zL (D:Nat→Bool):∀ (rs:List tu) (j d:Nat) (e:Hp),yE D (j+d) e rs=yE (fun k=>D (k+d)) j e rs
 | [],_,_,_=>rfl
 |r::rs,j,d,e=>by
  simp only [yE];rw [show j+d+1=j+1+d by omega];exact zL D rs (j+1) d _
theorem uY (e:ja) (r:tu) (a:List tu):zI e (r::a)=zI (qm e r.dst r.v) a:=by
 simp only [zI,qL];exact wY (fun _=>true) a 0 1 _
theorem yF (h:Hp) (r:tu) (a:List tu):N_ h (r::a)=N_ (r.ups++h) a:=by
 simp only [N_,yE];exact zL (fun _=>true) a 0 1 _
theorem IE:∀ (a:List tu) (k:Nat) (e:ja),qL (fun j=>decide (j<k)) 0 e a=zI e (a.take k)
 |a,0,e=>by
  simp only [Xvf];exact zH a 0 e fun _ _=>by simp
 | [],k+1,e=>rfl
 |r::a,k+1,e=>by
  simp only [Xxw,uY,qL];rw [show decide (0<k+1)=true by simp];dsimp only;rw [← IE a k];have:=wY (fun j=>decide (j<k+1)) a 0 1 (qm e r.dst r.v);rw [this];congr 1;funext j;simp
theorem N9:∀ (a:List tu) (k:Nat) (e:Hp),yE (fun j=>decide (j<k)) 0 e a=N_ e (a.take k)
 |a,0,e=>by
  simp only [Xvf];exact uq a 0 e fun _ _=>by simp
 | [],k+1,e=>rfl
 |r::a,k+1,e=>by
  simp only [Xxw,yF,yE];rw [show decide (0<k+1)=true by simp];dsimp only;rw [← N9 a k];have:=zL (fun j=>decide (j<k+1)) a 0 1 (r.ups++e);rw [this];congr 1;funext j;simp
theorem RZ (e:ja):∀ (b:List tu) (k:Nat) (r:tu),b[k]? =some r→zI e (b.take (k+1))=qm (zI e (b.take k)) r.dst r.v:=by
 intro b
 induction b generalizing e with
 |nil=>intro k r h;simp at h
 | cons a b ih=>
  intro k r h;cases k with
  |zero=>simp at h;subst h;rfl
  |succ k=>
   simp only [Xxw,uY];exact ih _ k r (by simpa using h)
theorem VS (e:Hp):∀ (b:List tu) (k:Nat) (r:tu),b[k]? =some r→N_ e (b.take (k+1))=r.ups++N_ e (b.take k):=by
 intro b
 induction b generalizing e with
 |nil=>intro k r h;simp at h
 | cons a b ih=>
  intro k r h;cases k with
  |zero=>simp at h;subst h;rfl
  |succ k=>
   simp only [Xxw,yF];exact ih _ k r (by simpa using h)
section
variable {P:Program} {ap:AP} {H:di}
structure Ux (P:Program) (ap:AP) (ops:List Oper) (i nid:Nat) (s s':RS) (recs:List tu):Prop where
 env:s'.env=zI s.env recs
 hp:s'.hp=N_ s.hp recs
 feet:s'.feet=(recs.map tu.foot).reverse++s.feet
 dle:s.dfs.length≤s'.dfs.length
 bound:∀ (k:Nat) (r:tu),recs[k]? =some r→∀ b ∈ r.ups.map (·.1),b<nid+4*k+4
 sem:s'.dfs.length=s.dfs.length→s'.dfs=s.dfs∧∀ (k:Nat) (r:tu),recs[k]? =some r→∃ o,ops[i+k]? =some o∧r.dst=o.dst∧Pi P ap ops.toArray o (nid+4*k) (zI s.env (recs.take k)) (N_ s.hp (recs.take k)) r.rt r.rb r.v r.ups [] none
theorem acL (x:iY P ap) (N:mW P ap H) {ops:List Oper}:∀ (l:List Oper) (i nid:Nat) (s s':RS) (c c':Cx),xC ap H ops l nid s c= .ok (s',none) c'→c'.Ok→
  c.Ok∧(s.md= .dead→tC s.dec s.env→l=ops.drop i→s'.md= .dead∧∃ a:List tu,a.length=l.length∧Ux P ap ops i nid s s' a)
 | [],i,nid,s,s',c,c',h,hc=>by
  cases h;exact ⟨hc,fun d _ _=> ⟨d,[],rfl,⟨rfl,rfl,rfl,Δ _,fun k r h=>by simp at h,fun _=> ⟨rfl,fun k r h=>by simp at h⟩⟩⟩⟩
 | o :: r,i,nid,s,s',c,c',h,hc=>by
  simp only [xC] at h;obtain ⟨⟨A,V⟩,U,Y,h⟩:=R.bind_ok h;dsimp only at h;cases V with
  |some v=>cases h
  | none=>
   dsimp only at h;cases n:A.feet with
   |nil=>rw [n] at h;cases h
   | cons ft fr=>
    rw [n] at h;dsimp only at h;split at h
    ·rename_i t;obtain ⟨E,X⟩:=acL x N r (i+1) (nid+4) A s' U c' h hc;obtain ⟨G,C⟩:=xB x N Y E;refine ⟨G,fun d u L=> ?_⟩;have I:ops[i]? =some o:=by
      have:(ops.drop i)[0]? =some o:=by rw [← L];rfl
      simpa using this
     have W:r=ops.drop (i+1):=by
      have:r=(ops.drop i).drop 1:=by rw [← L];rfl
      rw [this,Xjm]
     obtain ⟨v1,rb,ups,D,hs⟩:=C d u;have j:=hs.feet rfl;rw [n] at j;simp only [List.cons.injEq] at j;rw [j.1] at t;obtain ⟨z,a,y,e⟩:=X (by rw [hs.md,d]) (hs.dec rfl) W;refine ⟨z,{dst:=o.dst,v:=v1,rt:=uM o.op.operands.toList++jv ops o,rb:=rb,ups:=ups}::a,by simp [y], ?_⟩;have F:s.dfs.length≤A.dfs.length:=by rw [hs.dfs];simp
     refine ⟨?_, ?_, ?_,Xq1 F e.dle, ?_, ?_⟩
     ·rw [e.env,uY,hs.env rfl]
     ·rw [e.hp,yF,hs.hp]
     ·rw [e.feet,hs.feet rfl];simp [tu.foot,PO,IA];cases o.dst<;>rfl
     ·intro k q f b M;cases k with
      |zero=>
       simp at f;subst f;exact gq (List.all_eq_true.1 t b M)
      |succ k=>
       have:=e.bound k q (by simpa using f) b M;omega
     ·intro he;have h1:=e.dle;obtain ⟨B,p⟩:=e.sem (by omega);have J:D= []:=by
       have:D.length=0:=by
        have:=hs.dfs;have Z:A.dfs.length=D.length+s.dfs.length:=by rw [this];simp
        omega
       exact Xxh this
      subst J;refine ⟨by rw [B,hs.dfs];rfl, ?_⟩;intro k q f;cases k with
      |zero=>
       simp at f;subst f;exact ⟨o,I,rfl,hs.sem⟩
      |succ k=>
       obtain ⟨O,Q,T,K⟩:=p k q (by simpa using f);refine ⟨O,by rw [show i+(k+1)=i+1+k by omega];exact Q,T, ?_⟩;rw [Xxw,uY,yF];rw [hs.env rfl,hs.hp] at K;rw [show nid+4*(k+1)=nid+4+4*k by omega];exact K
    ·cases h
end
end AM
namespace AM
open Go
theorem Ec {md:Region.Mode} (b:Array Nat) (i:Nat):∀ (l:List Edge) (s:Nat),(l.foldl (fun s e=>if Region.binds md e then s|||2^e.on|||b.getD e.on 0 else s) s).testBit i=true→
  s.testBit i=true∨∃ e ∈ l,Region.binds md e=true∧(i=e.on∨(b.getD e.on 0).testBit i=true)
 | [],s,h=> .inl h
 | e::r,s,h=>by
  simp only [Xjn] at h;rcases Ec b i r _ h with a|⟨e',a,d⟩
  ·split at a
   ·rename_i c;simp only [Nat.testBit_or,Xw8,Nat.testBit_two_pow,decide_eq_true_eq] at a;rcases a with (a|a)|a
    ·exact .inl a
    ·exact .inr ⟨e,by simp,c,.inl a.symm⟩
    ·exact .inr ⟨e,by simp,c,.inr a⟩
   ·exact .inl a
  ·exact .inr ⟨e',by simp [a],d⟩
def pz (acc:Array Nat) (o:Oper):Array Nat:=acc.push (o.after.toList.foldl (fun s e=>if Region.binds .any e then s|||2^e.on|||acc.getD e.on 0 else s) 0)
theorem Ed (a:Array Nat) (x:Nat):(a.push x).getD a.size 0=x:=by simp [Array.getD_eq_getD_getElem?]
def Cj (ops:List Oper) (D:Nat→Bool):Prop:=∀ (k:Nat) (o:Oper),ops[k]? =some o→D k=true→∀ e ∈ o.after,Region.binds .any e=true→D e.on=true
def ab5 (D:Nat→Bool) (acc:Array Nat):Prop:=∀ k,D k=true→∀ i,(acc.getD k 0).testBit i=true→D i=true
theorem Po {ops:List Oper} {D:Nat→Bool} (j:Cj ops D):∀ (l:List Oper) (acc:Array Nat),ab5 D acc→l=ops.drop acc.size→ab5 D (l.foldl pz acc)
 | [],acc,h,_=>h
 | o ::r,acc,h,hl=>by
  simp only [Xjn];have d:ops[acc.size]? =some o:=by
   have:(ops.drop acc.size)[0]? =some o:=by rw [← hl];rfl
   simpa using this
  refine Po j r _ ?_ ?_
  ·intro k n i a;by_cases hks:k<acc.size
   ·refine h k n i ?_;simpa [pz,Array.getD_eq_getD_getElem?,Array.getElem?_push,Nat.ne_of_lt hks] using a
   ·by_cases hke:k=acc.size
    ·subst hke;rw [pz,Ed] at a;rcases Ec acc i _ _ a with b|⟨e,b,p,c⟩
     ·simp at b
     ·have f:=j _ o d n e (by simpa using b) p;rcases c with rfl|c
      ·exact f
      ·exact h _ f i c
    ·have:(pz acc o)[k]? =none:=by
      simp only [pz];rw [Array.getElem?_eq_none];simp;omega
     simp [Array.getD_eq_getD_getElem?,this] at a
  ·have:(pz acc o).size=acc.size+1:=by simp [pz]
   rw [this,← Xjm,← hl];rfl
theorem Rt (ops:List Oper):Region.before ops.toArray=ops.foldl pz #[]:=by
 simp only [Region.before,← Array.foldl_toList];rfl
theorem qf {ops:List Oper} {D:Nat→Bool} (a:Cj ops D) {k i:Nat} (b:D k=true) (h:((Region.before ops.toArray).toList.getD k 0).testBit i=true):D i=true:=by
 have:=Po a ops #[] (fun k _ i c=>by simp at c) (by simp);rw [← Rt] at this;refine this k b i ?_;rw [ο] at h;rw [Array.getD_eq_getD_getElem?];simpa using h
theorem qU {a b:List Nat} {x:Nat} (c:x ∈ a) (d:x ∈ b):EI a b=true:=List.any_eq_true.2 ⟨x,c,jK.2 d⟩
structure Ig (n:Nat) (bef:Nat→Nat→Bool) (recs:List tu):Prop where
 ok:∀ i j a b,recs[i]? =some a→recs[j]? =some b→i<j→(kz a.foot b.foot=true∨∃ x ∈ b.ups.map (·.1),n+4*i≤x∧x<n+4*i+4)→bef j i=true
theorem Oz {n:Nat} {e:List Nat} {d:List tu} (h:EU n e (d.map tu.foot).reverse=true):Ig n (fun j i=>(e.getD j 0).testBit i) d:=by
 refine ⟨fun i j a b l r k f=> ?_⟩;simp only [EU,List.reverse_reverse,Xzb] at h;have c:=h (a.foot,i) (by rw [Xj5];simp [l]) (b.foot,j) (by rw [Xj5];simp [r]);simp only [Xw8,Xqo] at c;rcases c with (c|c)|c
 ·have:Xja i j=true:=Xqt k;rw [this] at c;cases c
 ·exfalso;rw [Bool.or_eq_false_iff] at c;rcases f with f|⟨x,q,p,o⟩
  ·rw [f] at c;cases c.1
  ·have:=List.any_eq_false.1 c.2 x q;simp only [π,not_and] at this;exact this (Xqt p) (Xqt o)
 ·exact c
section
variable {P:Program} {ap:AP} {H:di}
theorem FR.congr {env b:ja} {hp hp':Hp} {dfs:List (Nat × List AV)} {nt:Nat} {m:aZ} {S:aT} {w:World} {a:Act} (h:FR ap env hp dfs nt m S w a) (d:∀ t,b.get t=env.get t) (c:aA hp'=aA hp):FR ap b hp' dfs nt m S w a:=by
 refine ⟨c ▸ h.srel,fun t=> ?_,c ▸ h.dfs,h.size⟩;rw [d,c];exact h.env t
def qw (listed:Array Bool):Nat→Bool:=fun k=>listed.getD k false
theorem YJ {listed:Array Bool} {i:Nat} (a:i<listed.size) (k:Nat):qw (listed.setIfInBounds i true) k=(if k=i then true else qw listed k):=by
 simp only [qw,Array.getD_eq_getD_getElem?];by_cases h:k=i
 ·subst h;rw [if_pos rfl,Array.getElem?_setIfInBounds_self_of_lt a];rfl
 ·rw [if_neg h,Array.getElem?_setIfInBounds_ne (fun e=>h e.symm)]
def I_ (n:Nat) (D:Nat→Bool):Nat:=((Xq6 n).filter fun i=> !D i).length
theorem BG {D D':Nat→Bool} {i:Nat} (c:D i=false) (b:∀ k,D' k=if k=i then true else D k):∀ (l:List Nat),l.Nodup→i ∈ l→(l.filter fun k=> !D k).length=(l.filter fun k=> !D' k).length+1
 | [],_,h=>by simp at h
 | a::r,hn,h=>by
  rw [Xkd] at hn;by_cases ha:a=i
  ·subst ha;have hsame:r.filter (fun k=> !D k)=r.filter (fun k=> !D' k):=by
    refine List.filter_congr fun k d=> ?_
    have:k ≠ a:=fun e=>hn.1 (e ▸ d)
    rw [b k,if_neg this]
   have f:D' a=true:=by rw [b a,if_pos rfl]
   simp [c,f,hsame]
  ·have j:=BG c b r hn.2 (by simpa [Ne.symm ha] using h);have:D' a=D a:=by rw [b a,if_neg ha]
   simp only [List.filter_cons,this];split<;>simp [j]
theorem Xa {ops:List Oper} (h:yu ops=true) {listed:Array Bool} (o:listed.size=ops.length) (b:Region.ready .any ops.toArray listed= []):∀ k,k<ops.length→qw listed k=true:=by
 intro k
 induction k using Nat.strongRecOn with
 | _ k ih=>
  intro c;cases hd:qw listed k with
  |true=>rfl
  | false=>
   exfalso;have a:k ∈ Region.ready .any ops.toArray listed:=by
    simp only [Region.ready,Xw9,Yqt,Xzn];refine ⟨c, ?_⟩;have j:listed.getD k true=false:=by
     simp only [qw,Array.getD_eq_getD_getElem?] at hd ⊢;rw [Array.getElem?_eq_getElem (by omega)] at hd ⊢;simpa using hd
    have n:ops.toArray[k]? =some ops[k]:=by simp [c]
    rw [j,n];simp only [Bool.not_false,Bool.true_and,Xje,Xw0,Array.all_eq_true',Xw8,Xqo];intro e i;cases f:Region.binds .any e with
    |false=>exact .inl rfl
    |true=>
     right;simp only [yu,Xzb] at h;have d:=h (ops[k],k) (by rw [Xj5];simp [c]) e (by simpa using i);rw [f] at d;simp only [Xwh,Xwi] at d;have l:=gq d;exact ih e.on l (by omega)
   rw [b] at a;cases a
theorem Fe {ops:List Oper} {listed:Array Bool} (j:listed.size=ops.length) {i:Nat} (h:i ∈ Region.ready .any ops.toArray listed):∃ o,ops[i]? =some o∧qw listed i=false∧i<ops.length∧∀ e ∈ o.after,Region.binds .any e=true→qw listed e.on=true:=by
 simp only [Region.ready,Xw9,Yqt,Xzn,π,Xqo] at h;obtain ⟨c,a,b⟩:=h;have f:ops.toArray[i]? =some ops[i]:=by simp [c]
 rw [f] at b;simp only [Xje,Xw0,Array.all_eq_true',Xw8,Xqo] at b;refine ⟨ops[i],ξ c, ?_,c,fun e d k=> ?_⟩
 ·simp only [qw,Array.getD_eq_getD_getElem?] at a ⊢;rw [Array.getElem?_eq_getElem (by omega)] at a ⊢;simpa using a
 ·rcases b e d with h|h
  ·rw [k] at h;cases h
  ·exact h
end
end AM
namespace AM
open Go
theorem UT {a b:Dl} {x:Nat} (h:x ∈ a.wt) (c:x ∈ b.rt):kz a b=true:=by simp [kz,qU h c]
theorem J9 {a b:Dl} {x:Nat} (h:x ∈ a.wt) (c:x ∈ b.wt):kz a b=true:=by simp [kz,qU h c]
theorem UR {a b:Dl} {x:Nat} (h:x ∈ a.rt) (c:x ∈ b.wt):kz a b=true:=by simp [kz,qU h c]
theorem Rz {a b:Dl} {x:Nat} (h:x ∈ a.wb) (c:x ∈ b.rb):kz a b=true:=by simp [kz,qU h c]
theorem GN {a b:Dl} {x:Nat} (h:x ∈ a.wb) (c:x ∈ b.wb):kz a b=true:=by simp [kz,qU h c]
theorem Ry {a b:Dl} {x:Nat} (h:x ∈ a.rb) (c:x ∈ b.wb):kz a b=true:=by simp [kz,qU h c]
theorem uy {d:Option Nat} {t:Nat} (h:d=some t):t ∈ PO d:=by subst h;simp [PO]
section
variable {P:Program} {ap:AP} {H:di}
structure acQ (ap:AP) (ops:List Oper) (recs:List tu) (e0:ja) (hp0:Hp) (dfs:List (Nat × List AV)) (nt:Nat) (m0:aZ) (S0:aT) (w0:World) (listed:Array Bool) (m:aZ) (S:aT) (w:World) (a:Act):Prop where
 sz:listed.size=ops.length
 cl:Cj ops (qw listed)
 fr:Fr (aA hp0) m0 S0 w0 (aA (yE (qw listed) 0 hp0 recs)) m S w
 rel:FR ap (qL (qw listed) 0 e0 recs) (yE (qw listed) 0 hp0 recs) dfs nt m S w a
theorem U8 {ops:List Oper} {c:List tu} {s:RS} {A nt:Nat} (hnt:∀ o ∈ ops,∀ d,o.dst=some d→d<nt) (hlen:c.length=ops.length)
  (hbound:∀ (k:Nat) (r:tu),c[k]? =some r→∀ b ∈ r.ups.map (·.1),b<A+4*k+4)
  (hsem:∀ (k:Nat) (r:tu),c[k]? =some r→∃ o,ops[k]? =some o∧r.dst=o.dst∧∀ (D:Nat→Bool) m S w (a:Act),bU ap (aA (yE D 0 s.hp c)) m S w→(∀ t ∈ r.rt,VR (aA (yE D 0 s.hp c)) m S ((zI s.env (c.take k)).get t) (a.tmps.getD t undef))→
   (∀ b ∈ r.rb,aA (N_ s.hp (c.take k)) b=aA (yE D 0 s.hp c) b)→(∀ j,j<4→aA (yE D 0 s.hp c) (A+4*k+j)=none)→(∀ j,((Region.before ops.toArray).toList.getD j 0).testBit k=true→D j=false)→
   ∀ (Q:Exit→Act→World→Prop) (K:Act→World→Prop),ab4 ap o (aA (yE D 0 s.hp c)) m S w a r.v r.ups [] Q K none→wpO P ops.toArray Q o K a w)
  (hord:Ig A (fun j i=>((Region.before ops.toArray).toList.getD j 0).testBit i) c) (hback:yu ops=true) (hn0:∀ b B,aA s.hp b=some B→b<A) {m0:aZ} {S0:aT} {w0:World} {Q:Exit→Act→World→Prop}
  (hQ:∀ m S w a,Fr (aA s.hp) m0 S0 w0 (aA (N_ s.hp c)) m S w→FR ap (zI s.env c) (N_ s.hp c) s.dfs nt m S w a→Q .normal a w):
  ∀ (n:Nat) (listed:Array Bool) (m:aZ) (S:aT) (w:World) (a:Act),acQ ap ops c s.env s.hp s.dfs nt m0 S0 w0 listed m S w a→I_ ops.length (qw listed)≤n→wpAny P .any ops.toArray Q n listed a w:=by
 have hdone:∀ (listed:Array Bool) (m:aZ) (S:aT) (w:World) (a:Act),acQ ap ops c s.env s.hp s.dfs nt m0 S0 w0 listed m S w a→(∀ k,k<ops.length→qw listed k=true)→Q .normal a w:=by
  intro listed m S w a u v;have hh:∀ b,aA (N_ s.hp c) b=aA (yE (qw listed) 0 s.hp c) b:=fun b=>
   qQ c 0 _ _ rfl fun k r f _=>by rw [v (0+k) (by have:=(List.getElem?_eq_some_iff.1 f).1;omega)]
  have he:∀ t,(zI s.env c).get t=(qL (qw listed) 0 s.env c).get t:=fun t=>
   ug c 0 _ _ rfl fun k r f _=>by rw [v (0+k) (by have:=(List.getElem?_eq_some_iff.1 f).1;omega)]
  have I:=funext hh;exact hQ m S w a (I ▸ u.fr) (u.rel.congr he I)
 intro n
 induction n with
 | zero=>
  intro listed m S w a u hm;have v:∀ k,k<ops.length→qw listed k=true:=by
   intro k f;cases hd:qw listed k with
   |true=>rfl
   |false=>
    have R:k ∈ (Xq6 ops.length).filter fun i=> !qw listed i:=by simp [f,hd]
    have:(Xq6 ops.length).filter (fun i=> !qw listed i)= []:=Xxh (Nat.le_zero.1 hm);rw [this] at R;cases R
  refine ⟨?_,hdone listed m S w a u v⟩;cases hr:Region.ready .any ops.toArray listed with
  |nil=>rfl
  |cons i r=>
   obtain ⟨o,_,p,h3,_⟩:=Fe u.sz (i:=i) (by rw [hr];simp);rw [v i h3] at p;cases p
 | succ n ih=>
  intro listed m S w a u hm;refine ⟨fun T=>hdone listed m S w a u (Xa hback u.sz T),fun i hi=> ?_⟩;obtain ⟨o,J,C,U,hedges⟩:=Fe u.sz hi;have y:c[i]? =some c[i]:=ξ (by omega);generalize c[i]=r at y;obtain ⟨o',V,F,hstep⟩:=hsem i r y;rw [J] at V;cases V;have W:i<listed.size:=by rw [u.sz];exact U
  have l:=YJ W;have N:Cj ops (qw (listed.setIfInBounds i true)):=by
   intro k o2 f hd e he z;rw [l] at hd ⊢;split
   ·rfl
   ·split at hd
    ·rename_i G;subst G;rw [J] at f;cases f;exact hedges e he z
    ·exact u.cl k o2 f hd e he z
  have M:∀ k q,c[k]? =some q→k<i→(kz q.foot r.foot=true∨∃ x ∈ r.ups.map (·.1),A+4*k≤x∧x<A+4*k+4)→qw listed k=true:=by
   intro k q f G hc;have E:=hord.ok k i q r f y G hc;have p:=qf N (k:=i) (i:=k) (by rw [l,if_pos rfl]) E;rw [l,if_neg (by omega)] at p;exact p
  have hhigh:∀ k q,c[k]? =some q→i<k→(kz r.foot q.foot=true∨∃ x ∈ q.ups.map (·.1),A+4*i≤x∧x<A+4*i+4)→qw listed k=false:=by
   intro k q f G hc;cases hd:qw listed k with
   |false=>rfl
   |true=>
    have E:=hord.ok i k r q y f G hc;have p:=qf u.cl hd E;rw [C] at p;cases p
  have O:∀ k q,c[k]? =some q→(k<i→kz q.foot r.foot=true)→(i<k→kz r.foot q.foot=true)→decide (k<i)=qw listed k:=by
   intro k q f E p;rcases Xj7 k i with h|h|h
   ·rw [M k q f h (.inl (E h))];simp [h]
   ·subst h;rw [C];simp
   ·rw [hhigh k q f h (.inl (p h))];simp;omega
  have hagr':∀ k q,c[k]? =some q→(k<i→kz q.foot r.foot=true)→(i<k→kz r.foot q.foot=true)→qw (listed.setIfInBounds i true) k=decide (k<i+1):=by
   intro k q f E p;rw [l];rcases Xj7 k i with h|h|h
   ·rw [if_neg (by omega),M k q f h (.inl (E h))];simp;omega
   ·subst h;simp
   ·rw [if_neg (by omega),hhigh k q f h (.inl (p h))];simp;omega
  have Z:∀ t ∈ r.rt,(zI s.env (c.take i)).get t=(qL (qw listed) 0 s.env c).get t:=by
   intro t L;rw [← IE];refine ug c 0 _ _ rfl fun k q f hd=> ?_
   rw [Xqf];exact O k q f (fun _=>UT (uy hd) L) (fun _=>UR L (uy hd))
  have hhp:∀ b ∈ r.rb,aA (N_ s.hp (c.take i)) b=aA (yE (qw listed) 0 s.hp c) b:=by
   intro b z;rw [← N9];refine qQ c 0 _ _ rfl fun k q f hd=> ?_
   rw [Xqf];exact O k q f (fun _=>Rz hd z) (fun _=>Ry z hd)
  have hfresh:∀ j,j<4→aA (yE (qw listed) 0 s.hp c) (A+4*i+j)=none:=by
   intro j hj;have E:aA (yE (qw listed) 0 s.hp c) (A+4*i+j)=aA (yE (fun _=>false) 0 s.hp c) (A+4*i+j):=by
    refine qQ c 0 _ _ rfl fun k q f hd=> ?_
    rw [Xqf];have z:=hbound k q f _ hd;rcases Xj7 k i with h|h|h
    ·omega
    ·subst h;exact C
    ·exact hhigh k q f h (.inr ⟨_,hd,by omega,by omega⟩)
   rw [E,uq c 0 _ (fun _ _=>rfl)];cases z:aA s.hp (A+4*i+j) with
   |none=>rfl
   |some B=>have:=hn0 _ _ z;omega
  have Y:ops.toArray[i]? =some o:=by simpa using J
  have hgoal:wpO P ops.toArray Q o (wpAny P .any ops.toArray Q n (listed.setIfInBounds i true)) a w:=by
   refine hstep (qw listed) m S w a u.rel.srel (fun t L=>by rw [Z t L];exact u.rel.env t) hhp hfresh (fun j hj=>by
    cases hd:qw listed j with
    |false=>rfl
    |true=>
     have p:=qf u.cl hd hj;rw [C] at p;cases p) Q _ ?_
   intro cv m' S' w' ds E p h3 h4;have hF:=u.rel.put (hnt o (Xqj J)) E p h3 h4;rw [kF] at p;rw [Xqk] at hF;have he':∀ t,(qL (qw (listed.setIfInBounds i true)) 0 s.env c).get t=(qm (qL (qw listed) 0 s.env c) o.dst r.v).get t:=by
    intro t;by_cases L:o.dst=some t
    ·have h5:(qL (qw (listed.setIfInBounds i true)) 0 s.env c).get t=(qL (fun j=>decide (j<i+1)) 0 s.env c).get t:=by
      refine ug c 0 _ _ rfl fun k q f hd=> ?_
      rw [Xqf];have X:t ∈ r.foot.wt:=uy (F.trans L);exact hagr' k q f (fun _=>J9 (uy hd) X) (fun _=>J9 X (uy hd))
     rw [h5,IE,RZ _ _ _ _ y,F,L,mD,mD]
    ·rw [yB L];refine ug c 0 _ _ rfl fun k q f hd=> ?_
     rw [Xqf,l,if_neg]
     rintro rfl
     rw [y] at f;cases f;exact L (F ▸ hd)
   have I:aA (yE (qw (listed.setIfInBounds i true)) 0 s.hp c)=aA (r.ups++yE (qw listed) 0 s.hp c):=by
    funext b;by_cases z:b ∈ r.ups.map (·.1)
    ·have h5:aA (yE (qw (listed.setIfInBounds i true)) 0 s.hp c) b=aA (yE (fun j=>decide (j<i+1)) 0 s.hp c) b:=by
      refine qQ c 0 _ _ rfl fun k q f hd=> ?_
      rw [Xqf];exact hagr' k q f (fun _=>GN hd z) (fun _=>GN z hd)
     rw [h5,N9,VS _ _ _ _ y];exact yI z
    ·rw [yJ z];refine qQ c 0 _ _ rfl fun k q f hd=> ?_
     rw [Xqf,l,if_neg]
     rintro rfl
     rw [y] at f;cases f;exact z hd
   refine ih _ m' S' w' _ ⟨by rw [Array.size_setIfInBounds];exact u.sz,N, ?_,hF.congr he' I⟩ ?_
   ·rw [I];exact u.fr.trans p
   ·have:=BG C l (Xq6 ops.length) Xz8 (by simp [U]);simp only [I_] at hm ⊢;omega
  simp only [wpOp,Y];exact hgoal
theorem U7 {ops:List Oper} {c:List tu} {s s':RS} {t nt:Nat} (q:∀ o ∈ ops,∀ d,o.dst=some d→d<nt) (e:c.length=ops.length) (f:Ux P ap ops 0 t s s' c) (l:s'.dfs.length=s.dfs.length)
  (hord:Ig t (fun j i=>((Region.before ops.toArray).toList.getD j 0).testBit i) c) (hback:yu ops=true) (hn0:∀ b B,aA s.hp b=some B→b<t) {m0:aZ} {S0:aT} {w0:World} {Q:Exit→Act→World→Prop}
  (hQ:∀ m S w a,Fr (aA s.hp) m0 S0 w0 (aA (N_ s.hp c)) m S w→FR ap (zI s.env c) (N_ s.hp c) s.dfs nt m S w a→Q .normal a w):
  ∀ (fuel:Nat) (listed:Array Bool) (m:aZ) (S:aT) (w:World) (a:Act),acQ ap ops c s.env s.hp s.dfs nt m0 S0 w0 listed m S w a→I_ ops.length (qw listed)≤fuel→wpAny P .any ops.toArray Q fuel listed a w:=by
 obtain ⟨_,h⟩:=f.sem l;refine U8 q e f.bound (fun k r v=> ?_) hord hback hn0 hQ;obtain ⟨o,u,E,y⟩:=h k r v;rw [Xqf] at u;exact ⟨o,u,E,fun D m S w a A C n p _ Q K z=>y _ m S w a A C (fun b F B x=>by rw [← n b F];exact x) p Q K z⟩
def oZ (ap:AP) (base:Nat) (keep:List Nat) (hp0:Hp) (m:aZ) (S:aT) (w:World) (nt:Nat) (s':St) (Q:Exit→Act→World→Prop):bG→Prop
 | .panic v=>match (d_ v).isEmpty with
  |true=> ∀ s1:St,s'=norm base keep s1→xN ap hp0 m S w nt s1.env s1.hp s1.dfs Q (some v)
  |false=>xN ap hp0 m S w nt s'.env s'.hp s'.dfs Q (some v)
 | .normal=> ∀ s1:St,s'=norm base keep s1→xN ap hp0 m S w nt s1.env s1.hp s1.dfs Q none
 |_=>True
theorem Jq (z:iY P ap) (G:P.follows .mixedOrders=true) (J:mW P ap H) {ops:List Oper} {l:Bool} {nt base:Nat} {keep:List Nat} (x:∀ o ∈ ops,∀ d,o.dst=some d→d<nt) {s:St} {e:bG} {s':St} {c U:Cx} {id:Nat}
  (h:Jp ap H base keep ops l s c= .ok (e,s') U) (hc:U.Ok):c.Ok∧(s.md= .dead→s'.md= .dead∧(∀ m S w a,FR ap s.env s.hp s.dfs nt m S w a→∀ Q,
   oZ ap base keep s.hp m S w nt s' Q e→(Code.region id ops.toArray l).wp P Q a w)):=by
 unfold Jp at h;obtain ⟨⟨s1,p⟩,Z,K,h⟩:=R.bind_ok h;dsimp only at h;have u:∀ b B,aA s.hp b=some B→b<kX s.hp:=fun b B r=>vF r
 cases p with
 | some v=>
  cases l with
  |true=>cases h
  | false=>
   dsimp only at h;split at h
   ·rename_i F;cases h;obtain ⟨f,hs⟩:=nS z J x ops 0 _ _ _ _ _ _ K hc;refine ⟨f,fun i=> ?_⟩;obtain ⟨C,D⟩:=hs i (fun t b r=>by cases r) rfl u;refine ⟨C,fun m S w a j Q y=>wp_region ?_⟩;simp only [oZ,F] at y;have:=D m S w a j Q (y _ rfl);rw [← Xz7] at this;simpa using this
   ·rename_i F;cases h;obtain ⟨f,hs⟩:=nS z J x ops 0 _ _ _ _ _ _ K hc;refine ⟨f,fun i=> ?_⟩;obtain ⟨C,D⟩:=hs i (fun t b r=>by cases r) rfl u;refine ⟨C,fun m S w a j Q y=>wp_region ?_⟩;simp only [oZ,F] at y;have:=D m S w a j Q y;rw [← Xz7] at this;simpa using this
 | none=>
  dsimp only at h;split at h
  ·rename_i hcond;cases h;cases l with
   |false=>
    obtain ⟨f,hs⟩:=nS z J x ops 0 _ _ _ _ _ _ K hc;refine ⟨f,fun i=> ?_⟩;obtain ⟨C,D⟩:=hs i (fun t b r=>by cases r) rfl u;refine ⟨C,fun m S w a j Q y=>wp_region ?_⟩;have:=D m S w a j Q (y _ rfl);rw [← Xz7] at this;simpa using this
   | true=>
    obtain ⟨f,hs⟩:=acL z J ops 0 _ _ _ _ _ K hc;refine ⟨f,fun i=> ?_⟩;obtain ⟨C,q,I,n⟩:=hs i (fun t b r=>by cases r) rfl;refine ⟨C,fun m S w a j Q y=>wp_region_any G ?_⟩;simp only [Xwh,Xwi,π] at hcond;obtain ⟨⟨T,hback⟩,A⟩:=hcond;have A:=aJ A;rw [n.feet,List.append_nil] at T;have N:=y _ rfl;have M:=(n.sem A).1;have E:qw (Array.replicate ops.length false)=fun _=>false:=by
     funext k;simp only [qw,Array.getD_eq_getD_getElem?];by_cases V:k<ops.length<;>simp [V]
    have O:ops.toArray.size=ops.length:=by simp
    rw [O];refine U7 x I n A (Oz T) hback u (m0:=m) (S0:=S) (w0:=w) (Q:=Q) ?_ ops.length _ m S _ a ⟨by simp, ?_, ?_, ?_⟩ ?_
    ·intro X S' w' Y L W;refine N X S' w' Y ?_ ?_
     ·rw [n.hp];exact L
     ·rw [n.hp,n.env,M];exact W
    ·intro k o V hd;rw [E] at hd;cases hd
    ·rw [E,uq q 0 _ (fun _ _=>rfl)];exact ⟨Ge.refl _ _,oQ.refl _,rfl,rfl,rfl,Δ _,fun _ _ _=>rfl,fun _ B h=> .inr ⟨B,h,rfl⟩,fun _ _ _ h=> .inl h⟩
    ·rw [E,uq q 0 _ (fun _ _=>rfl),zH q 0 _ (fun _ _=>rfl)];exact ⟨⟨j.srel.inj,fun b B r=>j.srel.blk b B r|>fun ⟨C,D,L⟩=> ⟨C,D,L⟩,j.srel.sealed,j.srel.own,j.srel.glob⟩,j.env,j.dfs,j.size⟩
    ·exact Xq1 (List.length_filter_le _ _) (by simp)
  ·cases h
end
end AM
namespace AM
open Go
def BX (acc:List Nat) (b:Nat):List Nat:=if rQ acc b then acc else acc++ [b]
theorem Ri (a:List Nat) (b:Nat) (h:a.Nodup):(BX a b).Nodup∧∃ t,BX a b=a++t:=by
 unfold BX;split
 ·exact ⟨h,[],by simp⟩
 ·rename_i f;refine ⟨?_,[b],rfl⟩;rw [List.nodup_append];refine ⟨h,by simp, ?_⟩;intro x d y c e;simp at c;subst c;subst e;exact f (jK.2 d)
theorem pg:∀ (l a:List Nat),a.Nodup→(l.foldl BX a).Nodup∧∃ t,l.foldl BX a=a++t
 | [],a,h=> ⟨h,[],by simp⟩
 |b::r,a,h=>by
  simp only [Xjn];obtain ⟨f,c,i⟩:=Ri a b h;obtain ⟨e,d,j⟩:=pg r _ f;exact ⟨e,c++d,by rw [j,i,Xqd]⟩
theorem Du:∀ (l a:List Nat),l.Nodup→(∀ x ∈ l,x ∉ a)→l.foldl BX a=a++l
 | [],a,_,_=>by simp
 | b::r,a,h,hd=>by
  rw [Xkd] at h;have e:rQ a b=false:=by
   cases c:rQ a b with
   |false=>rfl
   |true=>exact absurd (jK.1 c) (hd b (by simp))
  simp only [Xjn];have:BX a b=a++ [b]:=by simp [BX,e]
  rw [this,Du r _ h.2]
  ·simp
  ·intro x d c;rcases List.mem_append.1 c with c|c
   ·exact hd x (by simp [d]) c
   ·simp at c;subst c;exact h.1 d
theorem SL (l:List Nat):jk l=l.foldl BX []:=rfl
theorem Ou (n:Nat) (l:List Nat):(jk (Xq6 n++l)).Nodup∧∃ t,jk (Xq6 n++l)=Xq6 n++t:=by
 rw [SL,List.foldl_append,Du (Xq6 n) [] Xz8 (by simp),Xqk];exact pg l _ Xz8
theorem tZ (rd:dG):∀ (n:Nat) (l:List Nat),l.Nodup→(tq rd n l).Nodup∧∃ t,tq rd n l=l++t
 |0,l,h=> ⟨h,[],by simp [tq]⟩
 | n+1,l,h=>by
  simp only [tq];split
  ·exact ⟨h,[],by simp⟩
  ·obtain ⟨f,a,e⟩:=pg (l.flatMap fun b=>match rd b with|some B=>(match B.pr with|true=> []|false=>bQ B.cells)|none=> []) l h;obtain ⟨d,c,i⟩:=tZ rd n _ f;refine ⟨d,a++c, ?_⟩;exact i.trans (by rw [e,Xqd])
theorem Hm {f:Nat→AV}:∀ (keep:List Nat) (t:Nat),aA (keep.map fun t=>(t,f t)) t=if t ∈ keep then some (f t) else none
 | [],t=>by simp [aA]
 | a::r,t=>by
  simp only [Xqh,aA,Hm r t];cases h:Xqq a t with
  |true=>have:=aJ h;subst this;simp
  |false=>
   have b:t ≠ a:=by intro e;subst e;simp at h
   simp [b]
theorem BB {rd:dG} {mk:Nat→bg→bg}:∀ (ids:List Nat) (j p:Nat),aA ((ids.zipIdx j).filterMap fun (b,p)=>(rd b).map fun B=>(p,mk p B)) p=if j≤p then (ids[p - j]?).bind fun b=>(rd b).map (mk p) else none
 | [],j,p=>by simp [aA]
 | a ::r,j,p=>by
  have f:=BB (rd:=rd) (mk:=mk) r (j+1) p;rw [List.zipIdx_cons];cases c:rd a with
  | none=>
   rw [Xvo (by simp [c]),f];by_cases hj:j+1≤p
   ·rw [if_pos hj,if_pos (by omega)];obtain ⟨d,hd⟩:∃ d,p - j=d+1:=⟨p - j - 1,by omega⟩
    rw [hd,Xj4,show p - (j+1)=d by omega]
   ·rw [if_neg hj];by_cases hjp:j≤p
    ·rw [if_pos hjp,show p - j=0 by omega];simp [c]
    ·rw [if_neg hjp]
  | some B=>
   rw [Xvp (by simp [c];rfl)];simp only [aA];cases h:Xqq j p with
   |true=>have:=aJ h;subst this;simp [c]
   | false=>
    have i:j ≠ p:=by intro e;subst e;simp at h
    simp only [f];by_cases hj:j+1≤p
    ·rw [if_pos hj,if_pos (by omega)];obtain ⟨d,hd⟩:∃ d,p - j=d+1:=⟨p - j - 1,by omega⟩
     rw [hd,Xj4,show p - (j+1)=d by omega]
    ·rw [if_neg hj,if_neg (by omega)]
theorem Hu:∀ {l:List Nat},l.Nodup→rW l=true
 | [],_=>rfl
 |b::r,h=>by
  rw [Xkd] at h;simp only [rW,π,Xqo];refine ⟨?_,Hu h.2⟩;cases a:rQ r b with
  |false=>rfl
  |true=>exact absurd (jK.1 a) h.1
section
variable {P:Program} {ap:AP} {H:di}
theorem JP {g g':dG} {m c:aZ} {S S':aT} {ρ:Nat→Nat→Option (Nat × Nat)} (b:oQ S S') (h:sO g m g' c ρ):∀ {l:List (Nat × List AV)} {ds:List Deferred},h_ g m S l ds→h_ g' c S' (l.map fun d=>(d.1,mZ ρ d.2)) ds
 | [],[],_=>by simp [h_]
 |d::r,cd::cr,p=>by
  simp only [h_] at p;obtain ⟨⟨a,e,i⟩,f⟩:=p;simp only [Xqh,h_];exact ⟨⟨a,e,kP b h _ i⟩,JP b h f⟩
 | [],_::_,p=>by simp [h_] at p
 |_::_,[],p=>by simp [h_] at p
theorem rX {c:List bg} {keep:List Nat} {s:St} {nt:Nat} {m m0:aZ} {S S0:aT} {w w0:World} {a:Act} (f:Fr (bH c) m0 S0 w0 (aA s.hp) m S w) (G:FR ap s.env s.hp s.dfs nt m S w a):
  ∃ m',Fr (bH c) m0 S0 w0 (aA (norm c.length keep s).hp) m' S w∧FR ap (norm c.length keep s).env (norm c.length keep s).hp (norm c.length keep s).dfs nt m' S w a:=by
 obtain ⟨_,t0,T⟩:=tZ (aA s.hp) 20 (Xq6 c.length) Xz8;generalize hroots:t0++(D7 keep s.env++s.dfs.flatMap (fun d=>bQ d.2))=roots;have hroots':tq (aA s.hp) 20 (Xq6 c.length)++D7 keep s.env++s.dfs.flatMap (fun d=>bQ d.2)=Xq6 c.length++roots:=by rw [← hroots,T];simp only [Xqd]
 obtain ⟨U,t1,M⟩:=Ou c.length roots;obtain ⟨V,t2,N⟩:=tZ (aA s.hp) 20 _ U;rw [M,Xqd] at N;have hsome:∀ b,b<c.length→∃ B0 B,bH c b=some B0∧aA s.hp b=some B∧B.esz=B0.esz∧((B.ver=B0.ver∧m b=m0 b)∨B0.ver<B.ver):=by
  intro b A;obtain ⟨B,n,r⟩:=f.ge b c[b] (by simp [bH,A]);exact ⟨c[b],B,by simp [bH,A],n,r⟩
 generalize l:(tq (aA s.hp) 20 (jk (Xq6 c.length++roots))).filter (fun b=>(aA s.hp b).isSome)=ids;have Q:ids.Nodup:=by rw [← l];exact V.filter _
 have D:=Hu Q;have x:∃ t,ids=Xq6 c.length++t:=by
  rw [← l,M,N,List.filter_append];refine ⟨_,congrArg (· ++_) ?_⟩;rw [List.filter_eq_self];intro b A;obtain ⟨_,B,_,r,_⟩:=hsome b (by simpa using A);simp [r]
 obtain ⟨t,x⟩:=x;have y:∀ b,b<c.length→ids[b]? =some b:=by
  intro b A;rw [x,Xxd (by simpa using A)];simp [A]
 have J:∀ (p b:Nat),ids[p]? =some b→∃ B,aA s.hp b=some B:=by
  intro p b hp;have:=Xqj hp;rw [← l,Xw9] at this;exact Option.isSome_iff_exists.1 this.2
 let ρ:Nat→Nat→Option (Nat × Nat):=fun b v=>match aA s.hp b with
  |some B=>match Xqq B.ver v with
   |true=>(qi ids b).map fun p=>(p,match Xja p c.length with|true=>v|false=>0)
   |false=>none
  |none=>none
 let mk:Nat→bg→bg:=fun p B=> {B with cells:=(match B.pr with|true=>B.cells|false=>mZ ρ B.cells),ver:=match Xja p c.length with|true=>B.ver|false=>0}
 have hnorm:norm c.length keep s=⟨keep.map fun t=>(t,ren ρ (s.env.get t)),ids.zipIdx.filterMap fun (b,p)=>(aA s.hp b).map fun B=>(p,mk p B),s.md,s.dfs.map fun d=>(d.1,mZ ρ d.2)⟩:=by
  unfold norm;simp only [hroots',l];rfl
 rw [hnorm];dsimp only;have C:∀ p,aA (ids.zipIdx.filterMap fun (b,p)=>(aA s.hp b).map fun B=>(p,mk p B)) p=(ids[p]?).bind fun b=>(aA s.hp b).map (mk p):=by
  intro p;rw [BB (rd:=aA s.hp) (mk:=mk) ids 0 p,if_pos (Xxk _),Nat.sub_zero]
 generalize (ids.zipIdx.filterMap fun (b,p)=>(aA s.hp b).map fun B=>(p,mk p B))=hp2 at C;have j:∀ (p:Nat) (B2:bg),aA hp2 p=some B2→∃ b B,ids[p]? =some b∧aA s.hp b=some B∧B2=mk p B:=by
  intro p B2 h;rw [C] at h;cases hp:ids[p]? with
  |none=>rw [hp] at h;cases h
  |some b=>
   rw [hp] at h;obtain ⟨B,L⟩:=J p b hp;simp only [Xw2,L,Xje,Option.some.injEq] at h;exact ⟨b,B,rfl,L,h.symm⟩
 let m2:aZ:=fun p=>m (ids.getD p 0)
 have k:∀ (p b:Nat),ids[p]? =some b→m2 p=m b:=by
  intro p b hp;show m (ids.getD p 0)=_;rw [ο,hp];rfl
 have z:sO (aA s.hp) m (aA hp2) m2 ρ:=by
  intro b ver p Y h B L hver;simp only [ρ,L] at h;split at h
  ·rename_i I;have I:=aJ I;simp only [Xqp,Prod.mk.injEq] at h;obtain ⟨q,F,rfl,rfl⟩:=h;have F:=qR F;refine ⟨mk q B, ?_, ?_,fun _=> ⟨I,k q b F,rfl⟩⟩
   ·rw [C,F];simp [L]
   ·simp only [mk];split
    ·omega
    ·exact Δ _
  ·cases h
 have E:∀ (p q b:Nat),ids[p]? =some b→ids[q]? =some b→p=q:=by
  intro p q b hp F;have e1:=pO D hp;rw [pO D F] at e1;cases e1;rfl
 refine ⟨m2, ?_, ?_, ?_, ?_,G.size⟩
 ·refine ⟨?_,f.sle,f.os,f.tape,f.output,f.size,f.rest, ?_,f.sealN⟩
  ·intro b B0 A;have u:b<c.length:=(List.getElem?_eq_some_iff.1 A).1;obtain ⟨B0',B,n,r,O,W⟩:=hsome b u;rw [A] at n;cases n;have X:Xja b c.length=true:=Xqt u;refine ⟨mk b B,by rw [C,y b u];simp [r],O, ?_⟩;simp only [mk,X];rw [k b b (y b u)];exact W
  ·intro p B2 hp;obtain ⟨b,B,n,r,rfl⟩:=j p B2 hp;rw [k p b n];rcases f.img b B r with h|⟨B0,O,W⟩
   ·exact .inl h
   ·have u:b<c.length:=(List.getElem?_eq_some_iff.1 O).1;have:=E p b b n (y b u);subst this;exact .inr ⟨B0,O,W⟩
 ·refine ⟨?_, ?_,G.srel.sealed, ?_,G.srel.glob⟩
  ·intro p q B2 B2' hp F e;obtain ⟨b,B,n,r,rfl⟩:=j p B2 hp;obtain ⟨b',B',K,R,rfl⟩:=j q B2' F;rw [k p b n,k q b' K] at e;have:=G.srel.inj b b' B B' r R e;subst this;exact E p q b n K
  ·intro p B2 hp;obtain ⟨b,B,n,r,rfl⟩:=j p B2 hp;rw [k p b n];obtain ⟨⟨cur,e,vs,rest,k1,k2,k3,k4,k5,k6⟩,k7,k8⟩:=G.srel.blk b B r;cases i:B.pr with
   |true=>exact ⟨⟨cur,e,vs,rest,k1,k2,fun _=>by simpa [mk,i] using k3 i,by simpa [mk,i] using bW _ (k3 i),k5,k6⟩,k7,by simpa [mk,i] using k8⟩
   | false=>
    have I:=kP (oQ.refl S) z _ k4;exact ⟨⟨cur,e,vs,rest,k1,k2,fun h=>by simp [mk,i] at h,by simpa [mk,i] using I,k5,k6⟩,k7,by
     have:(mk p B).cells.length=B.cells.length:=by simp only [mk,i];rw [bV k4,bV I]
     rw [this];exact k8⟩
  ·intro p B2 hp o v Z;obtain ⟨b,B,n,r,rfl⟩:=j p B2 hp;rw [k p b n] at Z;exact G.srel.own b B r o v Z
 ·intro t;simp only [ja.get,Hm];by_cases ht:t ∈ keep
  ·rw [if_pos ht];exact zt (oQ.refl S) z _ (G.env t)
  ·rw [if_neg ht];simp [VR]
 ·exact JP (oQ.refl S) z G.dfs
end
end AM
namespace AM
open Go
mutual
theorem xO {g g':dG} {m n:aZ} {S S':aT} (i:oQ S S'):∀ (x:AV) {v:Value},(∀ b ∈ d_ x,g' b=g b∧n b=m b)→VR g m S x v→VR g' n S' x v
 | .int _ _,_,_,p=>by simpa only [VR,PR] using p
 | .bool _,_,_,p=>by simpa only [VR,PR] using p
 | .str _,_,_,p=>by simpa only [VR,PR] using p
 | .nilS,_,_,p=>by simpa only [VR,PR] using p
 | .nilP,_,_,p=>by simpa only [VR,PR] using p
 | .nilF,_,_,p=>by simpa only [VR,PR] using p
 | .nilI,_,_,p=>by simpa only [VR,PR] using p
 | .sl _ _ _,_,_,p=>by simp only [VR] at p ⊢;exact dn i _ p
 | .pp _ _,_,_,p=>by simp only [VR] at p ⊢;exact dn i _ p
 | .mp _ _,_,_,p=>by simp only [VR] at p ⊢;exact dn i _ p
 | .dead,_,_,_=>by simp only [VR]
 | .own _ _ _,_,_,p=>by simp only [VR] at p
 | .ref b _ _ _,_,h,p=>by
  obtain ⟨j,k⟩:=h b (by simp [d_]);simp only [VR] at p ⊢;rw [j,k];exact p
 | .ptr b _ _,_,h,p=>by
  obtain ⟨j,k⟩:=h b (by simp [d_]);simp only [VR] at p ⊢;rw [j,k];exact p
 | .mr b _,_,h,p=>by
  obtain ⟨j,k⟩:=h b (by simp [d_]);simp only [VR] at p ⊢;rw [j,k];exact p
 | .agg l,_,h,p=>by
  simp only [VR] at p ⊢;obtain ⟨vs,e,q⟩:=p;exact ⟨vs,e,nN i l (fun b d=>h b (by simpa [d_] using d)) q⟩
 | .tup l,_,h,p=>by
  simp only [VR] at p ⊢;obtain ⟨vs,e,q⟩:=p;exact ⟨vs,e,nN i l (fun b d=>h b (by simpa [d_] using d)) q⟩
 | .fn f a c,_,h,p=>by
  simp only [VR] at p ⊢;obtain ⟨o,s,e,q,r⟩:=p;exact ⟨o,s,e,nN i a (fun b d=>h b (by simp [d_,d])) q,nN i c (fun b d=>h b (by simp [d_,d])) r⟩
 | .ifc t x,_,h,p=>by
  simp only [VR] at p ⊢;obtain ⟨u,e,q⟩:=p;exact ⟨u,e,xO i x (fun b d=>h b (by simpa [d_] using d)) q⟩
theorem nN {g g':dG} {m d:aZ} {S S':aT} (c:oQ S S'):∀ (l:List AV) {vs:List Value},(∀ b ∈ bQ l,g' b=g b∧d b=m b)→bi g m S l vs→bi g' d S' l vs
 | [],[],_,_=>by simp only [bi]
 |x::r,v::vs,h,p=>by
  simp only [bi] at p ⊢;exact ⟨xO c x (fun b a=>h b (by simp [bQ,a])) p.1,nN c r (fun b a=>h b (by simp [bQ,a])) p.2⟩
 | [],_::_,_,p=>by simp [bi] at p
 |_::_,[],_,p=>by simp [bi] at p
end
theorem nD {g:dG} {m:aZ} {S:aT} {x:AV} {v:Value} (h:(d_ x).isEmpty=true) (d:VR g m S x v):PR S x v:=by
 have c:d_ x= []:=by simpa using h
 exact nV (m:=m) x (xO (oQ.refl S) x (fun b a=>by rw [c] at a;cases a) d)
def PN (nt:Nat) (o:Oper):Bool:=match o.dst with|some d=>Xja d nt|none=>true
def dM (nt:Nat):Code→Bool
 | .region _ ops _=>ops.toList.all (PN nt)
 | .seq a b=>dM nt a && dM nt b
 | .cond _ a b=>dM nt a && dM nt b
 | .block _ b=>dM nt b
 | .loop b=>dM nt b
 | .scope b=>dM nt b
 |_=>true
section
variable {P:Program} {ap:AP} {H:di}
def Uo (hp:Hp) (m:aZ) (S:aT) (Q:Exit→Act→World→Prop) (a:Act) (w:World):bG→Prop
 | .normal=>Q .normal a w
 | .exit id=>Q (.exit id) a w
 | .ret=>Q .ret a w
 | .panic v=> ∀ cv,VR (aA hp) m S v cv→Q (.panic [{v:=cv,recovered:=false}]) a w
def XA (ap:AP) (h0:List bg) (m0:aZ) (S0:aT) (w0:World) (nt:Nat) (s':St) (e:bG) (Q:Exit→Act→World→Prop):Prop:=
 ∀ m' S' w' a',Fr (bH h0) m0 S0 w0 (aA s'.hp) m' S' w'→FR ap s'.env s'.hp s'.dfs nt m' S' w' a'→Uo s'.hp m' S' Q a' w' e
def ak (P:Program) (ap:AP) (h0:List bg) (nt:Nat) (code:Code) (s:St) (e:bG) (s':St):Prop:=
 s.md= .dead→s'.md= .dead∧∀ m0 S0 w0 m S w a,Fr (bH h0) m0 S0 w0 (aA s.hp) m S w→FR ap s.env s.hp s.dfs nt m S w a→∀ Q,XA ap h0 m0 S0 w0 nt s' e Q→code.wp P Q a w
theorem ak.still {j:List bg} {nt:Nat} {b:Code} {s:St} {e:bG} (h:∀ (Q:Exit→Act→World→Prop) hp m S a w,Uo hp m S Q a w e→b.wp P Q a w):ak P ap j nt b s e s:=
 fun c=> ⟨c,fun _ _ _ m S w a d i Q f=>h Q s.hp m S a w (f m S w a d i)⟩
theorem Em {k:List bg} {nt:Nat} {b:Code} {f:St→Cx→R (bG × St)} (l:∀ s e s' c c',f s c= .ok (e,s') c'→c'.Ok→c.Ok∧ak P ap k nt b s e s'):
  ∀ (n:Nat) (s:St) (e:bG) (s':St) (c c':Cx),P_ f n s c= .ok (e,s') c'→c'.Ok→c.Ok∧(s.md= .dead→s'.md= .dead∧∀ m0 S0 w0 m S w a,Fr (bH k) m0 S0 w0 (aA s.hp) m S w→FR ap s.env s.hp s.dfs nt m S w a→∀ Q,XA ap k m0 S0 w0 nt s' e Q→Code.rounds P b Q n a w)
 |0,s,e,s',c,c',h,hc=>by cases h
 | n+1,s,e,s',c,c',h,hc=>by
  simp only [P_] at h;obtain ⟨⟨C,F⟩,D,E,h⟩:=R.bind_ok h;dsimp only at h;have hother:C ≠ .normal→R.ok (C,F) D=R.ok (e,s') c'→c.Ok∧(s.md= .dead→s'.md= .dead∧∀ m0 S0 w0 m S w a,Fr (bH k) m0 S0 w0 (aA s.hp) m S w→FR ap s.env s.hp s.dfs nt m S w a→∀ Q,XA ap k m0 S0 w0 nt s' e Q→Code.rounds P b Q (n+1) a w):=by
   intro u I;cases I;obtain ⟨i,z⟩:=l _ _ _ _ _ E hc;refine ⟨i,fun j=> ?_⟩;obtain ⟨p,q⟩:=z j;refine ⟨p,fun m0 S0 w0 m S w a d A Q x=>q m0 S0 w0 m S w a d A _ ?_⟩;intro B S' w' t r o;have:=x B S' w' t r o;cases e with
   |normal=>exact absurd rfl u
   |exit id=>exact this
   |ret=>exact this
   |panic v=>exact this
  cases C with
  |normal=>
   dsimp only at h;obtain ⟨y,K⟩:=Em l n F e s' D c' h hc;obtain ⟨i,z⟩:=l _ _ _ _ _ E y;refine ⟨i,fun j=> ?_⟩;obtain ⟨p,q⟩:=z j;obtain ⟨r,o⟩:=K p;refine ⟨r,fun m0 S0 w0 m S w a d A Q x=>q m0 S0 w0 m S w a d A _ ?_⟩;intro B S' w' t G J;exact o m0 S0 w0 B S' w' t G J Q x
  |exit id=>exact hother (by simp) h
  |ret=>exact hother (by simp) h
  |panic v=>exact hother (by simp) h
theorem eY (q:iY P ap) (i:P.follows .mixedOrders=true) (K:mW P ap H) {U:List bg} {keep:List Nat} {lf nt:Nat}:∀ (code:Code),dM nt code=true→∀ (s:St) (e:bG) (s':St) (c p:Cx),lF ap H U.length keep lf code s c= .ok (e,s') p→p.Ok→c.Ok∧ak P ap U nt code s e s'
 | .skip,_,s,e,s',c,p,h,n=>by
  cases h;exact ⟨n,ak.still fun Q hp m S a w r=>wp_skip r⟩
 | .label l,_,s,e,s',c,p,h,n=>by
  cases h;exact ⟨n,ak.still fun Q hp m S a w r=>wp_label r⟩
 | .exit id,_,s,e,s',c,p,h,n=>by
  cases h;exact ⟨n,ak.still fun Q hp m S a w r=>wp_exit r⟩
 | .ret,_,s,e,s',c,p,h,n=>by
  cases h;exact ⟨n,ak.still fun Q hp m S a w r=>wp_ret r⟩
 | .region id ops draw,hd,s,e,s',c,p,h,n=>by
  have hnt:∀ o ∈ ops.toList,∀ d,o.dst=some d→d<nt:=by
   intro o ho d hod;have:=List.all_eq_true.1 hd o ho;simp only [PN,hod] at this;exact gq this
  obtain ⟨j,hr⟩:=Jq q i K hnt (id:=id) h n;refine ⟨j,fun k=> ?_⟩;obtain ⟨I,h2⟩:=hr k;refine ⟨I,fun m0 S0 w0 m S w a f E Q D=> ?_⟩;have:=h2 m S w a E Q;rw [Array.toArray_toList] at this;refine this ?_;cases e with
  |normal=>
   intro X N G S' w' F B C;obtain ⟨Z,u,A⟩:=rX (keep:=keep) (f.trans B) C;rw [← N] at u A;exact D Z S' w' F u A
  | panic v=>
   simp only [oZ];split
   ·rename_i hre;intro X N G S' w' F cv B C u;obtain ⟨Z,A,Y⟩:=rX (keep:=keep) (f.trans B) C;rw [← N] at A Y;exact D Z S' w' F A Y cv (iD _ (nD hre u))
   ·intro G S' w' F cv B C u;exact D G S' w' F (f.trans B) C cv u
  |exit id=>trivial
  |ret=>trivial
 | .seq x y,hd,s,e,s',c,p,h,n=>by
  simp only [dM,π] at hd;simp only [lF] at h;obtain ⟨⟨T,X⟩,O,I,h⟩:=R.bind_ok h;dsimp only at h;have hother:T ≠ .normal→R.ok (T,X) O=R.ok (e,s') p→c.Ok∧ak P ap U nt (.seq x y) s e s':=by
   intro M V;cases V;obtain ⟨j,L⟩:=eY q i K x hd.1 _ _ _ _ _ I n;refine ⟨j,fun k=> ?_⟩;obtain ⟨B,C⟩:=L k;refine ⟨B,fun m0 S0 w0 m S w a f E Q D=>wp_seq (C m0 S0 w0 m S w a f E _ ?_)⟩;intro G S' w' F u A;have:=D G S' w' F u A;cases e with
   |normal=>exact absurd rfl M
   |exit id=>exact this
   |ret=>exact this
   |panic v=>exact this
  cases T with
  |normal=>
   dsimp only at h;obtain ⟨J,ih⟩:=eY q i K y hd.2 _ _ _ _ _ h n;obtain ⟨j,L⟩:=eY q i K x hd.1 _ _ _ _ _ I J;refine ⟨j,fun k=> ?_⟩;obtain ⟨B,C⟩:=L k;obtain ⟨u,A⟩:=ih B;refine ⟨u,fun m0 S0 w0 m S w a f E Q D=>wp_seq (C m0 S0 w0 m S w a f E _ ?_)⟩;intro G S' w' F Y h8;exact A m0 S0 w0 G S' w' F Y h8 Q D
  |exit id=>exact hother (by simp) h
  |ret=>exact hother (by simp) h
  |panic v=>exact hother (by simp) h
 | .cond t x y,hd,s,e,s',c,p,h,n=>by
  simp only [dM,π] at hd;simp only [lF] at h;split at h
  ·rename_i bv hbv;obtain ⟨b',O,I,h⟩:=R.bind_ok h;have key:∀ (z:Code),(O.Ok→O.Ok∧z=if bv then x else y)→O.Ok∧ak P ap U nt z s e s'→c.Ok∧ak P ap U nt (.cond t x y) s e s':=by
    rintro z hzz ⟨J,ih⟩
    obtain ⟨j,hb⟩:=lI I J;refine ⟨j,fun k=> ?_⟩;obtain ⟨u,A⟩:=ih k;refine ⟨u,fun m0 S0 w0 m S w a f E Q D=>wp_cond (t:=bv) ?_ ?_⟩
    ·have:=w_ E.srel (a:=a) (env:=s.env) t (fun t _=>E.env t);rw [hbv] at this;simpa only [VR,PR] using this
    ·rw [← (hzz J).2];exact A m0 S0 w0 m S w a f E Q D
   cases b' with
   |true=>exact key x (fun W=> ⟨W,by rw [← (lI I W).2];rfl⟩) (eY q i K x hd.1 _ _ _ _ _ h n)
   |false=>exact key y (fun W=> ⟨W,by rw [← (lI I W).2];rfl⟩) (eY q i K y hd.2 _ _ _ _ _ h n)
  ·cases h
 | .block id b,hd,s,e,s',c,p,h,n=>by
  simp only [dM] at hd;simp only [lF] at h;obtain ⟨⟨T,X⟩,O,I,h⟩:=R.bind_ok h;dsimp only at h;have hcc:O=p:=by
   cases T<;>dsimp only at h
   ·cases h;rfl
   ·split at h<;>cases h<;>rfl
   ·cases h;rfl
   ·cases h;rfl
  subst hcc;obtain ⟨j,L⟩:=eY q i K b hd _ _ _ _ _ I n;refine ⟨j,fun k=> ?_⟩;obtain ⟨B,C⟩:=L k;have hs:X=s':=by
   cases T<;>dsimp only at h
   ·cases h;rfl
   ·split at h<;>cases h<;>rfl
   ·cases h;rfl
   ·cases h;rfl
  subst hs;refine ⟨B,fun m0 S0 w0 m S w a f E Q D=>wp_block (C m0 S0 w0 m S w a f E _ ?_)⟩;intro G S' w' F u A;have r:=D G S' w' F u A;cases T with
  |normal=>cases h;exact r
  |ret=>cases h;exact r
  |panic v=>cases h;exact r
  | exit id'=>
   dsimp only at h;split at h
   ·rename_i V;cases h;show Exit.inBlock id Q (.exit id') F w';simp only [Exit.inBlock,if_pos (aJ V)];exact r
   ·rename_i V;cases h;show Exit.inBlock id Q (.exit id') F w';have M:id' ≠ id:=by intro e;subst e;simp at V
    simp only [Exit.inBlock,if_neg M];exact r
 | .loop b,hd,s,e,s',c,p,h,n=>by
  simp only [dM] at hd;simp only [lF] at h;obtain ⟨j,L⟩:=Em (fun s e s' c p h n=>eY q i K b hd s e s' c p h n) lf s e s' c p h n;refine ⟨j,fun k=> ?_⟩;obtain ⟨B,C⟩:=L k;exact ⟨B,fun m0 S0 w0 m S w a f E Q D=>wp_loop_rounds lf (C m0 S0 w0 m S w a f E Q D)⟩
 | .scope b,hd,s,e,s',c,p,h,n=>by
  simp only [dM] at hd;simp only [lF] at h;obtain ⟨j,L⟩:=eY q i K b hd _ _ _ _ _ h n;refine ⟨j,fun k=> ?_⟩;obtain ⟨B,C⟩:=L k;refine ⟨B,fun m0 S0 w0 m S w a f E Q D=>wp_scope_straight (C m0 S0 w0 m S w a f E _ ?_)⟩;intro G S' w' F u A;have r:=D G S' w' F u A;cases e with
  |normal=>exact r
  |exit id=>exact r
  |ret=>exact r
  |panic v=>exact r
 | .rangeFunc _ _ _ _,_,s,e,s',c,p,h,n=>by cases h
 | .goto _,_,s,e,s',c,p,h,n=>by cases h
 | .refuse _,_,s,e,s',c,p,h,n=>by cases h
end
end AM
