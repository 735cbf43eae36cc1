/- The abstract machine over the code of the model, and the proof that it is sound. No conditions. -/
import Derived.Test.YtcjindbblhcopaaGreatDoorM2
import Derived.Orders
import Derived.LoopN
import Derived.Scope
set_option linter.unusedSimpArgs false
set_option linter.unusedVariables false
open List renaming map_cons→Xqc,getElem?_cons_succ→Xj4,filterMap_cons_none→Xvx,filterMap_cons_some→Xvy,mem_cons→Xz5,getElem?_append_left→Xxb,nil_append→Xqd,length_nil→χ,getElem?_eq_getElem→ξ,getElem?_eq_none→Xqz,mem_of_getElem?→Xqm,getD_eq_getElem?_getD→ν,getElem?_map→Xqy,append_assoc→Ψ,mem_cons_self→Xjn,mem_cons_of_mem→Xx0,drop_drop→Xjl,length_cons→μ,range'_succ→Xka,take_zero→Xkq,take_succ_cons→Xx3,eq_nil_of_length_eq_zero→Xx5,foldl_cons→Xxg,all_eq_true→Xzg,mem_zipIdx_iff_getElem?→Xj6,range→Xq1,nodup_cons→Xkm,mem_filter→Xvm,mem_range→Yxh,size_toArray→Xx9,nodup_range→Xwf,range_eq_range'→Xwc
open Nat renaming add_assoc→Xzi,beq→Xqn,le_of_not_lt→Xv8,le_refl→φ,lt_of_lt_of_le→σ,zero_add→Θ,zero_le→Xxf,le_trans→Xxa,add_zero→Xq3,blt→Xjd,ble_eq_true_of_le→Xqg,lt_trichotomy→Xjy
open Bool renaming and_eq_true→π,not_eq_true'→Xqq,or_eq_true→Xvl,not_true→Xwr,false_or→Xzk
open Option renaming map_eq_some_iff→Xqp,bind_some→Xve,map_some→Xx1,getD_some→Xvc
namespace AM
open Go
def aZ (h:List aR):bV:=fun b=>h[b]?
def gz (gh gf:bV) (m:aQ) (S:aO):Nat→List AV→List Value→Prop
 |_,[],[]=>True
 |n,.own _ k _::r,v::vs=>VR gf m S (.ref n 0 0 k) v∧gz gh gf m S (n+1) r vs
 |n,x::r,v::vs=>VR gh m S x v∧gz gh gf m S n r vs
 |_,_,_=>False
def sU (gh gf:bV) (m:aQ) (S:aO) (n:Nat):AV→Value→Prop
 | .tup l,v=> ∃ vs,v= .tuple vs.toArray∧gz gh gf m S n l vs
 | .own _ k _,v=>VR gf m S (.ref n 0 0 k) v
 |x,v=>VR gh m S x v
def iI (n:Nat):iy→List aR
 | .ret v=>(gW n v).2
 | .pan _=> []
def U_ (h':List aR) (m':aQ) (S':aO):iy→Ending→Prop
 | .ret v,e=> ∃ cv,e= .returned cv∧sU (aZ h') (aZ (h'++(gW h'.length v).2)) m' S' h'.length v cv
 | .pan v,e=> ∃ cv,e= .panicked [{v:=cv,recovered:=false}]∧VR (aZ h') m' S' v cv
structure AK (ap:AP) (h:List aR) (m:aQ) (S:aO) (w:World) (out:iy) (h':List aR) (m':aQ) (S':aO) (w':World) (e:Ending):Prop where
 srel:bF ap (aZ (h'++iI h'.length out)) m' S' w'
 fr:Fr (aZ h) m S w (aZ (h'++iI h'.length out)) m' S' w'
 out:U_ h' m' S' out e
def uJ (P:Program) (f:Nat):Prop:=∀ args w,(callFunc f args).run P w= .ok (.enter f args) w
structure aj (P:Program) (ap:AP) (f:Nat) (args:List AV) (h:List aR) (out:iy) (h':List aR):Prop where
 len:h.length≤h'.length
 ent:uJ P f
 calls:∀ m S w cargs,bF ap (aZ h) m S w→aW (aZ h) m S args cargs→Calls P f cargs.toArray w fun e w'=> ∃ m' S',AK ap h m S w out h' m' S' w' e
def gR (P:Program) (ap:AP) (H:bL):Prop:=∀ c f args h out h' md' c',H c .dead f args h= .ok (out,h',md') c'→c'.Ok→c.Ok∧aj P ap f args h out h'
section
variable {P:Program} {ap:AP} {g:bV} {m:aQ} {S:aO} {w:World}
mutual
theorem jU {m:aQ} {S:aO}:∀ (x:AV) {v:Value},VR (aZ []) m S x v→PR S x v
 | .int _ _,_,p=>by simpa only [VR] using p
 | .bool _,_,p=>by simpa only [VR] using p
 | .str _,_,p=>by simpa only [VR] using p
 | .nilS,_,p=>by simpa only [VR] using p
 | .nilP,_,p=>by simpa only [VR] using p
 | .nilF,_,p=>by simpa only [VR] using p
 | .nilI,_,p=>by simpa only [VR] using p
 | .sl _ _ _,_,p=>by simpa only [VR] using p
 | .pp _ _,_,p=>by simpa only [VR] using p
 | .mp _ _,_,p=>by simpa only [VR] using p
 | .dead,_,_=>by simp only [PR]
 | .own _ _ _,_,p=>by simp only [VR] at p
 | .ref _ _ _ _,_,p=>by simp [VR,aZ] at p
 | .ptr _ _ _,_,p=>by simp [VR,aZ] at p
 | .mr _ _,_,p=>by simp [VR,aZ] at p
 | .agg l,_,p=>by
  simp only [VR] at p;simp only [PR];obtain ⟨vs,e,q⟩:=p;exact ⟨vs,e,gZ l q⟩
 | .tup l,_,p=>by
  simp only [VR] at p;simp only [PR];obtain ⟨vs,e,q⟩:=p;exact ⟨vs,e,gZ l q⟩
 | .fn f a c,_,p=>by
  simp only [VR] at p;simp only [PR];obtain ⟨d,b,e,q,r⟩:=p;exact ⟨d,b,e,gZ a q,gZ c r⟩
 | .ifc t x,_,p=>by
  simp only [VR] at p;simp only [PR];obtain ⟨u,e,q⟩:=p;exact ⟨u,e,jU x q⟩
theorem gZ {m:aQ} {S:aO}:∀ (l:List AV) {vs:List Value},aW (aZ []) m S l vs→bZ S l vs
 | [],[],_=>by simp only [bZ]
 |x::r,v::vs,p=>by simp only [aW] at p;simp only [bZ];exact ⟨jU x p.1,gZ r p.2⟩
 | [],_::_,p=>by simp [aW] at p
 |_::_,[],p=>by simp [aW] at p
end
theorem Uu (z:bF ap g m S w) {K l:bV} {V s:aQ} {Sp S':aO} {w':World} (L:bF ap l s S' w') (q:Fr K V Sp w l s S' w') (ι:Nat→Nat)
  (hdom:∀ i Bc,K i=some Bc→∃ B,g (ι i)=some B∧V i=m (ι i))
  (hSp:jF S Sp) (hSpN:∀ k o v,Sp k o=some v→S k o=some v∨∃ b B,g b=some B∧(m b).1=k) {gN:bV} {mN:aQ} (ρ:Nat→Nat→Option (Nat × Nat)) (hρ:ol l s gN mN ρ)
  (hnew:∀ i Bc,l i=some Bc→∃ B,gN (ι i)=some B∧mN (ι i)=s i∧B.esz=Bc.esz∧B.fro=Bc.fro∧B.fz=Bc.fz∧B.pr=Bc.pr∧(Bc.pr=true→B.cells=Bc.cells)∧(Bc.pr=false→B.cells=ju ρ Bc.cells))
  (c:∀ b B,gN b=some B→(∃ i Bc,l i=some Bc∧b=ι i)∨(∃ B0,g b=some B0∧mN b=m b∧B.cells=B0.cells∧B.pr=B0.pr∧B.esz=B0.esz∧(B.fro=false→B.fz=0)∧B.fz≤B.cells.length∧(∀ i Bc,K i=some Bc→b ≠ ι i)∧(∀ o v,Sp (m b).1 o=some v→B.fro=true∧o<B.fz)))
  (hge:Ge g m gN mN):bF ap gN mN S' w'∧Fr g m S w gN mN S' w':=by
 have r:jF S S':=hSp.trans q.sle;have hcross:∀ b B0 i Bc,g b=some B0→l i=some Bc→(∀ i Bc,K i=some Bc→b ≠ ι i)→(m b).1 ≠ (s i).1:=by
  intro b B0 i Bc n a t e;have hlt:=z.lt n;rcases q.img i Bc a with d|⟨B1,d,u⟩
  ·omega
  ·obtain ⟨B2,C,G⟩:=hdom i B1 d;rw [G] at u;exact t i B1 d (z.inj b (ι i) B0 B2 n C (e.trans u))
 constructor
 ·refine ⟨?_, ?_,L.sealed, ?_,L.glob⟩
  ·intro b W B B' n T e;rcases c b B n with ⟨i,Bi,a,rfl⟩|⟨B0,h0,d,_,_,_,_,_,u,_⟩<;>rcases c W B' T with ⟨j,Bj,Q,rfl⟩|⟨B0',I,J,_,_,_,_,_,U,_⟩
   ·obtain ⟨_,_,x,_⟩:=hnew i Bi a;obtain ⟨_,_,p,_⟩:=hnew j Bj Q;rw [x,p] at e;rw [L.inj i j Bi Bj a Q e]
   ·obtain ⟨_,_,x,_⟩:=hnew i Bi a;rw [x,J] at e;exact absurd e.symm (hcross W B0' i Bi I a U)
   ·obtain ⟨_,_,p,_⟩:=hnew j Bj Q;rw [p,d] at e;exact absurd e (hcross b B0 j Bj h0 Q u)
   ·rw [d,J] at e;exact z.inj b W B0 B0' h0 I e
  ·intro b B n;rcases c b B n with ⟨i,Bi,a,rfl⟩|⟨B0,h0,d,C,G,O,Y,Z,u,_⟩
   ·obtain ⟨B1,E,x,p,R,F,e5,X,e7⟩:=hnew i Bi a;rw [n] at E;cases E;rw [x];obtain ⟨⟨cur,e,vs,rest,k1,k2,k3,k4,k5,k6⟩,k7,k8⟩:=L.blk i Bi a;cases hp:Bi.pr with
    |true=>
     have hcells:=X hp;refine ⟨⟨cur,e,vs,rest,by rw [p];exact k1,k2,fun _=>by rw [hcells];exact k3 hp,by rw [hcells];exact bu _ (k3 hp),by rw [p];exact k5,by rw [p];exact k6⟩,by rw [R,F];exact k7,by rw [F,hcells];exact k8⟩
    |false=>
     have hcells:=e7 hp;have y:=iB (jF.refl S') hρ _ k4;have M:B.cells.length=Bi.cells.length:=by rw [bI k4,hcells,bI y]
     refine ⟨⟨cur,e,vs,rest,by rw [p];exact k1,k2,(fun h=>by rw [e5,hp] at h;cases h),by rw [hcells];exact y,by rw [p];exact k5,by rw [p];exact k6⟩,by rw [R,F];exact k7,by rw [F,M];exact k8⟩
   ·rw [d];have t:∀ i Bc,K i=some Bc→(V i).1 ≠ (m b).1:=by
     intro i Bc a e;obtain ⟨B2,N,f⟩:=hdom i Bc a;rw [f] at e;exact u i Bc a (z.inj b (ι i) B0 B2 h0 N e.symm)
    obtain ⟨⟨cur,e,vs,rest,k1,k2,k3,k4,k5,k6⟩,k7,k8⟩:=z.blk b B0 h0;refine ⟨⟨cur,e,vs,rest,by rw [O];exact k1.same (q.rest _ (z.lt h0) t),k2,fun hp=>by rw [C];rw [G] at hp;exact bk r _ (k3 hp),by rw [C];exact jl r hge _ k4,by rw [O];exact k5,by rw [O];exact k6⟩,Y,Z⟩
  ·intro b B n o v y;rcases c b B n with ⟨i,Bi,a,rfl⟩|⟨B0,h0,d,C,G,O,Y,Z,u,N⟩
   ·obtain ⟨B1,E,x,p,R,F,e5,X,e7⟩:=hnew i Bi a;rw [n] at E;cases E;rw [x] at y;rw [R,F];exact L.own i Bi a o v y
   ·rw [d] at y;rcases q.sealN _ _ _ y with f|f|⟨i,Bi,a,f⟩
    ·exact N o v f
    ·have:=z.lt h0;omega
    ·obtain ⟨B2,A,D⟩:=hdom i Bi a;rw [D] at f;exact absurd (z.inj b (ι i) B0 B2 h0 A f.symm) (u i Bi a)
 ·refine ⟨hge,r,q.os,q.tape,q.output,q.size, ?_, ?_, ?_⟩
  ·intro k hk t;refine q.rest k hk fun i Bc a e=> ?_
   obtain ⟨B2,N,f⟩:=hdom i Bc a;exact t (ι i) B2 N (by rw [← f];exact e)
  ·intro b B n;rcases c b B n with ⟨i,Bi,a,rfl⟩|⟨B0,h0,d,_⟩
   ·obtain ⟨B1,E,x,_⟩:=hnew i Bi a;rw [x];rcases q.img i Bi a with d|⟨B2,d,u⟩
    ·exact .inl d
    ·obtain ⟨B3,C,G⟩:=hdom i B2 d;exact .inr ⟨B3,C,by rw [u,G]⟩
   ·exact .inr ⟨B0,h0,by rw [d]⟩
  ·intro k o v y;rcases q.sealN _ _ _ y with f|f|⟨i,Bi,a,f⟩
   ·rcases hSpN _ _ _ f with h|h
    ·exact .inl h
    ·exact .inr (.inr h)
   ·exact .inr (.inl f)
   ·obtain ⟨B2,A,D⟩:=hdom i Bi a;exact .inr (.inr ⟨ι i,B2,A,by rw [← D];exact f⟩)
structure Bf (F:AV→AV):Prop where
 own:∀ xs n e,F (.own xs n e)= .own xs n e
 tup:∀ l,F (.tup l)= .tup (l.map F)
 not:∀ x,(∀ xs n e,x ≠ .own xs n e)→(∀ xs n e,F x ≠ .own xs n e)
 notT:∀ x,(∀ l,x ≠ .tup l)→(∀ l,F x ≠ .tup l)
theorem a_ (n:Nat) {x:AV} (h:∀ xs k e,x ≠ .own xs k e) (r:List AV):dM n (x::r)=(x::(dM n r).1,(dM n r).2):=by
 cases x<;>first|rfl|exact absurd rfl (h _ _ _)
theorem fW (n:Nat) {x:AV} (h:∀ xs k e,x ≠ .own xs k e) (a:∀ l,x ≠ .tup l):gW n x=(x,[]):=by
 cases x<;>first|rfl|exact absurd rfl (h _ _ _)|exact absurd rfl (a _)
theorem bH {gh gf:bV} {n:Nat} {x:AV} (h:∀ xs k e,x ≠ .own xs k e) {r:List AV} {v:Value} {vs:List Value}:gz gh gf m S n (x::r) (v::vs)=(VR gh m S x v∧gz gh gf m S n r vs):=by
 cases x<;>first|rfl|exact absurd rfl (h _ _ _)
theorem iS {gh gf:bV} {n:Nat} {x:AV} (h:∀ xs k e,x ≠ .own xs k e) (a:∀ l,x ≠ .tup l) {v:Value}:sU gh gf m S n x v=VR gh m S x v:=by
 cases x<;>first|rfl|exact absurd rfl (h _ _ _)|exact absurd rfl (a _)
theorem gp (x:AV):(∃ xs k e,x= .own xs k e)∨(∀ xs k e,x ≠ .own xs k e):=by
 cases x<;>first|exact .inl ⟨_,_,_,rfl⟩|exact .inr (fun _ _ _ h=>by cases h)
theorem vG (x:AV):(∃ l,x= .tup l)∨(∀ l,x ≠ .tup l):=by
 cases x<;>first|exact .inl ⟨_,rfl⟩|exact .inr (fun _ h=>by cases h)
theorem nN {F:AV→AV} (c:Bf F):∀ (l:List AV) (a b:Nat),(dM a (l.map F)).2=(dM b l).2
 | [],a,b=>rfl
 | x::r,a,b=>by
  rcases gp x with ⟨d,k,e,rfl⟩|hx
  ·simp only [Xqc,c.own,dM];rw [nN c r (a+1) (b+1)]
  ·rw [Xqc,a_ a (c.not x hx),a_ b hx];exact nN c r a b
theorem wm {F:AV→AV} (c:Bf F) (x:AV) (a b:Nat):(gW a (F x)).2=(gW b x).2:=by
 rcases gp x with ⟨d,k,e,rfl⟩|hx
 ·rw [c.own];rfl
 ·rcases vG x with ⟨l,rfl⟩|ht
  ·rw [c.tup];simp only [gW];exact nN c l a b
  ·rw [fW a (c.not x hx) (c.notT x ht),fW b hx ht]
theorem pT {F:AV→AV} (a:Bf F) {gh gf gN:bV} {m mN:aQ} {S:aO} {n nid:Nat} (b:∀ x v,VR gh m S x v→VR gN mN S (F x) v) (c:∀ i k v,VR gf m S (.ref (n+i) 0 0 k) v→VR gN mN S (.ref (nid+i) 0 0 k) v):
  ∀ (l:List AV) (vs:List Value) (j:Nat),gz gh gf m S (n+j) l vs→aW gN mN S (dM (nid+j) (l.map F)).1 vs
 | [],[],j,_=>by simp [dM,aW]
 | x::r,v::vs,j,h=>by
  rcases gp x with ⟨d,k,e,rfl⟩|hxo
  ·simp only [gz] at h;simp only [Xqc,a.own,dM,aW];exact ⟨c j k v h.1,by have:=pT a b c r vs (j+1);rw [← Xzi,← Xzi] at this;exact this h.2⟩
  ·rw [bH hxo] at h;rw [Xqc,a_ _ (a.not x hxo)];simp only [aW];exact ⟨b x v h.1,pT a b c r vs j h.2⟩
 | [],_::_,_,h=>by simp [gz] at h
 |x::r,[],_,h=>by cases x<;>simp [gz] at h
theorem zI {F:AV→AV} (a:Bf F) {gh gf gN:bV} {m mN:aQ} {S:aO} {n nid:Nat} (c:∀ x v,VR gh m S x v→VR gN mN S (F x) v) (b:∀ i k v,VR gf m S (.ref (n+i) 0 0 k) v→VR gN mN S (.ref (nid+i) 0 0 k) v)
  {x:AV} {v:Value} (h:sU gh gf m S n x v):VR gN mN S (gW nid (F x)).1 v:=by
 rcases gp x with ⟨d,k,e,rfl⟩|hxo
 ·simp only [sU] at h;rw [a.own];exact b 0 k v h
 ·rcases vG x with ⟨l,rfl⟩|ht
  ·simp only [sU] at h;obtain ⟨vs,e,h⟩:=h;rw [a.tup];simp only [gW,VR];exact ⟨vs,e,pT a c b l vs 0 h⟩
  ·rw [iS hxo ht] at h;rw [fW _ (a.not x hxo) (a.notT x ht)];exact c x v h
theorem EM:Bf id:=⟨fun _ _ _=>rfl,fun l=>by simp,fun _ h=>h,fun _ h=>h⟩
theorem Ft (ρ:Nat→Nat→Option (Nat × Nat)):∀ l,ju ρ l=l.map (ren ρ)
 | []=>rfl
 |x::r=>by simp [ju,Ft ρ r]
theorem BL (ρ:Nat→Nat→Option (Nat × Nat)):Bf (ren ρ):=by
 refine ⟨fun _ _ _=>rfl,fun l=>by simp [ren,Ft], ?_, ?_⟩
 ·intro x h b n e a;cases x<;>simp only [ren] at a<;>first
   |(cases a;done)
   |(split at a<;>cases a;done)
   |exact h _ _ _ rfl
 ·intro x h l a;cases x<;>simp only [ren] at a<;>first
   |(cases a;done)
   |(split at a<;>cases a;done)
   |exact h _ rfl
theorem uW:∀ (bs:List aR) (n b:Nat),ax (zo n bs) b=if n≤b then bs[b - n]? else none
 | [],n,b=>by simp [zo,ax]
 | B::r,n,b=>by
  simp only [zo,ax];cases h:Xqn n b with
  |true=>
   have:=aK h;subst this;simp
  | false=>
   have a:n ≠ b:=by intro e;subst e;simp at h
   rw [uW r (n+1) b];by_cases hle:n≤b
   ·rw [if_pos hle,if_pos (show n+1≤b by omega)];obtain ⟨d,hd⟩:∃ d,b - n=d+1:=⟨b - n - 1,by omega⟩
    rw [hd,Xj4,show b - (n+1)=d by omega]
   ·rw [if_neg hle,if_neg (show ¬ n+1≤b by omega)]
theorem BR {rd:bV} {mk:aR→aR}:∀ (fp:List Nat) (b:Nat),ax (fp.filterMap fun b=>(rd b).map fun B=>(b,mk B)) b=if b ∈ fp then (rd b).map mk else none
 | [],b=>by simp [ax]
 | a::r,b=>by
  have f:=BR (rd:=rd) (mk:=mk) r b;cases c:rd a with
  |none=>
   rw [Xvx (by simp [c]),f];by_cases hab:b=a
   ·subst hab;simp [c]
   ·simp [hab]
  | some B=>
   rw [Xvy (by simp [c];rfl)];simp only [ax];cases h:Xqn a b with
   |true=>have:=aK h;subst this;simp [c]
   |false=>
    have d:b ≠ a:=by intro e;subst e;simp at h
    simp only [f,Xz5,d,false_or]
end
end AM
namespace AM
open Go
def Va (g:bV) (m:aQ) (S:aO):iy→Ending→Prop
 | .ret v,e=> ∃ cv,e= .returned cv∧VR g m S v cv
 | .pan v,e=> ∃ cv,e= .panicked [{v:=cv,recovered:=false}]∧VR g m S v cv
def PN (ap:AP) (g:bV) (m:aQ) (S:aO) (w:World) (out:iy) (ups:List (Nat × aR)) (e:Ending) (w':World):Prop:=
 ∃ m' S',bF ap (cD g ups) m' S' w'∧Fr g m S w (cD g ups) m' S' w'∧Va (cD g ups) m' S' out e
theorem du {h a:List aR} {b:Nat} (c:b<h.length):aZ (h++a) b=aZ h b:=by
 simp [aZ,Xxb c]
theorem fR {h a:List aR} {b:Nat} (c:h.length≤b):aZ (h++a) b=aZ a (b - h.length):=by
 simp [aZ,List.getElem?_append_right c]
def mZ (l:List aR):Prop:=∀ B ∈ l,B.pr=true∧B.fro=false∧B.ver=0
theorem nO:∀ (l:List AV) (n:Nat),mZ (dM n l).2
 | [],n=>by simp [dM,mZ]
 | x::r,n=>by
  rcases gp x with ⟨b,k,e,rfl⟩|hx
  ·simp only [dM];intro B a;rcases List.mem_cons.1 a with rfl|a
   ·exact ⟨rfl,rfl,rfl⟩
   ·exact nO r (n+1) B a
  ·rw [a_ n hx];exact nO r n
theorem Fs (x:AV) (n:Nat):mZ (gW n x).2:=by
 rcases gp x with ⟨b,k,e,rfl⟩|hx
 ·intro B a;simp [gW] at a;subst a;exact ⟨rfl,rfl,rfl⟩
 ·rcases vG x with ⟨l,rfl⟩|ht
  ·simp only [gW];exact nO l n
  ·rw [fW n hx ht];simp [mZ]
theorem wk (o:iy) (n:Nat):mZ (iI n o):=by
 cases o with
 |ret v=>exact Fs v n
 |pan v=>simp [iI,mZ]
section
variable {P:Program} {ap:AP} {g:bV} {m:aQ} {S:aO} {w:World}
def Du (nid:Nat) (F:AV→AV):iy→iy
 | .ret v=> .ret (gW nid (F v)).1
 | .pan v=> .pan (F v)
theorem vL (l:bF ap g m S w) {rd:bV} (j:∀ b B,rd b=some B→g b=some B) {L:List Nat} (U:∀ b B,rd b=some B→b ∈ L) {nid:Nat} {args args':List AV} {cargs:List Value} {out:iy}
  (ha:iq (frz rd 6) args=some args') (hv:aW g m S args cargs) {C:List Value→(Ending→World→Prop)→Prop} (hmono:∀ cargs R R',C cargs R→(∀ e w',R e w'→R' e w')→C cargs R')
  (f:∀ m1 S1,jF S S1→bF ap (aZ []) m1 S1 w→aW (aZ []) m1 S1 args' cargs→C cargs fun e w'=> ∃ m' S',AK ap [] m1 S1 w out [] m' S' w' e) (hfr:∀ i,i<(iI 0 out).length→g (nid+i)=none):
  C cargs fun e w'=>PN ap g m S w (Du nid id out) (zo nid (iI 0 out)++L.filterMap fun b=>(rd b).map fun B=>(b,{B with fro:=true,fz:=B.cells.length})) e w':=by
 have V:bZ (bY S m rd w) args' cargs:=oK (fun x v y a d=>iV l j 6 x v y a d) ha hv;have s:=jP S m rd w
 let m0:aQ:=fun _=>(0,0)
 have T:bF ap (aZ []) m0 (bY S m rd w) w:=by
  refine ⟨fun b b' B B' h=>by simp [aZ] at h,fun b B h=>by simp [aZ] at h,fun k o v h=>lD l h,fun b B h=>by simp [aZ] at h, ?_⟩;intro k xs hk;obtain ⟨vs,a,d⟩:=l.glob k xs hk;exact ⟨vs,bk s _ a,d.mono s⟩
 refine hmono _ _ _ (f m0 (bY S m rd w) s T (bu _ V)) ?_
 rintro e w' ⟨m',S',hF⟩
 obtain ⟨A,q,p⟩:=hF;simp only [Xqd,χ] at A q p;generalize F:iI 0 out=bs at A q hfr;have I:mZ bs:=F ▸ wk out 0
 let gN:bV:=cD g (zo nid bs++L.filterMap fun b=>(rd b).map fun B=>(b,{B with fro:=true,fz:=B.cells.length}))
 let mN:aQ:=fun b=>if nid≤b∧b - nid<bs.length then m' (b - nid) else m b
 have t:∀ b,gN b=if nid≤b∧b - nid<bs.length then bs[b - nid]? else match rd b with|some B=>some {B with fro:=true,fz:=B.cells.length}|none=>g b:=by
  intro b;show cD g _ b=_;unfold cD;have O:∀ mk:aR→aR,(if b ∈ L then (rd b).map mk else none)=(rd b).map mk:=by
   intro mk;split
   ·rfl
   ·rename_i c;cases r:rd b with
    |none=>rfl
    |some B=>exact absurd (U b B r) c
  rw [eJ,uW,BR,O];by_cases a:nid≤b
  ·by_cases d:b - nid<bs.length
   ·have f:nid≤b∧b - nid<bs.length:=⟨a,d⟩
    rw [if_pos a,if_pos f,ξ d]
   ·have f:¬ (nid≤b∧b - nid<bs.length):=fun h=>d h.2
    rw [if_pos a,if_neg f,Xqz (Xv8 d)];cases rd b<;>rfl
  ·have f:¬ (nid≤b∧b - nid<bs.length):=fun h=>a h.1
   rw [if_neg a,if_neg f];cases rd b<;>rfl
 have hnidg:∀ b B,g b=some B→¬ (nid≤b∧b - nid<bs.length):=by
  rintro b B c ⟨a,d⟩
  have:=hfr (b - nid) d;rw [show nid+(b - nid)=b by omega,c] at this;cases this
 have W:Ge g m gN mN:=by
  intro b B c;have hn:=hnidg b B c;have K:mN b=m b:=if_neg hn;rw [t,if_neg hn];cases r:rd b with
  |none=>exact ⟨B,c,rfl,.inl ⟨rfl,K⟩⟩
  |some B1=>
   have:=j b B1 r;rw [c] at this;cases this;exact ⟨_,rfl,rfl,.inl ⟨rfl,K⟩⟩
 have z:∀ i B,bs[i]? =some B→gN (nid+i)=some B∧mN (nid+i)=m' i:=by
  intro i B D;have hl:=(List.getElem?_eq_some_iff.1 D).1;have f:nid≤nid+i∧nid+i - nid<bs.length:=by omega
  refine ⟨by rw [t,if_pos f,show nid+i - nid=i by omega];exact D, ?_⟩;show (if _ then _ else _)=_;rw [if_pos f,show nid+i - nid=i by omega]
 obtain ⟨N,Y⟩:=Uu (g:=g) (m:=m) (S:=S) (w:=w) l A q (fun i=>nid+i) (fun i Bc h=>by simp [aZ] at h) s
  (fun k o v h=>(dO h).imp id fun ⟨_,b,B,a,d,_⟩=> ⟨b,B,j b B a,d⟩) (gN:=gN) (mN:=mN) (fun i v=>some (nid+i,v))
  (by
   intro b ver b' ver' h B hB E;simp only [Option.some.injEq,Prod.mk.injEq] at h;obtain ⟨rfl,rfl⟩:=h;obtain ⟨a,d⟩:=z b B hB;exact ⟨B,a,E,fun e=> ⟨e,d,rfl⟩⟩)
  (by
   intro i Bc D;obtain ⟨a,d⟩:=z i Bc D;exact ⟨Bc,a,d,rfl,rfl,rfl,rfl,fun _=>rfl,fun hp=>by rw [(I Bc (Xqm D)).1] at hp;cases hp⟩)
  (by
   intro b B c;by_cases f:nid≤b∧b - nid<bs.length
   ·rw [t,if_pos f] at c;exact .inl ⟨b - nid,B,c,by omega⟩
   ·have K:mN b=m b:=if_neg f;rw [t,if_neg f] at c;right;cases r:rd b with
    | none=>
     rw [r] at c;have c:g b=some B:=c;refine ⟨B,c,K,rfl,rfl,rfl,(l.blk b B c).fz0,(l.blk b B c).fzle,(fun i Bc h=>by simp [aZ] at h), ?_⟩;intro o v Z;rcases dO Z with h|⟨_,M,B1,a,d,_⟩
     ·exact l.own b B c o v h
     ·have:=l.inj M b B1 B (j _ _ a) c d;subst this;rw [a] at r;cases r
    | some B1=>
     rw [r] at c;have c:some {B1 with fro:=true,fz:=B1.cells.length}=some B:=c;cases c;have u:=j b B1 r;refine ⟨B1,u,K,rfl,rfl,rfl,(fun h=>by cases h),φ _,(fun i Bc h=>by simp [aZ] at h), ?_⟩;intro o v Z;refine ⟨rfl, ?_⟩;rcases dO Z with h|⟨_,M,B2,a,d,X⟩
     ·exact σ (l.own b B1 u o v h).2 (l.blk b B1 u).fzle
     ·have:=l.inj M b B2 B1 (j _ _ a) u d;subst this;rw [a] at r;cases r;exact X)
  W
 refine ⟨mN,S',N,Y, ?_⟩;show Va gN mN S' (Du nid id out) e;cases out with
 |ret v=>
  obtain ⟨cv,Q,a⟩:=p;refine ⟨cv,Q, ?_⟩;have J:(gW 0 v).2=bs:=F;simp only [χ,Xqd,J] at a;refine zI (n:=0) EM (fun x v G=>eW x (jU x G)) ?_ a;intro i k v G;rw [Θ] at G;simp only [VR] at G ⊢;obtain ⟨B,d,X,h4,h5⟩:=G;obtain ⟨h6,h7⟩:=z i B d;exact ⟨B,h6,X,h4,by rw [h7];exact h5⟩
 |pan v=>
  obtain ⟨cv,Q,a⟩:=p;exact ⟨cv,Q,eW _ (jU _ a)⟩
end
end AM
namespace AM
open Go
theorem Fa {b:Nat} {r:List Nat} (h:nK (b::r)=true):b ∉ r∧nK r=true:=by
 simp only [nK,π,Xqq] at h;refine ⟨fun a=> ?_,h.2⟩;rw [fA.2 a] at h;cases h.1
theorem mL:∀ {l:List Nat} {b p:Nat},lN l b=some p→l[p]? =some b
 | [],b,p,h=>by simp [lN] at h
 | c::r,b,p,h=>by
  simp only [lN] at h;split at h
  ·rename_i d;cases h;rw [aK d];rfl
  ·simp only [Xqp] at h;obtain ⟨q,a,rfl⟩:=h;simpa using mL a
theorem lm:∀ {l:List Nat} {b p:Nat},nK l=true→l[p]? =some b→lN l b=some p
 | [],b,p,_,h=>by simp at h
 |c::r,b,0,hn,h=>by simp at h;subst h;simp [lN]
 | c::r,b,p+1,hn,h=>by
  obtain ⟨d,f⟩:=Fa hn;have h:r[p]? =some b:=by simpa using h
  have a:Xqn c b=false:=by
   cases e:Xqn c b with
   |false=>rfl
   |true=>exact absurd (aK e ▸ Xqm h) d
  simp [lN,a,lm f h]
theorem EX {mk:Nat→aR→aR}:∀ (fp:List Nat) (h':List aR) (b:Nat),ax ((F5 fp h').map fun (b,B)=>(b,mk b B)) b=(lN fp b).bind fun p=>(h'[p]?).map (mk b)
 | [],h',b=>by cases h'<;>simp [F5,ax,lN]
 |a::r,[],b=>by
  simp only [F5,List.map_nil,ax,lN];cases Xqn a b with
  |true=>rfl
  |false=>cases lN r b<;>rfl
 | a::r,B::q,b=>by
  simp only [F5,Xqc,ax,lN];cases h:Xqn a b with
  |true=>have:=aK h;subst this;rfl
  |false=>
   simp only [EX r q b];cases lN r b<;>simp
section
variable {P:Program} {ap:AP} {g:bV} {m:aQ} {S:aO} {w:World}
def DV (ρ:Nat→Nat→Option (Nat × Nat)) (B:aR):aR:={B with cells:=(match B.pr with|true=>B.cells|false=>ju ρ B.cells),ver:=0}
theorem ar1 {a b n i:Nat} (h:b≤a):n+(a+i - b)=n+(a - b)+i:=by omega
theorem ar2 {a b i:Nat} (h:b≤a):b+(a+i - b)=a+i:=by omega
theorem Qf {ρ:Nat→Nat→Option (Nat × Nat)} {l:List aR} (h:mZ l):l.map (wD ρ 0)=l:=by
 induction l with
 |nil=>rfl
 |cons B r ih=>
  rw [Xqc,ih fun B d=>h B (by simp [d])];obtain ⟨a,_,b⟩:=h B (by simp);obtain ⟨c,v,f,z,e,p⟩:=B;simp only at a b;subst a b;rfl
theorem vM (L:bF ap g m S w) {rd:bV} (hrd:∀ b B,rd b=some B→g b=some B) {a:List Nat} {O:List aR} (hbl:iq rd a=some O) (E:nK a=true) {nid:Nat} {args:List AV} {cargs:List Value} {out:iy}
  {vers:Nat→Nat} (hvers:∀ b B,rd b=some B→vers b=B.ver) {ρ ρ':Nat→Nat→Option (Nat × Nat)} (hρe:∀ b v,ρ b v=match Xqn v (vers b) with|true=>(lN a b).map fun p=>(p,0)|false=>none)
  {h':List aR} (hρe':ρ'=H0 nid a vers h'.length)
  (hv:aW g m S args cargs) {C:List Value→(Ending→World→Prop)→Prop} (hmono:∀ cargs R R',C cargs R→(∀ e w',R e w'→R' e w')→C cargs R')
  (t:∀ m1 S1,jF S S1→bF ap (aZ (O.map (DV ρ))) m1 S1 w→aW (aZ (O.map (DV ρ))) m1 S1 (ju ρ args) cargs→C cargs fun e w'=> ∃ m' S',AK ap (O.map (DV ρ)) m1 S1 w out h' m' S' w' e) (hl:a.length≤h'.length) (hfr:∀ i,i<(h'.length - a.length)+(iI h'.length out).length→g (nid+i)=none):
  C cargs fun e w'=>PN ap g m S w (Du (nid+(h'.length - a.length)) (ren ρ') out) (zo nid ((h'.drop a.length).map (wD ρ' 0)++iI h'.length out)++(F5 a h').map fun (b,B)=>(b,wD ρ' (vers b) B)) e w':=by
 have r:∀ p b,a[p]? =some b→∃ B,rd b=some B∧g b=some B∧aZ (O.map (DV ρ)) p=some (DV ρ B):=by
  intro p b hp;obtain ⟨B,c,d⟩:=(fS hbl).2 p b hp;exact ⟨B,d,hrd b B d,by simp [aZ,c]⟩
 have y:∀ p Bc,aZ (O.map (DV ρ)) p=some Bc→∃ b B,a[p]? =some b∧rd b=some B∧g b=some B∧Bc=DV ρ B:=by
  intro p Bc hp;have u:p<a.length:=by
   have:=(List.getElem?_eq_some_iff.1 hp).1;rw [List.length_map,(fS hbl).1] at this;exact this
  obtain ⟨B,c,d,f⟩:=r p _ (ξ u);rw [f] at hp;cases hp;exact ⟨_,B,ξ u,c,d,rfl⟩
 let mc:aQ:=fun p=>m (a.getD p 0)
 have l:∀ p b,a[p]? =some b→mc p=m b:=by
  intro p b hp;show m (a.getD p 0)=_;rw [ν,hp];rfl
 have N:ol g m (aZ (O.map (DV ρ))) mc ρ:=by
  intro b ver Y J h B K I;rw [hρe] at h;split at h
  ·rename_i hve;simp only [Xqp,Prod.mk.injEq] at h;obtain ⟨p,hp,rfl,rfl⟩:=h;have hp:=mL hp;obtain ⟨B1,c,d,f⟩:=r p b hp;rw [d] at K;cases K;exact ⟨_,f,Xxf _,fun _=> ⟨by rw [aK hve,hvers b _ c],l p b hp,rfl⟩⟩
  ·cases h
 have hSc:bF ap (aZ (O.map (DV ρ))) mc S w:=by
  refine ⟨?_, ?_,L.sealed, ?_,L.glob⟩
  ·intro p q Bp Bq hp hq e;obtain ⟨b,B,c,d,f,_⟩:=y p Bp hp;obtain ⟨Y,B',h1',h2',h3',_⟩:=y q Bq hq;rw [l p b c,l q Y h1'] at e;have:=L.inj b Y B B' f h3' e;subst this;have W:=lm E c;rw [lm E h1'] at W;cases W;rfl
  ·intro p Bp hp;obtain ⟨b,B,c,d,f,rfl⟩:=y p Bp hp;rw [l p b c];obtain ⟨⟨cur,e,vs,rest,k1,k2,k3,k4,k5,k6⟩,k7,k8⟩:=L.blk b B f;cases hp:B.pr with
   |true=>exact ⟨⟨cur,e,vs,rest,k1,k2,fun _=>by simpa [DV,hp] using k3 hp,by simpa [DV,hp] using bu _ (k3 hp),k5,k6⟩,k7,by simpa [DV,hp] using k8⟩
   | false=>
    have hv:=iB (jF.refl S) N _ k4;exact ⟨⟨cur,e,vs,rest,k1,k2,fun h=>by simp [DV,hp] at h,by simpa [DV,hp] using hv,k5,k6⟩,k7,by
     have:(DV ρ B).cells.length=B.cells.length:=by simp only [DV,hp];rw [bI k4,bI hv]
     rw [this];exact k8⟩
  ·intro p Bp hp o v ho;obtain ⟨b,B,c,d,f,rfl⟩:=y p Bp hp;rw [l p b c] at ho;exact L.own b B f o v ho
 refine hmono _ _ _ (t mc S (jF.refl S) hSc (iB (jF.refl S) N _ hv)) ?_
 rintro e w' ⟨m',S',hF⟩
 obtain ⟨hsr,D,Q⟩:=hF;generalize hbs:iI h'.length out=bs0 at hsr D hfr;have hown:mZ bs0:=hbs ▸ wk out h'.length;obtain ⟨bs,F⟩:∃ bs,bs=h'.drop a.length++bs0:=⟨_,rfl⟩
 have hbsl:bs.length=(h'.length - a.length)+bs0.length:=by rw [F,List.length_append,List.length_drop]
 rw [← hbsl] at hfr
 let ups:=(F5 a h').map fun (b,B)=>(b,wD ρ' (vers b) B)
 rw [show (h'.drop a.length).map (wD ρ' 0)++bs0=bs.map (wD ρ' 0) by rw [F,List.map_append,Qf hown]]
 let gN:bV:=cD g (zo nid (bs.map (wD ρ' 0))++ups)
 let mN:aQ:=fun b=>if nid≤b∧b - nid<bs.length then m' (a.length+(b - nid)) else match lN a b with|some p=>m' p|none=>m b
 have G:∀ b,gN b=if nid≤b∧b - nid<bs.length then (bs[b - nid]?).map (wD ρ' 0) else match (lN a b).bind fun p=>(h'[p]?).map (wD ρ' (vers b)) with|some B=>some B|none=>g b:=by
  intro b;show cD g _ b=_;unfold cD;rw [eJ,uW,EX (mk:=fun b B=>wD ρ' (vers b) B)];by_cases c:nid≤b
  ·by_cases d:b - nid<bs.length
   ·have t:nid≤b∧b - nid<bs.length:=⟨c,d⟩
    rw [if_pos c,if_pos t,Xqy,ξ d];rfl
   ·have t:¬ (nid≤b∧b - nid<bs.length):=fun h=>d h.2
    rw [if_pos c,if_neg t,Xqy,Xqz (Xv8 d)];rfl
  ·have t:¬ (nid≤b∧b - nid<bs.length):=fun h=>c h.1
   rw [if_neg c,if_neg t];rfl
 have hnidg:∀ b B,g b=some B→¬ (nid≤b∧b - nid<bs.length):=by
  rintro b B j ⟨c,d⟩
  have:=hfr (b - nid) d;rw [show nid+(b - nid)=b by omega,j] at this;cases this
 have hh':∀ p,p<a.length→∃ B,h'[p]? =some B:=fun p hp=> ⟨_,ξ (by omega)⟩
 have V:∀ p b,a[p]? =some b→∀ Bc,h'[p]? =some Bc→gN b=some (wD ρ' (vers b) Bc)∧mN b=m' p:=by
  intro p b hp Bc K;obtain ⟨B,c,d,f⟩:=r p b hp;have Z:=hnidg b B d;refine ⟨by rw [G,if_neg Z,lm E hp];simp [K], ?_⟩;show (if _ then _ else _)=_;rw [if_neg Z,lm E hp]
 have T:∀ i B,bs[i]? =some B→gN (nid+i)=some (wD ρ' 0 B)∧mN (nid+i)=m' (a.length+i):=by
  intro i B A;have hl:=(List.getElem?_eq_some_iff.1 A).1;have t:nid≤nid+i∧nid+i - nid<bs.length:=by omega
  refine ⟨by rw [G,if_pos t,show nid+i - nid=i by omega,A];rfl, ?_⟩;show (if _ then _ else _)=_;rw [if_pos t,show nid+i - nid=i by omega]
 have U:∀ p,a.length≤p→aZ (h'++bs0) p=bs[p - a.length]? :=by
  intro p hp;have he:h'++bs0=h'.take a.length++bs:=by rw [F,← Ψ,List.take_append_drop]
  have u:(h'.take a.length).length=a.length:=by rw [List.length_take];omega
  rw [he,fR (by omega),u];rfl
 have s:∀ p Bc,aZ (h'++bs0) p=some Bc→(p<a.length∧h'[p]? =some Bc)∨(a.length≤p∧bs[p - a.length]? =some Bc):=by
  intro p Bc h;by_cases hp:p<a.length
  ·rw [du (by omega)] at h;exact .inl ⟨hp,h⟩
  ·rw [U p (by omega)] at h;exact .inr ⟨by omega,h⟩
 have hren':ol (aZ (h'++bs0)) m' gN mN ρ':=by
  intro p ver Y J h Bc K I;rw [hρe'] at h;unfold H0 at h;split at h
  ·rename_i b hp;cases h;rcases s p Bc K with ⟨c,d⟩|⟨c,_⟩
   ·obtain ⟨f,z⟩:=V p _ hp Bc d;exact ⟨_,f,by simp only [wD];omega,fun e=> ⟨by simp only [wD] at e;omega,z,rfl⟩⟩
   ·have:=(List.getElem?_eq_some_iff.1 hp).1;omega
  ·rename_i hp;split at h
   ·cases h;have hge:=List.getElem?_eq_none_iff.1 hp;rcases s p Bc K with ⟨c,_⟩|⟨c,d⟩
    ·omega
    ·obtain ⟨f,z⟩:=T _ Bc d;exact ⟨_,f,by simp only [wD];omega,fun e=> ⟨by simp only [wD] at e;omega,by rw [z,show a.length+(p - a.length)=p by omega],rfl⟩⟩
   ·cases h
 have hge:Ge g m gN mN:=by
  intro b B j;have Z:=hnidg b B j;cases A:lN a b with
  | none=>
   have hm:mN b=m b:=by
    show (if _ then _ else _)=_;rw [if_neg Z,A]
   refine ⟨B, ?_,rfl,.inl ⟨rfl,hm⟩⟩;rw [G,if_neg Z,A];exact j
  | some p=>
   have hp:=mL A;obtain ⟨B1,c,d,f⟩:=r p b hp;rw [d] at j;cases j;obtain ⟨Bc,z,h5,M⟩:=D.ge p _ f;rcases s p Bc z with ⟨_,X⟩|⟨X,_⟩
   ·obtain ⟨h8,h9⟩:=V p b hp Bc X;refine ⟨_,h8,h5, ?_⟩;rcases M with ⟨M,h6'⟩|M
    ·left;refine ⟨?_,by rw [h9,h6',l p b hp]⟩;simp only [wD,DV] at M ⊢;rw [hvers b _ c];omega
    ·right;simp only [wD,DV] at M ⊢;rw [hvers b _ c];omega
   ·have:=(List.getElem?_eq_some_iff.1 hp).1;omega
 let ι:Nat→Nat:=fun p=>if p<a.length then a.getD p 0 else nid+(p - a.length)
 have hι:∀ p b,a[p]? =some b→ι p=b:=by
  intro p b hp;show (if _ then _ else _)=_;rw [if_pos (List.getElem?_eq_some_iff.1 hp).1,ν,hp];rfl
 have hι':∀ i,ι (a.length+i)=nid+i:=by
  intro i;show (if _ then _ else _)=_;rw [if_neg (by omega)];congr 1;omega
 obtain ⟨hsN,hfN⟩:=Uu (g:=g) (m:=m) (S:=S) (w:=w) L hsr D ι
  (by
   intro p Bc hp;obtain ⟨b,B,c,d,f,rfl⟩:=y p Bc hp;rw [hι p b c];exact ⟨B,f,l p b c⟩) (jF.refl S) (fun k o v h=> .inl h) (gN:=gN) (mN:=mN) ρ' hren'
  (by
   intro p Bc hp;rcases s p Bc hp with ⟨c,d⟩|⟨c,d⟩
   ·have hp:=ξ c;obtain ⟨f,z⟩:=V p _ hp Bc d;rw [hι p _ hp];exact ⟨_,f,z,rfl,rfl,rfl,rfl,fun h=>by simp [wD,h],fun h=>by simp [wD,h]⟩
   ·obtain ⟨i,rfl⟩:∃ i,p=a.length+i:=⟨p - a.length,by omega⟩
    rw [show a.length+i - a.length=i by omega] at d;obtain ⟨f,z⟩:=T i Bc d;rw [hι' i];exact ⟨_,f,z,rfl,rfl,rfl,rfl,fun h=>by simp [wD,h],fun h=>by simp [wD,h]⟩)
  (by
   intro b B j;by_cases t:nid≤b∧b - nid<bs.length
   ·rw [G,if_pos t,Xqp] at j;obtain ⟨Bc,j,_⟩:=j;refine .inl ⟨a.length+(b - nid),Bc, ?_,by rw [hι'];omega⟩;rw [U _ (by omega),show a.length+(b - nid) - a.length=b - nid by omega];exact j
   ·rw [G,if_neg t] at j;cases A:lN a b with
    |some p=>
     have hp:=mL A;have u:=(List.getElem?_eq_some_iff.1 hp).1;obtain ⟨Bc,z⟩:=hh' p u;exact .inl ⟨p,Bc,by rw [du (by omega)];exact z,(hι p b hp).symm⟩
    | none=>
     have hm:mN b=m b:=by
      show (if _ then _ else _)=_;rw [if_neg t,A]
     rw [A] at j;have j:g b=some B:=j;refine .inr ⟨B,j,hm,rfl,rfl,rfl,(L.blk b B j).fz0,(L.blk b B j).fzle, ?_,fun o v ho=>L.own b B j o v ho⟩;intro p Bc hp e;obtain ⟨b1,B1,c,_⟩:=y p Bc hp;rw [hι p b1 c] at e;subst e;rw [lm E c] at A;cases A)
  hge
 refine ⟨mN,S',hsN,hfN, ?_⟩;show Va gN mN S' (Du (nid+(h'.length - a.length)) (ren ρ') out) e;have hrenh:ol (aZ h') m' gN mN ρ':=by
  intro p ver Y J h Bc K I;refine hren' p ver Y J h Bc ?_ I;rw [du (List.getElem?_eq_some_iff.1 K).1];exact K
 cases out with
 |ret v=>
  obtain ⟨cv,W,c⟩:=Q;refine ⟨cv,W, ?_⟩;have hbs':(gW h'.length v).2=bs0:=hbs;rw [hbs'] at c;refine zI (n:=h'.length) (BL ρ') (fun x v hx=>uK (jF.refl S') hrenh x hx) ?_ c;intro i k v hx;simp only [VR] at hx ⊢;obtain ⟨B,d,f,z,h5⟩:=hx;rw [U _ (Xxa hl (Nat.le_add_right _ _))] at d;obtain ⟨M,X⟩:=T _ B d;rw [ar1 hl] at M X;rw [ar2 hl] at X;exact ⟨_,M,Xxf _,z,fun e=>by rw [X];exact h5 (by simpa [wD] using e)⟩
 |pan v=>
  obtain ⟨cv,W,c⟩:=Q;exact ⟨cv,W,uK (jF.refl S') hrenh _ c⟩
end
end AM
namespace AM
open Go
section
variable {P:Program} {ap:AP} {H:bL}
theorem tD {o:bV} {nid f:Nat} {args:List AV} {md:AV} {c A:Cx} {r:LP} (h:oO ap H o nid md f args c= .ok r A):
  ∃ args0 h0 out0 h0',H c md f args0 h0= .ok (out0,h0',r.md) A∧((∃ v,out0= .ret v)↔∃ v,r.out= .ret v)∧
  ∀ g m S w cargs (C:List Value→(Ending→World→Prop)→Prop),(∀ cargs R R',C cargs R→(∀ e w',R e w'→R' e w')→C cargs R')→bF ap g m S w→(∀ b ∈ r.fp,∀ B,o b=some B→g b=some B)→(∀ i,i<4→g (nid+i)=none)→aW g m S args cargs→
   (∀ m1 S1,jF S S1→bF ap (aZ h0) m1 S1 w→aW (aZ h0) m1 S1 args0 cargs→C cargs fun e w'=> ∃ m' S',AK ap h0 m1 S1 w out0 h0' m' S' w' e)→
   C cargs fun e w'=>PN ap g m S w r.out r.ups e w':=by
 unfold oO at h;simp only at h;generalize F:oF o 6 (fU (bE args))=fp at h
 let rd:bV:=fun b=>match lQ fp b with|true=>o b|false=>none
 have a:∀ b B,rd b=some B→b ∈ fp∧o b=some B:=by
  intro b B d;dsimp only [rd] at d;split at d
  ·rename_i G;exact ⟨fA.1 G,d⟩
  ·cases d
 split at h
 ·split at h
  ·cases h
  ·rename_i args' D;obtain ⟨⟨out,u,md⟩,E,x,h⟩:=R.bind_ok h;dsimp only at h;split at h
   ·cases h
   ·split at h
    ·rename_i v;split at h
     ·rename_i n;cases h;refine ⟨_,_,_,_,x,⟨fun _=> ⟨_,rfl⟩,fun _=> ⟨_,rfl⟩⟩, ?_⟩;intro g m S w cargs C hmono q k l t s;have j:iI 0 (iy.ret v)=(gW nid v).2:=wm EM v 0 nid;have:=vL q (rd:=rd) (fun b B d=>k b (a b B d).1 B (a b B d).2) (fun b B d=>(a b B d).1) (nid:=nid) D t hmono s (fun i p=>l i (by rw [j] at p;have:=dZ n;omega));rw [j] at this;exact this
     ·cases h
    ·rename_i v;cases h;refine ⟨_,_,_,_,x,⟨(fun ⟨_,h⟩=>by cases h),(fun ⟨_,h⟩=>by cases h)⟩, ?_⟩;intro g m S w cargs C hmono q k l t s;exact vL q (rd:=rd) (fun b B d=>k b (a b B d).1 B (a b B d).2) (fun b B d=>(a b B d).1) (nid:=nid) D t hmono s (fun i p=>by simp [iI] at p)
 ·split at h
  ·cases h
  ·rename_i I y;obtain ⟨⟨out,u,md⟩,E,x,h⟩:=R.bind_ok h;dsimp only at h;split at h
   ·cases h
   ·rename_i hcond;simp only [π] at hcond;have z:=dZ hcond.1
    let vers:Nat→Nat:=fun b=>match rd b with|some B=>B.ver|none=>0
    have hvers':∀ b B,rd b=some B→vers b=B.ver:=by
     intro b B d;simp only [vers,d]
    let ρ':Nat→Nat→Option (Nat × Nat):=H0 nid fp vers u.length
    split at h
    ·rename_i v;split at h
     ·rename_i n;cases h;refine ⟨_,_,_,_,x,⟨fun _=> ⟨_,rfl⟩,fun _=> ⟨_,rfl⟩⟩, ?_⟩;intro g m S w cargs C hmono q k l t s;have j:iI u.length (iy.ret v)=(gW (nid+(u.length - fp.length)) (ren ρ' v)).2:=(wm (BL ρ') v (nid+(u.length - fp.length)) u.length).symm;have:=vM q (rd:=rd) (fun b B d=>k b (a b B d).1 B (a b B d).2) y hcond.2 (nid:=nid) hvers' (ρ':=ρ') (fun b v=>rfl) rfl t hmono s z (fun i p=>l i (by rw [j] at p;exact σ p (dZ n)));rw [j] at this;exact this
     ·cases h
    ·rename_i v;split at h
     ·rename_i n;cases h;refine ⟨_,_,_,_,x,⟨(fun ⟨_,h⟩=>by cases h),(fun ⟨_,h⟩=>by cases h)⟩, ?_⟩;intro g m S w cargs C hmono q k l t s;exact vM q (rd:=rd) (fun b B d=>k b (a b B d).1 B (a b B d).2) y hcond.2 (nid:=nid) hvers' (ρ':=ρ') (fun b v=>rfl) rfl t hmono s z (fun i p=>l i (by simp only [iI,χ,Xq3] at p;exact σ p (dZ n)))
     ·cases h
theorem xP (t:gR P ap H) {a:bV} {nid f:Nat} {args:List AV} {c o:Cx} {r:LP} (h:oO ap H a nid .dead f args c= .ok r o) (s:o.Ok):
  c.Ok∧uJ P f∧∀ g m S w cargs,bF ap g m S w→(∀ b ∈ r.fp,∀ B,a b=some B→g b=some B)→(∀ i,i<4→g (nid+i)=none)→aW g m S args cargs→
   Calls P f cargs.toArray w fun e w'=>PN ap g m S w r.out r.ups e w':=by
 obtain ⟨args0,h0,q,x,v,_,y⟩:=tD h;obtain ⟨j,p⟩:=t _ _ _ _ _ _ _ _ v s;refine ⟨j,p.ent,fun g m S w cargs u k l z=> ?_⟩;exact y g m S w cargs (fun cargs R=>Calls P f cargs.toArray w R) (fun _ _ _ d n=>d.mono n) u k l z fun A S1 _ d n=>p.calls A S1 w cargs d n
end
end AM
namespace AM
open Go
def oJ (dec:List (Nat × Bool)) (env:eZ):Prop:=∀ t b,ax dec t=some b→env.get t= .bool b
def eQ (g:bV) (m:aQ) (S:aO):List (Nat × List AV)→List Deferred→Prop
 | [],[]=>True
 |d::r,cd::cr=>(∃ cap,cd.target= .fn (.func d.1) cap∧aW g m S d.2 (cd.args++cap).toList)∧eQ g m S r cr
 |_,_=>False
theorem qg {g g':bV} {m c:aQ} {S S':aO} (b:jF S S') (e:Ge g m g' c):∀ {l:List (Nat × List AV)} {ds:List Deferred},eQ g m S l ds→eQ g' c S' l ds
 | [],[],_=>by simp only [eQ]
 |d::r,cd::cr,h=>by
  simp only [eQ] at h ⊢;obtain ⟨⟨a,f,j⟩,i⟩:=h;exact ⟨⟨a,f,jl b e _ j⟩,qg b e i⟩
 | [],_::_,h=>by simp [eQ] at h
 |_::_,[],h=>by simp [eQ] at h
theorem vI {g:bV} {m:aQ} {S:aO}:∀ {l l':List (Nat × List AV)} {ds ds':List Deferred},eQ g m S l ds→eQ g m S l' ds'→eQ g m S (l++l') (ds++ds')
 | [],_,[],_,_,h'=>by simpa using h'
 |d::r,_,cd::cr,_,h,h'=>by
  simp only [eQ] at h;simp only [List.cons_append,eQ];exact ⟨h.1,vI h.2 h'⟩
 | [],_,_::_,_,h,_=>by simp [eQ] at h
 |_::_,_,[],_,h,_=>by simp [eQ] at h
def U7 (P:Program) (ops:Array Oper) (Q:Exit→Act→World→Prop) (o:Oper) (K:Act→World→Prop) (a:Act) (w:World):Prop:=
 if Region.wanted o (yielded ops a.tmps) then o.wp P a w K Q∨(o.asks P a w∧LetsOut Q) else K (a.put o.dst undef) w
def T_ (ap:AP) (o:Oper) (g:bV) (m:aQ) (S:aO) (w:World) (a:Act) (v:AV) (ups:List (Nat × aR)) (df:List (Nat × List AV)) (Q:Exit→Act→World→Prop) (K:Act→World→Prop):Option AV→Prop
 |none=> ∀ cv m' S' w' ds,bF ap (cD g ups) m' S' w'→Fr g m S w (cD g ups) m' S' w'→VR (cD g ups) m' S' v cv→eQ (cD g ups) m' S' df ds→K ({a with defers:=ds++a.defers}.put o.dst cv) w'
 |some pv=> ∀ cv m' S' w',bF ap (cD g ups) m' S' w'→Fr g m S w (cD g ups) m' S' w'→VR (cD g ups) m' S' pv cv→Q (.panic [{v:=cv,recovered:=false}]) a w'
def Ct (P:Program) (ap:AP) (ops:Array Oper) (o:Oper) (nid:Nat) (env:eZ) (hp:Hp) (rt rb:List Nat) (v:AV) (ups:List (Nat × aR)) (df:List (Nat × List AV)) (p:Option AV):Prop:=
 ∀ g m S w (a:Act),bF ap g m S w→(∀ t ∈ rt,VR g m S (env.get t) (a.tmps.getD t undef))→(∀ b ∈ rb,∀ B,ax hp b=some B→g b=some B)→(∀ i,i<4→g (nid+i)=none)→
  ∀ (Q:Exit→Act→World→Prop) (K:Act→World→Prop),T_ ap o g m S w a v ups df Q K p→U7 P ops Q o K a w
structure Y5 (P:Program) (ap:AP) (ops:Array Oper) (o:Oper) (nid:Nat) (s s':RS) (p:Option AV) (v:AV) (rt rb:List Nat) (ups:List (Nat × aR)) (df:List (Nat × List AV)):Prop where
 env:p=none→s'.env=lT s.env o.dst v
 envp:p ≠ none→s'.env=s.env∧df= []
 hp:s'.hp=ups++s.hp
 md:s'.md=s.md
 dfs:s'.dfs=df++s.dfs
 dec:p=none→oJ s'.dec s'.env
 feet:p=none→s'.feet={rt,wt:=CN o,rb,wb:=ups.map (·.1)}::s.feet
 sem:Ct P ap ops o nid s.env s.hp rt rb v ups df p
section
variable {P:Program} {ap:AP} {H:bL}
theorem MX (e:Array Value) (t:Nat) {v:Value} (h:e.getD t undef=v) (b:v ≠ undef):e[t]? =some v:=by
 rw [Array.getD_eq_getD_getElem?] at h;cases a:e[t]? with
 |none=>rw [a] at h;exact absurd h.symm b
 |some u=>rw [a] at h;simpa using h
theorem Ap {ops:Array Oper} {tmps:Array Value} {j s:Nat} (hs:(ops[j]?).bind (·.dst)=some s) {b:Bool} (h:tmps.getD s undef= .bool b):yielded ops tmps j=some b:=by
 unfold yielded;rw [hs];simp only [Xve];rw [MX tmps s h (by simp [undef])]
theorem DP {ops:Array Oper} {tmps:Array Value} {j s:Nat} (hs:(ops[j]?).bind (·.dst)=some s) (h:tmps.getD s undef= .tuple #[]):yielded ops tmps j=none:=by
 unfold yielded;rw [hs];simp only [Xve];rw [Array.getD_eq_getD_getElem?] at h;cases a:tmps[s]? with
 |none=>rfl
 |some u=>
  rw [a] at h;simp at h;rw [h]
theorem rX {g:bV} {m:aQ} {S:aO} {w:World} (c:bF ap g m S w) {env:eZ} {a:Act} (x:Operand) (h:∀ t,x= .tmp t→VR g m S (env.get t) (a.tmps.getD t undef)):VR g m S (mG ap env x) (a.eval x):=by
 cases x with
 |tmp t=>exact h t rfl
 |const v=>exact eW _ (D6 S v)
 | global k=>
  simp only [mG,Act.eval];cases d:(ap.gl[k]?).join with
  |none=>simp only [VR]
  |some xs=>
   obtain ⟨vs,b,e⟩:=c.glob k xs d;simp only [VR,PR];exact ⟨k,0,vs,rfl,b,e⟩
 |func f=>
  simp only [mG,Act.eval,VR];exact ⟨[],[],rfl,by simp [aW],by simp [aW]⟩
theorem y_ {l:List Operand} {t:Nat} (h:Operand.tmp t ∈ l):t ∈ qa l:=by
 simp only [qa,List.mem_filterMap];exact ⟨_,h,rfl⟩
theorem C0 {ops:List Oper} {env:eZ} {dec e:List (Nat × Bool)} {o:Oper} {c B:Cx} {run:Bool} (h:GS ops env dec o c= .ok (run,e) B) (p:B.Ok):
  c.Ok∧(oJ dec env→oJ e env∧(∀ t b,ax dec t=some b→ax e t=some b)∧∀ g m S (a:Act),(∀ t ∈ gb ops o,VR g m S (env.get t) (a.tmps.getD t undef))→Region.wanted o (yielded ops.toArray a.tmps)=run):=by
 unfold GS at h;unfold gb;unfold Region.wanted;split at h
 ·rename_i u;cases h;simp only [u];exact ⟨p,fun hd=> ⟨hd,fun _ _ h=>h,fun _ _ _ _ _=>trivial⟩⟩
 ·rename_i j f u;simp only [u];split at h
  ·cases h
  ·rename_i s hs;have k:(ops.toArray[j]?).bind (·.dst)=some s:=by simpa using hs
   split at h
   ·rename_i b l;cases h;refine ⟨p,fun hd=> ⟨hd,fun _ _ h=>h,fun g m S a n=> ?_⟩⟩;have d:=n s (by simp);rw [hd s b l] at d;simp only [VR,PR] at d;rw [Ap k d];cases f<;>cases b<;>rfl
   ·rename_i A;split at h
    ·rename_i b l;obtain ⟨C,D,d,q⟩:=R.bind_ok h;cases q;obtain ⟨z,rfl⟩:=iT d p;refine ⟨z,fun hd=> ⟨?_, ?_,fun g m S a n=> ?_⟩⟩
     ·intro t x i;simp only [ax] at i;split at i
      ·rename_i y;cases i;rw [← aK y,l]
      ·exact hd t x i
     ·intro t x i;simp only [ax];split
      ·rename_i y;rw [aK y] at A;rw [A] at i;cases i
      ·exact i
     ·have d:=n s (by simp);rw [l] at d;simp only [VR,PR] at d;rw [Ap k d];cases f<;>cases C<;>rfl
    ·rename_i l;cases h;refine ⟨p,fun hd=> ⟨hd,fun _ _ h=>h,fun g m S a n=> ?_⟩⟩;have d:=n s (by simp);rw [l] at d;simp only [VR] at d;obtain ⟨vs,d,q⟩:=d;cases vs with
     |nil=>rw [DP k d];rfl
     |cons v r=>simp [aW] at q
    ·cases h
theorem EE {env:eZ} {o:Oper} {v:AV} {t:Nat} (h:∀ d,o.dst=some d→d ≠ t):(lT env o.dst v).get t=env.get t:=by
 unfold lT;split
 ·rename_i d hd;simp only [eZ.get,ax];split
  ·rename_i a;exact absurd (aK a) (h d hd)
  ·rfl
 ·rfl
theorem tI {dec:List (Nat × Bool)} {env:eZ} {o:Oper} {v:AV} (hd:oJ dec env) (a:Ms dec o=true):oJ dec (lT env o.dst v):=by
 intro t b c;rw [EE]
 ·exact hd t b c
 ·rintro d hdd rfl
  unfold Ms at a;rw [hdd] at a;simp [c] at a
end
end AM
namespace AM
open Go
section
variable {P:Program} {ap:AP} {H:bL}
theorem M5 {c:Cx} {dst:Option Nat} {v:AV} (h:(yw c dst v).2.Ok):c.Ok∧aN v (yw c dst v).1:=by
 obtain ⟨cl,orc,bs,ps,ans,hs⟩:=c;unfold yw at h ⊢;dsimp only at h ⊢;split at h
 ·rename_i d x r f;split at h
  ·rename_i a;have e:aN v x:=h.ps _ (Xjn ..);refine ⟨⟨h.bs,fun p hp=>h.ps p (Xx0 _ hp)⟩, ?_⟩;simp only [a];exact e
  ·rename_i a;refine ⟨h, ?_⟩;simp only [a];exact fun _ _ _ _ b=>b
 ·rename_i i;exact ⟨h,fun _ _ _ _ b=>b⟩
theorem M4 {c:Cx} {dst:Option Nat} (h:(Iu c dst).2.Ok):c.Ok:=by
 obtain ⟨cl,orc,bs,ps,ans,hs⟩:=c;unfold Iu at h;dsimp only at h;split at h
 ·split at h
  ·exact ⟨h.bs,h.ps⟩
  ·exact h
 ·exact h
theorem M3 {c:Cx} {dst:Option Nat} {ups:List (Nat × aR)} (h:(yu c dst ups).2.Ok):c.Ok∧(yu c dst ups).1=ups:=by
 obtain ⟨cl,orc,bs,ps,ans,hs⟩:=c;unfold yu at h ⊢;dsimp only at h ⊢;split at h
 ·rename_i d e r i b B;split at h
  ·rename_i a;have f:B.cells=e:=h.ps _ (Xjn ..);refine ⟨⟨h.bs,fun p hp=>h.ps p (Xx0 _ hp)⟩, ?_⟩;simp only [a,← f]
  ·rename_i a;refine ⟨h, ?_⟩;simp only [a]
 ·rename_i j;exact ⟨h,rfl⟩
theorem wu {a:Act} {g:Operand} {args:Array Operand} {argTypes:Array TypeId} {ty:TypeId} {f:Nat} {first b:Array Value} (h:a.eval g= .func (.func f) first b) (w:World):
  (resolve a.eval {callee:= .value g,args,argTypes} ty).run P w= .ok {target:= .fn (.func f) b,args:=first++args.map a.eval} w:=by
 simp only [resolve,h,Deferred.ofValue];rfl
theorem A_ {a:Act} {g:Operand} {args:Array Operand} {argTypes:Array TypeId} {ty:TypeId} {f:Nat} {first b:Array Value} (h:a.eval g= .func (.func f) first b) (c:uJ P f) (w:World):
  (do let d ← resolve a.eval {callee:= .value g,args,argTypes} ty;invoke d.target d.args:Sem Next).run P w= .ok (.enter f ((first++args.map a.eval)++b)) w:=by
 rw [Sem.run_bind,wu h,Result.andThen_ok];exact c _ _
theorem D9 {g:bV} {m:aQ} {S:aO} {ρ:Operand→AV} {cρ:Operand→Value} {args:Array Operand} (h:∀ o ∈ args,VR g m S (ρ o) (cρ o)):aW g m S (args.toList.map ρ) (args.map cρ).toList:=by
 rw [Array.toList_map];exact qi _ fun o a=>h o (by simpa using a)
theorem uX:∀ {l:Hp} {b:Nat} {B:aR},ax l b=some B→(b,B) ∈ l
 | [],_,_,h=>by cases h
 | (k,X)::r,b,B,h=>by
  simp only [ax] at h;split at h
  ·rename_i a;cases h;have:=aK a;subst this;exact Xjn ..
  ·exact Xx0 _ (uX h)
theorem yX {α β:Type} {f g:α→β}:∀ {l:List α},l.map f=l.map g→∀ {x:α},x ∈ l→f x=g x
 | [],_,_,h=>by cases h
 |a::r,h,x,hx=>by
  simp only [Xqc,List.cons.injEq] at h;rcases List.mem_cons.1 hx with rfl|hx
  ·exact h.1
  ·exact yX h.2 hx
theorem nX (hap:fe P ap) (hH:gR P ap H) {nid:Nat} {ops:List Oper} {o:Oper} {s s':RS} {p:Option AV} {c c':Cx} (h:FH ap H nid ops o s c= .ok (s',p) c') (T:c'.Ok):
  c.Ok∧(s.md= .dead→oJ s.dec s.env→∃ v rb ups df,Y5 P ap ops.toArray o nid s s' p v (qa o.op.operands.toList++gb ops o) rb ups df):=by
 unfold FH at h;obtain ⟨⟨run,dec⟩,c1,e1,h⟩:=R.bind_ok h;dsimp only at h;split at h
 ·cases h
 rename_i E;have hguard:∀ c1ok:c1.Ok,c.Ok∧(oJ s.dec s.env→oJ dec s.env∧(∀ t b,ax s.dec t=some b→ax dec t=some b)∧∀ g m S (a:Act),(∀ t ∈ gb ops o,VR g m S (s.env.get t) (a.tmps.getD t undef))→Region.wanted o (yielded ops.toArray a.tmps)=run):=fun hk=>C0 e1 hk
 have L:∀ {g:bV} {m:aQ} {S:aO} {w:World} {a:Act},bF ap g m S w→(∀ t ∈ qa o.op.operands.toList++gb ops o,VR g m S (s.env.get t) (a.tmps.getD t undef))→∀ x ∈ o.op.operands,VR g m S (mG ap s.env x) (a.eval x):=by
  intro g m S w a j i x X;refine rX j x fun t ht=>i t ?_
  subst ht;exact List.mem_append.2 (.inl (y_ (by simpa using X)))
 split at h
 ·
  cases h;obtain ⟨A,Y⟩:=hguard T;refine ⟨A,fun O d=> ?_⟩;obtain ⟨hd,_,hw⟩:=Y d;refine ⟨.tup [],[],[],[],⟨fun _=>rfl,fun h=>absurd rfl h,rfl,rfl,rfl,fun _=>tI hd E,fun _=>rfl, ?_⟩⟩;intro g m S w a j i _ _ Q K M;unfold U7;rw [hw g m S a fun t ht=>i t (List.mem_append.2 (.inr ht))];simp only [Bool.false_eq_true,if_false];have:=M undef m S w [] (by rw [dF];exact j) (by rw [dF];exact Fr.refl _ _ _ _) (by simp only [VR];exact ⟨[],rfl,by simp [aW]⟩) (by simp [eQ]);exact this
 ·
  have hwant:∀ (Q:Exit→Act→World→Prop) (K:Act→World→Prop) (g:bV) (m:aQ) (S:aO) (a:Act) (w:World),c1.Ok→oJ s.dec s.env→(∀ t ∈ qa o.op.operands.toList++gb ops o,VR g m S (s.env.get t) (a.tmps.getD t undef))→o.wp P a w K Q→U7 P ops.toArray Q o K a w:=by
   intro Q K g m S a w hk d i hh;obtain ⟨_,_,hw⟩:=(hguard hk).2 d;unfold U7;rw [hw g m S a fun t ht=>i t (List.mem_append.2 (.inr ht))];simp only [if_true];exact .inl hh
  split at h
  ·
   rename_i gf args argTypes l;split at h
   ·rename_i f first cap hf
    obtain ⟨r,c2,e2,h⟩:=R.bind_ok h;have W:c2.Ok:=by
     revert h
     cases hu:Iu c2 o.dst with
     | mk u c3=>
      have D:c3.Ok→c2.Ok:=fun hk=>M4 (by rw [hu];exact hk)
      cases u with
      | true=>
       dsimp only;cases r.out with
       |ret v=>
        dsimp only;split
        ·intro h;cases h;exact D ⟨T.bs,fun p hp=>T.ps p (Xx0 _ hp)⟩
        ·intro h;cases h
       |pan v=>intro h;cases h
      |false=>dsimp only;cases r.out<;>intro h<;>cases h<;>exact D T
    obtain ⟨I,hE,hcall⟩:=xP hH e2 W;obtain ⟨A,Y⟩:=hguard I;refine ⟨A,fun O d=> ?_⟩;obtain ⟨hd,_,_⟩:=Y d;have hargs:∀ {g:bV} {m:aQ} {S:aO} {w:World} {a:Act},bF ap g m S w→(∀ t ∈ qa o.op.operands.toList++gb ops o,VR g m S (s.env.get t) (a.tmps.getD t undef))→
      ∃ vf J:List Value,a.eval gf= .func (.func f) vf.toArray J.toArray∧aW g m S (first++args.toList.map (mG ap s.env)++cap) ((vf++(args.map a.eval).toList)++J):=by
     intro g m S w a j i;have y:=L j i;rw [l] at y;have z:=y gf (by simp [Op.operands,Call.operands]);rw [hf] at z;simp only [VR] at z;obtain ⟨vf,J,D,N,G⟩:=z;exact ⟨vf,J,D,eS (eS N (D9 fun x X=>y x (by simp [Op.operands,Call.operands,X]))) G⟩
    have V:∀ {a:Act} {vf J:List Value} (w:World),a.eval gf= .func (.func f) vf.toArray J.toArray→(execOp a.eval o).run P w= .ok (.enter f (((vf++(args.map a.eval).toList)++J).toArray)) w:=by
     intro a vf J w he;have:=A_ (args:=args) (argTypes:=argTypes) (ty:=o.type) he hE w;unfold execOp;rw [l];dsimp only;rw [this];congr 2;apply Array.toList_inj.1;simp
    split at h
    ·rename_i c3 hu;split at h
     ·rename_i v F;split at h
      ·rename_i hall;cases h;have heq:r.ups.map (fun (q:Nat × aR)=>some q.2)=r.ups.map (fun (q:Nat × aR)=>ax s.hp q.1):=T.ps _ (Xjn ..);refine ⟨v,r.fp,[],[],⟨fun _=>rfl,fun h=>absurd rfl h,rfl,rfl,rfl,fun _=>tI hd E,fun _=>rfl, ?_⟩⟩;intro g m S w a j i k C Q K M;have hg':cD g r.ups=g:=by
        funext b;unfold cD;cases hl:ax r.ups b with
        |none=>rfl
        |some B=>
         have hm:=uX hl;have y:=yX heq hm;exact (k b (fA.1 (List.all_eq_true.1 hall _ hm)) B y.symm).symm
       refine hwant Q K g m S a w I d i ?_;obtain ⟨vf,J,y,z⟩:=hargs j i;unfold Oper.wp;rw [V w y];refine (hcall g m S w _ j k C z).mono ?_
       rintro e w' ⟨m',S',D,N,G⟩
       rw [F] at G;obtain ⟨cv,rfl,h6⟩:=G;rw [hg'] at D N h6;exact M cv m' S' w' [] D N h6 (by simp [eQ])
      ·cases h
     ·cases h
    ·rename_i c3 hu;split at h
     ·rename_i v F;cases h;refine ⟨v,r.fp,r.ups,[],⟨fun _=>rfl,fun h=>absurd rfl h,rfl,rfl,rfl,fun _=>tI hd E,fun _=>rfl, ?_⟩⟩;intro g m S w a j i k C Q K M;refine hwant Q K g m S a w I d i ?_;obtain ⟨vf,J,y,z⟩:=hargs j i;unfold Oper.wp;rw [V w y];refine (hcall g m S w _ j k C z).mono ?_
      rintro e w' ⟨m',S',D,N,G⟩
      rw [F] at G;obtain ⟨cv,rfl,h6⟩:=G;exact M cv m' S' w' [] D N h6 (by simp [eQ])
     ·rename_i v F;cases h;refine ⟨v,r.fp,r.ups,[],⟨fun h=>(by cases h),fun _=> ⟨rfl,rfl⟩,rfl,rfl,rfl,fun h=>(by cases h),fun h=>(by cases h), ?_⟩⟩;intro g m S w a j i k C Q K M;refine hwant Q K g m S a w I d i ?_;obtain ⟨vf,J,y,z⟩:=hargs j i;unfold Oper.wp;rw [V w y];refine (hcall g m S w _ j k C z).mono ?_
      rintro e w' ⟨m',S',D,N,G⟩
      rw [F] at G;obtain ⟨cv,rfl,h6⟩:=G;exact M cv m' S' w' D N h6
   ·cases h
  ·
   split at h
   ·cases h;exact ⟨(hguard T).1,fun O=>by simp_all⟩
   ·cases h;exact ⟨(hguard T).1,fun O=>by simp_all⟩
   ·cases h
  ·
   rename_i gf args argTypes l;split at h
   ·rename_i f first cap hf
    cases h;obtain ⟨A,Y⟩:=hguard T;refine ⟨A,fun O d=> ?_⟩;obtain ⟨hd,_,_⟩:=Y d;refine ⟨.dead,[],[],[(f,first++args.toList.map (mG ap s.env)++cap)],⟨fun _=>rfl,fun h=>absurd rfl h,rfl,rfl,rfl,fun _=>tI hd E,fun _=>rfl, ?_⟩⟩;intro g m S w a j i k C Q K M;refine hwant Q K g m S a w T d i ?_;have y:=L j i;rw [l] at y;have z:=y gf (by simp [Op.operands,Call.operands]);rw [hf] at z;simp only [VR] at z;obtain ⟨vf,J,D,N,G⟩:=z;unfold Oper.wp;have hr:(execOp a.eval o).run P w= .ok (.defer {target:= .fn (.func f) J.toArray,args:=vf.toArray++args.map a.eval}) w:=by
     unfold execOp;rw [l];dsimp only;rw [Sem.run_bind,wu D,Result.andThen_ok];rfl
    rw [hr];refine M undef m S w [{target:= .fn (.func f) J.toArray,args:=vf.toArray++args.map a.eval}] (by rw [dF];exact j) (by rw [dF];exact Fr.refl _ _ _ _) (by simp only [VR]) ?_;simp only [eQ,dF,and_true];refine ⟨J.toArray,rfl, ?_⟩;have:=eS (eS N (D9 (args:=args) fun x X=>y x (by simp [Op.operands,Call.operands,X]))) G;simpa using this
   ·cases h
  ·
   rename_i x l;split at h
   ·rename_i t v X;cases h;obtain ⟨A,Y⟩:=hguard T;refine ⟨A,fun O d=> ?_⟩;obtain ⟨hd,_,_⟩:=Y d;refine ⟨.dead,[],[],[],⟨fun h=>(by cases h),fun _=> ⟨rfl,rfl⟩,rfl,rfl,rfl,fun h=>(by cases h),fun h=>(by cases h), ?_⟩⟩;intro g m S w a j i k C Q K M;refine hwant Q K g m S a w T d i ?_;have y:=L j i;rw [l] at y;have z:=y x (by simp [Op.operands]);rw [X] at z;have h2':=z;simp only [VR] at h2';obtain ⟨u,D,N⟩:=h2';unfold Oper.wp;have hr:(execOp a.eval o).run P w= .halt (.panic (a.eval x)) w:=by
     unfold execOp;rw [l];dsimp only;rw [D];rfl
    rw [hr];exact M _ m S w (by rw [dF];exact j) (by rw [dF];exact Fr.refl _ _ _ _) (by rw [dF];exact z)
   ·cases h
  ·
   rename_i op n1 n2 n3 n4;obtain ⟨em,c2,e2,h⟩:=R.bind_ok h;split at h
   ·cases h
   ·rename_i v ups bs l;obtain ⟨_,c3,e3,h⟩:=R.bind_ok h;have hv1:(yw c3 o.dst v).2.Ok→c3.Ok∧aN v (yw c3 o.dst v).1:=M5;generalize yw c3 o.dst v=q1 at h hv1;obtain ⟨v1,c4⟩:=q1;dsimp only at h hv1;have hv2:(yu c4 o.dst ups).2.Ok→c4.Ok∧(yu c4 o.dst ups).1=ups:=M3;generalize yu c4 o.dst ups=q2 at h hv2;obtain ⟨ups1,c5⟩:=q2;dsimp only at h hv2;cases h;obtain ⟨hc4,hups⟩:=hv2 T;subst hups;obtain ⟨hc3,Z⟩:=hv1 hc4;obtain ⟨W,hbs⟩:=CQ e3 hc3;have hem:c1.Ok∧∀ n,tP (mG ap s.env) o.op=some n→Xqn n 0=em:=by
     split at e2
     ·rename_i n hn;obtain ⟨hk,rfl⟩:=iT e2 W;exact ⟨hk,fun n' U=>by rw [hn] at U;cases U;rfl⟩
     ·rename_i hn;cases e2;exact ⟨W,fun n' U=>by rw [hn] at U;cases U⟩
    obtain ⟨I,hem⟩:=hem;obtain ⟨A,Y⟩:=hguard I;refine ⟨A,fun O d=> ?_⟩;obtain ⟨hd,_,_⟩:=Y d;refine ⟨v1,Ov (mG ap s.env) o.op,ups1,[],⟨fun _=>rfl,fun h=>absurd rfl h,rfl,rfl,rfl,fun _=>tI hd E,fun _=>rfl, ?_⟩⟩;intro g m S w a j i k C Q K M;refine hwant Q K g m S a w I d i ?_;have y:=L j i;have hok:=KM hap j (nid:=nid) (C 0 (by omega)) (ρ:=mG ap s.env) (cρ:=a.eval) (fun b B hb=>by
      split at hb
      ·rename_i hm;exact k b (fA.1 hm) B hb
      ·cases hb) o y (dec:=fun| .tmp t=>ax dec t|_=>none) (fun x X b hb=>by
      split at hb
      ·rename_i t;have:=i t (List.mem_append.2 (.inl (y_ (by simpa using X))));rw [hd t b hb] at this;simp only [VR,PR] at this;exact this
      ·cases hb) hem l hbs
    obtain ⟨nx,m',w',z,D,N,G⟩:=hok;unfold Oper.wp;rw [z];rcases G with ⟨cv,rfl,G⟩|⟨rfl,rfl⟩
    ·exact M cv m' S w' [] D N (Z _ _ _ _ G) (by simp [eQ])
    ·exact M undef m' S w' [] D N (Z _ _ _ _ (by simp only [VR])) (by simp [eQ])
end
end AM
namespace AM
open Go
theorem mR:∀ {hp:Hp} {b:Nat} {B:aR},ax hp b=some B→b<eT hp
 | [],b,B,h=>by simp [ax] at h
 | (c,C)::r,b,B,h=>by
  simp only [ax] at h;simp only [eT];split at h
  ·rename_i d;have d:=aK d;subst d;split
   ·rename_i a;exact dG a
   ·omega
  ·have e:=mR h;split
   ·exact e
   ·rename_i a;have:¬ c<eT r:=fun f=>by
     have:Xjd c (eT r)=true:=by
      show Nat.ble (c+1) (eT r)=true;exact Xqg f
     rw [this] at a;cases a
    omega
theorem yT:∀ {l:Hp} {b:Nat} {B:aR},ax l b=some B→b ∈ l.map (·.1)
 | [],b,B,h=>by simp [ax] at h
 |(c,C)::r,b,B,h=>by
  simp only [ax] at h;split at h
  ·rename_i a;simp [aK a]
  ·simp [yT h]
structure FR (ap:AP) (env:eZ) (hp:Hp) (dfs:List (Nat × List AV)) (nt:Nat) (m:aQ) (S:aO) (w:World) (a:Act):Prop where
 srel:bF ap (ax hp) m S w
 env:∀ t,VR (ax hp) m S (env.get t) (a.tmps.getD t undef)
 dfs:eQ (ax hp) m S dfs a.defers
 size:a.tmps.size=nt
theorem Fh (a:Act) (d:Option Nat) (v:Value):(a.put d v).tmps.size=a.tmps.size:=by
 cases d<;>simp [Act.put]
theorem zA (a:Act) (d:Option Nat) (v:Value):(a.put d v).defers=a.defers:=by
 cases d<;>simp [Act.put]
theorem zC (a:Act) (d:Option Nat) (v:Value) {t:Nat} (h:d ≠ some t):(a.put d v).tmps.getD t undef=a.tmps.getD t undef:=by
 cases d with
 |none=>rfl
 |some d=>
  have b:d ≠ t:=fun e=>h (by rw [e])
  simp only [Act.put,Array.getD_eq_getD_getElem?];rw [Array.getElem?_setIfInBounds_ne b]
theorem zB (a:Act) (d:Nat) (v:Value) (h:d<a.tmps.size):(a.put (some d) v).tmps.getD d undef=v:=by
 simp only [Act.put,Array.getD_eq_getD_getElem?];rw [Array.getElem?_setIfInBounds_self_of_lt h];rfl
theorem fQ {env:eZ} {d:Nat} {v:AV}:(lT env (some d) v).get d=v:=by simp [lT,eZ.get,ax]
theorem tW {env:eZ} {dst:Option Nat} {v:AV} {t:Nat} (h:dst ≠ some t):(lT env dst v).get t=env.get t:=by
 cases dst with
 |none=>rfl
 | some d=>
  have a:Xqn d t=false:=by
   cases b:Xqn d t with
   |false=>rfl
   |true=>exact absurd (by rw [aK b]) h
  simp [lT,eZ.get,ax,a]
section
variable {P:Program} {ap:AP} {H:bL}
theorem FR.put {env:eZ} {hp ups:Hp} {dfs e:List (Nat × List AV)} {nt:Nat} {m b:aQ} {S S':aO} {w w':World} {a:Act} (h:FR ap env hp dfs nt m S w a) {dst:Option Nat} (hd:∀ d,dst=some d→d<nt) {v:AV} {cv:Value} {c:List Deferred}
  (h1:bF ap (cD (ax hp) ups) b S' w') (h2:Fr (ax hp) m S w (cD (ax hp) ups) b S' w') (h3:VR (cD (ax hp) ups) b S' v cv) (h4:eQ (cD (ax hp) ups) b S' e c):
  FR ap (lT env dst v) (ups++hp) (e++dfs) nt b S' w' ({a with defers:=c++a.defers}.put dst cv):=by
 rw [ig] at h1 h2 h3 h4;refine ⟨h1, ?_, ?_, ?_⟩
 ·intro t;by_cases ht:dst=some t
  ·subst ht;rw [fQ,zB _ _ _ (by have:=hd t rfl;have:=h.size;simpa [this] using hd t rfl)];exact h3
  ·rw [tW ht,zC _ _ _ ht];exact kW h2.sle h2.ge _ (h.env t)
 ·rw [zA];exact vI h4 (qg h2.sle h2.ge h.dfs)
 ·rw [Fh];exact h.size
theorem FR.still {env:eZ} {hp ups:Hp} {dfs:List (Nat × List AV)} {nt:Nat} {m b:aQ} {S S':aO} {w w':World} {a:Act} (h:FR ap env hp dfs nt m S w a)
  (h1:bF ap (cD (ax hp) ups) b S' w') (h2:Fr (ax hp) m S w (cD (ax hp) ups) b S' w'):FR ap env (ups++hp) dfs nt b S' w' a:=by
 rw [ig] at h1 h2;exact ⟨h1,fun t=>kW h2.sle h2.ge _ (h.env t),qg h2.sle h2.ge h.dfs,h.size⟩
def sV (ap:AP) (hp0:Hp) (m:aQ) (S:aO) (w:World) (nt:Nat) (env:eZ) (hp:Hp) (dfs:List (Nat × List AV)) (Q:Exit→Act→World→Prop):Option AV→Prop
 |none=> ∀ m' S' w' a',Fr (ax hp0) m S w (ax hp) m' S' w'→FR ap env hp dfs nt m' S' w' a'→Q .normal a' w'
 |some v=> ∀ m' S' w' a' cv,Fr (ax hp0) m S w (ax hp) m' S' w'→FR ap env hp dfs nt m' S' w' a'→VR (ax hp) m' S' v cv→Q (.panic [{v:=cv,recovered:=false}]) a' w'
theorem oD {ops:Array Oper} {Q:Exit→Act→World→Prop} {i:Nat} {o:Oper} (b:ops[i]? =some o) (rest:List Nat) (a:Act) (w:World):wpOps P ops Q (i::rest) a w↔U7 P ops Q o (wpOps P ops Q rest) a w:=by
 simp only [wpOps,b,U7]
theorem G3 {hp ups:Hp} {nid:Nat} (c:∀ b B,ax hp b=some B→b<nid) (e:(ups.map (·.1)).all (fun x=>Xjd x (nid+4))=true):∀ b B,ax (ups++hp) b=some B→b<nid+4:=by
 intro b B a;rw [eJ] at a;split at a
 ·rename_i x d;have f:b ∈ ups.map (·.1):=yT d;exact dG (List.all_eq_true.1 e b f)
 ·have:=c b B a;omega
theorem jQ (F:fe P ap) (U:gR P ap H) {ops:List Oper} {nt:Nat} (M:∀ o ∈ ops,∀ d,o.dst=some d→d<nt):∀ (l:List Oper) (i nid:Nat) (s s':RS) (p:Option AV) (c c':Cx),nY ap H ops l nid s c= .ok (s',p) c'→c'.Ok→
  c.Ok∧(s.md= .dead→oJ s.dec s.env→l=ops.drop i→(∀ b B,ax s.hp b=some B→b<nid)→
  s'.md= .dead∧∀ m S w a,FR ap s.env s.hp s.dfs nt m S w a→∀ Q,sV ap s.hp m S w nt s'.env s'.hp s'.dfs Q p→wpOps P ops.toArray Q (List.range' i l.length) a w)
 | [],i,nid,s,s',p,c,c',h,hc=>by
  cases h;exact ⟨hc,fun e _ _ _=> ⟨e,fun m S w a u Q y=>y m S w a (Fr.refl _ _ _ _) u⟩⟩
 | o ::r,i,nid,s,s',p,c,c',h,hc=>by
  simp only [nY] at h;obtain ⟨⟨s1,p1⟩,c1,e1,h⟩:=R.bind_ok h;dsimp only at h;have hfresh:(∀ b B,ax s.hp b=some B→b<nid)→∀ j,j<4→ax s.hp (nid+j)=none:=by
   intro G j _;cases hb:ax s.hp (nid+j) with
   |none=>rfl
   |some B=>have:=G _ _ hb;omega
  have z:o::r=ops.drop i→ops[i]? =some o∧ops.toArray[i]? =some o∧r=ops.drop (i+1)∧∀ d,o.dst=some d→d<nt:=by
   intro I;have f:ops[i]? =some o:=by
    have:(ops.drop i)[0]? =some o:=by rw [← I];rfl
    simpa using this
   have N:r=ops.drop (i+1):=by
    have:r=(ops.drop i).drop 1:=by rw [← I];rfl
    rw [this,Xjl]
   exact ⟨f,by simpa using f,N,M o (Xqm f)⟩
  cases p1 with
  |some v=>
   cases h;obtain ⟨D,A⟩:=nX F U e1 hc;refine ⟨D,fun e k I G=> ?_⟩;obtain ⟨f,n,N,hd⟩:=z I;obtain ⟨v1,rb,ups,df,hs⟩:=A e k;refine ⟨by rw [hs.md,e],fun m S w a u Q y=> ?_⟩;rw [μ,Xka,oD n];refine hs.sem (ax s.hp) m S w a u.srel (fun t _=>u.env t) (fun b _ B Z=>Z) (hfresh G) Q _ ?_;intro cv m' S' w' h1 x O;have T:=u.still h1 x;rw [ig] at x O;obtain ⟨q,rfl⟩:=hs.envp (by simp);have y:=y m' S' w' a cv;rw [hs.hp,hs.dfs,q] at y;exact y x T O
  | none=>
   dsimp only at h;cases E:s1.feet with
   |nil=>rw [E] at h;cases h
   | cons ft fr=>
    rw [E] at h;dsimp only at h;split at h
    ·rename_i L;obtain ⟨hc1,ih⟩:=jQ F U M r (i+1) (nid+4) s1 s' p c1 c' h hc;obtain ⟨D,A⟩:=nX F U e1 hc1;refine ⟨D,fun e k I G=> ?_⟩;obtain ⟨f,n,N,hd⟩:=z I;obtain ⟨v1,rb,ups,df,hs⟩:=A e k;have C:=hs.feet rfl;rw [E] at C;simp only [List.cons.injEq] at C;rw [C.1] at L;obtain ⟨K,ih⟩:=ih (by rw [hs.md,e]) (hs.dec rfl) N (by rw [hs.hp];exact G3 G L);refine ⟨K,fun m S w a u Q y=> ?_⟩;rw [μ,Xka,oD n];refine hs.sem (ax s.hp) m S w a u.srel (fun t _=>u.env t) (fun b _ B Z=>Z) (hfresh G) Q _ ?_;intro cv m' S' w' ds h1 x O h4;have J:=u.put hd h1 x O h4;rw [ig] at x;have q:=hs.env rfl;rw [← q,← hs.hp,← hs.dfs] at J;refine ih m' S' w' _ J Q ?_;rw [← hs.hp] at x;cases p with
     |none=>exact fun X S2 W a2 V Y=>y X S2 W a2 (x.trans V) Y
     |some v=>exact fun X S2 W a2 cv2 V Y h7=>y X S2 W a2 cv2 (x.trans V) Y h7
    ·cases h
end
end AM
namespace AM
open Go
structure g_ where
 dst:Option Nat
 v:AV
 rt:List Nat
 rb:List Nat
 ups:List (Nat × aR)
def Ij (d:Option Nat):List Nat:=match d with|some d=> [d]|none=> []
def g_.foot (r:g_):rN:={rt:=r.rt,wt:=Ij r.dst,rb:=r.rb,wb:=r.ups.map (·.1)}
def jt (D:Nat→Bool):Nat→eZ→List g_→eZ
 |_,e,[]=>e
 |j,e,r::rs=>jt D (j+1) (match D j with|true=>lT e r.dst r.v|false=>e) rs
def kS (D:Nat→Bool):Nat→Hp→List g_→Hp
 |_,h,[]=>h
 |j,h,r::rs=>kS D (j+1) (match D j with|true=>r.ups++h|false=>h) rs
theorem kg {D D':Nat→Bool} {t:Nat}:∀ (rs:List g_) (j:Nat) (e e':eZ),e.get t=e'.get t→(∀ k r,rs[k]? =some r→r.dst=some t→D (j+k)=D' (j+k))→(jt D j e rs).get t=(jt D' j e' rs).get t
 | [],_,_,_,he,_=>he
 | r::rs,j,e,e',he,h=>by
  simp only [jt];refine kg rs (j+1) _ _ ?_ fun k r' a hd=> ?_
  ·by_cases hd:r.dst=some t
   ·have h0:=h 0 r rfl hd;rw [Xq3] at h0;rw [h0];cases D' j with
    |true=>simp only [hd,fQ]
    |false=>exact he
   ·cases D j<;>cases D' j<;>simp only [tW hd,he]
  ·have:=h (k+1) r' (by simpa using a) hd;rwa [show j+(k+1)=j+1+k by omega] at this
theorem Da:∀ {l:Hp} {b:Nat},b ∉ l.map (·.1)→ax l b=none:=by
 intro l b h;cases a:ax l b with
 |none=>rfl
 |some B=>exact absurd (yT a) h
theorem nG {ups hp:Hp} {b:Nat} (h:b ∉ ups.map (·.1)):ax (ups++hp) b=ax hp b:=by
 rw [eJ,Da h]
theorem pE:∀ {l:Hp} {b:Nat},b ∈ l.map (·.1)→∃ B,ax l b=some B
 | [],b,h=>by simp at h
 | (c,C)::r,b,h=>by
  simp only [ax];cases a:Xqn c b with
  |true=>exact ⟨C,rfl⟩
  |false=>
   simp only [Xqc,Xz5] at h;rcases h with h|h
   ·subst h;simp at a
   ·exact pE h
theorem ug {ups hp hp':Hp} {b:Nat} (h:b ∈ ups.map (·.1)):ax (ups++hp) b=ax (ups++hp') b:=by
 obtain ⟨B,a⟩:=pE h;rw [eJ,eJ,a]
theorem mK {D D':Nat→Bool} {b:Nat}:∀ (rs:List g_) (j:Nat) (h h':Hp),ax h b=ax h' b→(∀ k r,rs[k]? =some r→b ∈ r.ups.map (·.1)→D (j+k)=D' (j+k))→ax (kS D j h rs) b=ax (kS D' j h' rs) b
 | [],_,_,_,he,_=>he
 | r::rs,j,e,e',he,h=>by
  simp only [kS];refine mK rs (j+1) _ _ ?_ fun k r' a hd=> ?_
  ·by_cases hd:b ∈ r.ups.map (·.1)
   ·have h0:=h 0 r rfl hd;rw [Xq3] at h0;rw [h0];cases D' j with
    |true=>exact ug hd
    |false=>exact he
   ·cases D j<;>cases D' j<;>simp only [nG hd,he]
  ·have:=h (k+1) r' (by simpa using a) hd;rwa [show j+(k+1)=j+1+k by omega] at this
theorem qt:∀ (a:List g_) (j:Nat) (e:eZ) {D:Nat→Bool},(∀ k,k<a.length→D (j+k)=false)→jt D j e a=e
 | [],_,_,_,_=>rfl
 |r::a,j,e,D,h=>by
  have h0:=h 0 (by simp);rw [Xq3] at h0;simp only [jt,h0];exact qt a (j+1) e fun k b=>by have:=h (k+1) (by simpa using b);rwa [show j+(k+1)=j+1+k by omega] at this
theorem kr:∀ (a:List g_) (j:Nat) (e:Hp) {D:Nat→Bool},(∀ k,k<a.length→D (j+k)=false)→kS D j e a=e
 | [],_,_,_,_=>rfl
 |r::a,j,e,D,h=>by
  have h0:=h 0 (by simp);rw [Xq3] at h0;simp only [kS,h0];exact kr a (j+1) e fun k b=>by have:=h (k+1) (by simpa using b);rwa [show j+(k+1)=j+1+k by omega] at this
def kR (e:eZ) (rs:List g_):eZ:=jt (fun _=>true) 0 e rs
def yz (h:Hp) (rs:List g_):Hp:=kS (fun _=>true) 0 h rs
theorem rW (D:Nat→Bool):∀ (rs:List g_) (j d:Nat) (e:eZ),jt D (j+d) e rs=jt (fun k=>D (k+d)) j e rs
 | [],_,_,_=>rfl
 |r::rs,j,d,e=>by
  simp only [jt];rw [show j+d+1=j+1+d by omega];exact rW D rs (j+1) d _
theorem uS (D:Nat→Bool):∀ (rs:List g_) (j d:Nat) (e:Hp),kS D (j+d) e rs=kS (fun k=>D (k+d)) j e rs
 | [],_,_,_=>rfl
 |r::rs,j,d,e=>by
  simp only [kS];rw [show j+d+1=j+1+d by omega];exact uS D rs (j+1) d _
theorem qu (e:eZ) (r:g_) (a:List g_):kR e (r::a)=kR (lT e r.dst r.v) a:=by
 simp only [kR,jt];exact rW (fun _=>true) a 0 1 _
theorem t_ (h:Hp) (r:g_) (a:List g_):yz h (r::a)=yz (r.ups++h) a:=by
 simp only [yz,kS];exact uS (fun _=>true) a 0 1 _
theorem tT:∀ (a:List g_) (k:Nat) (e:eZ),jt (fun j=>decide (j<k)) 0 e a=kR e (a.take k)
 |a,0,e=>by
  simp only [Xkq];exact qt a 0 e fun _ _=>by simp
 | [],k+1,e=>rfl
 |r::a,k+1,e=>by
  simp only [Xx3,qu,jt];rw [show decide (0<k+1)=true by simp];dsimp only;rw [← tT a k];have:=rW (fun j=>decide (j<k+1)) a 0 1 (lT e r.dst r.v);rw [this];congr 1;funext j;simp
theorem GU:∀ (a:List g_) (k:Nat) (e:Hp),kS (fun j=>decide (j<k)) 0 e a=yz e (a.take k)
 |a,0,e=>by
  simp only [Xkq];exact kr a 0 e fun _ _=>by simp
 | [],k+1,e=>rfl
 |r::a,k+1,e=>by
  simp only [Xx3,t_,kS];rw [show decide (0<k+1)=true by simp];dsimp only;rw [← GU a k];have:=uS (fun j=>decide (j<k+1)) a 0 1 (r.ups++e);rw [this];congr 1;funext j;simp
theorem BB (e:eZ):∀ (b:List g_) (k:Nat) (r:g_),b[k]? =some r→kR e (b.take (k+1))=lT (kR e (b.take k)) r.dst r.v:=by
 intro b
 induction b generalizing e with
 |nil=>intro k r h;simp at h
 | cons a b ih=>
  intro k r h;cases k with
  |zero=>simp at h;subst h;rfl
  |succ k=>
   simp only [Xx3,qu];exact ih _ k r (by simpa using h)
theorem M7 (e:Hp):∀ (b:List g_) (k:Nat) (r:g_),b[k]? =some r→yz e (b.take (k+1))=r.ups++yz e (b.take k):=by
 intro b
 induction b generalizing e with
 |nil=>intro k r h;simp at h
 | cons a b ih=>
  intro k r h;cases k with
  |zero=>simp at h;subst h;rfl
  |succ k=>
   simp only [Xx3,t_];exact ih _ k r (by simpa using h)
section
variable {P:Program} {ap:AP} {H:bL}
structure LU (P:Program) (ap:AP) (ops:List Oper) (i nid:Nat) (s s':RS) (recs:List g_):Prop where
 env:s'.env=kR s.env recs
 hp:s'.hp=yz s.hp recs
 feet:s'.feet=(recs.map g_.foot).reverse++s.feet
 dle:s.dfs.length≤s'.dfs.length
 bound:∀ (k:Nat) (r:g_),recs[k]? =some r→∀ b ∈ r.ups.map (·.1),b<nid+4*k+4
 sem:s'.dfs.length=s.dfs.length→s'.dfs=s.dfs∧∀ (k:Nat) (r:g_),recs[k]? =some r→∃ o,ops[i+k]? =some o∧r.dst=o.dst∧Ct P ap ops.toArray o (nid+4*k) (kR s.env (recs.take k)) (yz s.hp (recs.take k)) r.rt r.rb r.v r.ups [] none
theorem Pm (y:fe P ap) (J:gR P ap H) {ops:List Oper}:∀ (l:List Oper) (i nid:Nat) (s s':RS) (c c':Cx),nY ap H ops l nid s c= .ok (s',none) c'→c'.Ok→
  c.Ok∧(s.md= .dead→oJ s.dec s.env→l=ops.drop i→s'.md= .dead∧∃ recs:List g_,recs.length=l.length∧LU P ap ops i nid s s' recs)
 | [],i,nid,s,s',c,c',h,hc=>by
  cases h;exact ⟨hc,fun a _ _=> ⟨a,[],rfl,⟨rfl,rfl,rfl,φ _,fun k r h=>by simp at h,fun _=> ⟨rfl,fun k r h=>by simp at h⟩⟩⟩⟩
 | o :: r,i,nid,s,s',c,c',h,hc=>by
  simp only [nY] at h;obtain ⟨⟨z,V⟩,N,Q,h⟩:=R.bind_ok h;dsimp only at h;cases V with
  |some v=>cases h
  | none=>
   dsimp only at h;cases j:z.feet with
   |nil=>rw [j] at h;cases h
   | cons ft fr=>
    rw [j] at h;dsimp only at h;split at h
    ·rename_i u;obtain ⟨F,U⟩:=Pm y J r (i+1) (nid+4) z s' N c' h hc;obtain ⟨E,A⟩:=nX y J Q F;refine ⟨E,fun a n K=> ?_⟩;have C:ops[i]? =some o:=by
      have:(ops.drop i)[0]? =some o:=by rw [← K];rfl
      simpa using this
     have W:r=ops.drop (i+1):=by
      have:r=(ops.drop i).drop 1:=by rw [← K];rfl
      rw [this,Xjl]
     obtain ⟨v1,rb,ups,D,hs⟩:=A a n;have e:=hs.feet rfl;rw [j] at e;simp only [List.cons.injEq] at e;rw [e.1] at u;obtain ⟨t,recs,p,f⟩:=U (by rw [hs.md,a]) (hs.dec rfl) W;refine ⟨t,{dst:=o.dst,v:=v1,rt:=qa o.op.operands.toList++gb ops o,rb:=rb,ups:=ups}::recs,by simp [p], ?_⟩;have B:s.dfs.length≤z.dfs.length:=by rw [hs.dfs];simp
     refine ⟨?_, ?_, ?_,Xxa B f.dle, ?_, ?_⟩
     ·rw [f.env,qu,hs.env rfl]
     ·rw [f.hp,t_,hs.hp]
     ·rw [f.feet,hs.feet rfl];simp [g_.foot,Ij,CN];cases o.dst<;>rfl
     ·intro k q d b M;cases k with
      |zero=>
       simp at d;subst d;exact dG (List.all_eq_true.1 u b M)
      |succ k=>
       have:=f.bound k q (by simpa using d) b M;omega
     ·intro Y;have Z:=f.dle;obtain ⟨G,x⟩:=f.sem (by omega);have I:D= []:=by
       have:D.length=0:=by
        have:=hs.dfs;have h3:z.dfs.length=D.length+s.dfs.length:=by rw [this];simp
        omega
       exact Xx5 this
      subst I;refine ⟨by rw [G,hs.dfs];rfl, ?_⟩;intro k q d;cases k with
      |zero=>
       simp at d;subst d;exact ⟨o,C,rfl,hs.sem⟩
      |succ k=>
       obtain ⟨T,X,O,L⟩:=x k q (by simpa using d);refine ⟨T,by rw [show i+(k+1)=i+1+k by omega];exact X,O, ?_⟩;rw [Xx3,qu,t_];rw [hs.env rfl,hs.hp] at L;rw [show nid+4*(k+1)=nid+4+4*k by omega];exact L
    ·cases h
end
end AM
namespace AM
open Go
theorem yo {md:Region.Mode} (b:Array Nat) (i:Nat):∀ (l:List Edge) (s:Nat),(l.foldl (fun s e=>if Region.binds md e then s|||2^e.on|||b.getD e.on 0 else s) s).testBit i=true→
  s.testBit i=true∨∃ e ∈ l,Region.binds md e=true∧(i=e.on∨(b.getD e.on 0).testBit i=true)
 | [],s,h=> .inl h
 | e::r,s,h=>by
  simp only [Xxg] at h;rcases yo b i r _ h with a|⟨e',a,d⟩
  ·split at a
   ·rename_i c;simp only [Nat.testBit_or,Xvl,Nat.testBit_two_pow,decide_eq_true_eq] at a;rcases a with (a|a)|a
    ·exact .inl a
    ·exact .inr ⟨e,by simp,c,.inl a.symm⟩
    ·exact .inr ⟨e,by simp,c,.inr a⟩
   ·exact .inl a
  ·exact .inr ⟨e',by simp [a],d⟩
def kZ (acc:Array Nat) (o:Oper):Array Nat:=acc.push (o.after.toList.foldl (fun s e=>if Region.binds .any e then s|||2^e.on|||acc.getD e.on 0 else s) 0)
theorem yp (a:Array Nat) (x:Nat):(a.push x).getD a.size 0=x:=by simp [Array.getD_eq_getD_getElem?]
def wQ (ops:List Oper) (D:Nat→Bool):Prop:=∀ (k:Nat) (o:Oper),ops[k]? =some o→D k=true→∀ e ∈ o.after,Region.binds .any e=true→D e.on=true
def Ua (D:Nat→Bool) (acc:Array Nat):Prop:=∀ k,D k=true→∀ i,(acc.getD k 0).testBit i=true→D i=true
theorem H3 {ops:List Oper} {D:Nat→Bool} (n:wQ ops D):∀ (l:List Oper) (acc:Array Nat),Ua D acc→l=ops.drop acc.size→Ua D (l.foldl kZ acc)
 | [],acc,h,_=>h
 | o ::r,acc,h,hl=>by
  simp only [Xxg];have d:ops[acc.size]? =some o:=by
   have:(ops.drop acc.size)[0]? =some o:=by rw [← hl];rfl
   simpa using this
  refine H3 n r _ ?_ ?_
  ·intro k f i a;by_cases hks:k<acc.size
   ·refine h k f i ?_;simpa [kZ,Array.getD_eq_getD_getElem?,Array.getElem?_push,Nat.ne_of_lt hks] using a
   ·by_cases hke:k=acc.size
    ·subst hke;rw [kZ,yp] at a;rcases yo acc i _ _ a with b|⟨e,b,p,c⟩
     ·simp at b
     ·have j:=n _ o d f e (by simpa using b) p;rcases c with rfl|c
      ·exact j
      ·exact h _ j i c
    ·have:(kZ acc o)[k]? =none:=by
      simp only [kZ];rw [Array.getElem?_eq_none];simp;omega
     simp [Array.getD_eq_getD_getElem?,this] at a
  ·have:(kZ acc o).size=acc.size+1:=by simp [kZ]
   rw [this,← Xjl,← hl];rfl
theorem JU (ops:List Oper):Region.before ops.toArray=ops.foldl kZ #[]:=by
 simp only [Region.before,← Array.foldl_toList];rfl
theorem lK {ops:List Oper} {D:Nat→Bool} (c:wQ ops D) {k i:Nat} (a:D k=true) (h:((Region.before ops.toArray).toList.getD k 0).testBit i=true):D i=true:=by
 have:=H3 c ops #[] (fun k _ i b=>by simp at b) (by simp);rw [← JU] at this;refine this k a i ?_;rw [ν] at h;rw [Array.getD_eq_getD_getElem?];simpa using h
theorem mO {a b:List Nat} {x:Nat} (c:x ∈ a) (d:x ∈ b):yY a b=true:=List.any_eq_true.2 ⟨x,c,fA.2 d⟩
structure Cs (n:Nat) (bef:Nat→Nat→Bool) (recs:List g_):Prop where
 ok:∀ i j a b,recs[i]? =some a→recs[j]? =some b→i<j→(ia a.foot b.foot=true∨∃ x ∈ b.ups.map (·.1),n+4*i≤x∧x<n+4*i+4)→bef j i=true
theorem zt {n:Nat} {d:List Nat} {recs:List g_} (h:pL n d (recs.map g_.foot).reverse=true):Cs n (fun j i=>(d.getD j 0).testBit i) recs:=by
 refine ⟨fun i j a b k p f e=> ?_⟩;simp only [pL,List.reverse_reverse,Xzg] at h;have c:=h (a.foot,i) (by rw [Xj6];simp [k]) (b.foot,j) (by rw [Xj6];simp [p]);simp only [Xvl,Xqq] at c;rcases c with (c|c)|c
 ·have:Xjd i j=true:=Xqg f;rw [this] at c;cases c
 ·exfalso;rw [Bool.or_eq_false_iff] at c;rcases e with e|⟨x,q,o,l⟩
  ·rw [e] at c;cases c.1
  ·have:=List.any_eq_false.1 c.2 x q;simp only [π,not_and] at this;exact this (Xqg o) (Xqg l)
 ·exact c
section
variable {P:Program} {ap:AP} {H:bL}
theorem FR.congr {env b:eZ} {hp hp':Hp} {dfs:List (Nat × List AV)} {nt:Nat} {m:aQ} {S:aO} {w:World} {a:Act} (h:FR ap env hp dfs nt m S w a) (d:∀ t,b.get t=env.get t) (c:ax hp'=ax hp):FR ap b hp' dfs nt m S w a:=by
 refine ⟨c ▸ h.srel,fun t=> ?_,c ▸ h.dfs,h.size⟩;rw [d,c];exact h.env t
def lg (listed:Array Bool):Nat→Bool:=fun k=>listed.getD k false
theorem Qu {listed:Array Bool} {i:Nat} (a:i<listed.size) (k:Nat):lg (listed.setIfInBounds i true) k=(if k=i then true else lg listed k):=by
 simp only [lg,Array.getD_eq_getD_getElem?];by_cases h:k=i
 ·subst h;rw [if_pos rfl,Array.getElem?_setIfInBounds_self_of_lt a];rfl
 ·rw [if_neg h,Array.getElem?_setIfInBounds_ne (fun e=>h e.symm)]
def xg (n:Nat) (D:Nat→Bool):Nat:=((Xq1 n).filter fun i=> !D i).length
theorem wg {D D':Nat→Bool} {i:Nat} (c:D i=false) (b:∀ k,D' k=if k=i then true else D k):∀ (l:List Nat),l.Nodup→i ∈ l→(l.filter fun k=> !D k).length=(l.filter fun k=> !D' k).length+1
 | [],_,h=>by simp at h
 | a::r,hn,h=>by
  rw [Xkm] at hn;by_cases ha:a=i
  ·subst ha;have hsame:r.filter (fun k=> !D k)=r.filter (fun k=> !D' k):=by
    refine List.filter_congr fun k f=> ?_
    have:k ≠ a:=fun e=>hn.1 (e ▸ f)
    rw [b k,if_neg this]
   have d:D' a=true:=by rw [b a,if_pos rfl]
   simp [c,d,hsame]
  ·have j:=wg c b r hn.2 (by simpa [Ne.symm ha] using h);have:D' a=D a:=by rw [b a,if_neg ha]
   simp only [List.filter_cons,this];split<;>simp [j]
theorem Ow {ops:List Oper} (h:nA ops=true) {listed:Array Bool} (o:listed.size=ops.length) (b:Region.ready .any ops.toArray listed= []):∀ k,k<ops.length→lg listed k=true:=by
 intro k
 induction k using Nat.strongRecOn with
 | _ k ih=>
  intro c;cases hd:lg listed k with
  |true=>rfl
  | false=>
   exfalso;have a:k ∈ Region.ready .any ops.toArray listed:=by
    simp only [Region.ready,Xvm,Yxh,Xx9];refine ⟨c, ?_⟩;have i:listed.getD k true=false:=by
     simp only [lg,Array.getD_eq_getD_getElem?] at hd ⊢;rw [Array.getElem?_eq_getElem (by omega)] at hd ⊢;simpa using hd
    have n:ops.toArray[k]? =some ops[k]:=by simp [c]
    rw [i,n];simp only [Bool.not_false,Bool.true_and,Xx1,Xvc,Array.all_eq_true',Xvl,Xqq];intro e j;cases f:Region.binds .any e with
    |false=>exact .inl rfl
    |true=>
     right;simp only [nA,Xzg] at h;have d:=h (ops[k],k) (by rw [Xj6];simp [c]) e (by simpa using j);rw [f] at d;simp only [Xwr,Xzk] at d;have l:=dG d;exact ih e.on l (by omega)
   rw [b] at a;cases a
theorem zG {ops:List Oper} {listed:Array Bool} (k:listed.size=ops.length) {i:Nat} (h:i ∈ Region.ready .any ops.toArray listed):∃ o,ops[i]? =some o∧lg listed i=false∧i<ops.length∧∀ e ∈ o.after,Region.binds .any e=true→lg listed e.on=true:=by
 simp only [Region.ready,Xvm,Yxh,Xx9,π,Xqq] at h;obtain ⟨c,a,b⟩:=h;have d:ops.toArray[i]? =some ops[i]:=by simp [c]
 rw [d] at b;simp only [Xx1,Xvc,Array.all_eq_true',Xvl,Xqq] at b;refine ⟨ops[i],ξ c, ?_,c,fun e f j=> ?_⟩
 ·simp only [lg,Array.getD_eq_getD_getElem?] at a ⊢;rw [Array.getElem?_eq_getElem (by omega)] at a ⊢;simpa using a
 ·rcases b e f with h|h
  ·rw [j] at h;cases h
  ·exact h
end
end AM
namespace AM
open Go
theorem Md {a b:rN} {x:Nat} (h:x ∈ a.wt) (c:x ∈ b.rt):ia a b=true:=by simp [ia,mO h c]
theorem Ei {a b:rN} {x:Nat} (h:x ∈ a.wt) (c:x ∈ b.wt):ia a b=true:=by simp [ia,mO h c]
theorem Mc {a b:rN} {x:Nat} (h:x ∈ a.rt) (c:x ∈ b.wt):ia a b=true:=by simp [ia,mO h c]
theorem JZ {a b:rN} {x:Nat} (h:x ∈ a.wb) (c:x ∈ b.rb):ia a b=true:=by simp [ia,mO h c]
theorem Bu {a b:rN} {x:Nat} (h:x ∈ a.wb) (c:x ∈ b.wb):ia a b=true:=by simp [ia,mO h c]
theorem JY {a b:rN} {x:Nat} (h:x ∈ a.rb) (c:x ∈ b.wb):ia a b=true:=by simp [ia,mO h c]
theorem pG {d:Option Nat} {t:Nat} (h:d=some t):t ∈ Ij d:=by subst h;simp [Ij]
section
variable {P:Program} {ap:AP} {H:bL}
structure U9 (ap:AP) (ops:List Oper) (recs:List g_) (e0:eZ) (hp0:Hp) (dfs:List (Nat × List AV)) (nt:Nat) (m0:aQ) (S0:aO) (w0:World) (listed:Array Bool) (m:aQ) (S:aO) (w:World) (a:Act):Prop where
 sz:listed.size=ops.length
 cl:wQ ops (lg listed)
 fr:Fr (ax hp0) m0 S0 w0 (ax (kS (lg listed) 0 hp0 recs)) m S w
 rel:FR ap (jt (lg listed) 0 e0 recs) (kS (lg listed) 0 hp0 recs) dfs nt m S w a
theorem Eo {ops:List Oper} {recs:List g_} {s:RS} {z nt:Nat} (hnt:∀ o ∈ ops,∀ d,o.dst=some d→d<nt) (hlen:recs.length=ops.length)
  (hbound:∀ (k:Nat) (r:g_),recs[k]? =some r→∀ b ∈ r.ups.map (·.1),b<z+4*k+4)
  (hsem:∀ (k:Nat) (r:g_),recs[k]? =some r→∃ o,ops[k]? =some o∧r.dst=o.dst∧∀ (D:Nat→Bool) m S w (a:Act),bF ap (ax (kS D 0 s.hp recs)) m S w→(∀ t ∈ r.rt,VR (ax (kS D 0 s.hp recs)) m S ((kR s.env (recs.take k)).get t) (a.tmps.getD t undef))→
   (∀ b ∈ r.rb,ax (yz s.hp (recs.take k)) b=ax (kS D 0 s.hp recs) b)→(∀ j,j<4→ax (kS D 0 s.hp recs) (z+4*k+j)=none)→(∀ j,((Region.before ops.toArray).toList.getD j 0).testBit k=true→D j=false)→
   ∀ (Q:Exit→Act→World→Prop) (K:Act→World→Prop),T_ ap o (ax (kS D 0 s.hp recs)) m S w a r.v r.ups [] Q K none→U7 P ops.toArray Q o K a w)
  (hord:Cs z (fun j i=>((Region.before ops.toArray).toList.getD j 0).testBit i) recs) (hback:nA ops=true) (hn0:∀ b B,ax s.hp b=some B→b<z) {m0:aQ} {S0:aO} {w0:World} {Q:Exit→Act→World→Prop}
  (hQ:∀ m S w a,Fr (ax s.hp) m0 S0 w0 (ax (yz s.hp recs)) m S w→FR ap (kR s.env recs) (yz s.hp recs) s.dfs nt m S w a→Q .normal a w):
  ∀ (l:Nat) (listed:Array Bool) (m:aQ) (S:aO) (w:World) (a:Act),U9 ap ops recs s.env s.hp s.dfs nt m0 S0 w0 listed m S w a→xg ops.length (lg listed)≤l→wpAny P .any ops.toArray Q l listed a w:=by
 have hdone:∀ (listed:Array Bool) (m:aQ) (S:aO) (w:World) (a:Act),U9 ap ops recs s.env s.hp s.dfs nt m0 S0 w0 listed m S w a→(∀ k,k<ops.length→lg listed k=true)→Q .normal a w:=by
  intro listed m S w a p u;have hh:∀ b,ax (yz s.hp recs) b=ax (kS (lg listed) 0 s.hp recs) b:=fun b=>
   mK recs 0 _ _ rfl fun k r c _=>by rw [u (0+k) (by have:=(List.getElem?_eq_some_iff.1 c).1;omega)]
  have Z:∀ t,(kR s.env recs).get t=(jt (lg listed) 0 s.env recs).get t:=fun t=>
   kg recs 0 _ _ rfl fun k r c _=>by rw [u (0+k) (by have:=(List.getElem?_eq_some_iff.1 c).1;omega)]
  have F:=funext hh;exact hQ m S w a (F ▸ p.fr) (p.rel.congr Z F)
 intro l
 induction l with
 | zero=>
  intro listed m S w a p hm;have u:∀ k,k<ops.length→lg listed k=true:=by
   intro k c;cases hd:lg listed k with
   |true=>rfl
   |false=>
    have L:k ∈ (Xq1 ops.length).filter fun i=> !lg listed i:=by simp [c,hd]
    have:(Xq1 ops.length).filter (fun i=> !lg listed i)= []:=Xx5 (Nat.le_zero.1 hm);rw [this] at L;cases L
  refine ⟨?_,hdone listed m S w a p u⟩;cases hr:Region.ready .any ops.toArray listed with
  |nil=>rfl
  |cons i r=>
   obtain ⟨o,_,n,h3,_⟩:=zG p.sz (i:=i) (by rw [hr];simp);rw [u i h3] at n;cases n
 | succ l ih=>
  intro listed m S w a p hm;refine ⟨fun W=>hdone listed m S w a p (Ow hback p.sz W),fun i hi=> ?_⟩;obtain ⟨o,I,A,R,hedges⟩:=zG p.sz hi;have v:recs[i]? =some recs[i]:=ξ (by omega);generalize recs[i]=r at v;obtain ⟨o',U,E,hstep⟩:=hsem i r v;rw [I] at U;cases U;have X:i<listed.size:=by rw [p.sz];exact R
  have f:=Qu X;have M:wQ ops (lg (listed.setIfInBounds i true)):=by
   intro k o2 c hd e Z y;rw [f] at hd ⊢;split
   ·rfl
   ·split at hd
    ·rename_i C;subst C;rw [I] at c;cases c;exact hedges e Z y
    ·exact p.cl k o2 c hd e Z y
  have N:∀ k q,recs[k]? =some q→k<i→(ia q.foot r.foot=true∨∃ x ∈ r.ups.map (·.1),z+4*k≤x∧x<z+4*k+4)→lg listed k=true:=by
   intro k q c C hc;have G:=hord.ok k i q r c v C hc;have n:=lK M (k:=i) (i:=k) (by rw [f,if_pos rfl]) G;rw [f,if_neg (by omega)] at n;exact n
  have hhigh:∀ k q,recs[k]? =some q→i<k→(ia r.foot q.foot=true∨∃ x ∈ q.ups.map (·.1),z+4*i≤x∧x<z+4*i+4)→lg listed k=false:=by
   intro k q c C hc;cases hd:lg listed k with
   |false=>rfl
   |true=>
    have G:=hord.ok i k r q v c C hc;have n:=lK p.cl hd G;rw [A] at n;cases n
  have O:∀ k q,recs[k]? =some q→(k<i→ia q.foot r.foot=true)→(i<k→ia r.foot q.foot=true)→decide (k<i)=lg listed k:=by
   intro k q c G n;rcases Xjy k i with h|h|h
   ·rw [N k q c h (.inl (G h))];simp [h]
   ·subst h;rw [A];simp
   ·rw [hhigh k q c h (.inl (n h))];simp;omega
  have hagr':∀ k q,recs[k]? =some q→(k<i→ia q.foot r.foot=true)→(i<k→ia r.foot q.foot=true)→lg (listed.setIfInBounds i true) k=decide (k<i+1):=by
   intro k q c G n;rw [f];rcases Xjy k i with h|h|h
   ·rw [if_neg (by omega),N k q c h (.inl (G h))];simp;omega
   ·subst h;simp
   ·rw [if_neg (by omega),hhigh k q c h (.inl (n h))];simp;omega
  have Y:∀ t ∈ r.rt,(kR s.env (recs.take i)).get t=(jt (lg listed) 0 s.env recs).get t:=by
   intro t J;rw [← tT];refine kg recs 0 _ _ rfl fun k q c hd=> ?_
   rw [Θ];exact O k q c (fun _=>Md (pG hd) J) (fun _=>Mc J (pG hd))
  have hhp:∀ b ∈ r.rb,ax (yz s.hp (recs.take i)) b=ax (kS (lg listed) 0 s.hp recs) b:=by
   intro b y;rw [← GU];refine mK recs 0 _ _ rfl fun k q c hd=> ?_
   rw [Θ];exact O k q c (fun _=>JZ hd y) (fun _=>JY y hd)
  have hfresh:∀ j,j<4→ax (kS (lg listed) 0 s.hp recs) (z+4*i+j)=none:=by
   intro j hj;have G:ax (kS (lg listed) 0 s.hp recs) (z+4*i+j)=ax (kS (fun _=>false) 0 s.hp recs) (z+4*i+j):=by
    refine mK recs 0 _ _ rfl fun k q c hd=> ?_
    rw [Θ];have y:=hbound k q c _ hd;rcases Xjy k i with h|h|h
    ·omega
    ·subst h;exact A
    ·exact hhigh k q c h (.inr ⟨_,hd,by omega,by omega⟩)
   rw [G,kr recs 0 _ (fun _ _=>rfl)];cases y:ax s.hp (z+4*i+j) with
   |none=>rfl
   |some B=>have:=hn0 _ _ y;omega
  have V:ops.toArray[i]? =some o:=by simpa using I
  have hgoal:U7 P ops.toArray Q o (wpAny P .any ops.toArray Q l (listed.setIfInBounds i true)) a w:=by
   refine hstep (lg listed) m S w a p.rel.srel (fun t J=>by rw [Y t J];exact p.rel.env t) hhp hfresh (fun j hj=>by
    cases hd:lg listed j with
    |false=>rfl
    |true=>
     have n:=lK p.cl hd hj;rw [A] at n;cases n) Q _ ?_
   intro cv m' S' w' ds G n h3 h4;have hF:=p.rel.put (hnt o (Xqm I)) G n h3 h4;rw [ig] at n;rw [Xqd] at hF;have he':∀ t,(jt (lg (listed.setIfInBounds i true)) 0 s.env recs).get t=(lT (jt (lg listed) 0 s.env recs) o.dst r.v).get t:=by
    intro t;by_cases J:o.dst=some t
    ·have h5:(jt (lg (listed.setIfInBounds i true)) 0 s.env recs).get t=(jt (fun j=>decide (j<i+1)) 0 s.env recs).get t:=by
      refine kg recs 0 _ _ rfl fun k q c hd=> ?_
      rw [Θ];have T:t ∈ r.foot.wt:=pG (E.trans J);exact hagr' k q c (fun _=>Ei (pG hd) T) (fun _=>Ei T (pG hd))
     rw [h5,tT,BB _ _ _ _ v,E,J,fQ,fQ]
    ·rw [tW J];refine kg recs 0 _ _ rfl fun k q c hd=> ?_
     rw [Θ,f,if_neg]
     rintro rfl
     rw [v] at c;cases c;exact J (E ▸ hd)
   have F:ax (kS (lg (listed.setIfInBounds i true)) 0 s.hp recs)=ax (r.ups++kS (lg listed) 0 s.hp recs):=by
    funext b;by_cases y:b ∈ r.ups.map (·.1)
    ·have h5:ax (kS (lg (listed.setIfInBounds i true)) 0 s.hp recs) b=ax (kS (fun j=>decide (j<i+1)) 0 s.hp recs) b:=by
      refine mK recs 0 _ _ rfl fun k q c hd=> ?_
      rw [Θ];exact hagr' k q c (fun _=>Bu hd y) (fun _=>Bu y hd)
     rw [h5,GU,M7 _ _ _ _ v];exact ug y
    ·rw [nG y];refine mK recs 0 _ _ rfl fun k q c hd=> ?_
     rw [Θ,f,if_neg]
     rintro rfl
     rw [v] at c;cases c;exact y hd
   refine ih _ m' S' w' _ ⟨by rw [Array.size_setIfInBounds];exact p.sz,M, ?_,hF.congr he' F⟩ ?_
   ·rw [F];exact p.fr.trans n
   ·have:=wg A f (Xq1 ops.length) Xwf (by simp [R]);simp only [xg] at hm ⊢;omega
  simp only [wpOp,V];exact hgoal
theorem Mp {ops:List Oper} {recs:List g_} {s s':RS} {p nt:Nat} (q:∀ o ∈ ops,∀ d,o.dst=some d→d<nt) (c:recs.length=ops.length) (f:LU P ap ops 0 p s s' recs) (h:s'.dfs.length=s.dfs.length)
  (hord:Cs p (fun j i=>((Region.before ops.toArray).toList.getD j 0).testBit i) recs) (hback:nA ops=true) (hn0:∀ b B,ax s.hp b=some B→b<p) {m0:aQ} {S0:aO} {w0:World} {Q:Exit→Act→World→Prop}
  (hQ:∀ m S w a,Fr (ax s.hp) m0 S0 w0 (ax (yz s.hp recs)) m S w→FR ap (kR s.env recs) (yz s.hp recs) s.dfs nt m S w a→Q .normal a w):
  ∀ (fuel:Nat) (listed:Array Bool) (m:aQ) (S:aO) (w:World) (a:Act),U9 ap ops recs s.env s.hp s.dfs nt m0 S0 w0 listed m S w a→xg ops.length (lg listed)≤fuel→wpAny P .any ops.toArray Q fuel listed a w:=by
 obtain ⟨_,e⟩:=f.sem h;refine Eo q c f.bound (fun k r u=> ?_) hord hback hn0 hQ;obtain ⟨o,t,y,A⟩:=e k r u;rw [Θ] at t;exact ⟨o,t,y,fun D m S w a z v l n _ Q K x=>A _ m S w a z v (fun b E B C=>by rw [← l b E];exact C) n Q K x⟩
def kV (ap:AP) (base:Nat) (keep:List Nat) (hp0:Hp) (m:aQ) (S:aO) (w:World) (nt:Nat) (s':St) (Q:Exit→Act→World→Prop):br→Prop
 | .panic v=>match (cR v).isEmpty with
  |true=> ∀ s1:St,s'=norm base keep s1→sV ap hp0 m S w nt s1.env s1.hp s1.dfs Q (some v)
  |false=>sV ap hp0 m S w nt s'.env s'.hp s'.dfs Q (some v)
 | .normal=> ∀ s1:St,s'=norm base keep s1→sV ap hp0 m S w nt s1.env s1.hp s1.dfs Q none
 |_=>True
theorem DA (A:fe P ap) (G:P.follows .mixedOrders=true) (I:gR P ap H) {ops:List Oper} {l:Bool} {nt base:Nat} {keep:List Nat} (z:∀ o ∈ ops,∀ d,o.dst=some d→d<nt) {s:St} {e:br} {s':St} {c T:Cx} {id:Nat}
  (h:Dz ap H base keep ops l s c= .ok (e,s') T) (hc:T.Ok):c.Ok∧(s.md= .dead→s'.md= .dead∧(∀ m S w a,FR ap s.env s.hp s.dfs nt m S w a→∀ Q,
   kV ap base keep s.hp m S w nt s' Q e→(Code.region id ops.toArray l).wp P Q a w)):=by
 unfold Dz at h;obtain ⟨⟨Z,p⟩,Y,J,h⟩:=R.bind_ok h;dsimp only at h;have u:∀ b B,ax s.hp b=some B→b<eT s.hp:=fun b B q=>mR q
 cases p with
 | some v=>
  cases l with
  |true=>cases h
  | false=>
   dsimp only at h;split at h
   ·rename_i D;cases h;obtain ⟨f,hs⟩:=jQ A I z ops 0 _ _ _ _ _ _ J hc;refine ⟨f,fun i=> ?_⟩;obtain ⟨x,C⟩:=hs i (fun t b q=>by cases q) rfl u;refine ⟨x,fun m S w a j Q y=>wp_region ?_⟩;simp only [kV,D] at y;have:=C m S w a j Q (y _ rfl);rw [← Xwc] at this;simpa using this
   ·rename_i D;cases h;obtain ⟨f,hs⟩:=jQ A I z ops 0 _ _ _ _ _ _ J hc;refine ⟨f,fun i=> ?_⟩;obtain ⟨x,C⟩:=hs i (fun t b q=>by cases q) rfl u;refine ⟨x,fun m S w a j Q y=>wp_region ?_⟩;simp only [kV,D] at y;have:=C m S w a j Q y;rw [← Xwc] at this;simpa using this
 | none=>
  dsimp only at h;split at h
  ·rename_i hcond;cases h;cases l with
   |false=>
    obtain ⟨f,hs⟩:=jQ A I z ops 0 _ _ _ _ _ _ J hc;refine ⟨f,fun i=> ?_⟩;obtain ⟨x,C⟩:=hs i (fun t b q=>by cases q) rfl u;refine ⟨x,fun m S w a j Q y=>wp_region ?_⟩;have:=C m S w a j Q (y _ rfl);rw [← Xwc] at this;simpa using this
   | true=>
    obtain ⟨f,hs⟩:=Pm A I ops 0 _ _ _ _ _ J hc;refine ⟨f,fun i=> ?_⟩;obtain ⟨x,recs,F,n⟩:=hs i (fun t b q=>by cases q) rfl;refine ⟨x,fun m S w a j Q y=>wp_region_any G ?_⟩;simp only [Xwr,Xzk,π] at hcond;obtain ⟨⟨U,hback⟩,r⟩:=hcond;have r:=aK r;rw [n.feet,List.append_nil] at U;have K:=y _ rfl;have N:=(n.sem r).1;have E:lg (Array.replicate ops.length false)=fun _=>false:=by
     funext k;simp only [lg,Array.getD_eq_getD_getElem?];by_cases O:k<ops.length<;>simp [O]
    have L:ops.toArray.size=ops.length:=by simp
    rw [L];refine Mp z F n r (zt U) hback u (m0:=m) (S0:=S) (w0:=w) (Q:=Q) ?_ ops.length _ m S _ a ⟨by simp, ?_, ?_, ?_⟩ ?_
    ·intro V S' w' W M X;refine K V S' w' W ?_ ?_
     ·rw [n.hp];exact M
     ·rw [n.hp,n.env,N];exact X
    ·intro k o O hd;rw [E] at hd;cases hd
    ·rw [E,kr recs 0 _ (fun _ _=>rfl)];exact ⟨Ge.refl _ _,jF.refl _,rfl,rfl,rfl,φ _,fun _ _ _=>rfl,fun _ B h=> .inr ⟨B,h,rfl⟩,fun _ _ _ h=> .inl h⟩
    ·rw [E,kr recs 0 _ (fun _ _=>rfl),qt recs 0 _ (fun _ _=>rfl)];exact ⟨⟨j.srel.inj,fun b B q=>j.srel.blk b B q|>fun ⟨x,C,M⟩=> ⟨x,C,M⟩,j.srel.sealed,j.srel.own,j.srel.glob⟩,j.env,j.dfs,j.size⟩
    ·exact Xxa (List.length_filter_le _ _) (by simp)
  ·cases h
end
end AM
namespace AM
open Go
def wC (acc:List Nat) (b:Nat):List Nat:=if lQ acc b then acc else acc++ [b]
theorem JN (a:List Nat) (b:Nat) (h:a.Nodup):(wC a b).Nodup∧∃ t,wC a b=a++t:=by
 unfold wC;split
 ·exact ⟨h,[],by simp⟩
 ·rename_i f;refine ⟨?_,[b],rfl⟩;rw [List.nodup_append];refine ⟨h,by simp, ?_⟩;intro x d y c e;simp at c;subst c;subst e;exact f (fA.2 d)
theorem kX:∀ (l a:List Nat),a.Nodup→(l.foldl wC a).Nodup∧∃ t,l.foldl wC a=a++t
 | [],a,h=> ⟨h,[],by simp⟩
 |b::r,a,h=>by
  simp only [Xxg];obtain ⟨c,i,j⟩:=JN a b h;obtain ⟨e,f,d⟩:=kX r _ c;exact ⟨e,i++f,by rw [d,j,Ψ]⟩
theorem xI:∀ (l a:List Nat),l.Nodup→(∀ x ∈ l,x ∉ a)→l.foldl wC a=a++l
 | [],a,_,_=>by simp
 | b::r,a,h,hd=>by
  rw [Xkm] at h;have e:lQ a b=false:=by
   cases c:lQ a b with
   |false=>rfl
   |true=>exact absurd (fA.1 c) (hd b (by simp))
  simp only [Xxg];have:wC a b=a++ [b]:=by simp [wC,e]
  rw [this,xI r _ h.2]
  ·simp
  ·intro x d c;rcases List.mem_append.1 c with c|c
   ·exact hd x (by simp [d]) c
   ·simp at c;subst c;exact h.1 d
theorem KG (l:List Nat):fU l=l.foldl wC []:=rfl
theorem Hd (n:Nat) (l:List Nat):(fU (Xq1 n++l)).Nodup∧∃ t,fU (Xq1 n++l)=Xq1 n++t:=by
 rw [KG,List.foldl_append,xI (Xq1 n) [] Xwf (by simp),Xqd];exact kX l _ Xwf
theorem oQ (rd:bV):∀ (n:Nat) (l:List Nat),l.Nodup→(oF rd n l).Nodup∧∃ t,oF rd n l=l++t
 |0,l,h=> ⟨h,[],by simp [oF]⟩
 | n+1,l,h=>by
  simp only [oF];split
  ·exact ⟨h,[],by simp⟩
  ·obtain ⟨a,f,i⟩:=kX (l.flatMap fun b=>match rd b with|some B=>(match B.pr with|true=> []|false=>bE B.cells)|none=> []) l h;obtain ⟨d,e,c⟩:=oQ rd n _ a;refine ⟨d,f++e, ?_⟩;exact c.trans (by rw [i,Ψ])
theorem BQ {f:Nat→AV}:∀ (keep:List Nat) (t:Nat),ax (keep.map fun t=>(t,f t)) t=if t ∈ keep then some (f t) else none
 | [],t=>by simp [ax]
 | a::r,t=>by
  simp only [Xqc,ax,BQ r t];cases h:Xqn a t with
  |true=>have:=aK h;subst this;simp
  |false=>
   have b:t ≠ a:=by intro e;subst e;simp at h
   simp [b]
theorem vW {rd:bV} {mk:Nat→aR→aR}:∀ (ids:List Nat) (j p:Nat),ax ((ids.zipIdx j).filterMap fun (b,p)=>(rd b).map fun B=>(p,mk p B)) p=if j≤p then (ids[p - j]?).bind fun b=>(rd b).map (mk p) else none
 | [],j,p=>by simp [ax]
 | a ::r,j,p=>by
  have f:=vW (rd:=rd) (mk:=mk) r (j+1) p;rw [List.zipIdx_cons];cases c:rd a with
  | none=>
   rw [Xvx (by simp [c]),f];by_cases hj:j+1≤p
   ·rw [if_pos hj,if_pos (by omega)];obtain ⟨d,hd⟩:∃ d,p - j=d+1:=⟨p - j - 1,by omega⟩
    rw [hd,Xj4,show p - (j+1)=d by omega]
   ·rw [if_neg hj];by_cases hjp:j≤p
    ·rw [if_pos hjp,show p - j=0 by omega];simp [c]
    ·rw [if_neg hjp]
  | some B=>
   rw [Xvy (by simp [c];rfl)];simp only [ax];cases h:Xqn j p with
   |true=>have:=aK h;subst this;simp [c]
   | false=>
    have i:j ≠ p:=by intro e;subst e;simp at h
    simp only [f];by_cases hj:j+1≤p
    ·rw [if_pos hj,if_pos (by omega)];obtain ⟨d,hd⟩:∃ d,p - j=d+1:=⟨p - j - 1,by omega⟩
     rw [hd,Xj4,show p - (j+1)=d by omega]
    ·rw [if_neg hj,if_neg (by omega)]
theorem BV:∀ {l:List Nat},l.Nodup→nK l=true
 | [],_=>rfl
 |b::r,h=>by
  rw [Xkm] at h;simp only [nK,π,Xqq];refine ⟨?_,BV h.2⟩;cases a:lQ r b with
  |false=>rfl
  |true=>exact absurd (fA.1 a) h.1
section
variable {P:Program} {ap:AP} {H:bL}
theorem DY {g g':bV} {m c:aQ} {S S':aO} {ρ:Nat→Nat→Option (Nat × Nat)} (b:jF S S') (h:ol g m g' c ρ):∀ {l:List (Nat × List AV)} {ds:List Deferred},eQ g m S l ds→eQ g' c S' (l.map fun d=>(d.1,ju ρ d.2)) ds
 | [],[],_=>by simp [eQ]
 |d::r,cd::cr,p=>by
  simp only [eQ] at p;obtain ⟨⟨a,e,i⟩,f⟩:=p;simp only [Xqc,eQ];exact ⟨⟨a,e,iB b h _ i⟩,DY b h f⟩
 | [],_::_,p=>by simp [eQ] at p
 |_::_,[],p=>by simp [eQ] at p
theorem kE {h0:List aR} {keep:List Nat} {s:St} {nt:Nat} {m m0:aQ} {S S0:aO} {w w0:World} {a:Act} (c:Fr (aZ h0) m0 S0 w0 (ax s.hp) m S w) (C:FR ap s.env s.hp s.dfs nt m S w a):
  ∃ m',Fr (aZ h0) m0 S0 w0 (ax (norm h0.length keep s).hp) m' S w∧FR ap (norm h0.length keep s).env (norm h0.length keep s).hp (norm h0.length keep s).dfs nt m' S w a:=by
 obtain ⟨_,t0,Q⟩:=oQ (ax s.hp) 20 (Xq1 h0.length) Xwf;generalize hroots:t0++(ye keep s.env++s.dfs.flatMap (fun d=>bE d.2))=roots;have hroots':oF (ax s.hp) 20 (Xq1 h0.length)++ye keep s.env++s.dfs.flatMap (fun d=>bE d.2)=Xq1 h0.length++roots:=by rw [← hroots,Q];simp only [Ψ]
 obtain ⟨U,t1,I⟩:=Hd h0.length roots;obtain ⟨V,t2,M⟩:=oQ (ax s.hp) 20 _ U;rw [I,Ψ] at M;have hsome:∀ b,b<h0.length→∃ B0 B,aZ h0 b=some B0∧ax s.hp b=some B∧B.esz=B0.esz∧((B.ver=B0.ver∧m b=m0 b)∨B0.ver<B.ver):=by
  intro b z;obtain ⟨B,k,n⟩:=c.ge b h0[b] (by simp [aZ,z]);exact ⟨h0[b],B,by simp [aZ,z],k,n⟩
 generalize l:(oF (ax s.hp) 20 (fU (Xq1 h0.length++roots))).filter (fun b=>(ax s.hp b).isSome)=ids;have O:ids.Nodup:=by rw [← l];exact V.filter _
 have F:=BV O;have y:∃ t,ids=Xq1 h0.length++t:=by
  rw [← l,I,M,List.filter_append];refine ⟨_,congrArg (· ++_) ?_⟩;rw [List.filter_eq_self];intro b z;obtain ⟨_,B,_,n,_⟩:=hsome b (by simpa using z);simp [n]
 obtain ⟨t,y⟩:=y;have x:∀ b,b<h0.length→ids[b]? =some b:=by
  intro b z;rw [y,Xxb (by simpa using z)];simp [z]
 have L:∀ (p b:Nat),ids[p]? =some b→∃ B,ax s.hp b=some B:=by
  intro p b hp;have:=Xqm hp;rw [← l,Xvm] at this;exact Option.isSome_iff_exists.1 this.2
 let ρ:Nat→Nat→Option (Nat × Nat):=fun b v=>match ax s.hp b with
  |some B=>match Xqn B.ver v with
   |true=>(lN ids b).map fun p=>(p,match Xjd p h0.length with|true=>v|false=>0)
   |false=>none
  |none=>none
 let mk:Nat→aR→aR:=fun p B=> {B with cells:=(match B.pr with|true=>B.cells|false=>ju ρ B.cells),ver:=match Xjd p h0.length with|true=>B.ver|false=>0}
 have hnorm:norm h0.length keep s=⟨keep.map fun t=>(t,ren ρ (s.env.get t)),ids.zipIdx.filterMap fun (b,p)=>(ax s.hp b).map fun B=>(p,mk p B),s.md,s.dfs.map fun d=>(d.1,ju ρ d.2)⟩:=by
  unfold norm;simp only [hroots',l];rfl
 rw [hnorm];dsimp only;have A:∀ p,ax (ids.zipIdx.filterMap fun (b,p)=>(ax s.hp b).map fun B=>(p,mk p B)) p=(ids[p]?).bind fun b=>(ax s.hp b).map (mk p):=by
  intro p;rw [vW (rd:=ax s.hp) (mk:=mk) ids 0 p,if_pos (Xxf _),Nat.sub_zero]
 generalize (ids.zipIdx.filterMap fun (b,p)=>(ax s.hp b).map fun B=>(p,mk p B))=hp2 at A;have f:∀ (p:Nat) (B2:aR),ax hp2 p=some B2→∃ b B,ids[p]? =some b∧ax s.hp b=some B∧B2=mk p B:=by
  intro p B2 h;rw [A] at h;cases hp:ids[p]? with
  |none=>rw [hp] at h;cases h
  |some b=>
   rw [hp] at h;obtain ⟨B,K⟩:=L p b hp;simp only [Xve,K,Xx1,Option.some.injEq] at h;exact ⟨b,B,rfl,K,h.symm⟩
 let m2:aQ:=fun p=>m (ids.getD p 0)
 have j:∀ (p b:Nat),ids[p]? =some b→m2 p=m b:=by
  intro p b hp;show m (ids.getD p 0)=_;rw [ν,hp];rfl
 have u:ol (ax s.hp) m (ax hp2) m2 ρ:=by
  intro b ver p ver' h B K Z;simp only [ρ,K] at h;split at h
  ·rename_i G;have G:=aK G;simp only [Xqp,Prod.mk.injEq] at h;obtain ⟨q,D,rfl,rfl⟩:=h;have D:=mL D;refine ⟨mk q B, ?_, ?_,fun _=> ⟨G,j q b D,rfl⟩⟩
   ·rw [A,D];simp [K]
   ·simp only [mk];split
    ·omega
    ·exact φ _
  ·cases h
 have E:∀ (p q b:Nat),ids[p]? =some b→ids[q]? =some b→p=q:=by
  intro p q b hp D;have X:=lm F hp;rw [lm F D] at X;cases X;rfl
 refine ⟨m2, ?_, ?_, ?_, ?_,C.size⟩
 ·refine ⟨?_,c.sle,c.os,c.tape,c.output,c.size,c.rest, ?_,c.sealN⟩
  ·intro b B0 z;have r:b<h0.length:=(List.getElem?_eq_some_iff.1 z).1;obtain ⟨B0',B,k,n,N,W⟩:=hsome b r;rw [z] at k;cases k;have R:Xjd b h0.length=true:=Xqg r;refine ⟨mk b B,by rw [A,x b r];simp [n],N, ?_⟩;simp only [mk,R];rw [j b b (x b r)];exact W
  ·intro p B2 hp;obtain ⟨b,B,k,n,rfl⟩:=f p B2 hp;rw [j p b k];rcases c.img b B n with h|⟨B0,N,W⟩
   ·exact .inl h
   ·have r:b<h0.length:=(List.getElem?_eq_some_iff.1 N).1;have:=E p b b k (x b r);subst this;exact .inr ⟨B0,N,W⟩
 ·refine ⟨?_, ?_,C.srel.sealed, ?_,C.srel.glob⟩
  ·intro p q B2 B2' hp D e;obtain ⟨b,B,k,n,rfl⟩:=f p B2 hp;obtain ⟨Y,B',J,T,rfl⟩:=f q B2' D;rw [j p b k,j q Y J] at e;have:=C.srel.inj b Y B B' n T e;subst this;exact E p q b k J
  ·intro p B2 hp;obtain ⟨b,B,k,n,rfl⟩:=f p B2 hp;rw [j p b k];obtain ⟨⟨cur,e,vs,rest,k1,k2,k3,k4,k5,k6⟩,k7,k8⟩:=C.srel.blk b B n;cases i:B.pr with
   |true=>exact ⟨⟨cur,e,vs,rest,k1,k2,fun _=>by simpa [mk,i] using k3 i,by simpa [mk,i] using bu _ (k3 i),k5,k6⟩,k7,by simpa [mk,i] using k8⟩
   | false=>
    have G:=iB (jF.refl S) u _ k4;exact ⟨⟨cur,e,vs,rest,k1,k2,fun h=>by simp [mk,i] at h,by simpa [mk,i] using G,k5,k6⟩,k7,by
     have:(mk p B).cells.length=B.cells.length:=by simp only [mk,i];rw [bI k4,bI G]
     rw [this];exact k8⟩
  ·intro p B2 hp o v ho;obtain ⟨b,B,k,n,rfl⟩:=f p B2 hp;rw [j p b k] at ho;exact C.srel.own b B n o v ho
 ·intro t;simp only [eZ.get,BQ];by_cases ht:t ∈ keep
  ·rw [if_pos ht];exact uK (jF.refl S) u _ (C.env t)
  ·rw [if_neg ht];simp [VR]
 ·exact DY (jF.refl S) u C.dfs
end
end AM
namespace AM
open Go
mutual
theorem sW {g g':bV} {m n:aQ} {S S':aO} (i:jF S S'):∀ (x:AV) {v:Value},(∀ b ∈ cR x,g' b=g b∧n b=m b)→VR g m S x v→VR g' n S' x v
 | .int _ _,_,_,p=>by simpa only [VR,PR] using p
 | .bool _,_,_,p=>by simpa only [VR,PR] using p
 | .str _,_,_,p=>by simpa only [VR,PR] using p
 | .nilS,_,_,p=>by simpa only [VR,PR] using p
 | .nilP,_,_,p=>by simpa only [VR,PR] using p
 | .nilF,_,_,p=>by simpa only [VR,PR] using p
 | .nilI,_,_,p=>by simpa only [VR,PR] using p
 | .sl _ _ _,_,_,p=>by simp only [VR] at p ⊢;exact bP i _ p
 | .pp _ _,_,_,p=>by simp only [VR] at p ⊢;exact bP i _ p
 | .mp _ _,_,_,p=>by simp only [VR] at p ⊢;exact bP i _ p
 | .dead,_,_,_=>by simp only [VR]
 | .own _ _ _,_,_,p=>by simp only [VR] at p
 | .ref b _ _ _,_,h,p=>by
  obtain ⟨j,k⟩:=h b (by simp [cR]);simp only [VR] at p ⊢;rw [j,k];exact p
 | .ptr b _ _,_,h,p=>by
  obtain ⟨j,k⟩:=h b (by simp [cR]);simp only [VR] at p ⊢;rw [j,k];exact p
 | .mr b _,_,h,p=>by
  obtain ⟨j,k⟩:=h b (by simp [cR]);simp only [VR] at p ⊢;rw [j,k];exact p
 | .agg l,_,h,p=>by
  simp only [VR] at p ⊢;obtain ⟨vs,e,q⟩:=p;exact ⟨vs,e,jL i l (fun b d=>h b (by simpa [cR] using d)) q⟩
 | .tup l,_,h,p=>by
  simp only [VR] at p ⊢;obtain ⟨vs,e,q⟩:=p;exact ⟨vs,e,jL i l (fun b d=>h b (by simpa [cR] using d)) q⟩
 | .fn f a c,_,h,p=>by
  simp only [VR] at p ⊢;obtain ⟨s,o,e,q,r⟩:=p;exact ⟨s,o,e,jL i a (fun b d=>h b (by simp [cR,d])) q,jL i c (fun b d=>h b (by simp [cR,d])) r⟩
 | .ifc t x,_,h,p=>by
  simp only [VR] at p ⊢;obtain ⟨u,e,q⟩:=p;exact ⟨u,e,sW i x (fun b d=>h b (by simpa [cR] using d)) q⟩
theorem jL {g g':bV} {m d:aQ} {S S':aO} (c:jF S S'):∀ (l:List AV) {vs:List Value},(∀ b ∈ bE l,g' b=g b∧d b=m b)→aW g m S l vs→aW g' d S' l vs
 | [],[],_,_=>by simp only [aW]
 |x::r,v::vs,h,p=>by
  simp only [aW] at p ⊢;exact ⟨sW c x (fun b a=>h b (by simp [bE,a])) p.1,jL c r (fun b a=>h b (by simp [bE,a])) p.2⟩
 | [],_::_,_,p=>by simp [aW] at p
 |_::_,[],_,p=>by simp [aW] at p
end
theorem jE {g:bV} {m:aQ} {S:aO} {x:AV} {v:Value} (h:(cR x).isEmpty=true) (d:VR g m S x v):PR S x v:=by
 have c:cR x= []:=by simpa using h
 exact jU (m:=m) x (sW (jF.refl S) x (fun b a=>by rw [c] at a;cases a) d)
def Bz (nt:Nat) (o:Oper):Bool:=match o.dst with|some d=>Xjd d nt|none=>true
def cj (nt:Nat):Code→Bool
 | .region _ ops _=>ops.toList.all (Bz nt)
 | .seq a b=>cj nt a && cj nt b
 | .cond _ a b=>cj nt a && cj nt b
 | .block _ b=>cj nt b
 | .loop b=>cj nt b
 | .scope b=>cj nt b
 |_=>true
section
variable {P:Program} {ap:AP} {H:bL}
def LQ (hp:Hp) (m:aQ) (S:aO) (Q:Exit→Act→World→Prop) (a:Act) (w:World):br→Prop
 | .normal=>Q .normal a w
 | .exit id=>Q (.exit id) a w
 | .ret=>Q .ret a w
 | .panic v=> ∀ cv,VR (ax hp) m S v cv→Q (.panic [{v:=cv,recovered:=false}]) a w
def XA (ap:AP) (h0:List aR) (m0:aQ) (S0:aO) (w0:World) (nt:Nat) (s':St) (e:br) (Q:Exit→Act→World→Prop):Prop:=
 ∀ m' S' w' a',Fr (aZ h0) m0 S0 w0 (ax s'.hp) m' S' w'→FR ap s'.env s'.hp s'.dfs nt m' S' w' a'→LQ s'.hp m' S' Q a' w' e
def ai (P:Program) (ap:AP) (h0:List aR) (nt:Nat) (code:Code) (s:St) (e:br) (s':St):Prop:=
 s.md= .dead→s'.md= .dead∧∀ m0 S0 w0 m S w a,Fr (aZ h0) m0 S0 w0 (ax s.hp) m S w→FR ap s.env s.hp s.dfs nt m S w a→∀ Q,XA ap h0 m0 S0 w0 nt s' e Q→code.wp P Q a w
theorem ai.still {h0:List aR} {nt:Nat} {b:Code} {s:St} {e:br} (h:∀ (Q:Exit→Act→World→Prop) hp m S a w,LQ hp m S Q a w e→b.wp P Q a w):ai P ap h0 nt b s e s:=
 fun c=> ⟨c,fun _ _ _ m S w a i f Q d=>h Q s.hp m S a w (d m S w a i f)⟩
theorem yC {h0:List aR} {nt:Nat} {b:Code} {f:St→Cx→R (br × St)} (l:∀ s e s' c c',f s c= .ok (e,s') c'→c'.Ok→c.Ok∧ai P ap h0 nt b s e s'):
  ∀ (n:Nat) (s:St) (e:br) (s':St) (c c':Cx),IC f n s c= .ok (e,s') c'→c'.Ok→c.Ok∧(s.md= .dead→s'.md= .dead∧∀ m0 S0 w0 m S w a,Fr (aZ h0) m0 S0 w0 (ax s.hp) m S w→FR ap s.env s.hp s.dfs nt m S w a→∀ Q,XA ap h0 m0 S0 w0 nt s' e Q→Code.rounds P b Q n a w)
 |0,s,e,s',c,c',h,hc=>by cases h
 | n+1,s,e,s',c,c',h,hc=>by
  simp only [IC] at h;obtain ⟨⟨r,E⟩,C,D,h⟩:=R.bind_ok h;dsimp only at h;have hother:r ≠ .normal→R.ok (r,E) C=R.ok (e,s') c'→c.Ok∧(s.md= .dead→s'.md= .dead∧∀ m0 S0 w0 m S w a,Fr (aZ h0) m0 S0 w0 (ax s.hp) m S w→FR ap s.env s.hp s.dfs nt m S w a→∀ Q,XA ap h0 m0 S0 w0 nt s' e Q→Code.rounds P b Q (n+1) a w):=by
   intro q F;cases F;obtain ⟨d,A⟩:=l _ _ _ _ _ D hc;refine ⟨d,fun j=> ?_⟩;obtain ⟨y,B⟩:=A j;refine ⟨y,fun m0 S0 w0 m S w a i k Q x=>B m0 S0 w0 m S w a i k _ ?_⟩;intro t S' w' z o p;have:=x t S' w' z o p;cases e with
   |normal=>exact absurd rfl q
   |exit id=>exact this
   |ret=>exact this
   |panic v=>exact this
  cases r with
  |normal=>
   dsimp only at h;obtain ⟨u,G⟩:=yC l n E e s' C c' h hc;obtain ⟨d,A⟩:=l _ _ _ _ _ D u;refine ⟨d,fun j=> ?_⟩;obtain ⟨y,B⟩:=A j;obtain ⟨o,p⟩:=G y;refine ⟨o,fun m0 S0 w0 m S w a i k Q x=>B m0 S0 w0 m S w a i k _ ?_⟩;intro t S' w' z I J;exact p m0 S0 w0 t S' w' z I J Q x
  |exit id=>exact hother (by simp) h
  |ret=>exact hother (by simp) h
  |panic v=>exact hother (by simp) h
theorem di (q:fe P ap) (i:P.follows .mixedOrders=true) (J:gR P ap H) {h0:List aR} {keep:List Nat} {lf nt:Nat}:∀ (code:Code),cj nt code=true→∀ (s:St) (e:br) (s':St) (c p:Cx),iR ap H h0.length keep lf code s c= .ok (e,s') p→p.Ok→c.Ok∧ai P ap h0 nt code s e s'
 | .skip,_,s,e,s',c,p,h,n=>by
  cases h;exact ⟨n,ai.still fun Q hp m S a w r=>wp_skip r⟩
 | .label l,_,s,e,s',c,p,h,n=>by
  cases h;exact ⟨n,ai.still fun Q hp m S a w r=>wp_label r⟩
 | .exit id,_,s,e,s',c,p,h,n=>by
  cases h;exact ⟨n,ai.still fun Q hp m S a w r=>wp_exit r⟩
 | .ret,_,s,e,s',c,p,h,n=>by
  cases h;exact ⟨n,ai.still fun Q hp m S a w r=>wp_ret r⟩
 | .region id ops draw,hd,s,e,s',c,p,h,n=>by
  have hnt:∀ o ∈ ops.toList,∀ d,o.dst=some d→d<nt:=by
   intro o ho d hod;have:=List.all_eq_true.1 hd o ho;simp only [Bz,hod] at this;exact dG this
  obtain ⟨j,hr⟩:=DA q i J hnt (id:=id) h n;refine ⟨j,fun k=> ?_⟩;obtain ⟨I,h2⟩:=hr k;refine ⟨I,fun m0 S0 w0 m S w a f A Q C=> ?_⟩;have:=h2 m S w a A Q;rw [Array.toArray_toList] at this;refine this ?_;cases e with
  |normal=>
   intro W T G S' w' E D F;obtain ⟨Z,u,B⟩:=kE (keep:=keep) (f.trans D) F;rw [← T] at u B;exact C Z S' w' E u B
  | panic v=>
   simp only [kV];split
   ·rename_i hre;intro W T G S' w' E cv D F u;obtain ⟨Z,B,X⟩:=kE (keep:=keep) (f.trans D) F;rw [← T] at B X;exact C Z S' w' E B X cv (eW _ (jE hre u))
   ·intro G S' w' E cv D F u;exact C G S' w' E (f.trans D) F cv u
  |exit id=>trivial
  |ret=>trivial
 | .seq x y,hd,s,e,s',c,p,h,n=>by
  simp only [cj,π] at hd;simp only [iR] at h;obtain ⟨⟨O,W⟩,M,I,h⟩:=R.bind_ok h;dsimp only at h;have hother:O ≠ .normal→R.ok (O,W) M=R.ok (e,s') p→c.Ok∧ai P ap h0 nt (.seq x y) s e s':=by
   intro N V;cases V;obtain ⟨j,K⟩:=di q i J x hd.1 _ _ _ _ _ I n;refine ⟨j,fun k=> ?_⟩;obtain ⟨D,F⟩:=K k;refine ⟨D,fun m0 S0 w0 m S w a f A Q C=>wp_seq (F m0 S0 w0 m S w a f A _ ?_)⟩;intro G S' w' E u B;have:=C G S' w' E u B;cases e with
   |normal=>exact absurd rfl N
   |exit id=>exact this
   |ret=>exact this
   |panic v=>exact this
  cases O with
  |normal=>
   dsimp only at h;obtain ⟨L,ih⟩:=di q i J y hd.2 _ _ _ _ _ h n;obtain ⟨j,K⟩:=di q i J x hd.1 _ _ _ _ _ I L;refine ⟨j,fun k=> ?_⟩;obtain ⟨D,F⟩:=K k;obtain ⟨u,B⟩:=ih D;refine ⟨u,fun m0 S0 w0 m S w a f A Q C=>wp_seq (F m0 S0 w0 m S w a f A _ ?_)⟩;intro G S' w' E X h8;exact B m0 S0 w0 G S' w' E X h8 Q C
  |exit id=>exact hother (by simp) h
  |ret=>exact hother (by simp) h
  |panic v=>exact hother (by simp) h
 | .cond t x y,hd,s,e,s',c,p,h,n=>by
  simp only [cj,π] at hd;simp only [iR] at h;split at h
  ·rename_i bv Y;obtain ⟨b',M,I,h⟩:=R.bind_ok h;have key:∀ (z:Code),(M.Ok→M.Ok∧z=if bv then x else y)→M.Ok∧ai P ap h0 nt z s e s'→c.Ok∧ai P ap h0 nt (.cond t x y) s e s':=by
    rintro z hzz ⟨L,ih⟩
    obtain ⟨j,hb⟩:=iT I L;refine ⟨j,fun k=> ?_⟩;obtain ⟨u,B⟩:=ih k;refine ⟨u,fun m0 S0 w0 m S w a f A Q C=>wp_cond (t:=bv) ?_ ?_⟩
    ·have:=rX A.srel (a:=a) (env:=s.env) t (fun t _=>A.env t);rw [Y] at this;simpa only [VR,PR] using this
    ·rw [← (hzz L).2];exact B m0 S0 w0 m S w a f A Q C
   cases b' with
   |true=>exact key x (fun U=> ⟨U,by rw [← (iT I U).2];rfl⟩) (di q i J x hd.1 _ _ _ _ _ h n)
   |false=>exact key y (fun U=> ⟨U,by rw [← (iT I U).2];rfl⟩) (di q i J y hd.2 _ _ _ _ _ h n)
  ·cases h
 | .block id b,hd,s,e,s',c,p,h,n=>by
  simp only [cj] at hd;simp only [iR] at h;obtain ⟨⟨O,W⟩,M,I,h⟩:=R.bind_ok h;dsimp only at h;have hcc:M=p:=by
   cases O<;>dsimp only at h
   ·cases h;rfl
   ·split at h<;>cases h<;>rfl
   ·cases h;rfl
   ·cases h;rfl
  subst hcc;obtain ⟨j,K⟩:=di q i J b hd _ _ _ _ _ I n;refine ⟨j,fun k=> ?_⟩;obtain ⟨D,F⟩:=K k;have hs:W=s':=by
   cases O<;>dsimp only at h
   ·cases h;rfl
   ·split at h<;>cases h<;>rfl
   ·cases h;rfl
   ·cases h;rfl
  subst hs;refine ⟨D,fun m0 S0 w0 m S w a f A Q C=>wp_block (F m0 S0 w0 m S w a f A _ ?_)⟩;intro G S' w' E u B;have r:=C G S' w' E u B;cases O with
  |normal=>cases h;exact r
  |ret=>cases h;exact r
  |panic v=>cases h;exact r
  | exit id'=>
   dsimp only at h;split at h
   ·rename_i V;cases h;show Exit.inBlock id Q (.exit id') E w';simp only [Exit.inBlock,if_pos (aK V)];exact r
   ·rename_i V;cases h;show Exit.inBlock id Q (.exit id') E w';have N:id' ≠ id:=by intro e;subst e;simp at V
    simp only [Exit.inBlock,if_neg N];exact r
 | .loop b,hd,s,e,s',c,p,h,n=>by
  simp only [cj] at hd;simp only [iR] at h;obtain ⟨j,K⟩:=yC (fun s e s' c p h n=>di q i J b hd s e s' c p h n) lf s e s' c p h n;refine ⟨j,fun k=> ?_⟩;obtain ⟨D,F⟩:=K k;exact ⟨D,fun m0 S0 w0 m S w a f A Q C=>wp_loop_rounds lf (F m0 S0 w0 m S w a f A Q C)⟩
 | .scope b,hd,s,e,s',c,p,h,n=>by
  simp only [cj] at hd;simp only [iR] at h;obtain ⟨j,K⟩:=di q i J b hd _ _ _ _ _ h n;refine ⟨j,fun k=> ?_⟩;obtain ⟨D,F⟩:=K k;refine ⟨D,fun m0 S0 w0 m S w a f A Q C=>wp_scope_straight (F m0 S0 w0 m S w a f A _ ?_)⟩;intro G S' w' E u B;have r:=C G S' w' E u B;cases e with
  |normal=>exact r
  |exit id=>exact r
  |ret=>exact r
  |panic v=>exact r
 | .rangeFunc _ _ _ _,_,s,e,s',c,p,h,n=>by cases h
 | .goto _,_,s,e,s',c,p,h,n=>by cases h
 | .refuse _,_,s,e,s',c,p,h,n=>by cases h
end
end AM
