/- The abstract machine over the code of the model, and the proof that it is sound. No conditions. -/
import Derived.Test.YtcjindbblhcopaaGreatDoorM2
import Derived.Orders
import Derived.LoopN
import Derived.Scope
set_option linter.unusedSimpArgs false
set_option linter.unusedVariables false
open List renaming map_cons→Xqf,getElem?_cons_succ→Xj1,filterMap_cons_none→Xvh,filterMap_cons_some→Xvi,mem_cons→Xz3,getElem?_append_left→Xxf,nil_append→Xqc,length_nil→Δ,getElem?_eq_getElem→π,getElem?_eq_none→Xqx,mem_of_getElem?→Xqr,getD_eq_getElem?_getD→ξ,getElem?_map→Xqz,append_assoc→Ψ,mem_cons_self→Xji,mem_cons_of_mem→Xxx,drop_drop→Xjy,length_cons→ν,range'_succ→Xvt,take_zero→Xv9,take_succ_cons→Xx1,eq_nil_of_length_eq_zero→Xxk,foldl_cons→Xjn,all_eq_true→Xzp,mem_zipIdx_iff_getElem?→Xj2,range→Xq2,nodup_cons→Xv3,mem_filter→Xw5,mem_range→Yqr,size_toArray→Xx8,nodup_range→Xz8,range_eq_range'→Xz7
open Nat renaming add_assoc→Xza,beq→Xqo,le_of_not_lt→Xvq,le_refl→Θ,lt_of_lt_of_le→Xqg,zero_add→χ,zero_le→Xxq,le_trans→Xxm,add_zero→Xq5,blt→Xjb,ble_eq_true_of_le→Xq4,lt_trichotomy→Xzk
open Bool renaming and_eq_true→σ,not_eq_true'→Xqm,or_eq_true→Xwh,not_true→Xwg,false_or→Xzd
open Option renaming map_eq_some_iff→Xqs,bind_some→Xwz,map_some→Xjf,getD_some→Xwx
namespace AM
open Go
def bH (h:List bi):dM:=fun b=>h[b]?
def jH (gh gf:dM) (m:a_) (S:aU):Nat→List AV→List Value→Prop
 |_,[],[]=>True
 |n,.own _ k _::r,v::vs=>VR gf m S (.ref n 0 0 k) v∧jH gh gf m S (n+1) r vs
 |n,x::r,v::vs=>VR gh m S x v∧jH gh gf m S n r vs
 |_,_,_=>False
def xY (gh gf:dM) (m:a_) (S:aU) (n:Nat):AV→Value→Prop
 | .tup l,v=> ∃ vs,v= .tuple vs.toArray∧jH gh gf m S n l vs
 | .own _ k _,v=>VR gf m S (.ref n 0 0 k) v
 |x,v=>VR gh m S x v
def kX (n:Nat):kC→List bi
 | .ret v=>(jZ n v).2
 | .pan _=> []
def abL (h':List bi) (m':a_) (S':aU):kC→Ending→Prop
 | .ret v,e=> ∃ cv,e= .returned cv∧xY (bH h') (bH (h'++(jZ h'.length v).2)) m' S' h'.length v cv
 | .pan v,e=> ∃ cv,e= .panicked [{v:=cv,recovered:=false}]∧VR (bH h') m' S' v cv
structure F5 (ap:AP) (h:List bi) (m:a_) (S:aU) (w:World) (out:kC) (h':List bi) (m':a_) (S':aU) (w':World) (e:Ending):Prop where
 srel:cZ ap (bH (h'++kX h'.length out)) m' S' w'
 fr:Fr (bH h) m S w (bH (h'++kX h'.length out)) m' S' w'
 out:abL h' m' S' out e
def zn (P:Program) (f:Nat):Prop:=∀ args w,(callFunc f args).run P w= .ok (.enter f args) w
structure ax (P:Program) (ap:AP) (f:Nat) (args:List AV) (h:List bi) (out:kC) (h':List bi):Prop where
 len:h.length≤h'.length
 ent:zn P f
 calls:∀ m S w cargs,cZ ap (bH h) m S w→bD (bH h) m S args cargs→Calls P f cargs.toArray w fun e w'=> ∃ m' S',F5 ap h m S w out h' m' S' w' e
def jX (P:Program) (ap:AP) (H:dw):Prop:=∀ c f args h out h' md' c',H c .dead f args h= .ok (out,h',md') c'→c'.Ok→c.Ok∧ax P ap f args h out h'
section
variable {P:Program} {ap:AP} {g:dM} {m:a_} {S:aU} {w:World}
mutual
theorem nI {m:a_} {S:aU}:∀ (x:AV) {v:Value},VR (bH []) m S x v→PR S x v
 | .int _ _,_,p=>by simpa only [VR] using p
 | .bool _,_,p=>by simpa only [VR] using p
 | .str _,_,p=>by simpa only [VR] using p
 | .nilS,_,p=>by simpa only [VR] using p
 | .nilP,_,p=>by simpa only [VR] using p
 | .nilF,_,p=>by simpa only [VR] using p
 | .nilI,_,p=>by simpa only [VR] using p
 | .sl _ _ _,_,p=>by simpa only [VR] using p
 | .pp _ _,_,p=>by simpa only [VR] using p
 | .mp _ _,_,p=>by simpa only [VR] using p
 | .dead,_,_=>by simp only [PR]
 | .own _ _ _,_,p=>by simp only [VR] at p
 | .ref _ _ _ _,_,p=>by simp [VR,bH] at p
 | .ptr _ _ _,_,p=>by simp [VR,bH] at p
 | .mr _ _,_,p=>by simp [VR,bH] at p
 | .agg l,_,p=>by
  simp only [VR] at p;simp only [PR];obtain ⟨vs,e,q⟩:=p;exact ⟨vs,e,kD l q⟩
 | .tup l,_,p=>by
  simp only [VR] at p;simp only [PR];obtain ⟨vs,e,q⟩:=p;exact ⟨vs,e,kD l q⟩
 | .fn f a c,_,p=>by
  simp only [VR] at p;simp only [PR];obtain ⟨d,b,e,q,r⟩:=p;exact ⟨d,b,e,kD a q,kD c r⟩
 | .ifc t x,_,p=>by
  simp only [VR] at p;simp only [PR];obtain ⟨u,e,q⟩:=p;exact ⟨u,e,nI x q⟩
theorem kD {m:a_} {S:aU}:∀ (l:List AV) {vs:List Value},bD (bH []) m S l vs→dD S l vs
 | [],[],_=>by simp only [dD]
 |x::r,v::vs,p=>by simp only [bD] at p;simp only [dD];exact ⟨nI x p.1,kD r p.2⟩
 | [],_::_,p=>by simp [bD] at p
 |_::_,[],p=>by simp [bD] at p
end
theorem abf (z:cZ ap g m S w) {M l:dM} {T t:a_} {Sp S':aU} {w':World} (K:cZ ap l t S' w') (q:Fr M T Sp w l t S' w') (ι:Nat→Nat)
  (hdom:∀ i Bc,M i=some Bc→∃ B,g (ι i)=some B∧T i=m (ι i))
  (hSp:mY S Sp) (hSpN:∀ k o v,Sp k o=some v→S k o=some v∨∃ b B,g b=some B∧(m b).1=k) {gN:dM} {mN:a_} (ρ:Nat→Nat→Option (Nat × Nat)) (hρ:sN l t gN mN ρ)
  (hnew:∀ i Bc,l i=some Bc→∃ B,gN (ι i)=some B∧mN (ι i)=t i∧B.esz=Bc.esz∧B.fro=Bc.fro∧B.fz=Bc.fz∧B.pr=Bc.pr∧(Bc.pr=true→B.cells=Bc.cells)∧(Bc.pr=false→B.cells=mG ρ Bc.cells))
  (c:∀ b B,gN b=some B→(∃ i Bc,l i=some Bc∧b=ι i)∨(∃ B0,g b=some B0∧mN b=m b∧B.cells=B0.cells∧B.pr=B0.pr∧B.esz=B0.esz∧(B.fro=false→B.fz=0)∧B.fz≤B.cells.length∧(∀ i Bc,M i=some Bc→b ≠ ι i)∧(∀ o v,Sp (m b).1 o=some v→B.fro=true∧o<B.fz)))
  (hge:Ge g m gN mN):cZ ap gN mN S' w'∧Fr g m S w gN mN S' w':=by
 have s:mY S S':=hSp.trans q.sle;have hcross:∀ b B0 i Bc,g b=some B0→l i=some Bc→(∀ i Bc,M i=some Bc→b ≠ ι i)→(m b).1 ≠ (t i).1:=by
  intro b B0 i Bc n a r e;have hlt:=z.lt n;rcases q.img i Bc a with d|⟨B1,d,u⟩
  ·omega
  ·obtain ⟨B2,D,E⟩:=hdom i B1 d;rw [E] at u;exact r i B1 d (z.inj b (ι i) B0 B2 n D (e.trans u))
 constructor
 ·refine ⟨?_, ?_,K.sealed, ?_,K.glob⟩
  ·intro b W B B' n V e;rcases c b B n with ⟨i,Bi,a,rfl⟩|⟨B0,h0,d,_,_,_,_,_,u,_⟩<;>rcases c W B' V with ⟨j,Bj,O,rfl⟩|⟨B0',I,L,_,_,_,_,_,U,_⟩
   ·obtain ⟨_,_,y,_⟩:=hnew i Bi a;obtain ⟨_,_,p,_⟩:=hnew j Bj O;rw [y,p] at e;rw [K.inj i j Bi Bj a O e]
   ·obtain ⟨_,_,y,_⟩:=hnew i Bi a;rw [y,L] at e;exact absurd e.symm (hcross W B0' i Bi I a U)
   ·obtain ⟨_,_,p,_⟩:=hnew j Bj O;rw [p,d] at e;exact absurd e (hcross b B0 j Bj h0 O u)
   ·rw [d,L] at e;exact z.inj b W B0 B0' h0 I e
  ·intro b B n;rcases c b B n with ⟨i,Bi,a,rfl⟩|⟨B0,h0,d,D,E,Q,X,Y,u,_⟩
   ·obtain ⟨B1,G,y,p,R,F,Z,e6,e7⟩:=hnew i Bi a;rw [n] at G;cases G;rw [y];obtain ⟨⟨cur,e,vs,rest,k1,k2,k3,k4,k5,k6⟩,k7,k8⟩:=K.blk i Bi a;cases hp:Bi.pr with
    |true=>
     have hcells:=e6 hp;refine ⟨⟨cur,e,vs,rest,by rw [p];exact k1,k2,fun _=>by rw [hcells];exact k3 hp,by rw [hcells];exact bY _ (k3 hp),by rw [p];exact k5,by rw [p];exact k6⟩,by rw [R,F];exact k7,by rw [F,hcells];exact k8⟩
    |false=>
     have hcells:=e7 hp;have x:=kU (mY.refl S') hρ _ k4;have J:B.cells.length=Bi.cells.length:=by rw [dm k4,hcells,dm x]
     refine ⟨⟨cur,e,vs,rest,by rw [p];exact k1,k2,(fun h=>by rw [Z,hp] at h;cases h),by rw [hcells];exact x,by rw [p];exact k5,by rw [p];exact k6⟩,by rw [R,F];exact k7,by rw [F,J];exact k8⟩
   ·rw [d];have r:∀ i Bc,M i=some Bc→(T i).1 ≠ (m b).1:=by
     intro i Bc a e;obtain ⟨B2,N,f⟩:=hdom i Bc a;rw [f] at e;exact u i Bc a (z.inj b (ι i) B0 B2 h0 N e.symm)
    obtain ⟨⟨cur,e,vs,rest,k1,k2,k3,k4,k5,k6⟩,k7,k8⟩:=z.blk b B0 h0;refine ⟨⟨cur,e,vs,rest,by rw [Q];exact k1.same (q.rest _ (z.lt h0) r),k2,fun hp=>by rw [D];rw [E] at hp;exact bM s _ (k3 hp),by rw [D];exact lW s hge _ k4,by rw [Q];exact k5,by rw [Q];exact k6⟩,X,Y⟩
  ·intro b B n o v x;rcases c b B n with ⟨i,Bi,a,rfl⟩|⟨B0,h0,d,D,E,Q,X,Y,u,N⟩
   ·obtain ⟨B1,G,y,p,R,F,Z,e6,e7⟩:=hnew i Bi a;rw [n] at G;cases G;rw [y] at x;rw [R,F];exact K.own i Bi a o v x
   ·rw [d] at x;rcases q.sealN _ _ _ x with f|f|⟨i,Bi,a,f⟩
    ·exact N o v f
    ·have:=z.lt h0;omega
    ·obtain ⟨B2,C,A⟩:=hdom i Bi a;rw [A] at f;exact absurd (z.inj b (ι i) B0 B2 h0 C f.symm) (u i Bi a)
 ·refine ⟨hge,s,q.os,q.tape,q.output,q.size, ?_, ?_, ?_⟩
  ·intro k hk r;refine q.rest k hk fun i Bc a e=> ?_
   obtain ⟨B2,N,f⟩:=hdom i Bc a;exact r (ι i) B2 N (by rw [← f];exact e)
  ·intro b B n;rcases c b B n with ⟨i,Bi,a,rfl⟩|⟨B0,h0,d,_⟩
   ·obtain ⟨B1,G,y,_⟩:=hnew i Bi a;rw [y];rcases q.img i Bi a with d|⟨B2,d,u⟩
    ·exact .inl d
    ·obtain ⟨B3,D,E⟩:=hdom i B2 d;exact .inr ⟨B3,D,by rw [u,E]⟩
   ·exact .inr ⟨B0,h0,by rw [d]⟩
  ·intro k o v x;rcases q.sealN _ _ _ x with f|f|⟨i,Bi,a,f⟩
   ·rcases hSpN _ _ _ f with h|h
    ·exact .inl h
    ·exact .inr (.inr h)
   ·exact .inr (.inl f)
   ·obtain ⟨B2,C,A⟩:=hdom i Bi a;exact .inr (.inr ⟨ι i,B2,C,by rw [← A];exact f⟩)
structure Gq (F:AV→AV):Prop where
 own:∀ xs n e,F (.own xs n e)= .own xs n e
 tup:∀ l,F (.tup l)= .tup (l.map F)
 not:∀ x,(∀ xs n e,x ≠ .own xs n e)→(∀ xs n e,F x ≠ .own xs n e)
 notT:∀ x,(∀ l,x ≠ .tup l)→(∀ l,F x ≠ .tup l)
theorem bI (n:Nat) {x:AV} (h:∀ xs k e,x ≠ .own xs k e) (r:List AV):fZ n (x::r)=(x::(fZ n r).1,(fZ n r).2):=by
 cases x<;>first|rfl|exact absurd rfl (h _ _ _)
theorem jv (n:Nat) {x:AV} (h:∀ xs k e,x ≠ .own xs k e) (a:∀ l,x ≠ .tup l):jZ n x=(x,[]):=by
 cases x<;>first|rfl|exact absurd rfl (h _ _ _)|exact absurd rfl (a _)
theorem di {gh gf:dM} {n:Nat} {x:AV} (h:∀ xs k e,x ≠ .own xs k e) {r:List AV} {v:Value} {vs:List Value}:jH gh gf m S n (x::r) (v::vs)=(VR gh m S x v∧jH gh gf m S n r vs):=by
 cases x<;>first|rfl|exact absurd rfl (h _ _ _)
theorem lw {gh gf:dM} {n:Nat} {x:AV} (h:∀ xs k e,x ≠ .own xs k e) (a:∀ l,x ≠ .tup l) {v:Value}:xY gh gf m S n x v=VR gh m S x v:=by
 cases x<;>first|rfl|exact absurd rfl (h _ _ _)|exact absurd rfl (a _)
theorem jE (x:AV):(∃ xs k e,x= .own xs k e)∨(∀ xs k e,x ≠ .own xs k e):=by
 cases x<;>first|exact .inl ⟨_,_,_,rfl⟩|exact .inr (fun _ _ _ h=>by cases h)
theorem Ac (x:AV):(∃ l,x= .tup l)∨(∀ l,x ≠ .tup l):=by
 cases x<;>first|exact .inl ⟨_,rfl⟩|exact .inr (fun _ h=>by cases h)
theorem rV {F:AV→AV} (c:Gq F):∀ (l:List AV) (a b:Nat),(fZ a (l.map F)).2=(fZ b l).2
 | [],a,b=>rfl
 | x::r,a,b=>by
  rcases jE x with ⟨d,k,e,rfl⟩|hx
  ·simp only [Xqf,c.own,fZ];rw [rV c r (a+1) (b+1)]
  ·rw [Xqf,bI a (c.not x hx),bI b hx];exact rV c r a b
theorem AY {F:AV→AV} (c:Gq F) (x:AV) (a b:Nat):(jZ a (F x)).2=(jZ b x).2:=by
 rcases jE x with ⟨d,k,e,rfl⟩|hx
 ·rw [c.own];rfl
 ·rcases Ac x with ⟨l,rfl⟩|ht
  ·rw [c.tup];simp only [jZ];exact rV c l a b
  ·rw [jv a (c.not x hx) (c.notT x ht),jv b hx ht]
theorem uN {F:AV→AV} (a:Gq F) {gh gf gN:dM} {m mN:a_} {S:aU} {n nid:Nat} (c:∀ x v,VR gh m S x v→VR gN mN S (F x) v) (b:∀ i k v,VR gf m S (.ref (n+i) 0 0 k) v→VR gN mN S (.ref (nid+i) 0 0 k) v):
  ∀ (l:List AV) (vs:List Value) (j:Nat),jH gh gf m S (n+j) l vs→bD gN mN S (fZ (nid+j) (l.map F)).1 vs
 | [],[],j,_=>by simp [fZ,bD]
 | x::r,v::vs,j,h=>by
  rcases jE x with ⟨d,k,e,rfl⟩|hxo
  ·simp only [jH] at h;simp only [Xqf,a.own,fZ,bD];exact ⟨b j k v h.1,by have:=uN a c b r vs (j+1);rw [← Xza,← Xza] at this;exact this h.2⟩
  ·rw [di hxo] at h;rw [Xqf,bI _ (a.not x hxo)];simp only [bD];exact ⟨c x v h.1,uN a c b r vs j h.2⟩
 | [],_::_,_,h=>by simp [jH] at h
 |x::r,[],_,h=>by cases x<;>simp [jH] at h
theorem ET {F:AV→AV} (a:Gq F) {gh gf gN:dM} {m mN:a_} {S:aU} {n nid:Nat} (c:∀ x v,VR gh m S x v→VR gN mN S (F x) v) (b:∀ i k v,VR gf m S (.ref (n+i) 0 0 k) v→VR gN mN S (.ref (nid+i) 0 0 k) v)
  {x:AV} {v:Value} (h:xY gh gf m S n x v):VR gN mN S (jZ nid (F x)).1 v:=by
 rcases jE x with ⟨d,k,e,rfl⟩|hxo
 ·simp only [xY] at h;rw [a.own];exact b 0 k v h
 ·rcases Ac x with ⟨l,rfl⟩|ht
  ·simp only [xY] at h;obtain ⟨vs,e,h⟩:=h;rw [a.tup];simp only [jZ,VR];exact ⟨vs,e,uN a c b l vs 0 h⟩
  ·rw [lw hxo ht] at h;rw [jv _ (a.not x hxo) (a.notT x ht)];exact c x v h
theorem KL:Gq id:=⟨fun _ _ _=>rfl,fun l=>by simp,fun _ h=>h,fun _ h=>h⟩
theorem LH (ρ:Nat→Nat→Option (Nat × Nat)):∀ l,mG ρ l=l.map (ren ρ)
 | []=>rfl
 |x::r=>by simp [mG,LH ρ r]
theorem G8 (ρ:Nat→Nat→Option (Nat × Nat)):Gq (ren ρ):=by
 refine ⟨fun _ _ _=>rfl,fun l=>by simp [ren,LH], ?_, ?_⟩
 ·intro x h b n e a;cases x<;>simp only [ren] at a<;>first
   |(cases a;done)
   |(split at a<;>cases a;done)
   |exact h _ _ _ rfl
 ·intro x h l a;cases x<;>simp only [ren] at a<;>first
   |(cases a;done)
   |(split at a<;>cases a;done)
   |exact h _ rfl
theorem zJ:∀ (bs:List bi) (n b:Nat),aG (ED n bs) b=if n≤b then bs[b - n]? else none
 | [],n,b=>by simp [ED,aG]
 | B::r,n,b=>by
  simp only [ED,aG];cases h:Xqo n b with
  |true=>
   have:=aO h;subst this;simp
  | false=>
   have a:n ≠ b:=by intro e;subst e;simp at h
   rw [zJ r (n+1) b];by_cases hle:n≤b
   ·rw [if_pos hle,if_pos (show n+1≤b by omega)];obtain ⟨d,hd⟩:∃ d,b - n=d+1:=⟨b - n - 1,by omega⟩
    rw [hd,Xj1,show b - (n+1)=d by omega]
   ·rw [if_neg hle,if_neg (show ¬ n+1≤b by omega)]
theorem Hg {rd:dM} {mk:bi→bi}:∀ (fp:List Nat) (b:Nat),aG (fp.filterMap fun b=>(rd b).map fun B=>(b,mk B)) b=if b ∈ fp then (rd b).map mk else none
 | [],b=>by simp [aG]
 | a::r,b=>by
  have f:=Hg (rd:=rd) (mk:=mk) r b;cases c:rd a with
  |none=>
   rw [Xvh (by simp [c]),f];by_cases hab:b=a
   ·subst hab;simp [c]
   ·simp [hab]
  | some B=>
   rw [Xvi (by simp [c];rfl)];simp only [aG];cases h:Xqo a b with
   |true=>have:=aO h;subst this;simp [c]
   |false=>
    have d:b ≠ a:=by intro e;subst e;simp at h
    simp only [f,Xz3,d,false_or]
end
end AM
namespace AM
open Go
def abM (g:dM) (m:a_) (S:aU):kC→Ending→Prop
 | .ret v,e=> ∃ cv,e= .returned cv∧VR g m S v cv
 | .pan v,e=> ∃ cv,e= .panicked [{v:=cv,recovered:=false}]∧VR g m S v cv
def XJ (ap:AP) (g:dM) (m:a_) (S:aU) (w:World) (out:kC) (ups:List (Nat × bi)) (e:Ending) (w':World):Prop:=
 ∃ m' S',cZ ap (dW g ups) m' S' w'∧Fr g m S w (dW g ups) m' S' w'∧abM (dW g ups) m' S' out e
theorem fG {h c:List bi} {b:Nat} (a:b<h.length):bH (h++c) b=bH h b:=by
 simp [bH,Xxf a]
theorem jk {h a:List bi} {b:Nat} (c:h.length≤b):bH (h++a) b=bH a (b - h.length):=by
 simp [bH,List.getElem?_append_right c]
def qR (l:List bi):Prop:=∀ B ∈ l,B.pr=true∧B.fro=false∧B.ver=0
theorem rW:∀ (l:List AV) (n:Nat),qR (fZ n l).2
 | [],n=>by simp [fZ,qR]
 | x::r,n=>by
  rcases jE x with ⟨b,k,e,rfl⟩|hx
  ·simp only [fZ];intro B a;rcases List.mem_cons.1 a with rfl|a
   ·exact ⟨rfl,rfl,rfl⟩
   ·exact rW r (n+1) B a
  ·rw [bI n hx];exact rW r n
theorem LD (x:AV) (n:Nat):qR (jZ n x).2:=by
 rcases jE x with ⟨b,k,e,rfl⟩|hx
 ·intro B a;simp [jZ] at a;subst a;exact ⟨rfl,rfl,rfl⟩
 ·rcases Ac x with ⟨l,rfl⟩|ht
  ·simp only [jZ];exact rW l n
  ·rw [jv n hx ht];simp [qR]
theorem AX (o:kC) (n:Nat):qR (kX n o):=by
 cases o with
 |ret v=>exact LD v n
 |pan v=>simp [kX,qR]
section
variable {P:Program} {ap:AP} {g:dM} {m:a_} {S:aU} {w:World}
def Jo (nid:Nat) (F:AV→AV):kC→kC
 | .ret v=> .ret (jZ nid (F v)).1
 | .pan v=> .pan (F v)
theorem Ai (l:cZ ap g m S w) {rd:dM} (j:∀ b B,rd b=some B→g b=some B) {L:List Nat} (Q:∀ b B,rd b=some B→b ∈ L) {nid:Nat} {args args':List AV} {cargs:List Value} {out:kC}
  (ha:kP (frz rd 6) args=some args') (hv:bD g m S args cargs) {C:List Value→(Ending→World→Prop)→Prop} (hmono:∀ cargs R R',C cargs R→(∀ e w',R e w'→R' e w')→C cargs R')
  (f:∀ m1 S1,mY S S1→cZ ap (bH []) m1 S1 w→bD (bH []) m1 S1 args' cargs→C cargs fun e w'=> ∃ m' S',F5 ap [] m1 S1 w out [] m' S' w' e) (hfr:∀ i,i<(kX 0 out).length→g (nid+i)=none):
  C cargs fun e w'=>XJ ap g m S w (Jo nid id out) (ED nid (kX 0 out)++L.filterMap fun b=>(rd b).map fun B=>(b,{B with fro:=true,fz:=B.cells.length})) e w':=by
 have Z:dD (dR S m rd w) args' cargs:=tV (fun x v y a d=>lH l j 6 x v y a d) ha hv;have u:=nC S m rd w
 let m0:a_:=fun _=>(0,0)
 have N:cZ ap (bH []) m0 (dR S m rd w) w:=by
  refine ⟨fun b b' B B' h=>by simp [bH] at h,fun b B h=>by simp [bH] at h,fun k o v h=>pF l h,fun b B h=>by simp [bH] at h, ?_⟩;intro k xs hk;obtain ⟨vs,a,d⟩:=l.glob k xs hk;exact ⟨vs,bM u _ a,d.mono u⟩
 refine hmono _ _ _ (f m0 (dR S m rd w) u N (bY _ Z)) ?_
 rintro e w' ⟨m',S',hF⟩
 obtain ⟨z,p,q⟩:=hF;simp only [Xqc,Δ] at z p q;generalize E:kX 0 out=bs at z p hfr;have F:qR bs:=E ▸ AX out 0
 let gN:dM:=dW g (ED nid bs++L.filterMap fun b=>(rd b).map fun B=>(b,{B with fro:=true,fz:=B.cells.length}))
 let mN:a_:=fun b=>if nid≤b∧b - nid<bs.length then m' (b - nid) else m b
 have t:∀ b,gN b=if nid≤b∧b - nid<bs.length then bs[b - nid]? else match rd b with|some B=>some {B with fro:=true,fz:=B.cells.length}|none=>g b:=by
  intro b;show dW g _ b=_;unfold dW;have X:∀ mk:bi→bi,(if b ∈ L then (rd b).map mk else none)=(rd b).map mk:=by
   intro mk;split
   ·rfl
   ·rename_i c;cases r:rd b with
    |none=>rfl
    |some B=>exact absurd (Q b B r) c
  rw [gZ,zJ,Hg,X];by_cases a:nid≤b
  ·by_cases d:b - nid<bs.length
   ·have f:nid≤b∧b - nid<bs.length:=⟨a,d⟩
    rw [if_pos a,if_pos f,π d]
   ·have f:¬ (nid≤b∧b - nid<bs.length):=fun h=>d h.2
    rw [if_pos a,if_neg f,Xqx (Xvq d)];cases rd b<;>rfl
  ·have f:¬ (nid≤b∧b - nid<bs.length):=fun h=>a h.1
   rw [if_neg a,if_neg f];cases rd b<;>rfl
 have hnidg:∀ b B,g b=some B→¬ (nid≤b∧b - nid<bs.length):=by
  rintro b B c ⟨a,d⟩
  have:=hfr (b - nid) d;rw [show nid+(b - nid)=b by omega,c] at this;cases this
 have M:Ge g m gN mN:=by
  intro b B c;have hn:=hnidg b B c;have D:mN b=m b:=if_neg hn;rw [t,if_neg hn];cases r:rd b with
  |none=>exact ⟨B,c,rfl,.inl ⟨rfl,D⟩⟩
  |some B1=>
   have:=j b B1 r;rw [c] at this;cases this;exact ⟨_,rfl,rfl,.inl ⟨rfl,D⟩⟩
 have A:∀ i B,bs[i]? =some B→gN (nid+i)=some B∧mN (nid+i)=m' i:=by
  intro i B I;have hl:=(List.getElem?_eq_some_iff.1 I).1;have f:nid≤nid+i∧nid+i - nid<bs.length:=by omega
  refine ⟨by rw [t,if_pos f,show nid+i - nid=i by omega];exact I, ?_⟩;show (if _ then _ else _)=_;rw [if_pos f,show nid+i - nid=i by omega]
 obtain ⟨W,U⟩:=abf (g:=g) (m:=m) (S:=S) (w:=w) l z p (fun i=>nid+i) (fun i Bc h=>by simp [bH] at h) u
  (fun k o v h=>(f_ h).imp id fun ⟨_,b,B,a,d,_⟩=> ⟨b,B,j b B a,d⟩) (gN:=gN) (mN:=mN) (fun i v=>some (nid+i,v))
  (by
   intro b ver b' ver' h B hB G;simp only [Option.some.injEq,Prod.mk.injEq] at h;obtain ⟨rfl,rfl⟩:=h;obtain ⟨a,d⟩:=A b B hB;exact ⟨B,a,G,fun e=> ⟨e,d,rfl⟩⟩)
  (by
   intro i Bc I;obtain ⟨a,d⟩:=A i Bc I;exact ⟨Bc,a,d,rfl,rfl,rfl,rfl,fun _=>rfl,fun hp=>by rw [(F Bc (Xqr I)).1] at hp;cases hp⟩)
  (by
   intro b B c;by_cases f:nid≤b∧b - nid<bs.length
   ·rw [t,if_pos f] at c;exact .inl ⟨b - nid,B,c,by omega⟩
   ·have D:mN b=m b:=if_neg f;rw [t,if_neg f] at c;right;cases r:rd b with
    | none=>
     rw [r] at c;have c:g b=some B:=c;refine ⟨B,c,D,rfl,rfl,rfl,(l.blk b B c).fz0,(l.blk b B c).fzle,(fun i Bc h=>by simp [bH] at h), ?_⟩;intro o v T;rcases f_ T with h|⟨_,O,B1,a,d,_⟩
     ·exact l.own b B c o v h
     ·have:=l.inj O b B1 B (j _ _ a) c d;subst this;rw [a] at r;cases r
    | some B1=>
     rw [r] at c;have c:some {B1 with fro:=true,fz:=B1.cells.length}=some B:=c;cases c;have s:=j b B1 r;refine ⟨B1,s,D,rfl,rfl,rfl,(fun h=>by cases h),Θ _,(fun i Bc h=>by simp [bH] at h), ?_⟩;intro o v T;refine ⟨rfl, ?_⟩;rcases f_ T with h|⟨_,O,B2,a,d,V⟩
     ·exact Xqg (l.own b B1 s o v h).2 (l.blk b B1 s).fzle
     ·have:=l.inj O b B2 B1 (j _ _ a) s d;subst this;rw [a] at r;cases r;exact V)
  M
 refine ⟨mN,S',W,U, ?_⟩;show abM gN mN S' (Jo nid id out) e;cases out with
 |ret v=>
  obtain ⟨cv,Y,a⟩:=q;refine ⟨cv,Y, ?_⟩;have J:(jZ 0 v).2=bs:=E;simp only [Δ,Xqc,J] at a;refine ET (n:=0) KL (fun x v K=>iH x (nI x K)) ?_ a;intro i k v K;rw [χ] at K;simp only [VR] at K ⊢;obtain ⟨B,d,V,h4,h5⟩:=K;obtain ⟨h6,h7⟩:=A i B d;exact ⟨B,h6,V,h4,by rw [h7];exact h5⟩
 |pan v=>
  obtain ⟨cv,Y,a⟩:=q;exact ⟨cv,Y,iH _ (nI _ a)⟩
end
end AM
namespace AM
open Go
theorem Lc {b:Nat} {r:List Nat} (h:rO (b::r)=true):b ∉ r∧rO r=true:=by
 simp only [rO,σ,Xqm] at h;refine ⟨fun a=> ?_,h.2⟩;rw [iV.2 a] at h;cases h.1
theorem qF:∀ {l:List Nat} {b p:Nat},pV l b=some p→l[p]? =some b
 | [],b,p,h=>by simp [pV] at h
 | c::r,b,p,h=>by
  simp only [pV] at h;split at h
  ·rename_i d;cases h;rw [aO d];rfl
  ·simp only [Xqs] at h;obtain ⟨q,a,rfl⟩:=h;simpa using qF a
theorem o_:∀ {l:List Nat} {b p:Nat},rO l=true→l[p]? =some b→pV l b=some p
 | [],b,p,_,h=>by simp at h
 |c::r,b,0,hn,h=>by simp at h;subst h;simp [pV]
 | c::r,b,p+1,hn,h=>by
  obtain ⟨f,d⟩:=Lc hn;have h:r[p]? =some b:=by simpa using h
  have a:Xqo c b=false:=by
   cases e:Xqo c b with
   |false=>rfl
   |true=>exact absurd (aO e ▸ Xqr h) f
  simp [pV,a,o_ d h]
theorem KW {mk:Nat→bi→bi}:∀ (fp:List Nat) (h':List bi) (b:Nat),aG ((ML fp h').map fun (b,B)=>(b,mk b B)) b=(pV fp b).bind fun p=>(h'[p]?).map (mk b)
 | [],h',b=>by cases h'<;>simp [ML,aG,pV]
 |a::r,[],b=>by
  simp only [ML,List.map_nil,aG,pV];cases Xqo a b with
  |true=>rfl
  |false=>cases pV r b<;>rfl
 | a::r,B::q,b=>by
  simp only [ML,Xqf,aG,pV];cases h:Xqo a b with
  |true=>have:=aO h;subst this;rfl
  |false=>
   simp only [KW r q b];cases pV r b<;>simp
section
variable {P:Program} {ap:AP} {g:dM} {m:a_} {S:aU} {w:World}
def JP (ρ:Nat→Nat→Option (Nat × Nat)) (B:bi):bi:={B with cells:=(match B.pr with|true=>B.cells|false=>mG ρ B.cells),ver:=0}
theorem ar1 {a b n i:Nat} (h:b≤a):n+(a+i - b)=n+(a - b)+i:=by omega
theorem ar2 {a b i:Nat} (h:b≤a):b+(a+i - b)=a+i:=by omega
theorem X7 {ρ:Nat→Nat→Option (Nat × Nat)} {l:List bi} (h:qR l):l.map (Bg ρ 0)=l:=by
 induction l with
 |nil=>rfl
 |cons B r ih=>
  rw [Xqf,ih fun B d=>h B (by simp [d])];obtain ⟨a,_,b⟩:=h B (by simp);obtain ⟨c,v,f,z,e,p⟩:=B;simp only at a b;subst a b;rfl
theorem Aj (L:cZ ap g m S w) {rd:dM} (hrd:∀ b B,rd b=some B→g b=some B) {a:List Nat} {O:List bi} (hbl:kP rd a=some O) (E:rO a=true) {nid:Nat} {args:List AV} {cargs:List Value} {out:kC}
  {vers:Nat→Nat} (hvers:∀ b B,rd b=some B→vers b=B.ver) {ρ ρ':Nat→Nat→Option (Nat × Nat)} (hρe:∀ b v,ρ b v=match Xqo v (vers b) with|true=>(pV a b).map fun p=>(p,0)|false=>none)
  {h':List bi} (hρe':ρ'=Pg nid a vers h'.length)
  (hv:bD g m S args cargs) {C:List Value→(Ending→World→Prop)→Prop} (hmono:∀ cargs R R',C cargs R→(∀ e w',R e w'→R' e w')→C cargs R')
  (r:∀ m1 S1,mY S S1→cZ ap (bH (O.map (JP ρ))) m1 S1 w→bD (bH (O.map (JP ρ))) m1 S1 (mG ρ args) cargs→C cargs fun e w'=> ∃ m' S',F5 ap (O.map (JP ρ)) m1 S1 w out h' m' S' w' e) (hl:a.length≤h'.length) (hfr:∀ i,i<(h'.length - a.length)+(kX h'.length out).length→g (nid+i)=none):
  C cargs fun e w'=>XJ ap g m S w (Jo (nid+(h'.length - a.length)) (ren ρ') out) (ED nid ((h'.drop a.length).map (Bg ρ' 0)++kX h'.length out)++(ML a h').map fun (b,B)=>(b,Bg ρ' (vers b) B)) e w':=by
 have t:∀ p b,a[p]? =some b→∃ B,rd b=some B∧g b=some B∧bH (O.map (JP ρ)) p=some (JP ρ B):=by
  intro p b hp;obtain ⟨B,c,d⟩:=(jl hbl).2 p b hp;exact ⟨B,d,hrd b B d,by simp [bH,c]⟩
 have y:∀ p Bc,bH (O.map (JP ρ)) p=some Bc→∃ b B,a[p]? =some b∧rd b=some B∧g b=some B∧Bc=JP ρ B:=by
  intro p Bc hp;have z:p<a.length:=by
   have:=(List.getElem?_eq_some_iff.1 hp).1;rw [List.length_map,(jl hbl).1] at this;exact this
  obtain ⟨B,c,d,f⟩:=t p _ (π z);rw [f] at hp;cases hp;exact ⟨_,B,π z,c,d,rfl⟩
 let mc:a_:=fun p=>m (a.getD p 0)
 have l:∀ p b,a[p]? =some b→mc p=m b:=by
  intro p b hp;show m (a.getD p 0)=_;rw [ξ,hp];rfl
 have Q:sN g m (bH (O.map (JP ρ))) mc ρ:=by
  intro b ver X D h B K F;rw [hρe] at h;split at h
  ·rename_i hve;simp only [Xqs,Prod.mk.injEq] at h;obtain ⟨p,hp,rfl,rfl⟩:=h;have hp:=qF hp;obtain ⟨B1,c,d,f⟩:=t p b hp;rw [d] at K;cases K;exact ⟨_,f,Xxq _,fun _=> ⟨by rw [aO hve,hvers b _ c],l p b hp,rfl⟩⟩
  ·cases h
 have hSc:cZ ap (bH (O.map (JP ρ))) mc S w:=by
  refine ⟨?_, ?_,L.sealed, ?_,L.glob⟩
  ·intro p q Bp Bq hp hq e;obtain ⟨b,B,c,d,f,_⟩:=y p Bp hp;obtain ⟨X,B',h1',h2',h3',_⟩:=y q Bq hq;rw [l p b c,l q X h1'] at e;have:=L.inj b X B B' f h3' e;subst this;have Y:=o_ E c;rw [o_ E h1'] at Y;cases Y;rfl
  ·intro p Bp hp;obtain ⟨b,B,c,d,f,rfl⟩:=y p Bp hp;rw [l p b c];obtain ⟨⟨cur,e,vs,rest,k1,k2,k3,k4,k5,k6⟩,k7,k8⟩:=L.blk b B f;cases hp:B.pr with
   |true=>exact ⟨⟨cur,e,vs,rest,k1,k2,fun _=>by simpa [JP,hp] using k3 hp,by simpa [JP,hp] using bY _ (k3 hp),k5,k6⟩,k7,by simpa [JP,hp] using k8⟩
   | false=>
    have hv:=kU (mY.refl S) Q _ k4;exact ⟨⟨cur,e,vs,rest,k1,k2,fun h=>by simp [JP,hp] at h,by simpa [JP,hp] using hv,k5,k6⟩,k7,by
     have:(JP ρ B).cells.length=B.cells.length:=by simp only [JP,hp];rw [dm k4,dm hv]
     rw [this];exact k8⟩
  ·intro p Bp hp o v ho;obtain ⟨b,B,c,d,f,rfl⟩:=y p Bp hp;rw [l p b c] at ho;exact L.own b B f o v ho
 refine hmono _ _ _ (r mc S (mY.refl S) hSc (kU (mY.refl S) Q _ hv)) ?_
 rintro e w' ⟨m',S',hF⟩
 obtain ⟨hsr,I,N⟩:=hF;generalize hbs:kX h'.length out=bs0 at hsr I hfr;have hown:qR bs0:=hbs ▸ AX out h'.length;obtain ⟨bs,J⟩:∃ bs,bs=h'.drop a.length++bs0:=⟨_,rfl⟩
 have hbsl:bs.length=(h'.length - a.length)+bs0.length:=by rw [J,List.length_append,List.length_drop]
 rw [← hbsl] at hfr
 let ups:=(ML a h').map fun (b,B)=>(b,Bg ρ' (vers b) B)
 rw [show (h'.drop a.length).map (Bg ρ' 0)++bs0=bs.map (Bg ρ' 0) by rw [J,List.map_append,X7 hown]]
 let gN:dM:=dW g (ED nid (bs.map (Bg ρ' 0))++ups)
 let mN:a_:=fun b=>if nid≤b∧b - nid<bs.length then m' (a.length+(b - nid)) else match pV a b with|some p=>m' p|none=>m b
 have G:∀ b,gN b=if nid≤b∧b - nid<bs.length then (bs[b - nid]?).map (Bg ρ' 0) else match (pV a b).bind fun p=>(h'[p]?).map (Bg ρ' (vers b)) with|some B=>some B|none=>g b:=by
  intro b;show dW g _ b=_;unfold dW;rw [gZ,zJ,KW (mk:=fun b B=>Bg ρ' (vers b) B)];by_cases c:nid≤b
  ·by_cases d:b - nid<bs.length
   ·have r:nid≤b∧b - nid<bs.length:=⟨c,d⟩
    rw [if_pos c,if_pos r,Xqz,π d];rfl
   ·have r:¬ (nid≤b∧b - nid<bs.length):=fun h=>d h.2
    rw [if_pos c,if_neg r,Xqz,Xqx (Xvq d)];rfl
  ·have r:¬ (nid≤b∧b - nid<bs.length):=fun h=>c h.1
   rw [if_neg c,if_neg r];rfl
 have hnidg:∀ b B,g b=some B→¬ (nid≤b∧b - nid<bs.length):=by
  rintro b B j ⟨c,d⟩
  have:=hfr (b - nid) d;rw [show nid+(b - nid)=b by omega,j] at this;cases this
 have hh':∀ p,p<a.length→∃ B,h'[p]? =some B:=fun p hp=> ⟨_,π (by omega)⟩
 have U:∀ p b,a[p]? =some b→∀ Bc,h'[p]? =some Bc→gN b=some (Bg ρ' (vers b) Bc)∧mN b=m' p:=by
  intro p b hp Bc K;obtain ⟨B,c,d,f⟩:=t p b hp;have hn:=hnidg b B d;refine ⟨by rw [G,if_neg hn,o_ E hp];simp [K], ?_⟩;show (if _ then _ else _)=_;rw [if_neg hn,o_ E hp]
 have V:∀ i B,bs[i]? =some B→gN (nid+i)=some (Bg ρ' 0 B)∧mN (nid+i)=m' (a.length+i):=by
  intro i B A;have hl:=(List.getElem?_eq_some_iff.1 A).1;have r:nid≤nid+i∧nid+i - nid<bs.length:=by omega
  refine ⟨by rw [G,if_pos r,show nid+i - nid=i by omega,A];rfl, ?_⟩;show (if _ then _ else _)=_;rw [if_pos r,show nid+i - nid=i by omega]
 have T:∀ p,a.length≤p→bH (h'++bs0) p=bs[p - a.length]? :=by
  intro p hp;have he:h'++bs0=h'.take a.length++bs:=by rw [J,← Ψ,List.take_append_drop]
  have z:(h'.take a.length).length=a.length:=by rw [List.length_take];omega
  rw [he,jk (by omega),z];rfl
 have s:∀ p Bc,bH (h'++bs0) p=some Bc→(p<a.length∧h'[p]? =some Bc)∨(a.length≤p∧bs[p - a.length]? =some Bc):=by
  intro p Bc h;by_cases hp:p<a.length
  ·rw [fG (by omega)] at h;exact .inl ⟨hp,h⟩
  ·rw [T p (by omega)] at h;exact .inr ⟨by omega,h⟩
 have hren':sN (bH (h'++bs0)) m' gN mN ρ':=by
  intro p ver X D h Bc K F;rw [hρe'] at h;unfold Pg at h;split at h
  ·rename_i b hp;cases h;rcases s p Bc K with ⟨c,d⟩|⟨c,_⟩
   ·obtain ⟨f,u⟩:=U p _ hp Bc d;exact ⟨_,f,by simp only [Bg];omega,fun e=> ⟨by simp only [Bg] at e;omega,u,rfl⟩⟩
   ·have:=(List.getElem?_eq_some_iff.1 hp).1;omega
  ·rename_i hp;split at h
   ·cases h;have Z:=List.getElem?_eq_none_iff.1 hp;rcases s p Bc K with ⟨c,_⟩|⟨c,d⟩
    ·omega
    ·obtain ⟨f,u⟩:=V _ Bc d;exact ⟨_,f,by simp only [Bg];omega,fun e=> ⟨by simp only [Bg] at e;omega,by rw [u,show a.length+(p - a.length)=p by omega],rfl⟩⟩
   ·cases h
 have Z:Ge g m gN mN:=by
  intro b B j;have hn:=hnidg b B j;cases A:pV a b with
  | none=>
   have hm:mN b=m b:=by
    show (if _ then _ else _)=_;rw [if_neg hn,A]
   refine ⟨B, ?_,rfl,.inl ⟨rfl,hm⟩⟩;rw [G,if_neg hn,A];exact j
  | some p=>
   have hp:=qF A;obtain ⟨B1,c,d,f⟩:=t p b hp;rw [d] at j;cases j;obtain ⟨Bc,u,h5,M⟩:=I.ge p _ f;rcases s p Bc u with ⟨_,W⟩|⟨W,_⟩
   ·obtain ⟨h8,h9⟩:=U p b hp Bc W;refine ⟨_,h8,h5, ?_⟩;rcases M with ⟨M,h6'⟩|M
    ·left;refine ⟨?_,by rw [h9,h6',l p b hp]⟩;simp only [Bg,JP] at M ⊢;rw [hvers b _ c];omega
    ·right;simp only [Bg,JP] at M ⊢;rw [hvers b _ c];omega
   ·have:=(List.getElem?_eq_some_iff.1 hp).1;omega
 let ι:Nat→Nat:=fun p=>if p<a.length then a.getD p 0 else nid+(p - a.length)
 have hι:∀ p b,a[p]? =some b→ι p=b:=by
  intro p b hp;show (if _ then _ else _)=_;rw [if_pos (List.getElem?_eq_some_iff.1 hp).1,ξ,hp];rfl
 have hι':∀ i,ι (a.length+i)=nid+i:=by
  intro i;show (if _ then _ else _)=_;rw [if_neg (by omega)];congr 1;omega
 obtain ⟨hsN,hfN⟩:=abf (g:=g) (m:=m) (S:=S) (w:=w) L hsr I ι
  (by
   intro p Bc hp;obtain ⟨b,B,c,d,f,rfl⟩:=y p Bc hp;rw [hι p b c];exact ⟨B,f,l p b c⟩) (mY.refl S) (fun k o v h=> .inl h) (gN:=gN) (mN:=mN) ρ' hren'
  (by
   intro p Bc hp;rcases s p Bc hp with ⟨c,d⟩|⟨c,d⟩
   ·have hp:=π c;obtain ⟨f,u⟩:=U p _ hp Bc d;rw [hι p _ hp];exact ⟨_,f,u,rfl,rfl,rfl,rfl,fun h=>by simp [Bg,h],fun h=>by simp [Bg,h]⟩
   ·obtain ⟨i,rfl⟩:∃ i,p=a.length+i:=⟨p - a.length,by omega⟩
    rw [show a.length+i - a.length=i by omega] at d;obtain ⟨f,u⟩:=V i Bc d;rw [hι' i];exact ⟨_,f,u,rfl,rfl,rfl,rfl,fun h=>by simp [Bg,h],fun h=>by simp [Bg,h]⟩)
  (by
   intro b B j;by_cases r:nid≤b∧b - nid<bs.length
   ·rw [G,if_pos r,Xqs] at j;obtain ⟨Bc,j,_⟩:=j;refine .inl ⟨a.length+(b - nid),Bc, ?_,by rw [hι'];omega⟩;rw [T _ (by omega),show a.length+(b - nid) - a.length=b - nid by omega];exact j
   ·rw [G,if_neg r] at j;cases A:pV a b with
    |some p=>
     have hp:=qF A;have z:=(List.getElem?_eq_some_iff.1 hp).1;obtain ⟨Bc,u⟩:=hh' p z;exact .inl ⟨p,Bc,by rw [fG (by omega)];exact u,(hι p b hp).symm⟩
    | none=>
     have hm:mN b=m b:=by
      show (if _ then _ else _)=_;rw [if_neg r,A]
     rw [A] at j;have j:g b=some B:=j;refine .inr ⟨B,j,hm,rfl,rfl,rfl,(L.blk b B j).fz0,(L.blk b B j).fzle, ?_,fun o v ho=>L.own b B j o v ho⟩;intro p Bc hp e;obtain ⟨b1,B1,c,_⟩:=y p Bc hp;rw [hι p b1 c] at e;subst e;rw [o_ E c] at A;cases A)
  Z
 refine ⟨mN,S',hsN,hfN, ?_⟩;show abM gN mN S' (Jo (nid+(h'.length - a.length)) (ren ρ') out) e;have hrenh:sN (bH h') m' gN mN ρ':=by
  intro p ver X D h Bc K F;refine hren' p ver X D h Bc ?_ F;rw [fG (List.getElem?_eq_some_iff.1 K).1];exact K
 cases out with
 |ret v=>
  obtain ⟨cv,Y,c⟩:=N;refine ⟨cv,Y, ?_⟩;have hbs':(jZ h'.length v).2=bs0:=hbs;rw [hbs'] at c;refine ET (n:=h'.length) (G8 ρ') (fun x v hx=>zo (mY.refl S') hrenh x hx) ?_ c;intro i k v hx;simp only [VR] at hx ⊢;obtain ⟨B,d,f,u,h5⟩:=hx;rw [T _ (Xxm hl (Nat.le_add_right _ _))] at d;obtain ⟨M,W⟩:=V _ B d;rw [ar1 hl] at M W;rw [ar2 hl] at W;exact ⟨_,M,Xxq _,u,fun e=>by rw [W];exact h5 (by simpa [Bg] using e)⟩
 |pan v=>
  obtain ⟨cv,Y,c⟩:=N;exact ⟨cv,Y,zo (mY.refl S') hrenh _ c⟩
end
end AM
namespace AM
open Go
section
variable {P:Program} {ap:AP} {H:dw}
theorem yt {o:dM} {nid f:Nat} {args:List AV} {md:AV} {c A:Cx} {r:Uf} (h:uf ap H o nid md f args c= .ok r A):
  ∃ args0 h0 out0 h0',H c md f args0 h0= .ok (out0,h0',r.md) A∧((∃ v,out0= .ret v)↔∃ v,r.out= .ret v)∧
  ∀ g m S w cargs (C:List Value→(Ending→World→Prop)→Prop),(∀ cargs R R',C cargs R→(∀ e w',R e w'→R' e w')→C cargs R')→cZ ap g m S w→(∀ b ∈ r.fp,∀ B,o b=some B→g b=some B)→(∀ i,i<4→g (nid+i)=none)→bD g m S args cargs→
   (∀ m1 S1,mY S S1→cZ ap (bH h0) m1 S1 w→bD (bH h0) m1 S1 args0 cargs→C cargs fun e w'=> ∃ m' S',F5 ap h0 m1 S1 w out0 h0' m' S' w' e)→
   C cargs fun e w'=>XJ ap g m S w r.out r.ups e w':=by
 unfold uf at h;simp only at h;generalize G:tC o 6 (jq (cO args))=fp at h
 let rd:dM:=fun b=>match pY fp b with|true=>o b|false=>none
 have a:∀ b B,rd b=some B→b ∈ fp∧o b=some B:=by
  intro b B d;dsimp only [rd] at d;split at d
  ·rename_i E;exact ⟨iV.1 E,d⟩
  ·cases d
 split at h
 ·split at h
  ·cases h
  ·rename_i args' z;obtain ⟨⟨out,u,md⟩,F,x,h⟩:=R.bind_ok h;dsimp only at h;split at h
   ·cases h
   ·split at h
    ·rename_i v;split at h
     ·rename_i n;cases h;refine ⟨_,_,_,_,x,⟨fun _=> ⟨_,rfl⟩,fun _=> ⟨_,rfl⟩⟩, ?_⟩;intro g m S w cargs C hmono q k l s t;have j:kX 0 (kC.ret v)=(jZ nid v).2:=AY KL v 0 nid;have:=Ai q (rd:=rd) (fun b B d=>k b (a b B d).1 B (a b B d).2) (fun b B d=>(a b B d).1) (nid:=nid) z s hmono t (fun i p=>l i (by rw [j] at p;have:=gG n;omega));rw [j] at this;exact this
     ·cases h
    ·rename_i v;cases h;refine ⟨_,_,_,_,x,⟨(fun ⟨_,h⟩=>by cases h),(fun ⟨_,h⟩=>by cases h)⟩, ?_⟩;intro g m S w cargs C hmono q k l s t;exact Ai q (rd:=rd) (fun b B d=>k b (a b B d).1 B (a b B d).2) (fun b B d=>(a b B d).1) (nid:=nid) z s hmono t (fun i p=>by simp [kX] at p)
 ·split at h
  ·cases h
  ·rename_i I y;obtain ⟨⟨out,u,md⟩,F,x,h⟩:=R.bind_ok h;dsimp only at h;split at h
   ·cases h
   ·rename_i hcond;simp only [σ] at hcond;have D:=gG hcond.1
    let vers:Nat→Nat:=fun b=>match rd b with|some B=>B.ver|none=>0
    have hvers':∀ b B,rd b=some B→vers b=B.ver:=by
     intro b B d;simp only [vers,d]
    let ρ':Nat→Nat→Option (Nat × Nat):=Pg nid fp vers u.length
    split at h
    ·rename_i v;split at h
     ·rename_i n;cases h;refine ⟨_,_,_,_,x,⟨fun _=> ⟨_,rfl⟩,fun _=> ⟨_,rfl⟩⟩, ?_⟩;intro g m S w cargs C hmono q k l s t;have j:kX u.length (kC.ret v)=(jZ (nid+(u.length - fp.length)) (ren ρ' v)).2:=(AY (G8 ρ') v (nid+(u.length - fp.length)) u.length).symm;have:=Aj q (rd:=rd) (fun b B d=>k b (a b B d).1 B (a b B d).2) y hcond.2 (nid:=nid) hvers' (ρ':=ρ') (fun b v=>rfl) rfl s hmono t D (fun i p=>l i (by rw [j] at p;exact Xqg p (gG n)));rw [j] at this;exact this
     ·cases h
    ·rename_i v;split at h
     ·rename_i n;cases h;refine ⟨_,_,_,_,x,⟨(fun ⟨_,h⟩=>by cases h),(fun ⟨_,h⟩=>by cases h)⟩, ?_⟩;intro g m S w cargs C hmono q k l s t;exact Aj q (rd:=rd) (fun b B d=>k b (a b B d).1 B (a b B d).2) y hcond.2 (nid:=nid) hvers' (ρ':=ρ') (fun b v=>rfl) rfl s hmono t D (fun i p=>l i (by simp only [kX,Δ,Xq5] at p;exact Xqg p (gG n)))
     ·cases h
theorem C_ (y:jX P ap H) {a:dM} {nid f:Nat} {args:List AV} {c o:Cx} {r:Uf} (h:uf ap H a nid .dead f args c= .ok r o) (z:o.Ok):
  c.Ok∧zn P f∧∀ g m S w cargs,cZ ap g m S w→(∀ b ∈ r.fp,∀ B,a b=some B→g b=some B)→(∀ i,i<4→g (nid+i)=none)→bD g m S args cargs→
   Calls P f cargs.toArray w fun e w'=>XJ ap g m S w r.out r.ups e w':=by
 obtain ⟨args0,h0,q,t,u,_,v⟩:=yt h;obtain ⟨j,p⟩:=y _ _ _ _ _ _ _ _ u z;refine ⟨j,p.ent,fun g m S w cargs s d k x=> ?_⟩;exact v g m S w cargs (fun cargs R=>Calls P f cargs.toArray w R) (fun _ _ _ l n=>l.mono n) s d k x fun A S1 _ l n=>p.calls A S1 w cargs l n
end
end AM
namespace AM
open Go
def tK (dec:List (Nat × Bool)) (env:iO):Prop:=∀ t b,aG dec t=some b→env.get t= .bool b
def iw (g:dM) (m:a_) (S:aU):List (Nat × List AV)→List Deferred→Prop
 | [],[]=>True
 |d::r,cd::cr=>(∃ cap,cd.target= .fn (.func d.1) cap∧bD g m S d.2 (cd.args++cap).toList)∧iw g m S r cr
 |_,_=>False
theorem vg {g g':dM} {m c:a_} {S S':aU} (b:mY S S') (e:Ge g m g' c):∀ {l:List (Nat × List AV)} {ds:List Deferred},iw g m S l ds→iw g' c S' l ds
 | [],[],_=>by simp only [iw]
 |d::r,cd::cr,h=>by
  simp only [iw] at h ⊢;obtain ⟨⟨a,i,f⟩,j⟩:=h;exact ⟨⟨a,i,lW b e _ f⟩,vg b e j⟩
 | [],_::_,h=>by simp [iw] at h
 |_::_,[],h=>by simp [iw] at h
theorem Ae {g:dM} {m:a_} {S:aU}:∀ {l l':List (Nat × List AV)} {ds ds':List Deferred},iw g m S l ds→iw g m S l' ds'→iw g m S (l++l') (ds++ds')
 | [],_,[],_,_,h'=>by simpa using h'
 |d::r,_,cd::cr,_,h,h'=>by
  simp only [iw] at h;simp only [List.cons_append,iw];exact ⟨h.1,Ae h.2 h'⟩
 | [],_,_::_,_,h,_=>by simp [iw] at h
 |_::_,_,[],_,h,_=>by simp [iw] at h
def wpO (P:Program) (ops:Array Oper) (Q:Exit→Act→World→Prop) (o:Oper) (K:Act→World→Prop) (a:Act) (w:World):Prop:=
 if Region.wanted o (yielded ops a.tmps) then o.wp P a w K Q∨(o.asks P a w∧LetsOut Q) else K (a.put o.dst undef) w
def aa0 (ap:AP) (o:Oper) (g:dM) (m:a_) (S:aU) (w:World) (a:Act) (v:AV) (ups:List (Nat × bi)) (df:List (Nat × List AV)) (Q:Exit→Act→World→Prop) (K:Act→World→Prop):Option AV→Prop
 |none=> ∀ cv m' S' w' ds,cZ ap (dW g ups) m' S' w'→Fr g m S w (dW g ups) m' S' w'→VR (dW g ups) m' S' v cv→iw (dW g ups) m' S' df ds→K ({a with defers:=ds++a.defers}.put o.dst cv) w'
 |some pv=> ∀ cv m' S' w',cZ ap (dW g ups) m' S' w'→Fr g m S w (dW g ups) m' S' w'→VR (dW g ups) m' S' pv cv→Q (.panic [{v:=cv,recovered:=false}]) a w'
def Ij (P:Program) (ap:AP) (ops:Array Oper) (o:Oper) (nid:Nat) (env:iO) (hp:Hp) (rt rb:List Nat) (v:AV) (ups:List (Nat × bi)) (df:List (Nat × List AV)) (p:Option AV):Prop:=
 ∀ g m S w (a:Act),cZ ap g m S w→(∀ t ∈ rt,VR g m S (env.get t) (a.tmps.getD t undef))→(∀ b ∈ rb,∀ B,aG hp b=some B→g b=some B)→(∀ i,i<4→g (nid+i)=none)→
  ∀ (Q:Exit→Act→World→Prop) (K:Act→World→Prop),aa0 ap o g m S w a v ups df Q K p→wpO P ops Q o K a w
structure afy (P:Program) (ap:AP) (ops:Array Oper) (o:Oper) (nid:Nat) (s s':RS) (p:Option AV) (v:AV) (rt rb:List Nat) (ups:List (Nat × bi)) (df:List (Nat × List AV)):Prop where
 env:p=none→s'.env=qf s.env o.dst v
 envp:p ≠ none→s'.env=s.env∧df= []
 hp:s'.hp=ups++s.hp
 md:s'.md=s.md
 dfs:s'.dfs=df++s.dfs
 dec:p=none→tK s'.dec s'.env
 feet:p=none→s'.feet={rt,wt:=II o,rb,wb:=ups.map (·.1)}::s.feet
 sem:Ij P ap ops o nid s.env s.hp rt rb v ups df p
section
variable {P:Program} {ap:AP} {H:dw}
theorem U3 (e:Array Value) (t:Nat) {v:Value} (h:e.getD t undef=v) (b:v ≠ undef):e[t]? =some v:=by
 rw [Array.getD_eq_getD_getElem?] at h;cases a:e[t]? with
 |none=>rw [a] at h;exact absurd h.symm b
 |some u=>rw [a] at h;simpa using h
theorem FI {ops:Array Oper} {tmps:Array Value} {j s:Nat} (hs:(ops[j]?).bind (·.dst)=some s) {b:Bool} (h:tmps.getD s undef= .bool b):yielded ops tmps j=some b:=by
 unfold yielded;rw [hs];simp only [Xwz];rw [U3 tmps s h (by simp [undef])]
theorem JK {ops:Array Oper} {tmps:Array Value} {j s:Nat} (hs:(ops[j]?).bind (·.dst)=some s) (h:tmps.getD s undef= .tuple #[]):yielded ops tmps j=none:=by
 unfold yielded;rw [hs];simp only [Xwz];rw [Array.getD_eq_getD_getElem?] at h;cases a:tmps[s]? with
 |none=>rfl
 |some u=>
  rw [a] at h;simp at h;rw [h]
theorem xx {g:dM} {m:a_} {S:aU} {w:World} (b:cZ ap g m S w) {env:iO} {a:Act} (x:Operand) (h:∀ t,x= .tmp t→VR g m S (env.get t) (a.tmps.getD t undef)):VR g m S (qB ap env x) (a.eval x):=by
 cases x with
 |tmp t=>exact h t rfl
 |const v=>exact iH _ (JV S v)
 | global k=>
  simp only [qB,Act.eval];cases c:(ap.gl[k]?).join with
  |none=>simp only [VR]
  |some xs=>
   obtain ⟨vs,e,d⟩:=b.glob k xs c;simp only [VR,PR];exact ⟨k,0,vs,rfl,e,d⟩
 |func f=>
  simp only [qB,Act.eval,VR];exact ⟨[],[],rfl,by simp [bD],by simp [bD]⟩
theorem Ew {l:List Operand} {t:Nat} (h:Operand.tmp t ∈ l):t ∈ uX l:=by
 simp only [uX,List.mem_filterMap];exact ⟨_,h,rfl⟩
theorem IV {ops:List Oper} {env:iO} {dec e:List (Nat × Bool)} {o:Oper} {c A:Cx} {run:Bool} (h:NT ops env dec o c= .ok (run,e) A) (p:A.Ok):
  c.Ok∧(tK dec env→tK e env∧(∀ t b,aG dec t=some b→aG e t=some b)∧∀ g m S (a:Act),(∀ t ∈ jy ops o,VR g m S (env.get t) (a.tmps.getD t undef))→Region.wanted o (yielded ops.toArray a.tmps)=run):=by
 unfold NT at h;unfold jy;unfold Region.wanted;split at h
 ·rename_i z;cases h;simp only [z];exact ⟨p,fun hd=> ⟨hd,fun _ _ h=>h,fun _ _ _ _ _=>trivial⟩⟩
 ·rename_i j f z;simp only [z];split at h
  ·cases h
  ·rename_i s hs;have k:(ops.toArray[j]?).bind (·.dst)=some s:=by simpa using hs
   split at h
   ·rename_i b l;cases h;refine ⟨p,fun hd=> ⟨hd,fun _ _ h=>h,fun g m S a n=> ?_⟩⟩;have d:=n s (by simp);rw [hd s b l] at d;simp only [VR,PR] at d;rw [FI k d];cases f<;>cases b<;>rfl
   ·rename_i B;split at h
    ·rename_i b l;obtain ⟨C,D,d,q⟩:=R.bind_ok h;cases q;obtain ⟨y,rfl⟩:=lG d p;refine ⟨y,fun hd=> ⟨?_, ?_,fun g m S a n=> ?_⟩⟩
     ·intro t x i;simp only [aG] at i;split at i
      ·rename_i u;cases i;rw [← aO u,l]
      ·exact hd t x i
     ·intro t x i;simp only [aG];split
      ·rename_i u;rw [aO u] at B;rw [B] at i;cases i
      ·exact i
     ·have d:=n s (by simp);rw [l] at d;simp only [VR,PR] at d;rw [FI k d];cases f<;>cases C<;>rfl
    ·rename_i l;cases h;refine ⟨p,fun hd=> ⟨hd,fun _ _ h=>h,fun g m S a n=> ?_⟩⟩;have d:=n s (by simp);rw [l] at d;simp only [VR] at d;obtain ⟨vs,d,q⟩:=d;cases vs with
     |nil=>rw [JK k d];rfl
     |cons v r=>simp [bD] at q
    ·cases h
theorem KE {env:iO} {o:Oper} {v:AV} {t:Nat} (h:∀ d,o.dst=some d→d ≠ t):(qf env o.dst v).get t=env.get t:=by
 unfold qf;split
 ·rename_i d hd;simp only [iO.get,aG];split
  ·rename_i a;exact absurd (aO a) (h d hd)
  ·rfl
 ·rfl
theorem yx {dec:List (Nat × Bool)} {env:iO} {o:Oper} {v:AV} (hd:tK dec env) (a:UQ dec o=true):tK dec (qf env o.dst v):=by
 intro t b c;rw [KE]
 ·exact hd t b c
 ·rintro d hdd rfl
  unfold UQ at a;rw [hdd] at a;simp [c] at a
end
end AM
namespace AM
open Go
section
variable {P:Program} {ap:AP} {H:dw}
theorem U8 {c:Cx} {dst:Option Nat} {v:AV} (h:(DR c dst v).2.Ok):c.Ok∧aZ v (DR c dst v).1:=by
 obtain ⟨cl,orc,bs,ps,ans,hs⟩:=c;unfold DR at h ⊢;dsimp only at h ⊢;split at h
 ·rename_i d x r i;split at h
  ·rename_i a;have e:aZ v x:=h.ps _ (Xji ..);refine ⟨⟨h.bs,fun p hp=>h.ps p (Xxx _ hp)⟩, ?_⟩;simp only [a];exact e
  ·rename_i a;refine ⟨h, ?_⟩;simp only [a];exact fun _ _ _ _ b=>b
 ·rename_i f;exact ⟨h,fun _ _ _ _ b=>b⟩
theorem U7 {c:Cx} {dst:Option Nat} (h:(PP c dst).2.Ok):c.Ok:=by
 obtain ⟨cl,orc,bs,ps,ans,hs⟩:=c;unfold PP at h;dsimp only at h;split at h
 ·split at h
  ·exact ⟨h.bs,h.ps⟩
  ·exact h
 ·exact h
theorem U6 {c:Cx} {dst:Option Nat} {ups:List (Nat × bi)} (h:(DN c dst ups).2.Ok):c.Ok∧(DN c dst ups).1=ups:=by
 obtain ⟨cl,orc,bs,ps,ans,hs⟩:=c;unfold DN at h ⊢;dsimp only at h ⊢;split at h
 ·rename_i d e r j b B;split at h
  ·rename_i a;have f:B.cells=e:=h.ps _ (Xji ..);refine ⟨⟨h.bs,fun p hp=>h.ps p (Xxx _ hp)⟩, ?_⟩;simp only [a,← f]
  ·rename_i a;refine ⟨h, ?_⟩;simp only [a]
 ·rename_i i;exact ⟨h,rfl⟩
theorem A8 {a:Act} {g:Operand} {args:Array Operand} {argTypes:Array TypeId} {ty:TypeId} {f:Nat} {first b:Array Value} (h:a.eval g= .func (.func f) first b) (w:World):
  (resolve a.eval {callee:= .value g,args,argTypes} ty).run P w= .ok {target:= .fn (.func f) b,args:=first++args.map a.eval} w:=by
 simp only [resolve,h,Deferred.ofValue];rfl
theorem Gl {a:Act} {g:Operand} {args:Array Operand} {argTypes:Array TypeId} {ty:TypeId} {f:Nat} {first b:Array Value} (h:a.eval g= .func (.func f) first b) (c:zn P f) (w:World):
  (do let d ← resolve a.eval {callee:= .value g,args,argTypes} ty;invoke d.target d.args:Sem Next).run P w= .ok (.enter f ((first++args.map a.eval)++b)) w:=by
 rw [Sem.run_bind,A8 h,Result.andThen_ok];exact c _ _
theorem JZ {g:dM} {m:a_} {S:aU} {ρ:Operand→AV} {cρ:Operand→Value} {args:Array Operand} (h:∀ o ∈ args,VR g m S (ρ o) (cρ o)):bD g m S (args.toList.map ρ) (args.map cρ).toList:=by
 rw [Array.toList_map];exact vw _ fun o a=>h o (by simpa using a)
theorem zK:∀ {l:Hp} {b:Nat} {B:bi},aG l b=some B→(b,B) ∈ l
 | [],_,_,h=>by cases h
 | (k,X)::r,b,B,h=>by
  simp only [aG] at h;split at h
  ·rename_i a;cases h;have:=aO a;subst this;exact Xji ..
  ·exact Xxx _ (zK h)
theorem Es {α β:Type} {f g:α→β}:∀ {l:List α},l.map f=l.map g→∀ {x:α},x ∈ l→f x=g x
 | [],_,_,h=>by cases h
 |a::r,h,x,hx=>by
  simp only [Xqf,List.cons.injEq] at h;rcases List.mem_cons.1 hx with rfl|hx
  ·exact h.1
  ·exact Es h.2 hx
theorem sD (hap:iM P ap) (hH:jX P ap H) {nid:Nat} {ops:List Oper} {o:Oper} {s s':RS} {p:Option AV} {c c':Cx} (h:L_ ap H nid ops o s c= .ok (s',p) c') (U:c'.Ok):
  c.Ok∧(s.md= .dead→tK s.dec s.env→∃ v rb ups df,afy P ap ops.toArray o nid s s' p v (uX o.op.operands.toList++jy ops o) rb ups df):=by
 unfold L_ at h;obtain ⟨⟨run,dec⟩,c1,e1,h⟩:=R.bind_ok h;dsimp only at h;split at h
 ·cases h
 rename_i E;have hguard:∀ c1ok:c1.Ok,c.Ok∧(tK s.dec s.env→tK dec s.env∧(∀ t b,aG s.dec t=some b→aG dec t=some b)∧∀ g m S (a:Act),(∀ t ∈ jy ops o,VR g m S (s.env.get t) (a.tmps.getD t undef))→Region.wanted o (yielded ops.toArray a.tmps)=run):=fun hk=>IV e1 hk
 have N:∀ {g:dM} {m:a_} {S:aU} {w:World} {a:Act},cZ ap g m S w→(∀ t ∈ uX o.op.operands.toList++jy ops o,VR g m S (s.env.get t) (a.tmps.getD t undef))→∀ x ∈ o.op.operands,VR g m S (qB ap s.env x) (a.eval x):=by
  intro g m S w a j i x X;refine xx j x fun t ht=>i t ?_
  subst ht;exact List.mem_append.2 (.inl (Ew (by simpa using X)))
 split at h
 ·
  cases h;obtain ⟨C,Y⟩:=hguard U;refine ⟨C,fun T d=> ?_⟩;obtain ⟨hd,_,hw⟩:=Y d;refine ⟨.tup [],[],[],[],⟨fun _=>rfl,fun h=>absurd rfl h,rfl,rfl,rfl,fun _=>yx hd E,fun _=>rfl, ?_⟩⟩;intro g m S w a j i _ _ Q K O;unfold wpO;rw [hw g m S a fun t ht=>i t (List.mem_append.2 (.inr ht))];simp only [Bool.false_eq_true,if_false];have:=O undef m S w [] (by rw [fQ];exact j) (by rw [fQ];exact Fr.refl _ _ _ _) (by simp only [VR];exact ⟨[],rfl,by simp [bD]⟩) (by simp [iw]);exact this
 ·
  have hwant:∀ (Q:Exit→Act→World→Prop) (K:Act→World→Prop) (g:dM) (m:a_) (S:aU) (a:Act) (w:World),c1.Ok→tK s.dec s.env→(∀ t ∈ uX o.op.operands.toList++jy ops o,VR g m S (s.env.get t) (a.tmps.getD t undef))→o.wp P a w K Q→wpO P ops.toArray Q o K a w:=by
   intro Q K g m S a w hk d i hh;obtain ⟨_,_,hw⟩:=(hguard hk).2 d;unfold wpO;rw [hw g m S a fun t ht=>i t (List.mem_append.2 (.inr ht))];simp only [if_true];exact .inl hh
  split at h
  ·
   rename_i gf args argTypes l;split at h
   ·rename_i f first cap hf
    obtain ⟨r,c2,e2,h⟩:=R.bind_ok h;have Z:c2.Ok:=by
     revert h
     cases hu:PP c2 o.dst with
     | mk u c3=>
      have D:c3.Ok→c2.Ok:=fun hk=>U7 (by rw [hu];exact hk)
      cases u with
      | true=>
       dsimp only;cases r.out with
       |ret v=>
        dsimp only;split
        ·intro h;cases h;exact D ⟨U.bs,fun p hp=>U.ps p (Xxx _ hp)⟩
        ·intro h;cases h
       |pan v=>intro h;cases h
      |false=>dsimp only;cases r.out<;>intro h<;>cases h<;>exact D U
    obtain ⟨I,hE,hcall⟩:=C_ hH e2 Z;obtain ⟨C,Y⟩:=hguard I;refine ⟨C,fun T d=> ?_⟩;obtain ⟨hd,_,_⟩:=Y d;have hargs:∀ {g:dM} {m:a_} {S:aU} {w:World} {a:Act},cZ ap g m S w→(∀ t ∈ uX o.op.operands.toList++jy ops o,VR g m S (s.env.get t) (a.tmps.getD t undef))→
      ∃ M J:List Value,a.eval gf= .func (.func f) M.toArray J.toArray∧bD g m S (first++args.toList.map (qB ap s.env)++cap) ((M++(args.map a.eval).toList)++J):=by
     intro g m S w a j i;have y:=N j i;rw [l] at y;have z:=y gf (by simp [Op.operands,Call.operands]);rw [hf] at z;simp only [VR] at z;obtain ⟨M,J,D,L,G⟩:=z;exact ⟨M,J,D,iy (iy L (JZ fun x X=>y x (by simp [Op.operands,Call.operands,X]))) G⟩
    have W:∀ {a:Act} {M J:List Value} (w:World),a.eval gf= .func (.func f) M.toArray J.toArray→(execOp a.eval o).run P w= .ok (.enter f (((M++(args.map a.eval).toList)++J).toArray)) w:=by
     intro a M J w he;have:=Gl (args:=args) (argTypes:=argTypes) (ty:=o.type) he hE w;unfold execOp;rw [l];dsimp only;rw [this];congr 2;apply Array.toList_inj.1;simp
    split at h
    ·rename_i c3 hu;split at h
     ·rename_i v F;split at h
      ·rename_i hall;cases h;have heq:r.ups.map (fun (q:Nat × bi)=>some q.2)=r.ups.map (fun (q:Nat × bi)=>aG s.hp q.1):=U.ps _ (Xji ..);refine ⟨v,r.fp,[],[],⟨fun _=>rfl,fun h=>absurd rfl h,rfl,rfl,rfl,fun _=>yx hd E,fun _=>rfl, ?_⟩⟩;intro g m S w a j i k A Q K O;have hg':dW g r.ups=g:=by
        funext b;unfold dW;cases hl:aG r.ups b with
        |none=>rfl
        |some B=>
         have hm:=zK hl;have y:=Es heq hm;exact (k b (iV.1 (List.all_eq_true.1 hall _ hm)) B y.symm).symm
       refine hwant Q K g m S a w I d i ?_;obtain ⟨M,J,y,z⟩:=hargs j i;unfold Oper.wp;rw [W w y];refine (hcall g m S w _ j k A z).mono ?_
       rintro e w' ⟨m',S',D,L,G⟩
       rw [F] at G;obtain ⟨cv,rfl,h6⟩:=G;rw [hg'] at D L h6;exact O cv m' S' w' [] D L h6 (by simp [iw])
      ·cases h
     ·cases h
    ·rename_i c3 hu;split at h
     ·rename_i v F;cases h;refine ⟨v,r.fp,r.ups,[],⟨fun _=>rfl,fun h=>absurd rfl h,rfl,rfl,rfl,fun _=>yx hd E,fun _=>rfl, ?_⟩⟩;intro g m S w a j i k A Q K O;refine hwant Q K g m S a w I d i ?_;obtain ⟨M,J,y,z⟩:=hargs j i;unfold Oper.wp;rw [W w y];refine (hcall g m S w _ j k A z).mono ?_
      rintro e w' ⟨m',S',D,L,G⟩
      rw [F] at G;obtain ⟨cv,rfl,h6⟩:=G;exact O cv m' S' w' [] D L h6 (by simp [iw])
     ·rename_i v F;cases h;refine ⟨v,r.fp,r.ups,[],⟨fun h=>(by cases h),fun _=> ⟨rfl,rfl⟩,rfl,rfl,rfl,fun h=>(by cases h),fun h=>(by cases h), ?_⟩⟩;intro g m S w a j i k A Q K O;refine hwant Q K g m S a w I d i ?_;obtain ⟨M,J,y,z⟩:=hargs j i;unfold Oper.wp;rw [W w y];refine (hcall g m S w _ j k A z).mono ?_
      rintro e w' ⟨m',S',D,L,G⟩
      rw [F] at G;obtain ⟨cv,rfl,h6⟩:=G;exact O cv m' S' w' D L h6
   ·cases h
  ·
   split at h
   ·cases h;exact ⟨(hguard U).1,fun T=>by simp_all⟩
   ·cases h;exact ⟨(hguard U).1,fun T=>by simp_all⟩
   ·cases h
  ·
   rename_i gf args argTypes l;split at h
   ·rename_i f first cap hf
    cases h;obtain ⟨C,Y⟩:=hguard U;refine ⟨C,fun T d=> ?_⟩;obtain ⟨hd,_,_⟩:=Y d;refine ⟨.dead,[],[],[(f,first++args.toList.map (qB ap s.env)++cap)],⟨fun _=>rfl,fun h=>absurd rfl h,rfl,rfl,rfl,fun _=>yx hd E,fun _=>rfl, ?_⟩⟩;intro g m S w a j i k A Q K O;refine hwant Q K g m S a w U d i ?_;have y:=N j i;rw [l] at y;have z:=y gf (by simp [Op.operands,Call.operands]);rw [hf] at z;simp only [VR] at z;obtain ⟨M,J,D,L,G⟩:=z;unfold Oper.wp;have hr:(execOp a.eval o).run P w= .ok (.defer {target:= .fn (.func f) J.toArray,args:=M.toArray++args.map a.eval}) w:=by
     unfold execOp;rw [l];dsimp only;rw [Sem.run_bind,A8 D,Result.andThen_ok];rfl
    rw [hr];refine O undef m S w [{target:= .fn (.func f) J.toArray,args:=M.toArray++args.map a.eval}] (by rw [fQ];exact j) (by rw [fQ];exact Fr.refl _ _ _ _) (by simp only [VR]) ?_;simp only [iw,fQ,and_true];refine ⟨J.toArray,rfl, ?_⟩;have:=iy (iy L (JZ (args:=args) fun x X=>y x (by simp [Op.operands,Call.operands,X]))) G;simpa using this
   ·cases h
  ·
   rename_i x l;split at h
   ·rename_i t v X;cases h;obtain ⟨C,Y⟩:=hguard U;refine ⟨C,fun T d=> ?_⟩;obtain ⟨hd,_,_⟩:=Y d;refine ⟨.dead,[],[],[],⟨fun h=>(by cases h),fun _=> ⟨rfl,rfl⟩,rfl,rfl,rfl,fun h=>(by cases h),fun h=>(by cases h), ?_⟩⟩;intro g m S w a j i k A Q K O;refine hwant Q K g m S a w U d i ?_;have y:=N j i;rw [l] at y;have z:=y x (by simp [Op.operands]);rw [X] at z;have h2':=z;simp only [VR] at h2';obtain ⟨u,D,L⟩:=h2';unfold Oper.wp;have hr:(execOp a.eval o).run P w= .halt (.panic (a.eval x)) w:=by
     unfold execOp;rw [l];dsimp only;rw [D];rfl
    rw [hr];exact O _ m S w (by rw [fQ];exact j) (by rw [fQ];exact Fr.refl _ _ _ _) (by rw [fQ];exact z)
   ·cases h
  ·
   rename_i op n1 n2 n3 n4;obtain ⟨em,c2,e2,h⟩:=R.bind_ok h;split at h
   ·cases h
   ·rename_i v ups bs l;obtain ⟨_,c3,e3,h⟩:=R.bind_ok h;have hv1:(DR c3 o.dst v).2.Ok→c3.Ok∧aZ v (DR c3 o.dst v).1:=U8;generalize DR c3 o.dst v=q1 at h hv1;obtain ⟨v1,c4⟩:=q1;dsimp only at h hv1;have hv2:(DN c4 o.dst ups).2.Ok→c4.Ok∧(DN c4 o.dst ups).1=ups:=U6;generalize DN c4 o.dst ups=q2 at h hv2;obtain ⟨ups1,c5⟩:=q2;dsimp only at h hv2;cases h;obtain ⟨hc4,hups⟩:=hv2 U;subst hups;obtain ⟨hc3,hfit⟩:=hv1 hc4;obtain ⟨Z,hbs⟩:=IK e3 hc3;have hem:c1.Ok∧∀ n,yC (qB ap s.env) o.op=some n→Xqo n 0=em:=by
     split at e2
     ·rename_i n hn;obtain ⟨hk,rfl⟩:=lG e2 Z;exact ⟨hk,fun n' V=>by rw [hn] at V;cases V;rfl⟩
     ·rename_i hn;cases e2;exact ⟨Z,fun n' V=>by rw [hn] at V;cases V⟩
    obtain ⟨I,hem⟩:=hem;obtain ⟨C,Y⟩:=hguard I;refine ⟨C,fun T d=> ?_⟩;obtain ⟨hd,_,_⟩:=Y d;refine ⟨v1,Wv (qB ap s.env) o.op,ups1,[],⟨fun _=>rfl,fun h=>absurd rfl h,rfl,rfl,rfl,fun _=>yx hd E,fun _=>rfl, ?_⟩⟩;intro g m S w a j i k A Q K O;refine hwant Q K g m S a w I d i ?_;have y:=N j i;have hok:=Sl hap j (nid:=nid) (A 0 (by omega)) (ρ:=qB ap s.env) (cρ:=a.eval) (fun b B hb=>by
      split at hb
      ·rename_i hm;exact k b (iV.1 hm) B hb
      ·cases hb) o y (dec:=fun| .tmp t=>aG dec t|_=>none) (fun x X b hb=>by
      split at hb
      ·rename_i t;have:=i t (List.mem_append.2 (.inl (Ew (by simpa using X))));rw [hd t b hb] at this;simp only [VR,PR] at this;exact this
      ·cases hb) hem l hbs
    obtain ⟨nx,m',w',z,D,L,G⟩:=hok;unfold Oper.wp;rw [z];rcases G with ⟨cv,rfl,G⟩|⟨rfl,rfl⟩
    ·exact O cv m' S w' [] D L (hfit _ _ _ _ G) (by simp [iw])
    ·exact O undef m' S w' [] D L (hfit _ _ _ _ (by simp only [VR])) (by simp [iw])
end
end AM
namespace AM
open Go
theorem qJ:∀ {hp:Hp} {b:Nat} {B:bi},aG hp b=some B→b<iC hp
 | [],b,B,h=>by simp [aG] at h
 | (c,C)::r,b,B,h=>by
  simp only [aG] at h;simp only [iC];split at h
  ·rename_i d;have d:=aO d;subst d;split
   ·rename_i a;exact fU a
   ·omega
  ·have f:=qJ h;split
   ·exact f
   ·rename_i a;have:¬ c<iC r:=fun e=>by
     have:Xjb c (iC r)=true:=by
      show Nat.ble (c+1) (iC r)=true;exact Xq4 e
     rw [this] at a;cases a
    omega
theorem En:∀ {l:Hp} {b:Nat} {B:bi},aG l b=some B→b ∈ l.map (·.1)
 | [],b,B,h=>by simp [aG] at h
 |(c,C)::r,b,B,h=>by
  simp only [aG] at h;split at h
  ·rename_i a;simp [aO a]
  ·simp [En h]
structure FR (ap:AP) (env:iO) (hp:Hp) (dfs:List (Nat × List AV)) (nt:Nat) (m:a_) (S:aU) (w:World) (a:Act):Prop where
 srel:cZ ap (aG hp) m S w
 env:∀ t,VR (aG hp) m S (env.get t) (a.tmps.getD t undef)
 dfs:iw (aG hp) m S dfs a.defers
 size:a.tmps.size=nt
theorem Lm (a:Act) (d:Option Nat) (v:Value):(a.put d v).tmps.size=a.tmps.size:=by
 cases d<;>simp [Act.put]
theorem EL (a:Act) (d:Option Nat) (v:Value):(a.put d v).defers=a.defers:=by
 cases d<;>simp [Act.put]
theorem EN (a:Act) (d:Option Nat) (v:Value) {t:Nat} (h:d ≠ some t):(a.put d v).tmps.getD t undef=a.tmps.getD t undef:=by
 cases d with
 |none=>rfl
 |some d=>
  have b:d ≠ t:=fun e=>h (by rw [e])
  simp only [Act.put,Array.getD_eq_getD_getElem?];rw [Array.getElem?_setIfInBounds_ne b]
theorem EM (a:Act) (d:Nat) (v:Value) (h:d<a.tmps.size):(a.put (some d) v).tmps.getD d undef=v:=by
 simp only [Act.put,Array.getD_eq_getD_getElem?];rw [Array.getElem?_setIfInBounds_self_of_lt h];rfl
theorem ji {env:iO} {d:Nat} {v:AV}:(qf env (some d) v).get d=v:=by simp [qf,iO.get,aG]
theorem yG {env:iO} {dst:Option Nat} {v:AV} {t:Nat} (h:dst ≠ some t):(qf env dst v).get t=env.get t:=by
 cases dst with
 |none=>rfl
 | some d=>
  have a:Xqo d t=false:=by
   cases b:Xqo d t with
   |false=>rfl
   |true=>exact absurd (by rw [aO b]) h
  simp [qf,iO.get,aG,a]
section
variable {P:Program} {ap:AP} {H:dw}
theorem FR.put {env:iO} {hp ups:Hp} {dfs e:List (Nat × List AV)} {nt:Nat} {m b:a_} {S S':aU} {w w':World} {a:Act} (h:FR ap env hp dfs nt m S w a) {dst:Option Nat} (hd:∀ d,dst=some d→d<nt) {v:AV} {cv:Value} {c:List Deferred}
  (h1:cZ ap (dW (aG hp) ups) b S' w') (h2:Fr (aG hp) m S w (dW (aG hp) ups) b S' w') (h3:VR (dW (aG hp) ups) b S' v cv) (h4:iw (dW (aG hp) ups) b S' e c):
  FR ap (qf env dst v) (ups++hp) (e++dfs) nt b S' w' ({a with defers:=c++a.defers}.put dst cv):=by
 rw [kM] at h1 h2 h3 h4;refine ⟨h1, ?_, ?_, ?_⟩
 ·intro t;by_cases ht:dst=some t
  ·subst ht;rw [ji,EM _ _ _ (by have:=hd t rfl;have:=h.size;simpa [this] using hd t rfl)];exact h3
  ·rw [yG ht,EN _ _ _ ht];exact oM h2.sle h2.ge _ (h.env t)
 ·rw [EL];exact Ae h4 (vg h2.sle h2.ge h.dfs)
 ·rw [Lm];exact h.size
theorem FR.still {env:iO} {hp ups:Hp} {dfs:List (Nat × List AV)} {nt:Nat} {m b:a_} {S S':aU} {w w':World} {a:Act} (h:FR ap env hp dfs nt m S w a)
  (h1:cZ ap (dW (aG hp) ups) b S' w') (h2:Fr (aG hp) m S w (dW (aG hp) ups) b S' w'):FR ap env (ups++hp) dfs nt b S' w' a:=by
 rw [kM] at h1 h2;exact ⟨h1,fun t=>oM h2.sle h2.ge _ (h.env t),vg h2.sle h2.ge h.dfs,h.size⟩
def xZ (ap:AP) (hp0:Hp) (m:a_) (S:aU) (w:World) (nt:Nat) (env:iO) (hp:Hp) (dfs:List (Nat × List AV)) (Q:Exit→Act→World→Prop):Option AV→Prop
 |none=> ∀ m' S' w' a',Fr (aG hp0) m S w (aG hp) m' S' w'→FR ap env hp dfs nt m' S' w' a'→Q .normal a' w'
 |some v=> ∀ m' S' w' a' cv,Fr (aG hp0) m S w (aG hp) m' S' w'→FR ap env hp dfs nt m' S' w' a'→VR (aG hp) m' S' v cv→Q (.panic [{v:=cv,recovered:=false}]) a' w'
theorem tu {ops:Array Oper} {Q:Exit→Act→World→Prop} {i:Nat} {o:Oper} (b:ops[i]? =some o) (rest:List Nat) (a:Act) (w:World):wpOps P ops Q (i::rest) a w↔wpO P ops Q o (wpOps P ops Q rest) a w:=by
 simp only [wpOps,b,wpO]
theorem N9 {hp ups:Hp} {nid:Nat} (e:∀ b B,aG hp b=some B→b<nid) (d:(ups.map (·.1)).all (fun x=>Xjb x (nid+4))=true):∀ b B,aG (ups++hp) b=some B→b<nid+4:=by
 intro b B a;rw [gZ] at a;split at a
 ·rename_i x f;have c:b ∈ ups.map (·.1):=En f;exact fU (List.all_eq_true.1 d b c)
 ·have:=e b B a;omega
theorem nD (C:iM P ap) (hH:jX P ap H) {ops:List Oper} {nt:Nat} (M:∀ o ∈ ops,∀ d,o.dst=some d→d<nt):∀ (l:List Oper) (i nid:Nat) (s s':RS) (p:Option AV) (c c':Cx),sF ap H ops l nid s c= .ok (s',p) c'→c'.Ok→
  c.Ok∧(s.md= .dead→tK s.dec s.env→l=ops.drop i→(∀ b B,aG s.hp b=some B→b<nid)→
  s'.md= .dead∧∀ m S w a,FR ap s.env s.hp s.dfs nt m S w a→∀ Q,xZ ap s.hp m S w nt s'.env s'.hp s'.dfs Q p→wpOps P ops.toArray Q (List.range' i l.length) a w)
 | [],i,nid,s,s',p,c,c',h,hc=>by
  cases h;exact ⟨hc,fun e _ _ _=> ⟨e,fun m S w a y Q u=>u m S w a (Fr.refl _ _ _ _) y⟩⟩
 | o ::r,i,nid,s,s',p,c,c',h,hc=>by
  simp only [sF] at h;obtain ⟨⟨s1,p1⟩,c1,e1,h⟩:=R.bind_ok h;dsimp only at h;have hfresh:(∀ b B,aG s.hp b=some B→b<nid)→∀ j,j<4→aG s.hp (nid+j)=none:=by
   intro G j _;cases hb:aG s.hp (nid+j) with
   |none=>rfl
   |some B=>have:=G _ _ hb;omega
  have z:o::r=ops.drop i→ops[i]? =some o∧ops.toArray[i]? =some o∧r=ops.drop (i+1)∧∀ d,o.dst=some d→d<nt:=by
   intro I;have n:ops[i]? =some o:=by
    have:(ops.drop i)[0]? =some o:=by rw [← I];rfl
    simpa using this
   have O:r=ops.drop (i+1):=by
    have:r=(ops.drop i).drop 1:=by rw [← I];rfl
    rw [this,Xjy]
   exact ⟨n,by simpa using n,O,M o (Xqr n)⟩
  cases p1 with
  |some v=>
   cases h;obtain ⟨E,F⟩:=sD C hH e1 hc;refine ⟨E,fun e q I G=> ?_⟩;obtain ⟨n,f,O,hd⟩:=z I;obtain ⟨v1,rb,ups,df,hs⟩:=F e q;refine ⟨by rw [hs.md,e],fun m S w a y Q u=> ?_⟩;rw [ν,Xvt,tu f];refine hs.sem (aG s.hp) m S w a y.srel (fun t _=>y.env t) (fun b _ B hB=>hB) (hfresh G) Q _ ?_;intro cv m' S' w' Y x N;have hst:=y.still Y x;rw [kM] at x N;obtain ⟨k,rfl⟩:=hs.envp (by simp);have u:=u m' S' w' a cv;rw [hs.hp,hs.dfs,k] at u;exact u x hst N
  | none=>
   dsimp only at h;cases A:s1.feet with
   |nil=>rw [A] at h;cases h
   | cons ft fr=>
    rw [A] at h;dsimp only at h;split at h
    ·rename_i K;obtain ⟨T,W⟩:=nD C hH M r (i+1) (nid+4) s1 s' p c1 c' h hc;obtain ⟨E,F⟩:=sD C hH e1 T;refine ⟨E,fun e q I G=> ?_⟩;obtain ⟨n,f,O,hd⟩:=z I;obtain ⟨v1,rb,ups,df,hs⟩:=F e q;have D:=hs.feet rfl;rw [A] at D;simp only [List.cons.injEq] at D;rw [D.1] at K;obtain ⟨J,W⟩:=W (by rw [hs.md,e]) (hs.dec rfl) O (by rw [hs.hp];exact N9 G K);refine ⟨J,fun m S w a y Q u=> ?_⟩;rw [ν,Xvt,tu f];refine hs.sem (aG s.hp) m S w a y.srel (fun t _=>y.env t) (fun b _ B hB=>hB) (hfresh G) Q _ ?_;intro cv m' S' w' ds Y x N h4;have L:=y.put hd Y x N h4;rw [kM] at x;have k:=hs.env rfl;rw [← k,← hs.hp,← hs.dfs] at L;refine W m' S' w' _ L Q ?_;rw [← hs.hp] at x;cases p with
     |none=>exact fun U S2 X Z h5 V=>u U S2 X Z (x.trans h5) V
     |some v=>exact fun U S2 X Z cv2 h5 V h7=>u U S2 X Z cv2 (x.trans h5) V h7
    ·cases h
end
end AM
namespace AM
open Go
structure kE where
 dst:Option Nat
 v:AV
 rt:List Nat
 rb:List Nat
 ups:List (Nat × bi)
def PK (d:Option Nat):List Nat:=match d with|some d=> [d]|none=> []
def kE.foot (r:kE):wY:={rt:=r.rt,wt:=PK r.dst,rb:=r.rb,wb:=r.ups.map (·.1)}
def mD (D:Nat→Bool):Nat→iO→List kE→iO
 |_,e,[]=>e
 |j,e,r::rs=>mD D (j+1) (match D j with|true=>qf e r.dst r.v|false=>e) rs
def oI (D:Nat→Bool):Nat→Hp→List kE→Hp
 |_,h,[]=>h
 |j,h,r::rs=>oI D (j+1) (match D j with|true=>r.ups++h|false=>h) rs
theorem nO {D D':Nat→Bool} {t:Nat}:∀ (rs:List kE) (j:Nat) (e e':iO),e.get t=e'.get t→(∀ k r,rs[k]? =some r→r.dst=some t→D (j+k)=D' (j+k))→(mD D j e rs).get t=(mD D' j e' rs).get t
 | [],_,_,_,he,_=>he
 | r::rs,j,e,e',he,h=>by
  simp only [mD];refine nO rs (j+1) _ _ ?_ fun k a b hd=> ?_
  ·by_cases hd:r.dst=some t
   ·have h0:=h 0 r rfl hd;rw [Xq5] at h0;rw [h0];cases D' j with
    |true=>simp only [hd,ji]
    |false=>exact he
   ·cases D j<;>cases D' j<;>simp only [yG hd,he]
  ·have:=h (k+1) a (by simpa using b) hd;rwa [show j+(k+1)=j+1+k by omega] at this
theorem Jb:∀ {l:Hp} {b:Nat},b ∉ l.map (·.1)→aG l b=none:=by
 intro l b h;cases a:aG l b with
 |none=>rfl
 |some B=>exact absurd (En a) h
theorem rF {ups hp:Hp} {b:Nat} (h:b ∉ ups.map (·.1)):aG (ups++hp) b=aG hp b:=by
 rw [gZ,Jb h]
theorem uC:∀ {l:Hp} {b:Nat},b ∈ l.map (·.1)→∃ B,aG l b=some B
 | [],b,h=>by simp at h
 | (c,C)::r,b,h=>by
  simp only [aG];cases a:Xqo c b with
  |true=>exact ⟨C,rfl⟩
  |false=>
   simp only [Xqf,Xz3] at h;rcases h with h|h
   ·subst h;simp at a
   ·exact uC h
theorem yL {ups hp hp':Hp} {b:Nat} (h:b ∈ ups.map (·.1)):aG (ups++hp) b=aG (ups++hp') b:=by
 obtain ⟨B,a⟩:=uC h;rw [gZ,gZ,a]
theorem qE {D D':Nat→Bool} {b:Nat}:∀ (rs:List kE) (j:Nat) (h h':Hp),aG h b=aG h' b→(∀ k r,rs[k]? =some r→b ∈ r.ups.map (·.1)→D (j+k)=D' (j+k))→aG (oI D j h rs) b=aG (oI D' j h' rs) b
 | [],_,_,_,he,_=>he
 | r::rs,j,e,e',he,h=>by
  simp only [oI];refine qE rs (j+1) _ _ ?_ fun k a c hd=> ?_
  ·by_cases hd:b ∈ r.ups.map (·.1)
   ·have h0:=h 0 r rfl hd;rw [Xq5] at h0;rw [h0];cases D' j with
    |true=>exact yL hd
    |false=>exact he
   ·cases D j<;>cases D' j<;>simp only [rF hd,he]
  ·have:=h (k+1) a (by simpa using c) hd;rwa [show j+(k+1)=j+1+k by omega] at this
theorem vJ:∀ (a:List kE) (j:Nat) (e:iO) {D:Nat→Bool},(∀ k,k<a.length→D (j+k)=false)→mD D j e a=e
 | [],_,_,_,_=>rfl
 |r::a,j,e,D,h=>by
  have h0:=h 0 (by simp);rw [Xq5] at h0;simp only [mD,h0];exact vJ a (j+1) e fun k b=>by have:=h (k+1) (by simpa using b);rwa [show j+(k+1)=j+1+k by omega] at this
theorem nT:∀ (a:List kE) (j:Nat) (e:Hp) {D:Nat→Bool},(∀ k,k<a.length→D (j+k)=false)→oI D j e a=e
 | [],_,_,_,_=>rfl
 |r::a,j,e,D,h=>by
  have h0:=h 0 (by simp);rw [Xq5] at h0;simp only [oI,h0];exact nT a (j+1) e fun k b=>by have:=h (k+1) (by simpa using b);rwa [show j+(k+1)=j+1+k by omega] at this
def oH (e:iO) (rs:List kE):iO:=mD (fun _=>true) 0 e rs
def DU (h:Hp) (rs:List kE):Hp:=oI (fun _=>true) 0 h rs
theorem xw (D:Nat→Bool):∀ (rs:List kE) (j d:Nat) (e:iO),mD D (j+d) e rs=mD (fun k=>D (k+d)) j e rs
 | [],_,_,_=>rfl
 |r::rs,j,d,e=>by
  simp only [mD];rw [show j+d+1=j+1+d by omega];exact xw D rs (j+1) d _
theorem zF (D:Nat→Bool):∀ (rs:List kE) (j d:Nat) (e:Hp),oI D (j+d) e rs=oI (fun k=>D (k+d)) j e rs
 | [],_,_,_=>rfl
 |r::rs,j,d,e=>by
  simp only [oI];rw [show j+d+1=j+1+d by omega];exact zF D rs (j+1) d _
theorem vK (e:iO) (r:kE) (a:List kE):oH e (r::a)=oH (qf e r.dst r.v) a:=by
 simp only [oH,mD];exact xw (fun _=>true) a 0 1 _
theorem yJ (h:Hp) (r:kE) (a:List kE):DU h (r::a)=DU (r.ups++h) a:=by
 simp only [DU,oI];exact zF (fun _=>true) a 0 1 _
theorem yD:∀ (a:List kE) (k:Nat) (e:iO),mD (fun j=>decide (j<k)) 0 e a=oH e (a.take k)
 |a,0,e=>by
  simp only [Xv9];exact vJ a 0 e fun _ _=>by simp
 | [],k+1,e=>rfl
 |r::a,k+1,e=>by
  simp only [Xx1,vK,mD];rw [show decide (0<k+1)=true by simp];dsimp only;rw [← yD a k];have:=xw (fun j=>decide (j<k+1)) a 0 1 (qf e r.dst r.v);rw [this];congr 1;funext j;simp
theorem NU:∀ (a:List kE) (k:Nat) (e:Hp),oI (fun j=>decide (j<k)) 0 e a=DU e (a.take k)
 |a,0,e=>by
  simp only [Xv9];exact nT a 0 e fun _ _=>by simp
 | [],k+1,e=>rfl
 |r::a,k+1,e=>by
  simp only [Xx1,yJ,oI];rw [show decide (0<k+1)=true by simp];dsimp only;rw [← NU a k];have:=zF (fun j=>decide (j<k+1)) a 0 1 (r.ups++e);rw [this];congr 1;funext j;simp
theorem GV (e:iO):∀ (b:List kE) (k:Nat) (r:kE),b[k]? =some r→oH e (b.take (k+1))=qf (oH e (b.take k)) r.dst r.v:=by
 intro b
 induction b generalizing e with
 |nil=>intro k r h;simp at h
 | cons a b ih=>
  intro k r h;cases k with
  |zero=>simp at h;subst h;rfl
  |succ k=>
   simp only [Xx1,vK];exact ih _ k r (by simpa using h)
theorem U_ (e:Hp):∀ (b:List kE) (k:Nat) (r:kE),b[k]? =some r→DU e (b.take (k+1))=r.ups++DU e (b.take k):=by
 intro b
 induction b generalizing e with
 |nil=>intro k r h;simp at h
 | cons a b ih=>
  intro k r h;cases k with
  |zero=>simp at h;subst h;rfl
  |succ k=>
   simp only [Xx1,yJ];exact ih _ k r (by simpa using h)
section
variable {P:Program} {ap:AP} {H:dw}
structure Uk (P:Program) (ap:AP) (ops:List Oper) (i nid:Nat) (s s':RS) (recs:List kE):Prop where
 env:s'.env=oH s.env recs
 hp:s'.hp=DU s.hp recs
 feet:s'.feet=(recs.map kE.foot).reverse++s.feet
 dle:s.dfs.length≤s'.dfs.length
 bound:∀ (k:Nat) (r:kE),recs[k]? =some r→∀ b ∈ r.ups.map (·.1),b<nid+4*k+4
 sem:s'.dfs.length=s.dfs.length→s'.dfs=s.dfs∧∀ (k:Nat) (r:kE),recs[k]? =some r→∃ o,ops[i+k]? =some o∧r.dst=o.dst∧Ij P ap ops.toArray o (nid+4*k) (oH s.env (recs.take k)) (DU s.hp (recs.take k)) r.rt r.rb r.v r.ups [] none
theorem Xn (n:iM P ap) (L:jX P ap H) {ops:List Oper}:∀ (l:List Oper) (i nid:Nat) (s s':RS) (c c':Cx),sF ap H ops l nid s c= .ok (s',none) c'→c'.Ok→
  c.Ok∧(s.md= .dead→tK s.dec s.env→l=ops.drop i→s'.md= .dead∧∃ recs:List kE,recs.length=l.length∧Uk P ap ops i nid s s' recs)
 | [],i,nid,s,s',c,c',h,hc=>by
  cases h;exact ⟨hc,fun a _ _=> ⟨a,[],rfl,⟨rfl,rfl,rfl,Θ _,fun k r h=>by simp at h,fun _=> ⟨rfl,fun k r h=>by simp at h⟩⟩⟩⟩
 | o :: r,i,nid,s,s',c,c',h,hc=>by
  simp only [sF] at h;obtain ⟨⟨z,O⟩,N,X,h⟩:=R.bind_ok h;dsimp only at h;cases O with
  |some v=>cases h
  | none=>
   dsimp only at h;cases d:z.feet with
   |nil=>rw [d] at h;cases h
   | cons ft fr=>
    rw [d] at h;dsimp only at h;split at h
    ·rename_i x;obtain ⟨A,Q⟩:=Xn n L r (i+1) (nid+4) z s' N c' h hc;obtain ⟨F,I⟩:=sD n L X A;refine ⟨F,fun a y K=> ?_⟩;have G:ops[i]? =some o:=by
      have:(ops.drop i)[0]? =some o:=by rw [← K];rfl
      simpa using this
     have W:r=ops.drop (i+1):=by
      have:r=(ops.drop i).drop 1:=by rw [← K];rfl
      rw [this,Xjy]
     obtain ⟨v1,rb,ups,B,hs⟩:=I a y;have e:=hs.feet rfl;rw [d] at e;simp only [List.cons.injEq] at e;rw [e.1] at x;obtain ⟨p,recs,u,f⟩:=Q (by rw [hs.md,a]) (hs.dec rfl) W;refine ⟨p,{dst:=o.dst,v:=v1,rt:=uX o.op.operands.toList++jy ops o,rb:=rb,ups:=ups}::recs,by simp [u], ?_⟩;have E:s.dfs.length≤z.dfs.length:=by rw [hs.dfs];simp
     refine ⟨?_, ?_, ?_,Xxm E f.dle, ?_, ?_⟩
     ·rw [f.env,vK,hs.env rfl]
     ·rw [f.hp,yJ,hs.hp]
     ·rw [f.feet,hs.feet rfl];simp [kE.foot,PK,II];cases o.dst<;>rfl
     ·intro k q j b M;cases k with
      |zero=>
       simp at j;subst j;exact fU (List.all_eq_true.1 x b M)
      |succ k=>
       have:=f.bound k q (by simpa using j) b M;omega
     ·intro he;have Y:=f.dle;obtain ⟨D,t⟩:=f.sem (by omega);have C:B= []:=by
       have:B.length=0:=by
        have:=hs.dfs;have Z:z.dfs.length=B.length+s.dfs.length:=by rw [this];simp
        omega
       exact Xxk this
      subst C;refine ⟨by rw [D,hs.dfs];rfl, ?_⟩;intro k q j;cases k with
      |zero=>
       simp at j;subst j;exact ⟨o,G,rfl,hs.sem⟩
      |succ k=>
       obtain ⟨T,U,V,J⟩:=t k q (by simpa using j);refine ⟨T,by rw [show i+(k+1)=i+1+k by omega];exact U,V, ?_⟩;rw [Xx1,vK,yJ];rw [hs.env rfl,hs.hp] at J;rw [show nid+4*(k+1)=nid+4+4*k by omega];exact J
    ·cases h
end
end AM
namespace AM
open Go
theorem DF {md:Region.Mode} (b:Array Nat) (i:Nat):∀ (l:List Edge) (s:Nat),(l.foldl (fun s e=>if Region.binds md e then s|||2^e.on|||b.getD e.on 0 else s) s).testBit i=true→
  s.testBit i=true∨∃ e ∈ l,Region.binds md e=true∧(i=e.on∨(b.getD e.on 0).testBit i=true)
 | [],s,h=> .inl h
 | e::r,s,h=>by
  simp only [Xjn] at h;rcases DF b i r _ h with a|⟨e',a,d⟩
  ·split at a
   ·rename_i c;simp only [Nat.testBit_or,Xwh,Nat.testBit_two_pow,decide_eq_true_eq] at a;rcases a with (a|a)|a
    ·exact .inl a
    ·exact .inr ⟨e,by simp,c,.inl a.symm⟩
    ·exact .inr ⟨e,by simp,c,.inr a⟩
   ·exact .inl a
  ·exact .inr ⟨e',by simp [a],d⟩
def oP (acc:Array Nat) (o:Oper):Array Nat:=acc.push (o.after.toList.foldl (fun s e=>if Region.binds .any e then s|||2^e.on|||acc.getD e.on 0 else s) 0)
theorem DI (a:Array Nat) (x:Nat):(a.push x).getD a.size 0=x:=by simp [Array.getD_eq_getD_getElem?]
def BH (ops:List Oper) (D:Nat→Bool):Prop:=∀ (k:Nat) (o:Oper),ops[k]? =some o→D k=true→∀ e ∈ o.after,Region.binds .any e=true→D e.on=true
def aa1 (D:Nat→Bool) (acc:Array Nat):Prop:=∀ k,D k=true→∀ i,(acc.getD k 0).testBit i=true→D i=true
theorem Ph {ops:List Oper} {D:Nat→Bool} (j:BH ops D):∀ (l:List Oper) (acc:Array Nat),aa1 D acc→l=ops.drop acc.size→aa1 D (l.foldl oP acc)
 | [],acc,h,_=>h
 | o ::r,acc,h,hl=>by
  simp only [Xjn];have d:ops[acc.size]? =some o:=by
   have:(ops.drop acc.size)[0]? =some o:=by rw [← hl];rfl
   simpa using this
  refine Ph j r _ ?_ ?_
  ·intro k n i a;by_cases hks:k<acc.size
   ·refine h k n i ?_;simpa [oP,Array.getD_eq_getD_getElem?,Array.getElem?_push,Nat.ne_of_lt hks] using a
   ·by_cases hke:k=acc.size
    ·subst hke;rw [oP,DI] at a;rcases DF acc i _ _ a with b|⟨e,b,p,c⟩
     ·simp at b
     ·have f:=j _ o d n e (by simpa using b) p;rcases c with rfl|c
      ·exact f
      ·exact h _ f i c
    ·have:(oP acc o)[k]? =none:=by
      simp only [oP];rw [Array.getElem?_eq_none];simp;omega
     simp [Array.getD_eq_getD_getElem?,this] at a
  ·have:(oP acc o).size=acc.size+1:=by simp [oP]
   rw [this,← Xjy,← hl];rfl
theorem QV (ops:List Oper):Region.before ops.toArray=ops.foldl oP #[]:=by
 simp only [Region.before,← Array.foldl_toList];rfl
theorem pM {ops:List Oper} {D:Nat→Bool} (c:BH ops D) {k i:Nat} (a:D k=true) (h:((Region.before ops.toArray).toList.getD k 0).testBit i=true):D i=true:=by
 have:=Ph c ops #[] (fun k _ i b=>by simp at b) (by simp);rw [← QV] at this;refine this k a i ?_;rw [ξ] at h;rw [Array.getD_eq_getD_getElem?];simpa using h
theorem qG {a b:List Nat} {x:Nat} (c:x ∈ a) (d:x ∈ b):Et a b=true:=List.any_eq_true.2 ⟨x,c,iV.2 d⟩
structure Ii (n:Nat) (bef:Nat→Nat→Bool) (recs:List kE):Prop where
 ok:∀ i j a b,recs[i]? =some a→recs[j]? =some b→i<j→(kG a.foot b.foot=true∨∃ x ∈ b.ups.map (·.1),n+4*i≤x∧x<n+4*i+4)→bef j i=true
theorem EG {n:Nat} {d:List Nat} {recs:List kE} (h:uK n d (recs.map kE.foot).reverse=true):Ii n (fun j i=>(d.getD j 0).testBit i) recs:=by
 refine ⟨fun i j a b k o e f=> ?_⟩;simp only [uK,List.reverse_reverse,Xzp] at h;have c:=h (a.foot,i) (by rw [Xj2];simp [k]) (b.foot,j) (by rw [Xj2];simp [o]);simp only [Xwh,Xqm] at c;rcases c with (c|c)|c
 ·have:Xjb i j=true:=Xq4 e;rw [this] at c;cases c
 ·exfalso;rw [Bool.or_eq_false_iff] at c;rcases f with f|⟨x,l,p,q⟩
  ·rw [f] at c;cases c.1
  ·have:=List.any_eq_false.1 c.2 x l;simp only [σ,not_and] at this;exact this (Xq4 p) (Xq4 q)
 ·exact c
section
variable {P:Program} {ap:AP} {H:dw}
theorem FR.congr {env b:iO} {hp hp':Hp} {dfs:List (Nat × List AV)} {nt:Nat} {m:a_} {S:aU} {w:World} {a:Act} (h:FR ap env hp dfs nt m S w a) (d:∀ t,b.get t=env.get t) (c:aG hp'=aG hp):FR ap b hp' dfs nt m S w a:=by
 refine ⟨c ▸ h.srel,fun t=> ?_,c ▸ h.dfs,h.size⟩;rw [d,c];exact h.env t
def oV (listed:Array Bool):Nat→Bool:=fun k=>listed.getD k false
theorem Yk {listed:Array Bool} {i:Nat} (a:i<listed.size) (k:Nat):oV (listed.setIfInBounds i true) k=(if k=i then true else oV listed k):=by
 simp only [oV,Array.getD_eq_getD_getElem?];by_cases h:k=i
 ·subst h;rw [if_pos rfl,Array.getElem?_setIfInBounds_self_of_lt a];rfl
 ·rw [if_neg h,Array.getElem?_setIfInBounds_ne (fun e=>h e.symm)]
def BU (n:Nat) (D:Nat→Bool):Nat:=((Xq2 n).filter fun i=> !D i).length
theorem AO {D D':Nat→Bool} {i:Nat} (c:D i=false) (b:∀ k,D' k=if k=i then true else D k):∀ (l:List Nat),l.Nodup→i ∈ l→(l.filter fun k=> !D k).length=(l.filter fun k=> !D' k).length+1
 | [],_,h=>by simp at h
 | a::r,hn,h=>by
  rw [Xv3] at hn;by_cases ha:a=i
  ·subst ha;have hsame:r.filter (fun k=> !D k)=r.filter (fun k=> !D' k):=by
    refine List.filter_congr fun k d=> ?_
    have:k ≠ a:=fun e=>hn.1 (e ▸ d)
    rw [b k,if_neg this]
   have j:D' a=true:=by rw [b a,if_pos rfl]
   simp [c,j,hsame]
  ·have f:=AO c b r hn.2 (by simpa [Ne.symm ha] using h);have:D' a=D a:=by rw [b a,if_neg ha]
   simp only [List.filter_cons,this];split<;>simp [f]
theorem Wx {ops:List Oper} (h:qZ ops=true) {listed:Array Bool} (l:listed.size=ops.length) (b:Region.ready .any ops.toArray listed= []):∀ k,k<ops.length→oV listed k=true:=by
 intro k
 induction k using Nat.strongRecOn with
 | _ k ih=>
  intro c;cases hd:oV listed k with
  |true=>rfl
  | false=>
   exfalso;have a:k ∈ Region.ready .any ops.toArray listed:=by
    simp only [Region.ready,Xw5,Yqr,Xx8];refine ⟨c, ?_⟩;have o:listed.getD k true=false:=by
     simp only [oV,Array.getD_eq_getD_getElem?] at hd ⊢;rw [Array.getElem?_eq_getElem (by omega)] at hd ⊢;simpa using hd
    have n:ops.toArray[k]? =some ops[k]:=by simp [c]
    rw [o,n];simp only [Bool.not_false,Bool.true_and,Xjf,Xwx,Array.all_eq_true',Xwh,Xqm];intro e i;cases d:Region.binds .any e with
    |false=>exact .inl rfl
    |true=>
     right;simp only [qZ,Xzp] at h;have f:=h (ops[k],k) (by rw [Xj2];simp [c]) e (by simpa using i);rw [d] at f;simp only [Xwg,Xzd] at f;have j:=fU f;exact ih e.on j (by omega)
   rw [b] at a;cases a
theorem ER {ops:List Oper} {listed:Array Bool} (j:listed.size=ops.length) {i:Nat} (h:i ∈ Region.ready .any ops.toArray listed):∃ o,ops[i]? =some o∧oV listed i=false∧i<ops.length∧∀ e ∈ o.after,Region.binds .any e=true→oV listed e.on=true:=by
 simp only [Region.ready,Xw5,Yqr,Xx8,σ,Xqm] at h;obtain ⟨a,c,b⟩:=h;have k:ops.toArray[i]? =some ops[i]:=by simp [a]
 rw [k] at b;simp only [Xjf,Xwx,Array.all_eq_true',Xwh,Xqm] at b;refine ⟨ops[i],π a, ?_,a,fun e d f=> ?_⟩
 ·simp only [oV,Array.getD_eq_getD_getElem?] at c ⊢;rw [Array.getElem?_eq_getElem (by omega)] at c ⊢;simpa using c
 ·rcases b e d with h|h
  ·rw [f] at h;cases h
  ·exact h
end
end AM
namespace AM
open Go
theorem Uz {a b:wY} {x:Nat} (h:x ∈ a.wt) (c:x ∈ b.rt):kG a b=true:=by simp [kG,qG h c]
theorem Kr {a b:wY} {x:Nat} (h:x ∈ a.wt) (c:x ∈ b.wt):kG a b=true:=by simp [kG,qG h c]
theorem Uy {a b:wY} {x:Nat} (h:x ∈ a.rt) (c:x ∈ b.wt):kG a b=true:=by simp [kG,qG h c]
theorem QZ {a b:wY} {x:Nat} (h:x ∈ a.wb) (c:x ∈ b.rb):kG a b=true:=by simp [kG,qG h c]
theorem GI {a b:wY} {x:Nat} (h:x ∈ a.wb) (c:x ∈ b.wb):kG a b=true:=by simp [kG,qG h c]
theorem QY {a b:wY} {x:Nat} (h:x ∈ a.rb) (c:x ∈ b.wb):kG a b=true:=by simp [kG,qG h c]
theorem uD {d:Option Nat} {t:Nat} (h:d=some t):t ∈ PK d:=by subst h;simp [PK]
section
variable {P:Program} {ap:AP} {H:dw}
structure abK (ap:AP) (ops:List Oper) (recs:List kE) (e0:iO) (hp0:Hp) (dfs:List (Nat × List AV)) (nt:Nat) (m0:a_) (S0:aU) (w0:World) (listed:Array Bool) (m:a_) (S:aU) (w:World) (a:Act):Prop where
 sz:listed.size=ops.length
 cl:BH ops (oV listed)
 fr:Fr (aG hp0) m0 S0 w0 (aG (oI (oV listed) 0 hp0 recs)) m S w
 rel:FR ap (mD (oV listed) 0 e0 recs) (oI (oV listed) 0 hp0 recs) dfs nt m S w a
theorem Kz {ops:List Oper} {recs:List kE} {s:RS} {z nt:Nat} (hnt:∀ o ∈ ops,∀ d,o.dst=some d→d<nt) (hlen:recs.length=ops.length)
  (hbound:∀ (k:Nat) (r:kE),recs[k]? =some r→∀ b ∈ r.ups.map (·.1),b<z+4*k+4)
  (hsem:∀ (k:Nat) (r:kE),recs[k]? =some r→∃ o,ops[k]? =some o∧r.dst=o.dst∧∀ (D:Nat→Bool) m S w (a:Act),cZ ap (aG (oI D 0 s.hp recs)) m S w→(∀ t ∈ r.rt,VR (aG (oI D 0 s.hp recs)) m S ((oH s.env (recs.take k)).get t) (a.tmps.getD t undef))→
   (∀ b ∈ r.rb,aG (DU s.hp (recs.take k)) b=aG (oI D 0 s.hp recs) b)→(∀ j,j<4→aG (oI D 0 s.hp recs) (z+4*k+j)=none)→(∀ j,((Region.before ops.toArray).toList.getD j 0).testBit k=true→D j=false)→
   ∀ (Q:Exit→Act→World→Prop) (K:Act→World→Prop),aa0 ap o (aG (oI D 0 s.hp recs)) m S w a r.v r.ups [] Q K none→wpO P ops.toArray Q o K a w)
  (hord:Ii z (fun j i=>((Region.before ops.toArray).toList.getD j 0).testBit i) recs) (hback:qZ ops=true) (hn0:∀ b B,aG s.hp b=some B→b<z) {m0:a_} {S0:aU} {w0:World} {Q:Exit→Act→World→Prop}
  (hQ:∀ m S w a,Fr (aG s.hp) m0 S0 w0 (aG (DU s.hp recs)) m S w→FR ap (oH s.env recs) (DU s.hp recs) s.dfs nt m S w a→Q .normal a w):
  ∀ (l:Nat) (listed:Array Bool) (m:a_) (S:aU) (w:World) (a:Act),abK ap ops recs s.env s.hp s.dfs nt m0 S0 w0 listed m S w a→BU ops.length (oV listed)≤l→wpAny P .any ops.toArray Q l listed a w:=by
 have hdone:∀ (listed:Array Bool) (m:a_) (S:aU) (w:World) (a:Act),abK ap ops recs s.env s.hp s.dfs nt m0 S0 w0 listed m S w a→(∀ k,k<ops.length→oV listed k=true)→Q .normal a w:=by
  intro listed m S w a p v;have hh:∀ b,aG (DU s.hp recs) b=aG (oI (oV listed) 0 s.hp recs) b:=fun b=>
   qE recs 0 _ _ rfl fun k r c _=>by rw [v (0+k) (by have:=(List.getElem?_eq_some_iff.1 c).1;omega)]
  have Z:∀ t,(oH s.env recs).get t=(mD (oV listed) 0 s.env recs).get t:=fun t=>
   nO recs 0 _ _ rfl fun k r c _=>by rw [v (0+k) (by have:=(List.getElem?_eq_some_iff.1 c).1;omega)]
  have G:=funext hh;exact hQ m S w a (G ▸ p.fr) (p.rel.congr Z G)
 intro l
 induction l with
 | zero=>
  intro listed m S w a p hm;have v:∀ k,k<ops.length→oV listed k=true:=by
   intro k c;cases hd:oV listed k with
   |true=>rfl
   |false=>
    have O:k ∈ (Xq2 ops.length).filter fun i=> !oV listed i:=by simp [c,hd]
    have:(Xq2 ops.length).filter (fun i=> !oV listed i)= []:=Xxk (Nat.le_zero.1 hm);rw [this] at O;cases O
  refine ⟨?_,hdone listed m S w a p v⟩;cases hr:Region.ready .any ops.toArray listed with
  |nil=>rfl
  |cons i r=>
   obtain ⟨o,_,n,h3,_⟩:=ER p.sz (i:=i) (by rw [hr];simp);rw [v i h3] at n;cases n
 | succ l ih=>
  intro listed m S w a p hm;refine ⟨fun U=>hdone listed m S w a p (Wx hback p.sz U),fun i hi=> ?_⟩;obtain ⟨o,I,F,W,hedges⟩:=ER p.sz hi;have u:recs[i]? =some recs[i]:=π (by omega);generalize recs[i]=r at u;obtain ⟨o',Y,A,hstep⟩:=hsem i r u;rw [I] at Y;cases Y;have T:i<listed.size:=by rw [p.sz];exact W
  have f:=Yk T;have L:BH ops (oV (listed.setIfInBounds i true)):=by
   intro k o2 c hd e Z y;rw [f] at hd ⊢;split
   ·rfl
   ·split at hd
    ·rename_i E;subst E;rw [I] at c;cases c;exact hedges e Z y
    ·exact p.cl k o2 c hd e Z y
  have M:∀ k q,recs[k]? =some q→k<i→(kG q.foot r.foot=true∨∃ x ∈ r.ups.map (·.1),z+4*k≤x∧x<z+4*k+4)→oV listed k=true:=by
   intro k q c E hc;have C:=hord.ok k i q r c u E hc;have n:=pM L (k:=i) (i:=k) (by rw [f,if_pos rfl]) C;rw [f,if_neg (by omega)] at n;exact n
  have hhigh:∀ k q,recs[k]? =some q→i<k→(kG r.foot q.foot=true∨∃ x ∈ q.ups.map (·.1),z+4*i≤x∧x<z+4*i+4)→oV listed k=false:=by
   intro k q c E hc;cases hd:oV listed k with
   |false=>rfl
   |true=>
    have C:=hord.ok i k r q u c E hc;have n:=pM p.cl hd C;rw [F] at n;cases n
  have N:∀ k q,recs[k]? =some q→(k<i→kG q.foot r.foot=true)→(i<k→kG r.foot q.foot=true)→decide (k<i)=oV listed k:=by
   intro k q c C n;rcases Xzk k i with h|h|h
   ·rw [M k q c h (.inl (C h))];simp [h]
   ·subst h;rw [F];simp
   ·rw [hhigh k q c h (.inl (n h))];simp;omega
  have hagr':∀ k q,recs[k]? =some q→(k<i→kG q.foot r.foot=true)→(i<k→kG r.foot q.foot=true)→oV (listed.setIfInBounds i true) k=decide (k<i+1):=by
   intro k q c C n;rw [f];rcases Xzk k i with h|h|h
   ·rw [if_neg (by omega),M k q c h (.inl (C h))];simp;omega
   ·subst h;simp
   ·rw [if_neg (by omega),hhigh k q c h (.inl (n h))];simp;omega
  have V:∀ t ∈ r.rt,(oH s.env (recs.take i)).get t=(mD (oV listed) 0 s.env recs).get t:=by
   intro t J;rw [← yD];refine nO recs 0 _ _ rfl fun k q c hd=> ?_
   rw [χ];exact N k q c (fun _=>Uz (uD hd) J) (fun _=>Uy J (uD hd))
  have hhp:∀ b ∈ r.rb,aG (DU s.hp (recs.take i)) b=aG (oI (oV listed) 0 s.hp recs) b:=by
   intro b y;rw [← NU];refine qE recs 0 _ _ rfl fun k q c hd=> ?_
   rw [χ];exact N k q c (fun _=>QZ hd y) (fun _=>QY y hd)
  have hfresh:∀ j,j<4→aG (oI (oV listed) 0 s.hp recs) (z+4*i+j)=none:=by
   intro j hj;have C:aG (oI (oV listed) 0 s.hp recs) (z+4*i+j)=aG (oI (fun _=>false) 0 s.hp recs) (z+4*i+j):=by
    refine qE recs 0 _ _ rfl fun k q c hd=> ?_
    rw [χ];have y:=hbound k q c _ hd;rcases Xzk k i with h|h|h
    ·omega
    ·subst h;exact F
    ·exact hhigh k q c h (.inr ⟨_,hd,by omega,by omega⟩)
   rw [C,nT recs 0 _ (fun _ _=>rfl)];cases y:aG s.hp (z+4*i+j) with
   |none=>rfl
   |some B=>have:=hn0 _ _ y;omega
  have R:ops.toArray[i]? =some o:=by simpa using I
  have hgoal:wpO P ops.toArray Q o (wpAny P .any ops.toArray Q l (listed.setIfInBounds i true)) a w:=by
   refine hstep (oV listed) m S w a p.rel.srel (fun t J=>by rw [V t J];exact p.rel.env t) hhp hfresh (fun j hj=>by
    cases hd:oV listed j with
    |false=>rfl
    |true=>
     have n:=pM p.cl hd hj;rw [F] at n;cases n) Q _ ?_
   intro cv m' S' w' ds C n h3 h4;have hF:=p.rel.put (hnt o (Xqr I)) C n h3 h4;rw [kM] at n;rw [Xqc] at hF;have he':∀ t,(mD (oV (listed.setIfInBounds i true)) 0 s.env recs).get t=(qf (mD (oV listed) 0 s.env recs) o.dst r.v).get t:=by
    intro t;by_cases J:o.dst=some t
    ·have h5:(mD (oV (listed.setIfInBounds i true)) 0 s.env recs).get t=(mD (fun j=>decide (j<i+1)) 0 s.env recs).get t:=by
      refine nO recs 0 _ _ rfl fun k q c hd=> ?_
      rw [χ];have X:t ∈ r.foot.wt:=uD (A.trans J);exact hagr' k q c (fun _=>Kr (uD hd) X) (fun _=>Kr X (uD hd))
     rw [h5,yD,GV _ _ _ _ u,A,J,ji,ji]
    ·rw [yG J];refine nO recs 0 _ _ rfl fun k q c hd=> ?_
     rw [χ,f,if_neg]
     rintro rfl
     rw [u] at c;cases c;exact J (A ▸ hd)
   have G:aG (oI (oV (listed.setIfInBounds i true)) 0 s.hp recs)=aG (r.ups++oI (oV listed) 0 s.hp recs):=by
    funext b;by_cases y:b ∈ r.ups.map (·.1)
    ·have h5:aG (oI (oV (listed.setIfInBounds i true)) 0 s.hp recs) b=aG (oI (fun j=>decide (j<i+1)) 0 s.hp recs) b:=by
      refine qE recs 0 _ _ rfl fun k q c hd=> ?_
      rw [χ];exact hagr' k q c (fun _=>GI hd y) (fun _=>GI y hd)
     rw [h5,NU,U_ _ _ _ _ u];exact yL y
    ·rw [rF y];refine qE recs 0 _ _ rfl fun k q c hd=> ?_
     rw [χ,f,if_neg]
     rintro rfl
     rw [u] at c;cases c;exact y hd
   refine ih _ m' S' w' _ ⟨by rw [Array.size_setIfInBounds];exact p.sz,L, ?_,hF.congr he' G⟩ ?_
   ·rw [G];exact p.fr.trans n
   ·have:=AO F f (Xq2 ops.length) Xz8 (by simp [W]);simp only [BU] at hm ⊢;omega
  simp only [wpOp,R];exact hgoal
theorem UM {ops:List Oper} {recs:List kE} {s s':RS} {q nt:Nat} (n:∀ o ∈ ops,∀ d,o.dst=some d→d<nt) (e:recs.length=ops.length) (f:Uk P ap ops 0 q s s' recs) (l:s'.dfs.length=s.dfs.length)
  (hord:Ii q (fun j i=>((Region.before ops.toArray).toList.getD j 0).testBit i) recs) (hback:qZ ops=true) (hn0:∀ b B,aG s.hp b=some B→b<q) {m0:a_} {S0:aU} {w0:World} {Q:Exit→Act→World→Prop}
  (hQ:∀ m S w a,Fr (aG s.hp) m0 S0 w0 (aG (DU s.hp recs)) m S w→FR ap (oH s.env recs) (DU s.hp recs) s.dfs nt m S w a→Q .normal a w):
  ∀ (fuel:Nat) (listed:Array Bool) (m:a_) (S:aU) (w:World) (a:Act),abK ap ops recs s.env s.hp s.dfs nt m0 S0 w0 listed m S w a→BU ops.length (oV listed)≤fuel→wpAny P .any ops.toArray Q fuel listed a w:=by
 obtain ⟨_,c⟩:=f.sem l;refine Kz n e f.bound (fun k r v=> ?_) hord hback hn0 hQ;obtain ⟨o,t,C,E⟩:=c k r v;rw [χ] at t;exact ⟨o,t,C,fun D m S w a u y h p _ Q K z=>E _ m S w a u y (fun b A B x=>by rw [← h b A];exact x) p Q K z⟩
def oL (ap:AP) (base:Nat) (keep:List Nat) (hp0:Hp) (m:a_) (S:aU) (w:World) (nt:Nat) (s':St) (Q:Exit→Act→World→Prop):bK→Prop
 | .panic v=>match (eX v).isEmpty with
  |true=> ∀ s1:St,s'=norm base keep s1→xZ ap hp0 m S w nt s1.env s1.hp s1.dfs Q (some v)
  |false=>xZ ap hp0 m S w nt s'.env s'.hp s'.dfs Q (some v)
 | .normal=> ∀ s1:St,s'=norm base keep s1→xZ ap hp0 m S w nt s1.env s1.hp s1.dfs Q none
 |_=>True
theorem Jv (u:iM P ap) (G:P.follows .mixedOrders=true) (I:jX P ap H) {ops:List Oper} {l:Bool} {nt base:Nat} {keep:List Nat} (A:∀ o ∈ ops,∀ d,o.dst=some d→d<nt) {s:St} {e:bK} {s':St} {c T:Cx} {id:Nat}
  (h:Ju ap H base keep ops l s c= .ok (e,s') T) (hc:T.Ok):c.Ok∧(s.md= .dead→s'.md= .dead∧(∀ m S w a,FR ap s.env s.hp s.dfs nt m S w a→∀ Q,
   oL ap base keep s.hp m S w nt s' Q e→(Code.region id ops.toArray l).wp P Q a w)):=by
 unfold Ju at h;obtain ⟨⟨Z,p⟩,Y,J,h⟩:=R.bind_ok h;dsimp only at h;have z:∀ b B,aG s.hp b=some B→b<iC s.hp:=fun b B q=>qJ q
 cases p with
 | some v=>
  cases l with
  |true=>cases h
  | false=>
   dsimp only at h;split at h
   ·rename_i E;cases h;obtain ⟨i,hs⟩:=nD u I A ops 0 _ _ _ _ _ _ J hc;refine ⟨i,fun f=> ?_⟩;obtain ⟨x,D⟩:=hs f (fun t b q=>by cases q) rfl z;refine ⟨x,fun m S w a j Q r=>wp_region ?_⟩;simp only [oL,E] at r;have:=D m S w a j Q (r _ rfl);rw [← Xz7] at this;simpa using this
   ·rename_i E;cases h;obtain ⟨i,hs⟩:=nD u I A ops 0 _ _ _ _ _ _ J hc;refine ⟨i,fun f=> ?_⟩;obtain ⟨x,D⟩:=hs f (fun t b q=>by cases q) rfl z;refine ⟨x,fun m S w a j Q r=>wp_region ?_⟩;simp only [oL,E] at r;have:=D m S w a j Q r;rw [← Xz7] at this;simpa using this
 | none=>
  dsimp only at h;split at h
  ·rename_i hcond;cases h;cases l with
   |false=>
    obtain ⟨i,hs⟩:=nD u I A ops 0 _ _ _ _ _ _ J hc;refine ⟨i,fun f=> ?_⟩;obtain ⟨x,D⟩:=hs f (fun t b q=>by cases q) rfl z;refine ⟨x,fun m S w a j Q r=>wp_region ?_⟩;have:=D m S w a j Q (r _ rfl);rw [← Xz7] at this;simpa using this
   | true=>
    obtain ⟨i,hs⟩:=Xn u I ops 0 _ _ _ _ _ J hc;refine ⟨i,fun f=> ?_⟩;obtain ⟨x,recs,F,n⟩:=hs f (fun t b q=>by cases q) rfl;refine ⟨x,fun m S w a j Q r=>wp_region_any G ?_⟩;simp only [Xwg,Xzd,σ] at hcond;obtain ⟨⟨O,hback⟩,y⟩:=hcond;have y:=aO y;rw [n.feet,List.append_nil] at O;have N:=r _ rfl;have K:=(n.sem y).1;have C:oV (Array.replicate ops.length false)=fun _=>false:=by
     funext k;simp only [oV,Array.getD_eq_getD_getElem?];by_cases U:k<ops.length<;>simp [U]
    have M:ops.toArray.size=ops.length:=by simp
    rw [M];refine UM A F n y (EG O) hback z (m0:=m) (S0:=S) (w0:=w) (Q:=Q) ?_ ops.length _ m S _ a ⟨by simp, ?_, ?_, ?_⟩ ?_
    ·intro X S' w' W L V;refine N X S' w' W ?_ ?_
     ·rw [n.hp];exact L
     ·rw [n.hp,n.env,K];exact V
    ·intro k o U hd;rw [C] at hd;cases hd
    ·rw [C,nT recs 0 _ (fun _ _=>rfl)];exact ⟨Ge.refl _ _,mY.refl _,rfl,rfl,rfl,Θ _,fun _ _ _=>rfl,fun _ B h=> .inr ⟨B,h,rfl⟩,fun _ _ _ h=> .inl h⟩
    ·rw [C,nT recs 0 _ (fun _ _=>rfl),vJ recs 0 _ (fun _ _=>rfl)];exact ⟨⟨j.srel.inj,fun b B q=>j.srel.blk b B q|>fun ⟨x,D,L⟩=> ⟨x,D,L⟩,j.srel.sealed,j.srel.own,j.srel.glob⟩,j.env,j.dfs,j.size⟩
    ·exact Xxm (List.length_filter_le _ _) (by simp)
  ·cases h
end
end AM
namespace AM
open Go
def Bf (acc:List Nat) (b:Nat):List Nat:=if pY acc b then acc else acc++ [b]
theorem QQ (a:List Nat) (b:Nat) (h:a.Nodup):(Bf a b).Nodup∧∃ t,Bf a b=a++t:=by
 unfold Bf;split
 ·exact ⟨h,[],by simp⟩
 ·rename_i d;refine ⟨?_,[b],rfl⟩;rw [List.nodup_append];refine ⟨h,by simp, ?_⟩;intro x f y c e;simp at c;subst c;subst e;exact d (iV.2 f)
theorem oN:∀ (l a:List Nat),a.Nodup→(l.foldl Bf a).Nodup∧∃ t,l.foldl Bf a=a++t
 | [],a,h=> ⟨h,[],by simp⟩
 |b::r,a,h=>by
  simp only [Xjn];obtain ⟨e,j,d⟩:=QQ a b h;obtain ⟨i,c,f⟩:=oN r _ e;exact ⟨i,j++c,by rw [f,d,Ψ]⟩
theorem CV:∀ (l a:List Nat),l.Nodup→(∀ x ∈ l,x ∉ a)→l.foldl Bf a=a++l
 | [],a,_,_=>by simp
 | b::r,a,h,hd=>by
  rw [Xv3] at h;have e:pY a b=false:=by
   cases c:pY a b with
   |false=>rfl
   |true=>exact absurd (iV.1 c) (hd b (by simp))
  simp only [Xjn];have:Bf a b=a++ [b]:=by simp [Bf,e]
  rw [this,CV r _ h.2]
  ·simp
  ·intro x d c;rcases List.mem_append.1 c with c|c
   ·exact hd x (by simp [d]) c
   ·simp at c;subst c;exact h.1 d
theorem RY (l:List Nat):jq l=l.foldl Bf []:=rfl
theorem Oj (n:Nat) (l:List Nat):(jq (Xq2 n++l)).Nodup∧∃ t,jq (Xq2 n++l)=Xq2 n++t:=by
 rw [RY,List.foldl_append,CV (Xq2 n) [] Xz8 (by simp),Xqc];exact oN l _ Xz8
theorem uh (rd:dM):∀ (n:Nat) (l:List Nat),l.Nodup→(tC rd n l).Nodup∧∃ t,tC rd n l=l++t
 |0,l,h=> ⟨h,[],by simp [tC]⟩
 | n+1,l,h=>by
  simp only [tC];split
  ·exact ⟨h,[],by simp⟩
  ·obtain ⟨e,i,c⟩:=oN (l.flatMap fun b=>match rd b with|some B=>(match B.pr with|true=> []|false=>cO B.cells)|none=> []) l h;obtain ⟨f,a,d⟩:=uh rd n _ e;refine ⟨f,i++a, ?_⟩;exact d.trans (by rw [c,Ψ])
theorem Hf {f:Nat→AV}:∀ (keep:List Nat) (t:Nat),aG (keep.map fun t=>(t,f t)) t=if t ∈ keep then some (f t) else none
 | [],t=>by simp [aG]
 | a::r,t=>by
  simp only [Xqf,aG,Hf r t];cases h:Xqo a t with
  |true=>have:=aO h;subst this;simp
  |false=>
   have b:t ≠ a:=by intro e;subst e;simp at h
   simp [b]
theorem AA {rd:dM} {mk:Nat→bi→bi}:∀ (ids:List Nat) (j p:Nat),aG ((ids.zipIdx j).filterMap fun (b,p)=>(rd b).map fun B=>(p,mk p B)) p=if j≤p then (ids[p - j]?).bind fun b=>(rd b).map (mk p) else none
 | [],j,p=>by simp [aG]
 | a ::r,j,p=>by
  have f:=AA (rd:=rd) (mk:=mk) r (j+1) p;rw [List.zipIdx_cons];cases c:rd a with
  | none=>
   rw [Xvh (by simp [c]),f];by_cases hj:j+1≤p
   ·rw [if_pos hj,if_pos (by omega)];obtain ⟨d,hd⟩:∃ d,p - j=d+1:=⟨p - j - 1,by omega⟩
    rw [hd,Xj1,show p - (j+1)=d by omega]
   ·rw [if_neg hj];by_cases hjp:j≤p
    ·rw [if_pos hjp,show p - j=0 by omega];simp [c]
    ·rw [if_neg hjp]
  | some B=>
   rw [Xvi (by simp [c];rfl)];simp only [aG];cases h:Xqo j p with
   |true=>have:=aO h;subst this;simp [c]
   | false=>
    have i:j ≠ p:=by intro e;subst e;simp at h
    simp only [f];by_cases hj:j+1≤p
    ·rw [if_pos hj,if_pos (by omega)];obtain ⟨d,hd⟩:∃ d,p - j=d+1:=⟨p - j - 1,by omega⟩
     rw [hd,Xj1,show p - (j+1)=d by omega]
    ·rw [if_neg hj,if_neg (by omega)]
theorem Hq:∀ {l:List Nat},l.Nodup→rO l=true
 | [],_=>rfl
 |b::r,h=>by
  rw [Xv3] at h;simp only [rO,σ,Xqm];refine ⟨?_,Hq h.2⟩;cases a:pY r b with
  |false=>rfl
  |true=>exact absurd (iV.1 a) h.1
section
variable {P:Program} {ap:AP} {H:dw}
theorem JR {g g':dM} {m c:a_} {S S':aU} {ρ:Nat→Nat→Option (Nat × Nat)} (b:mY S S') (h:sN g m g' c ρ):∀ {l:List (Nat × List AV)} {ds:List Deferred},iw g m S l ds→iw g' c S' (l.map fun d=>(d.1,mG ρ d.2)) ds
 | [],[],_=>by simp [iw]
 |d::r,cd::cr,p=>by
  simp only [iw] at p;obtain ⟨⟨a,e,f⟩,i⟩:=p;simp only [Xqf,iw];exact ⟨⟨a,e,kU b h _ f⟩,JR b h i⟩
 | [],_::_,p=>by simp [iw] at p
 |_::_,[],p=>by simp [iw] at p
theorem n_ {h0:List bi} {keep:List Nat} {s:St} {nt:Nat} {m m0:a_} {S S0:aU} {w w0:World} {a:Act} (c:Fr (bH h0) m0 S0 w0 (aG s.hp) m S w) (C:FR ap s.env s.hp s.dfs nt m S w a):
  ∃ m',Fr (bH h0) m0 S0 w0 (aG (norm h0.length keep s).hp) m' S w∧FR ap (norm h0.length keep s).env (norm h0.length keep s).hp (norm h0.length keep s).dfs nt m' S w a:=by
 obtain ⟨_,t0,T⟩:=uh (aG s.hp) 20 (Xq2 h0.length) Xz8;generalize hroots:t0++(Dz keep s.env++s.dfs.flatMap (fun d=>cO d.2))=roots;have hroots':tC (aG s.hp) 20 (Xq2 h0.length)++Dz keep s.env++s.dfs.flatMap (fun d=>cO d.2)=Xq2 h0.length++roots:=by rw [← hroots,T];simp only [Ψ]
 obtain ⟨O,t1,L⟩:=Oj h0.length roots;obtain ⟨W,t2,I⟩:=uh (aG s.hp) 20 _ O;rw [L,Ψ] at I;have hsome:∀ b,b<h0.length→∃ B0 B,bH h0 b=some B0∧aG s.hp b=some B∧B.esz=B0.esz∧((B.ver=B0.ver∧m b=m0 b)∨B0.ver<B.ver):=by
  intro b z;obtain ⟨B,l,n⟩:=c.ge b h0[b] (by simp [bH,z]);exact ⟨h0[b],B,by simp [bH,z],l,n⟩
 generalize k:(tC (aG s.hp) 20 (jq (Xq2 h0.length++roots))).filter (fun b=>(aG s.hp b).isSome)=ids;have Q:ids.Nodup:=by rw [← k];exact W.filter _
 have F:=Hq Q;have u:∃ t,ids=Xq2 h0.length++t:=by
  rw [← k,L,I,List.filter_append];refine ⟨_,congrArg (· ++_) ?_⟩;rw [List.filter_eq_self];intro b z;obtain ⟨_,B,_,n,_⟩:=hsome b (by simpa using z);simp [n]
 obtain ⟨t,u⟩:=u;have x:∀ b,b<h0.length→ids[b]? =some b:=by
  intro b z;rw [u,Xxf (by simpa using z)];simp [z]
 have K:∀ (p b:Nat),ids[p]? =some b→∃ B,aG s.hp b=some B:=by
  intro p b hp;have:=Xqr hp;rw [← k,Xw5] at this;exact Option.isSome_iff_exists.1 this.2
 let ρ:Nat→Nat→Option (Nat × Nat):=fun b v=>match aG s.hp b with
  |some B=>match Xqo B.ver v with
   |true=>(pV ids b).map fun p=>(p,match Xjb p h0.length with|true=>v|false=>0)
   |false=>none
  |none=>none
 let mk:Nat→bi→bi:=fun p B=> {B with cells:=(match B.pr with|true=>B.cells|false=>mG ρ B.cells),ver:=match Xjb p h0.length with|true=>B.ver|false=>0}
 have hnorm:norm h0.length keep s=⟨keep.map fun t=>(t,ren ρ (s.env.get t)),ids.zipIdx.filterMap fun (b,p)=>(aG s.hp b).map fun B=>(p,mk p B),s.md,s.dfs.map fun d=>(d.1,mG ρ d.2)⟩:=by
  unfold norm;simp only [hroots',k];rfl
 rw [hnorm];dsimp only;have A:∀ p,aG (ids.zipIdx.filterMap fun (b,p)=>(aG s.hp b).map fun B=>(p,mk p B)) p=(ids[p]?).bind fun b=>(aG s.hp b).map (mk p):=by
  intro p;rw [AA (rd:=aG s.hp) (mk:=mk) ids 0 p,if_pos (Xxq _),Nat.sub_zero]
 generalize (ids.zipIdx.filterMap fun (b,p)=>(aG s.hp b).map fun B=>(p,mk p B))=hp2 at A;have f:∀ (p:Nat) (B2:bi),aG hp2 p=some B2→∃ b B,ids[p]? =some b∧aG s.hp b=some B∧B2=mk p B:=by
  intro p B2 h;rw [A] at h;cases hp:ids[p]? with
  |none=>rw [hp] at h;cases h
  |some b=>
   rw [hp] at h;obtain ⟨B,M⟩:=K p b hp;simp only [Xwz,M,Xjf,Option.some.injEq] at h;exact ⟨b,B,rfl,M,h.symm⟩
 let m2:a_:=fun p=>m (ids.getD p 0)
 have j:∀ (p b:Nat),ids[p]? =some b→m2 p=m b:=by
  intro p b hp;show m (ids.getD p 0)=_;rw [ξ,hp];rfl
 have y:sN (aG s.hp) m (aG hp2) m2 ρ:=by
  intro b ver p X h B M Y;simp only [ρ,M] at h;split at h
  ·rename_i G;have G:=aO G;simp only [Xqs,Prod.mk.injEq] at h;obtain ⟨q,D,rfl,rfl⟩:=h;have D:=qF D;refine ⟨mk q B, ?_, ?_,fun _=> ⟨G,j q b D,rfl⟩⟩
   ·rw [A,D];simp [M]
   ·simp only [mk];split
    ·omega
    ·exact Θ _
  ·cases h
 have E:∀ (p q b:Nat),ids[p]? =some b→ids[q]? =some b→p=q:=by
  intro p q b hp D;have e1:=o_ F hp;rw [o_ F D] at e1;cases e1;rfl
 refine ⟨m2, ?_, ?_, ?_, ?_,C.size⟩
 ·refine ⟨?_,c.sle,c.os,c.tape,c.output,c.size,c.rest, ?_,c.sealN⟩
  ·intro b B0 z;have r:b<h0.length:=(List.getElem?_eq_some_iff.1 z).1;obtain ⟨B0',B,l,n,N,R⟩:=hsome b r;rw [z] at l;cases l;have U:Xjb b h0.length=true:=Xq4 r;refine ⟨mk b B,by rw [A,x b r];simp [n],N, ?_⟩;simp only [mk,U];rw [j b b (x b r)];exact R
  ·intro p B2 hp;obtain ⟨b,B,l,n,rfl⟩:=f p B2 hp;rw [j p b l];rcases c.img b B n with h|⟨B0,N,R⟩
   ·exact .inl h
   ·have r:b<h0.length:=(List.getElem?_eq_some_iff.1 N).1;have:=E p b b l (x b r);subst this;exact .inr ⟨B0,N,R⟩
 ·refine ⟨?_, ?_,C.srel.sealed, ?_,C.srel.glob⟩
  ·intro p q B2 B2' hp D e;obtain ⟨b,B,l,n,rfl⟩:=f p B2 hp;obtain ⟨b',B',J,V,rfl⟩:=f q B2' D;rw [j p b l,j q b' J] at e;have:=C.srel.inj b b' B B' n V e;subst this;exact E p q b l J
  ·intro p B2 hp;obtain ⟨b,B,l,n,rfl⟩:=f p B2 hp;rw [j p b l];obtain ⟨⟨cur,e,vs,rest,k1,k2,k3,k4,k5,k6⟩,k7,k8⟩:=C.srel.blk b B n;cases i:B.pr with
   |true=>exact ⟨⟨cur,e,vs,rest,k1,k2,fun _=>by simpa [mk,i] using k3 i,by simpa [mk,i] using bY _ (k3 i),k5,k6⟩,k7,by simpa [mk,i] using k8⟩
   | false=>
    have G:=kU (mY.refl S) y _ k4;exact ⟨⟨cur,e,vs,rest,k1,k2,fun h=>by simp [mk,i] at h,by simpa [mk,i] using G,k5,k6⟩,k7,by
     have:(mk p B).cells.length=B.cells.length:=by simp only [mk,i];rw [dm k4,dm G]
     rw [this];exact k8⟩
  ·intro p B2 hp o v Z;obtain ⟨b,B,l,n,rfl⟩:=f p B2 hp;rw [j p b l] at Z;exact C.srel.own b B n o v Z
 ·intro t;simp only [iO.get,Hf];by_cases ht:t ∈ keep
  ·rw [if_pos ht];exact zo (mY.refl S) y _ (C.env t)
  ·rw [if_neg ht];simp [VR]
 ·exact JR (mY.refl S) y C.dfs
end
end AM
namespace AM
open Go
mutual
theorem x_ {g g':dM} {m n:a_} {S S':aU} (i:mY S S'):∀ (x:AV) {v:Value},(∀ b ∈ eX x,g' b=g b∧n b=m b)→VR g m S x v→VR g' n S' x v
 | .int _ _,_,_,p=>by simpa only [VR,PR] using p
 | .bool _,_,_,p=>by simpa only [VR,PR] using p
 | .str _,_,_,p=>by simpa only [VR,PR] using p
 | .nilS,_,_,p=>by simpa only [VR,PR] using p
 | .nilP,_,_,p=>by simpa only [VR,PR] using p
 | .nilF,_,_,p=>by simpa only [VR,PR] using p
 | .nilI,_,_,p=>by simpa only [VR,PR] using p
 | .sl _ _ _,_,_,p=>by simp only [VR] at p ⊢;exact dH i _ p
 | .pp _ _,_,_,p=>by simp only [VR] at p ⊢;exact dH i _ p
 | .mp _ _,_,_,p=>by simp only [VR] at p ⊢;exact dH i _ p
 | .dead,_,_,_=>by simp only [VR]
 | .own _ _ _,_,_,p=>by simp only [VR] at p
 | .ref b _ _ _,_,h,p=>by
  obtain ⟨k,j⟩:=h b (by simp [eX]);simp only [VR] at p ⊢;rw [k,j];exact p
 | .ptr b _ _,_,h,p=>by
  obtain ⟨k,j⟩:=h b (by simp [eX]);simp only [VR] at p ⊢;rw [k,j];exact p
 | .mr b _,_,h,p=>by
  obtain ⟨k,j⟩:=h b (by simp [eX]);simp only [VR] at p ⊢;rw [k,j];exact p
 | .agg l,_,h,p=>by
  simp only [VR] at p ⊢;obtain ⟨vs,e,q⟩:=p;exact ⟨vs,e,ny i l (fun b d=>h b (by simpa [eX] using d)) q⟩
 | .tup l,_,h,p=>by
  simp only [VR] at p ⊢;obtain ⟨vs,e,q⟩:=p;exact ⟨vs,e,ny i l (fun b d=>h b (by simpa [eX] using d)) q⟩
 | .fn f a c,_,h,p=>by
  simp only [VR] at p ⊢;obtain ⟨s,o,e,q,r⟩:=p;exact ⟨s,o,e,ny i a (fun b d=>h b (by simp [eX,d])) q,ny i c (fun b d=>h b (by simp [eX,d])) r⟩
 | .ifc t x,_,h,p=>by
  simp only [VR] at p ⊢;obtain ⟨u,e,q⟩:=p;exact ⟨u,e,x_ i x (fun b d=>h b (by simpa [eX] using d)) q⟩
theorem ny {g g':dM} {m d:a_} {S S':aU} (c:mY S S'):∀ (l:List AV) {vs:List Value},(∀ b ∈ cO l,g' b=g b∧d b=m b)→bD g m S l vs→bD g' d S' l vs
 | [],[],_,_=>by simp only [bD]
 |x::r,v::vs,h,p=>by
  simp only [bD] at p ⊢;exact ⟨x_ c x (fun b a=>h b (by simp [cO,a])) p.1,ny c r (fun b a=>h b (by simp [cO,a])) p.2⟩
 | [],_::_,_,p=>by simp [bD] at p
 |_::_,[],_,p=>by simp [bD] at p
end
theorem mX {g:dM} {m:a_} {S:aU} {x:AV} {v:Value} (h:(eX x).isEmpty=true) (d:VR g m S x v):PR S x v:=by
 have c:eX x= []:=by simpa using h
 exact nI (m:=m) x (x_ (mY.refl S) x (fun b a=>by rw [c] at a;cases a) d)
def GR (nt:Nat) (o:Oper):Bool:=match o.dst with|some d=>Xjb d nt|none=>true
def dV (nt:Nat):Code→Bool
 | .region _ ops _=>ops.toList.all (GR nt)
 | .seq a b=>dV nt a && dV nt b
 | .cond _ a b=>dV nt a && dV nt b
 | .block _ b=>dV nt b
 | .loop b=>dV nt b
 | .scope b=>dV nt b
 |_=>true
section
variable {P:Program} {ap:AP} {H:dw}
def Ug (hp:Hp) (m:a_) (S:aU) (Q:Exit→Act→World→Prop) (a:Act) (w:World):bK→Prop
 | .normal=>Q .normal a w
 | .exit id=>Q (.exit id) a w
 | .ret=>Q .ret a w
 | .panic v=> ∀ cv,VR (aG hp) m S v cv→Q (.panic [{v:=cv,recovered:=false}]) a w
def XA (ap:AP) (h0:List bi) (m0:a_) (S0:aU) (w0:World) (nt:Nat) (s':St) (e:bK) (Q:Exit→Act→World→Prop):Prop:=
 ∀ m' S' w' a',Fr (bH h0) m0 S0 w0 (aG s'.hp) m' S' w'→FR ap s'.env s'.hp s'.dfs nt m' S' w' a'→Ug s'.hp m' S' Q a' w' e
def aj (P:Program) (ap:AP) (h0:List bi) (nt:Nat) (code:Code) (s:St) (e:bK) (s':St):Prop:=
 s.md= .dead→s'.md= .dead∧∀ m0 S0 w0 m S w a,Fr (bH h0) m0 S0 w0 (aG s.hp) m S w→FR ap s.env s.hp s.dfs nt m S w a→∀ Q,XA ap h0 m0 S0 w0 nt s' e Q→code.wp P Q a w
theorem aj.still {h0:List bi} {nt:Nat} {b:Code} {s:St} {e:bK} (h:∀ (Q:Exit→Act→World→Prop) hp m S a w,Ug hp m S Q a w e→b.wp P Q a w):aj P ap h0 nt b s e s:=
 fun c=> ⟨c,fun _ _ _ m S w a d i Q f=>h Q s.hp m S a w (f m S w a d i)⟩
theorem DY {h0:List bi} {nt:Nat} {b:Code} {f:St→Cx→R (bK × St)} (p:∀ s e s' c c',f s c= .ok (e,s') c'→c'.Ok→c.Ok∧aj P ap h0 nt b s e s'):
  ∀ (n:Nat) (s:St) (e:bK) (s':St) (c c':Cx),PY f n s c= .ok (e,s') c'→c'.Ok→c.Ok∧(s.md= .dead→s'.md= .dead∧∀ m0 S0 w0 m S w a,Fr (bH h0) m0 S0 w0 (aG s.hp) m S w→FR ap s.env s.hp s.dfs nt m S w a→∀ Q,XA ap h0 m0 S0 w0 nt s' e Q→Code.rounds P b Q n a w)
 |0,s,e,s',c,c',h,hc=>by cases h
 | n+1,s,e,s',c,c',h,hc=>by
  simp only [PY] at h;obtain ⟨⟨A,D⟩,C,E,h⟩:=R.bind_ok h;dsimp only at h;have hother:A ≠ .normal→R.ok (A,D) C=R.ok (e,s') c'→c.Ok∧(s.md= .dead→s'.md= .dead∧∀ m0 S0 w0 m S w a,Fr (bH h0) m0 S0 w0 (aG s.hp) m S w→FR ap s.env s.hp s.dfs nt m S w a→∀ Q,XA ap h0 m0 S0 w0 nt s' e Q→Code.rounds P b Q (n+1) a w):=by
   intro l I;cases I;obtain ⟨j,B⟩:=p _ _ _ _ _ E hc;refine ⟨j,fun i=> ?_⟩;obtain ⟨r,t⟩:=B i;refine ⟨r,fun m0 S0 w0 m S w a d u Q k=>t m0 S0 w0 m S w a d u _ ?_⟩;intro z S' w' x y q;have:=k z S' w' x y q;cases e with
   |normal=>exact absurd rfl l
   |exit id=>exact this
   |ret=>exact this
   |panic v=>exact this
  cases A with
  |normal=>
   dsimp only at h;obtain ⟨o,G⟩:=DY p n D e s' C c' h hc;obtain ⟨j,B⟩:=p _ _ _ _ _ E o;refine ⟨j,fun i=> ?_⟩;obtain ⟨r,t⟩:=B i;obtain ⟨y,q⟩:=G r;refine ⟨y,fun m0 S0 w0 m S w a d u Q k=>t m0 S0 w0 m S w a d u _ ?_⟩;intro z S' w' x J F;exact q m0 S0 w0 z S' w' x J F Q k
  |exit id=>exact hother (by simp) h
  |ret=>exact hother (by simp) h
  |panic v=>exact hother (by simp) h
theorem fD (q:iM P ap) (i:P.follows .mixedOrders=true) (K:jX P ap H) {h0:List bi} {keep:List Nat} {lf nt:Nat}:∀ (code:Code),dV nt code=true→∀ (s:St) (e:bK) (s':St) (c p:Cx),lq ap H h0.length keep lf code s c= .ok (e,s') p→p.Ok→c.Ok∧aj P ap h0 nt code s e s'
 | .skip,_,s,e,s',c,p,h,n=>by
  cases h;exact ⟨n,aj.still fun Q hp m S a w r=>wp_skip r⟩
 | .label l,_,s,e,s',c,p,h,n=>by
  cases h;exact ⟨n,aj.still fun Q hp m S a w r=>wp_label r⟩
 | .exit id,_,s,e,s',c,p,h,n=>by
  cases h;exact ⟨n,aj.still fun Q hp m S a w r=>wp_exit r⟩
 | .ret,_,s,e,s',c,p,h,n=>by
  cases h;exact ⟨n,aj.still fun Q hp m S a w r=>wp_ret r⟩
 | .region id ops draw,hd,s,e,s',c,p,h,n=>by
  have hnt:∀ o ∈ ops.toList,∀ d,o.dst=some d→d<nt:=by
   intro o ho d Y;have:=List.all_eq_true.1 hd o ho;simp only [GR,Y] at this;exact fU this
  obtain ⟨k,hr⟩:=Jv q i K hnt (id:=id) h n;refine ⟨k,fun j=> ?_⟩;obtain ⟨I,h2⟩:=hr j;refine ⟨I,fun m0 S0 w0 m S w a f E Q A=> ?_⟩;have:=h2 m S w a E Q;rw [Array.toArray_toList] at this;refine this ?_;cases e with
  |normal=>
   intro U O G S' w' F C D;obtain ⟨Z,u,B⟩:=n_ (keep:=keep) (f.trans C) D;rw [← O] at u B;exact A Z S' w' F u B
  | panic v=>
   simp only [oL];split
   ·rename_i hre;intro U O G S' w' F cv C D u;obtain ⟨Z,B,X⟩:=n_ (keep:=keep) (f.trans C) D;rw [← O] at B X;exact A Z S' w' F B X cv (iH _ (mX hre u))
   ·intro G S' w' F cv C D u;exact A G S' w' F (f.trans C) D cv u
  |exit id=>trivial
  |ret=>trivial
 | .seq x y,hd,s,e,s',c,p,h,n=>by
  simp only [dV,σ] at hd;simp only [lq] at h;obtain ⟨⟨T,U⟩,M,I,h⟩:=R.bind_ok h;dsimp only at h;have hother:T ≠ .normal→R.ok (T,U) M=R.ok (e,s') p→c.Ok∧aj P ap h0 nt (.seq x y) s e s':=by
   intro N V;cases V;obtain ⟨k,L⟩:=fD q i K x hd.1 _ _ _ _ _ I n;refine ⟨k,fun j=> ?_⟩;obtain ⟨C,D⟩:=L j;refine ⟨C,fun m0 S0 w0 m S w a f E Q A=>wp_seq (D m0 S0 w0 m S w a f E _ ?_)⟩;intro G S' w' F u B;have:=A G S' w' F u B;cases e with
   |normal=>exact absurd rfl N
   |exit id=>exact this
   |ret=>exact this
   |panic v=>exact this
  cases T with
  |normal=>
   dsimp only at h;obtain ⟨J,ih⟩:=fD q i K y hd.2 _ _ _ _ _ h n;obtain ⟨k,L⟩:=fD q i K x hd.1 _ _ _ _ _ I J;refine ⟨k,fun j=> ?_⟩;obtain ⟨C,D⟩:=L j;obtain ⟨u,B⟩:=ih C;refine ⟨u,fun m0 S0 w0 m S w a f E Q A=>wp_seq (D m0 S0 w0 m S w a f E _ ?_)⟩;intro G S' w' F X h8;exact B m0 S0 w0 G S' w' F X h8 Q A
  |exit id=>exact hother (by simp) h
  |ret=>exact hother (by simp) h
  |panic v=>exact hother (by simp) h
 | .cond t x y,hd,s,e,s',c,p,h,n=>by
  simp only [dV,σ] at hd;simp only [lq] at h;split at h
  ·rename_i bv hbv;obtain ⟨b',M,I,h⟩:=R.bind_ok h;have key:∀ (z:Code),(M.Ok→M.Ok∧z=if bv then x else y)→M.Ok∧aj P ap h0 nt z s e s'→c.Ok∧aj P ap h0 nt (.cond t x y) s e s':=by
    rintro z hzz ⟨J,ih⟩
    obtain ⟨k,hb⟩:=lG I J;refine ⟨k,fun j=> ?_⟩;obtain ⟨u,B⟩:=ih j;refine ⟨u,fun m0 S0 w0 m S w a f E Q A=>wp_cond (t:=bv) ?_ ?_⟩
    ·have:=xx E.srel (a:=a) (env:=s.env) t (fun t _=>E.env t);rw [hbv] at this;simpa only [VR,PR] using this
    ·rw [← (hzz J).2];exact B m0 S0 w0 m S w a f E Q A
   cases b' with
   |true=>exact key x (fun W=> ⟨W,by rw [← (lG I W).2];rfl⟩) (fD q i K x hd.1 _ _ _ _ _ h n)
   |false=>exact key y (fun W=> ⟨W,by rw [← (lG I W).2];rfl⟩) (fD q i K y hd.2 _ _ _ _ _ h n)
  ·cases h
 | .block id b,hd,s,e,s',c,p,h,n=>by
  simp only [dV] at hd;simp only [lq] at h;obtain ⟨⟨T,U⟩,M,I,h⟩:=R.bind_ok h;dsimp only at h;have hcc:M=p:=by
   cases T<;>dsimp only at h
   ·cases h;rfl
   ·split at h<;>cases h<;>rfl
   ·cases h;rfl
   ·cases h;rfl
  subst hcc;obtain ⟨k,L⟩:=fD q i K b hd _ _ _ _ _ I n;refine ⟨k,fun j=> ?_⟩;obtain ⟨C,D⟩:=L j;have hs:U=s':=by
   cases T<;>dsimp only at h
   ·cases h;rfl
   ·split at h<;>cases h<;>rfl
   ·cases h;rfl
   ·cases h;rfl
  subst hs;refine ⟨C,fun m0 S0 w0 m S w a f E Q A=>wp_block (D m0 S0 w0 m S w a f E _ ?_)⟩;intro G S' w' F u B;have r:=A G S' w' F u B;cases T with
  |normal=>cases h;exact r
  |ret=>cases h;exact r
  |panic v=>cases h;exact r
  | exit id'=>
   dsimp only at h;split at h
   ·rename_i V;cases h;show Exit.inBlock id Q (.exit id') F w';simp only [Exit.inBlock,if_pos (aO V)];exact r
   ·rename_i V;cases h;show Exit.inBlock id Q (.exit id') F w';have N:id' ≠ id:=by intro e;subst e;simp at V
    simp only [Exit.inBlock,if_neg N];exact r
 | .loop b,hd,s,e,s',c,p,h,n=>by
  simp only [dV] at hd;simp only [lq] at h;obtain ⟨k,L⟩:=DY (fun s e s' c p h n=>fD q i K b hd s e s' c p h n) lf s e s' c p h n;refine ⟨k,fun j=> ?_⟩;obtain ⟨C,D⟩:=L j;exact ⟨C,fun m0 S0 w0 m S w a f E Q A=>wp_loop_rounds lf (D m0 S0 w0 m S w a f E Q A)⟩
 | .scope b,hd,s,e,s',c,p,h,n=>by
  simp only [dV] at hd;simp only [lq] at h;obtain ⟨k,L⟩:=fD q i K b hd _ _ _ _ _ h n;refine ⟨k,fun j=> ?_⟩;obtain ⟨C,D⟩:=L j;refine ⟨C,fun m0 S0 w0 m S w a f E Q A=>wp_scope_straight (D m0 S0 w0 m S w a f E _ ?_)⟩;intro G S' w' F u B;have r:=A G S' w' F u B;cases e with
  |normal=>exact r
  |exit id=>exact r
  |ret=>exact r
  |panic v=>exact r
 | .rangeFunc _ _ _ _,_,s,e,s',c,p,h,n=>by cases h
 | .goto _,_,s,e,s',c,p,h,n=>by cases h
 | .refuse _,_,s,e,s',c,p,h,n=>by cases h
end
end AM
