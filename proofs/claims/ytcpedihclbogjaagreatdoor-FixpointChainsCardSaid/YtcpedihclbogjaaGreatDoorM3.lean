/- The machine and its soundness. -/
import Derived.Test.YtcpedihclbogjaaGreatDoorM2
import Derived.Orders
import Derived.LoopN
import Derived.Scope
set_option linter.unusedSimpArgs false
set_option linter.unusedVariables false
open List renaming map_cons->Xqg,getElem?_cons_succ->Xja,filterMap_cons_none->Xv7,filterMap_cons_some->Xv8,mem_cons->Xjj,getElem?_append_left->Xxf,nil_append->Xqc,length_nil->Xqa,getElem?_eq_getElem->μ,getElem?_eq_none->Xq9,mem_of_getElem?->Xqm,getD_eq_getElem?_getD->ξ,getElem?_map->Xqw,append_assoc->Xqe,mem_cons_self->Xjp,mem_cons_of_mem->Xx2,drop_drop->Xjs,length_cons->ο,range'_succ->Xwy,take_zero->Xk3,take_succ_cons->Xx8,eq_nil_of_length_eq_zero->Xq2,foldl_cons->Xjz,all_eq_true->Xzo,mem_zipIdx_iff_getElem?->Xzs,range->Xqo,nodup_cons->Xkw,mem_filter->Xvq,mem_range->Yxs,size_toArray->Xxh,nodup_range->Xwz,range_eq_range'->Xws
open Nat renaming add_assoc->Xj2,beq->Xqk,le_of_not_lt->Yqz,le_refl->κ,lt_of_lt_of_le->υ,zero_add->Δ,zero_le->Xq7,le_trans->Xqr,add_zero->Xq4,blt->Xjk,ble_eq_true_of_le->Γ,lt_trichotomy->Xz7
open Bool renaming and_eq_true->τ,not_eq_true'->Xqs,or_eq_true->Xvp,not_true->Xxl,false_or->Xx3
open Option renaming map_eq_some_iff->Xqq,bind_some->Xvf,map_some->Xjm,getD_some->Xzp
namespace AM
open Go
def bz (h:List aU):dK:=λb=>h[b]?
def jm (gh gf:dK) (m:aW) (S:aO):Nat->List AV->List Value->Prop
 |_,[],[]=>True
 |n,.own _ k _::r,v::vs=>VR gf m S (.ref n 0 0 k) v/\jm gh gf m S (n+1) r vs
 |n,x::r,v::vs=>VR gh m S x v/\jm gh gf m S n r vs
 |_,_,_=>False
def zi (gh gf:dK) (m:aW) (S:aO) (n:Nat):AV->Value->Prop
 | .tup l,v=> ∃ vs,v= .tuple vs.toArray/\jm gh gf m S n l vs
 | .own _ k _,v=>VR gf m S (.ref n 0 0 k) v
 |x,v=>VR gh m S x v
def lS (n:Nat):lG->List aU
 | .ret v=>(kE n v).2
 | .pan _=> []
def ahx (h':List aU) (m':aW) (S':aO):lG->Ending->Prop
 | .ret v,e=> ∃ cv,e= .returned cv/\zi (bz h') (bz (h'++(kE h'.length v).2)) m' S' h'.length v cv
 | .pan v,e=> ∃ cv,e= .panicked [{v:=cv,recovered:=false}]/\VR (bz h') m' S' v cv
structure L9 (ap:AP) (h:List aU) (m:aW) (S:aO) (w:World) (out:lG) (h':List aU) (m':aW) (S':aO) (w':World) (e:Ending):Prop where
 srel:b_ ap (bz (h'++lS h'.length out)) m' S' w'
 fr:Fr (bz h) m S w (bz (h'++lS h'.length out)) m' S' w'
 out:ahx h' m' S' out e
def zU (P:Program) (f:Nat):Prop:=∀ args w,(callFunc f args).run P w= .ok (.enter f args) w
structure aG (P:Program) (ap:AP) (f:Nat) (args:List AV) (h:List aU) (out:lG) (h':List aU):Prop where
 len:h.length<=h'.length
 ent:zU P f
 calls:∀ m S w cargs,b_ ap (bz h) m S w->bu (bz h) m S args cargs->Calls P f cargs.toArray w λe w'=> ∃ m' S',L9 ap h m S w out h' m' S' w' e
def ku (P:Program) (ap:AP) (H:dD):Prop:=∀ c f args h out h' md' c',H c .dead f args h= .ok (out,h',md') c'->c'.Ok->c.Ok/\aG P ap f args h out h'
section
variable {P:Program} {ap:AP} {g:dK} {m:aW} {S:aO} {w:World}
mutual
theorem nC {m:aW} {S:aO}:∀ (x:AV) {v:Value},VR (bz []) m S x v->PR S x v
 | .int _ _,_,p=>by simpa only [VR] using p
 | .bool _,_,p=>by simpa only [VR] using p
 | .str _,_,p=>by simpa only [VR] using p
 | .nilS,_,p=>by simpa only [VR] using p
 | .nilP,_,p=>by simpa only [VR] using p
 | .nilF,_,p=>by simpa only [VR] using p
 | .nilI,_,p=>by simpa only [VR] using p
 | .sl _ _ _,_,p=>by simpa only [VR] using p
 | .pp _ _,_,p=>by simpa only [VR] using p
 | .mp _ _,_,p=>by simpa only [VR] using p
 | .dead,_,_=>by simp only [PR]
 | .own _ _ _,_,p=>by simp only [VR] at p
 | .ref _ _ _ _,_,p=>by simp [VR,bz] at p
 | .ptr _ _ _,_,p=>by simp [VR,bz] at p
 | .mr _ _,_,p=>by simp [VR,bz] at p
 | .agg l,_,p=>by
  simp only [VR] at p;simp only [PR];obtain ⟨vs,e,q⟩:=p;exact ⟨vs,e,iQ l q⟩
 | .tup l,_,p=>by
  simp only [VR] at p;simp only [PR];obtain ⟨vs,e,q⟩:=p;exact ⟨vs,e,iQ l q⟩
 | .fn f a c,_,p=>by
  simp only [VR] at p;simp only [PR];obtain ⟨b,d,e,q,r⟩:=p;exact ⟨b,d,e,iQ a q,iQ c r⟩
 | .ifc t x,_,p=>by
  simp only [VR] at p;simp only [PR];obtain ⟨u,e,q⟩:=p;exact ⟨u,e,nC x q⟩
theorem iQ {m:aW} {S:aO}:∀ (l:List AV) {vs:List Value},bu (bz []) m S l vs->bT S l vs
 | [],[],_=>by simp only [bT]
 |x::r,v::vs,p=>by simp only [bu] at p;simp only [bT];exact ⟨nC x p.1,iQ r p.2⟩
 | [],_::_,p=>by simp [bu] at p
 |_::_,[],p=>by simp [bu] at p
end
theorem agn (z:b_ ap g m S w) {N l:dK} {mc s:aW} {Sp S':aO} {w':World} (J:b_ ap l s S' w') (r:Fr N mc Sp w l s S' w') (ι:Nat->Nat)
  (hdom:∀ i Bc,N i=some Bc->∃ B,g (ι i)=some B/\mc i=m (ι i))
  (hSp:iV S Sp) (hSpN:∀ k o v,Sp k o=some v->S k o=some v\/∃ b B,g b=some B/\(m b).1=k) {gN:dK} {mN:aW} (ρ:Nat->Nat->Option (Nat × Nat)) (hρ:wI l s gN mN ρ)
  (hnew:∀ i Bc,l i=some Bc->∃ B,gN (ι i)=some B/\mN (ι i)=s i/\B.esz=Bc.esz/\B.fro=Bc.fro/\B.fz=Bc.fz/\B.pr=Bc.pr/\(Bc.pr=true->B.cells=Bc.cells)/\(Bc.pr=false->B.cells=pI ρ Bc.cells))
  (c:∀ b B,gN b=some B->(∃ i Bc,l i=some Bc/\b=ι i)\/(∃ B0,g b=some B0/\mN b=m b/\B.cells=B0.cells/\B.pr=B0.pr/\B.esz=B0.esz/\(B.fro=false->B.fz=0)/\B.fz<=B.cells.length/\(∀ i Bc,N i=some Bc->b ≠ ι i)/\(∀ o v,Sp (m b).1 o=some v->B.fro=true/\o<B.fz)))
  (hge:Ge g m gN mN):b_ ap gN mN S' w'/\Fr g m S w gN mN S' w':=by
 have t:iV S S':=hSp.trans r.sle;have hcross:∀ b B0 i Bc,g b=some B0->l i=some Bc->(∀ i Bc,N i=some Bc->b ≠ ι i)->(m b).1 ≠ (s i).1:=by
  intro b B0 i Bc n a p e;have hlt:=z.lt n;rcases r.img i Bc a with d|⟨B1,d,u⟩
  .omega
  .obtain ⟨B2,A,E⟩:=hdom i B1 d;rw [E] at u;exact p i B1 d (z.inj b (ι i) B0 B2 n A (e.trans u))
 constructor
 .refine ⟨?_, ?_,J.sealed, ?_,J.glob⟩
  .intro b b' B B' n hb' e;rcases c b B n with ⟨i,Bi,a,rfl⟩|⟨B0,h0,d,_,_,_,_,_,u,_⟩<;>rcases c b' B' hb' with ⟨j,Bj,Q,rfl⟩|⟨B0',M,I,_,_,_,_,_,Z,_⟩
   .obtain ⟨_,_,y,_⟩:=hnew i Bi a;obtain ⟨_,_,q,_⟩:=hnew j Bj Q;rw [y,q] at e;rw [J.inj i j Bi Bj a Q e]
   .obtain ⟨_,_,y,_⟩:=hnew i Bi a;rw [y,I] at e;exact absurd e.symm (hcross b' B0' i Bi M a Z)
   .obtain ⟨_,_,q,_⟩:=hnew j Bj Q;rw [q,d] at e;exact absurd e (hcross b B0 j Bj h0 Q u)
   .rw [d,I] at e;exact z.inj b b' B0 B0' h0 M e
  .intro b B n;rcases c b B n with ⟨i,Bi,a,rfl⟩|⟨B0,h0,d,A,E,h5,h6,h7,u,_⟩
   .obtain ⟨B1,G,y,q,X,F,e5,e6,e7⟩:=hnew i Bi a;rw [n] at G;cases G;rw [y];obtain ⟨⟨cur,e,vs,rest,W,O,R,U,V,T⟩,k7,Y⟩:=J.blk i Bi a;cases hp:Bi.pr with
    |true=>
     have hcells:=e6 hp;refine ⟨⟨cur,e,vs,rest,by rw [q];exact W,O,λ_=>by rw [hcells];exact R hp,by rw [hcells];exact bU _ (R hp),by rw [q];exact V,by rw [q];exact T⟩,by rw [X,F];exact k7,by rw [F,hcells];exact Y⟩
    |false=>
     have hcells:=e7 hp;have x:=mf (iV.refl S') hρ _ U;have L:B.cells.length=Bi.cells.length:=by rw [di U,hcells,di x]
     refine ⟨⟨cur,e,vs,rest,by rw [q];exact W,O,(λh=>by rw [e5,hp] at h;cases h),by rw [hcells];exact x,by rw [q];exact V,by rw [q];exact T⟩,by rw [X,F];exact k7,by rw [F,L];exact Y⟩
   .rw [d];have p:∀ i Bc,N i=some Bc->(mc i).1 ≠ (m b).1:=by
     intro i Bc a e;obtain ⟨B2,K,f⟩:=hdom i Bc a;rw [f] at e;exact u i Bc a (z.inj b (ι i) B0 B2 h0 K e.symm)
    obtain ⟨⟨cur,e,vs,rest,W,O,R,U,V,T⟩,k7,Y⟩:=z.blk b B0 h0;refine ⟨⟨cur,e,vs,rest,by rw [h5];exact W.same (r.rest _ (z.lt h0) p),O,λhp=>by rw [A];rw [E] at hp;exact bD t _ (R hp),by rw [A];exact l_ t hge _ U,by rw [h5];exact V,by rw [h5];exact T⟩,h6,h7⟩
  .intro b B n o v x;rcases c b B n with ⟨i,Bi,a,rfl⟩|⟨B0,h0,d,A,E,h5,h6,h7,u,K⟩
   .obtain ⟨B1,G,y,q,X,F,e5,e6,e7⟩:=hnew i Bi a;rw [n] at G;cases G;rw [y] at x;rw [X,F];exact J.own i Bi a o v x
   .rw [d] at x;rcases r.sealN _ _ _ x with f|f|⟨i,Bi,a,f⟩
    .exact K o v f
    .have:=z.lt h0;omega
    .obtain ⟨B2,C,D⟩:=hdom i Bi a;rw [D] at f;exact absurd (z.inj b (ι i) B0 B2 h0 C f.symm) (u i Bi a)
 .refine ⟨hge,t,r.os,r.tape,r.output,r.size, ?_, ?_, ?_⟩
  .intro k hk p;refine r.rest k hk λi Bc a e=> ?_
   obtain ⟨B2,K,f⟩:=hdom i Bc a;exact p (ι i) B2 K (by rw [<- f];exact e)
  .intro b B n;rcases c b B n with ⟨i,Bi,a,rfl⟩|⟨B0,h0,d,_⟩
   .obtain ⟨B1,G,y,_⟩:=hnew i Bi a;rw [y];rcases r.img i Bi a with d|⟨B2,d,u⟩
    .exact .inl d
    .obtain ⟨B3,A,E⟩:=hdom i B2 d;exact .inr ⟨B3,A,by rw [u,E]⟩
   .exact .inr ⟨B0,h0,by rw [d]⟩
  .intro k o v x;rcases r.sealN _ _ _ x with f|f|⟨i,Bi,a,f⟩
   .rcases hSpN _ _ _ f with h|h
    .exact .inl h
    .exact .inr (.inr h)
   .exact .inr (.inl f)
   .obtain ⟨B2,C,D⟩:=hdom i Bi a;exact .inr (.inr ⟨ι i,B2,C,by rw [<- D];exact f⟩)
structure J_ (F:AV->AV):Prop where
 own:∀ xs n e,F (.own xs n e)= .own xs n e
 tup:∀ l,F (.tup l)= .tup (l.map F)
 not:∀ x,(∀ xs n e,x ≠ .own xs n e)->(∀ xs n e,F x ≠ .own xs n e)
 notT:∀ x,(∀ l,x ≠ .tup l)->(∀ l,F x ≠ .tup l)
theorem bJ (n:Nat) {x:AV} (h:∀ xs k e,x ≠ .own xs k e) (r:List AV):fK n (x::r)=(x::(fK n r).1,(fK n r).2):=by
 cases x<;>first|rfl|exact absurd rfl (h _ _ _)
theorem jP (n:Nat) {x:AV} (h:∀ xs k e,x ≠ .own xs k e) (a:∀ l,x ≠ .tup l):kE n x=(x,[]):=by
 cases x<;>first|rfl|exact absurd rfl (h _ _ _)|exact absurd rfl (a _)
theorem dh {gh gf:dK} {n:Nat} {x:AV} (h:∀ xs k e,x ≠ .own xs k e) {r:List AV} {v:Value} {vs:List Value}:jm gh gf m S n (x::r) (v::vs)=(VR gh m S x v/\jm gh gf m S n r vs):=by
 cases x<;>first|rfl|exact absurd rfl (h _ _ _)
theorem ni {gh gf:dK} {n:Nat} {x:AV} (h:∀ xs k e,x ≠ .own xs k e) (a:∀ l,x ≠ .tup l) {v:Value}:zi gh gf m S n x v=VR gh m S x v:=by
 cases x<;>first|rfl|exact absurd rfl (h _ _ _)|exact absurd rfl (a _)
theorem kD (x:AV):(∃ xs k e,x= .own xs k e)\/(∀ xs k e,x ≠ .own xs k e):=by
 cases x<;>first|exact .inl ⟨_,_,_,rfl⟩|exact .inr (λ_ _ _ h=>by cases h)
theorem Em (x:AV):(∃ l,x= .tup l)\/(∀ l,x ≠ .tup l):=by
 cases x<;>first|exact .inl ⟨_,rfl⟩|exact .inr (λ_ h=>by cases h)
theorem vV {F:AV->AV} (c:J_ F):∀ (l:List AV) (a b:Nat),(fK a (l.map F)).2=(fK b l).2
 | [],a,b=>rfl
 | x::r,a,b=>by
  rcases kD x with ⟨d,k,e,rfl⟩|hx
  .simp only [Xqg,c.own,fK];rw [vV c r (a+1) (b+1)]
  .rw [Xqg,bJ a (c.not x hx),bJ b hx];exact vV c r a b
theorem EW {F:AV->AV} (c:J_ F) (x:AV) (a b:Nat):(kE a (F x)).2=(kE b x).2:=by
 rcases kD x with ⟨d,k,e,rfl⟩|hx
 .rw [c.own];rfl
 .rcases Em x with ⟨l,rfl⟩|ht
  .rw [c.tup];simp only [kE];exact vV c l a b
  .rw [jP a (c.not x hx) (c.notT x ht),jP b hx ht]
theorem yg {F:AV->AV} (a:J_ F) {gh gf gN:dK} {m mN:aW} {S:aO} {n nid:Nat} (c:∀ x v,VR gh m S x v->VR gN mN S (F x) v) (b:∀ i k v,VR gf m S (.ref (n+i) 0 0 k) v->VR gN mN S (.ref (nid+i) 0 0 k) v):
  ∀ (l:List AV) (vs:List Value) (j:Nat),jm gh gf m S (n+j) l vs->bu gN mN S (fK (nid+j) (l.map F)).1 vs
 | [],[],j,_=>by simp [fK,bu]
 | x::r,v::vs,j,h=>by
  rcases kD x with ⟨d,k,e,rfl⟩|hxo
  .simp only [jm] at h;simp only [Xqg,a.own,fK,bu];exact ⟨b j k v h.1,by have:=yg a c b r vs (j+1);rw [<- Xj2,<- Xj2] at this;exact this h.2⟩
  .rw [dh hxo] at h;rw [Xqg,bJ _ (a.not x hxo)];simp only [bu];exact ⟨c x v h.1,yg a c b r vs j h.2⟩
 | [],_::_,_,h=>by simp [jm] at h
 |x::r,[],_,h=>by cases x<;>simp [jm] at h
theorem Jd {F:AV->AV} (a:J_ F) {gh gf gN:dK} {m mN:aW} {S:aO} {n nid:Nat} (c:∀ x v,VR gh m S x v->VR gN mN S (F x) v) (b:∀ i k v,VR gf m S (.ref (n+i) 0 0 k) v->VR gN mN S (.ref (nid+i) 0 0 k) v)
  {x:AV} {v:Value} (h:zi gh gf m S n x v):VR gN mN S (kE nid (F x)).1 v:=by
 rcases kD x with ⟨d,k,e,rfl⟩|hxo
 .simp only [zi] at h;rw [a.own];exact b 0 k v h
 .rcases Em x with ⟨l,rfl⟩|ht
  .simp only [zi] at h;obtain ⟨vs,e,h⟩:=h;rw [a.tup];simp only [kE,VR];exact ⟨vs,e,yg a c b l vs 0 h⟩
  .rw [ni hxo ht] at h;rw [jP _ (a.not x hxo) (a.notT x ht)];exact c x v h
theorem PD:J_ id:=⟨λ_ _ _=>rfl,λl=>by simp,λ_ h=>h,λ_ h=>h⟩
theorem Ql (ρ:Nat->Nat->Option (Nat × Nat)):∀ l,pI ρ l=l.map (ren ρ)
 | []=>rfl
 |x::r=>by simp [pI,Ql ρ r]
theorem KU (ρ:Nat->Nat->Option (Nat × Nat)):J_ (ren ρ):=by
 refine ⟨λ_ _ _=>rfl,λl=>by simp [ren,Ql], ?_, ?_⟩
 .intro x h b n e a;cases x<;>simp only [ren] at a<;>first
   |(cases a;done)
   |(split at a<;>cases a;done)
   |exact h _ _ _ rfl
 .intro x h l a;cases x<;>simp only [ren] at a<;>first
   |(cases a;done)
   |(split at a<;>cases a;done)
   |exact h _ rfl
theorem DT:∀ (bs:List aU) (n b:Nat),look (IX n bs) b=if n<=b then bs[b - n]? else none
 | [],n,b=>by simp [IX,look]
 | B::r,n,b=>by
  simp only [IX,look];cases h:Xqk n b with
  |true=>
   have:=aN h;subst this;simp
  | false=>
   have a:n ≠ b:=by intro e;subst e;simp at h
   rw [DT r (n+1) b];by_cases hle:n<=b
   .rw [if_pos hle,if_pos (show n+1<=b by omega)];obtain ⟨d,hd⟩:∃ d,b - n=d+1:=⟨b - n - 1,by omega⟩
    rw [hd,Xja,show b - (n+1)=d by omega]
   .rw [if_neg hle,if_neg (show ¬ n+1<=b by omega)]
theorem Lc {rd:dK} {mk:aU->aU}:∀ (fp:List Nat) (b:Nat),look (fp.filterMap λb=>(rd b).map λB=>(b,mk B)) b=if b ∈ fp then (rd b).map mk else none
 | [],b=>by simp [look]
 | a::r,b=>by
  have f:=Lc (rd:=rd) (mk:=mk) r b;cases c:rd a with
  |none=>
   rw [Xv7 (by simp [c]),f];by_cases hab:b=a
   .subst hab;simp [c]
   .simp [hab]
  | some B=>
   rw [Xv8 (by simp [c];rfl)];simp only [look];cases h:Xqk a b with
   |true=>have:=aN h;subst this;simp [c]
   |false=>
    have d:b ≠ a:=by intro e;subst e;simp at h
    simp only [f,Xjj,d,false_or]
end
end AM
namespace AM
open Go
def ahy (g:dK) (m:aW) (S:aO):lG->Ending->Prop
 | .ret v,e=> ∃ cv,e= .returned cv/\VR g m S v cv
 | .pan v,e=> ∃ cv,e= .panicked [{v:=cv,recovered:=false}]/\VR g m S v cv
def acX (ap:AP) (g:dK) (m:aW) (S:aO) (w:World) (out:lG) (ups:List (Nat × aU)) (e:Ending) (w':World):Prop:=
 ∃ m' S',b_ ap (dR g ups) m' S' w'/\Fr g m S w (dR g ups) m' S' w'/\ahy (dR g ups) m' S' out e
theorem fH {h a:List aU} {b:Nat} (c:b<h.length):bz (h++a) b=bz h b:=by
 simp [bz,Xxf c]
theorem jE {h a:List aU} {b:Nat} (c:h.length<=b):bz (h++a) b=bz a (b - h.length):=by
 simp [bz,List.getElem?_append_right c]
def uY (l:List aU):Prop:=∀ B ∈ l,B.pr=true/\B.fro=false/\B.ver=0
theorem vW:∀ (l:List AV) (n:Nat),uY (fK n l).2
 | [],n=>by simp [fK,uY]
 | x::r,n=>by
  rcases kD x with ⟨b,k,e,rfl⟩|hx
  .simp only [fK];intro B a;rcases List.mem_cons.1 a with rfl|a
   .exact ⟨rfl,rfl,rfl⟩
   .exact vW r (n+1) B a
  .rw [bJ n hx];exact vW r n
theorem Qk (x:AV) (n:Nat):uY (kE n x).2:=by
 rcases kD x with ⟨b,k,e,rfl⟩|hx
 .intro B a;simp [kE] at a;subst a;exact ⟨rfl,rfl,rfl⟩
 .rcases Em x with ⟨l,rfl⟩|ht
  .simp only [kE];exact vW l n
  .rw [jP n hx ht];simp [uY]
theorem ES (o:lG) (n:Nat):uY (lS n o):=by
 cases o with
 |ret v=>exact Qk v n
 |pan v=>simp [lS,uY]
section
variable {P:Program} {ap:AP} {g:dK} {m:aW} {S:aO} {w:World}
def NZ (nid:Nat) (F:AV->AV):lG->lG
 | .ret v=> .ret (kE nid (F v)).1
 | .pan v=> .pan (F v)
theorem Ey (l:b_ ap g m S w) {rd:dK} (j:∀ b B,rd b=some B->g b=some B) {L:List Nat} (M:∀ b B,rd b=some B->b ∈ L) {nid:Nat} {args args':List AV} {cargs:List Value} {out:lG}
  (ha:lQ (frz rd 6) args=some args') (hv:bu g m S args cargs) {C:List Value->(Ending->World->Prop)->Prop} (hmono:∀ cargs R R',C cargs R->(∀ e w',R e w'->R' e w')->C cargs R')
  (f:∀ m1 S1,iV S S1->b_ ap (bz []) m1 S1 w->bu (bz []) m1 S1 args' cargs->C cargs λe w'=> ∃ m' S',L9 ap [] m1 S1 w out [] m' S' w' e) (hfr:∀ i,i<(lS 0 out).length->g (nid+i)=none):
  C cargs λe w'=>acX ap g m S w (NZ nid id out) (IX nid (lS 0 out)++L.filterMap λb=>(rd b).map λB=>(b,{B with fro:=true,fz:=B.cells.length})) e w':=by
 have Z:bT (dL S m rd w) args' cargs:=xm (λx v y a d=>nJ l j 6 x v y a d) ha hv;have t:=qo S m rd w
 let m0:aW:=λ_=>(0,0)
 have Q:b_ ap (bz []) m0 (dL S m rd w) w:=by
  refine ⟨λb b' B B' h=>by simp [bz] at h,λb B h=>by simp [bz] at h,λk o v h=>sS l h,λb B h=>by simp [bz] at h, ?_⟩;intro k xs hk;obtain ⟨vs,a,d⟩:=l.glob k xs hk;exact ⟨vs,bD t _ a,d.mono t⟩
 refine hmono _ _ _ (f m0 (dL S m rd w) t Q (bU _ Z)) ?_
 rintro e w' ⟨m',S',hF⟩
 obtain ⟨A,p,q⟩:=hF;simp only [Xqc,Xqa] at A p q;generalize F:lS 0 out=bs at A p hfr;have D:uY bs:=F ▸ ES out 0
 let gN:dK:=dR g (IX nid bs++L.filterMap λb=>(rd b).map λB=>(b,{B with fro:=true,fz:=B.cells.length}))
 let mN:aW:=λb=>if nid<=b/\b - nid<bs.length then m' (b - nid) else m b
 have s:∀ b,gN b=if nid<=b/\b - nid<bs.length then bs[b - nid]? else match rd b with|some B=>some {B with fro:=true,fz:=B.cells.length}|none=>g b:=by
  intro b;show dR g _ b=_;unfold dR;have N:∀ mk:aU->aU,(if b ∈ L then (rd b).map mk else none)=(rd b).map mk:=by
   intro mk;split
   .rfl
   .rename_i c;cases r:rd b with
    |none=>rfl
    |some B=>exact absurd (M b B r) c
  rw [gX,DT,Lc,N];by_cases a:nid<=b
  .by_cases d:b - nid<bs.length
   .have f:nid<=b/\b - nid<bs.length:=⟨a,d⟩
    rw [if_pos a,if_pos f,μ d]
   .have f:¬ (nid<=b/\b - nid<bs.length):=λh=>d h.2
    rw [if_pos a,if_neg f,Xq9 (Yqz d)];cases rd b<;>rfl
  .have f:¬ (nid<=b/\b - nid<bs.length):=λh=>a h.1
   rw [if_neg a,if_neg f];cases rd b<;>rfl
 have hnidg:∀ b B,g b=some B->¬ (nid<=b/\b - nid<bs.length):=by
  rintro b B c ⟨a,d⟩
  have:=hfr (b - nid) d;rw [show nid+(b - nid)=b by omega,c] at this;cases this
 have X:Ge g m gN mN:=by
  intro b B c;have hn:=hnidg b B c;have E:mN b=m b:=if_neg hn;rw [s,if_neg hn];cases r:rd b with
  |none=>exact ⟨B,c,rfl,.inl ⟨rfl,E⟩⟩
  |some B1=>
   have:=j b B1 r;rw [c] at this;cases this;exact ⟨_,rfl,rfl,.inl ⟨rfl,E⟩⟩
 have z:∀ i B,bs[i]? =some B->gN (nid+i)=some B/\mN (nid+i)=m' i:=by
  intro i B I;have hl:=(List.getElem?_eq_some_iff.1 I).1;have f:nid<=nid+i/\nid+i - nid<bs.length:=by omega
  refine ⟨by rw [s,if_pos f,show nid+i - nid=i by omega];exact I, ?_⟩;show (if _ then _ else _)=_;rw [if_pos f,show nid+i - nid=i by omega]
 obtain ⟨V,W⟩:=agn (g:=g) (m:=m) (S:=S) (w:=w) l A p (λi=>nid+i) (λi Bc h=>by simp [bz] at h) t
  (λk o v h=>(fU h).imp id λ⟨_,b,B,a,d,_⟩=> ⟨b,B,j b B a,d⟩) (gN:=gN) (mN:=mN) (λi v=>some (nid+i,v))
  (by
   intro b ver b' ver' h B hB J;simp only [Option.some.injEq,Prod.mk.injEq] at h;obtain ⟨rfl,rfl⟩:=h;obtain ⟨a,d⟩:=z b B hB;exact ⟨B,a,J,λe=> ⟨e,d,rfl⟩⟩)
  (by
   intro i Bc I;obtain ⟨a,d⟩:=z i Bc I;exact ⟨Bc,a,d,rfl,rfl,rfl,rfl,λ_=>rfl,λhp=>by rw [(D Bc (Xqm I)).1] at hp;cases hp⟩)
  (by
   intro b B c;by_cases f:nid<=b/\b - nid<bs.length
   .rw [s,if_pos f] at c;exact .inl ⟨b - nid,B,c,by omega⟩
   .have E:mN b=m b:=if_neg f;rw [s,if_neg f] at c;right;cases r:rd b with
    | none=>
     rw [r] at c;have c:g b=some B:=c;refine ⟨B,c,E,rfl,rfl,rfl,(l.blk b B c).fz0,(l.blk b B c).fzle,(λi Bc h=>by simp [bz] at h), ?_⟩;intro o v U;rcases fU U with h|⟨_,T,B1,a,d,_⟩
     .exact l.own b B c o v h
     .have:=l.inj T b B1 B (j _ _ a) c d;subst this;rw [a] at r;cases r
    | some B1=>
     rw [r] at c;have c:some {B1 with fro:=true,fz:=B1.cells.length}=some B:=c;cases c;have u:=j b B1 r;refine ⟨B1,u,E,rfl,rfl,rfl,(λh=>by cases h),κ _,(λi Bc h=>by simp [bz] at h), ?_⟩;intro o v U;refine ⟨rfl, ?_⟩;rcases fU U with h|⟨_,T,B2,a,d,O⟩
     .exact υ (l.own b B1 u o v h).2 (l.blk b B1 u).fzle
     .have:=l.inj T b B2 B1 (j _ _ a) u d;subst this;rw [a] at r;cases r;exact O)
  X
 refine ⟨mN,S',V,W, ?_⟩;show ahy gN mN S' (NZ nid id out) e;cases out with
 |ret v=>
  obtain ⟨cv,Y,a⟩:=q;refine ⟨cv,Y, ?_⟩;have G:(kE 0 v).2=bs:=F;simp only [Xqa,Xqc,G] at a;refine Jd (n:=0) PD (λx v K=>iE x (nC x K)) ?_ a;intro i k v K;rw [Δ] at K;simp only [VR] at K ⊢;obtain ⟨B,d,O,h4,h5⟩:=K;obtain ⟨h6,h7⟩:=z i B d;exact ⟨B,h6,O,h4,by rw [h7];exact h5⟩
 |pan v=>
  obtain ⟨cv,Y,a⟩:=q;exact ⟨cv,Y,iE _ (nC _ a)⟩
end
end AM
namespace AM
open Go
theorem P9 {b:Nat} {r:List Nat} (h:vO (b::r)=true):b ∉ r/\vO r=true:=by
 simp only [vO,τ,Xqs] at h;refine ⟨λa=> ?_,h.2⟩;rw [jf.2 a] at h;cases h.1
theorem uB:∀ {l:List Nat} {b p:Nat},tC l b=some p->l[p]? =some b
 | [],b,p,h=>by simp [tC] at h
 | c::r,b,p,h=>by
  simp only [tC] at h;split at h
  .rename_i a;cases h;rw [aN a];rfl
  .simp only [Xqq] at h;obtain ⟨q,d,rfl⟩:=h;simpa using uB d
theorem sJ:∀ {l:List Nat} {b p:Nat},vO l=true->l[p]? =some b->tC l b=some p
 | [],b,p,_,h=>by simp at h
 |c::r,b,0,hn,h=>by simp at h;subst h;simp [tC]
 | c::r,b,p+1,hn,h=>by
  obtain ⟨f,d⟩:=P9 hn;have h:r[p]? =some b:=by simpa using h
  have a:Xqk c b=false:=by
   cases e:Xqk c b with
   |false=>rfl
   |true=>exact absurd (aN e ▸ Xqm h) f
  simp [tC,a,sJ d h]
theorem PT {mk:Nat->aU->aU}:∀ (fp:List Nat) (h':List aU) (b:Nat),look ((Q9 fp h').map λ(b,B)=>(b,mk b B)) b=(tC fp b).bind λp=>(h'[p]?).map (mk b)
 | [],h',b=>by cases h'<;>simp [Q9,look,tC]
 |a::r,[],b=>by
  simp only [Q9,List.map_nil,look,tC];cases Xqk a b with
  |true=>rfl
  |false=>cases tC r b<;>rfl
 | a::r,B::q,b=>by
  simp only [Q9,Xqg,look,tC];cases h:Xqk a b with
  |true=>have:=aN h;subst this;rfl
  |false=>
   simp only [PT r q b];cases tC r b<;>simp
section
variable {P:Program} {ap:AP} {g:dK} {m:aW} {S:aO} {w:World}
def OG (ρ:Nat->Nat->Option (Nat × Nat)) (B:aU):aU:={B with cells:=(match B.pr with|true=>B.cells|false=>pI ρ B.cells),ver:=0}
theorem ar1 {a b n i:Nat} (h:b<=a):n+(a+i - b)=n+(a - b)+i:=by omega
theorem ar2 {a b i:Nat} (h:b<=a):b+(a+i - b)=a+i:=by omega
theorem ada {ρ:Nat->Nat->Option (Nat × Nat)} {l:List aU} (h:uY l):l.map (Fv ρ 0)=l:=by
 induction l with
 |nil=>rfl
 |cons B r ih=>
  rw [Xqg,ih λB d=>h B (by simp [d])];obtain ⟨b,_,a⟩:=h B (by simp);obtain ⟨c,v,f,z,e,p⟩:=B;simp only at b a;subst b a;rfl
theorem Ez (L:b_ ap g m S w) {rd:dK} (hrd:∀ b B,rd b=some B->g b=some B) {a:List Nat} {Q:List aU} (hbl:lQ rd a=some Q) (E:vO a=true) {nid:Nat} {args:List AV} {cargs:List Value} {out:lG}
  {vers:Nat->Nat} (hvers:∀ b B,rd b=some B->vers b=B.ver) {ρ ρ':Nat->Nat->Option (Nat × Nat)} (hρe:∀ b v,ρ b v=match Xqk v (vers b) with|true=>(tC a b).map λp=>(p,0)|false=>none)
  {h':List aU} (hρe':ρ'=Uz nid a vers h'.length)
  (hv:bu g m S args cargs) {C:List Value->(Ending->World->Prop)->Prop} (hmono:∀ cargs R R',C cargs R->(∀ e w',R e w'->R' e w')->C cargs R')
  (r:∀ m1 S1,iV S S1->b_ ap (bz (Q.map (OG ρ))) m1 S1 w->bu (bz (Q.map (OG ρ))) m1 S1 (pI ρ args) cargs->C cargs λe w'=> ∃ m' S',L9 ap (Q.map (OG ρ)) m1 S1 w out h' m' S' w' e) (hl:a.length<=h'.length) (hfr:∀ i,i<(h'.length - a.length)+(lS h'.length out).length->g (nid+i)=none):
  C cargs λe w'=>acX ap g m S w (NZ (nid+(h'.length - a.length)) (ren ρ') out) (IX nid ((h'.drop a.length).map (Fv ρ' 0)++lS h'.length out)++(Q9 a h').map λ(b,B)=>(b,Fv ρ' (vers b) B)) e w':=by
 have t:∀ p b,a[p]? =some b->∃ B,rd b=some B/\g b=some B/\bz (Q.map (OG ρ)) p=some (OG ρ B):=by
  intro p b hp;obtain ⟨B,c,d⟩:=(jH hbl).2 p b hp;exact ⟨B,d,hrd b B d,by simp [bz,c]⟩
 have z:∀ p Bc,bz (Q.map (OG ρ)) p=some Bc->∃ b B,a[p]? =some b/\rd b=some B/\g b=some B/\Bc=OG ρ B:=by
  intro p Bc hp;have y:p<a.length:=by
   have:=(List.getElem?_eq_some_iff.1 hp).1;rw [List.length_map,(jH hbl).1] at this;exact this
  obtain ⟨B,c,d,f⟩:=t p _ (μ y);rw [f] at hp;cases hp;exact ⟨_,B,μ y,c,d,rfl⟩
 let mc:aW:=λp=>m (a.getD p 0)
 have l:∀ p b,a[p]? =some b->mc p=m b:=by
  intro p b hp;show m (a.getD p 0)=_;rw [ξ,hp];rfl
 have N:wI g m (bz (Q.map (OG ρ))) mc ρ:=by
  intro b ver W J h B K F;rw [hρe] at h;split at h
  .rename_i hve;simp only [Xqq,Prod.mk.injEq] at h;obtain ⟨p,hp,rfl,rfl⟩:=h;have hp:=uB hp;obtain ⟨B1,c,d,f⟩:=t p b hp;rw [d] at K;cases K;exact ⟨_,f,Xq7 _,λ_=> ⟨by rw [aN hve,hvers b _ c],l p b hp,rfl⟩⟩
  .cases h
 have hSc:b_ ap (bz (Q.map (OG ρ))) mc S w:=by
  refine ⟨?_, ?_,L.sealed, ?_,L.glob⟩
  .intro p q Bp Bq hp hq e;obtain ⟨b,B,c,d,f,_⟩:=z p Bp hp;obtain ⟨W,B',Y,h2',h3',_⟩:=z q Bq hq;rw [l p b c,l q W Y] at e;have:=L.inj b W B B' f h3' e;subst this;have X:=sJ E c;rw [sJ E Y] at X;cases X;rfl
  .intro p Bp hp;obtain ⟨b,B,c,d,f,rfl⟩:=z p Bp hp;rw [l p b c];obtain ⟨⟨cur,e,vs,rest,k1,k2,k3,k4,k5,k6⟩,k7,k8⟩:=L.blk b B f;cases hp:B.pr with
   |true=>exact ⟨⟨cur,e,vs,rest,k1,k2,λ_=>by simpa [OG,hp] using k3 hp,by simpa [OG,hp] using bU _ (k3 hp),k5,k6⟩,k7,by simpa [OG,hp] using k8⟩
   | false=>
    have hv:=mf (iV.refl S) N _ k4;exact ⟨⟨cur,e,vs,rest,k1,k2,λh=>by simp [OG,hp] at h,by simpa [OG,hp] using hv,k5,k6⟩,k7,by
     have:(OG ρ B).cells.length=B.cells.length:=by simp only [OG,hp];rw [di k4,di hv]
     rw [this];exact k8⟩
  .intro p Bp hp o v ho;obtain ⟨b,B,c,d,f,rfl⟩:=z p Bp hp;rw [l p b c] at ho;exact L.own b B f o v ho
 refine hmono _ _ _ (r mc S (iV.refl S) hSc (mf (iV.refl S) N _ hv)) ?_
 rintro e w' ⟨m',S',hF⟩
 obtain ⟨Z,D,O⟩:=hF;generalize hbs:lS h'.length out=bs0 at Z D hfr;have hown:uY bs0:=hbs ▸ ES out h'.length;obtain ⟨bs,G⟩:∃ bs,bs=h'.drop a.length++bs0:=⟨_,rfl⟩
 have hbsl:bs.length=(h'.length - a.length)+bs0.length:=by rw [G,List.length_append,List.length_drop]
 rw [<- hbsl] at hfr
 let ups:=(Q9 a h').map λ(b,B)=>(b,Fv ρ' (vers b) B)
 rw [show (h'.drop a.length).map (Fv ρ' 0)++bs0=bs.map (Fv ρ' 0) by rw [G,List.map_append,ada hown]]
 let gN:dK:=dR g (IX nid (bs.map (Fv ρ' 0))++ups)
 let mN:aW:=λb=>if nid<=b/\b - nid<bs.length then m' (a.length+(b - nid)) else match tC a b with|some p=>m' p|none=>m b
 have I:∀ b,gN b=if nid<=b/\b - nid<bs.length then (bs[b - nid]?).map (Fv ρ' 0) else match (tC a b).bind λp=>(h'[p]?).map (Fv ρ' (vers b)) with|some B=>some B|none=>g b:=by
  intro b;show dR g _ b=_;unfold dR;rw [gX,DT,PT (mk:=λb B=>Fv ρ' (vers b) B)];by_cases c:nid<=b
  .by_cases d:b - nid<bs.length
   .have r:nid<=b/\b - nid<bs.length:=⟨c,d⟩
    rw [if_pos c,if_pos r,Xqw,μ d];rfl
   .have r:¬ (nid<=b/\b - nid<bs.length):=λh=>d h.2
    rw [if_pos c,if_neg r,Xqw,Xq9 (Yqz d)];rfl
  .have r:¬ (nid<=b/\b - nid<bs.length):=λh=>c h.1
   rw [if_neg c,if_neg r];rfl
 have hnidg:∀ b B,g b=some B->¬ (nid<=b/\b - nid<bs.length):=by
  rintro b B j ⟨c,d⟩
  have:=hfr (b - nid) d;rw [show nid+(b - nid)=b by omega,j] at this;cases this
 have hh':∀ p,p<a.length->∃ B,h'[p]? =some B:=λp hp=> ⟨_,μ (by omega)⟩
 have V:∀ p b,a[p]? =some b->∀ Bc,h'[p]? =some Bc->gN b=some (Fv ρ' (vers b) Bc)/\mN b=m' p:=by
  intro p b hp Bc K;obtain ⟨B,c,d,f⟩:=t p b hp;have hn:=hnidg b B d;refine ⟨by rw [I,if_neg hn,sJ E hp];simp [K], ?_⟩;show (if _ then _ else _)=_;rw [if_neg hn,sJ E hp]
 have T:∀ i B,bs[i]? =some B->gN (nid+i)=some (Fv ρ' 0 B)/\mN (nid+i)=m' (a.length+i):=by
  intro i B A;have hl:=(List.getElem?_eq_some_iff.1 A).1;have r:nid<=nid+i/\nid+i - nid<bs.length:=by omega
  refine ⟨by rw [I,if_pos r,show nid+i - nid=i by omega,A];rfl, ?_⟩;show (if _ then _ else _)=_;rw [if_pos r,show nid+i - nid=i by omega]
 have U:∀ p,a.length<=p->bz (h'++bs0) p=bs[p - a.length]? :=by
  intro p hp;have he:h'++bs0=h'.take a.length++bs:=by rw [G,<- Xqe,List.take_append_drop]
  have y:(h'.take a.length).length=a.length:=by rw [List.length_take];omega
  rw [he,jE (by omega),y];rfl
 have s:∀ p Bc,bz (h'++bs0) p=some Bc->(p<a.length/\h'[p]? =some Bc)\/(a.length<=p/\bs[p - a.length]? =some Bc):=by
  intro p Bc h;by_cases hp:p<a.length
  .rw [fH (by omega)] at h;exact .inl ⟨hp,h⟩
  .rw [U p (by omega)] at h;exact .inr ⟨by omega,h⟩
 have hren':wI (bz (h'++bs0)) m' gN mN ρ':=by
  intro p ver W J h Bc K F;rw [hρe'] at h;unfold Uz at h;split at h
  .rename_i b hp;cases h;rcases s p Bc K with ⟨c,d⟩|⟨c,_⟩
   .obtain ⟨f,u⟩:=V p _ hp Bc d;exact ⟨_,f,by simp only [Fv];omega,λe=> ⟨by simp only [Fv] at e;omega,u,rfl⟩⟩
   .have:=(List.getElem?_eq_some_iff.1 hp).1;omega
  .rename_i hp;split at h
   .cases h;have hge:=List.getElem?_eq_none_iff.1 hp;rcases s p Bc K with ⟨c,_⟩|⟨c,d⟩
    .omega
    .obtain ⟨f,u⟩:=T _ Bc d;exact ⟨_,f,by simp only [Fv];omega,λe=> ⟨by simp only [Fv] at e;omega,by rw [u,show a.length+(p - a.length)=p by omega],rfl⟩⟩
   .cases h
 have hge:Ge g m gN mN:=by
  intro b B j;have hn:=hnidg b B j;cases A:tC a b with
  | none=>
   have hm:mN b=m b:=by
    show (if _ then _ else _)=_;rw [if_neg hn,A]
   refine ⟨B, ?_,rfl,.inl ⟨rfl,hm⟩⟩;rw [I,if_neg hn,A];exact j
  | some p=>
   have hp:=uB A;obtain ⟨B1,c,d,f⟩:=t p b hp;rw [d] at j;cases j;obtain ⟨Bc,u,h5,M⟩:=D.ge p _ f;rcases s p Bc u with ⟨_,h7⟩|⟨h7,_⟩
   .obtain ⟨h8,h9⟩:=V p b hp Bc h7;refine ⟨_,h8,h5, ?_⟩;rcases M with ⟨M,h6'⟩|M
    .left;refine ⟨?_,by rw [h9,h6',l p b hp]⟩;simp only [Fv,OG] at M ⊢;rw [hvers b _ c];omega
    .right;simp only [Fv,OG] at M ⊢;rw [hvers b _ c];omega
   .have:=(List.getElem?_eq_some_iff.1 hp).1;omega
 let ι:Nat->Nat:=λp=>if p<a.length then a.getD p 0 else nid+(p - a.length)
 have hι:∀ p b,a[p]? =some b->ι p=b:=by
  intro p b hp;show (if _ then _ else _)=_;rw [if_pos (List.getElem?_eq_some_iff.1 hp).1,ξ,hp];rfl
 have hι':∀ i,ι (a.length+i)=nid+i:=by
  intro i;show (if _ then _ else _)=_;rw [if_neg (by omega)];congr 1;omega
 obtain ⟨hsN,hfN⟩:=agn (g:=g) (m:=m) (S:=S) (w:=w) L Z D ι
  (by
   intro p Bc hp;obtain ⟨b,B,c,d,f,rfl⟩:=z p Bc hp;rw [hι p b c];exact ⟨B,f,l p b c⟩) (iV.refl S) (λk o v h=> .inl h) (gN:=gN) (mN:=mN) ρ' hren'
  (by
   intro p Bc hp;rcases s p Bc hp with ⟨c,d⟩|⟨c,d⟩
   .have hp:=μ c;obtain ⟨f,u⟩:=V p _ hp Bc d;rw [hι p _ hp];exact ⟨_,f,u,rfl,rfl,rfl,rfl,λh=>by simp [Fv,h],λh=>by simp [Fv,h]⟩
   .obtain ⟨i,rfl⟩:∃ i,p=a.length+i:=⟨p - a.length,by omega⟩
    rw [show a.length+i - a.length=i by omega] at d;obtain ⟨f,u⟩:=T i Bc d;rw [hι' i];exact ⟨_,f,u,rfl,rfl,rfl,rfl,λh=>by simp [Fv,h],λh=>by simp [Fv,h]⟩)
  (by
   intro b B j;by_cases r:nid<=b/\b - nid<bs.length
   .rw [I,if_pos r,Xqq] at j;obtain ⟨Bc,j,_⟩:=j;refine .inl ⟨a.length+(b - nid),Bc, ?_,by rw [hι'];omega⟩;rw [U _ (by omega),show a.length+(b - nid) - a.length=b - nid by omega];exact j
   .rw [I,if_neg r] at j;cases A:tC a b with
    |some p=>
     have hp:=uB A;have y:=(List.getElem?_eq_some_iff.1 hp).1;obtain ⟨Bc,u⟩:=hh' p y;exact .inl ⟨p,Bc,by rw [fH (by omega)];exact u,(hι p b hp).symm⟩
    | none=>
     have hm:mN b=m b:=by
      show (if _ then _ else _)=_;rw [if_neg r,A]
     rw [A] at j;have j:g b=some B:=j;refine .inr ⟨B,j,hm,rfl,rfl,rfl,(L.blk b B j).fz0,(L.blk b B j).fzle, ?_,λo v ho=>L.own b B j o v ho⟩;intro p Bc hp e;obtain ⟨b1,B1,c,_⟩:=z p Bc hp;rw [hι p b1 c] at e;subst e;rw [sJ E c] at A;cases A)
  hge
 refine ⟨mN,S',hsN,hfN, ?_⟩;show ahy gN mN S' (NZ (nid+(h'.length - a.length)) (ren ρ') out) e;have hrenh:wI (bz h') m' gN mN ρ':=by
  intro p ver W J h Bc K F;refine hren' p ver W J h Bc ?_ F;rw [fH (List.getElem?_eq_some_iff.1 K).1];exact K
 cases out with
 |ret v=>
  obtain ⟨cv,X,c⟩:=O;refine ⟨cv,X, ?_⟩;have hbs':(kE h'.length v).2=bs0:=hbs;rw [hbs'] at c;refine Jd (n:=h'.length) (KU ρ') (λx v hx=>Du (iV.refl S') hrenh x hx) ?_ c;intro i k v hx;simp only [VR] at hx ⊢;obtain ⟨B,d,f,u,h5⟩:=hx;rw [U _ (Xqr hl (Nat.le_add_right _ _))] at d;obtain ⟨M,h7⟩:=T _ B d;rw [ar1 hl] at M h7;rw [ar2 hl] at h7;exact ⟨_,M,Xq7 _,u,λe=>by rw [h7];exact h5 (by simpa [Fv] using e)⟩
 |pan v=>
  obtain ⟨cv,X,c⟩:=O;exact ⟨cv,X,Du (iV.refl S') hrenh _ c⟩
end
end AM
namespace AM
open Go
section
variable {P:Program} {ap:AP} {H:dD}
theorem MN {n:dK} {nid f:Nat} {args:List AV} {md:AV} {c z:Cx} {r:YI} (h:Bz ap H n nid md f args c= .ok r z):
  ∃ args0 h0 out0 h0',H c md f args0 h0= .ok (out0,h0',r.md) z/\((∃ v,out0= .ret v)↔∃ v,r.out= .ret v)/\
  ∀ g m S w cargs (C:List Value->(Ending->World->Prop)->Prop),(∀ cargs R R',C cargs R->(∀ e w',R e w'->R' e w')->C cargs R')->b_ ap g m S w->(∀ b ∈ r.fp,∀ B,n b=some B->g b=some B)->(∀ i,i<4->g (nid+i)=none)->bu g m S args cargs->
   (∀ m1 S1,iV S S1->b_ ap (bz h0) m1 S1 w->bu (bz h0) m1 S1 args0 cargs->C cargs λe w'=> ∃ m' S',L9 ap h0 m1 S1 w out0 h0' m' S' w' e)->
   C cargs λe w'=>acX ap g m S w r.out r.ups e w':=by
 unfold Bz at h;simp only at h;generalize E:wW n 6 (jK (cZ args))=fp at h
 let rd:dK:=λb=>match rP fp b with|true=>n b|false=>none
 have a:∀ b B,rd b=some B->b ∈ fp/\n b=some B:=by
  intro b B d;dsimp only [rd] at d;split at d
  .rename_i G;exact ⟨jf.1 G,d⟩
  .cases d
 split at h
 .split at h
  .cases h
  .rename_i args' D;obtain ⟨⟨out,u,md⟩,F,y,h⟩:=R.bind_ok h;dsimp only at h;split at h
   .cases h
   .split at h
    .rename_i v;split at h
     .rename_i o;cases h;refine ⟨_,_,_,_,y,⟨λ_=> ⟨_,rfl⟩,λ_=> ⟨_,rfl⟩⟩, ?_⟩;intro g m S w cargs C hmono s k l t q;have j:lS 0 (lG.ret v)=(kE nid v).2:=EW PD v 0 nid;have:=Ey s (rd:=rd) (λb B d=>k b (a b B d).1 B (a b B d).2) (λb B d=>(a b B d).1) (nid:=nid) D t hmono q (λi p=>l i (by rw [j] at p;have:=gG o;omega));rw [j] at this;exact this
     .cases h
    .rename_i v;cases h;refine ⟨_,_,_,_,y,⟨(λ⟨_,h⟩=>by cases h),(λ⟨_,h⟩=>by cases h)⟩, ?_⟩;intro g m S w cargs C hmono s k l t q;exact Ey s (rd:=rd) (λb B d=>k b (a b B d).1 B (a b B d).2) (λb B d=>(a b B d).1) (nid:=nid) D t hmono q (λi p=>by simp [lS] at p)
 .split at h
  .cases h
  .rename_i I x;obtain ⟨⟨out,u,md⟩,F,y,h⟩:=R.bind_ok h;dsimp only at h;split at h
   .cases h
   .rename_i hcond;simp only [τ] at hcond;have A:=gG hcond.1
    let vers:Nat->Nat:=λb=>match rd b with|some B=>B.ver|none=>0
    have hvers':∀ b B,rd b=some B->vers b=B.ver:=by
     intro b B d;simp only [vers,d]
    let ρ':Nat->Nat->Option (Nat × Nat):=Uz nid fp vers u.length
    split at h
    .rename_i v;split at h
     .rename_i o;cases h;refine ⟨_,_,_,_,y,⟨λ_=> ⟨_,rfl⟩,λ_=> ⟨_,rfl⟩⟩, ?_⟩;intro g m S w cargs C hmono s k l t q;have j:lS u.length (lG.ret v)=(kE (nid+(u.length - fp.length)) (ren ρ' v)).2:=(EW (KU ρ') v (nid+(u.length - fp.length)) u.length).symm;have:=Ez s (rd:=rd) (λb B d=>k b (a b B d).1 B (a b B d).2) x hcond.2 (nid:=nid) hvers' (ρ':=ρ') (λb v=>rfl) rfl t hmono q A (λi p=>l i (by rw [j] at p;exact υ p (gG o)));rw [j] at this;exact this
     .cases h
    .rename_i v;split at h
     .rename_i o;cases h;refine ⟨_,_,_,_,y,⟨(λ⟨_,h⟩=>by cases h),(λ⟨_,h⟩=>by cases h)⟩, ?_⟩;intro g m S w cargs C hmono s k l t q;exact Ez s (rd:=rd) (λb B d=>k b (a b B d).1 B (a b B d).2) x hcond.2 (nid:=nid) hvers' (ρ':=ρ') (λb v=>rfl) rfl t hmono q A (λi p=>l i (by simp only [lS,Xqa,Xq4] at p;exact υ p (gG o)))
     .cases h
theorem G9 (s:ku P ap H) {a:dK} {nid f:Nat} {args:List AV} {c p:Cx} {r:YI} (h:Bz ap H a nid .dead f args c= .ok r p) (u:p.Ok):
  c.Ok/\zU P f/\∀ g m S w cargs,b_ ap g m S w->(∀ b ∈ r.fp,∀ B,a b=some B->g b=some B)->(∀ i,i<4->g (nid+i)=none)->bu g m S args cargs->
   Calls P f cargs.toArray w λe w'=>acX ap g m S w r.out r.ups e w':=by
 obtain ⟨args0,h0,o,t,y,_,A⟩:=MN h;obtain ⟨n,q⟩:=s _ _ _ _ _ _ _ _ y u;refine ⟨n,q.ent,λg m S w cargs v d k z=> ?_⟩;exact A g m S w cargs (λcargs R=>Calls P f cargs.toArray w R) (λ_ _ _ l j=>l.mono j) v d k z λx S1 _ l j=>q.calls x S1 w cargs l j
end
end AM
namespace AM
open Go
def xk (dec:List (Nat × Bool)) (env:ji):Prop:=∀ t b,look dec t=some b->env.get t= .bool b
def iO (g:dK) (m:aW) (S:aO):List (Nat × List AV)->List Deferred->Prop
 | [],[]=>True
 |d::r,cd::cr=>(∃ cap,cd.target= .fn (.func d.1) cap/\bu g m S d.2 (cd.args++cap).toList)/\iO g m S r cr
 |_,_=>False
theorem yE {g g':dK} {m b:aW} {S S':aO} (a:iV S S') (c:Ge g m g' b):∀ {l:List (Nat × List AV)} {ds:List Deferred},iO g m S l ds->iO g' b S' l ds
 | [],[],_=>by simp only [iO]
 |d::r,cd::cr,h=>by
  simp only [iO] at h ⊢;obtain ⟨⟨cap,f,i⟩,e⟩:=h;exact ⟨⟨cap,f,l_ a c _ i⟩,yE a c e⟩
 | [],_::_,h=>by simp [iO] at h
 |_::_,[],h=>by simp [iO] at h
theorem Ep {g:dK} {m:aW} {S:aO}:∀ {l l':List (Nat × List AV)} {ds ds':List Deferred},iO g m S l ds->iO g m S l' ds'->iO g m S (l++l') (ds++ds')
 | [],_,[],_,_,h'=>by simpa using h'
 |d::r,_,cd::cr,_,h,h'=>by
  simp only [iO] at h;simp only [List.cons_append,iO];exact ⟨h.1,Ep h.2 h'⟩
 | [],_,_::_,_,h,_=>by simp [iO] at h
 |_::_,_,[],_,h,_=>by simp [iO] at h
def wpO (P:Program) (ops:Array Oper) (Q:Exit->Act->World->Prop) (o:Oper) (K:Act->World->Prop) (a:Act) (w:World):Prop:=
 if Region.wanted o (yielded ops a.tmps) then o.wp P a w K Q\/(o.asks P a w/\LetsOut Q) else K (a.put o.dst undef) w
def qy (ap:AP) (o:Oper) (g:dK) (m:aW) (S:aO) (w:World) (a:Act) (v:AV) (ups:List (Nat × aU)) (df:List (Nat × List AV)) (Q:Exit->Act->World->Prop) (K:Act->World->Prop):Option AV->Prop
 |none=> ∀ cv m' S' w' ds,b_ ap (dR g ups) m' S' w'->Fr g m S w (dR g ups) m' S' w'->VR (dR g ups) m' S' v cv->iO (dR g ups) m' S' df ds->K ({a with defers:=ds++a.defers}.put o.dst cv) w'
 |some pv=> ∀ cv m' S' w',b_ ap (dR g ups) m' S' w'->Fr g m S w (dR g ups) m' S' w'->VR (dR g ups) m' S' pv cv->Q (.panic [{v:=cv,recovered:=false}]) a w'
def Me (P:Program) (ap:AP) (ops:Array Oper) (o:Oper) (nid:Nat) (env:ji) (hp:Hp) (rt rb:List Nat) (v:AV) (ups:List (Nat × aU)) (df:List (Nat × List AV)) (p:Option AV):Prop:=
 ∀ g m S w (a:Act),b_ ap g m S w->(∀ t ∈ rt,VR g m S (env.get t) (a.tmps.getD t undef))->(∀ b ∈ rb,∀ B,look hp b=some B->g b=some B)->(∀ i,i<4->g (nid+i)=none)->
  ∀ (Q:Exit->Act->World->Prop) (K:Act->World->Prop),qy ap o g m S w a v ups df Q K p->wpO P ops Q o K a w
structure akw (P:Program) (ap:AP) (ops:Array Oper) (o:Oper) (nid:Nat) (s s':RS) (p:Option AV) (v:AV) (rt rb:List Nat) (ups:List (Nat × aU)) (df:List (Nat × List AV)):Prop where
 env:p=none->s'.env=tN s.env o.dst v
 envp:p ≠ none->s'.env=s.env/\df= []
 hp:s'.hp=ups++s.hp
 md:s'.md=s.md
 dfs:s'.dfs=df++s.dfs
 dec:p=none->xk s'.dec s'.env
 feet:p=none->s'.feet={rt,wt:=M_ o,rb,wb:=ups.map (·.1)}::s.feet
 sem:Me P ap ops o nid s.env s.hp rt rb v ups df p
section
variable {P:Program} {ap:AP} {H:dD}
theorem Z_ (e:Array Value) (t:Nat) {v:Value} (h:e.getD t undef=v) (b:v ≠ undef):e[t]? =some v:=by
 rw [Array.getD_eq_getD_getElem?] at h;cases a:e[t]? with
 |none=>rw [a] at h;exact absurd h.symm b
 |some u=>rw [a] at h;simpa using h
theorem JJ {ops:Array Oper} {tmps:Array Value} {j s:Nat} (hs:(ops[j]?).bind (·.dst)=some s) {b:Bool} (h:tmps.getD s undef= .bool b):yielded ops tmps j=some b:=by
 unfold yielded;rw [hs];simp only [Xvf];rw [Z_ tmps s h (by simp [undef])]
theorem OD {ops:Array Oper} {tmps:Array Value} {j s:Nat} (hs:(ops[j]?).bind (·.dst)=some s) (h:tmps.getD s undef= .tuple #[]):yielded ops tmps j=none:=by
 unfold yielded;rw [hs];simp only [Xvf];rw [Array.getD_eq_getD_getElem?] at h;cases a:tmps[s]? with
 |none=>rfl
 |some u=>
  rw [a] at h;simp at h;rw [h]
theorem Ag {g:dK} {m:aW} {S:aO} {w:World} (c:b_ ap g m S w) {env:ji} {a:Act} (x:Operand) (h:∀ t,x= .tmp t->VR g m S (env.get t) (a.tmps.getD t undef)):VR g m S (uq ap env x) (a.eval x):=by
 cases x with
 |tmp t=>exact h t rfl
 |const v=>exact iE _ (OM S v)
 | global k=>
  simp only [uq,Act.eval];cases d:(ap.gl[k]?).join with
  |none=>simp only [VR]
  |some xs=>
   obtain ⟨vs,e,b⟩:=c.glob k xs d;simp only [VR,PR];exact ⟨k,0,vs,rfl,e,b⟩
 |func f=>
  simp only [uq,Act.eval,VR];exact ⟨[],[],rfl,by simp [bu],by simp [bu]⟩
theorem IP {l:List Operand} {t:Nat} (h:Operand.tmp t ∈ l):t ∈ yx l:=by
 simp only [yx,List.mem_filterMap];exact ⟨_,h,rfl⟩
theorem Nz {ops:List Oper} {env:ji} {dec e:List (Nat × Bool)} {o:Oper} {c A:Cx} {run:Bool} (h:SK ops env dec o c= .ok (run,e) A) (p:A.Ok):
  c.Ok/\(xk dec env->xk e env/\(∀ t b,look dec t=some b->look e t=some b)/\∀ g m S (a:Act),(∀ t ∈ jV ops o,VR g m S (env.get t) (a.tmps.getD t undef))->Region.wanted o (yielded ops.toArray a.tmps)=run):=by
 unfold SK at h;unfold jV;unfold Region.wanted;split at h
 .rename_i y;cases h;simp only [y];exact ⟨p,λhd=> ⟨hd,λ_ _ h=>h,λ_ _ _ _ _=>trivial⟩⟩
 .rename_i j f y;simp only [y];split at h
  .cases h
  .rename_i s hs;have k:(ops.toArray[j]?).bind (·.dst)=some s:=by simpa using hs
   split at h
   .rename_i b l;cases h;refine ⟨p,λhd=> ⟨hd,λ_ _ h=>h,λg m S a n=> ?_⟩⟩;have d:=n s (by simp);rw [hd s b l] at d;simp only [VR,PR] at d;rw [JJ k d];cases f<;>cases b<;>rfl
   .rename_i B;split at h
    .rename_i b l;obtain ⟨C,D,d,q⟩:=R.bind_ok h;cases q;obtain ⟨u,rfl⟩:=nD d p;refine ⟨u,λhd=> ⟨?_, ?_,λg m S a n=> ?_⟩⟩
     .intro t x i;simp only [look] at i;split at i
      .rename_i z;cases i;rw [<- aN z,l]
      .exact hd t x i
     .intro t x i;simp only [look];split
      .rename_i z;rw [aN z] at B;rw [B] at i;cases i
      .exact i
     .have d:=n s (by simp);rw [l] at d;simp only [VR,PR] at d;rw [JJ k d];cases f<;>cases C<;>rfl
    .rename_i l;cases h;refine ⟨p,λhd=> ⟨hd,λ_ _ h=>h,λg m S a n=> ?_⟩⟩;have d:=n s (by simp);rw [l] at d;simp only [VR] at d;obtain ⟨vs,d,q⟩:=d;cases vs with
     |nil=>rw [OD k d];rfl
     |cons v r=>simp [bu] at q
    .cases h
theorem Px {env:ji} {o:Oper} {v:AV} {t:Nat} (h:∀ d,o.dst=some d->d ≠ t):(tN env o.dst v).get t=env.get t:=by
 unfold tN;split
 .rename_i d hd;simp only [ji.get,look];split
  .rename_i a;exact absurd (aN a) (h d hd)
  .rfl
 .rfl
theorem BB {dec:List (Nat × Bool)} {env:ji} {o:Oper} {v:AV} (hd:xk dec env) (a:Zl dec o=true):xk dec (tN env o.dst v):=by
 intro t b c;rw [Px]
 .exact hd t b c
 .rintro d hdd rfl
  unfold Zl at a;rw [hdd] at a;simp [c] at a
end
end AM
namespace AM
open Go
section
variable {P:Program} {ap:AP} {H:dD}
theorem aai {c:Cx} {dst:Option Nat} {v:AV} (h:(Ih c dst v).2.Ok):c.Ok/\bY v (Ih c dst v).1:=by
 obtain ⟨cl,orc,bs,ps,ans,hs⟩:=c;unfold Ih at h ⊢;dsimp only at h ⊢;split at h
 .rename_i d x r f;split at h
  .rename_i a;have e:bY v x:=h.ps _ (Xjp ..);refine ⟨⟨h.bs,λp hp=>h.ps p (Xx2 _ hp)⟩, ?_⟩;simp only [a];exact e
  .rename_i a;refine ⟨h, ?_⟩;simp only [a];exact λ_ _ _ _ b=>b
 .rename_i i;exact ⟨h,λ_ _ _ _ b=>b⟩
theorem aah {c:Cx} {dst:Option Nat} (h:(UV c dst).2.Ok):c.Ok:=by
 obtain ⟨cl,orc,bs,ps,ans,hs⟩:=c;unfold UV at h;dsimp only at h;split at h
 .split at h
  .exact ⟨h.bs,h.ps⟩
  .exact h
 .exact h
theorem aag {c:Cx} {dst:Option Nat} {ups:List (Nat × aU)} (h:(Ig c dst ups).2.Ok):c.Ok/\(Ig c dst ups).1=ups:=by
 obtain ⟨cl,orc,bs,ps,ans,hs⟩:=c;unfold Ig at h ⊢;dsimp only at h ⊢;split at h
 .rename_i d f r i b B;split at h
  .rename_i a;have e:B.cells=f:=h.ps _ (Xjp ..);refine ⟨⟨h.bs,λp hp=>h.ps p (Xx2 _ hp)⟩, ?_⟩;simp only [a,<- e]
  .rename_i a;refine ⟨h, ?_⟩;simp only [a]
 .rename_i j;exact ⟨h,rfl⟩
theorem EY {a:Act} {g:Operand} {args:Array Operand} {argTypes:Array TypeId} {ty:TypeId} {f:Nat} {first cap:Array Value} (h:a.eval g= .func (.func f) first cap) (w:World):
  (resolve a.eval {callee:= .value g,args,argTypes} ty).run P w= .ok {target:= .fn (.func f) cap,args:=first++args.map a.eval} w:=by
 simp only [resolve,h,Deferred.ofValue];rfl
theorem J6 {a:Act} {g:Operand} {args:Array Operand} {argTypes:Array TypeId} {ty:TypeId} {f:Nat} {first cap:Array Value} (h:a.eval g= .func (.func f) first cap) (b:zU P f) (w:World):
  (do let d <- resolve a.eval {callee:= .value g,args,argTypes} ty;invoke d.target d.args:Sem Next).run P w= .ok (.enter f ((first++args.map a.eval)++cap)) w:=by
 rw [Sem.run_bind,EY h,Result.andThen_ok];exact b _ _
theorem OT {g:dK} {m:aW} {S:aO} {ρ:Operand->AV} {cρ:Operand->Value} {args:Array Operand} (h:∀ o ∈ args,VR g m S (ρ o) (cρ o)):bu g m S (args.toList.map ρ) (args.map cρ).toList:=by
 rw [Array.toList_map];exact yF _ λo a=>h o (by simpa using a)
theorem DU:∀ {l:Hp} {b:Nat} {B:aU},look l b=some B->(b,B) ∈ l
 | [],_,_,h=>by cases h
 | (k,X)::r,b,B,h=>by
  simp only [look] at h;split at h
  .rename_i a;cases h;have:=aN a;subst this;exact Xjp ..
  .exact Xx2 _ (DU h)
theorem IJ {α β:Type} {f g:α->β}:∀ {l:List α},l.map f=l.map g->∀ {x:α},x ∈ l->f x=g x
 | [],_,_,h=>by cases h
 |a::r,h,x,hx=>by
  simp only [Xqg,List.cons.injEq] at h;rcases List.mem_cons.1 hx with rfl|hx
  .exact h.1
  .exact IJ h.2 hx
theorem wz (hap:iy P ap) (hH:ku P ap H) {nid:Nat} {ops:List Oper} {o:Oper} {s s':RS} {p:Option AV} {c c':Cx} (h:QR ap H nid ops o s c= .ok (s',p) c') (O:c'.Ok):
  c.Ok/\(s.md= .dead->xk s.dec s.env->∃ v rb ups df,akw P ap ops.toArray o nid s s' p v (yx o.op.operands.toList++jV ops o) rb ups df):=by
 unfold QR at h;obtain ⟨⟨run,dec⟩,c1,e1,h⟩:=R.bind_ok h;dsimp only at h;split at h
 .cases h
 rename_i F;have hguard:∀ c1ok:c1.Ok,c.Ok/\(xk s.dec s.env->xk dec s.env/\(∀ t b,look s.dec t=some b->look dec t=some b)/\∀ g m S (a:Act),(∀ t ∈ jV ops o,VR g m S (s.env.get t) (a.tmps.getD t undef))->Region.wanted o (yielded ops.toArray a.tmps)=run):=λhk=>Nz e1 hk
 have L:∀ {g:dK} {m:aW} {S:aO} {w:World} {a:Act},b_ ap g m S w->(∀ t ∈ yx o.op.operands.toList++jV ops o,VR g m S (s.env.get t) (a.tmps.getD t undef))->∀ x ∈ o.op.operands,VR g m S (uq ap s.env x) (a.eval x):=by
  intro g m S w a j i x X;refine Ag j x λt ht=>i t ?_
  subst ht;exact List.mem_append.2 (.inl (IP (by simpa using X)))
 split at h
 ·
  cases h;obtain ⟨A,W⟩:=hguard O;refine ⟨A,λN d=> ?_⟩;obtain ⟨hd,_,hw⟩:=W d;refine ⟨.tup [],[],[],[],⟨λ_=>rfl,λh=>absurd rfl h,rfl,rfl,rfl,λ_=>BB hd F,λ_=>rfl, ?_⟩⟩;intro g m S w a j i _ _ Q K M;unfold wpO;rw [hw g m S a λt ht=>i t (List.mem_append.2 (.inr ht))];simp only [Bool.false_eq_true,if_false];have:=M undef m S w [] (by rw [fP];exact j) (by rw [fP];exact Fr.refl _ _ _ _) (by simp only [VR];exact ⟨[],rfl,by simp [bu]⟩) (by simp [iO]);exact this
 ·
  have hwant:∀ (Q:Exit->Act->World->Prop) (K:Act->World->Prop) (g:dK) (m:aW) (S:aO) (a:Act) (w:World),c1.Ok->xk s.dec s.env->(∀ t ∈ yx o.op.operands.toList++jV ops o,VR g m S (s.env.get t) (a.tmps.getD t undef))->o.wp P a w K Q->wpO P ops.toArray Q o K a w:=by
   intro Q K g m S a w hk d i hh;obtain ⟨_,_,hw⟩:=(hguard hk).2 d;unfold wpO;rw [hw g m S a λt ht=>i t (List.mem_append.2 (.inr ht))];simp only [if_true];exact .inl hh
  split at h
  ·
   rename_i gf args argTypes k;split at h
   .rename_i f first cap hf
    obtain ⟨r,c2,e2,h⟩:=R.bind_ok h;have V:c2.Ok:=by
     revert h
     cases hu:UV c2 o.dst with
     | mk u Y=>
      have D:Y.Ok->c2.Ok:=λhk=>aah (by rw [hu];exact hk)
      cases u with
      | true=>
       dsimp only;cases r.out with
       |ret v=>
        dsimp only;split
        .intro h;cases h;exact D ⟨O.bs,λp hp=>O.ps p (Xx2 _ hp)⟩
        .intro h;cases h
       |pan v=>intro h;cases h
      |false=>dsimp only;cases r.out<;>intro h<;>cases h<;>exact D O
    obtain ⟨G,hE,hcall⟩:=G9 hH e2 V;obtain ⟨A,W⟩:=hguard G;refine ⟨A,λN d=> ?_⟩;obtain ⟨hd,_,_⟩:=W d;have hargs:∀ {g:dK} {m:aW} {S:aO} {w:World} {a:Act},b_ ap g m S w->(∀ t ∈ yx o.op.operands.toList++jV ops o,VR g m S (s.env.get t) (a.tmps.getD t undef))->
      ∃ vf I:List Value,a.eval gf= .func (.func f) vf.toArray I.toArray/\bu g m S (first++args.toList.map (uq ap s.env)++cap) ((vf++(args.map a.eval).toList)++I):=by
     intro g m S w a j i;have y:=L j i;rw [k] at y;have z:=y gf (by simp [Op.operands,Call.operands]);rw [hf] at z;simp only [VR] at z;obtain ⟨vf,I,D,J,h5⟩:=z;exact ⟨vf,I,D,iq (iq J (OT λx X=>y x (by simp [Op.operands,Call.operands,X]))) h5⟩
    have U:∀ {a:Act} {vf I:List Value} (w:World),a.eval gf= .func (.func f) vf.toArray I.toArray->(execOp a.eval o).run P w= .ok (.enter f (((vf++(args.map a.eval).toList)++I).toArray)) w:=by
     intro a vf I w he;have:=J6 (args:=args) (argTypes:=argTypes) (ty:=o.type) he hE w;unfold execOp;rw [k];dsimp only;rw [this];congr 2;apply Array.toList_inj.1;simp
    split at h
    .rename_i Y hu;split at h
     .rename_i v E;split at h
      .rename_i hall;cases h;have heq:r.ups.map (λ(q:Nat × aU)=>some q.2)=r.ups.map (λ(q:Nat × aU)=>look s.hp q.1):=O.ps _ (Xjp ..);refine ⟨v,r.fp,[],[],⟨λ_=>rfl,λh=>absurd rfl h,rfl,rfl,rfl,λ_=>BB hd F,λ_=>rfl, ?_⟩⟩;intro g m S w a j i l C Q K M;have hg':dR g r.ups=g:=by
        funext b;unfold dR;cases hl:look r.ups b with
        |none=>rfl
        |some B=>
         have hm:=DU hl;have y:=IJ heq hm;exact (l b (jf.1 (List.all_eq_true.1 hall _ hm)) B y.symm).symm
       refine hwant Q K g m S a w G d i ?_;obtain ⟨vf,I,y,z⟩:=hargs j i;unfold Oper.wp;rw [U w y];refine (hcall g m S w _ j l C z).mono ?_
       rintro e w' ⟨m',S',D,J,h5⟩
       rw [E] at h5;obtain ⟨cv,rfl,h6⟩:=h5;rw [hg'] at D J h6;exact M cv m' S' w' [] D J h6 (by simp [iO])
      .cases h
     .cases h
    .rename_i Y hu;split at h
     .rename_i v E;cases h;refine ⟨v,r.fp,r.ups,[],⟨λ_=>rfl,λh=>absurd rfl h,rfl,rfl,rfl,λ_=>BB hd F,λ_=>rfl, ?_⟩⟩;intro g m S w a j i l C Q K M;refine hwant Q K g m S a w G d i ?_;obtain ⟨vf,I,y,z⟩:=hargs j i;unfold Oper.wp;rw [U w y];refine (hcall g m S w _ j l C z).mono ?_
      rintro e w' ⟨m',S',D,J,h5⟩
      rw [E] at h5;obtain ⟨cv,rfl,h6⟩:=h5;exact M cv m' S' w' [] D J h6 (by simp [iO])
     .rename_i v E;cases h;refine ⟨v,r.fp,r.ups,[],⟨λh=>(by cases h),λ_=> ⟨rfl,rfl⟩,rfl,rfl,rfl,λh=>(by cases h),λh=>(by cases h), ?_⟩⟩;intro g m S w a j i l C Q K M;refine hwant Q K g m S a w G d i ?_;obtain ⟨vf,I,y,z⟩:=hargs j i;unfold Oper.wp;rw [U w y];refine (hcall g m S w _ j l C z).mono ?_
      rintro e w' ⟨m',S',D,J,h5⟩
      rw [E] at h5;obtain ⟨cv,rfl,h6⟩:=h5;exact M cv m' S' w' D J h6
   .cases h
  ·
   split at h
   .cases h;exact ⟨(hguard O).1,λN=>by simp_all⟩
   .cases h;exact ⟨(hguard O).1,λN=>by simp_all⟩
   .cases h
  ·
   rename_i gf args argTypes k;split at h
   .rename_i f first cap hf
    cases h;obtain ⟨A,W⟩:=hguard O;refine ⟨A,λN d=> ?_⟩;obtain ⟨hd,_,_⟩:=W d;refine ⟨.dead,[],[],[(f,first++args.toList.map (uq ap s.env)++cap)],⟨λ_=>rfl,λh=>absurd rfl h,rfl,rfl,rfl,λ_=>BB hd F,λ_=>rfl, ?_⟩⟩;intro g m S w a j i l C Q K M;refine hwant Q K g m S a w O d i ?_;have y:=L j i;rw [k] at y;have z:=y gf (by simp [Op.operands,Call.operands]);rw [hf] at z;simp only [VR] at z;obtain ⟨vf,I,D,J,h5⟩:=z;unfold Oper.wp;have hr:(execOp a.eval o).run P w= .ok (.defer {target:= .fn (.func f) I.toArray,args:=vf.toArray++args.map a.eval}) w:=by
     unfold execOp;rw [k];dsimp only;rw [Sem.run_bind,EY D,Result.andThen_ok];rfl
    rw [hr];refine M undef m S w [{target:= .fn (.func f) I.toArray,args:=vf.toArray++args.map a.eval}] (by rw [fP];exact j) (by rw [fP];exact Fr.refl _ _ _ _) (by simp only [VR]) ?_;simp only [iO,fP,and_true];refine ⟨I.toArray,rfl, ?_⟩;have:=iq (iq J (OT (args:=args) λx X=>y x (by simp [Op.operands,Call.operands,X]))) h5;simpa using this
   .cases h
  ·
   rename_i x k;split at h
   .rename_i t v X;cases h;obtain ⟨A,W⟩:=hguard O;refine ⟨A,λN d=> ?_⟩;obtain ⟨hd,_,_⟩:=W d;refine ⟨.dead,[],[],[],⟨λh=>(by cases h),λ_=> ⟨rfl,rfl⟩,rfl,rfl,rfl,λh=>(by cases h),λh=>(by cases h), ?_⟩⟩;intro g m S w a j i l C Q K M;refine hwant Q K g m S a w O d i ?_;have y:=L j i;rw [k] at y;have z:=y x (by simp [Op.operands]);rw [X] at z;have h2':=z;simp only [VR] at h2';obtain ⟨u,D,J⟩:=h2';unfold Oper.wp;have hr:(execOp a.eval o).run P w= .halt (.panic (a.eval x)) w:=by
     unfold execOp;rw [k];dsimp only;rw [D];rfl
    rw [hr];exact M _ m S w (by rw [fP];exact j) (by rw [fP];exact Fr.refl _ _ _ _) (by rw [fP];exact z)
   .cases h
  ·
   rename_i op n1 n2 n3 n4;obtain ⟨em,c2,e2,h⟩:=R.bind_ok h;split at h
   .cases h
   .rename_i v ups bs k;obtain ⟨_,Y,e3,h⟩:=R.bind_ok h;have hv1:(Ih Y o.dst v).2.Ok->Y.Ok/\bY v (Ih Y o.dst v).1:=aai;generalize Ih Y o.dst v=q1 at h hv1;obtain ⟨v1,c4⟩:=q1;dsimp only at h hv1;have hv2:(Ig c4 o.dst ups).2.Ok->c4.Ok/\(Ig c4 o.dst ups).1=ups:=aag;generalize Ig c4 o.dst ups=q2 at h hv2;obtain ⟨ups1,c5⟩:=q2;dsimp only at h hv2;cases h;obtain ⟨hc4,hups⟩:=hv2 O;subst hups;obtain ⟨hc3,Z⟩:=hv1 hc4;obtain ⟨V,hbs⟩:=Nb e3 hc3;have hem:c1.Ok/\∀ n,BI (uq ap s.env) o.op=some n->Xqk n 0=em:=by
     split at e2
     .rename_i n hn;obtain ⟨hk,rfl⟩:=nD e2 V;exact ⟨hk,λn' T=>by rw [hn] at T;cases T;rfl⟩
     .rename_i hn;cases e2;exact ⟨V,λn' T=>by rw [hn] at T;cases T⟩
    obtain ⟨G,hem⟩:=hem;obtain ⟨A,W⟩:=hguard G;refine ⟨A,λN d=> ?_⟩;obtain ⟨hd,_,_⟩:=W d;refine ⟨v1,abo (uq ap s.env) o.op,ups1,[],⟨λ_=>rfl,λh=>absurd rfl h,rfl,rfl,rfl,λ_=>BB hd F,λ_=>rfl, ?_⟩⟩;intro g m S w a j i l C Q K M;refine hwant Q K g m S a w G d i ?_;have y:=L j i;have hok:=XL hap j (nid:=nid) (C 0 (by omega)) (ρ:=uq ap s.env) (cρ:=a.eval) (λb B hb=>by
      split at hb
      .rename_i hm;exact l b (jf.1 hm) B hb
      .cases hb) o y (dec:=fun| .tmp t=>look dec t|_=>none) (λx X b hb=>by
      split at hb
      .rename_i t;have:=i t (List.mem_append.2 (.inl (IP (by simpa using X))));rw [hd t b hb] at this;simp only [VR,PR] at this;exact this
      .cases hb) hem k hbs
    obtain ⟨nx,m',w',z,D,J,h5⟩:=hok;unfold Oper.wp;rw [z];rcases h5 with ⟨cv,rfl,h5⟩|⟨rfl,rfl⟩
    .exact M cv m' S w' [] D J (Z _ _ _ _ h5) (by simp [iO])
    .exact M undef m' S w' [] D J (Z _ _ _ _ (by simp only [VR])) (by simp [iO])
end
end AM
namespace AM
open Go
theorem D6:∀ {hp:Hp} {b:Nat} {B:aU},look hp b=some B->b<jJ hp
 | [],b,B,h=>by simp [look] at h
 | (c,C)::r,b,B,h=>by
  simp only [look] at h;simp only [jJ];split at h
  .rename_i d;have d:=aN d;subst d;split
   .rename_i a;exact gI a
   .omega
  .have f:=D6 h;split
   .exact f
   .rename_i a;have:¬ c<jJ r:=λe=>by
     have:Xjk c (jJ r)=true:=by
      show Nat.ble (c+1) (jJ r)=true;exact Γ e
     rw [this] at a;cases a
    omega
theorem IE:∀ {l:Hp} {b:Nat} {B:aU},look l b=some B->b ∈ l.map (·.1)
 | [],b,B,h=>by simp [look] at h
 |(c,C)::r,b,B,h=>by
  simp only [look] at h;split at h
  .rename_i a;simp [aN a]
  .simp [IE h]
structure FR (ap:AP) (env:ji) (hp:Hp) (dfs:List (Nat × List AV)) (nt:Nat) (m:aW) (S:aO) (w:World) (a:Act):Prop where
 srel:b_ ap (look hp) m S w
 env:∀ t,VR (look hp) m S (env.get t) (a.tmps.getD t undef)
 dfs:iO (look hp) m S dfs a.defers
 size:a.tmps.size=nt
theorem abm (a:Act) (d:Option Nat) (v:Value):(a.put d v).tmps.size=a.tmps.size:=by
 cases d<;>simp [Act.put]
theorem TK (a:Act) (d:Option Nat) (v:Value):(a.put d v).defers=a.defers:=by
 cases d<;>simp [Act.put]
theorem TM (a:Act) (d:Option Nat) (v:Value) {t:Nat} (h:d ≠ some t):(a.put d v).tmps.getD t undef=a.tmps.getD t undef:=by
 cases d with
 |none=>rfl
 |some d=>
  have b:d ≠ t:=λe=>h (by rw [e])
  simp only [Act.put,Array.getD_eq_getD_getElem?];rw [Array.getElem?_setIfInBounds_ne b]
theorem TL (a:Act) (d:Nat) (v:Value) (h:d<a.tmps.size):(a.put (some d) v).tmps.getD d undef=v:=by
 simp only [Act.put,Array.getD_eq_getD_getElem?];rw [Array.getElem?_setIfInBounds_self_of_lt h];rfl
theorem lK {env:ji} {d:Nat} {v:AV}:(tN env (some d) v).get d=v:=by simp [tN,ji.get,look]
theorem Ic {env:ji} {dst:Option Nat} {v:AV} {t:Nat} (h:dst ≠ some t):(tN env dst v).get t=env.get t:=by
 cases dst with
 |none=>rfl
 | some d=>
  have a:Xqk d t=false:=by
   cases b:Xqk d t with
   |false=>rfl
   |true=>exact absurd (by rw [aN b]) h
  simp [tN,ji.get,look,a]
section
variable {P:Program} {ap:AP} {H:dD}
theorem FR.put {env:ji} {hp ups:Hp} {dfs e:List (Nat × List AV)} {nt:Nat} {m b:aW} {S S':aO} {w w':World} {a:Act} (h:FR ap env hp dfs nt m S w a) {dst:Option Nat} (hd:∀ d,dst=some d->d<nt) {v:AV} {cv:Value} {c:List Deferred}
  (h1:b_ ap (dR (look hp) ups) b S' w') (h2:Fr (look hp) m S w (dR (look hp) ups) b S' w') (h3:VR (dR (look hp) ups) b S' v cv) (h4:iO (dR (look hp) ups) b S' e c):
  FR ap (tN env dst v) (ups++hp) (e++dfs) nt b S' w' ({a with defers:=c++a.defers}.put dst cv):=by
 rw [oZ] at h1 h2 h3 h4;refine ⟨h1, ?_, ?_, ?_⟩
 .intro t;by_cases ht:dst=some t
  .subst ht;rw [lK,TL _ _ _ (by have:=hd t rfl;have:=h.size;simpa [this] using hd t rfl)];exact h3
  .rw [Ic ht,TM _ _ _ ht];exact rX h2.sle h2.ge _ (h.env t)
 .rw [TK];exact Ep h4 (yE h2.sle h2.ge h.dfs)
 .rw [abm];exact h.size
theorem FR.still {env:ji} {hp ups:Hp} {dfs:List (Nat × List AV)} {nt:Nat} {m b:aW} {S S':aO} {w w':World} {a:Act} (h:FR ap env hp dfs nt m S w a)
  (h1:b_ ap (dR (look hp) ups) b S' w') (h2:Fr (look hp) m S w (dR (look hp) ups) b S' w'):FR ap env (ups++hp) dfs nt b S' w' a:=by
 rw [oZ] at h1 h2;exact ⟨h1,λt=>rX h2.sle h2.ge _ (h.env t),yE h2.sle h2.ge h.dfs,h.size⟩
def Ba (ap:AP) (hp0:Hp) (m:aW) (S:aO) (w:World) (nt:Nat) (env:ji) (hp:Hp) (dfs:List (Nat × List AV)) (Q:Exit->Act->World->Prop):Option AV->Prop
 |none=> ∀ m' S' w' a',Fr (look hp0) m S w (look hp) m' S' w'->FR ap env hp dfs nt m' S' w' a'->Q .normal a' w'
 |some v=> ∀ m' S' w' a' cv,Fr (look hp0) m S w (look hp) m' S' w'->FR ap env hp dfs nt m' S' w' a'->VR (look hp) m' S' v cv->Q (.panic [{v:=cv,recovered:=false}]) a' w'
theorem wS {ops:Array Oper} {Q:Exit->Act->World->Prop} {i:Nat} {o:Oper} (b:ops[i]? =some o) (rest:List Nat) (a:Act) (w:World):wpOps P ops Q (i::rest) a w↔wpO P ops Q o (wpOps P ops Q rest) a w:=by
 simp only [wpOps,b,wpO]
theorem SV {hp ups:Hp} {nid:Nat} (d:∀ b B,look hp b=some B->b<nid) (c:(ups.map (·.1)).all (λx=>Xjk x (nid+4))=true):∀ b B,look (ups++hp) b=some B->b<nid+4:=by
 intro b B a;rw [gX] at a;split at a
 .rename_i x f;have e:b ∈ ups.map (·.1):=IE f;exact gI (List.all_eq_true.1 c b e)
 .have:=d b B a;omega
theorem yV (A:iy P ap) (T:ku P ap H) {ops:List Oper} {nt:Nat} (L:∀ o ∈ ops,∀ d,o.dst=some d->d<nt):∀ (l:List Oper) (i nid:Nat) (s s':RS) (p:Option AV) (c c':Cx),yw ap H ops l nid s c= .ok (s',p) c'->c'.Ok->
  c.Ok/\(s.md= .dead->xk s.dec s.env->l=ops.drop i->(∀ b B,look s.hp b=some B->b<nid)->
  s'.md= .dead/\∀ m S w a,FR ap s.env s.hp s.dfs nt m S w a->∀ Q,Ba ap s.hp m S w nt s'.env s'.hp s'.dfs Q p->wpOps P ops.toArray Q (List.range' i l.length) a w)
 | [],i,nid,s,s',p,c,c',h,hc=>by
  cases h;exact ⟨hc,λe _ _ _=> ⟨e,λm S w a x Q y=>y m S w a (Fr.refl _ _ _ _) x⟩⟩
 | o ::r,i,nid,s,s',p,c,c',h,hc=>by
  simp only [yw] at h;obtain ⟨⟨s1,p1⟩,c1,e1,h⟩:=R.bind_ok h;dsimp only at h;have hfresh:(∀ b B,look s.hp b=some B->b<nid)->∀ j,j<4->look s.hp (nid+j)=none:=by
   intro G j _;cases hb:look s.hp (nid+j) with
   |none=>rfl
   |some B=>have:=G _ _ hb;omega
  have z:o::r=ops.drop i->ops[i]? =some o/\ops.toArray[i]? =some o/\r=ops.drop (i+1)/\∀ d,o.dst=some d->d<nt:=by
   intro I;have f:ops[i]? =some o:=by
    have:(ops.drop i)[0]? =some o:=by rw [<- I];rfl
    simpa using this
   have O:r=ops.drop (i+1):=by
    have:r=(ops.drop i).drop 1:=by rw [<- I];rfl
    rw [this,Xjs]
   exact ⟨f,by simpa using f,O,L o (Xqm f)⟩
  cases p1 with
  |some v=>
   cases h;obtain ⟨D,C⟩:=wz A T e1 hc;refine ⟨D,λe k I G=> ?_⟩;obtain ⟨f,n,O,hd⟩:=z I;obtain ⟨v1,rb,ups,df,hs⟩:=C e k;refine ⟨by rw [hs.md,e],λm S w a x Q y=> ?_⟩;rw [ο,Xwy,wS n];refine hs.sem (look s.hp) m S w a x.srel (λt _=>x.env t) (λb _ B hB=>hB) (hfresh G) Q _ ?_;intro cv m' S' w' h1 u N;have U:=x.still h1 u;rw [oZ] at u N;obtain ⟨q,rfl⟩:=hs.envp (by simp);have y:=y m' S' w' a cv;rw [hs.hp,hs.dfs,q] at y;exact y u U N
  | none=>
   dsimp only at h;cases E:s1.feet with
   |nil=>rw [E] at h;cases h
   | cons ft fr=>
    rw [E] at h;dsimp only at h;split at h
    .rename_i J;obtain ⟨X,V⟩:=yV A T L r (i+1) (nid+4) s1 s' p c1 c' h hc;obtain ⟨D,C⟩:=wz A T e1 X;refine ⟨D,λe k I G=> ?_⟩;obtain ⟨f,n,O,hd⟩:=z I;obtain ⟨v1,rb,ups,df,hs⟩:=C e k;have F:=hs.feet rfl;rw [E] at F;simp only [List.cons.injEq] at F;rw [F.1] at J;obtain ⟨K,V⟩:=V (by rw [hs.md,e]) (hs.dec rfl) O (by rw [hs.hp];exact SV G J);refine ⟨K,λm S w a x Q y=> ?_⟩;rw [ο,Xwy,wS n];refine hs.sem (look s.hp) m S w a x.srel (λt _=>x.env t) (λb _ B hB=>hB) (hfresh G) Q _ ?_;intro cv m' S' w' ds h1 u N h4;have M:=x.put hd h1 u N h4;rw [oZ] at u;have q:=hs.env rfl;rw [<- q,<- hs.hp,<- hs.dfs] at M;refine V m' S' w' _ M Q ?_;rw [<- hs.hp] at u;cases p with
     |none=>exact λm2 S2 Y Z h5 W=>y m2 S2 Y Z (u.trans h5) W
     |some v=>exact λm2 S2 Y Z cv2 h5 W h7=>y m2 S2 Y Z cv2 (u.trans h5) W h7
    .cases h
end
end AM
namespace AM
open Go
structure lH where
 dst:Option Nat
 v:AV
 rt:List Nat
 rb:List Nat
 ups:List (Nat × aU)
def UK (d:Option Nat):List Nat:=match d with|some d=> [d]|none=> []
def lH.foot (r:lH):zV:={rt:=r.rt,wt:=UK r.dst,rb:=r.rb,wb:=r.ups.map (·.1)}
def pz (D:Nat->Bool):Nat->ji->List lH->ji
 |_,e,[]=>e
 |j,e,r::rs=>pz D (j+1) (match D j with|true=>tN e r.dst r.v|false=>e) rs
def rM (D:Nat->Bool):Nat->Hp->List lH->Hp
 |_,h,[]=>h
 |j,h,r::rs=>rM D (j+1) (match D j with|true=>r.ups++h|false=>h) rs
theorem qK {D D':Nat->Bool} {t:Nat}:∀ (rs:List lH) (j:Nat) (e e':ji),e.get t=e'.get t->(∀ k r,rs[k]? =some r->r.dst=some t->D (j+k)=D' (j+k))->(pz D j e rs).get t=(pz D' j e' rs).get t
 | [],_,_,_,he,_=>he
 | r::rs,j,e,e',he,h=>by
  simp only [pz];refine qK rs (j+1) _ _ ?_ λk r' a hd=> ?_
  .by_cases hd:r.dst=some t
   .have h0:=h 0 r rfl hd;rw [Xq4] at h0;rw [h0];cases D' j with
    |true=>simp only [hd,lK]
    |false=>exact he
   .cases D j<;>cases D' j<;>simp only [Ic hd,he]
  .have:=h (k+1) r' (by simpa using a) hd;rwa [show j+(k+1)=j+1+k by omega] at this
theorem NI:∀ {l:Hp} {b:Nat},b ∉ l.map (·.1)->look l b=none:=by
 intro l b h;cases a:look l b with
 |none=>rfl
 |some B=>exact absurd (IE a) h
theorem vM {ups hp:Hp} {b:Nat} (h:b ∉ ups.map (·.1)):look (ups++hp) b=look hp b:=by
 rw [gX,NI h]
theorem xU:∀ {l:Hp} {b:Nat},b ∈ l.map (·.1)->∃ B,look l b=some B
 | [],b,h=>by simp at h
 | (c,C)::r,b,h=>by
  simp only [look];cases a:Xqk c b with
  |true=>exact ⟨C,rfl⟩
  |false=>
   simp only [Xqg,Xjj] at h;rcases h with h|h
   .subst h;simp at a
   .exact xU h
theorem BX {ups hp hp':Hp} {b:Nat} (h:b ∈ ups.map (·.1)):look (ups++hp) b=look (ups++hp') b:=by
 obtain ⟨B,a⟩:=xU h;rw [gX,gX,a]
theorem uz {D D':Nat->Bool} {b:Nat}:∀ (rs:List lH) (j:Nat) (h h':Hp),look h b=look h' b->(∀ k r,rs[k]? =some r->b ∈ r.ups.map (·.1)->D (j+k)=D' (j+k))->look (rM D j h rs) b=look (rM D' j h' rs) b
 | [],_,_,_,he,_=>he
 | r::rs,j,e,e',he,h=>by
  simp only [rM];refine uz rs (j+1) _ _ ?_ λk r' a hd=> ?_
  .by_cases hd:b ∈ r.ups.map (·.1)
   .have h0:=h 0 r rfl hd;rw [Xq4] at h0;rw [h0];cases D' j with
    |true=>exact BX hd
    |false=>exact he
   .cases D j<;>cases D' j<;>simp only [vM hd,he]
  .have:=h (k+1) r' (by simpa using a) hd;rwa [show j+(k+1)=j+1+k by omega] at this
theorem yK:∀ (a:List lH) (j:Nat) (e:ji) {D:Nat->Bool},(∀ k,k<a.length->D (j+k)=false)->pz D j e a=e
 | [],_,_,_,_=>rfl
 |r::a,j,e,D,h=>by
  have h0:=h 0 (by simp);rw [Xq4] at h0;simp only [pz,h0];exact yK a (j+1) e λk b=>by have:=h (k+1) (by simpa using b);rwa [show j+(k+1)=j+1+k by omega] at this
theorem qO:∀ (a:List lH) (j:Nat) (e:Hp) {D:Nat->Bool},(∀ k,k<a.length->D (j+k)=false)->rM D j e a=e
 | [],_,_,_,_=>rfl
 |r::a,j,e,D,h=>by
  have h0:=h 0 (by simp);rw [Xq4] at h0;simp only [rM,h0];exact qO a (j+1) e λk b=>by have:=h (k+1) (by simpa using b);rwa [show j+(k+1)=j+1+k by omega] at this
def rJ (e:ji) (rs:List lH):ji:=pz (λ_=>true) 0 e rs
def Ij (h:Hp) (rs:List lH):Hp:=rM (λ_=>true) 0 h rs
theorem Af (D:Nat->Bool):∀ (rs:List lH) (j d:Nat) (e:ji),pz D (j+d) e rs=pz (λk=>D (k+d)) j e rs
 | [],_,_,_=>rfl
 |r::rs,j,d,e=>by
  simp only [pz];rw [show j+d+1=j+1+d by omega];exact Af D rs (j+1) d _
theorem DI (D:Nat->Bool):∀ (rs:List lH) (j d:Nat) (e:Hp),rM D (j+d) e rs=rM (λk=>D (k+d)) j e rs
 | [],_,_,_=>rfl
 |r::rs,j,d,e=>by
  simp only [rM];rw [show j+d+1=j+1+d by omega];exact DI D rs (j+1) d _
theorem yL (e:ji) (r:lH) (a:List lH):rJ e (r::a)=rJ (tN e r.dst r.v) a:=by
 simp only [rJ,pz];exact Af (λ_=>true) a 0 1 _
theorem BO (h:Hp) (r:lH) (a:List lH):Ij h (r::a)=Ij (r.ups++h) a:=by
 simp only [Ij,rM];exact DI (λ_=>true) a 0 1 _
theorem BJ:∀ (a:List lH) (k:Nat) (e:ji),pz (λj=>decide (j<k)) 0 e a=rJ e (a.take k)
 |a,0,e=>by
  simp only [Xk3];exact yK a 0 e λ_ _=>by simp
 | [],k+1,e=>rfl
 |r::a,k+1,e=>by
  simp only [Xx8,yL,pz];rw [show decide (0<k+1)=true by simp];dsimp only;rw [<- BJ a k];have:=Af (λj=>decide (j<k+1)) a 0 1 (tN e r.dst r.v);rw [this];congr 1;funext j;simp
theorem SL:∀ (a:List lH) (k:Nat) (e:Hp),rM (λj=>decide (j<k)) 0 e a=Ij e (a.take k)
 |a,0,e=>by
  simp only [Xk3];exact qO a 0 e λ_ _=>by simp
 | [],k+1,e=>rfl
 |r::a,k+1,e=>by
  simp only [Xx8,BO,rM];rw [show decide (0<k+1)=true by simp];dsimp only;rw [<- SL a k];have:=DI (λj=>decide (j<k+1)) a 0 1 (r.ups++e);rw [this];congr 1;funext j;simp
theorem KH (e:ji):∀ (b:List lH) (k:Nat) (r:lH),b[k]? =some r->rJ e (b.take (k+1))=tN (rJ e (b.take k)) r.dst r.v:=by
 intro b
 induction b generalizing e with
 |nil=>intro k r h;simp at h
 | cons a b ih=>
  intro k r h;cases k with
  |zero=>simp at h;subst h;rfl
  |succ k=>
   simp only [Xx8,yL];exact ih _ k r (by simpa using h)
theorem aak (e:Hp):∀ (b:List lH) (k:Nat) (r:lH),b[k]? =some r->Ij e (b.take (k+1))=r.ups++Ij e (b.take k):=by
 intro b
 induction b generalizing e with
 |nil=>intro k r h;simp at h
 | cons a b ih=>
  intro k r h;cases k with
  |zero=>simp at h;subst h;rfl
  |succ k=>
   simp only [Xx8,BO];exact ih _ k r (by simpa using h)
section
variable {P:Program} {ap:AP} {H:dD}
structure YP (P:Program) (ap:AP) (ops:List Oper) (i nid:Nat) (s s':RS) (recs:List lH):Prop where
 env:s'.env=rJ s.env recs
 hp:s'.hp=Ij s.hp recs
 feet:s'.feet=(recs.map lH.foot).reverse++s.feet
 dle:s.dfs.length<=s'.dfs.length
 bound:∀ (k:Nat) (r:lH),recs[k]? =some r->∀ b ∈ r.ups.map (·.1),b<nid+4*k+4
 sem:s'.dfs.length=s.dfs.length->s'.dfs=s.dfs/\∀ (k:Nat) (r:lH),recs[k]? =some r->∃ o,ops[i+k]? =some o/\r.dst=o.dst/\Me P ap ops.toArray o (nid+4*k) (rJ s.env (recs.take k)) (Ij s.hp (recs.take k)) r.rt r.rb r.v r.ups [] none
theorem acz (p:iy P ap) (I:ku P ap H) {ops:List Oper}:∀ (l:List Oper) (i nid:Nat) (s s':RS) (c c':Cx),yw ap H ops l nid s c= .ok (s',none) c'->c'.Ok->
  c.Ok/\(s.md= .dead->xk s.dec s.env->l=ops.drop i->s'.md= .dead/\∃ recs:List lH,recs.length=l.length/\YP P ap ops i nid s s' recs)
 | [],i,nid,s,s',c,c',h,hc=>by
  cases h;exact ⟨hc,λa _ _=> ⟨a,[],rfl,⟨rfl,rfl,rfl,κ _,λk r h=>by simp at h,λ_=> ⟨rfl,λk r h=>by simp at h⟩⟩⟩⟩
 | o :: r,i,nid,s,s',c,c',h,hc=>by
  simp only [yw] at h;obtain ⟨⟨s1,T⟩,N,V,h⟩:=R.bind_ok h;dsimp only at h;cases T with
  |some v=>cases h
  | none=>
   dsimp only at h;cases e:s1.feet with
   |nil=>rw [e] at h;cases h
   | cons ft fr=>
    rw [e] at h;dsimp only at h;split at h
    .rename_i x;obtain ⟨E,O⟩:=acz p I r (i+1) (nid+4) s1 s' N c' h hc;obtain ⟨D,C⟩:=wz p I V E;refine ⟨D,λa u L=> ?_⟩;have B:ops[i]? =some o:=by
      have:(ops.drop i)[0]? =some o:=by rw [<- L];rfl
      simpa using this
     have U:r=ops.drop (i+1):=by
      have:r=(ops.drop i).drop 1:=by rw [<- L];rfl
      rw [this,Xjs]
     obtain ⟨v1,rb,ups,F,hs⟩:=C a u;have f:=hs.feet rfl;rw [e] at f;simp only [List.cons.injEq] at f;rw [f.1] at x;obtain ⟨y,recs,t,j⟩:=O (by rw [hs.md,a]) (hs.dec rfl) U;refine ⟨y,{dst:=o.dst,v:=v1,rt:=yx o.op.operands.toList++jV ops o,rb:=rb,ups:=ups}::recs,by simp [t], ?_⟩;have A:s.dfs.length<=s1.dfs.length:=by rw [hs.dfs];simp
     refine ⟨?_, ?_, ?_,Xqr A j.dle, ?_, ?_⟩
     .rw [j.env,yL,hs.env rfl]
     .rw [j.hp,BO,hs.hp]
     .rw [j.feet,hs.feet rfl];simp [lH.foot,UK,M_];cases o.dst<;>rfl
     .intro k q d b J;cases k with
      |zero=>
       simp at d;subst d;exact gI (List.all_eq_true.1 x b J)
      |succ k=>
       have:=j.bound k q (by simpa using d) b J;omega
     .intro X;have Y:=j.dle;obtain ⟨z,n⟩:=j.sem (by omega);have G:F= []:=by
       have:F.length=0:=by
        have:=hs.dfs;have W:s1.dfs.length=F.length+s.dfs.length:=by rw [this];simp
        omega
       exact Xq2 this
      subst G;refine ⟨by rw [z,hs.dfs];rfl, ?_⟩;intro k q d;cases k with
      |zero=>
       simp at d;subst d;exact ⟨o,B,rfl,hs.sem⟩
      |succ k=>
       obtain ⟨M,Q,h5,K⟩:=n k q (by simpa using d);refine ⟨M,by rw [show i+(k+1)=i+1+k by omega];exact Q,h5, ?_⟩;rw [Xx8,yL,BO];rw [hs.env rfl,hs.hp] at K;rw [show nid+4*(k+1)=nid+4+4*k by omega];exact K
    .cases h
end
end AM
namespace AM
open Go
theorem H9 {md:Region.Mode} (b:Array Nat) (i:Nat):∀ (l:List Edge) (s:Nat),(l.foldl (λs e=>if Region.binds md e then s|||2^e.on|||b.getD e.on 0 else s) s).testBit i=true->
  s.testBit i=true\/∃ e ∈ l,Region.binds md e=true/\(i=e.on\/(b.getD e.on 0).testBit i=true)
 | [],s,h=> .inl h
 | e::r,s,h=>by
  simp only [Xjz] at h;rcases H9 b i r _ h with a|⟨e',a,d⟩
  .split at a
   .rename_i c;simp only [Nat.testBit_or,Xvp,Nat.testBit_two_pow,decide_eq_true_eq] at a;rcases a with (a|a)|a
    .exact .inl a
    .exact .inr ⟨e,by simp,c,.inl a.symm⟩
    .exact .inr ⟨e,by simp,c,.inr a⟩
   .exact .inl a
  .exact .inr ⟨e',by simp [a],d⟩
def r_ (acc:Array Nat) (o:Oper):Array Nat:=acc.push (o.after.toList.foldl (λs e=>if Region.binds .any e then s|||2^e.on|||acc.getD e.on 0 else s) 0)
theorem Ib (a:Array Nat) (x:Nat):(a.push x).getD a.size 0=x:=by simp [Array.getD_eq_getD_getElem?]
def FO (ops:List Oper) (D:Nat->Bool):Prop:=∀ (k:Nat) (o:Oper),ops[k]? =some o->D k=true->∀ e ∈ o.after,Region.binds .any e=true->D e.on=true
def af4 (D:Nat->Bool) (acc:Array Nat):Prop:=∀ k,D k=true->∀ i,(acc.getD k 0).testBit i=true->D i=true
theorem UA {ops:List Oper} {D:Nat->Bool} (n:FO ops D):∀ (l:List Oper) (acc:Array Nat),af4 D acc->l=ops.drop acc.size->af4 D (l.foldl r_ acc)
 | [],acc,h,_=>h
 | o ::r,acc,h,hl=>by
  simp only [Xjz];have d:ops[acc.size]? =some o:=by
   have:(ops.drop acc.size)[0]? =some o:=by rw [<- hl];rfl
   simpa using this
  refine UA n r _ ?_ ?_
  .intro k f i a;by_cases hks:k<acc.size
   .refine h k f i ?_;simpa [r_,Array.getD_eq_getD_getElem?,Array.getElem?_push,Nat.ne_of_lt hks] using a
   .by_cases hke:k=acc.size
    .subst hke;rw [r_,Ib] at a;rcases H9 acc i _ _ a with c|⟨e,c,p,b⟩
     .simp at c
     .have j:=n _ o d f e (by simpa using c) p;rcases b with rfl|b
      .exact j
      .exact h _ j i b
    .have:(r_ acc o)[k]? =none:=by
      simp only [r_];rw [Array.getElem?_eq_none];simp;omega
     simp [Array.getD_eq_getD_getElem?,this] at a
  .have:(r_ acc o).size=acc.size+1:=by simp [r_]
   rw [this,<- Xjs,<- hl];rfl
theorem WH (ops:List Oper):Region.before ops.toArray=ops.foldl r_ #[]:=by
 simp only [Region.before,<- Array.foldl_toList];rfl
theorem tq {ops:List Oper} {D:Nat->Bool} (c:FO ops D) {k i:Nat} (a:D k=true) (h:((Region.before ops.toArray).toList.getD k 0).testBit i=true):D i=true:=by
 have:=UA c ops #[] (λk _ i b=>by simp at b) (by simp);rw [<- WH] at this;refine this k a i ?_;rw [ξ] at h;rw [Array.getD_eq_getD_getElem?];simpa using h
theorem uD {a b:List Nat} {x:Nat} (d:x ∈ a) (c:x ∈ b):IL a b=true:=List.any_eq_true.2 ⟨x,d,jf.2 c⟩
structure Mc (n:Nat) (bef:Nat->Nat->Bool) (recs:List lH):Prop where
 ok:∀ i j a b,recs[i]? =some a->recs[j]? =some b->i<j->(lJ a.foot b.foot=true\/∃ x ∈ b.ups.map (·.1),n+4*i<=x/\x<n+4*i+4)->bef j i=true
theorem I4 {n:Nat} {d:List Nat} {recs:List lH} (h:xY n d (recs.map lH.foot).reverse=true):Mc n (λj i=>(d.getD j 0).testBit i) recs:=by
 refine ⟨λi j a b p o f e=> ?_⟩;simp only [xY,List.reverse_reverse,Xzo] at h;have c:=h (a.foot,i) (by rw [Xzs];simp [p]) (b.foot,j) (by rw [Xzs];simp [o]);simp only [Xvp,Xqs] at c;rcases c with (c|c)|c
 .have:Xjk i j=true:=Γ f;rw [this] at c;cases c
 .exfalso;rw [Bool.or_eq_false_iff] at c;rcases e with e|⟨x,q,k,l⟩
  .rw [e] at c;cases c.1
  .have:=List.any_eq_false.1 c.2 x q;simp only [τ,not_and] at this;exact this (Γ k) (Γ l)
 .exact c
section
variable {P:Program} {ap:AP} {H:dD}
theorem FR.congr {env b:ji} {hp hp':Hp} {dfs:List (Nat × List AV)} {nt:Nat} {m:aW} {S:aO} {w:World} {a:Act} (h:FR ap env hp dfs nt m S w a) (d:∀ t,b.get t=env.get t) (c:look hp'=look hp):FR ap b hp' dfs nt m S w a:=by
 refine ⟨c ▸ h.srel,λt=> ?_,c ▸ h.dfs,h.size⟩;rw [d,c];exact h.env t
def sF (listed:Array Bool):Nat->Bool:=λk=>listed.getD k false
theorem adn {listed:Array Bool} {i:Nat} (a:i<listed.size) (k:Nat):sF (listed.setIfInBounds i true) k=(if k=i then true else sF listed k):=by
 simp only [sF,Array.getD_eq_getD_getElem?];by_cases h:k=i
 .subst h;rw [if_pos rfl,Array.getElem?_setIfInBounds_self_of_lt a];rfl
 .rw [if_neg h,Array.getElem?_setIfInBounds_ne (λe=>h e.symm)]
def Gg (n:Nat) (D:Nat->Bool):Nat:=((Xqo n).filter λi=> !D i).length
theorem EP {D D':Nat->Bool} {i:Nat} (c:D i=false) (b:∀ k,D' k=if k=i then true else D k):∀ (l:List Nat),l.Nodup->i ∈ l->(l.filter λk=> !D k).length=(l.filter λk=> !D' k).length+1
 | [],_,h=>by simp at h
 | a::r,hn,h=>by
  rw [Xkw] at hn;by_cases ha:a=i
  .subst ha;have hsame:r.filter (λk=> !D k)=r.filter (λk=> !D' k):=by
    refine List.filter_congr λk d=> ?_
    have:k ≠ a:=λe=>hn.1 (e ▸ d)
    rw [b k,if_neg this]
   have f:D' a=true:=by rw [b a,if_pos rfl]
   simp [c,f,hsame]
  .have j:=EP c b r hn.2 (by simpa [Ne.symm ha] using h);have:D' a=D a:=by rw [b a,if_neg ha]
   simp only [List.filter_cons,this];split<;>simp [j]
theorem abp {ops:List Oper} (h:vG ops=true) {listed:Array Bool} (o:listed.size=ops.length) (b:Region.ready .any ops.toArray listed= []):∀ k,k<ops.length->sF listed k=true:=by
 intro k
 induction k using Nat.strongRecOn with
 | _ k ih=>
  intro d;cases hd:sF listed k with
  |true=>rfl
  | false=>
   exfalso;have a:k ∈ Region.ready .any ops.toArray listed:=by
    simp only [Region.ready,Xvq,Yxs,Xxh];refine ⟨d, ?_⟩;have j:listed.getD k true=false:=by
     simp only [sF,Array.getD_eq_getD_getElem?] at hd ⊢;rw [Array.getElem?_eq_getElem (by omega)] at hd ⊢;simpa using hd
    have l:ops.toArray[k]? =some ops[k]:=by simp [d]
    rw [j,l];simp only [Bool.not_false,Bool.true_and,Xjm,Xzp,Array.all_eq_true',Xvp,Xqs];intro e n;cases f:Region.binds .any e with
    |false=>exact .inl rfl
    |true=>
     right;simp only [vG,Xzo] at h;have c:=h (ops[k],k) (by rw [Xzs];simp [d]) e (by simpa using n);rw [f] at c;simp only [Xxl,Xx3] at c;have i:=gI c;exact ih e.on i (by omega)
   rw [b] at a;cases a
theorem Jb {ops:List Oper} {listed:Array Bool} (k:listed.size=ops.length) {i:Nat} (h:i ∈ Region.ready .any ops.toArray listed):∃ o,ops[i]? =some o/\sF listed i=false/\i<ops.length/\∀ e ∈ o.after,Region.binds .any e=true->sF listed e.on=true:=by
 simp only [Region.ready,Xvq,Yxs,Xxh,τ,Xqs] at h;obtain ⟨c,a,b⟩:=h;have d:ops.toArray[i]? =some ops[i]:=by simp [c]
 rw [d] at b;simp only [Xjm,Xzp,Array.all_eq_true',Xvp,Xqs] at b;refine ⟨ops[i],μ c, ?_,c,λe j f=> ?_⟩
 .simp only [sF,Array.getD_eq_getD_getElem?] at a ⊢;rw [Array.getElem?_eq_getElem (by omega)] at a ⊢;simpa using a
 .rcases b e j with h|h
  .rw [f] at h;cases h
  .exact h
end
end AM
namespace AM
open Go
theorem Za {a b:zV} {x:Nat} (h:x ∈ a.wt) (c:x ∈ b.rt):lJ a b=true:=by simp [lJ,uD h c]
theorem O0 {a b:zV} {x:Nat} (h:x ∈ a.wt) (c:x ∈ b.wt):lJ a b=true:=by simp [lJ,uD h c]
theorem Y_ {a b:zV} {x:Nat} (h:x ∈ a.rt) (c:x ∈ b.wt):lJ a b=true:=by simp [lJ,uD h c]
theorem WO {a b:zV} {x:Nat} (h:x ∈ a.wb) (c:x ∈ b.rb):lJ a b=true:=by simp [lJ,uD h c]
theorem KC {a b:zV} {x:Nat} (h:x ∈ a.wb) (c:x ∈ b.wb):lJ a b=true:=by simp [lJ,uD h c]
theorem WN {a b:zV} {x:Nat} (h:x ∈ a.rb) (c:x ∈ b.wb):lJ a b=true:=by simp [lJ,uD h c]
theorem xW {d:Option Nat} {t:Nat} (h:d=some t):t ∈ UK d:=by subst h;simp [UK]
section
variable {P:Program} {ap:AP} {H:dD}
structure ahv (ap:AP) (ops:List Oper) (recs:List lH) (e0:ji) (hp0:Hp) (dfs:List (Nat × List AV)) (nt:Nat) (m0:aW) (S0:aO) (w0:World) (listed:Array Bool) (m:aW) (S:aO) (w:World) (a:Act):Prop where
 sz:listed.size=ops.length
 cl:FO ops (sF listed)
 fr:Fr (look hp0) m0 S0 w0 (look (rM (sF listed) 0 hp0 recs)) m S w
 rel:FR ap (pz (sF listed) 0 e0 recs) (rM (sF listed) 0 hp0 recs) dfs nt m S w a
theorem O6 {ops:List Oper} {recs:List lH} {s:RS} {z nt:Nat} (hnt:∀ o ∈ ops,∀ d,o.dst=some d->d<nt) (hlen:recs.length=ops.length)
  (hbound:∀ (k:Nat) (r:lH),recs[k]? =some r->∀ b ∈ r.ups.map (·.1),b<z+4*k+4)
  (hsem:∀ (k:Nat) (r:lH),recs[k]? =some r->∃ o,ops[k]? =some o/\r.dst=o.dst/\∀ (D:Nat->Bool) m S w (a:Act),b_ ap (look (rM D 0 s.hp recs)) m S w->(∀ t ∈ r.rt,VR (look (rM D 0 s.hp recs)) m S ((rJ s.env (recs.take k)).get t) (a.tmps.getD t undef))->
   (∀ b ∈ r.rb,look (Ij s.hp (recs.take k)) b=look (rM D 0 s.hp recs) b)->(∀ j,j<4->look (rM D 0 s.hp recs) (z+4*k+j)=none)->(∀ j,((Region.before ops.toArray).toList.getD j 0).testBit k=true->D j=false)->
   ∀ (Q:Exit->Act->World->Prop) (K:Act->World->Prop),qy ap o (look (rM D 0 s.hp recs)) m S w a r.v r.ups [] Q K none->wpO P ops.toArray Q o K a w)
  (hord:Mc z (λj i=>((Region.before ops.toArray).toList.getD j 0).testBit i) recs) (hback:vG ops=true) (hn0:∀ b B,look s.hp b=some B->b<z) {m0:aW} {S0:aO} {w0:World} {Q:Exit->Act->World->Prop}
  (hQ:∀ m S w a,Fr (look s.hp) m0 S0 w0 (look (Ij s.hp recs)) m S w->FR ap (rJ s.env recs) (Ij s.hp recs) s.dfs nt m S w a->Q .normal a w):
  ∀ (l:Nat) (listed:Array Bool) (m:aW) (S:aO) (w:World) (a:Act),ahv ap ops recs s.env s.hp s.dfs nt m0 S0 w0 listed m S w a->Gg ops.length (sF listed)<=l->wpAny P .any ops.toArray Q l listed a w:=by
 have hdone:∀ (listed:Array Bool) (m:aW) (S:aO) (w:World) (a:Act),ahv ap ops recs s.env s.hp s.dfs nt m0 S0 w0 listed m S w a->(∀ k,k<ops.length->sF listed k=true)->Q .normal a w:=by
  intro listed m S w a p v;have hh:∀ b,look (Ij s.hp recs) b=look (rM (sF listed) 0 s.hp recs) b:=λb=>
   uz recs 0 _ _ rfl λk r c _=>by rw [v (0+k) (by have:=(List.getElem?_eq_some_iff.1 c).1;omega)]
  have Z:∀ t,(rJ s.env recs).get t=(pz (sF listed) 0 s.env recs).get t:=λt=>
   qK recs 0 _ _ rfl λk r c _=>by rw [v (0+k) (by have:=(List.getElem?_eq_some_iff.1 c).1;omega)]
  have G:=funext hh;exact hQ m S w a (G ▸ p.fr) (p.rel.congr Z G)
 intro l
 induction l with
 | zero=>
  intro listed m S w a p hm;have v:∀ k,k<ops.length->sF listed k=true:=by
   intro k c;cases hd:sF listed k with
   |true=>rfl
   |false=>
    have M:k ∈ (Xqo ops.length).filter λi=> !sF listed i:=by simp [c,hd]
    have:(Xqo ops.length).filter (λi=> !sF listed i)= []:=Xq2 (Nat.le_zero.1 hm);rw [this] at M;cases M
  refine ⟨?_,hdone listed m S w a p v⟩;cases hr:Region.ready .any ops.toArray listed with
  |nil=>rfl
  |cons i r=>
   obtain ⟨o,_,n,h3,_⟩:=Jb p.sz (i:=i) (by rw [hr];simp);rw [v i h3] at n;cases n
 | succ l ih=>
  intro listed m S w a p hm;refine ⟨λY=>hdone listed m S w a p (abp hback p.sz Y),λi hi=> ?_⟩;obtain ⟨o,J,F,R,hedges⟩:=Jb p.sz hi;have u:recs[i]? =some recs[i]:=μ (by omega);generalize recs[i]=r at u;obtain ⟨o',V,A,hstep⟩:=hsem i r u;rw [J] at V;cases V;have X:i<listed.size:=by rw [p.sz];exact R
  have f:=adn X;have L:FO ops (sF (listed.setIfInBounds i true)):=by
   intro k o2 c hd e Z y;rw [f] at hd ⊢;split
   .rfl
   .split at hd
    .rename_i C;subst C;rw [J] at c;cases c;exact hedges e Z y
    .exact p.cl k o2 c hd e Z y
  have N:∀ k q,recs[k]? =some q->k<i->(lJ q.foot r.foot=true\/∃ x ∈ r.ups.map (·.1),z+4*k<=x/\x<z+4*k+4)->sF listed k=true:=by
   intro k q c C hc;have E:=hord.ok k i q r c u C hc;have n:=tq L (k:=i) (i:=k) (by rw [f,if_pos rfl]) E;rw [f,if_neg (by omega)] at n;exact n
  have hhigh:∀ k q,recs[k]? =some q->i<k->(lJ r.foot q.foot=true\/∃ x ∈ q.ups.map (·.1),z+4*i<=x/\x<z+4*i+4)->sF listed k=false:=by
   intro k q c C hc;cases hd:sF listed k with
   |false=>rfl
   |true=>
    have E:=hord.ok i k r q u c C hc;have n:=tq p.cl hd E;rw [F] at n;cases n
  have O:∀ k q,recs[k]? =some q->(k<i->lJ q.foot r.foot=true)->(i<k->lJ r.foot q.foot=true)->decide (k<i)=sF listed k:=by
   intro k q c E n;rcases Xz7 k i with h|h|h
   .rw [N k q c h (.inl (E h))];simp [h]
   .subst h;rw [F];simp
   .rw [hhigh k q c h (.inl (n h))];simp;omega
  have hagr':∀ k q,recs[k]? =some q->(k<i->lJ q.foot r.foot=true)->(i<k->lJ r.foot q.foot=true)->sF (listed.setIfInBounds i true) k=decide (k<i+1):=by
   intro k q c E n;rw [f];rcases Xz7 k i with h|h|h
   .rw [if_neg (by omega),N k q c h (.inl (E h))];simp;omega
   .subst h;simp
   .rw [if_neg (by omega),hhigh k q c h (.inl (n h))];simp;omega
  have U:∀ t ∈ r.rt,(rJ s.env (recs.take i)).get t=(pz (sF listed) 0 s.env recs).get t:=by
   intro t I;rw [<- BJ];refine qK recs 0 _ _ rfl λk q c hd=> ?_
   rw [Δ];exact O k q c (λ_=>Za (xW hd) I) (λ_=>Y_ I (xW hd))
  have hhp:∀ b ∈ r.rb,look (Ij s.hp (recs.take i)) b=look (rM (sF listed) 0 s.hp recs) b:=by
   intro b y;rw [<- SL];refine uz recs 0 _ _ rfl λk q c hd=> ?_
   rw [Δ];exact O k q c (λ_=>WO hd y) (λ_=>WN y hd)
  have hfresh:∀ j,j<4->look (rM (sF listed) 0 s.hp recs) (z+4*i+j)=none:=by
   intro j hj;have E:look (rM (sF listed) 0 s.hp recs) (z+4*i+j)=look (rM (λ_=>false) 0 s.hp recs) (z+4*i+j):=by
    refine uz recs 0 _ _ rfl λk q c hd=> ?_
    rw [Δ];have y:=hbound k q c _ hd;rcases Xz7 k i with h|h|h
    .omega
    .subst h;exact F
    .exact hhigh k q c h (.inr ⟨_,hd,by omega,by omega⟩)
   rw [E,qO recs 0 _ (λ_ _=>rfl)];cases y:look s.hp (z+4*i+j) with
   |none=>rfl
   |some B=>have:=hn0 _ _ y;omega
  have W:ops.toArray[i]? =some o:=by simpa using J
  have hgoal:wpO P ops.toArray Q o (wpAny P .any ops.toArray Q l (listed.setIfInBounds i true)) a w:=by
   refine hstep (sF listed) m S w a p.rel.srel (λt I=>by rw [U t I];exact p.rel.env t) hhp hfresh (λj hj=>by
    cases hd:sF listed j with
    |false=>rfl
    |true=>
     have n:=tq p.cl hd hj;rw [F] at n;cases n) Q _ ?_
   intro cv m' S' w' ds E n h3 h4;have hF:=p.rel.put (hnt o (Xqm J)) E n h3 h4;rw [oZ] at n;rw [Xqc] at hF;have he':∀ t,(pz (sF (listed.setIfInBounds i true)) 0 s.env recs).get t=(tN (pz (sF listed) 0 s.env recs) o.dst r.v).get t:=by
    intro t;by_cases I:o.dst=some t
    .have h5:(pz (sF (listed.setIfInBounds i true)) 0 s.env recs).get t=(pz (λj=>decide (j<i+1)) 0 s.env recs).get t:=by
      refine qK recs 0 _ _ rfl λk q c hd=> ?_
      rw [Δ];have T:t ∈ r.foot.wt:=xW (A.trans I);exact hagr' k q c (λ_=>O0 (xW hd) T) (λ_=>O0 T (xW hd))
     rw [h5,BJ,KH _ _ _ _ u,A,I,lK,lK]
    .rw [Ic I];refine qK recs 0 _ _ rfl λk q c hd=> ?_
     rw [Δ,f,if_neg]
     rintro rfl
     rw [u] at c;cases c;exact I (A ▸ hd)
   have G:look (rM (sF (listed.setIfInBounds i true)) 0 s.hp recs)=look (r.ups++rM (sF listed) 0 s.hp recs):=by
    funext b;by_cases y:b ∈ r.ups.map (·.1)
    .have h5:look (rM (sF (listed.setIfInBounds i true)) 0 s.hp recs) b=look (rM (λj=>decide (j<i+1)) 0 s.hp recs) b:=by
      refine uz recs 0 _ _ rfl λk q c hd=> ?_
      rw [Δ];exact hagr' k q c (λ_=>KC hd y) (λ_=>KC y hd)
     rw [h5,SL,aak _ _ _ _ u];exact BX y
    .rw [vM y];refine uz recs 0 _ _ rfl λk q c hd=> ?_
     rw [Δ,f,if_neg]
     rintro rfl
     rw [u] at c;cases c;exact y hd
   refine ih _ m' S' w' _ ⟨by rw [Array.size_setIfInBounds];exact p.sz,L, ?_,hF.congr he' G⟩ ?_
   .rw [G];exact p.fr.trans n
   .have:=EP F f (Xqo ops.length) Xwz (by simp [R]);simp only [Gg] at hm ⊢;omega
  simp only [wpOp,W];exact hgoal
theorem Zh {ops:List Oper} {recs:List lH} {s s':RS} {l nt:Nat} (q:∀ o ∈ ops,∀ d,o.dst=some d->d<nt) (e:recs.length=ops.length) (f:YP P ap ops 0 l s s' recs) (h:s'.dfs.length=s.dfs.length)
  (hord:Mc l (λj i=>((Region.before ops.toArray).toList.getD j 0).testBit i) recs) (hback:vG ops=true) (hn0:∀ b B,look s.hp b=some B->b<l) {m0:aW} {S0:aO} {w0:World} {Q:Exit->Act->World->Prop}
  (hQ:∀ m S w a,Fr (look s.hp) m0 S0 w0 (look (Ij s.hp recs)) m S w->FR ap (rJ s.env recs) (Ij s.hp recs) s.dfs nt m S w a->Q .normal a w):
  ∀ (fuel:Nat) (listed:Array Bool) (m:aW) (S:aO) (w:World) (a:Act),ahv ap ops recs s.env s.hp s.dfs nt m0 S0 w0 listed m S w a->Gg ops.length (sF listed)<=fuel->wpAny P .any ops.toArray Q fuel listed a w:=by
 obtain ⟨_,c⟩:=f.sem h;refine O6 q e f.bound (λk r x=> ?_) hord hback hn0 hQ;obtain ⟨o,t,u,A⟩:=c k r x;rw [Δ] at t;exact ⟨o,t,u,λD m S w a v E n p _ Q K C=>A _ m S w a v E (λb y B z=>by rw [<- n b y];exact z) p Q K C⟩
def rW (ap:AP) (base:Nat) (keep:List Nat) (hp0:Hp) (m:aW) (S:aO) (w:World) (nt:Nat) (s':St) (Q:Exit->Act->World->Prop):bI->Prop
 | .panic v=>match (eG v).isEmpty with
  |true=> ∀ s1:St,s'=norm base keep s1->Ba ap hp0 m S w nt s1.env s1.hp s1.dfs Q (some v)
  |false=>Ba ap hp0 m S w nt s'.env s'.hp s'.dfs Q (some v)
 | .normal=> ∀ s1:St,s'=norm base keep s1->Ba ap hp0 m S w nt s1.env s1.hp s1.dfs Q none
 |_=>True
theorem Ob (u:iy P ap) (G:P.follows .mixedOrders=true) (I:ku P ap H) {ops:List Oper} {l:Bool} {nt base:Nat} {keep:List Nat} (y:∀ o ∈ ops,∀ d,o.dst=some d->d<nt) {s:St} {e:bI} {s':St} {c T:Cx} {id:Nat}
  (h:Oa ap H base keep ops l s c= .ok (e,s') T) (hc:T.Ok):c.Ok/\(s.md= .dead->s'.md= .dead/\(∀ m S w a,FR ap s.env s.hp s.dfs nt m S w a->∀ Q,
   rW ap base keep s.hp m S w nt s' Q e->(Code.region id ops.toArray l).wp P Q a w)):=by
 unfold Oa at h;obtain ⟨⟨s1,p⟩,Y,J,h⟩:=R.bind_ok h;dsimp only at h;have r:∀ b B,look s.hp b=some B->b<jJ s.hp:=λb B q=>D6 q
 cases p with
 | some v=>
  cases l with
  |true=>cases h
  | false=>
   dsimp only at h;split at h
   .rename_i C;cases h;obtain ⟨f,hs⟩:=yV u I y ops 0 _ _ _ _ _ _ J hc;refine ⟨f,λi=> ?_⟩;obtain ⟨A,E⟩:=hs i (λt b q=>by cases q) rfl r;refine ⟨A,λm S w a j Q z=>wp_region ?_⟩;simp only [rW,C] at z;have:=E m S w a j Q (z _ rfl);rw [<- Xws] at this;simpa using this
   .rename_i C;cases h;obtain ⟨f,hs⟩:=yV u I y ops 0 _ _ _ _ _ _ J hc;refine ⟨f,λi=> ?_⟩;obtain ⟨A,E⟩:=hs i (λt b q=>by cases q) rfl r;refine ⟨A,λm S w a j Q z=>wp_region ?_⟩;simp only [rW,C] at z;have:=E m S w a j Q z;rw [<- Xws] at this;simpa using this
 | none=>
  dsimp only at h;split at h
  .rename_i hcond;cases h;cases l with
   |false=>
    obtain ⟨f,hs⟩:=yV u I y ops 0 _ _ _ _ _ _ J hc;refine ⟨f,λi=> ?_⟩;obtain ⟨A,E⟩:=hs i (λt b q=>by cases q) rfl r;refine ⟨A,λm S w a j Q z=>wp_region ?_⟩;have:=E m S w a j Q (z _ rfl);rw [<- Xws] at this;simpa using this
   | true=>
    obtain ⟨f,hs⟩:=acz u I ops 0 _ _ _ _ _ J hc;refine ⟨f,λi=> ?_⟩;obtain ⟨A,recs,F,n⟩:=hs i (λt b q=>by cases q) rfl;refine ⟨A,λm S w a j Q z=>wp_region_any G ?_⟩;simp only [Xxl,Xx3,τ] at hcond;obtain ⟨⟨U,hback⟩,x⟩:=hcond;have x:=aN x;rw [n.feet,List.append_nil] at U;have K:=z _ rfl;have M:=(n.sem x).1;have D:sF (Array.replicate ops.length false)=λ_=>false:=by
     funext k;simp only [sF,Array.getD_eq_getD_getElem?];by_cases O:k<ops.length<;>simp [O]
    have N:ops.toArray.size=ops.length:=by simp
    rw [N];refine Zh y F n x (I4 U) hback r (m0:=m) (S0:=S) (w0:=w) (Q:=Q) ?_ ops.length _ m S _ a ⟨by simp, ?_, ?_, ?_⟩ ?_
    .intro X S' w' V L W;refine K X S' w' V ?_ ?_
     .rw [n.hp];exact L
     .rw [n.hp,n.env,M];exact W
    .intro k o O hd;rw [D] at hd;cases hd
    .rw [D,qO recs 0 _ (λ_ _=>rfl)];exact ⟨Ge.refl _ _,iV.refl _,rfl,rfl,rfl,κ _,λ_ _ _=>rfl,λ_ B h=> .inr ⟨B,h,rfl⟩,λ_ _ _ h=> .inl h⟩
    .rw [D,qO recs 0 _ (λ_ _=>rfl),yK recs 0 _ (λ_ _=>rfl)];exact ⟨⟨j.srel.inj,λb B q=>j.srel.blk b B q|>λ⟨A,E,L⟩=> ⟨A,E,L⟩,j.srel.sealed,j.srel.own,j.srel.glob⟩,j.env,j.dfs,j.size⟩
    .exact Xqr (List.length_filter_le _ _) (by simp)
  .cases h
end
end AM
namespace AM
open Go
def Fq (acc:List Nat) (b:Nat):List Nat:=if rP acc b then acc else acc++ [b]
theorem WA (a:List Nat) (b:Nat) (h:a.Nodup):(Fq a b).Nodup/\∃ t,Fq a b=a++t:=by
 unfold Fq;split
 .exact ⟨h,[],by simp⟩
 .rename_i f;refine ⟨?_,[b],rfl⟩;rw [List.nodup_append];refine ⟨h,by simp, ?_⟩;intro x d y c e;simp at c;subst c;subst e;exact f (jf.2 d)
theorem rY:∀ (l a:List Nat),a.Nodup->(l.foldl Fq a).Nodup/\∃ t,l.foldl Fq a=a++t
 | [],a,h=> ⟨h,[],by simp⟩
 |b::r,a,h=>by
  simp only [Xjz];obtain ⟨i,e,f⟩:=WA a b h;obtain ⟨d,j,c⟩:=rY r _ i;exact ⟨d,e++j,by rw [c,f,Xqe]⟩
theorem GU:∀ (l a:List Nat),l.Nodup->(∀ x ∈ l,x ∉ a)->l.foldl Fq a=a++l
 | [],a,_,_=>by simp
 | b::r,a,h,hd=>by
  rw [Xkw] at h;have e:rP a b=false:=by
   cases c:rP a b with
   |false=>rfl
   |true=>exact absurd (jf.1 c) (hd b (by simp))
  simp only [Xjz];have:Fq a b=a++ [b]:=by simp [Fq,e]
  rw [this,GU r _ h.2]
  .simp
  .intro x d c;rcases List.mem_append.1 c with c|c
   .exact hd x (by simp [d]) c
   .simp at c;subst c;exact h.1 d
theorem XG (l:List Nat):jK l=l.foldl Fq []:=rfl
theorem Tu (n:Nat) (l:List Nat):(jK (Xqo n++l)).Nodup/\∃ t,jK (Xqo n++l)=Xqo n++t:=by
 rw [XG,List.foldl_append,GU (Xqo n) [] Xwz (by simp),Xqc];exact rY l _ Xwz
theorem xB (rd:dK):∀ (n:Nat) (l:List Nat),l.Nodup->(wW rd n l).Nodup/\∃ t,wW rd n l=l++t
 |0,l,h=> ⟨h,[],by simp [wW]⟩
 | n+1,l,h=>by
  simp only [wW];split
  .exact ⟨h,[],by simp⟩
  .obtain ⟨e,f,d⟩:=rY (l.flatMap λb=>match rd b with|some B=>(match B.pr with|true=> []|false=>cZ B.cells)|none=> []) l h;obtain ⟨c,i,a⟩:=xB rd n _ e;refine ⟨c,f++i, ?_⟩;exact a.trans (by rw [d,Xqe])
theorem La {f:Nat->AV}:∀ (keep:List Nat) (t:Nat),look (keep.map λt=>(t,f t)) t=if t ∈ keep then some (f t) else none
 | [],t=>by simp [look]
 | a::r,t=>by
  simp only [Xqg,look,La r t];cases h:Xqk a t with
  |true=>have:=aN h;subst this;simp
  |false=>
   have b:t ≠ a:=by intro e;subst e;simp at h
   simp [b]
theorem EK {rd:dK} {mk:Nat->aU->aU}:∀ (ids:List Nat) (j p:Nat),look ((ids.zipIdx j).filterMap λ(b,p)=>(rd b).map λB=>(p,mk p B)) p=if j<=p then (ids[p - j]?).bind λb=>(rd b).map (mk p) else none
 | [],j,p=>by simp [look]
 | a ::r,j,p=>by
  have f:=EK (rd:=rd) (mk:=mk) r (j+1) p;rw [List.zipIdx_cons];cases c:rd a with
  | none=>
   rw [Xv7 (by simp [c]),f];by_cases hj:j+1<=p
   .rw [if_pos hj,if_pos (by omega)];obtain ⟨d,hd⟩:∃ d,p - j=d+1:=⟨p - j - 1,by omega⟩
    rw [hd,Xja,show p - (j+1)=d by omega]
   .rw [if_neg hj];by_cases hjp:j<=p
    .rw [if_pos hjp,show p - j=0 by omega];simp [c]
    .rw [if_neg hjp]
  | some B=>
   rw [Xv8 (by simp [c];rfl)];simp only [look];cases h:Xqk j p with
   |true=>have:=aN h;subst this;simp [c]
   | false=>
    have i:j ≠ p:=by intro e;subst e;simp at h
    simp only [f];by_cases hj:j+1<=p
    .rw [if_pos hj,if_pos (by omega)];obtain ⟨d,hd⟩:∃ d,p - j=d+1:=⟨p - j - 1,by omega⟩
     rw [hd,Xja,show p - (j+1)=d by omega]
    .rw [if_neg hj,if_neg (by omega)]
theorem Lh:∀ {l:List Nat},l.Nodup->vO l=true
 | [],_=>rfl
 |b::r,h=>by
  rw [Xkw] at h;simp only [vO,τ,Xqs];refine ⟨?_,Lh h.2⟩;cases a:rP r b with
  |false=>rfl
  |true=>exact absurd (jf.1 a) h.1
section
variable {P:Program} {ap:AP} {H:dD}
theorem OI {g g':dK} {m b:aW} {S S':aO} {ρ:Nat->Nat->Option (Nat × Nat)} (a:iV S S') (h:wI g m g' b ρ):∀ {l:List (Nat × List AV)} {ds:List Deferred},iO g m S l ds->iO g' b S' (l.map λd=>(d.1,pI ρ d.2)) ds
 | [],[],_=>by simp [iO]
 |d::r,cd::cr,p=>by
  simp only [iO] at p;obtain ⟨⟨cap,e,f⟩,c⟩:=p;simp only [Xqg,iO];exact ⟨⟨cap,e,mf a h _ f⟩,OI a h c⟩
 | [],_::_,p=>by simp [iO] at p
 |_::_,[],p=>by simp [iO] at p
theorem qX {h0:List aU} {keep:List Nat} {s:St} {nt:Nat} {m m0:aW} {S S0:aO} {w w0:World} {a:Act} (c:Fr (bz h0) m0 S0 w0 (look s.hp) m S w) (C:FR ap s.env s.hp s.dfs nt m S w a):
  ∃ m',Fr (bz h0) m0 S0 w0 (look (norm h0.length keep s).hp) m' S w/\FR ap (norm h0.length keep s).env (norm h0.length keep s).hp (norm h0.length keep s).dfs nt m' S w a:=by
 obtain ⟨_,t0,O⟩:=xB (look s.hp) 20 (Xqo h0.length) Xwz;generalize hroots:t0++(Hy keep s.env++s.dfs.flatMap (λd=>cZ d.2))=roots;have hroots':wW (look s.hp) 20 (Xqo h0.length)++Hy keep s.env++s.dfs.flatMap (λd=>cZ d.2)=Xqo h0.length++roots:=by rw [<- hroots,O];simp only [Xqe]
 obtain ⟨R,t1,J⟩:=Tu h0.length roots;obtain ⟨W,t2,K⟩:=xB (look s.hp) 20 _ R;rw [J,Xqe] at K;have hsome:∀ b,b<h0.length->∃ B0 B,bz h0 b=some B0/\look s.hp b=some B/\B.esz=B0.esz/\((B.ver=B0.ver/\m b=m0 b)\/B0.ver<B.ver):=by
  intro b z;obtain ⟨B,k,r⟩:=c.ge b h0[b] (by simp [bz,z]);exact ⟨h0[b],B,by simp [bz,z],k,r⟩
 generalize l:(wW (look s.hp) 20 (jK (Xqo h0.length++roots))).filter (λb=>(look s.hp b).isSome)=ids;have T:ids.Nodup:=by rw [<- l];exact W.filter _
 have D:=Lh T;have x:∃ t,ids=Xqo h0.length++t:=by
  rw [<- l,J,K,List.filter_append];refine ⟨_,congrArg (· ++_) ?_⟩;rw [List.filter_eq_self];intro b z;obtain ⟨_,B,_,r,_⟩:=hsome b (by simpa using z);simp [r]
 obtain ⟨t,x⟩:=x;have y:∀ b,b<h0.length->ids[b]? =some b:=by
  intro b z;rw [x,Xxf (by simpa using z)];simp [z]
 have M:∀ (p b:Nat),ids[p]? =some b->∃ B,look s.hp b=some B:=by
  intro p b hp;have:=Xqm hp;rw [<- l,Xvq] at this;exact Option.isSome_iff_exists.1 this.2
 let ρ:Nat->Nat->Option (Nat × Nat):=λb v=>match look s.hp b with
  |some B=>match Xqk B.ver v with
   |true=>(tC ids b).map λp=>(p,match Xjk p h0.length with|true=>v|false=>0)
   |false=>none
  |none=>none
 let mk:Nat->aU->aU:=λp B=> {B with cells:=(match B.pr with|true=>B.cells|false=>pI ρ B.cells),ver:=match Xjk p h0.length with|true=>B.ver|false=>0}
 have hnorm:norm h0.length keep s=⟨keep.map λt=>(t,ren ρ (s.env.get t)),ids.zipIdx.filterMap λ(b,p)=>(look s.hp b).map λB=>(p,mk p B),s.md,s.dfs.map λd=>(d.1,pI ρ d.2)⟩:=by
  unfold norm;simp only [hroots',l];rfl
 rw [hnorm];dsimp only;have A:∀ p,look (ids.zipIdx.filterMap λ(b,p)=>(look s.hp b).map λB=>(p,mk p B)) p=(ids[p]?).bind λb=>(look s.hp b).map (mk p):=by
  intro p;rw [EK (rd:=look s.hp) (mk:=mk) ids 0 p,if_pos (Xq7 _),Nat.sub_zero]
 generalize (ids.zipIdx.filterMap λ(b,p)=>(look s.hp b).map λB=>(p,mk p B))=hp2 at A;have f:∀ (p:Nat) (B2:aU),look hp2 p=some B2->∃ b B,ids[p]? =some b/\look s.hp b=some B/\B2=mk p B:=by
  intro p B2 h;rw [A] at h;cases hp:ids[p]? with
  |none=>rw [hp] at h;cases h
  |some b=>
   rw [hp] at h;obtain ⟨B,L⟩:=M p b hp;simp only [Xvf,L,Xjm,Option.some.injEq] at h;exact ⟨b,B,rfl,L,h.symm⟩
 let m2:aW:=λp=>m (ids.getD p 0)
 have j:∀ (p b:Nat),ids[p]? =some b->m2 p=m b:=by
  intro p b hp;show m (ids.getD p 0)=_;rw [ξ,hp];rfl
 have u:wI (look s.hp) m (look hp2) m2 ρ:=by
  intro b ver p ver' h B L hver;simp only [ρ,L] at h;split at h
  .rename_i G;have G:=aN G;simp only [Xqq,Prod.mk.injEq] at h;obtain ⟨q,F,rfl,rfl⟩:=h;have F:=uB F;refine ⟨mk q B, ?_, ?_,λ_=> ⟨G,j q b F,rfl⟩⟩
   .rw [A,F];simp [L]
   .simp only [mk];split
    .omega
    .exact κ _
  .cases h
 have E:∀ (p q b:Nat),ids[p]? =some b->ids[q]? =some b->p=q:=by
  intro p q b hp F;have e1:=sJ D hp;rw [sJ D F] at e1;cases e1;rfl
 refine ⟨m2, ?_, ?_, ?_, ?_,C.size⟩
 .refine ⟨?_,c.sle,c.os,c.tape,c.output,c.size,c.rest, ?_,c.sealN⟩
  .intro b B0 z;have n:b<h0.length:=(List.getElem?_eq_some_iff.1 z).1;obtain ⟨B0',B,k,r,N,Q⟩:=hsome b n;rw [z] at k;cases k;have V:Xjk b h0.length=true:=Γ n;refine ⟨mk b B,by rw [A,y b n];simp [r],N, ?_⟩;simp only [mk,V];rw [j b b (y b n)];exact Q
  .intro p B2 hp;obtain ⟨b,B,k,r,rfl⟩:=f p B2 hp;rw [j p b k];rcases c.img b B r with h|⟨B0,N,Q⟩
   .exact .inl h
   .have n:b<h0.length:=(List.getElem?_eq_some_iff.1 N).1;have:=E p b b k (y b n);subst this;exact .inr ⟨B0,N,Q⟩
 .refine ⟨?_, ?_,C.srel.sealed, ?_,C.srel.glob⟩
  .intro p q B2 B2' hp F e;obtain ⟨b,B,k,r,rfl⟩:=f p B2 hp;obtain ⟨b',B',I,U,rfl⟩:=f q B2' F;rw [j p b k,j q b' I] at e;have:=C.srel.inj b b' B B' r U e;subst this;exact E p q b k I
  .intro p B2 hp;obtain ⟨b,B,k,r,rfl⟩:=f p B2 hp;rw [j p b k];obtain ⟨⟨cur,e,vs,rest,k1,X,Y,k4,k5,k6⟩,k7,Z⟩:=C.srel.blk b B r;cases i:B.pr with
   |true=>exact ⟨⟨cur,e,vs,rest,k1,X,λ_=>by simpa [mk,i] using Y i,by simpa [mk,i] using bU _ (Y i),k5,k6⟩,k7,by simpa [mk,i] using Z⟩
   | false=>
    have G:=mf (iV.refl S) u _ k4;exact ⟨⟨cur,e,vs,rest,k1,X,λh=>by simp [mk,i] at h,by simpa [mk,i] using G,k5,k6⟩,k7,by
     have:(mk p B).cells.length=B.cells.length:=by simp only [mk,i];rw [di k4,di G]
     rw [this];exact Z⟩
  .intro p B2 hp o v ho;obtain ⟨b,B,k,r,rfl⟩:=f p B2 hp;rw [j p b k] at ho;exact C.srel.own b B r o v ho
 .intro t;simp only [ji.get,La];by_cases ht:t ∈ keep
  .rw [if_pos ht];exact Du (iV.refl S) u _ (C.env t)
  .rw [if_neg ht];simp [VR]
 .exact OI (iV.refl S) u C.dfs
end
end AM
namespace AM
open Go
mutual
theorem Bd {g g':dK} {m n:aW} {S S':aO} (i:iV S S'):∀ (x:AV) {v:Value},(∀ b ∈ eG x,g' b=g b/\n b=m b)->VR g m S x v->VR g' n S' x v
 | .int _ _,_,_,p=>by simpa only [VR,PR] using p
 | .bool _,_,_,p=>by simpa only [VR,PR] using p
 | .str _,_,_,p=>by simpa only [VR,PR] using p
 | .nilS,_,_,p=>by simpa only [VR,PR] using p
 | .nilP,_,_,p=>by simpa only [VR,PR] using p
 | .nilF,_,_,p=>by simpa only [VR,PR] using p
 | .nilI,_,_,p=>by simpa only [VR,PR] using p
 | .sl _ _ _,_,_,p=>by simp only [VR] at p ⊢;exact aZ i _ p
 | .pp _ _,_,_,p=>by simp only [VR] at p ⊢;exact aZ i _ p
 | .mp _ _,_,_,p=>by simp only [VR] at p ⊢;exact aZ i _ p
 | .dead,_,_,_=>by simp only [VR]
 | .own _ _ _,_,_,p=>by simp only [VR] at p
 | .ref b _ _ _,_,h,p=>by
  obtain ⟨k,j⟩:=h b (by simp [eG]);simp only [VR] at p ⊢;rw [k,j];exact p
 | .ptr b _ _,_,h,p=>by
  obtain ⟨k,j⟩:=h b (by simp [eG]);simp only [VR] at p ⊢;rw [k,j];exact p
 | .mr b _,_,h,p=>by
  obtain ⟨k,j⟩:=h b (by simp [eG]);simp only [VR] at p ⊢;rw [k,j];exact p
 | .agg l,_,h,p=>by
  simp only [VR] at p ⊢;obtain ⟨vs,e,q⟩:=p;exact ⟨vs,e,qh i l (λb d=>h b (by simpa [eG] using d)) q⟩
 | .tup l,_,h,p=>by
  simp only [VR] at p ⊢;obtain ⟨vs,e,q⟩:=p;exact ⟨vs,e,qh i l (λb d=>h b (by simpa [eG] using d)) q⟩
 | .fn f a c,_,h,p=>by
  simp only [VR] at p ⊢;obtain ⟨s,o,e,q,r⟩:=p;exact ⟨s,o,e,qh i a (λb d=>h b (by simp [eG,d])) q,qh i c (λb d=>h b (by simp [eG,d])) r⟩
 | .ifc t x,_,h,p=>by
  simp only [VR] at p ⊢;obtain ⟨u,e,q⟩:=p;exact ⟨u,e,Bd i x (λb d=>h b (by simpa [eG] using d)) q⟩
theorem qh {g g':dK} {m d:aW} {S S':aO} (c:iV S S'):∀ (l:List AV) {vs:List Value},(∀ b ∈ cZ l,g' b=g b/\d b=m b)->bu g m S l vs->bu g' d S' l vs
 | [],[],_,_=>by simp only [bu]
 |x::r,v::vs,h,p=>by
  simp only [bu] at p ⊢;exact ⟨Bd c x (λb a=>h b (by simp [cZ,a])) p.1,qh c r (λb a=>h b (by simp [cZ,a])) p.2⟩
 | [],_::_,_,p=>by simp [bu] at p
 |_::_,[],_,p=>by simp [bu] at p
end
theorem pX {g:dK} {m:aW} {S:aO} {x:AV} {v:Value} (h:(eG x).isEmpty=true) (c:VR g m S x v):PR S x v:=by
 have d:eG x= []:=by simpa using h
 exact nC (m:=m) x (Bd (iV.refl S) x (λb a=>by rw [d] at a;cases a) c)
def O7 (nt:Nat) (o:Oper):Bool:=match o.dst with|some d=>Xjk d nt|none=>true
def dV (nt:Nat):Code->Bool
 | .region _ ops _=>ops.toList.all (O7 nt)
 | .seq a b=>dV nt a && dV nt b
 | .cond _ a b=>dV nt a && dV nt b
 | .block _ b=>dV nt b
 | .loop b=>dV nt b
 | .scope b=>dV nt b
 |_=>true
section
variable {P:Program} {ap:AP} {H:dD}
def YK (hp:Hp) (m:aW) (S:aO) (Q:Exit->Act->World->Prop) (a:Act) (w:World):bI->Prop
 | .normal=>Q .normal a w
 | .exit id=>Q (.exit id) a w
 | .ret=>Q .ret a w
 | .panic v=> ∀ cv,VR (look hp) m S v cv->Q (.panic [{v:=cv,recovered:=false}]) a w
def XA (ap:AP) (h0:List aU) (m0:aW) (S0:aO) (w0:World) (nt:Nat) (s':St) (e:bI) (Q:Exit->Act->World->Prop):Prop:=
 ∀ m' S' w' a',Fr (bz h0) m0 S0 w0 (look s'.hp) m' S' w'->FR ap s'.env s'.hp s'.dfs nt m' S' w' a'->YK s'.hp m' S' Q a' w' e
def ak (P:Program) (ap:AP) (h0:List aU) (nt:Nat) (code:Code) (s:St) (e:bI) (s':St):Prop:=
 s.md= .dead->s'.md= .dead/\∀ m0 S0 w0 m S w a,Fr (bz h0) m0 S0 w0 (look s.hp) m S w->FR ap s.env s.hp s.dfs nt m S w a->∀ Q,XA ap h0 m0 S0 w0 nt s' e Q->code.wp P Q a w
theorem ak.still {h0:List aU} {nt:Nat} {b:Code} {s:St} {e:bI} (h:∀ (Q:Exit->Act->World->Prop) hp m S a w,YK hp m S Q a w e->b.wp P Q a w):ak P ap h0 nt b s e s:=
 λc=> ⟨c,λ_ _ _ m S w a f i Q d=>h Q s.hp m S a w (d m S w a f i)⟩
theorem Il {h0:List aU} {nt:Nat} {b:Code} {f:St->Cx->R (bI × St)} (A:∀ s e s' c c',f s c= .ok (e,s') c'->c'.Ok->c.Ok/\ak P ap h0 nt b s e s'):
  ∀ (n:Nat) (s:St) (e:bI) (s':St) (c c':Cx),U4 f n s c= .ok (e,s') c'->c'.Ok->c.Ok/\(s.md= .dead->s'.md= .dead/\∀ m0 S0 w0 m S w a,Fr (bz h0) m0 S0 w0 (look s.hp) m S w->FR ap s.env s.hp s.dfs nt m S w a->∀ Q,XA ap h0 m0 S0 w0 nt s' e Q->Code.rounds P b Q n a w)
 |0,s,e,s',c,c',h,hc=>by cases h
 | n+1,s,e,s',c,c',h,hc=>by
  simp only [U4] at h;obtain ⟨⟨y,s1⟩,B,C,h⟩:=R.bind_ok h;dsimp only at h;have hother:y ≠ .normal->R.ok (y,s1) B=R.ok (e,s') c'->c.Ok/\(s.md= .dead->s'.md= .dead/\∀ m0 S0 w0 m S w a,Fr (bz h0) m0 S0 w0 (look s.hp) m S w->FR ap s.env s.hp s.dfs nt m S w a->∀ Q,XA ap h0 m0 S0 w0 nt s' e Q->Code.rounds P b Q (n+1) a w):=by
   intro x F;cases F;obtain ⟨d,u⟩:=A _ _ _ _ _ C hc;refine ⟨d,λj=> ?_⟩;obtain ⟨o,l⟩:=u j;refine ⟨o,λm0 S0 w0 m S w a i r Q t=>l m0 S0 w0 m S w a i r _ ?_⟩;intro z S' w' k h5 p;have:=t z S' w' k h5 p;cases e with
   |normal=>exact absurd rfl x
   |exit id=>exact this
   |ret=>exact this
   |panic v=>exact this
  cases y with
  |normal=>
   dsimp only at h;obtain ⟨q,D⟩:=Il A n s1 e s' B c' h hc;obtain ⟨d,u⟩:=A _ _ _ _ _ C q;refine ⟨d,λj=> ?_⟩;obtain ⟨o,l⟩:=u j;obtain ⟨h5,p⟩:=D o;refine ⟨h5,λm0 S0 w0 m S w a i r Q t=>l m0 S0 w0 m S w a i r _ ?_⟩;intro z S' w' k h7 E;exact p m0 S0 w0 z S' w' k h7 E Q t
  |exit id=>exact hother (by simp) h
  |ret=>exact hother (by simp) h
  |panic v=>exact hother (by simp) h
theorem gu (q:iy P ap) (i:P.follows .mixedOrders=true) (I:ku P ap H) {h0:List aU} {keep:List Nat} {lf nt:Nat}:∀ (code:Code),dV nt code=true->∀ (s:St) (e:bI) (s':St) (c p:Cx),oH ap H h0.length keep lf code s c= .ok (e,s') p->p.Ok->c.Ok/\ak P ap h0 nt code s e s'
 | .skip,_,s,e,s',c,p,h,n=>by
  cases h;exact ⟨n,ak.still λQ hp m S a w r=>wp_skip r⟩
 | .label l,_,s,e,s',c,p,h,n=>by
  cases h;exact ⟨n,ak.still λQ hp m S a w r=>wp_label r⟩
 | .exit id,_,s,e,s',c,p,h,n=>by
  cases h;exact ⟨n,ak.still λQ hp m S a w r=>wp_exit r⟩
 | .ret,_,s,e,s',c,p,h,n=>by
  cases h;exact ⟨n,ak.still λQ hp m S a w r=>wp_ret r⟩
 | .region id ops draw,hd,s,e,s',c,p,h,n=>by
  have hnt:∀ o ∈ ops.toList,∀ d,o.dst=some d->d<nt:=by
   intro o ho d Z;have:=List.all_eq_true.1 hd o ho;simp only [O7,Z] at this;exact gI this
  obtain ⟨k,hr⟩:=Ob q i I hnt (id:=id) h n;refine ⟨k,λj=> ?_⟩;obtain ⟨G,h2⟩:=hr j;refine ⟨G,λm0 S0 w0 m S w a f D Q E=> ?_⟩;have:=h2 m S w a D Q;rw [Array.toArray_toList] at this;refine this ?_;cases e with
  |normal=>
   intro s1 O F S' w' u B A;obtain ⟨m2,h5,C⟩:=qX (keep:=keep) (f.trans B) A;rw [<- O] at h5 C;exact E m2 S' w' u h5 C
  | panic v=>
   simp only [rW];split
   .rename_i X;intro s1 O F S' w' u cv B A h5;obtain ⟨m2,C,h7⟩:=qX (keep:=keep) (f.trans B) A;rw [<- O] at C h7;exact E m2 S' w' u C h7 cv (iE _ (pX X h5))
   .intro F S' w' u cv B A h5;exact E F S' w' u (f.trans B) A cv h5
  |exit id=>trivial
  |ret=>trivial
 | .seq x y,hd,s,e,s',c,p,h,n=>by
  simp only [dV,τ] at hd;simp only [oH] at h;obtain ⟨⟨N,s1⟩,L,G,h⟩:=R.bind_ok h;dsimp only at h;have hother:N ≠ .normal->R.ok (N,s1) L=R.ok (e,s') p->c.Ok/\ak P ap h0 nt (.seq x y) s e s':=by
   intro M U;cases U;obtain ⟨k,K⟩:=gu q i I x hd.1 _ _ _ _ _ G n;refine ⟨k,λj=> ?_⟩;obtain ⟨B,A⟩:=K j;refine ⟨B,λm0 S0 w0 m S w a f D Q E=>wp_seq (A m0 S0 w0 m S w a f D _ ?_)⟩;intro F S' w' u h5 C;have:=E F S' w' u h5 C;cases e with
   |normal=>exact absurd rfl M
   |exit id=>exact this
   |ret=>exact this
   |panic v=>exact this
  cases N with
  |normal=>
   dsimp only at h;obtain ⟨J,Y⟩:=gu q i I y hd.2 _ _ _ _ _ h n;obtain ⟨k,K⟩:=gu q i I x hd.1 _ _ _ _ _ G J;refine ⟨k,λj=> ?_⟩;obtain ⟨B,A⟩:=K j;obtain ⟨h5,C⟩:=Y B;refine ⟨h5,λm0 S0 w0 m S w a f D Q E=>wp_seq (A m0 S0 w0 m S w a f D _ ?_)⟩;intro F S' w' u h7 h8;exact C m0 S0 w0 F S' w' u h7 h8 Q E
  |exit id=>exact hother (by simp) h
  |ret=>exact hother (by simp) h
  |panic v=>exact hother (by simp) h
 | .cond t x y,hd,s,e,s',c,p,h,n=>by
  simp only [dV,τ] at hd;simp only [oH] at h;split at h
  .rename_i bv W;obtain ⟨b',L,G,h⟩:=R.bind_ok h;have key:∀ (z:Code),(L.Ok->L.Ok/\z=if bv then x else y)->L.Ok/\ak P ap h0 nt z s e s'->c.Ok/\ak P ap h0 nt (.cond t x y) s e s':=by
    rintro z hzz ⟨J,Y⟩
    obtain ⟨k,hb⟩:=nD G J;refine ⟨k,λj=> ?_⟩;obtain ⟨h5,C⟩:=Y j;refine ⟨h5,λm0 S0 w0 m S w a f D Q E=>wp_cond (t:=bv) ?_ ?_⟩
    .have:=Ag D.srel (a:=a) (env:=s.env) t (λt _=>D.env t);rw [W] at this;simpa only [VR,PR] using this
    .rw [<- (hzz J).2];exact C m0 S0 w0 m S w a f D Q E
   cases b' with
   |true=>exact key x (λT=> ⟨T,by rw [<- (nD G T).2];rfl⟩) (gu q i I x hd.1 _ _ _ _ _ h n)
   |false=>exact key y (λT=> ⟨T,by rw [<- (nD G T).2];rfl⟩) (gu q i I y hd.2 _ _ _ _ _ h n)
  .cases h
 | .block id b,hd,s,e,s',c,p,h,n=>by
  simp only [dV] at hd;simp only [oH] at h;obtain ⟨⟨N,s1⟩,L,G,h⟩:=R.bind_ok h;dsimp only at h;have V:L=p:=by
   cases N<;>dsimp only at h
   .cases h;rfl
   .split at h<;>cases h<;>rfl
   .cases h;rfl
   .cases h;rfl
  subst V;obtain ⟨k,K⟩:=gu q i I b hd _ _ _ _ _ G n;refine ⟨k,λj=> ?_⟩;obtain ⟨B,A⟩:=K j;have hs:s1=s':=by
   cases N<;>dsimp only at h
   .cases h;rfl
   .split at h<;>cases h<;>rfl
   .cases h;rfl
   .cases h;rfl
  subst hs;refine ⟨B,λm0 S0 w0 m S w a f D Q E=>wp_block (A m0 S0 w0 m S w a f D _ ?_)⟩;intro F S' w' u h5 C;have r:=E F S' w' u h5 C;cases N with
  |normal=>cases h;exact r
  |ret=>cases h;exact r
  |panic v=>cases h;exact r
  | exit id'=>
   dsimp only at h;split at h
   .rename_i U;cases h;show Exit.inBlock id Q (.exit id') u w';simp only [Exit.inBlock,if_pos (aN U)];exact r
   .rename_i U;cases h;show Exit.inBlock id Q (.exit id') u w';have M:id' ≠ id:=by intro e;subst e;simp at U
    simp only [Exit.inBlock,if_neg M];exact r
 | .loop b,hd,s,e,s',c,p,h,n=>by
  simp only [dV] at hd;simp only [oH] at h;obtain ⟨k,K⟩:=Il (λs e s' c p h n=>gu q i I b hd s e s' c p h n) lf s e s' c p h n;refine ⟨k,λj=> ?_⟩;obtain ⟨B,A⟩:=K j;exact ⟨B,λm0 S0 w0 m S w a f D Q E=>wp_loop_rounds lf (A m0 S0 w0 m S w a f D Q E)⟩
 | .scope b,hd,s,e,s',c,p,h,n=>by
  simp only [dV] at hd;simp only [oH] at h;obtain ⟨k,K⟩:=gu q i I b hd _ _ _ _ _ h n;refine ⟨k,λj=> ?_⟩;obtain ⟨B,A⟩:=K j;refine ⟨B,λm0 S0 w0 m S w a f D Q E=>wp_scope_straight (A m0 S0 w0 m S w a f D _ ?_)⟩;intro F S' w' u h5 C;have r:=E F S' w' u h5 C;cases e with
  |normal=>exact r
  |exit id=>exact r
  |ret=>exact r
  |panic v=>exact r
 | .rangeFunc _ _ _ _,_,s,e,s',c,p,h,n=>by cases h
 | .goto _,_,s,e,s',c,p,h,n=>by cases h
 | .refuse _,_,s,e,s',c,p,h,n=>by cases h
end
end AM
