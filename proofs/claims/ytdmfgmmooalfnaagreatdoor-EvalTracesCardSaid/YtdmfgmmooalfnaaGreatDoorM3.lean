/- The machine and its soundness. -/
import Derived.Test.YtdmfgmmooalfnaaGreatDoorM2
import Derived.Orders
import Derived.LoopN
import Derived.Scope
set_option linter.unusedSimpArgs false
set_option linter.unusedVariables false
open List renaming map_cons->Xqg,getElem?_cons_succ->Xzb,filterMap_cons_none->Xvy,filterMap_cons_some->Xvz,mem_cons->Xwq,getElem?_append_left->Xxh,nil_append->Xqi,length_nil->Xqf,getElem?_eq_getElem->π,getElem?_eq_none->Xq6,mem_of_getElem?->Xql,getD_eq_getElem?_getD->ξ,getElem?_map->Xq5,append_assoc->υ,mem_cons_self->Xjy,mem_cons_of_mem->Xjd,drop_drop->Xjw,length_cons->ν,range'_succ->Xkc,take_zero->Xw0,take_succ_cons->Xja,eq_nil_of_length_eq_zero->Xxz,foldl_cons->Xjx,all_eq_true->Xj1,mem_zipIdx_iff_getElem?->Xzc,range->Xq7,nodup_cons->Xkl,mem_filter->Xvk,mem_range->Yq5,size_toArray->Xzq,nodup_range->Xwd,range_eq_range'->Xwc
open Nat renaming add_assoc->Xxu,beq->Xqn,le_of_not_lt->Xka,le_refl->χ,lt_of_lt_of_le->Xqa,zero_add->Ψ,zero_le->Xxr,le_trans->Xxg,add_zero->Xq1,blt->Xjj,ble_eq_true_of_le->Xqe,lt_trichotomy->Xze
open Bool renaming and_eq_true->φ,not_eq_true'->Xqq,or_eq_true->Xvj,not_true->Xwo,false_or->Xwp
open Option renaming map_eq_some_iff->Xqs,bind_some->Xw9,map_some->Xjo,getD_some->Xw7
namespace AM
open Go
def bK (h:List bu):dO:=λb=>h[b]?
def jW (gh gf:dO) (m:bg) (S:aY):Nat->List AV->List Value->Prop
 |_,[],[]=>True
 |n,.own _ k _::r,v::vs=>VR gf m S (.ref n 0 0 k) v/\jW gh gf m S (n+1) r vs
 |n,x::r,v::vs=>VR gh m S x v/\jW gh gf m S n r vs
 |_,_,_=>False
def DJ (gh gf:dO) (m:bg) (S:aY) (n:Nat):AV->Value->Prop
 | .tup l,v=> ∃ vs,v= .tuple vs.toArray/\jW gh gf m S n l vs
 | .own _ k _,v=>VR gf m S (.ref n 0 0 k) v
 |x,v=>VR gh m S x v
def nY (n:Nat):kW->List bu
 | .ret v=>(mO n v).2
 | .pan _=> []
def afl (h':List bu) (m':bg) (S':aY):kW->Ending->Prop
 | .ret v,e=> ∃ cv,e= .returned cv/\DJ (bK h') (bK (h'++(mO h'.length v).2)) m' S' h'.length v cv
 | .pan v,e=> ∃ cv,e= .panicked [{v:=cv,recovered:=false}]/\VR (bK h') m' S' v cv
structure Ii (ap:AP) (h:List bu) (m:bg) (S:aY) (w:World) (out:kW) (h':List bu) (m':bg) (S':aY) (w':World) (e:Ending):Prop where
 srel:bZ ap (bK (h'++nY h'.length out)) m' S' w'
 fr:Fr (bK h) m S w (bK (h'++nY h'.length out)) m' S' w'
 out:afl h' m' S' out e
def Ey (P:Program) (f:Nat):Prop:=∀ args w,(callFunc f args).run P w= .ok (.enter f args) w
structure aH (P:Program) (ap:AP) (f:Nat) (args:List AV) (h:List bu) (out:kW) (h':List bu):Prop where
 len:h.length<=h'.length
 ent:Ey P f
 calls:∀ m S w cargs,bZ ap (bK h) m S w->bC (bK h) m S args cargs->Calls P f cargs.toArray w λe w'=> ∃ m' S',Ii ap h m S w out h' m' S' w' e
def nV (P:Program) (ap:AP) (H:dD):Prop:=∀ c f args h out h' md' c',H c .dead f args h= .ok (out,h',md') c'->c'.Ok->c.Ok/\aH P ap f args h out h'
section
variable {P:Program} {ap:AP} {g:dO} {m:bg} {S:aY} {w:World}
mutual
theorem oW {m:bg} {S:aY}:∀ (x:AV) {v:Value},VR (bK []) m S x v->PR S x v
 | .int _ _,_,p=>by simpa only [VR] using p
 | .bool _,_,p=>by simpa only [VR] using p
 | .str _,_,p=>by simpa only [VR] using p
 | .nilS,_,p=>by simpa only [VR] using p
 | .nilP,_,p=>by simpa only [VR] using p
 | .nilF,_,p=>by simpa only [VR] using p
 | .nilI,_,p=>by simpa only [VR] using p
 | .sl _ _ _,_,p=>by simpa only [VR] using p
 | .pp _ _,_,p=>by simpa only [VR] using p
 | .mp _ _,_,p=>by simpa only [VR] using p
 | .dead,_,_=>by simp only [PR]
 | .own _ _ _,_,p=>by simp only [VR] at p
 | .ref _ _ _ _,_,p=>by simp [VR,bK] at p
 | .ptr _ _ _,_,p=>by simp [VR,bK] at p
 | .mr _ _,_,p=>by simp [VR,bK] at p
 | .agg l,_,p=>by
  simp only [VR] at p;simp only [PR];obtain ⟨vs,e,q⟩:=p;exact ⟨vs,e,nG l q⟩
 | .tup l,_,p=>by
  simp only [VR] at p;simp only [PR];obtain ⟨vs,e,q⟩:=p;exact ⟨vs,e,nG l q⟩
 | .fn f a c,_,p=>by
  simp only [VR] at p;simp only [PR];obtain ⟨d,b,e,q,r⟩:=p;exact ⟨d,b,e,nG a q,nG c r⟩
 | .ifc t x,_,p=>by
  simp only [VR] at p;simp only [PR];obtain ⟨u,e,q⟩:=p;exact ⟨u,e,oW x q⟩
theorem nG {m:bg} {S:aY}:∀ (l:List AV) {vs:List Value},bC (bK []) m S l vs->eY S l vs
 | [],[],_=>by simp only [eY]
 |x::r,v::vs,p=>by simp only [bC] at p;simp only [eY];exact ⟨oW x p.1,nG r p.2⟩
 | [],_::_,p=>by simp [bC] at p
 |_::_,[],p=>by simp [bC] at p
end
theorem aeQ (A:bZ ap g m S w) {J l:dO} {W s:bg} {Sp S':aY} {w':World} (L:bZ ap l s S' w') (r:Fr J W Sp w l s S' w') (ι:Nat->Nat)
  (hdom:∀ i Bc,J i=some Bc->∃ B,g (ι i)=some B/\W i=m (ι i))
  (hSp:qj S Sp) (hSpN:∀ k o v,Sp k o=some v->S k o=some v\/∃ b B,g b=some B/\(m b).1=k) {gN:dO} {mN:bg} (ρ:Nat->Nat->Option (Nat × Nat)) (hρ:uG l s gN mN ρ)
  (hnew:∀ i Bc,l i=some Bc->∃ B,gN (ι i)=some B/\mN (ι i)=s i/\B.esz=Bc.esz/\B.fro=Bc.fro/\B.fz=Bc.fz/\B.pr=Bc.pr/\(Bc.pr=true->B.cells=Bc.cells)/\(Bc.pr=false->B.cells=nZ ρ Bc.cells))
  (c:∀ b B,gN b=some B->(∃ i Bc,l i=some Bc/\b=ι i)\/(∃ B0,g b=some B0/\mN b=m b/\B.cells=B0.cells/\B.pr=B0.pr/\B.esz=B0.esz/\(B.fro=false->B.fz=0)/\B.fz<=B.cells.length/\(∀ i Bc,J i=some Bc->b ≠ ι i)/\(∀ o v,Sp (m b).1 o=some v->B.fro=true/\o<B.fz)))
  (hge:Ge g m gN mN):bZ ap gN mN S' w'/\Fr g m S w gN mN S' w':=by
 have t:qj S S':=hSp.trans r.sle;have hcross:∀ b B0 i Bc,g b=some B0->l i=some Bc->(∀ i Bc,J i=some Bc->b ≠ ι i)->(m b).1 ≠ (s i).1:=by
  intro b B0 i Bc n a u e;have hlt:=A.lt n;rcases r.img i Bc a with d|⟨B1,d,x⟩
  .omega
  .obtain ⟨B2,C,F⟩:=hdom i B1 d;rw [F] at x;exact u i B1 d (A.inj b (ι i) B0 B2 n C (e.trans x))
 constructor
 .refine ⟨?_, ?_,L.sealed, ?_,L.glob⟩
  .intro b X B B' n V e;rcases c b B n with ⟨i,Bi,a,rfl⟩|⟨B0,p,d,_,_,_,_,_,x,_⟩<;>rcases c X B' V with ⟨j,Bj,T,rfl⟩|⟨B0',N,O,_,_,_,_,_,U,_⟩
   .obtain ⟨_,_,y,_⟩:=hnew i Bi a;obtain ⟨_,_,q,_⟩:=hnew j Bj T;rw [y,q] at e;rw [L.inj i j Bi Bj a T e]
   .obtain ⟨_,_,y,_⟩:=hnew i Bi a;rw [y,O] at e;exact absurd e.symm (hcross X B0' i Bi N a U)
   .obtain ⟨_,_,q,_⟩:=hnew j Bj T;rw [q,d] at e;exact absurd e (hcross b B0 j Bj p T x)
   .rw [d,O] at e;exact A.inj b X B0 B0' p N e
  .intro b B n;rcases c b B n with ⟨i,Bi,a,rfl⟩|⟨B0,p,d,C,F,Q,h6,Y,x,_⟩
   .obtain ⟨B1,G,y,q,R,I,e5,Z,e7⟩:=hnew i Bi a;rw [n] at G;cases G;rw [y];obtain ⟨⟨cur,e,vs,rest,k1,k2,k3,k4,k5,k6⟩,k7,k8⟩:=L.blk i Bi a;cases hp:Bi.pr with
    |true=>
     have hcells:=Z hp;refine ⟨⟨cur,e,vs,rest,by rw [q];exact k1,k2,λ_=>by rw [hcells];exact k3 hp,by rw [hcells];exact cO _ (k3 hp),by rw [q];exact k5,by rw [q];exact k6⟩,by rw [R,I];exact k7,by rw [I,hcells];exact k8⟩
    |false=>
     have hcells:=e7 hp;have z:=lm (qj.refl S') hρ _ k4;have K:B.cells.length=Bi.cells.length:=by rw [b_ k4,hcells,b_ z]
     refine ⟨⟨cur,e,vs,rest,by rw [q];exact k1,k2,(λh=>by rw [e5,hp] at h;cases h),by rw [hcells];exact z,by rw [q];exact k5,by rw [q];exact k6⟩,by rw [R,I];exact k7,by rw [I,K];exact k8⟩
   .rw [d];have u:∀ i Bc,J i=some Bc->(W i).1 ≠ (m b).1:=by
     intro i Bc a e;obtain ⟨B2,M,f⟩:=hdom i Bc a;rw [f] at e;exact x i Bc a (A.inj b (ι i) B0 B2 p M e.symm)
    obtain ⟨⟨cur,e,vs,rest,k1,k2,k3,k4,k5,k6⟩,k7,k8⟩:=A.blk b B0 p;refine ⟨⟨cur,e,vs,rest,by rw [Q];exact k1.same (r.rest _ (A.lt p) u),k2,λhp=>by rw [C];rw [F] at hp;exact dE t _ (k3 hp),by rw [C];exact nH t hge _ k4,by rw [Q];exact k5,by rw [Q];exact k6⟩,h6,Y⟩
  .intro b B n o v z;rcases c b B n with ⟨i,Bi,a,rfl⟩|⟨B0,p,d,C,F,Q,h6,Y,x,M⟩
   .obtain ⟨B1,G,y,q,R,I,e5,Z,e7⟩:=hnew i Bi a;rw [n] at G;cases G;rw [y] at z;rw [R,I];exact L.own i Bi a o v z
   .rw [d] at z;rcases r.sealN _ _ _ z with f|f|⟨i,Bi,a,f⟩
    .exact M o v f
    .have:=A.lt p;omega
    .obtain ⟨B2,D,E⟩:=hdom i Bi a;rw [E] at f;exact absurd (A.inj b (ι i) B0 B2 p D f.symm) (x i Bi a)
 .refine ⟨hge,t,r.os,r.tape,r.output,r.size, ?_, ?_, ?_⟩
  .intro k hk u;refine r.rest k hk λi Bc a e=> ?_
   obtain ⟨B2,M,f⟩:=hdom i Bc a;exact u (ι i) B2 M (by rw [<- f];exact e)
  .intro b B n;rcases c b B n with ⟨i,Bi,a,rfl⟩|⟨B0,p,d,_⟩
   .obtain ⟨B1,G,y,_⟩:=hnew i Bi a;rw [y];rcases r.img i Bi a with d|⟨B2,d,x⟩
    .exact .inl d
    .obtain ⟨B3,C,F⟩:=hdom i B2 d;exact .inr ⟨B3,C,by rw [x,F]⟩
   .exact .inr ⟨B0,p,by rw [d]⟩
  .intro k o v z;rcases r.sealN _ _ _ z with f|f|⟨i,Bi,a,f⟩
   .rcases hSpN _ _ _ f with h|h
    .exact .inl h
    .exact .inr (.inr h)
   .exact .inr (.inl f)
   .obtain ⟨B2,D,E⟩:=hdom i Bi a;exact .inr (.inr ⟨ι i,B2,D,by rw [<- E];exact f⟩)
structure IM (F:AV->AV):Prop where
 own:∀ xs n e,F (.own xs n e)= .own xs n e
 tup:∀ l,F (.tup l)= .tup (l.map F)
 not:∀ x,(∀ xs n e,x ≠ .own xs n e)->(∀ xs n e,F x ≠ .own xs n e)
 notT:∀ x,(∀ l,x ≠ .tup l)->(∀ l,F x ≠ .tup l)
theorem bH (n:Nat) {x:AV} (h:∀ xs k e,x ≠ .own xs k e) (r:List AV):gy n (x::r)=(x::(gy n r).1,(gy n r).2):=by
 cases x<;>first|rfl|exact absurd rfl (h _ _ _)
theorem jI (n:Nat) {x:AV} (h:∀ xs k e,x ≠ .own xs k e) (a:∀ l,x ≠ .tup l):mO n x=(x,[]):=by
 cases x<;>first|rfl|exact absurd rfl (h _ _ _)|exact absurd rfl (a _)
theorem bY {gh a:dO} {n:Nat} {x:AV} (h:∀ xs k e,x ≠ .own xs k e) {r:List AV} {v:Value} {vs:List Value}:jW gh a m S n (x::r) (v::vs)=(VR gh m S x v/\jW gh a m S n r vs):=by
 cases x<;>first|rfl|exact absurd rfl (h _ _ _)
theorem mf {gh b:dO} {n:Nat} {x:AV} (h:∀ xs k e,x ≠ .own xs k e) (a:∀ l,x ≠ .tup l) {v:Value}:DJ gh b m S n x v=VR gh m S x v:=by
 cases x<;>first|rfl|exact absurd rfl (h _ _ _)|exact absurd rfl (a _)
theorem jU (x:AV):(∃ xs k e,x= .own xs k e)\/(∀ xs k e,x ≠ .own xs k e):=by
 cases x<;>first|exact .inl ⟨_,_,_,rfl⟩|exact .inr (λ_ _ _ h=>by cases h)
theorem CE (x:AV):(∃ l,x= .tup l)\/(∀ l,x ≠ .tup l):=by
 cases x<;>first|exact .inl ⟨_,rfl⟩|exact .inr (λ_ h=>by cases h)
theorem uu {F:AV->AV} (c:IM F):∀ (l:List AV) (a b:Nat),(gy a (l.map F)).2=(gy b l).2
 | [],a,b=>rfl
 | x::r,a,b=>by
  rcases jU x with ⟨xs,k,e,rfl⟩|hx
  .simp only [Xqg,c.own,gy];rw [uu c r (a+1) (b+1)]
  .rw [Xqg,bH a (c.not x hx),bH b hx];exact uu c r a b
theorem Du {F:AV->AV} (c:IM F) (x:AV) (a b:Nat):(mO a (F x)).2=(mO b x).2:=by
 rcases jU x with ⟨xs,k,e,rfl⟩|hx
 .rw [c.own];rfl
 .rcases CE x with ⟨l,rfl⟩|ht
  .rw [c.tup];simp only [mO];exact uu c l a b
  .rw [jI a (c.not x hx) (c.notT x ht),jI b hx ht]
theorem wz {F:AV->AV} (a:IM F) {gh d gN:dO} {m mN:bg} {S:aY} {n nid:Nat} (b:∀ x v,VR gh m S x v->VR gN mN S (F x) v) (c:∀ i k v,VR d m S (.ref (n+i) 0 0 k) v->VR gN mN S (.ref (nid+i) 0 0 k) v):
  ∀ (l:List AV) (vs:List Value) (j:Nat),jW gh d m S (n+j) l vs->bC gN mN S (gy (nid+j) (l.map F)).1 vs
 | [],[],j,_=>by simp [gy,bC]
 | x::r,v::vs,j,h=>by
  rcases jU x with ⟨xs,k,e,rfl⟩|hxo
  .simp only [jW] at h;simp only [Xqg,a.own,gy,bC];exact ⟨c j k v h.1,by have:=wz a b c r vs (j+1);rw [<- Xxu,<- Xxu] at this;exact this h.2⟩
  .rw [bY hxo] at h;rw [Xqg,bH _ (a.not x hxo)];simp only [bC];exact ⟨b x v h.1,wz a b c r vs j h.2⟩
 | [],_::_,_,h=>by simp [jW] at h
 |x::r,[],_,h=>by cases x<;>simp [jW] at h
theorem GR {F:AV->AV} (a:IM F) {gh c gN:dO} {m mN:bg} {S:aY} {n nid:Nat} (b:∀ x v,VR gh m S x v->VR gN mN S (F x) v) (d:∀ i k v,VR c m S (.ref (n+i) 0 0 k) v->VR gN mN S (.ref (nid+i) 0 0 k) v)
  {x:AV} {v:Value} (h:DJ gh c m S n x v):VR gN mN S (mO nid (F x)).1 v:=by
 rcases jU x with ⟨xs,k,e,rfl⟩|hxo
 .simp only [DJ] at h;rw [a.own];exact d 0 k v h
 .rcases CE x with ⟨l,rfl⟩|ht
  .simp only [DJ] at h;obtain ⟨vs,e,h⟩:=h;rw [a.tup];simp only [mO,VR];exact ⟨vs,e,wz a b d l vs 0 h⟩
  .rw [mf hxo ht] at h;rw [jI _ (a.not x hxo) (a.notT x ht)];exact b x v h
theorem NC:IM id:=⟨λ_ _ _=>rfl,λl=>by simp,λ_ h=>h,λ_ h=>h⟩
theorem Oo (ρ:Nat->Nat->Option (Nat × Nat)):∀ l,nZ ρ l=l.map (ren ρ)
 | []=>rfl
 |x::r=>by simp [nZ,Oo ρ r]
theorem Jf (ρ:Nat->Nat->Option (Nat × Nat)):IM (ren ρ):=by
 refine ⟨λ_ _ _=>rfl,λl=>by simp [ren,Oo], ?_, ?_⟩
 .intro x h xs n e a;cases x<;>simp only [ren] at a<;>first
   |(cases a;done)
   |(split at a<;>cases a;done)
   |exact h _ _ _ rfl
 .intro x h l a;cases x<;>simp only [ren] at a<;>first
   |(cases a;done)
   |(split at a<;>cases a;done)
   |exact h _ rfl
theorem BC:∀ (bs:List bu) (n b:Nat),aF (Gn n bs) b=if n<=b then bs[b - n]? else none
 | [],n,b=>by simp [Gn,aF]
 | B::r,n,b=>by
  simp only [Gn,aF];cases h:Xqn n b with
  |true=>
   have:=aP h;subst this;simp
  | false=>
   have a:n ≠ b:=by intro e;subst e;simp at h
   rw [BC r (n+1) b];by_cases hle:n<=b
   .rw [if_pos hle,if_pos (show n+1<=b by omega)];obtain ⟨d,hd⟩:∃ d,b - n=d+1:=⟨b - n - 1,by omega⟩
    rw [hd,Xzb,show b - (n+1)=d by omega]
   .rw [if_neg hle,if_neg (show ¬ n+1<=b by omega)]
theorem Jl {rd:dO} {mk:bu->bu}:∀ (fp:List Nat) (b:Nat),aF (fp.filterMap λb=>(rd b).map λB=>(b,mk B)) b=if b ∈ fp then (rd b).map mk else none
 | [],b=>by simp [aF]
 | a::r,b=>by
  have f:=Jl (rd:=rd) (mk:=mk) r b;cases c:rd a with
  |none=>
   rw [Xvy (by simp [c]),f];by_cases hab:b=a
   .subst hab;simp [c]
   .simp [hab]
  | some B=>
   rw [Xvz (by simp [c];rfl)];simp only [aF];cases h:Xqn a b with
   |true=>have:=aP h;subst this;simp [c]
   |false=>
    have d:b ≠ a:=by intro e;subst e;simp at h
    simp only [f,Xwq,d,false_or]
end
end AM
namespace AM
open Go
def afm (g:dO) (m:bg) (S:aY):kW->Ending->Prop
 | .ret v,e=> ∃ cv,e= .returned cv/\VR g m S v cv
 | .pan v,e=> ∃ cv,e= .panicked [{v:=cv,recovered:=false}]/\VR g m S v cv
def aan (ap:AP) (g:dO) (m:bg) (S:aY) (w:World) (out:kW) (ups:List (Nat × bu)) (e:Ending) (w':World):Prop:=
 ∃ m' S',bZ ap (dX g ups) m' S' w'/\Fr g m S w (dX g ups) m' S' w'/\afm (dX g ups) m' S' out e
theorem fJ {h a:List bu} {b:Nat} (c:b<h.length):bK (h++a) b=bK h b:=by
 simp [bK,Xxh c]
theorem jD {h a:List bu} {b:Nat} (c:h.length<=b):bK (h++a) b=bK a (b - h.length):=by
 simp [bK,List.getElem?_append_right c]
def tq (l:List bu):Prop:=∀ B ∈ l,B.pr=true/\B.fro=false/\B.ver=0
theorem uw:∀ (l:List AV) (n:Nat),tq (gy n l).2
 | [],n=>by simp [gy,tq]
 | x::r,n=>by
  rcases jU x with ⟨xs,k,e,rfl⟩|hx
  .simp only [gy];intro B a;rcases List.mem_cons.1 a with rfl|a
   .exact ⟨rfl,rfl,rfl⟩
   .exact uw r (n+1) B a
  .rw [bH n hx];exact uw r n
theorem Om (x:AV) (n:Nat):tq (mO n x).2:=by
 rcases jU x with ⟨xs,k,e,rfl⟩|hx
 .intro B a;simp [mO] at a;subst a;exact ⟨rfl,rfl,rfl⟩
 .rcases CE x with ⟨l,rfl⟩|ht
  .simp only [mO];exact uw l n
  .rw [jI n hx ht];simp [tq]
theorem Dt (o:kW) (n:Nat):tq (nY n o):=by
 cases o with
 |ret v=>exact Om v n
 |pan v=>simp [nY,tq]
section
variable {P:Program} {ap:AP} {g:dO} {m:bg} {S:aY} {w:World}
def KY (nid:Nat) (F:AV->AV):kW->kW
 | .ret v=> .ret (mO nid (F v)).1
 | .pan v=> .pan (F v)
theorem CU (l:bZ ap g m S w) {rd:dO} (j:∀ b B,rd b=some B->g b=some B) {L:List Nat} (T:∀ b B,rd b=some B->b ∈ L) {nid:Nat} {args args':List AV} {cargs:List Value} {out:kW}
  (ha:kX (frz rd 6) args=some args') (hv:bC g m S args cargs) {C:List Value->(Ending->World->Prop)->Prop} (hmono:∀ cargs R R',C cargs R->(∀ e w',R e w'->R' e w')->C cargs R')
  (f:∀ m1 S1,qj S S1->bZ ap (bK []) m1 S1 w->bC (bK []) m1 S1 args' cargs->C cargs λe w'=> ∃ m' S',Ii ap [] m1 S1 w out [] m' S' w' e) (hfr:∀ i,i<(nY 0 out).length->g (nid+i)=none):
  C cargs λe w'=>aan ap g m S w (KY nid id out) (Gn nid (nY 0 out)++L.filterMap λb=>(rd b).map λB=>(b,{B with fro:=true,fz:=B.cells.length})) e w':=by
 have O:eY (dR S m rd w) args' cargs:=uS (λx v y a d=>mJ l j 6 x v y a d) ha hv;have t:=oO S m rd w
 let m0:bg:=λ_=>(0,0)
 have W:bZ ap (bK []) m0 (dR S m rd w) w:=by
  refine ⟨λb b' B B' h=>by simp [bK] at h,λb B h=>by simp [bK] at h,λk o v h=>qP l h,λb B h=>by simp [bK] at h, ?_⟩;intro k xs hk;obtain ⟨vs,a,d⟩:=l.glob k xs hk;exact ⟨vs,dE t _ a,d.mono t⟩
 refine hmono _ _ _ (f m0 (dR S m rd w) t W (cO _ O)) ?_
 rintro e w' ⟨m',S',hF⟩
 obtain ⟨z,p,r⟩:=hF;simp only [Xqi,Xqf] at z p r;generalize D:nY 0 out=bs at z p hfr;have F:tq bs:=D ▸ Dt out 0
 let gN:dO:=dX g (Gn nid bs++L.filterMap λb=>(rd b).map λB=>(b,{B with fro:=true,fz:=B.cells.length}))
 let mN:bg:=λb=>if nid<=b/\b - nid<bs.length then m' (b - nid) else m b
 have u:∀ b,gN b=if nid<=b/\b - nid<bs.length then bs[b - nid]? else match rd b with|some B=>some {B with fro:=true,fz:=B.cells.length}|none=>g b:=by
  intro b;show dX g _ b=_;unfold dX;have M:∀ mk:bu->bu,(if b ∈ L then (rd b).map mk else none)=(rd b).map mk:=by
   intro mk;split
   .rfl
   .rename_i c;cases q:rd b with
    |none=>rfl
    |some B=>exact absurd (T b B q) c
  rw [iZ,BC,Jl,M];by_cases a:nid<=b
  .by_cases d:b - nid<bs.length
   .have f:nid<=b/\b - nid<bs.length:=⟨a,d⟩
    rw [if_pos a,if_pos f,π d]
   .have f:¬ (nid<=b/\b - nid<bs.length):=λh=>d h.2
    rw [if_pos a,if_neg f,Xq6 (Xka d)];cases rd b<;>rfl
  .have f:¬ (nid<=b/\b - nid<bs.length):=λh=>a h.1
   rw [if_neg a,if_neg f];cases rd b<;>rfl
 have hnidg:∀ b B,g b=some B->¬ (nid<=b/\b - nid<bs.length):=by
  rintro b B c ⟨a,d⟩
  have:=hfr (b - nid) d;rw [show nid+(b - nid)=b by omega,c] at this;cases this
 have Z:Ge g m gN mN:=by
  intro b B c;have hn:=hnidg b B c;have G:mN b=m b:=if_neg hn;rw [u,if_neg hn];cases q:rd b with
  |none=>exact ⟨B,c,rfl,.inl ⟨rfl,G⟩⟩
  |some B1=>
   have:=j b B1 q;rw [c] at this;cases this;exact ⟨_,rfl,rfl,.inl ⟨rfl,G⟩⟩
 have A:∀ i B,bs[i]? =some B->gN (nid+i)=some B/\mN (nid+i)=m' i:=by
  intro i B J;have hl:=(List.getElem?_eq_some_iff.1 J).1;have f:nid<=nid+i/\nid+i - nid<bs.length:=by omega
  refine ⟨by rw [u,if_pos f,show nid+i - nid=i by omega];exact J, ?_⟩;show (if _ then _ else _)=_;rw [if_pos f,show nid+i - nid=i by omega]
 obtain ⟨Y,U⟩:=aeQ (g:=g) (m:=m) (S:=S) (w:=w) l z p (λi=>nid+i) (λi Bc h=>by simp [bK] at h) t
  (λk o v h=>(gz h).imp id λ⟨_,b,B,a,d,_⟩=> ⟨b,B,j b B a,d⟩) (gN:=gN) (mN:=mN) (λi v=>some (nid+i,v))
  (by
   intro b ver b' ver' h B hB K;simp only [Option.some.injEq,Prod.mk.injEq] at h;obtain ⟨rfl,rfl⟩:=h;obtain ⟨a,d⟩:=A b B hB;exact ⟨B,a,K,λe=> ⟨e,d,rfl⟩⟩)
  (by
   intro i Bc J;obtain ⟨a,d⟩:=A i Bc J;exact ⟨Bc,a,d,rfl,rfl,rfl,rfl,λ_=>rfl,λhp=>by rw [(F Bc (Xql J)).1] at hp;cases hp⟩)
  (by
   intro b B c;by_cases f:nid<=b/\b - nid<bs.length
   .rw [u,if_pos f] at c;exact .inl ⟨b - nid,B,c,by omega⟩
   .have G:mN b=m b:=if_neg f;rw [u,if_neg f] at c;right;cases q:rd b with
    | none=>
     rw [q] at c;have c:g b=some B:=c;refine ⟨B,c,G,rfl,rfl,rfl,(l.blk b B c).fz0,(l.blk b B c).fzle,(λi Bc h=>by simp [bK] at h), ?_⟩;intro o v X;rcases gz X with h|⟨_,N,B1,a,d,_⟩
     .exact l.own b B c o v h
     .have:=l.inj N b B1 B (j _ _ a) c d;subst this;rw [a] at q;cases q
    | some B1=>
     rw [q] at c;have c:some {B1 with fro:=true,fz:=B1.cells.length}=some B:=c;cases c;have s:=j b B1 q;refine ⟨B1,s,G,rfl,rfl,rfl,(λh=>by cases h),χ _,(λi Bc h=>by simp [bK] at h), ?_⟩;intro o v X;refine ⟨rfl, ?_⟩;rcases gz X with h|⟨_,N,B2,a,d,Q⟩
     .exact Xqa (l.own b B1 s o v h).2 (l.blk b B1 s).fzle
     .have:=l.inj N b B2 B1 (j _ _ a) s d;subst this;rw [a] at q;cases q;exact Q)
  Z
 refine ⟨mN,S',Y,U, ?_⟩;show afm gN mN S' (KY nid id out) e;cases out with
 |ret v=>
  obtain ⟨cv,V,a⟩:=r;refine ⟨cv,V, ?_⟩;have E:(mO 0 v).2=bs:=D;simp only [Xqf,Xqi,E] at a;refine GR (n:=0) NC (λx v I=>iU x (oW x I)) ?_ a;intro i k v I;rw [Ψ] at I;simp only [VR] at I ⊢;obtain ⟨B,d,Q,h4,h5⟩:=I;obtain ⟨h6,h7⟩:=A i B d;exact ⟨B,h6,Q,h4,by rw [h7];exact h5⟩
 |pan v=>
  obtain ⟨cv,V,a⟩:=r;exact ⟨cv,V,iU _ (oW _ a)⟩
end
end AM
namespace AM
open Go
theorem NU {b:Nat} {r:List Nat} (h:uk (b::r)=true):b ∉ r/\uk r=true:=by
 simp only [uk,φ,Xqq] at h;refine ⟨λa=> ?_,h.2⟩;rw [kw.2 a] at h;cases h.1
theorem sH:∀ {l:List Nat} {b p:Nat},qX l b=some p->l[p]? =some b
 | [],b,p,h=>by simp [qX] at h
 | c::r,b,p,h=>by
  simp only [qX] at h;split at h
  .rename_i a;cases h;rw [aP a];rfl
  .simp only [Xqs] at h;obtain ⟨q,d,rfl⟩:=h;simpa using sH d
theorem qI:∀ {l:List Nat} {b p:Nat},uk l=true->l[p]? =some b->qX l b=some p
 | [],b,p,_,h=>by simp at h
 |c::r,b,0,hn,h=>by simp at h;subst h;simp [qX]
 | c::r,b,p+1,hn,h=>by
  obtain ⟨e,d⟩:=NU hn;have h:r[p]? =some b:=by simpa using h
  have a:Xqn c b=false:=by
   cases f:Xqn c b with
   |false=>rfl
   |true=>exact absurd (aP f ▸ Xql h) e
  simp [qX,a,qI d h]
theorem NL {mk:Nat->bu->bu}:∀ (fp:List Nat) (h':List bu) (b:Nat),aF ((O7 fp h').map λ(b,B)=>(b,mk b B)) b=(qX fp b).bind λp=>(h'[p]?).map (mk b)
 | [],h',b=>by cases h'<;>simp [O7,aF,qX]
 |a::r,[],b=>by
  simp only [O7,List.map_nil,aF,qX];cases Xqn a b with
  |true=>rfl
  |false=>cases qX r b<;>rfl
 | a::r,B::q,b=>by
  simp only [O7,Xqg,aF,qX];cases h:Xqn a b with
  |true=>have:=aP h;subst this;rfl
  |false=>
   simp only [NL r q b];cases qX r b<;>simp
section
variable {P:Program} {ap:AP} {g:dO} {m:bg} {S:aY} {w:World}
def L6 (ρ:Nat->Nat->Option (Nat × Nat)) (B:bu):bu:={B with cells:=(match B.pr with|true=>B.cells|false=>nZ ρ B.cells),ver:=0}
theorem ar1 {a b n i:Nat} (h:b<=a):n+(a+i - b)=n+(a - b)+i:=by omega
theorem ar2 {a b i:Nat} (h:b<=a):b+(a+i - b)=a+i:=by omega
theorem aaJ {ρ:Nat->Nat->Option (Nat × Nat)} {l:List bu} (h:tq l):l.map (DL ρ 0)=l:=by
 induction l with
 |nil=>rfl
 |cons B r ih=>
  rw [Xqg,ih λB d=>h B (by simp [d])];obtain ⟨b,_,a⟩:=h B (by simp);obtain ⟨c,v,f,z,e,p⟩:=B;simp only at b a;subst b a;rfl
theorem CV (L:bZ ap g m S w) {rd:dO} (hrd:∀ b B,rd b=some B->g b=some B) {a:List Nat} {Q:List bu} (hbl:kX rd a=some Q) (I:uk a=true) {nid:Nat} {args:List AV} {cargs:List Value} {out:kW}
  {vers:Nat->Nat} (hvers:∀ b B,rd b=some B->vers b=B.ver) {ρ ρ':Nat->Nat->Option (Nat × Nat)} (hρe:∀ b v,ρ b v=match Xqn v (vers b) with|true=>(qX a b).map λp=>(p,0)|false=>none)
  {h':List bu} (hρe':ρ'=Q5 nid a vers h'.length)
  (hv:bC g m S args cargs) {C:List Value->(Ending->World->Prop)->Prop} (hmono:∀ cargs R R',C cargs R->(∀ e w',R e w'->R' e w')->C cargs R')
  (s:∀ m1 S1,qj S S1->bZ ap (bK (Q.map (L6 ρ))) m1 S1 w->bC (bK (Q.map (L6 ρ))) m1 S1 (nZ ρ args) cargs->C cargs λe w'=> ∃ m' S',Ii ap (Q.map (L6 ρ)) m1 S1 w out h' m' S' w' e) (hl:a.length<=h'.length) (hfr:∀ i,i<(h'.length - a.length)+(nY h'.length out).length->g (nid+i)=none):
  C cargs λe w'=>aan ap g m S w (KY (nid+(h'.length - a.length)) (ren ρ') out) (Gn nid ((h'.drop a.length).map (DL ρ' 0)++nY h'.length out)++(O7 a h').map λ(b,B)=>(b,DL ρ' (vers b) B)) e w':=by
 have r:∀ p b,a[p]? =some b->∃ B,rd b=some B/\g b=some B/\bK (Q.map (L6 ρ)) p=some (L6 ρ B):=by
  intro p b hp;obtain ⟨B,c,d⟩:=(jE hbl).2 p b hp;exact ⟨B,d,hrd b B d,by simp [bK,c]⟩
 have z:∀ p Bc,bK (Q.map (L6 ρ)) p=some Bc->∃ b B,a[p]? =some b/\rd b=some B/\g b=some B/\Bc=L6 ρ B:=by
  intro p Bc hp;have y:p<a.length:=by
   have:=(List.getElem?_eq_some_iff.1 hp).1;rw [List.length_map,(jE hbl).1] at this;exact this
  obtain ⟨B,c,d,f⟩:=r p _ (π y);rw [f] at hp;cases hp;exact ⟨_,B,π y,c,d,rfl⟩
 let mc:bg:=λp=>m (a.getD p 0)
 have l:∀ p b,a[p]? =some b->mc p=m b:=by
  intro p b hp;show m (a.getD p 0)=_;rw [ξ,hp];rfl
 have M:uG g m (bK (Q.map (L6 ρ))) mc ρ:=by
  intro b ver Y E h B K F;rw [hρe] at h;split at h
  .rename_i hve;simp only [Xqs,Prod.mk.injEq] at h;obtain ⟨p,hp,rfl,rfl⟩:=h;have hp:=sH hp;obtain ⟨B1,c,d,f⟩:=r p b hp;rw [d] at K;cases K;exact ⟨_,f,Xxr _,λ_=> ⟨by rw [aP hve,hvers b _ c],l p b hp,rfl⟩⟩
  .cases h
 have hSc:bZ ap (bK (Q.map (L6 ρ))) mc S w:=by
  refine ⟨?_, ?_,L.sealed, ?_,L.glob⟩
  .intro p q Bp Bq hp hq e;obtain ⟨b,B,c,d,f,_⟩:=z p Bp hp;obtain ⟨Y,B',h1',h2',h3',_⟩:=z q Bq hq;rw [l p b c,l q Y h1'] at e;have:=L.inj b Y B B' f h3' e;subst this;have W:=qI I c;rw [qI I h1'] at W;cases W;rfl
  .intro p Bp hp;obtain ⟨b,B,c,d,f,rfl⟩:=z p Bp hp;rw [l p b c];obtain ⟨⟨cur,e,vs,rest,k1,k2,k3,k4,k5,k6⟩,k7,k8⟩:=L.blk b B f;cases hp:B.pr with
   |true=>exact ⟨⟨cur,e,vs,rest,k1,k2,λ_=>by simpa [L6,hp] using k3 hp,by simpa [L6,hp] using cO _ (k3 hp),k5,k6⟩,k7,by simpa [L6,hp] using k8⟩
   | false=>
    have hv:=lm (qj.refl S) M _ k4;exact ⟨⟨cur,e,vs,rest,k1,k2,λh=>by simp [L6,hp] at h,by simpa [L6,hp] using hv,k5,k6⟩,k7,by
     have:(L6 ρ B).cells.length=B.cells.length:=by simp only [L6,hp];rw [b_ k4,b_ hv]
     rw [this];exact k8⟩
  .intro p Bp hp o v ho;obtain ⟨b,B,c,d,f,rfl⟩:=z p Bp hp;rw [l p b c] at ho;exact L.own b B f o v ho
 refine hmono _ _ _ (s mc S (qj.refl S) hSc (lm (qj.refl S) M _ hv)) ?_
 rintro e w' ⟨m',S',hF⟩
 obtain ⟨hsr,J,N⟩:=hF;generalize Z:nY h'.length out=bs0 at hsr J hfr;have hown:tq bs0:=Z ▸ Dt out h'.length;obtain ⟨bs,D⟩:∃ bs,bs=h'.drop a.length++bs0:=⟨_,rfl⟩
 have hbsl:bs.length=(h'.length - a.length)+bs0.length:=by rw [D,List.length_append,List.length_drop]
 rw [<- hbsl] at hfr
 let ups:=(O7 a h').map λ(b,B)=>(b,DL ρ' (vers b) B)
 rw [show (h'.drop a.length).map (DL ρ' 0)++bs0=bs.map (DL ρ' 0) by rw [D,List.map_append,aaJ hown]]
 let gN:dO:=dX g (Gn nid (bs.map (DL ρ' 0))++ups)
 let mN:bg:=λb=>if nid<=b/\b - nid<bs.length then m' (a.length+(b - nid)) else match qX a b with|some p=>m' p|none=>m b
 have G:∀ b,gN b=if nid<=b/\b - nid<bs.length then (bs[b - nid]?).map (DL ρ' 0) else match (qX a b).bind λp=>(h'[p]?).map (DL ρ' (vers b)) with|some B=>some B|none=>g b:=by
  intro b;show dX g _ b=_;unfold dX;rw [iZ,BC,NL (mk:=λb B=>DL ρ' (vers b) B)];by_cases c:nid<=b
  .by_cases d:b - nid<bs.length
   .have s:nid<=b/\b - nid<bs.length:=⟨c,d⟩
    rw [if_pos c,if_pos s,Xq5,π d];rfl
   .have s:¬ (nid<=b/\b - nid<bs.length):=λh=>d h.2
    rw [if_pos c,if_neg s,Xq5,Xq6 (Xka d)];rfl
  .have s:¬ (nid<=b/\b - nid<bs.length):=λh=>c h.1
   rw [if_neg c,if_neg s];rfl
 have hnidg:∀ b B,g b=some B->¬ (nid<=b/\b - nid<bs.length):=by
  rintro b B j ⟨c,d⟩
  have:=hfr (b - nid) d;rw [show nid+(b - nid)=b by omega,j] at this;cases this
 have hh':∀ p,p<a.length->∃ B,h'[p]? =some B:=λp hp=> ⟨_,π (by omega)⟩
 have T:∀ p b,a[p]? =some b->∀ Bc,h'[p]? =some Bc->gN b=some (DL ρ' (vers b) Bc)/\mN b=m' p:=by
  intro p b hp Bc K;obtain ⟨B,c,d,f⟩:=r p b hp;have hn:=hnidg b B d;refine ⟨by rw [G,if_neg hn,qI I hp];simp [K], ?_⟩;show (if _ then _ else _)=_;rw [if_neg hn,qI I hp]
 have U:∀ i B,bs[i]? =some B->gN (nid+i)=some (DL ρ' 0 B)/\mN (nid+i)=m' (a.length+i):=by
  intro i B A;have hl:=(List.getElem?_eq_some_iff.1 A).1;have s:nid<=nid+i/\nid+i - nid<bs.length:=by omega
  refine ⟨by rw [G,if_pos s,show nid+i - nid=i by omega,A];rfl, ?_⟩;show (if _ then _ else _)=_;rw [if_pos s,show nid+i - nid=i by omega]
 have V:∀ p,a.length<=p->bK (h'++bs0) p=bs[p - a.length]? :=by
  intro p hp;have he:h'++bs0=h'.take a.length++bs:=by rw [D,<- υ,List.take_append_drop]
  have y:(h'.take a.length).length=a.length:=by rw [List.length_take];omega
  rw [he,jD (by omega),y];rfl
 have t:∀ p Bc,bK (h'++bs0) p=some Bc->(p<a.length/\h'[p]? =some Bc)\/(a.length<=p/\bs[p - a.length]? =some Bc):=by
  intro p Bc h;by_cases hp:p<a.length
  .rw [fJ (by omega)] at h;exact .inl ⟨hp,h⟩
  .rw [V p (by omega)] at h;exact .inr ⟨by omega,h⟩
 have hren':uG (bK (h'++bs0)) m' gN mN ρ':=by
  intro p ver Y E h Bc K F;rw [hρe'] at h;unfold Q5 at h;split at h
  .rename_i b hp;cases h;rcases t p Bc K with ⟨c,d⟩|⟨c,_⟩
   .obtain ⟨f,u⟩:=T p _ hp Bc d;exact ⟨_,f,by simp only [DL];omega,λe=> ⟨by simp only [DL] at e;omega,u,rfl⟩⟩
   .have:=(List.getElem?_eq_some_iff.1 hp).1;omega
  .rename_i hp;split at h
   .cases h;have hge:=List.getElem?_eq_none_iff.1 hp;rcases t p Bc K with ⟨c,_⟩|⟨c,d⟩
    .omega
    .obtain ⟨f,u⟩:=U _ Bc d;exact ⟨_,f,by simp only [DL];omega,λe=> ⟨by simp only [DL] at e;omega,by rw [u,show a.length+(p - a.length)=p by omega],rfl⟩⟩
   .cases h
 have hge:Ge g m gN mN:=by
  intro b B j;have hn:=hnidg b B j;cases A:qX a b with
  | none=>
   have hm:mN b=m b:=by
    show (if _ then _ else _)=_;rw [if_neg hn,A]
   refine ⟨B, ?_,rfl,.inl ⟨rfl,hm⟩⟩;rw [G,if_neg hn,A];exact j
  | some p=>
   have hp:=sH A;obtain ⟨B1,c,d,f⟩:=r p b hp;rw [d] at j;cases j;obtain ⟨Bc,u,h5,O⟩:=J.ge p _ f;rcases t p Bc u with ⟨_,X⟩|⟨X,_⟩
   .obtain ⟨h8,h9⟩:=T p b hp Bc X;refine ⟨_,h8,h5, ?_⟩;rcases O with ⟨O,h6'⟩|O
    .left;refine ⟨?_,by rw [h9,h6',l p b hp]⟩;simp only [DL,L6] at O ⊢;rw [hvers b _ c];omega
    .right;simp only [DL,L6] at O ⊢;rw [hvers b _ c];omega
   .have:=(List.getElem?_eq_some_iff.1 hp).1;omega
 let ι:Nat->Nat:=λp=>if p<a.length then a.getD p 0 else nid+(p - a.length)
 have hι:∀ p b,a[p]? =some b->ι p=b:=by
  intro p b hp;show (if _ then _ else _)=_;rw [if_pos (List.getElem?_eq_some_iff.1 hp).1,ξ,hp];rfl
 have hι':∀ i,ι (a.length+i)=nid+i:=by
  intro i;show (if _ then _ else _)=_;rw [if_neg (by omega)];congr 1;omega
 obtain ⟨hsN,hfN⟩:=aeQ (g:=g) (m:=m) (S:=S) (w:=w) L hsr J ι
  (by
   intro p Bc hp;obtain ⟨b,B,c,d,f,rfl⟩:=z p Bc hp;rw [hι p b c];exact ⟨B,f,l p b c⟩) (qj.refl S) (λk o v h=> .inl h) (gN:=gN) (mN:=mN) ρ' hren'
  (by
   intro p Bc hp;rcases t p Bc hp with ⟨c,d⟩|⟨c,d⟩
   .have hp:=π c;obtain ⟨f,u⟩:=T p _ hp Bc d;rw [hι p _ hp];exact ⟨_,f,u,rfl,rfl,rfl,rfl,λh=>by simp [DL,h],λh=>by simp [DL,h]⟩
   .obtain ⟨i,rfl⟩:∃ i,p=a.length+i:=⟨p - a.length,by omega⟩
    rw [show a.length+i - a.length=i by omega] at d;obtain ⟨f,u⟩:=U i Bc d;rw [hι' i];exact ⟨_,f,u,rfl,rfl,rfl,rfl,λh=>by simp [DL,h],λh=>by simp [DL,h]⟩)
  (by
   intro b B j;by_cases s:nid<=b/\b - nid<bs.length
   .rw [G,if_pos s,Xqs] at j;obtain ⟨Bc,j,_⟩:=j;refine .inl ⟨a.length+(b - nid),Bc, ?_,by rw [hι'];omega⟩;rw [V _ (by omega),show a.length+(b - nid) - a.length=b - nid by omega];exact j
   .rw [G,if_neg s] at j;cases A:qX a b with
    |some p=>
     have hp:=sH A;have y:=(List.getElem?_eq_some_iff.1 hp).1;obtain ⟨Bc,u⟩:=hh' p y;exact .inl ⟨p,Bc,by rw [fJ (by omega)];exact u,(hι p b hp).symm⟩
    | none=>
     have hm:mN b=m b:=by
      show (if _ then _ else _)=_;rw [if_neg s,A]
     rw [A] at j;have j:g b=some B:=j;refine .inr ⟨B,j,hm,rfl,rfl,rfl,(L.blk b B j).fz0,(L.blk b B j).fzle, ?_,λo v ho=>L.own b B j o v ho⟩;intro p Bc hp e;obtain ⟨b1,B1,c,_⟩:=z p Bc hp;rw [hι p b1 c] at e;subst e;rw [qI I c] at A;cases A)
  hge
 refine ⟨mN,S',hsN,hfN, ?_⟩;show afm gN mN S' (KY (nid+(h'.length - a.length)) (ren ρ') out) e;have hrenh:uG (bK h') m' gN mN ρ':=by
  intro p ver Y E h Bc K F;refine hren' p ver Y E h Bc ?_ F;rw [fJ (List.getElem?_eq_some_iff.1 K).1];exact K
 cases out with
 |ret v=>
  obtain ⟨cv,W,c⟩:=N;refine ⟨cv,W, ?_⟩;have hbs':(mO h'.length v).2=bs0:=Z;rw [hbs'] at c;refine GR (n:=h'.length) (Jf ρ') (λx v hx=>AZ (qj.refl S') hrenh x hx) ?_ c;intro i k v hx;simp only [VR] at hx ⊢;obtain ⟨B,d,f,u,h5⟩:=hx;rw [V _ (Xxg hl (Nat.le_add_right _ _))] at d;obtain ⟨O,X⟩:=U _ B d;rw [ar1 hl] at O X;rw [ar2 hl] at X;exact ⟨_,O,Xxr _,u,λe=>by rw [X];exact h5 (by simpa [DL] using e)⟩
 |pan v=>
  obtain ⟨cv,W,c⟩:=N;exact ⟨cv,W,AZ (qj.refl S') hrenh _ c⟩
end
end AM
namespace AM
open Go
section
variable {P:Program} {ap:AP} {H:dD}
theorem zG {o:dO} {nid f:Nat} {args:List AV} {md:AV} {c z:Cx} {r:Wh} (h:uY ap H o nid md f args c= .ok r z):
  ∃ args0 h0 out0 h0',H c md f args0 h0= .ok (out0,h0',r.md) z/\((∃ v,out0= .ret v)↔∃ v,r.out= .ret v)/\
  ∀ g m S w cargs (C:List Value->(Ending->World->Prop)->Prop),(∀ cargs R R',C cargs R->(∀ e w',R e w'->R' e w')->C cargs R')->bZ ap g m S w->(∀ b ∈ r.fp,∀ B,o b=some B->g b=some B)->(∀ i,i<4->g (nid+i)=none)->bC g m S args cargs->
   (∀ m1 S1,qj S S1->bZ ap (bK h0) m1 S1 w->bC (bK h0) m1 S1 args0 cargs->C cargs λe w'=> ∃ m' S',Ii ap h0 m1 S1 w out0 h0' m' S' w' e)->
   C cargs λe w'=>aan ap g m S w r.out r.ups e w':=by
 unfold uY at h;simp only at h;generalize F:uN o 6 (jG (bW args))=fp at h
 let rd:dO:=λb=>match uh fp b with|true=>o b|false=>none
 have a:∀ b B,rd b=some B->b ∈ fp/\o b=some B:=by
  intro b B d;dsimp only [rd] at d;split at d
  .rename_i G;exact ⟨kw.1 G,d⟩
  .cases d
 split at h
 .split at h
  .cases h
  .rename_i args' A;obtain ⟨⟨out,u,md⟩,E,y,h⟩:=R.bind_ok h;dsimp only at h;split at h
   .cases h
   .split at h
    .rename_i v;split at h
     .rename_i n;cases h;refine ⟨_,_,_,_,y,⟨λ_=> ⟨_,rfl⟩,λ_=> ⟨_,rfl⟩⟩, ?_⟩;intro g m S w cargs C hmono s k l t q;have j:nY 0 (kW.ret v)=(mO nid v).2:=Du NC v 0 nid;have:=CU s (rd:=rd) (λb B d=>k b (a b B d).1 B (a b B d).2) (λb B d=>(a b B d).1) (nid:=nid) A t hmono q (λi p=>l i (by rw [j] at p;have:=gW n;omega));rw [j] at this;exact this
     .cases h
    .rename_i v;cases h;refine ⟨_,_,_,_,y,⟨(λ⟨_,h⟩=>by cases h),(λ⟨_,h⟩=>by cases h)⟩, ?_⟩;intro g m S w cargs C hmono s k l t q;exact CU s (rd:=rd) (λb B d=>k b (a b B d).1 B (a b B d).2) (λb B d=>(a b B d).1) (nid:=nid) A t hmono q (λi p=>by simp [nY] at p)
 .split at h
  .cases h
  .rename_i I x;obtain ⟨⟨out,u,md⟩,E,y,h⟩:=R.bind_ok h;dsimp only at h;split at h
   .cases h
   .rename_i hcond;simp only [φ] at hcond;have D:=gW hcond.1
    let vers:Nat->Nat:=λb=>match rd b with|some B=>B.ver|none=>0
    have hvers':∀ b B,rd b=some B->vers b=B.ver:=by
     intro b B d;simp only [vers,d]
    let ρ':Nat->Nat->Option (Nat × Nat):=Q5 nid fp vers u.length
    split at h
    .rename_i v;split at h
     .rename_i n;cases h;refine ⟨_,_,_,_,y,⟨λ_=> ⟨_,rfl⟩,λ_=> ⟨_,rfl⟩⟩, ?_⟩;intro g m S w cargs C hmono s k l t q;have j:nY u.length (kW.ret v)=(mO (nid+(u.length - fp.length)) (ren ρ' v)).2:=(Du (Jf ρ') v (nid+(u.length - fp.length)) u.length).symm;have:=CV s (rd:=rd) (λb B d=>k b (a b B d).1 B (a b B d).2) x hcond.2 (nid:=nid) hvers' (ρ':=ρ') (λb v=>rfl) rfl t hmono q D (λi p=>l i (by rw [j] at p;exact Xqa p (gW n)));rw [j] at this;exact this
     .cases h
    .rename_i v;split at h
     .rename_i n;cases h;refine ⟨_,_,_,_,y,⟨(λ⟨_,h⟩=>by cases h),(λ⟨_,h⟩=>by cases h)⟩, ?_⟩;intro g m S w cargs C hmono s k l t q;exact CV s (rd:=rd) (λb B d=>k b (a b B d).1 B (a b B d).2) x hcond.2 (nid:=nid) hvers' (ρ':=ρ') (λb v=>rfl) rfl t hmono q D (λi p=>l i (by simp only [nY,Xqf,Xq1] at p;exact Xqa p (gW n)))
     .cases h
theorem EN (u:nV P ap H) {a:dO} {nid f:Nat} {args:List AV} {c q:Cx} {r:Wh} (h:uY ap H a nid .dead f args c= .ok r q) (s:q.Ok):
  c.Ok/\Ey P f/\∀ g m S w cargs,bZ ap g m S w->(∀ b ∈ r.fp,∀ B,a b=some B->g b=some B)->(∀ i,i<4->g (nid+i)=none)->bC g m S args cargs->
   Calls P f cargs.toArray w λe w'=>aan ap g m S w r.out r.ups e w':=by
 obtain ⟨args0,C,p,v,A,_,t⟩:=zG h;obtain ⟨n,o⟩:=u _ _ _ _ _ _ _ _ A s;refine ⟨n,o.ent,λg m S w cargs y j k x=> ?_⟩;exact t g m S w cargs (λcargs R=>Calls P f cargs.toArray w R) (λ_ _ _ l d=>l.mono d) y j k x λz S1 _ l d=>o.calls z S1 w cargs l d
end
end AM
namespace AM
open Go
def uQ (dec:List (Nat × Bool)) (env:jq):Prop:=∀ t b,aF dec t=some b->env.get t= .bool b
def iH (g:dO) (m:bg) (S:aY):List (Nat × List AV)->List Deferred->Prop
 | [],[]=>True
 |d::r,cd::cr=>(∃ cap,cd.target= .fn (.func d.1) cap/\bC g m S d.2 (cd.args++cap).toList)/\iH g m S r cr
 |_,_=>False
theorem wK {g g':dO} {m e:bg} {S S':aY} (b:qj S S') (c:Ge g m g' e):∀ {l:List (Nat × List AV)} {ds:List Deferred},iH g m S l ds->iH g' e S' l ds
 | [],[],_=>by simp only [iH]
 |d::r,cd::cr,h=>by
  simp only [iH] at h ⊢;obtain ⟨⟨a,j,f⟩,i⟩:=h;exact ⟨⟨a,j,nH b c _ f⟩,wK b c i⟩
 | [],_::_,h=>by simp [iH] at h
 |_::_,[],h=>by simp [iH] at h
theorem CP {g:dO} {m:bg} {S:aY}:∀ {l l':List (Nat × List AV)} {ds ds':List Deferred},iH g m S l ds->iH g m S l' ds'->iH g m S (l++l') (ds++ds')
 | [],_,[],_,_,h'=>by simpa using h'
 |d::r,_,cd::cr,_,h,h'=>by
  simp only [iH] at h;simp only [List.cons_append,iH];exact ⟨h.1,CP h.2 h'⟩
 | [],_,_::_,_,h,_=>by simp [iH] at h
 |_::_,_,[],_,h,_=>by simp [iH] at h
def wpO (P:Program) (ops:Array Oper) (Q:Exit->Act->World->Prop) (o:Oper) (K:Act->World->Prop) (a:Act) (w:World):Prop:=
 if Region.wanted o (yielded ops a.tmps) then o.wp P a w K Q\/(o.asks P a w/\LetsOut Q) else K (a.put o.dst undef) w
def aez (ap:AP) (o:Oper) (g:dO) (m:bg) (S:aY) (w:World) (a:Act) (v:AV) (ups:List (Nat × bu)) (df:List (Nat × List AV)) (Q:Exit->Act->World->Prop) (K:Act->World->Prop):Option AV->Prop
 |none=> ∀ cv m' S' w' ds,bZ ap (dX g ups) m' S' w'->Fr g m S w (dX g ups) m' S' w'->VR (dX g ups) m' S' v cv->iH (dX g ups) m' S' df ds->K ({a with defers:=ds++a.defers}.put o.dst cv) w'
 |some pv=> ∀ cv m' S' w',bZ ap (dX g ups) m' S' w'->Fr g m S w (dX g ups) m' S' w'->VR (dX g ups) m' S' pv cv->Q (.panic [{v:=cv,recovered:=false}]) a w'
def QZ (P:Program) (ap:AP) (ops:Array Oper) (o:Oper) (nid:Nat) (env:jq) (hp:Hp) (rt rb:List Nat) (v:AV) (ups:List (Nat × bu)) (df:List (Nat × List AV)) (p:Option AV):Prop:=
 ∀ g m S w (a:Act),bZ ap g m S w->(∀ t ∈ rt,VR g m S (env.get t) (a.tmps.getD t undef))->(∀ b ∈ rb,∀ B,aF hp b=some B->g b=some B)->(∀ i,i<4->g (nid+i)=none)->
  ∀ (Q:Exit->Act->World->Prop) (K:Act->World->Prop),aez ap o g m S w a v ups df Q K p->wpO P ops Q o K a w
structure ajq (P:Program) (ap:AP) (ops:Array Oper) (o:Oper) (nid:Nat) (s s':RS) (p:Option AV) (v:AV) (rt rb:List Nat) (ups:List (Nat × bu)) (df:List (Nat × List AV)):Prop where
 env:p=none->s'.env=rq s.env o.dst v
 envp:p ≠ none->s'.env=s.env/\df= []
 hp:s'.hp=ups++s.hp
 md:s'.md=s.md
 dfs:s'.dfs=df++s.dfs
 dec:p=none->uQ s'.dec s'.env
 feet:p=none->s'.feet={rt,wt:=J3 o,rb,wb:=ups.map (·.1)}::s.feet
 sem:QZ P ap ops o nid s.env s.hp rt rb v ups df p
section
variable {P:Program} {ap:AP} {H:dD}
theorem XW (e:Array Value) (t:Nat) {v:Value} (h:e.getD t undef=v) (b:v ≠ undef):e[t]? =some v:=by
 rw [Array.getD_eq_getD_getElem?] at h;cases a:e[t]? with
 |none=>rw [a] at h;exact absurd h.symm b
 |some u=>rw [a] at h;simpa using h
theorem Hz {ops:Array Oper} {tmps:Array Value} {j s:Nat} (hs:(ops[j]?).bind (·.dst)=some s) {b:Bool} (h:tmps.getD s undef= .bool b):yielded ops tmps j=some b:=by
 unfold yielded;rw [hs];simp only [Xw9];rw [XW tmps s h (by simp [undef])]
theorem LV {ops:Array Oper} {tmps:Array Value} {j s:Nat} (hs:(ops[j]?).bind (·.dst)=some s) (h:tmps.getD s undef= .tuple #[]):yielded ops tmps j=none:=by
 unfold yielded;rw [hs];simp only [Xw9];rw [Array.getD_eq_getD_getElem?] at h;cases a:tmps[s]? with
 |none=>rfl
 |some u=>
  rw [a] at h;simp at h;rw [h]
theorem yB {g:dO} {m:bg} {S:aY} {w:World} (c:bZ ap g m S w) {env:jq} {a:Act} (x:Operand) (h:∀ t,x= .tmp t->VR g m S (env.get t) (a.tmps.getD t undef)):VR g m S (rY ap env x) (a.eval x):=by
 cases x with
 |tmp t=>exact h t rfl
 |const v=>exact iU _ (Md S v)
 | global k=>
  simp only [rY,Act.eval];cases d:(ap.gl[k]?).join with
  |none=>simp only [VR]
  |some xs=>
   obtain ⟨vs,e,b⟩:=c.glob k xs d;simp only [VR,PR];exact ⟨k,0,vs,rfl,e,b⟩
 |func f=>
  simp only [rY,Act.eval,VR];exact ⟨[],[],rfl,by simp [bC],by simp [bC]⟩
theorem F_ {l:List Operand} {t:Nat} (h:Operand.tmp t ∈ l):t ∈ wG l:=by
 simp only [wG,List.mem_filterMap];exact ⟨_,h,rfl⟩
theorem Kr {ops:List Oper} {env:jq} {dec e:List (Nat × Bool)} {o:Oper} {c A:Cx} {run:Bool} (h:P8 ops env dec o c= .ok (run,e) A) (p:A.Ok):
  c.Ok/\(uQ dec env->uQ e env/\(∀ t b,aF dec t=some b->aF e t=some b)/\∀ g m S (a:Act),(∀ t ∈ jM ops o,VR g m S (env.get t) (a.tmps.getD t undef))->Region.wanted o (yielded ops.toArray a.tmps)=run):=by
 unfold P8 at h;unfold jM;unfold Region.wanted;split at h
 .rename_i y;cases h;simp only [y];exact ⟨p,λhd=> ⟨hd,λ_ _ h=>h,λ_ _ _ _ _=>trivial⟩⟩
 .rename_i j f y;simp only [y];split at h
  .cases h
  .rename_i s hs;have k:(ops.toArray[j]?).bind (·.dst)=some s:=by simpa using hs
   split at h
   .rename_i b l;cases h;refine ⟨p,λhd=> ⟨hd,λ_ _ h=>h,λg m S a n=> ?_⟩⟩;have d:=n s (by simp);rw [hd s b l] at d;simp only [VR,PR] at d;rw [Hz k d];cases f<;>cases b<;>rfl
   .rename_i B;split at h
    .rename_i b l;obtain ⟨C,D,d,q⟩:=R.bind_ok h;cases q;obtain ⟨z,rfl⟩:=mg d p;refine ⟨z,λhd=> ⟨?_, ?_,λg m S a n=> ?_⟩⟩
     .intro t x i;simp only [aF] at i;split at i
      .rename_i u;cases i;rw [<- aP u,l]
      .exact hd t x i
     .intro t x i;simp only [aF];split
      .rename_i u;rw [aP u] at B;rw [B] at i;cases i
      .exact i
     .have d:=n s (by simp);rw [l] at d;simp only [VR,PR] at d;rw [Hz k d];cases f<;>cases C<;>rfl
    .rename_i l;cases h;refine ⟨p,λhd=> ⟨hd,λ_ _ h=>h,λg m S a n=> ?_⟩⟩;have d:=n s (by simp);rw [l] at d;simp only [VR] at d;obtain ⟨vs,d,q⟩:=d;cases vs with
     |nil=>rw [LV k d];rfl
     |cons v r=>simp [bC] at q
    .cases h
theorem Nu {env:jq} {o:Oper} {v:AV} {t:Nat} (h:∀ d,o.dst=some d->d ≠ t):(rq env o.dst v).get t=env.get t:=by
 unfold rq;split
 .rename_i d hd;simp only [jq.get,aF];split
  .rename_i a;exact absurd (aP a) (h d hd)
  .rfl
 .rfl
theorem zL {dec:List (Nat × Bool)} {env:jq} {o:Oper} {v:AV} (hd:uQ dec env) (a:Xj dec o=true):uQ dec (rq env o.dst v):=by
 intro t b c;rw [Nu]
 .exact hd t b c
 .rintro d hdd rfl
  unfold Xj at a;rw [hdd] at a;simp [c] at a
end
end AM
namespace AM
open Go
section
variable {P:Program} {ap:AP} {H:dD}
theorem X4 {c:Cx} {dst:Option Nat} {v:AV} (h:(FC c dst v).2.Ok):c.Ok/\aU v (FC c dst v).1:=by
 obtain ⟨cl,orc,bs,ps,ans,hs⟩:=c;unfold FC at h ⊢;dsimp only at h ⊢;split at h
 .rename_i d x r i;split at h
  .rename_i a;have e:aU v x:=h.ps _ (Xjy ..);refine ⟨⟨h.bs,λp hp=>h.ps p (Xjd _ hp)⟩, ?_⟩;simp only [a];exact e
  .rename_i a;refine ⟨h, ?_⟩;simp only [a];exact λ_ _ _ _ b=>b
 .rename_i f;exact ⟨h,λ_ _ _ _ b=>b⟩
theorem X3 {c:Cx} {dst:Option Nat} (h:(RV c dst).2.Ok):c.Ok:=by
 obtain ⟨cl,orc,bs,ps,ans,hs⟩:=c;unfold RV at h;dsimp only at h;split at h
 .split at h
  .exact ⟨h.bs,h.ps⟩
  .exact h
 .exact h
theorem X0 {c:Cx} {dst:Option Nat} {ups:List (Nat × bu)} (h:(FB c dst ups).2.Ok):c.Ok/\(FB c dst ups).1=ups:=by
 obtain ⟨cl,orc,bs,ps,ans,hs⟩:=c;unfold FB at h ⊢;dsimp only at h ⊢;split at h
 .rename_i d xs r i b B;split at h
  .rename_i a;have e:B.cells=xs:=h.ps _ (Xjy ..);refine ⟨⟨h.bs,λp hp=>h.ps p (Xjd _ hp)⟩, ?_⟩;simp only [a,<- e]
  .rename_i a;refine ⟨h, ?_⟩;simp only [a]
 .rename_i f;exact ⟨h,rfl⟩
theorem Dx {a:Act} {g:Operand} {args:Array Operand} {argTypes:Array TypeId} {ty:TypeId} {f:Nat} {first b:Array Value} (h:a.eval g= .func (.func f) first b) (w:World):
  (resolve a.eval {callee:= .value g,args,argTypes} ty).run P w= .ok {target:= .fn (.func f) b,args:=first++args.map a.eval} w:=by
 simp only [resolve,h,Deferred.ofValue];rfl
theorem IG {a:Act} {g:Operand} {args:Array Operand} {argTypes:Array TypeId} {ty:TypeId} {f:Nat} {first b:Array Value} (h:a.eval g= .func (.func f) first b) (c:Ey P f) (w:World):
  (do let d <- resolve a.eval {callee:= .value g,args,argTypes} ty;invoke d.target d.args:Sem Next).run P w= .ok (.enter f ((first++args.map a.eval)++b)) w:=by
 rw [Sem.run_bind,Dx h,Result.andThen_ok];exact c _ _
theorem MC {g:dO} {m:bg} {S:aY} {ρ:Operand->AV} {cρ:Operand->Value} {args:Array Operand} (h:∀ o ∈ args,VR g m S (ρ o) (cρ o)):bC g m S (args.toList.map ρ) (args.map cρ).toList:=by
 rw [Array.toList_map];exact wM _ λo a=>h o (by simpa using a)
theorem Jm:∀ {l:Hp} {b:Nat} {B:bu},aF l b=some B->(b,B) ∈ l
 | [],_,_,h=>by cases h
 | (k,X)::r,b,B,h=>by
  simp only [aF] at h;split at h
  .rename_i a;cases h;have:=aP a;subst this;exact Xjy ..
  .exact Xjd _ (Jm h)
theorem F7 {α β:Type} {f g:α->β}:∀ {l:List α},l.map f=l.map g->∀ {x:α},x ∈ l->f x=g x
 | [],_,_,h=>by cases h
 |a::r,h,x,hx=>by
  simp only [Xqg,List.cons.injEq] at h;rcases List.mem_cons.1 hx with rfl|hx
  .exact h.1
  .exact F7 h.2 hx
theorem yS (hap:jm P ap) (hH:nV P ap H) {nid:Nat} {ops:List Oper} {o:Oper} {s s':RS} {p:Option AV} {c c':Cx} (h:TS ap H nid ops o s c= .ok (s',p) c') (T:c'.Ok):
  c.Ok/\(s.md= .dead->uQ s.dec s.env->∃ v rb ups df,ajq P ap ops.toArray o nid s s' p v (wG o.op.operands.toList++jM ops o) rb ups df):=by
 unfold TS at h;obtain ⟨⟨run,dec⟩,c1,e1,h⟩:=R.bind_ok h;dsimp only at h;split at h
 .cases h
 rename_i E;have hguard:∀ c1ok:c1.Ok,c.Ok/\(uQ s.dec s.env->uQ dec s.env/\(∀ t b,aF s.dec t=some b->aF dec t=some b)/\∀ g m S (a:Act),(∀ t ∈ jM ops o,VR g m S (s.env.get t) (a.tmps.getD t undef))->Region.wanted o (yielded ops.toArray a.tmps)=run):=λhk=>Kr e1 hk
 have N:∀ {g:dO} {m:bg} {S:aY} {w:World} {a:Act},bZ ap g m S w->(∀ t ∈ wG o.op.operands.toList++jM ops o,VR g m S (s.env.get t) (a.tmps.getD t undef))->∀ x ∈ o.op.operands,VR g m S (rY ap s.env x) (a.eval x):=by
  intro g m S w a j i x Y;refine yB j x λt ht=>i t ?_
  subst ht;exact List.mem_append.2 (.inl (F_ (by simpa using Y)))
 split at h
 ·
  cases h;obtain ⟨C,W⟩:=hguard T;refine ⟨C,λO d=> ?_⟩;obtain ⟨hd,_,hw⟩:=W d;refine ⟨.tup [],[],[],[],⟨λ_=>rfl,λh=>absurd rfl h,rfl,rfl,rfl,λ_=>zL hd E,λ_=>rfl, ?_⟩⟩;intro g m S w a j i _ _ Q K L;unfold wpO;rw [hw g m S a λt ht=>i t (List.mem_append.2 (.inr ht))];simp only [Bool.false_eq_true,if_false];have:=L undef m S w [] (by rw [gm];exact j) (by rw [gm];exact Fr.refl _ _ _ _) (by simp only [VR];exact ⟨[],rfl,by simp [bC]⟩) (by simp [iH]);exact this
 ·
  have hwant:∀ (Q:Exit->Act->World->Prop) (K:Act->World->Prop) (g:dO) (m:bg) (S:aY) (a:Act) (w:World),c1.Ok->uQ s.dec s.env->(∀ t ∈ wG o.op.operands.toList++jM ops o,VR g m S (s.env.get t) (a.tmps.getD t undef))->o.wp P a w K Q->wpO P ops.toArray Q o K a w:=by
   intro Q K g m S a w hk d i hh;obtain ⟨_,_,hw⟩:=(hguard hk).2 d;unfold wpO;rw [hw g m S a λt ht=>i t (List.mem_append.2 (.inr ht))];simp only [if_true];exact .inl hh
  split at h
  ·
   rename_i gf args argTypes k;split at h
   .rename_i f first cap hf
    obtain ⟨r,c2,e2,h⟩:=R.bind_ok h;have X:c2.Ok:=by
     revert h
     cases hu:RV c2 o.dst with
     | mk u c3=>
      have D:c3.Ok->c2.Ok:=λhk=>X3 (by rw [hu];exact hk)
      cases u with
      | true=>
       dsimp only;cases r.out with
       |ret v=>
        dsimp only;split
        .intro h;cases h;exact D ⟨T.bs,λp hp=>T.ps p (Xjd _ hp)⟩
        .intro h;cases h
       |pan v=>intro h;cases h
      |false=>dsimp only;cases r.out<;>intro h<;>cases h<;>exact D T
    obtain ⟨J,hE,hcall⟩:=EN hH e2 X;obtain ⟨C,W⟩:=hguard J;refine ⟨C,λO d=> ?_⟩;obtain ⟨hd,_,_⟩:=W d;have hargs:∀ {g:dO} {m:bg} {S:aY} {w:World} {a:Act},bZ ap g m S w->(∀ t ∈ wG o.op.operands.toList++jM ops o,VR g m S (s.env.get t) (a.tmps.getD t undef))->
      ∃ vf I:List Value,a.eval gf= .func (.func f) vf.toArray I.toArray/\bC g m S (first++args.toList.map (rY ap s.env)++cap) ((vf++(args.map a.eval).toList)++I):=by
     intro g m S w a j i;have y:=N j i;rw [k] at y;have z:=y gf (by simp [Op.operands,Call.operands]);rw [hf] at z;simp only [VR] at z;obtain ⟨vf,I,D,M,G⟩:=z;exact ⟨vf,I,D,iI (iI M (MC λx Y=>y x (by simp [Op.operands,Call.operands,Y]))) G⟩
    have U:∀ {a:Act} {vf I:List Value} (w:World),a.eval gf= .func (.func f) vf.toArray I.toArray->(execOp a.eval o).run P w= .ok (.enter f (((vf++(args.map a.eval).toList)++I).toArray)) w:=by
     intro a vf I w he;have:=IG (args:=args) (argTypes:=argTypes) (ty:=o.type) he hE w;unfold execOp;rw [k];dsimp only;rw [this];congr 2;apply Array.toList_inj.1;simp
    split at h
    .rename_i c3 hu;split at h
     .rename_i v F;split at h
      .rename_i hall;cases h;have heq:r.ups.map (λ(q:Nat × bu)=>some q.2)=r.ups.map (λ(q:Nat × bu)=>aF s.hp q.1):=T.ps _ (Xjy ..);refine ⟨v,r.fp,[],[],⟨λ_=>rfl,λh=>absurd rfl h,rfl,rfl,rfl,λ_=>zL hd E,λ_=>rfl, ?_⟩⟩;intro g m S w a j i l A Q K L;have hg':dX g r.ups=g:=by
        funext b;unfold dX;cases hl:aF r.ups b with
        |none=>rfl
        |some B=>
         have hm:=Jm hl;have y:=F7 heq hm;exact (l b (kw.1 (List.all_eq_true.1 hall _ hm)) B y.symm).symm
       refine hwant Q K g m S a w J d i ?_;obtain ⟨vf,I,y,z⟩:=hargs j i;unfold Oper.wp;rw [U w y];refine (hcall g m S w _ j l A z).mono ?_
       rintro e w' ⟨m',S',D,M,G⟩
       rw [F] at G;obtain ⟨cv,rfl,h6⟩:=G;rw [hg'] at D M h6;exact L cv m' S' w' [] D M h6 (by simp [iH])
      .cases h
     .cases h
    .rename_i c3 hu;split at h
     .rename_i v F;cases h;refine ⟨v,r.fp,r.ups,[],⟨λ_=>rfl,λh=>absurd rfl h,rfl,rfl,rfl,λ_=>zL hd E,λ_=>rfl, ?_⟩⟩;intro g m S w a j i l A Q K L;refine hwant Q K g m S a w J d i ?_;obtain ⟨vf,I,y,z⟩:=hargs j i;unfold Oper.wp;rw [U w y];refine (hcall g m S w _ j l A z).mono ?_
      rintro e w' ⟨m',S',D,M,G⟩
      rw [F] at G;obtain ⟨cv,rfl,h6⟩:=G;exact L cv m' S' w' [] D M h6 (by simp [iH])
     .rename_i v F;cases h;refine ⟨v,r.fp,r.ups,[],⟨λh=>(by cases h),λ_=> ⟨rfl,rfl⟩,rfl,rfl,rfl,λh=>(by cases h),λh=>(by cases h), ?_⟩⟩;intro g m S w a j i l A Q K L;refine hwant Q K g m S a w J d i ?_;obtain ⟨vf,I,y,z⟩:=hargs j i;unfold Oper.wp;rw [U w y];refine (hcall g m S w _ j l A z).mono ?_
      rintro e w' ⟨m',S',D,M,G⟩
      rw [F] at G;obtain ⟨cv,rfl,h6⟩:=G;exact L cv m' S' w' D M h6
   .cases h
  ·
   split at h
   .cases h;exact ⟨(hguard T).1,λO=>by simp_all⟩
   .cases h;exact ⟨(hguard T).1,λO=>by simp_all⟩
   .cases h
  ·
   rename_i gf args argTypes k;split at h
   .rename_i f first cap hf
    cases h;obtain ⟨C,W⟩:=hguard T;refine ⟨C,λO d=> ?_⟩;obtain ⟨hd,_,_⟩:=W d;refine ⟨.dead,[],[],[(f,first++args.toList.map (rY ap s.env)++cap)],⟨λ_=>rfl,λh=>absurd rfl h,rfl,rfl,rfl,λ_=>zL hd E,λ_=>rfl, ?_⟩⟩;intro g m S w a j i l A Q K L;refine hwant Q K g m S a w T d i ?_;have y:=N j i;rw [k] at y;have z:=y gf (by simp [Op.operands,Call.operands]);rw [hf] at z;simp only [VR] at z;obtain ⟨vf,I,D,M,G⟩:=z;unfold Oper.wp;have hr:(execOp a.eval o).run P w= .ok (.defer {target:= .fn (.func f) I.toArray,args:=vf.toArray++args.map a.eval}) w:=by
     unfold execOp;rw [k];dsimp only;rw [Sem.run_bind,Dx D,Result.andThen_ok];rfl
    rw [hr];refine L undef m S w [{target:= .fn (.func f) I.toArray,args:=vf.toArray++args.map a.eval}] (by rw [gm];exact j) (by rw [gm];exact Fr.refl _ _ _ _) (by simp only [VR]) ?_;simp only [iH,gm,and_true];refine ⟨I.toArray,rfl, ?_⟩;have:=iI (iI M (MC (args:=args) λx Y=>y x (by simp [Op.operands,Call.operands,Y]))) G;simpa using this
   .cases h
  ·
   rename_i x k;split at h
   .rename_i t v Y;cases h;obtain ⟨C,W⟩:=hguard T;refine ⟨C,λO d=> ?_⟩;obtain ⟨hd,_,_⟩:=W d;refine ⟨.dead,[],[],[],⟨λh=>(by cases h),λ_=> ⟨rfl,rfl⟩,rfl,rfl,rfl,λh=>(by cases h),λh=>(by cases h), ?_⟩⟩;intro g m S w a j i l A Q K L;refine hwant Q K g m S a w T d i ?_;have y:=N j i;rw [k] at y;have z:=y x (by simp [Op.operands]);rw [Y] at z;have h2':=z;simp only [VR] at h2';obtain ⟨u,D,M⟩:=h2';unfold Oper.wp;have hr:(execOp a.eval o).run P w= .halt (.panic (a.eval x)) w:=by
     unfold execOp;rw [k];dsimp only;rw [D];rfl
    rw [hr];exact L _ m S w (by rw [gm];exact j) (by rw [gm];exact Fr.refl _ _ _ _) (by rw [gm];exact z)
   .cases h
  ·
   rename_i op n1 n2 n3 n4;obtain ⟨em,c2,e2,h⟩:=R.bind_ok h;split at h
   .cases h
   .rename_i v ups bs k;obtain ⟨_,c3,e3,h⟩:=R.bind_ok h;have hv1:(FC c3 o.dst v).2.Ok->c3.Ok/\aU v (FC c3 o.dst v).1:=X4;generalize FC c3 o.dst v=q1 at h hv1;obtain ⟨v1,c4⟩:=q1;dsimp only at h hv1;have hv2:(FB c4 o.dst ups).2.Ok->c4.Ok/\(FB c4 o.dst ups).1=ups:=X0;generalize FB c4 o.dst ups=q2 at h hv2;obtain ⟨ups1,c5⟩:=q2;dsimp only at h hv2;cases h;obtain ⟨hc4,hups⟩:=hv2 T;subst hups;obtain ⟨hc3,Z⟩:=hv1 hc4;obtain ⟨X,hbs⟩:=J5 e3 hc3;have hem:c1.Ok/\∀ n,zW (rY ap s.env) o.op=some n->Xqn n 0=em:=by
     split at e2
     .rename_i n hn;obtain ⟨hk,rfl⟩:=mg e2 X;exact ⟨hk,λn' V=>by rw [hn] at V;cases V;rfl⟩
     .rename_i hn;cases e2;exact ⟨X,λn' V=>by rw [hn] at V;cases V⟩
    obtain ⟨J,hem⟩:=hem;obtain ⟨C,W⟩:=hguard J;refine ⟨C,λO d=> ?_⟩;obtain ⟨hd,_,_⟩:=W d;refine ⟨v1,Y9 (rY ap s.env) o.op,ups1,[],⟨λ_=>rfl,λh=>absurd rfl h,rfl,rfl,rfl,λ_=>zL hd E,λ_=>rfl, ?_⟩⟩;intro g m S w a j i l A Q K L;refine hwant Q K g m S a w J d i ?_;have y:=N j i;have hok:=Vj hap j (nid:=nid) (A 0 (by omega)) (ρ:=rY ap s.env) (cρ:=a.eval) (λb B hb=>by
      split at hb
      .rename_i hm;exact l b (kw.1 hm) B hb
      .cases hb) o y (dec:=fun| .tmp t=>aF dec t|_=>none) (λx Y b hb=>by
      split at hb
      .rename_i t;have:=i t (List.mem_append.2 (.inl (F_ (by simpa using Y))));rw [hd t b hb] at this;simp only [VR,PR] at this;exact this
      .cases hb) hem k hbs
    obtain ⟨nx,m',w',z,D,M,G⟩:=hok;unfold Oper.wp;rw [z];rcases G with ⟨cv,rfl,G⟩|⟨rfl,rfl⟩
    .exact L cv m' S w' [] D M (Z _ _ _ _ G) (by simp [iH])
    .exact L undef m' S w' [] D M (Z _ _ _ _ (by simp only [VR])) (by simp [iH])
end
end AM
namespace AM
open Go
theorem w_:∀ {hp:Hp} {b:Nat} {B:bu},aF hp b=some B->b<lK hp
 | [],b,B,h=>by simp [aF] at h
 | (c,C)::r,b,B,h=>by
  simp only [aF] at h;simp only [lK];split at h
  .rename_i d;have d:=aP d;subst d;split
   .rename_i a;exact gX a
   .omega
  .have e:=w_ h;split
   .exact e
   .rename_i a;have:¬ c<lK r:=λf=>by
     have:Xjj c (lK r)=true:=by
      show Nat.ble (c+1) (lK r)=true;exact Xqe f
     rw [this] at a;cases a
    omega
theorem FY:∀ {l:Hp} {b:Nat} {B:bu},aF l b=some B->b ∈ l.map (·.1)
 | [],b,B,h=>by simp [aF] at h
 |(c,C)::r,b,B,h=>by
  simp only [aF] at h;split at h
  .rename_i a;simp [aP a]
  .simp [FY h]
structure FR (ap:AP) (env:jq) (hp:Hp) (dfs:List (Nat × List AV)) (nt:Nat) (m:bg) (S:aY) (w:World) (a:Act):Prop where
 srel:bZ ap (aF hp) m S w
 env:∀ t,VR (aF hp) m S (env.get t) (a.tmps.getD t undef)
 dfs:iH (aF hp) m S dfs a.defers
 size:a.tmps.size=nt
theorem Oa (a:Act) (d:Option Nat) (v:Value):(a.put d v).tmps.size=a.tmps.size:=by
 cases d<;>simp [Act.put]
theorem Gx (a:Act) (d:Option Nat) (v:Value):(a.put d v).defers=a.defers:=by
 cases d<;>simp [Act.put]
theorem Gz (a:Act) (d:Option Nat) (v:Value) {t:Nat} (h:d ≠ some t):(a.put d v).tmps.getD t undef=a.tmps.getD t undef:=by
 cases d with
 |none=>rfl
 |some d=>
  have b:d ≠ t:=λe=>h (by rw [e])
  simp only [Act.put,Array.getD_eq_getD_getElem?];rw [Array.getElem?_setIfInBounds_ne b]
theorem Gy (a:Act) (d:Nat) (v:Value) (h:d<a.tmps.size):(a.put (some d) v).tmps.getD d undef=v:=by
 simp only [Act.put,Array.getD_eq_getD_getElem?];rw [Array.getElem?_setIfInBounds_self_of_lt h];rfl
theorem nJ {env:jq} {d:Nat} {v:AV}:(rq env (some d) v).get d=v:=by simp [rq,jq.get,aF]
theorem zY {env:jq} {dst:Option Nat} {v:AV} {t:Nat} (h:dst ≠ some t):(rq env dst v).get t=env.get t:=by
 cases dst with
 |none=>rfl
 | some d=>
  have a:Xqn d t=false:=by
   cases b:Xqn d t with
   |false=>rfl
   |true=>exact absurd (by rw [aP b]) h
  simp [rq,jq.get,aF,a]
section
variable {P:Program} {ap:AP} {H:dD}
theorem FR.put {env:jq} {hp ups:Hp} {dfs e:List (Nat × List AV)} {nt:Nat} {m b:bg} {S S':aY} {w w':World} {a:Act} (h:FR ap env hp dfs nt m S w a) {dst:Option Nat} (hd:∀ d,dst=some d->d<nt) {v:AV} {cv:Value} {c:List Deferred}
  (h1:bZ ap (dX (aF hp) ups) b S' w') (h2:Fr (aF hp) m S w (dX (aF hp) ups) b S' w') (h3:VR (dX (aF hp) ups) b S' v cv) (h4:iH (dX (aF hp) ups) b S' e c):
  FR ap (rq env dst v) (ups++hp) (e++dfs) nt b S' w' ({a with defers:=c++a.defers}.put dst cv):=by
 rw [kV] at h1 h2 h3 h4;refine ⟨h1, ?_, ?_, ?_⟩
 .intro t;by_cases ht:dst=some t
  .subst ht;rw [nJ,Gy _ _ _ (by have:=hd t rfl;have:=h.size;simpa [this] using hd t rfl)];exact h3
  .rw [zY ht,Gz _ _ _ ht];exact qy h2.sle h2.ge _ (h.env t)
 .rw [Gx];exact CP h4 (wK h2.sle h2.ge h.dfs)
 .rw [Oa];exact h.size
theorem FR.still {env:jq} {hp ups:Hp} {dfs:List (Nat × List AV)} {nt:Nat} {m b:bg} {S S':aY} {w w':World} {a:Act} (h:FR ap env hp dfs nt m S w a)
  (h1:bZ ap (dX (aF hp) ups) b S' w') (h2:Fr (aF hp) m S w (dX (aF hp) ups) b S' w'):FR ap env (ups++hp) dfs nt b S' w' a:=by
 rw [kV] at h1 h2;exact ⟨h1,λt=>qy h2.sle h2.ge _ (h.env t),wK h2.sle h2.ge h.dfs,h.size⟩
def zo (ap:AP) (hp0:Hp) (m:bg) (S:aY) (w:World) (nt:Nat) (env:jq) (hp:Hp) (dfs:List (Nat × List AV)) (Q:Exit->Act->World->Prop):Option AV->Prop
 |none=> ∀ m' S' w' a',Fr (aF hp0) m S w (aF hp) m' S' w'->FR ap env hp dfs nt m' S' w' a'->Q .normal a' w'
 |some v=> ∀ m' S' w' a' cv,Fr (aF hp0) m S w (aF hp) m' S' w'->FR ap env hp dfs nt m' S' w' a'->VR (aF hp) m' S' v cv->Q (.panic [{v:=cv,recovered:=false}]) a' w'
theorem uM {ops:Array Oper} {Q:Exit->Act->World->Prop} {i:Nat} {o:Oper} (b:ops[i]? =some o) (rest:List Nat) (a:Act) (w:World):wpOps P ops Q (i::rest) a w↔wpO P ops Q o (wpOps P ops Q rest) a w:=by
 simp only [wpOps,b,wpO]
theorem Qc {hp ups:Hp} {nid:Nat} (f:∀ b B,aF hp b=some B->b<nid) (d:(ups.map (·.1)).all (λx=>Xjj x (nid+4))=true):∀ b B,aF (ups++hp) b=some B->b<nid+4:=by
 intro b B a;rw [iZ] at a;split at a
 .rename_i x e;have c:b ∈ ups.map (·.1):=FY e;exact gX (List.all_eq_true.1 d b c)
 .have:=f b B a;omega
theorem oP (F:jm P ap) (W:nV P ap H) {ops:List Oper} {nt:Nat} (L:∀ o ∈ ops,∀ d,o.dst=some d->d<nt):∀ (l:List Oper) (i nid:Nat) (s s':RS) (p:Option AV) (c c':Cx),yT ap H ops l nid s c= .ok (s',p) c'->c'.Ok->
  c.Ok/\(s.md= .dead->uQ s.dec s.env->l=ops.drop i->(∀ b B,aF s.hp b=some B->b<nid)->
  s'.md= .dead/\∀ m S w a,FR ap s.env s.hp s.dfs nt m S w a->∀ Q,zo ap s.hp m S w nt s'.env s'.hp s'.dfs Q p->wpOps P ops.toArray Q (List.range' i l.length) a w)
 | [],i,nid,s,s',p,c,c',h,hc=>by
  cases h;exact ⟨hc,λe _ _ _=> ⟨e,λm S w a x Q y=>y m S w a (Fr.refl _ _ _ _) x⟩⟩
 | o ::r,i,nid,s,s',p,c,c',h,hc=>by
  simp only [yT] at h;obtain ⟨⟨s1,p1⟩,c1,e1,h⟩:=R.bind_ok h;dsimp only at h;have hfresh:(∀ b B,aF s.hp b=some B->b<nid)->∀ j,j<4->aF s.hp (nid+j)=none:=by
   intro G j _;cases hb:aF s.hp (nid+j) with
   |none=>rfl
   |some B=>have:=G _ _ hb;omega
  have z:o::r=ops.drop i->ops[i]? =some o/\ops.toArray[i]? =some o/\r=ops.drop (i+1)/\∀ d,o.dst=some d->d<nt:=by
   intro I;have k:ops[i]? =some o:=by
    have:(ops.drop i)[0]? =some o:=by rw [<- I];rfl
    simpa using this
   have O:r=ops.drop (i+1):=by
    have:r=(ops.drop i).drop 1:=by rw [<- I];rfl
    rw [this,Xjw]
   exact ⟨k,by simpa using k,O,L o (Xql k)⟩
  cases p1 with
  |some v=>
   cases h;obtain ⟨E,D⟩:=yS F W e1 hc;refine ⟨E,λe f I G=> ?_⟩;obtain ⟨k,n,O,hd⟩:=z I;obtain ⟨v1,rb,ups,df,hs⟩:=D e f;refine ⟨by rw [hs.md,e],λm S w a x Q y=> ?_⟩;rw [ν,Xkc,uM n];refine hs.sem (aF s.hp) m S w a x.srel (λt _=>x.env t) (λb _ B hB=>hB) (hfresh G) Q _ ?_;intro cv m' S' w' U u N;have T:=x.still U u;rw [kV] at u N;obtain ⟨q,rfl⟩:=hs.envp (by simp);have y:=y m' S' w' a cv;rw [hs.hp,hs.dfs,q] at y;exact y u T N
  | none=>
   dsimp only at h;cases A:s1.feet with
   |nil=>rw [A] at h;cases h
   | cons ft fr=>
    rw [A] at h;dsimp only at h;split at h
    .rename_i J;obtain ⟨Z,V⟩:=oP F W L r (i+1) (nid+4) s1 s' p c1 c' h hc;obtain ⟨E,D⟩:=yS F W e1 Z;refine ⟨E,λe f I G=> ?_⟩;obtain ⟨k,n,O,hd⟩:=z I;obtain ⟨v1,rb,ups,df,hs⟩:=D e f;have C:=hs.feet rfl;rw [A] at C;simp only [List.cons.injEq] at C;rw [C.1] at J;obtain ⟨M,V⟩:=V (by rw [hs.md,e]) (hs.dec rfl) O (by rw [hs.hp];exact Qc G J);refine ⟨M,λm S w a x Q y=> ?_⟩;rw [ν,Xkc,uM n];refine hs.sem (aF s.hp) m S w a x.srel (λt _=>x.env t) (λb _ B hB=>hB) (hfresh G) Q _ ?_;intro cv m' S' w' ds U u N h4;have K:=x.put hd U u N h4;rw [kV] at u;have q:=hs.env rfl;rw [<- q,<- hs.hp,<- hs.dfs] at K;refine V m' S' w' _ K Q ?_;rw [<- hs.hp] at u;cases p with
     |none=>exact λm2 S2 w2 a2 Y X=>y m2 S2 w2 a2 (u.trans Y) X
     |some v=>exact λm2 S2 w2 a2 cv2 Y X h7=>y m2 S2 w2 a2 cv2 (u.trans Y) X h7
    .cases h
end
end AM
namespace AM
open Go
structure uP where
 dst:Option Nat
 v:AV
 rt:List Nat
 rb:List Nat
 ups:List (Nat × bu)
def RD (d:Option Nat):List Nat:=match d with|some d=> [d]|none=> []
def uP.foot (r:uP):Ez:={rt:=r.rt,wt:=RD r.dst,rb:=r.rb,wb:=r.ups.map (·.1)}
def rX (D:Nat->Bool):Nat->jq->List uP->jq
 |_,e,[]=>e
 |j,e,r::rs=>rX D (j+1) (match D j with|true=>rq e r.dst r.v|false=>e) rs
def Aa (D:Nat->Bool):Nat->Hp->List uP->Hp
 |_,h,[]=>h
 |j,h,r::rs=>Aa D (j+1) (match D j with|true=>r.ups++h|false=>h) rs
theorem vk {D D':Nat->Bool} {t:Nat}:∀ (rs:List uP) (j:Nat) (e e':jq),e.get t=e'.get t->(∀ k r,rs[k]? =some r->r.dst=some t->D (j+k)=D' (j+k))->(rX D j e rs).get t=(rX D' j e' rs).get t
 | [],_,_,_,he,_=>he
 | r::rs,j,e,e',he,h=>by
  simp only [rX];refine vk rs (j+1) _ _ ?_ λk c b hd=> ?_
  .by_cases hd:r.dst=some t
   .have a:=h 0 r rfl hd;rw [Xq1] at a;rw [a];cases D' j with
    |true=>simp only [hd,nJ]
    |false=>exact he
   .cases D j<;>cases D' j<;>simp only [zY hd,he]
  .have:=h (k+1) c (by simpa using b) hd;rwa [show j+(k+1)=j+1+k by omega] at this
theorem KD:∀ {l:Hp} {b:Nat},b ∉ l.map (·.1)->aF l b=none:=by
 intro l b h;cases a:aF l b with
 |none=>rfl
 |some B=>exact absurd (FY a) h
theorem Ag {ups hp:Hp} {b:Nat} (h:b ∉ ups.map (·.1)):aF (ups++hp) b=aF hp b:=by
 rw [iZ,KD h]
theorem Df:∀ {l:Hp} {b:Nat},b ∈ l.map (·.1)->∃ B,aF l b=some B
 | [],b,h=>by simp at h
 | (c,C)::r,b,h=>by
  simp only [aF];cases a:Xqn c b with
  |true=>exact ⟨C,rfl⟩
  |false=>
   simp only [Xqg,Xwq] at h;rcases h with h|h
   .subst h;simp at a
   .exact Df h
theorem Af {ups hp hp':Hp} {b:Nat} (h:b ∈ ups.map (·.1)):aF (ups++hp) b=aF (ups++hp') b:=by
 obtain ⟨B,a⟩:=Df h;rw [iZ,iZ,a]
theorem sG {D D':Nat->Bool} {b:Nat}:∀ (rs:List uP) (j:Nat) (h h':Hp),aF h b=aF h' b->(∀ k r,rs[k]? =some r->b ∈ r.ups.map (·.1)->D (j+k)=D' (j+k))->aF (Aa D j h rs) b=aF (Aa D' j h' rs) b
 | [],_,_,_,he,_=>he
 | r::rs,j,e,e',he,h=>by
  simp only [Aa];refine sG rs (j+1) _ _ ?_ λk d c hd=> ?_
  .by_cases hd:b ∈ r.ups.map (·.1)
   .have a:=h 0 r rfl hd;rw [Xq1] at a;rw [a];cases D' j with
    |true=>exact Af hd
    |false=>exact he
   .cases D j<;>cases D' j<;>simp only [Ag hd,he]
  .have:=h (k+1) d (by simpa using c) hd;rwa [show j+(k+1)=j+1+k by omega] at this
theorem Bf:∀ (a:List uP) (j:Nat) (e:jq) {D:Nat->Bool},(∀ k,k<a.length->D (j+k)=false)->rX D j e a=e
 | [],_,_,_,_=>rfl
 |r::a,j,e,D,h=>by
  have b:=h 0 (by simp);rw [Xq1] at b;simp only [rX,b];exact Bf a (j+1) e λk c=>by have:=h (k+1) (by simpa using c);rwa [show j+(k+1)=j+1+k by omega] at this
theorem vK:∀ (a:List uP) (j:Nat) (e:Hp) {D:Nat->Bool},(∀ k,k<a.length->D (j+k)=false)->Aa D j e a=e
 | [],_,_,_,_=>rfl
 |r::a,j,e,D,h=>by
  have b:=h 0 (by simp);rw [Xq1] at b;simp only [Aa,b];exact vK a (j+1) e λk c=>by have:=h (k+1) (by simpa using c);rwa [show j+(k+1)=j+1+k by omega] at this
def Bg (e:jq) (rs:List uP):jq:=rX (λ_=>true) 0 e rs
def P_ (h:Hp) (rs:List uP):Hp:=Aa (λ_=>true) 0 h rs
theorem yx (D:Nat->Bool):∀ (rs:List uP) (j d:Nat) (e:jq),rX D (j+d) e rs=rX (λk=>D (k+d)) j e rs
 | [],_,_,_=>rfl
 |r::rs,j,d,e=>by
  simp only [rX];rw [show j+d+1=j+1+d by omega];exact yx D rs (j+1) d _
theorem Bl (D:Nat->Bool):∀ (rs:List uP) (j d:Nat) (e:Hp),Aa D (j+d) e rs=Aa (λk=>D (k+d)) j e rs
 | [],_,_,_=>rfl
 |r::rs,j,d,e=>by
  simp only [Aa];rw [show j+d+1=j+1+d by omega];exact Bl D rs (j+1) d _
theorem wS (e:jq) (r:uP) (a:List uP):Bg e (r::a)=Bg (rq e r.dst r.v) a:=by
 simp only [Bg,rX];exact yx (λ_=>true) a 0 1 _
theorem Ac (h:Hp) (r:uP) (a:List uP):P_ h (r::a)=P_ (r.ups++h) a:=by
 simp only [P_,Aa];exact Bl (λ_=>true) a 0 1 _
theorem J6:∀ (a:List uP) (k:Nat) (e:jq),rX (λj=>decide (j<k)) 0 e a=Bg e (a.take k)
 |a,0,e=>by
  simp only [Xw0];exact Bf a 0 e λ_ _=>by simp
 | [],k+1,e=>rfl
 |r::a,k+1,e=>by
  simp only [Xja,wS,rX];rw [show decide (0<k+1)=true by simp];dsimp only;rw [<- J6 a k];have:=yx (λj=>decide (j<k+1)) a 0 1 (rq e r.dst r.v);rw [this];congr 1;funext j;simp
theorem P9:∀ (a:List uP) (k:Nat) (e:Hp),Aa (λj=>decide (j<k)) 0 e a=P_ e (a.take k)
 |a,0,e=>by
  simp only [Xw0];exact vK a 0 e λ_ _=>by simp
 | [],k+1,e=>rfl
 |r::a,k+1,e=>by
  simp only [Xja,Ac,Aa];rw [show decide (0<k+1)=true by simp];dsimp only;rw [<- P9 a k];have:=Bl (λj=>decide (j<k+1)) a 0 1 (r.ups++e);rw [this];congr 1;funext j;simp
theorem UK (e:jq):∀ (b:List uP) (k:Nat) (r:uP),b[k]? =some r->Bg e (b.take (k+1))=rq (Bg e (b.take k)) r.dst r.v:=by
 intro b
 induction b generalizing e with
 |nil=>intro k r h;simp at h
 | cons a b ih=>
  intro k r h;cases k with
  |zero=>simp at h;subst h;rfl
  |succ k=>
   simp only [Xja,wS];exact ih _ k r (by simpa using h)
theorem X5 (e:Hp):∀ (b:List uP) (k:Nat) (r:uP),b[k]? =some r->P_ e (b.take (k+1))=r.ups++P_ e (b.take k):=by
 intro b
 induction b generalizing e with
 |nil=>intro k r h;simp at h
 | cons a b ih=>
  intro k r h;cases k with
  |zero=>simp at h;subst h;rfl
  |succ k=>
   simp only [Xja,Ac];exact ih _ k r (by simpa using h)
section
variable {P:Program} {ap:AP} {H:dD}
structure Wu (P:Program) (ap:AP) (ops:List Oper) (i nid:Nat) (s s':RS) (recs:List uP):Prop where
 env:s'.env=Bg s.env recs
 hp:s'.hp=P_ s.hp recs
 feet:s'.feet=(recs.map uP.foot).reverse++s.feet
 dle:s.dfs.length<=s'.dfs.length
 bound:∀ (k:Nat) (r:uP),recs[k]? =some r->∀ b ∈ r.ups.map (·.1),b<nid+4*k+4
 sem:s'.dfs.length=s.dfs.length->s'.dfs=s.dfs/\∀ (k:Nat) (r:uP),recs[k]? =some r->∃ o,ops[i+k]? =some o/\r.dst=o.dst/\QZ P ap ops.toArray o (nid+4*k) (Bg s.env (recs.take k)) (P_ s.hp (recs.take k)) r.rt r.rb r.v r.ups [] none
theorem aff (z:jm P ap) (L:nV P ap H) {ops:List Oper}:∀ (l:List Oper) (i nid:Nat) (s s':RS) (c c':Cx),yT ap H ops l nid s c= .ok (s',none) c'->c'.Ok->
  c.Ok/\(s.md= .dead->uQ s.dec s.env->l=ops.drop i->s'.md= .dead/\∃ a:List uP,a.length=l.length/\Wu P ap ops i nid s s' a)
 | [],i,nid,s,s',c,c',h,hc=>by
  cases h;exact ⟨hc,λd _ _=> ⟨d,[],rfl,⟨rfl,rfl,rfl,χ _,λk r h=>by simp at h,λ_=> ⟨rfl,λk r h=>by simp at h⟩⟩⟩⟩
 | o :: r,i,nid,s,s',c,c',h,hc=>by
  simp only [yT] at h;obtain ⟨⟨A,Y⟩,T,W,h⟩:=R.bind_ok h;dsimp only at h;cases Y with
  |some v=>cases h
  | none=>
   dsimp only at h;cases f:A.feet with
   |nil=>rw [f] at h;cases h
   | cons ft fr=>
    rw [f] at h;dsimp only at h;split at h
    .rename_i p;obtain ⟨E,Q⟩:=aff z L r (i+1) (nid+4) A s' T c' h hc;obtain ⟨I,G⟩:=yS z L W E;refine ⟨I,λd t N=> ?_⟩;have C:ops[i]? =some o:=by
      have:(ops.drop i)[0]? =some o:=by rw [<- N];rfl
      simpa using this
     have V:r=ops.drop (i+1):=by
      have:r=(ops.drop i).drop 1:=by rw [<- N];rfl
      rw [this,Xjw]
     obtain ⟨v1,rb,ups,F,hs⟩:=G d t;have n:=hs.feet rfl;rw [f] at n;simp only [List.cons.injEq] at n;rw [n.1] at p;obtain ⟨y,a,u,e⟩:=Q (by rw [hs.md,d]) (hs.dec rfl) V;refine ⟨y,{dst:=o.dst,v:=v1,rt:=wG o.op.operands.toList++jM ops o,rb:=rb,ups:=ups}::a,by simp [u], ?_⟩;have J:s.dfs.length<=A.dfs.length:=by rw [hs.dfs];simp
     refine ⟨?_, ?_, ?_,Xxg J e.dle, ?_, ?_⟩
     .rw [e.env,wS,hs.env rfl]
     .rw [e.hp,Ac,hs.hp]
     .rw [e.feet,hs.feet rfl];simp [uP.foot,RD,J3];cases o.dst<;>rfl
     .intro k q j b K;cases k with
      |zero=>
       simp at j;subst j;exact gX (List.all_eq_true.1 p b K)
      |succ k=>
       have:=e.bound k q (by simpa using j) b K;omega
     .intro he;have h1:=e.dle;obtain ⟨D,x⟩:=e.sem (by omega);have B:F= []:=by
       have:F.length=0:=by
        have:=hs.dfs;have Z:A.dfs.length=F.length+s.dfs.length:=by rw [this];simp
        omega
       exact Xxz this
      subst B;refine ⟨by rw [D,hs.dfs];rfl, ?_⟩;intro k q j;cases k with
      |zero=>
       simp at j;subst j;exact ⟨o,C,rfl,hs.sem⟩
      |succ k=>
       obtain ⟨X,O,U,M⟩:=x k q (by simpa using j);refine ⟨X,by rw [show i+(k+1)=i+1+k by omega];exact O,U, ?_⟩;rw [Xja,wS,Ac];rw [hs.env rfl,hs.hp] at M;rw [show nid+4*(k+1)=nid+4+4*k by omega];exact M
    .cases h
end
end AM
namespace AM
open Go
theorem Fp {md:Region.Mode} (b:Array Nat) (i:Nat):∀ (l:List Edge) (s:Nat),(l.foldl (λs e=>if Region.binds md e then s|||2^e.on|||b.getD e.on 0 else s) s).testBit i=true->
  s.testBit i=true\/∃ e ∈ l,Region.binds md e=true/\(i=e.on\/(b.getD e.on 0).testBit i=true)
 | [],s,h=> .inl h
 | e::r,s,h=>by
  simp only [Xjx] at h;rcases Fp b i r _ h with a|⟨e',a,d⟩
  .split at a
   .rename_i c;simp only [Nat.testBit_or,Xvj,Nat.testBit_two_pow,decide_eq_true_eq] at a;rcases a with (a|a)|a
    .exact .inl a
    .exact .inr ⟨e,by simp,c,.inl a.symm⟩
    .exact .inr ⟨e,by simp,c,.inr a⟩
   .exact .inl a
  .exact .inr ⟨e',by simp [a],d⟩
def qE (acc:Array Nat) (o:Oper):Array Nat:=acc.push (o.after.toList.foldl (λs e=>if Region.binds .any e then s|||2^e.on|||acc.getD e.on 0 else s) 0)
theorem Fq (a:Array Nat) (x:Nat):(a.push x).getD a.size 0=x:=by simp [Array.getD_eq_getD_getElem?]
def DW (ops:List Oper) (D:Nat->Bool):Prop:=∀ (k:Nat) (o:Oper),ops[k]? =some o->D k=true->∀ e ∈ o.after,Region.binds .any e=true->D e.on=true
def aeA (D:Nat->Bool) (acc:Array Nat):Prop:=∀ k,D k=true->∀ i,(acc.getD k 0).testBit i=true->D i=true
theorem Q7 {ops:List Oper} {D:Nat->Bool} (j:DW ops D):∀ (l:List Oper) (acc:Array Nat),aeA D acc->l=ops.drop acc.size->aeA D (l.foldl qE acc)
 | [],acc,h,_=>h
 | o ::r,acc,h,hl=>by
  simp only [Xjx];have d:ops[acc.size]? =some o:=by
   have:(ops.drop acc.size)[0]? =some o:=by rw [<- hl];rfl
   simpa using this
  refine Q7 j r _ ?_ ?_
  .intro k f i a;by_cases hks:k<acc.size
   .refine h k f i ?_;simpa [qE,Array.getD_eq_getD_getElem?,Array.getElem?_push,Nat.ne_of_lt hks] using a
   .by_cases hke:k=acc.size
    .subst hke;rw [qE,Fq] at a;rcases Fp acc i _ _ a with c|⟨e,c,p,b⟩
     .simp at c
     .have n:=j _ o d f e (by simpa using c) p;rcases b with rfl|b
      .exact n
      .exact h _ n i b
    .have:(qE acc o)[k]? =none:=by
      simp only [qE];rw [Array.getElem?_eq_none];simp;omega
     simp [Array.getD_eq_getD_getElem?,this] at a
  .have:(qE acc o).size=acc.size+1:=by simp [qE]
   rw [this,<- Xjw,<- hl];rfl
theorem Ur (ops:List Oper):Region.before ops.toArray=ops.foldl qE #[]:=by
 simp only [Region.before,<- Array.foldl_toList];rfl
theorem qU {ops:List Oper} {D:Nat->Bool} (c:DW ops D) {k i:Nat} (b:D k=true) (h:((Region.before ops.toArray).toList.getD k 0).testBit i=true):D i=true:=by
 have:=Q7 c ops #[] (λk _ i a=>by simp at a) (by simp);rw [<- Ur] at this;refine this k b i ?_;rw [ξ] at h;rw [Array.getD_eq_getD_getElem?];simpa using h
theorem sJ {a b:List Nat} {x:Nat} (d:x ∈ a) (c:x ∈ b):F8 a b=true:=List.any_eq_true.2 ⟨x,d,kw.2 c⟩
structure JK (n:Nat) (bef:Nat->Nat->Bool) (recs:List uP):Prop where
 ok:∀ i j a b,recs[i]? =some a->recs[j]? =some b->i<j->(kQ a.foot b.foot=true\/∃ x ∈ b.ups.map (·.1),n+4*i<=x/\x<n+4*i+4)->bef j i=true
theorem Qs {n:Nat} {e:List Nat} {d:List uP} (h:Gs n e (d.map uP.foot).reverse=true):JK n (λj i=>(e.getD j 0).testBit i) d:=by
 refine ⟨λi j a b r p f k=> ?_⟩;simp only [Gs,List.reverse_reverse,Xj1] at h;have c:=h (a.foot,i) (by rw [Xzc];simp [r]) (b.foot,j) (by rw [Xzc];simp [p]);simp only [Xvj,Xqq] at c;rcases c with (c|c)|c
 .have:Xjj i j=true:=Xqe f;rw [this] at c;cases c
 .exfalso;rw [Bool.or_eq_false_iff] at c;rcases k with k|⟨x,o,l,q⟩
  .rw [k] at c;cases c.1
  .have:=List.any_eq_false.1 c.2 x o;simp only [φ,not_and] at this;exact this (Xqe l) (Xqe q)
 .exact c
section
variable {P:Program} {ap:AP} {H:dD}
theorem FR.congr {env b:jq} {hp hp':Hp} {dfs:List (Nat × List AV)} {nt:Nat} {m:bg} {S:aY} {w:World} {a:Act} (h:FR ap env hp dfs nt m S w a) (d:∀ t,b.get t=env.get t) (c:aF hp'=aF hp):FR ap b hp' dfs nt m S w a:=by
 refine ⟨c ▸ h.srel,λt=> ?_,c ▸ h.dfs,h.size⟩;rw [d,c];exact h.env t
def rE (listed:Array Bool):Nat->Bool:=λk=>listed.getD k false
theorem aaV {listed:Array Bool} {i:Nat} (a:i<listed.size) (k:Nat):rE (listed.setIfInBounds i true) k=(if k=i then true else rE listed k):=by
 simp only [rE,Array.getD_eq_getD_getElem?];by_cases h:k=i
 .subst h;rw [if_pos rfl,Array.getElem?_setIfInBounds_self_of_lt a];rfl
 .rw [if_neg h,Array.getElem?_setIfInBounds_ne (λe=>h e.symm)]
def KI (n:Nat) (D:Nat->Bool):Nat:=((Xq7 n).filter λi=> !D i).length
theorem Dl {D D':Nat->Bool} {i:Nat} (c:D i=false) (b:∀ k,D' k=if k=i then true else D k):∀ (l:List Nat),l.Nodup->i ∈ l->(l.filter λk=> !D k).length=(l.filter λk=> !D' k).length+1
 | [],_,h=>by simp at h
 | a::r,hn,h=>by
  rw [Xkl] at hn;by_cases ha:a=i
  .subst ha;have hsame:r.filter (λk=> !D k)=r.filter (λk=> !D' k):=by
    refine List.filter_congr λk f=> ?_
    have:k ≠ a:=λe=>hn.1 (e ▸ f)
    rw [b k,if_neg this]
   have j:D' a=true:=by rw [b a,if_pos rfl]
   simp [c,j,hsame]
  .have d:=Dl c b r hn.2 (by simpa [Ne.symm ha] using h);have:D' a=D a:=by rw [b a,if_neg ha]
   simp only [List.filter_cons,this];split<;>simp [d]
theorem Y_ {ops:List Oper} (h:zV ops=true) {listed:Array Bool} (j:listed.size=ops.length) (b:Region.ready .any ops.toArray listed= []):∀ k,k<ops.length->rE listed k=true:=by
 intro k
 induction k using Nat.strongRecOn with
 | _ k ih=>
  intro f;cases hd:rE listed k with
  |true=>rfl
  | false=>
   exfalso;have a:k ∈ Region.ready .any ops.toArray listed:=by
    simp only [Region.ready,Xvk,Yq5,Xzq];refine ⟨f, ?_⟩;have n:listed.getD k true=false:=by
     simp only [rE,Array.getD_eq_getD_getElem?] at hd ⊢;rw [Array.getElem?_eq_getElem (by omega)] at hd ⊢;simpa using hd
    have i:ops.toArray[k]? =some ops[k]:=by simp [f]
    rw [n,i];simp only [Bool.not_false,Bool.true_and,Xjo,Xw7,Array.all_eq_true',Xvj,Xqq];intro e o;cases c:Region.binds .any e with
    |false=>exact .inl rfl
    |true=>
     right;simp only [zV,Xj1] at h;have d:=h (ops[k],k) (by rw [Xzc];simp [f]) e (by simpa using o);rw [c] at d;simp only [Xwo,Xwp] at d;have l:=gX d;exact ih e.on l (by omega)
   rw [b] at a;cases a
theorem GM {ops:List Oper} {listed:Array Bool} (f:listed.size=ops.length) {i:Nat} (h:i ∈ Region.ready .any ops.toArray listed):∃ o,ops[i]? =some o/\rE listed i=false/\i<ops.length/\∀ e ∈ o.after,Region.binds .any e=true->rE listed e.on=true:=by
 simp only [Region.ready,Xvk,Yq5,Xzq,φ,Xqq] at h;obtain ⟨b,c,a⟩:=h;have j:ops.toArray[i]? =some ops[i]:=by simp [b]
 rw [j] at a;simp only [Xjo,Xw7,Array.all_eq_true',Xvj,Xqq] at a;refine ⟨ops[i],π b, ?_,b,λe k d=> ?_⟩
 .simp only [rE,Array.getD_eq_getD_getElem?] at c ⊢;rw [Array.getElem?_eq_getElem (by omega)] at c ⊢;simpa using c
 .rcases a e k with h|h
  .rw [d] at h;cases h
  .exact h
end
end AM
namespace AM
open Go
theorem WU {a b:Ez} {x:Nat} (h:x ∈ a.wt) (c:x ∈ b.rt):kQ a b=true:=by simp [kQ,sJ h c]
theorem MO {a b:Ez} {x:Nat} (h:x ∈ a.wt) (c:x ∈ b.wt):kQ a b=true:=by simp [kQ,sJ h c]
theorem WT {a b:Ez} {x:Nat} (h:x ∈ a.rt) (c:x ∈ b.wt):kQ a b=true:=by simp [kQ,sJ h c]
theorem Ux {a b:Ez} {x:Nat} (h:x ∈ a.wb) (c:x ∈ b.rb):kQ a b=true:=by simp [kQ,sJ h c]
theorem IZ {a b:Ez} {x:Nat} (h:x ∈ a.wb) (c:x ∈ b.wb):kQ a b=true:=by simp [kQ,sJ h c]
theorem Uw {a b:Ez} {x:Nat} (h:x ∈ a.rb) (c:x ∈ b.wb):kQ a b=true:=by simp [kQ,sJ h c]
theorem vP {d:Option Nat} {t:Nat} (h:d=some t):t ∈ RD d:=by subst h;simp [RD]
section
variable {P:Program} {ap:AP} {H:dD}
structure afk (ap:AP) (ops:List Oper) (recs:List uP) (e0:jq) (hp0:Hp) (dfs:List (Nat × List AV)) (nt:Nat) (m0:bg) (S0:aY) (w0:World) (listed:Array Bool) (m:bg) (S:aY) (w:World) (a:Act):Prop where
 sz:listed.size=ops.length
 cl:DW ops (rE listed)
 fr:Fr (aF hp0) m0 S0 w0 (aF (Aa (rE listed) 0 hp0 recs)) m S w
 rel:FR ap (rX (rE listed) 0 e0 recs) (Aa (rE listed) 0 hp0 recs) dfs nt m S w a
theorem Xf {ops:List Oper} {c:List uP} {s:RS} {A nt:Nat} (hnt:∀ o ∈ ops,∀ d,o.dst=some d->d<nt) (hlen:c.length=ops.length)
  (hbound:∀ (k:Nat) (r:uP),c[k]? =some r->∀ b ∈ r.ups.map (·.1),b<A+4*k+4)
  (hsem:∀ (k:Nat) (r:uP),c[k]? =some r->∃ o,ops[k]? =some o/\r.dst=o.dst/\∀ (D:Nat->Bool) m S w (a:Act),bZ ap (aF (Aa D 0 s.hp c)) m S w->(∀ t ∈ r.rt,VR (aF (Aa D 0 s.hp c)) m S ((Bg s.env (c.take k)).get t) (a.tmps.getD t undef))->
   (∀ b ∈ r.rb,aF (P_ s.hp (c.take k)) b=aF (Aa D 0 s.hp c) b)->(∀ j,j<4->aF (Aa D 0 s.hp c) (A+4*k+j)=none)->(∀ j,((Region.before ops.toArray).toList.getD j 0).testBit k=true->D j=false)->
   ∀ (Q:Exit->Act->World->Prop) (K:Act->World->Prop),aez ap o (aF (Aa D 0 s.hp c)) m S w a r.v r.ups [] Q K none->wpO P ops.toArray Q o K a w)
  (hord:JK A (λj i=>((Region.before ops.toArray).toList.getD j 0).testBit i) c) (hback:zV ops=true) (hn0:∀ b B,aF s.hp b=some B->b<A) {m0:bg} {S0:aY} {w0:World} {Q:Exit->Act->World->Prop}
  (hQ:∀ m S w a,Fr (aF s.hp) m0 S0 w0 (aF (P_ s.hp c)) m S w->FR ap (Bg s.env c) (P_ s.hp c) s.dfs nt m S w a->Q .normal a w):
  ∀ (n:Nat) (listed:Array Bool) (m:bg) (S:aY) (w:World) (a:Act),afk ap ops c s.env s.hp s.dfs nt m0 S0 w0 listed m S w a->KI ops.length (rE listed)<=n->wpAny P .any ops.toArray Q n listed a w:=by
 have hdone:∀ (listed:Array Bool) (m:bg) (S:aY) (w:World) (a:Act),afk ap ops c s.env s.hp s.dfs nt m0 S0 w0 listed m S w a->(∀ k,k<ops.length->rE listed k=true)->Q .normal a w:=by
  intro listed m S w a u y;have hh:∀ b,aF (P_ s.hp c) b=aF (Aa (rE listed) 0 s.hp c) b:=λb=>
   sG c 0 _ _ rfl λk r f _=>by rw [y (0+k) (by have:=(List.getElem?_eq_some_iff.1 f).1;omega)]
  have he:∀ t,(Bg s.env c).get t=(rX (rE listed) 0 s.env c).get t:=λt=>
   vk c 0 _ _ rfl λk r f _=>by rw [y (0+k) (by have:=(List.getElem?_eq_some_iff.1 f).1;omega)]
  have I:=funext hh;exact hQ m S w a (I ▸ u.fr) (u.rel.congr he I)
 intro n
 induction n with
 | zero=>
  intro listed m S w a u hm;have y:∀ k,k<ops.length->rE listed k=true:=by
   intro k f;cases hd:rE listed k with
   |true=>rfl
   |false=>
    have M:k ∈ (Xq7 ops.length).filter λi=> !rE listed i:=by simp [f,hd]
    have:(Xq7 ops.length).filter (λi=> !rE listed i)= []:=Xxz (Nat.le_zero.1 hm);rw [this] at M;cases M
  refine ⟨?_,hdone listed m S w a u y⟩;cases hr:Region.ready .any ops.toArray listed with
  |nil=>rfl
  |cons i r=>
   obtain ⟨o,_,p,h3,_⟩:=GM u.sz (i:=i) (by rw [hr];simp);rw [y i h3] at p;cases p
 | succ n ih=>
  intro listed m S w a u hm;refine ⟨λW=>hdone listed m S w a u (Y_ hback u.sz W),λi hi=> ?_⟩;obtain ⟨o,L,F,U,hedges⟩:=GM u.sz hi;have v:c[i]? =some c[i]:=π (by omega);generalize c[i]=r at v;obtain ⟨o',T,E,hstep⟩:=hsem i r v;rw [L] at T;cases T;have Z:i<listed.size:=by rw [u.sz];exact U
  have l:=aaV Z;have N:DW ops (rE (listed.setIfInBounds i true)):=by
   intro k o2 f hd e he z;rw [l] at hd ⊢;split
   .rfl
   .split at hd
    .rename_i C;subst C;rw [L] at f;cases f;exact hedges e he z
    .exact u.cl k o2 f hd e he z
  have R:∀ k q,c[k]? =some q->k<i->(kQ q.foot r.foot=true\/∃ x ∈ r.ups.map (·.1),A+4*k<=x/\x<A+4*k+4)->rE listed k=true:=by
   intro k q f C hc;have G:=hord.ok k i q r f v C hc;have p:=qU N (k:=i) (i:=k) (by rw [l,if_pos rfl]) G;rw [l,if_neg (by omega)] at p;exact p
  have hhigh:∀ k q,c[k]? =some q->i<k->(kQ r.foot q.foot=true\/∃ x ∈ q.ups.map (·.1),A+4*i<=x/\x<A+4*i+4)->rE listed k=false:=by
   intro k q f C hc;cases hd:rE listed k with
   |false=>rfl
   |true=>
    have G:=hord.ok i k r q v f C hc;have p:=qU u.cl hd G;rw [F] at p;cases p
  have O:∀ k q,c[k]? =some q->(k<i->kQ q.foot r.foot=true)->(i<k->kQ r.foot q.foot=true)->decide (k<i)=rE listed k:=by
   intro k q f G p;rcases Xze k i with h|h|h
   .rw [R k q f h (.inl (G h))];simp [h]
   .subst h;rw [F];simp
   .rw [hhigh k q f h (.inl (p h))];simp;omega
  have hagr':∀ k q,c[k]? =some q->(k<i->kQ q.foot r.foot=true)->(i<k->kQ r.foot q.foot=true)->rE (listed.setIfInBounds i true) k=decide (k<i+1):=by
   intro k q f G p;rw [l];rcases Xze k i with h|h|h
   .rw [if_neg (by omega),R k q f h (.inl (G h))];simp;omega
   .subst h;simp
   .rw [if_neg (by omega),hhigh k q f h (.inl (p h))];simp;omega
  have Y:∀ t ∈ r.rt,(Bg s.env (c.take i)).get t=(rX (rE listed) 0 s.env c).get t:=by
   intro t J;rw [<- J6];refine vk c 0 _ _ rfl λk q f hd=> ?_
   rw [Ψ];exact O k q f (λ_=>WU (vP hd) J) (λ_=>WT J (vP hd))
  have hhp:∀ b ∈ r.rb,aF (P_ s.hp (c.take i)) b=aF (Aa (rE listed) 0 s.hp c) b:=by
   intro b z;rw [<- P9];refine sG c 0 _ _ rfl λk q f hd=> ?_
   rw [Ψ];exact O k q f (λ_=>Ux hd z) (λ_=>Uw z hd)
  have hfresh:∀ j,j<4->aF (Aa (rE listed) 0 s.hp c) (A+4*i+j)=none:=by
   intro j hj;have G:aF (Aa (rE listed) 0 s.hp c) (A+4*i+j)=aF (Aa (λ_=>false) 0 s.hp c) (A+4*i+j):=by
    refine sG c 0 _ _ rfl λk q f hd=> ?_
    rw [Ψ];have z:=hbound k q f _ hd;rcases Xze k i with h|h|h
    .omega
    .subst h;exact F
    .exact hhigh k q f h (.inr ⟨_,hd,by omega,by omega⟩)
   rw [G,vK c 0 _ (λ_ _=>rfl)];cases z:aF s.hp (A+4*i+j) with
   |none=>rfl
   |some B=>have:=hn0 _ _ z;omega
  have V:ops.toArray[i]? =some o:=by simpa using L
  have hgoal:wpO P ops.toArray Q o (wpAny P .any ops.toArray Q n (listed.setIfInBounds i true)) a w:=by
   refine hstep (rE listed) m S w a u.rel.srel (λt J=>by rw [Y t J];exact u.rel.env t) hhp hfresh (λj hj=>by
    cases hd:rE listed j with
    |false=>rfl
    |true=>
     have p:=qU u.cl hd hj;rw [F] at p;cases p) Q _ ?_
   intro cv m' S' w' ds G p h3 h4;have hF:=u.rel.put (hnt o (Xql L)) G p h3 h4;rw [kV] at p;rw [Xqi] at hF;have he':∀ t,(rX (rE (listed.setIfInBounds i true)) 0 s.env c).get t=(rq (rX (rE listed) 0 s.env c) o.dst r.v).get t:=by
    intro t;by_cases J:o.dst=some t
    .have h5:(rX (rE (listed.setIfInBounds i true)) 0 s.env c).get t=(rX (λj=>decide (j<i+1)) 0 s.env c).get t:=by
      refine vk c 0 _ _ rfl λk q f hd=> ?_
      rw [Ψ];have X:t ∈ r.foot.wt:=vP (E.trans J);exact hagr' k q f (λ_=>MO (vP hd) X) (λ_=>MO X (vP hd))
     rw [h5,J6,UK _ _ _ _ v,E,J,nJ,nJ]
    .rw [zY J];refine vk c 0 _ _ rfl λk q f hd=> ?_
     rw [Ψ,l,if_neg]
     rintro rfl
     rw [v] at f;cases f;exact J (E ▸ hd)
   have I:aF (Aa (rE (listed.setIfInBounds i true)) 0 s.hp c)=aF (r.ups++Aa (rE listed) 0 s.hp c):=by
    funext b;by_cases z:b ∈ r.ups.map (·.1)
    .have h5:aF (Aa (rE (listed.setIfInBounds i true)) 0 s.hp c) b=aF (Aa (λj=>decide (j<i+1)) 0 s.hp c) b:=by
      refine sG c 0 _ _ rfl λk q f hd=> ?_
      rw [Ψ];exact hagr' k q f (λ_=>IZ hd z) (λ_=>IZ z hd)
     rw [h5,P9,X5 _ _ _ _ v];exact Af z
    .rw [Ag z];refine sG c 0 _ _ rfl λk q f hd=> ?_
     rw [Ψ,l,if_neg]
     rintro rfl
     rw [v] at f;cases f;exact z hd
   refine ih _ m' S' w' _ ⟨by rw [Array.size_setIfInBounds];exact u.sz,N, ?_,hF.congr he' I⟩ ?_
   .rw [I];exact u.fr.trans p
   .have:=Dl F l (Xq7 ops.length) Xwd (by simp [U]);simp only [KI] at hm ⊢;omega
  simp only [wpOp,V];exact hgoal
theorem Xe {ops:List Oper} {c:List uP} {s s':RS} {p nt:Nat} (q:∀ o ∈ ops,∀ d,o.dst=some d->d<nt) (f:c.length=ops.length) (e:Wu P ap ops 0 p s s' c) (t:s'.dfs.length=s.dfs.length)
  (hord:JK p (λj i=>((Region.before ops.toArray).toList.getD j 0).testBit i) c) (hback:zV ops=true) (hn0:∀ b B,aF s.hp b=some B->b<p) {m0:bg} {S0:aY} {w0:World} {Q:Exit->Act->World->Prop}
  (hQ:∀ m S w a,Fr (aF s.hp) m0 S0 w0 (aF (P_ s.hp c)) m S w->FR ap (Bg s.env c) (P_ s.hp c) s.dfs nt m S w a->Q .normal a w):
  ∀ (fuel:Nat) (listed:Array Bool) (m:bg) (S:aY) (w:World) (a:Act),afk ap ops c s.env s.hp s.dfs nt m0 S0 w0 listed m S w a->KI ops.length (rE listed)<=fuel->wpAny P .any ops.toArray Q fuel listed a w:=by
 obtain ⟨_,h⟩:=e.sem t;refine Xf q f e.bound (λk r E=> ?_) hord hback hn0 hQ;obtain ⟨o,u,v,z⟩:=h k r E;rw [Ψ] at u;exact ⟨o,u,v,λD m S w a C A l n _ Q K y=>z _ m S w a C A (λb x B F=>by rw [<- l b x];exact F) n Q K y⟩
def qx (ap:AP) (base:Nat) (keep:List Nat) (hp0:Hp) (m:bg) (S:aY) (w:World) (nt:Nat) (s':St) (Q:Exit->Act->World->Prop):bI->Prop
 | .panic v=>match (eQ v).isEmpty with
  |true=> ∀ s1:St,s'=norm base keep s1->zo ap hp0 m S w nt s1.env s1.hp s1.dfs Q (some v)
  |false=>zo ap hp0 m S w nt s'.env s'.hp s'.dfs Q (some v)
 | .normal=> ∀ s1:St,s'=norm base keep s1->zo ap hp0 m S w nt s1.env s1.hp s1.dfs Q none
 |_=>True
theorem Lj (A:jm P ap) (I:P.follows .mixedOrders=true) (J:nV P ap H) {ops:List Oper} {l:Bool} {nt base:Nat} {keep:List Nat} (z:∀ o ∈ ops,∀ d,o.dst=some d->d<nt) {s:St} {e:bI} {s':St} {c T:Cx} {id:Nat}
  (h:Lh ap H base keep ops l s c= .ok (e,s') T) (hc:T.Ok):c.Ok/\(s.md= .dead->s'.md= .dead/\(∀ m S w a,FR ap s.env s.hp s.dfs nt m S w a->∀ Q,
   qx ap base keep s.hp m S w nt s' Q e->(Code.region id ops.toArray l).wp P Q a w)):=by
 unfold Lh at h;obtain ⟨⟨Z,p⟩,c1,K,h⟩:=R.bind_ok h;dsimp only at h;have y:∀ b B,aF s.hp b=some B->b<lK s.hp:=λb B q=>w_ q
 cases p with
 | some v=>
  cases l with
  |true=>cases h
  | false=>
   dsimp only at h;split at h
   .rename_i E;cases h;obtain ⟨f,hs⟩:=oP A J z ops 0 _ _ _ _ _ _ K hc;refine ⟨f,λi=> ?_⟩;obtain ⟨u,D⟩:=hs i (λt b q=>by cases q) rfl y;refine ⟨u,λm S w a j Q x=>wp_region ?_⟩;simp only [qx,E] at x;have:=D m S w a j Q (x _ rfl);rw [<- Xwc] at this;simpa using this
   .rename_i E;cases h;obtain ⟨f,hs⟩:=oP A J z ops 0 _ _ _ _ _ _ K hc;refine ⟨f,λi=> ?_⟩;obtain ⟨u,D⟩:=hs i (λt b q=>by cases q) rfl y;refine ⟨u,λm S w a j Q x=>wp_region ?_⟩;simp only [qx,E] at x;have:=D m S w a j Q x;rw [<- Xwc] at this;simpa using this
 | none=>
  dsimp only at h;split at h
  .rename_i hcond;cases h;cases l with
   |false=>
    obtain ⟨f,hs⟩:=oP A J z ops 0 _ _ _ _ _ _ K hc;refine ⟨f,λi=> ?_⟩;obtain ⟨u,D⟩:=hs i (λt b q=>by cases q) rfl y;refine ⟨u,λm S w a j Q x=>wp_region ?_⟩;have:=D m S w a j Q (x _ rfl);rw [<- Xwc] at this;simpa using this
   | true=>
    obtain ⟨f,hs⟩:=aff A J ops 0 _ _ _ _ _ K hc;refine ⟨f,λi=> ?_⟩;obtain ⟨u,r,G,n⟩:=hs i (λt b q=>by cases q) rfl;refine ⟨u,λm S w a j Q x=>wp_region_any I ?_⟩;simp only [Xwo,Xwp,φ] at hcond;obtain ⟨⟨V,hback⟩,C⟩:=hcond;have C:=aP C;rw [n.feet,List.append_nil] at V;have L:=x _ rfl;have N:=(n.sem C).1;have F:rE (Array.replicate ops.length false)=λ_=>false:=by
     funext k;simp only [rE,Array.getD_eq_getD_getElem?];by_cases U:k<ops.length<;>simp [U]
    have O:ops.toArray.size=ops.length:=by simp
    rw [O];refine Xe z G n C (Qs V) hback y (m0:=m) (S0:=S) (w0:=w) (Q:=Q) ?_ ops.length _ m S _ a ⟨by simp, ?_, ?_, ?_⟩ ?_
    .intro Y S' w' X M W;refine L Y S' w' X ?_ ?_
     .rw [n.hp];exact M
     .rw [n.hp,n.env,N];exact W
    .intro k o U hd;rw [F] at hd;cases hd
    .rw [F,vK r 0 _ (λ_ _=>rfl)];exact ⟨Ge.refl _ _,qj.refl _,rfl,rfl,rfl,χ _,λ_ _ _=>rfl,λ_ B h=> .inr ⟨B,h,rfl⟩,λ_ _ _ h=> .inl h⟩
    .rw [F,vK r 0 _ (λ_ _=>rfl),Bf r 0 _ (λ_ _=>rfl)];exact ⟨⟨j.srel.inj,λb B q=>j.srel.blk b B q|>λ⟨u,D,M⟩=> ⟨u,D,M⟩,j.srel.sealed,j.srel.own,j.srel.glob⟩,j.env,j.dfs,j.size⟩
    .exact Xxg (List.length_filter_le _ _) (by simp)
  .cases h
end
end AM
namespace AM
open Go
def DK (acc:List Nat) (b:Nat):List Nat:=if uh acc b then acc else acc++ [b]
theorem Uj (a:List Nat) (b:Nat) (h:a.Nodup):(DK a b).Nodup/\∃ t,DK a b=a++t:=by
 unfold DK;split
 .exact ⟨h,[],by simp⟩
 .rename_i f;refine ⟨?_,[b],rfl⟩;rw [List.nodup_append];refine ⟨h,by simp, ?_⟩;intro x d y c e;simp at c;subst c;subst e;exact f (kw.2 d)
theorem qB:∀ (l a:List Nat),a.Nodup->(l.foldl DK a).Nodup/\∃ t,l.foldl DK a=a++t
 | [],a,h=> ⟨h,[],by simp⟩
 |b::r,a,h=>by
  simp only [Xjx];obtain ⟨f,i,c⟩:=Uj a b h;obtain ⟨d,j,e⟩:=qB r _ f;exact ⟨d,i++j,by rw [e,c,υ]⟩
theorem EI:∀ (l a:List Nat),l.Nodup->(∀ x ∈ l,x ∉ a)->l.foldl DK a=a++l
 | [],a,_,_=>by simp
 | b::r,a,h,hd=>by
  rw [Xkl] at h;have e:uh a b=false:=by
   cases c:uh a b with
   |false=>rfl
   |true=>exact absurd (kw.1 c) (hd b (by simp))
  simp only [Xjx];have:DK a b=a++ [b]:=by simp [DK,e]
  rw [this,EI r _ h.2]
  .simp
  .intro x d c;rcases List.mem_append.1 c with c|c
   .exact hd x (by simp [d]) c
   .simp at c;subst c;exact h.1 d
theorem Va (l:List Nat):jG l=l.foldl DK []:=rfl
theorem Qp (n:Nat) (l:List Nat):(jG (Xq7 n++l)).Nodup/\∃ t,jG (Xq7 n++l)=Xq7 n++t:=by
 rw [Va,List.foldl_append,EI (Xq7 n) [] Xwd (by simp),Xqi];exact qB l _ Xwd
theorem u_ (rd:dO):∀ (n:Nat) (l:List Nat),l.Nodup->(uN rd n l).Nodup/\∃ t,uN rd n l=l++t
 |0,l,h=> ⟨h,[],by simp [uN]⟩
 | n+1,l,h=>by
  simp only [uN];split
  .exact ⟨h,[],by simp⟩
  .obtain ⟨e,f,a⟩:=qB (l.flatMap λb=>match rd b with|some B=>(match B.pr with|true=> []|false=>bW B.cells)|none=> []) l h;obtain ⟨c,i,d⟩:=u_ rd n _ e;refine ⟨c,f++i, ?_⟩;exact d.trans (by rw [a,υ])
theorem Jk {f:Nat->AV}:∀ (keep:List Nat) (t:Nat),aF (keep.map λt=>(t,f t)) t=if t ∈ keep then some (f t) else none
 | [],t=>by simp [aF]
 | a::r,t=>by
  simp only [Xqg,aF,Jk r t];cases h:Xqn a t with
  |true=>have:=aP h;subst this;simp
  |false=>
   have b:t ≠ a:=by intro e;subst e;simp at h
   simp [b]
theorem Dh {rd:dO} {mk:Nat->bu->bu}:∀ (ids:List Nat) (j p:Nat),aF ((ids.zipIdx j).filterMap λ(b,p)=>(rd b).map λB=>(p,mk p B)) p=if j<=p then (ids[p - j]?).bind λb=>(rd b).map (mk p) else none
 | [],j,p=>by simp [aF]
 | a ::r,j,p=>by
  have f:=Dh (rd:=rd) (mk:=mk) r (j+1) p;rw [List.zipIdx_cons];cases c:rd a with
  | none=>
   rw [Xvy (by simp [c]),f];by_cases hj:j+1<=p
   .rw [if_pos hj,if_pos (by omega)];obtain ⟨d,hd⟩:∃ d,p - j=d+1:=⟨p - j - 1,by omega⟩
    rw [hd,Xzb,show p - (j+1)=d by omega]
   .rw [if_neg hj];by_cases hjp:j<=p
    .rw [if_pos hjp,show p - j=0 by omega];simp [c]
    .rw [if_neg hjp]
  | some B=>
   rw [Xvz (by simp [c];rfl)];simp only [aF];cases h:Xqn j p with
   |true=>have:=aP h;subst this;simp [c]
   | false=>
    have i:j ≠ p:=by intro e;subst e;simp at h
    simp only [f];by_cases hj:j+1<=p
    .rw [if_pos hj,if_pos (by omega)];obtain ⟨d,hd⟩:∃ d,p - j=d+1:=⟨p - j - 1,by omega⟩
     rw [hd,Xzb,show p - (j+1)=d by omega]
    .rw [if_neg hj,if_neg (by omega)]
theorem Jq:∀ {l:List Nat},l.Nodup->uk l=true
 | [],_=>rfl
 |b::r,h=>by
  rw [Xkl] at h;simp only [uk,φ,Xqq];refine ⟨?_,Jq h.2⟩;cases a:uh r b with
  |false=>rfl
  |true=>exact absurd (kw.1 a) h.1
section
variable {P:Program} {ap:AP} {H:dD}
theorem L8 {g g':dO} {m c:bg} {S S':aY} {ρ:Nat->Nat->Option (Nat × Nat)} (b:qj S S') (h:uG g m g' c ρ):∀ {l:List (Nat × List AV)} {ds:List Deferred},iH g m S l ds->iH g' c S' (l.map λd=>(d.1,nZ ρ d.2)) ds
 | [],[],_=>by simp [iH]
 |d::r,cd::cr,p=>by
  simp only [iH] at p;obtain ⟨⟨a,i,e⟩,f⟩:=p;simp only [Xqg,iH];exact ⟨⟨a,i,lm b h _ e⟩,L8 b h f⟩
 | [],_::_,p=>by simp [iH] at p
 |_::_,[],p=>by simp [iH] at p
theorem ul {c:List bu} {keep:List Nat} {s:St} {nt:Nat} {m m0:bg} {S S0:aY} {w w0:World} {a:Act} (f:Fr (bK c) m0 S0 w0 (aF s.hp) m S w) (D:FR ap s.env s.hp s.dfs nt m S w a):
  ∃ m',Fr (bK c) m0 S0 w0 (aF (norm c.length keep s).hp) m' S w/\FR ap (norm c.length keep s).env (norm c.length keep s).hp (norm c.length keep s).dfs nt m' S w a:=by
 obtain ⟨_,t0,W⟩:=u_ (aF s.hp) 20 (Xq7 c.length) Xwd;generalize hroots:t0++(E_ keep s.env++s.dfs.flatMap (λd=>bW d.2))=roots;have hroots':uN (aF s.hp) 20 (Xq7 c.length)++E_ keep s.env++s.dfs.flatMap (λd=>bW d.2)=Xq7 c.length++roots:=by rw [<- hroots,W];simp only [υ]
 obtain ⟨U,t1,K⟩:=Qp c.length roots;obtain ⟨V,t2,L⟩:=u_ (aF s.hp) 20 _ U;rw [K,υ] at L;have hsome:∀ b,b<c.length->∃ B0 B,bK c b=some B0/\aF s.hp b=some B/\B.esz=B0.esz/\((B.ver=B0.ver/\m b=m0 b)\/B0.ver<B.ver):=by
  intro b A;obtain ⟨B,l,u⟩:=f.ge b c[b] (by simp [bK,A]);exact ⟨c[b],B,by simp [bK,A],l,u⟩
 generalize n:(uN (aF s.hp) 20 (jG (Xq7 c.length++roots))).filter (λb=>(aF s.hp b).isSome)=ids;have X:ids.Nodup:=by rw [<- n];exact V.filter _
 have G:=Jq X;have y:∃ t,ids=Xq7 c.length++t:=by
  rw [<- n,K,L,List.filter_append];refine ⟨_,congrArg (· ++_) ?_⟩;rw [List.filter_eq_self];intro b A;obtain ⟨_,B,_,u,_⟩:=hsome b (by simpa using A);simp [u]
 obtain ⟨t,y⟩:=y;have z:∀ b,b<c.length->ids[b]? =some b:=by
  intro b A;rw [y,Xxh (by simpa using A)];simp [A]
 have J:∀ (p b:Nat),ids[p]? =some b->∃ B,aF s.hp b=some B:=by
  intro p b hp;have:=Xql hp;rw [<- n,Xvk] at this;exact Option.isSome_iff_exists.1 this.2
 let ρ:Nat->Nat->Option (Nat × Nat):=λb v=>match aF s.hp b with
  |some B=>match Xqn B.ver v with
   |true=>(qX ids b).map λp=>(p,match Xjj p c.length with|true=>v|false=>0)
   |false=>none
  |none=>none
 let mk:Nat->bu->bu:=λp B=> {B with cells:=(match B.pr with|true=>B.cells|false=>nZ ρ B.cells),ver:=match Xjj p c.length with|true=>B.ver|false=>0}
 have hnorm:norm c.length keep s=⟨keep.map λt=>(t,ren ρ (s.env.get t)),ids.zipIdx.filterMap λ(b,p)=>(aF s.hp b).map λB=>(p,mk p B),s.md,s.dfs.map λd=>(d.1,nZ ρ d.2)⟩:=by
  unfold norm;simp only [hroots',n];rfl
 rw [hnorm];dsimp only;have C:∀ p,aF (ids.zipIdx.filterMap λ(b,p)=>(aF s.hp b).map λB=>(p,mk p B)) p=(ids[p]?).bind λb=>(aF s.hp b).map (mk p):=by
  intro p;rw [Dh (rd:=aF s.hp) (mk:=mk) ids 0 p,if_pos (Xxr _),Nat.sub_zero]
 generalize (ids.zipIdx.filterMap λ(b,p)=>(aF s.hp b).map λB=>(p,mk p B))=hp2 at C;have j:∀ (p:Nat) (B2:bu),aF hp2 p=some B2->∃ b B,ids[p]? =some b/\aF s.hp b=some B/\B2=mk p B:=by
  intro p B2 h;rw [C] at h;cases hp:ids[p]? with
  |none=>rw [hp] at h;cases h
  |some b=>
   rw [hp] at h;obtain ⟨B,N⟩:=J p b hp;simp only [Xw9,N,Xjo,Option.some.injEq] at h;exact ⟨b,B,rfl,N,h.symm⟩
 let m2:bg:=λp=>m (ids.getD p 0)
 have k:∀ (p b:Nat),ids[p]? =some b->m2 p=m b:=by
  intro p b hp;show m (ids.getD p 0)=_;rw [ξ,hp];rfl
 have x:uG (aF s.hp) m (aF hp2) m2 ρ:=by
  intro b ver p Z h B N hver;simp only [ρ,N] at h;split at h
  .rename_i I;have I:=aP I;simp only [Xqs,Prod.mk.injEq] at h;obtain ⟨q,F,rfl,rfl⟩:=h;have F:=sH F;refine ⟨mk q B, ?_, ?_,λ_=> ⟨I,k q b F,rfl⟩⟩
   .rw [C,F];simp [N]
   .simp only [mk];split
    .omega
    .exact χ _
  .cases h
 have E:∀ (p q b:Nat),ids[p]? =some b->ids[q]? =some b->p=q:=by
  intro p q b hp F;have Y:=qI G hp;rw [qI G F] at Y;cases Y;rfl
 refine ⟨m2, ?_, ?_, ?_, ?_,D.size⟩
 .refine ⟨?_,f.sle,f.os,f.tape,f.output,f.size,f.rest, ?_,f.sealN⟩
  .intro b B0 A;have r:b<c.length:=(List.getElem?_eq_some_iff.1 A).1;obtain ⟨B0',B,l,u,O,Q⟩:=hsome b r;rw [A] at l;cases l;have R:Xjj b c.length=true:=Xqe r;refine ⟨mk b B,by rw [C,z b r];simp [u],O, ?_⟩;simp only [mk,R];rw [k b b (z b r)];exact Q
  .intro p B2 hp;obtain ⟨b,B,l,u,rfl⟩:=j p B2 hp;rw [k p b l];rcases f.img b B u with h|⟨B0,O,Q⟩
   .exact .inl h
   .have r:b<c.length:=(List.getElem?_eq_some_iff.1 O).1;have:=E p b b l (z b r);subst this;exact .inr ⟨B0,O,Q⟩
 .refine ⟨?_, ?_,D.srel.sealed, ?_,D.srel.glob⟩
  .intro p q B2 B2' hp F e;obtain ⟨b,B,l,u,rfl⟩:=j p B2 hp;obtain ⟨b',B',M,T,rfl⟩:=j q B2' F;rw [k p b l,k q b' M] at e;have:=D.srel.inj b b' B B' u T e;subst this;exact E p q b l M
  .intro p B2 hp;obtain ⟨b,B,l,u,rfl⟩:=j p B2 hp;rw [k p b l];obtain ⟨⟨cur,e,vs,rest,k1,k2,k3,k4,k5,k6⟩,k7,k8⟩:=D.srel.blk b B u;cases i:B.pr with
   |true=>exact ⟨⟨cur,e,vs,rest,k1,k2,λ_=>by simpa [mk,i] using k3 i,by simpa [mk,i] using cO _ (k3 i),k5,k6⟩,k7,by simpa [mk,i] using k8⟩
   | false=>
    have I:=lm (qj.refl S) x _ k4;exact ⟨⟨cur,e,vs,rest,k1,k2,λh=>by simp [mk,i] at h,by simpa [mk,i] using I,k5,k6⟩,k7,by
     have:(mk p B).cells.length=B.cells.length:=by simp only [mk,i];rw [b_ k4,b_ I]
     rw [this];exact k8⟩
  .intro p B2 hp o v ho;obtain ⟨b,B,l,u,rfl⟩:=j p B2 hp;rw [k p b l] at ho;exact D.srel.own b B u o v ho
 .intro t;simp only [jq.get,Jk];by_cases ht:t ∈ keep
  .rw [if_pos ht];exact AZ (qj.refl S) x _ (D.env t)
  .rw [if_neg ht];simp [VR]
 .exact L8 (qj.refl S) x D.dfs
end
end AM
namespace AM
open Go
mutual
theorem zt {g g':dO} {m n:bg} {S S':aY} (i:qj S S'):∀ (x:AV) {v:Value},(∀ b ∈ eQ x,g' b=g b/\n b=m b)->VR g m S x v->VR g' n S' x v
 | .int _ _,_,_,p=>by simpa only [VR,PR] using p
 | .bool _,_,_,p=>by simpa only [VR,PR] using p
 | .str _,_,_,p=>by simpa only [VR,PR] using p
 | .nilS,_,_,p=>by simpa only [VR,PR] using p
 | .nilP,_,_,p=>by simpa only [VR,PR] using p
 | .nilF,_,_,p=>by simpa only [VR,PR] using p
 | .nilI,_,_,p=>by simpa only [VR,PR] using p
 | .sl _ _ _,_,_,p=>by simp only [VR] at p ⊢;exact dF i _ p
 | .pp _ _,_,_,p=>by simp only [VR] at p ⊢;exact dF i _ p
 | .mp _ _,_,_,p=>by simp only [VR] at p ⊢;exact dF i _ p
 | .dead,_,_,_=>by simp only [VR]
 | .own _ _ _,_,_,p=>by simp only [VR] at p
 | .ref b _ _ _,_,h,p=>by
  obtain ⟨k,j⟩:=h b (by simp [eQ]);simp only [VR] at p ⊢;rw [k,j];exact p
 | .ptr b _ _,_,h,p=>by
  obtain ⟨k,j⟩:=h b (by simp [eQ]);simp only [VR] at p ⊢;rw [k,j];exact p
 | .mr b _,_,h,p=>by
  obtain ⟨k,j⟩:=h b (by simp [eQ]);simp only [VR] at p ⊢;rw [k,j];exact p
 | .agg l,_,h,p=>by
  simp only [VR] at p ⊢;obtain ⟨vs,e,q⟩:=p;exact ⟨vs,e,oJ i l (λb d=>h b (by simpa [eQ] using d)) q⟩
 | .tup l,_,h,p=>by
  simp only [VR] at p ⊢;obtain ⟨vs,e,q⟩:=p;exact ⟨vs,e,oJ i l (λb d=>h b (by simpa [eQ] using d)) q⟩
 | .fn f a c,_,h,p=>by
  simp only [VR] at p ⊢;obtain ⟨s,o,e,q,r⟩:=p;exact ⟨s,o,e,oJ i a (λb d=>h b (by simp [eQ,d])) q,oJ i c (λb d=>h b (by simp [eQ,d])) r⟩
 | .ifc t x,_,h,p=>by
  simp only [VR] at p ⊢;obtain ⟨u,e,q⟩:=p;exact ⟨u,e,zt i x (λb d=>h b (by simpa [eQ] using d)) q⟩
theorem oJ {g g':dO} {m d:bg} {S S':aY} (c:qj S S'):∀ (l:List AV) {vs:List Value},(∀ b ∈ bW l,g' b=g b/\d b=m b)->bC g m S l vs->bC g' d S' l vs
 | [],[],_,_=>by simp only [bC]
 |x::r,v::vs,h,p=>by
  simp only [bC] at p ⊢;exact ⟨zt c x (λb a=>h b (by simp [bW,a])) p.1,oJ c r (λb a=>h b (by simp [bW,a])) p.2⟩
 | [],_::_,_,p=>by simp [bC] at p
 |_::_,[],_,p=>by simp [bC] at p
end
theorem ou {g:dO} {m:bg} {S:aY} {x:AV} {v:Value} (h:(eQ x).isEmpty=true) (c:VR g m S x v):PR S x v:=by
 have d:eQ x= []:=by simpa using h
 exact oW (m:=m) x (zt (qj.refl S) x (λb a=>by rw [d] at a;cases a) c)
def Rz (nt:Nat) (o:Oper):Bool:=match o.dst with|some d=>Xjj d nt|none=>true
def dU (nt:Nat):Code->Bool
 | .region _ ops _=>ops.toList.all (Rz nt)
 | .seq a b=>dU nt a && dU nt b
 | .cond _ a b=>dU nt a && dU nt b
 | .block _ b=>dU nt b
 | .loop b=>dU nt b
 | .scope b=>dU nt b
 |_=>true
section
variable {P:Program} {ap:AP} {H:dD}
def Wj (hp:Hp) (m:bg) (S:aY) (Q:Exit->Act->World->Prop) (a:Act) (w:World):bI->Prop
 | .normal=>Q .normal a w
 | .exit id=>Q (.exit id) a w
 | .ret=>Q .ret a w
 | .panic v=> ∀ cv,VR (aF hp) m S v cv->Q (.panic [{v:=cv,recovered:=false}]) a w
def XA (ap:AP) (h0:List bu) (m0:bg) (S0:aY) (w0:World) (nt:Nat) (s':St) (e:bI) (Q:Exit->Act->World->Prop):Prop:=
 ∀ m' S' w' a',Fr (bK h0) m0 S0 w0 (aF s'.hp) m' S' w'->FR ap s'.env s'.hp s'.dfs nt m' S' w' a'->Wj s'.hp m' S' Q a' w' e
def aj (P:Program) (ap:AP) (h0:List bu) (nt:Nat) (code:Code) (s:St) (e:bI) (s':St):Prop:=
 s.md= .dead->s'.md= .dead/\∀ m0 S0 w0 m S w a,Fr (bK h0) m0 S0 w0 (aF s.hp) m S w->FR ap s.env s.hp s.dfs nt m S w a->∀ Q,XA ap h0 m0 S0 w0 nt s' e Q->code.wp P Q a w
theorem aj.still {f:List bu} {nt:Nat} {b:Code} {s:St} {e:bI} (h:∀ (Q:Exit->Act->World->Prop) hp m S a w,Wj hp m S Q a w e->b.wp P Q a w):aj P ap f nt b s e s:=
 λc=> ⟨c,λ_ _ _ m S w a i d Q j=>h Q s.hp m S a w (j m S w a i d)⟩
theorem FI {k:List bu} {nt:Nat} {b:Code} {f:St->Cx->R (bI × St)} (t:∀ s e s' c c',f s c= .ok (e,s') c'->c'.Ok->c.Ok/\aj P ap k nt b s e s'):
  ∀ (n:Nat) (s:St) (e:bI) (s':St) (c c':Cx),Sl f n s c= .ok (e,s') c'->c'.Ok->c.Ok/\(s.md= .dead->s'.md= .dead/\∀ m0 S0 w0 m S w a,Fr (bK k) m0 S0 w0 (aF s.hp) m S w->FR ap s.env s.hp s.dfs nt m S w a->∀ Q,XA ap k m0 S0 w0 nt s' e Q->Code.rounds P b Q n a w)
 |0,s,e,s',c,c',h,hc=>by cases h
 | n+1,s,e,s',c,c',h,hc=>by
  simp only [Sl] at h;obtain ⟨⟨z,D⟩,F,E,h⟩:=R.bind_ok h;dsimp only at h;have hother:z ≠ .normal->R.ok (z,D) F=R.ok (e,s') c'->c.Ok/\(s.md= .dead->s'.md= .dead/\∀ m0 S0 w0 m S w a,Fr (bK k) m0 S0 w0 (aF s.hp) m S w->FR ap s.env s.hp s.dfs nt m S w a->∀ Q,XA ap k m0 S0 w0 nt s' e Q->Code.rounds P b Q (n+1) a w):=by
   intro o J;cases J;obtain ⟨i,C⟩:=t _ _ _ _ _ E hc;refine ⟨i,λj=> ?_⟩;obtain ⟨p,q⟩:=C j;refine ⟨p,λm0 S0 w0 m S w a d l Q y=>q m0 S0 w0 m S w a d l _ ?_⟩;intro B S' w' A u r;have:=y B S' w' A u r;cases e with
   |normal=>exact absurd rfl o
   |exit id=>exact this
   |ret=>exact this
   |panic v=>exact this
  cases z with
  |normal=>
   dsimp only at h;obtain ⟨x,G⟩:=FI t n D e s' F c' h hc;obtain ⟨i,C⟩:=t _ _ _ _ _ E x;refine ⟨i,λj=> ?_⟩;obtain ⟨p,q⟩:=C j;obtain ⟨u,r⟩:=G p;refine ⟨u,λm0 S0 w0 m S w a d l Q y=>q m0 S0 w0 m S w a d l _ ?_⟩;intro B S' w' A K I;exact r m0 S0 w0 B S' w' A K I Q y
  |exit id=>exact hother (by simp) h
  |ret=>exact hother (by simp) h
  |panic v=>exact hother (by simp) h
theorem fF (q:jm P ap) (i:P.follows .mixedOrders=true) (J:nV P ap H) {U:List bu} {keep:List Nat} {lf nt:Nat}:∀ (code:Code),dU nt code=true->∀ (s:St) (e:bI) (s':St) (c p:Cx),l_ ap H U.length keep lf code s c= .ok (e,s') p->p.Ok->c.Ok/\aj P ap U nt code s e s'
 | .skip,_,s,e,s',c,p,h,n=>by
  cases h;exact ⟨n,aj.still λQ hp m S a w r=>wp_skip r⟩
 | .label l,_,s,e,s',c,p,h,n=>by
  cases h;exact ⟨n,aj.still λQ hp m S a w r=>wp_label r⟩
 | .exit id,_,s,e,s',c,p,h,n=>by
  cases h;exact ⟨n,aj.still λQ hp m S a w r=>wp_exit r⟩
 | .ret,_,s,e,s',c,p,h,n=>by
  cases h;exact ⟨n,aj.still λQ hp m S a w r=>wp_ret r⟩
 | .region id ops draw,hd,s,e,s',c,p,h,n=>by
  have hnt:∀ o ∈ ops.toList,∀ d,o.dst=some d->d<nt:=by
   intro o ho d hod;have:=List.all_eq_true.1 hd o ho;simp only [Rz,hod] at this;exact gX this
  obtain ⟨j,hr⟩:=Lj q i J hnt (id:=id) h n;refine ⟨j,λk=> ?_⟩;obtain ⟨I,h2⟩:=hr k;refine ⟨I,λm0 S0 w0 m S w a f A Q E=> ?_⟩;have:=h2 m S w a A Q;rw [Array.toArray_toList] at this;refine this ?_;cases e with
  |normal=>
   intro V T G S' w' F B C;obtain ⟨m2,u,D⟩:=ul (keep:=keep) (f.trans B) C;rw [<- T] at u D;exact E m2 S' w' F u D
  | panic v=>
   simp only [qx];split
   .rename_i hre;intro V T G S' w' F cv B C u;obtain ⟨m2,D,Y⟩:=ul (keep:=keep) (f.trans B) C;rw [<- T] at D Y;exact E m2 S' w' F D Y cv (iU _ (ou hre u))
   .intro G S' w' F cv B C u;exact E G S' w' F (f.trans B) C cv u
  |exit id=>trivial
  |ret=>trivial
 | .seq x y,hd,s,e,s',c,p,h,n=>by
  simp only [dU,φ] at hd;simp only [l_] at h;obtain ⟨⟨O,V⟩,N,I,h⟩:=R.bind_ok h;dsimp only at h;have hother:O ≠ .normal->R.ok (O,V) N=R.ok (e,s') p->c.Ok/\aj P ap U nt (.seq x y) s e s':=by
   intro M W;cases W;obtain ⟨j,L⟩:=fF q i J x hd.1 _ _ _ _ _ I n;refine ⟨j,λk=> ?_⟩;obtain ⟨B,C⟩:=L k;refine ⟨B,λm0 S0 w0 m S w a f A Q E=>wp_seq (C m0 S0 w0 m S w a f A _ ?_)⟩;intro G S' w' F u D;have:=E G S' w' F u D;cases e with
   |normal=>exact absurd rfl M
   |exit id=>exact this
   |ret=>exact this
   |panic v=>exact this
  cases O with
  |normal=>
   dsimp only at h;obtain ⟨K,ih⟩:=fF q i J y hd.2 _ _ _ _ _ h n;obtain ⟨j,L⟩:=fF q i J x hd.1 _ _ _ _ _ I K;refine ⟨j,λk=> ?_⟩;obtain ⟨B,C⟩:=L k;obtain ⟨u,D⟩:=ih B;refine ⟨u,λm0 S0 w0 m S w a f A Q E=>wp_seq (C m0 S0 w0 m S w a f A _ ?_)⟩;intro G S' w' F Y h8;exact D m0 S0 w0 G S' w' F Y h8 Q E
  |exit id=>exact hother (by simp) h
  |ret=>exact hother (by simp) h
  |panic v=>exact hother (by simp) h
 | .cond t x y,hd,s,e,s',c,p,h,n=>by
  simp only [dU,φ] at hd;simp only [l_] at h;split at h
  .rename_i bv Z;obtain ⟨b',N,I,h⟩:=R.bind_ok h;have key:∀ (z:Code),(N.Ok->N.Ok/\z=if bv then x else y)->N.Ok/\aj P ap U nt z s e s'->c.Ok/\aj P ap U nt (.cond t x y) s e s':=by
    rintro z hzz ⟨K,ih⟩
    obtain ⟨j,hb⟩:=mg I K;refine ⟨j,λk=> ?_⟩;obtain ⟨u,D⟩:=ih k;refine ⟨u,λm0 S0 w0 m S w a f A Q E=>wp_cond (t:=bv) ?_ ?_⟩
    .have:=yB A.srel (a:=a) (env:=s.env) t (λt _=>A.env t);rw [Z] at this;simpa only [VR,PR] using this
    .rw [<- (hzz K).2];exact D m0 S0 w0 m S w a f A Q E
   cases b' with
   |true=>exact key x (λX=> ⟨X,by rw [<- (mg I X).2];rfl⟩) (fF q i J x hd.1 _ _ _ _ _ h n)
   |false=>exact key y (λX=> ⟨X,by rw [<- (mg I X).2];rfl⟩) (fF q i J y hd.2 _ _ _ _ _ h n)
  .cases h
 | .block id b,hd,s,e,s',c,p,h,n=>by
  simp only [dU] at hd;simp only [l_] at h;obtain ⟨⟨O,V⟩,N,I,h⟩:=R.bind_ok h;dsimp only at h;have hcc:N=p:=by
   cases O<;>dsimp only at h
   .cases h;rfl
   .split at h<;>cases h<;>rfl
   .cases h;rfl
   .cases h;rfl
  subst hcc;obtain ⟨j,L⟩:=fF q i J b hd _ _ _ _ _ I n;refine ⟨j,λk=> ?_⟩;obtain ⟨B,C⟩:=L k;have hs:V=s':=by
   cases O<;>dsimp only at h
   .cases h;rfl
   .split at h<;>cases h<;>rfl
   .cases h;rfl
   .cases h;rfl
  subst hs;refine ⟨B,λm0 S0 w0 m S w a f A Q E=>wp_block (C m0 S0 w0 m S w a f A _ ?_)⟩;intro G S' w' F u D;have r:=E G S' w' F u D;cases O with
  |normal=>cases h;exact r
  |ret=>cases h;exact r
  |panic v=>cases h;exact r
  | exit id'=>
   dsimp only at h;split at h
   .rename_i W;cases h;show Exit.inBlock id Q (.exit id') F w';simp only [Exit.inBlock,if_pos (aP W)];exact r
   .rename_i W;cases h;show Exit.inBlock id Q (.exit id') F w';have M:id' ≠ id:=by intro e;subst e;simp at W
    simp only [Exit.inBlock,if_neg M];exact r
 | .loop b,hd,s,e,s',c,p,h,n=>by
  simp only [dU] at hd;simp only [l_] at h;obtain ⟨j,L⟩:=FI (λs e s' c p h n=>fF q i J b hd s e s' c p h n) lf s e s' c p h n;refine ⟨j,λk=> ?_⟩;obtain ⟨B,C⟩:=L k;exact ⟨B,λm0 S0 w0 m S w a f A Q E=>wp_loop_rounds lf (C m0 S0 w0 m S w a f A Q E)⟩
 | .scope b,hd,s,e,s',c,p,h,n=>by
  simp only [dU] at hd;simp only [l_] at h;obtain ⟨j,L⟩:=fF q i J b hd _ _ _ _ _ h n;refine ⟨j,λk=> ?_⟩;obtain ⟨B,C⟩:=L k;refine ⟨B,λm0 S0 w0 m S w a f A Q E=>wp_scope_straight (C m0 S0 w0 m S w a f A _ ?_)⟩;intro G S' w' F u D;have r:=E G S' w' F u D;cases e with
  |normal=>exact r
  |exit id=>exact r
  |ret=>exact r
  |panic v=>exact r
 | .rangeFunc _ _ _ _,_,s,e,s',c,p,h,n=>by cases h
 | .goto _,_,s,e,s',c,p,h,n=>by cases h
 | .refuse _,_,s,e,s',c,p,h,n=>by cases h
end
end AM
