/- The machine and its soundness. -/
import Derived.Test.YtcpedihclbogjaaGreatDoorM2
import Derived.Orders
import Derived.LoopN
import Derived.Scope
set_option linter.unusedSimpArgs false
set_option linter.unusedVariables false
open List renaming map_cons->Xqf,getElem?_cons_succ->Xjl,filterMap_cons_none->Xv6,filterMap_cons_some->Xv7,mem_cons->Xza,getElem?_append_left->Xxe,nil_append->Xqb,length_nil->Ξ,getElem?_eq_getElem->ν,getElem?_eq_none->Xq8,mem_of_getElem?->Xqn,getD_eq_getElem?_getD->μ,getElem?_map->Xqx,append_assoc->Xqe,mem_cons_self->Xjm,mem_cons_of_mem->Xx1,drop_drop->Xjq,length_cons->ο,range'_succ->Xwx,take_zero->Xk1,take_succ_cons->Xx6,eq_nil_of_length_eq_zero->Xq2,foldl_cons->Xjx,all_eq_true->Xzk,mem_zipIdx_iff_getElem?->Xzo,range->Xqm,nodup_cons->Xkv,mem_filter->Xvq,mem_range->Yxo,size_toArray->Xxg,nodup_range->Xwy,range_eq_range'->Xwr
open Nat renaming add_assoc->Xzm,beq->Xqk,le_of_not_lt->Yqw,le_refl->κ,lt_of_lt_of_le->υ,zero_add->Ψ,zero_le->Xqo,le_trans->Xqs,add_zero->Xq3,blt->Xjd,ble_eq_true_of_le->Xqc,lt_trichotomy->Xz6
open Bool renaming and_eq_true->π,not_eq_true'->Xqt,or_eq_true->Xvp,not_true->Xxi,false_or->Xx2
open Option renaming map_eq_some_iff->Xqq,bind_some->Xvf,map_some->Xjj,getD_some->Xzy
namespace AM
open Go
def aW (h:List aM):bW:=λb=>h[b]?
def fq (gh gf:bW) (m:aN) (S:aH):Nat->List AV->List Value->Prop
 |_,[],[]=>True
 |n,.own _ k _::r,v::vs=>VR gf m S (.ref n 0 0 k) v/\fq gh gf m S (n+1) r vs
 |n,x::r,v::vs=>VR gh m S x v/\fq gh gf m S n r vs
 |_,_,_=>False
def qL (gh gf:bW) (m:aN) (S:aH) (n:Nat):AV->Value->Prop
 | .tup l,v=> ∃ vs,v= .tuple vs.toArray/\fq gh gf m S n l vs
 | .own _ k _,v=>VR gf m S (.ref n 0 0 k) v
 |x,v=>VR gh m S x v
def il (n:Nat):gy->List aM
 | .ret v=>(gq n v).2
 | .pan _=> []
def U3 (h':List aM) (m':aN) (S':aH):gy->Ending->Prop
 | .ret v,e=> ∃ cv,e= .returned cv/\qL (aW h') (aW (h'++(gq h'.length v).2)) m' S' h'.length v cv
 | .pan v,e=> ∃ cv,e= .panicked [{v:=cv,recovered:=false}]/\VR (aW h') m' S' v cv
structure Ai (ap:AP) (h:List aM) (m:aN) (S:aH) (w:World) (out:gy) (h':List aM) (m':aN) (S':aH) (w':World) (e:Ending):Prop where
 srel:bE ap (aW (h'++il h'.length out)) m' S' w'
 fr:Fr (aW h) m S w (aW (h'++il h'.length out)) m' S' w'
 out:U3 h' m' S' out e
def rD (P:Program) (f:Nat):Prop:=∀ args w,(callFunc f args).run P w= .ok (.enter f args) w
structure az (P:Program) (ap:AP) (f:Nat) (args:List AV) (h:List aM) (out:gy) (h':List aM):Prop where
 len:h.length<=h'.length
 ent:rD P f
 calls:∀ m S w cargs,bE ap (aW h) m S w->aU (aW h) m S args cargs->Calls P f cargs.toArray w λe w'=> ∃ m' S',Ai ap h m S w out h' m' S' w' e
def gj (P:Program) (ap:AP) (H:bK):Prop:=∀ c f args h out h' md' c',H c .dead f args h= .ok (out,h',md') c'->c'.Ok->c.Ok/\az P ap f args h out h'
section
variable {P:Program} {ap:AP} {g:bW} {m:aN} {S:aH} {w:World}
mutual
theorem iW {m:aN} {S:aH}:∀ (x:AV) {v:Value},VR (aW []) m S x v->PR S x v
 | .int _ _,_,p=>by simpa only [VR] using p
 | .bool _,_,p=>by simpa only [VR] using p
 | .str _,_,p=>by simpa only [VR] using p
 | .nilS,_,p=>by simpa only [VR] using p
 | .nilP,_,p=>by simpa only [VR] using p
 | .nilF,_,p=>by simpa only [VR] using p
 | .nilI,_,p=>by simpa only [VR] using p
 | .sl _ _ _,_,p=>by simpa only [VR] using p
 | .pp _ _,_,p=>by simpa only [VR] using p
 | .mp _ _,_,p=>by simpa only [VR] using p
 | .dead,_,_=>by simp only [PR]
 | .own _ _ _,_,p=>by simp only [VR] at p
 | .ref _ _ _ _,_,p=>by simp [VR,aW] at p
 | .ptr _ _ _,_,p=>by simp [VR,aW] at p
 | .mr _ _,_,p=>by simp [VR,aW] at p
 | .agg l,_,p=>by
  simp only [VR] at p;simp only [PR];obtain ⟨vs,e,q⟩:=p;exact ⟨vs,e,eJ l q⟩
 | .tup l,_,p=>by
  simp only [VR] at p;simp only [PR];obtain ⟨vs,e,q⟩:=p;exact ⟨vs,e,eJ l q⟩
 | .fn f a c,_,p=>by
  simp only [VR] at p;simp only [PR];obtain ⟨b,d,e,q,r⟩:=p;exact ⟨b,d,e,eJ a q,eJ c r⟩
 | .ifc t x,_,p=>by
  simp only [VR] at p;simp only [PR];obtain ⟨u,e,q⟩:=p;exact ⟨u,e,iW x q⟩
theorem eJ {m:aN} {S:aH}:∀ (l:List AV) {vs:List Value},aU (aW []) m S l vs->bw S l vs
 | [],[],_=>by simp only [bw]
 |x::r,v::vs,p=>by simp only [aU] at p;simp only [bw];exact ⟨iW x p.1,eJ r p.2⟩
 | [],_::_,p=>by simp [aU] at p
 |_::_,[],p=>by simp [aU] at p
end
theorem TJ (z:bE ap g m S w) {K l:bW} {mc p:aN} {Sp S':aH} {w':World} (J:bE ap l p S' w') (t:Fr K mc Sp w l p S' w') (ι:Nat->Nat)
  (hdom:∀ i Bc,K i=some Bc->∃ B,g (ι i)=some B/\mc i=m (ι i))
  (hSp:eO S Sp) (hSpN:∀ k o v,Sp k o=some v->S k o=some v\/∃ b B,g b=some B/\(m b).1=k) {gN:bW} {mN:aN} (ρ:Nat->Nat->Option (Nat × Nat)) (hρ:oy l p gN mN ρ)
  (hnew:∀ i Bc,l i=some Bc->∃ B,gN (ι i)=some B/\mN (ι i)=p i/\B.esz=Bc.esz/\B.fro=Bc.fro/\B.fz=Bc.fz/\B.pr=Bc.pr/\(Bc.pr=true->B.cells=Bc.cells)/\(Bc.pr=false->B.cells=iP ρ Bc.cells))
  (c:∀ b B,gN b=some B->(∃ i Bc,l i=some Bc/\b=ι i)\/(∃ B0,g b=some B0/\mN b=m b/\B.cells=B0.cells/\B.pr=B0.pr/\B.esz=B0.esz/\(B.fro=false->B.fz=0)/\B.fz<=B.cells.length/\(∀ i Bc,K i=some Bc->b ≠ ι i)/\(∀ o v,Sp (m b).1 o=some v->B.fro=true/\o<B.fz)))
  (hge:Ge g m gN mN):bE ap gN mN S' w'/\Fr g m S w gN mN S' w':=by
 have r:eO S S':=hSp.trans t.sle;have hcross:∀ b B0 i Bc,g b=some B0->l i=some Bc->(∀ i Bc,K i=some Bc->b ≠ ι i)->(m b).1 ≠ (p i).1:=by
  intro b B0 i Bc n a s e;have hlt:=z.lt n;rcases t.img i Bc a with d|⟨B1,d,u⟩
  .omega
  .obtain ⟨B2,A,F⟩:=hdom i B1 d;rw [F] at u;exact s i B1 d (z.inj b (ι i) B0 B2 n A (e.trans u))
 constructor
 .refine ⟨?_, ?_,J.sealed, ?_,J.glob⟩
  .intro b b' B B' n hb' e;rcases c b B n with ⟨i,Bi,a,rfl⟩|⟨B0,h0,d,_,_,_,_,_,u,_⟩<;>rcases c b' B' hb' with ⟨j,Bj,O,rfl⟩|⟨B0',M,I,_,_,_,_,_,Z,_⟩
   .obtain ⟨_,_,x,_⟩:=hnew i Bi a;obtain ⟨_,_,q,_⟩:=hnew j Bj O;rw [x,q] at e;rw [J.inj i j Bi Bj a O e]
   .obtain ⟨_,_,x,_⟩:=hnew i Bi a;rw [x,I] at e;exact absurd e.symm (hcross b' B0' i Bi M a Z)
   .obtain ⟨_,_,q,_⟩:=hnew j Bj O;rw [q,d] at e;exact absurd e (hcross b B0 j Bj h0 O u)
   .rw [d,I] at e;exact z.inj b b' B0 B0' h0 M e
  .intro b B n;rcases c b B n with ⟨i,Bi,a,rfl⟩|⟨B0,h0,d,A,F,h5,h6,h7,u,_⟩
   .obtain ⟨B1,E,x,q,W,G,e5,e6,e7⟩:=hnew i Bi a;rw [n] at E;cases E;rw [x];obtain ⟨⟨cur,e,vs,rest,V,T,Q,U,R,X⟩,k7,Y⟩:=J.blk i Bi a;cases hp:Bi.pr with
    |true=>
     have hcells:=e6 hp;refine ⟨⟨cur,e,vs,rest,by rw [q];exact V,T,λ_=>by rw [hcells];exact Q hp,by rw [hcells];exact bz _ (Q hp),by rw [q];exact R,by rw [q];exact X⟩,by rw [W,G];exact k7,by rw [G,hcells];exact Y⟩
    |false=>
     have hcells:=e7 hp;have y:=iB (eO.refl S') hρ _ U;have N:B.cells.length=Bi.cells.length:=by rw [bA U,hcells,bA y]
     refine ⟨⟨cur,e,vs,rest,by rw [q];exact V,T,(λh=>by rw [e5,hp] at h;cases h),by rw [hcells];exact y,by rw [q];exact R,by rw [q];exact X⟩,by rw [W,G];exact k7,by rw [G,N];exact Y⟩
   .rw [d];have s:∀ i Bc,K i=some Bc->(mc i).1 ≠ (m b).1:=by
     intro i Bc a e;obtain ⟨B2,L,f⟩:=hdom i Bc a;rw [f] at e;exact u i Bc a (z.inj b (ι i) B0 B2 h0 L e.symm)
    obtain ⟨⟨cur,e,vs,rest,V,T,Q,U,R,X⟩,k7,Y⟩:=z.blk b B0 h0;refine ⟨⟨cur,e,vs,rest,by rw [h5];exact V.same (t.rest _ (z.lt h0) s),T,λhp=>by rw [A];rw [F] at hp;exact aY r _ (Q hp),by rw [A];exact iA r hge _ U,by rw [h5];exact R,by rw [h5];exact X⟩,h6,h7⟩
  .intro b B n o v y;rcases c b B n with ⟨i,Bi,a,rfl⟩|⟨B0,h0,d,A,F,h5,h6,h7,u,L⟩
   .obtain ⟨B1,E,x,q,W,G,e5,e6,e7⟩:=hnew i Bi a;rw [n] at E;cases E;rw [x] at y;rw [W,G];exact J.own i Bi a o v y
   .rw [d] at y;rcases t.sealN _ _ _ y with f|f|⟨i,Bi,a,f⟩
    .exact L o v f
    .have:=z.lt h0;omega
    .obtain ⟨B2,D,C⟩:=hdom i Bi a;rw [C] at f;exact absurd (z.inj b (ι i) B0 B2 h0 D f.symm) (u i Bi a)
 .refine ⟨hge,r,t.os,t.tape,t.output,t.size, ?_, ?_, ?_⟩
  .intro k hk s;refine t.rest k hk λi Bc a e=> ?_
   obtain ⟨B2,L,f⟩:=hdom i Bc a;exact s (ι i) B2 L (by rw [<- f];exact e)
  .intro b B n;rcases c b B n with ⟨i,Bi,a,rfl⟩|⟨B0,h0,d,_⟩
   .obtain ⟨B1,E,x,_⟩:=hnew i Bi a;rw [x];rcases t.img i Bi a with d|⟨B2,d,u⟩
    .exact .inl d
    .obtain ⟨B3,A,F⟩:=hdom i B2 d;exact .inr ⟨B3,A,by rw [u,F]⟩
   .exact .inr ⟨B0,h0,by rw [d]⟩
  .intro k o v y;rcases t.sealN _ _ _ y with f|f|⟨i,Bi,a,f⟩
   .rcases hSpN _ _ _ f with h|h
    .exact .inl h
    .exact .inr (.inr h)
   .exact .inr (.inl f)
   .obtain ⟨B2,D,C⟩:=hdom i Bi a;exact .inr (.inr ⟨ι i,B2,D,by rw [<- C];exact f⟩)
structure AE (F:AV->AV):Prop where
 own:∀ xs n e,F (.own xs n e)= .own xs n e
 tup:∀ l,F (.tup l)= .tup (l.map F)
 not:∀ x,(∀ xs n e,x ≠ .own xs n e)->(∀ xs n e,F x ≠ .own xs n e)
 notT:∀ x,(∀ l,x ≠ .tup l)->(∀ l,F x ≠ .tup l)
theorem bh (n:Nat) {x:AV} (h:∀ xs k e,x ≠ .own xs k e) (r:List AV):cX n (x::r)=(x::(cX n r).1,(cX n r).2):=by
 cases x<;>first|rfl|exact absurd rfl (h _ _ _)
theorem fO (n:Nat) {x:AV} (h:∀ xs k e,x ≠ .own xs k e) (a:∀ l,x ≠ .tup l):gq n x=(x,[]):=by
 cases x<;>first|rfl|exact absurd rfl (h _ _ _)|exact absurd rfl (a _)
theorem bI {gh gf:bW} {n:Nat} {x:AV} (h:∀ xs k e,x ≠ .own xs k e) {r:List AV} {v:Value} {vs:List Value}:fq gh gf m S n (x::r) (v::vs)=(VR gh m S x v/\fq gh gf m S n r vs):=by
 cases x<;>first|rfl|exact absurd rfl (h _ _ _)
theorem iU {gh gf:bW} {n:Nat} {x:AV} (h:∀ xs k e,x ≠ .own xs k e) (a:∀ l,x ≠ .tup l) {v:Value}:qL gh gf m S n x v=VR gh m S x v:=by
 cases x<;>first|rfl|exact absurd rfl (h _ _ _)|exact absurd rfl (a _)
theorem gp (x:AV):(∃ xs k e,x= .own xs k e)\/(∀ xs k e,x ≠ .own xs k e):=by
 cases x<;>first|exact .inl ⟨_,_,_,rfl⟩|exact .inr (λ_ _ _ h=>by cases h)
theorem vm (x:AV):(∃ l,x= .tup l)\/(∀ l,x ≠ .tup l):=by
 cases x<;>first|exact .inl ⟨_,rfl⟩|exact .inr (λ_ h=>by cases h)
theorem n_ {F:AV->AV} (c:AE F):∀ (l:List AV) (a b:Nat),(cX a (l.map F)).2=(cX b l).2
 | [],a,b=>rfl
 | x::r,a,b=>by
  rcases gp x with ⟨d,k,e,rfl⟩|hx
  .simp only [Xqf,c.own,cX];rw [n_ c r (a+1) (b+1)]
  .rw [Xqf,bh a (c.not x hx),bh b hx];exact n_ c r a b
theorem vV {F:AV->AV} (c:AE F) (x:AV) (a b:Nat):(gq a (F x)).2=(gq b x).2:=by
 rcases gp x with ⟨d,k,e,rfl⟩|hx
 .rw [c.own];rfl
 .rcases vm x with ⟨l,rfl⟩|ht
  .rw [c.tup];simp only [gq];exact n_ c l a b
  .rw [fO a (c.not x hx) (c.notT x ht),fO b hx ht]
theorem pS {F:AV->AV} (a:AE F) {gh gf gN:bW} {m mN:aN} {S:aH} {n nid:Nat} (c:∀ x v,VR gh m S x v->VR gN mN S (F x) v) (b:∀ i k v,VR gf m S (.ref (n+i) 0 0 k) v->VR gN mN S (.ref (nid+i) 0 0 k) v):
  ∀ (l:List AV) (vs:List Value) (j:Nat),fq gh gf m S (n+j) l vs->aU gN mN S (cX (nid+j) (l.map F)).1 vs
 | [],[],j,_=>by simp [cX,aU]
 | x::r,v::vs,j,h=>by
  rcases gp x with ⟨d,k,e,rfl⟩|hxo
  .simp only [fq] at h;simp only [Xqf,a.own,cX,aU];exact ⟨b j k v h.1,by have:=pS a c b r vs (j+1);rw [<- Xzm,<- Xzm] at this;exact this h.2⟩
  .rw [bI hxo] at h;rw [Xqf,bh _ (a.not x hxo)];simp only [aU];exact ⟨c x v h.1,pS a c b r vs j h.2⟩
 | [],_::_,_,h=>by simp [fq] at h
 |x::r,[],_,h=>by cases x<;>simp [fq] at h
theorem zt {F:AV->AV} (a:AE F) {gh gf gN:bW} {m mN:aN} {S:aH} {n nid:Nat} (c:∀ x v,VR gh m S x v->VR gN mN S (F x) v) (b:∀ i k v,VR gf m S (.ref (n+i) 0 0 k) v->VR gN mN S (.ref (nid+i) 0 0 k) v)
  {x:AV} {v:Value} (h:qL gh gf m S n x v):VR gN mN S (gq nid (F x)).1 v:=by
 rcases gp x with ⟨d,k,e,rfl⟩|hxo
 .simp only [qL] at h;rw [a.own];exact b 0 k v h
 .rcases vm x with ⟨l,rfl⟩|ht
  .simp only [qL] at h;obtain ⟨vs,e,h⟩:=h;rw [a.tup];simp only [gq,VR];exact ⟨vs,e,pS a c b l vs 0 h⟩
  .rw [iU hxo ht] at h;rw [fO _ (a.not x hxo) (a.notT x ht)];exact c x v h
theorem Ee:AE id:=⟨λ_ _ _=>rfl,λl=>by simp,λ_ h=>h,λ_ h=>h⟩
theorem EO (ρ:Nat->Nat->Option (Nat × Nat)):∀ l,iP ρ l=l.map (ren ρ)
 | []=>rfl
 |x::r=>by simp [iP,EO ρ r]
theorem A9 (ρ:Nat->Nat->Option (Nat × Nat)):AE (ren ρ):=by
 refine ⟨λ_ _ _=>rfl,λl=>by simp [ren,EO], ?_, ?_⟩
 .intro x h b n e a;cases x<;>simp only [ren] at a<;>first
   |(cases a;done)
   |(split at a<;>cases a;done)
   |exact h _ _ _ rfl
 .intro x h l a;cases x<;>simp only [ren] at a<;>first
   |(cases a;done)
   |(split at a<;>cases a;done)
   |exact h _ rfl
theorem uI:∀ (bs:List aM) (n b:Nat),look (zf n bs) b=if n<=b then bs[b - n]? else none
 | [],n,b=>by simp [zf,look]
 | B::r,n,b=>by
  simp only [zf,look];cases h:Xqk n b with
  |true=>
   have:=aG h;subst this;simp
  | false=>
   have a:n ≠ b:=by intro e;subst e;simp at h
   rw [uI r (n+1) b];by_cases hle:n<=b
   .rw [if_pos hle,if_pos (show n+1<=b by omega)];obtain ⟨d,hd⟩:∃ d,b - n=d+1:=⟨b - n - 1,by omega⟩
    rw [hd,Xjl,show b - (n+1)=d by omega]
   .rw [if_neg hle,if_neg (show ¬ n+1<=b by omega)]
theorem Bg {rd:bW} {mk:aM->aM}:∀ (fp:List Nat) (b:Nat),look (fp.filterMap λb=>(rd b).map λB=>(b,mk B)) b=if b ∈ fp then (rd b).map mk else none
 | [],b=>by simp [look]
 | a::r,b=>by
  have f:=Bg (rd:=rd) (mk:=mk) r b;cases c:rd a with
  |none=>
   rw [Xv6 (by simp [c]),f];by_cases hab:b=a
   .subst hab;simp [c]
   .simp [hab]
  | some B=>
   rw [Xv7 (by simp [c];rfl)];simp only [look];cases h:Xqk a b with
   |true=>have:=aG h;subst this;simp [c]
   |false=>
    have d:b ≠ a:=by intro e;subst e;simp at h
    simp only [f,Xza,d,false_or]
end
end AM
namespace AM
open Go
def U4 (g:bW) (m:aN) (S:aH):gy->Ending->Prop
 | .ret v,e=> ∃ cv,e= .returned cv/\VR g m S v cv
 | .pan v,e=> ∃ cv,e= .panicked [{v:=cv,recovered:=false}]/\VR g m S v cv
def PX (ap:AP) (g:bW) (m:aN) (S:aH) (w:World) (out:gy) (ups:List (Nat × aM)) (e:Ending) (w':World):Prop:=
 ∃ m' S',bE ap (cj g ups) m' S' w'/\Fr g m S w (cj g ups) m' S' w'/\U4 (cj g ups) m' S' out e
theorem cU {h c:List aM} {b:Nat} (a:b<h.length):aW (h++c) b=aW h b:=by
 simp [aW,Xxe a]
theorem fG {h a:List aM} {b:Nat} (c:h.length<=b):aW (h++a) b=aW a (b - h.length):=by
 simp [aW,List.getElem?_append_right c]
def nE (l:List aM):Prop:=∀ B ∈ l,B.pr=true/\B.fro=false/\B.ver=0
theorem oe:∀ (l:List AV) (n:Nat),nE (cX n l).2
 | [],n=>by simp [cX,nE]
 | x::r,n=>by
  rcases gp x with ⟨b,k,e,rfl⟩|hx
  .simp only [cX];intro B a;rcases List.mem_cons.1 a with rfl|a
   .exact ⟨rfl,rfl,rfl⟩
   .exact oe r (n+1) B a
  .rw [bh n hx];exact oe r n
theorem EN (x:AV) (n:Nat):nE (gq n x).2:=by
 rcases gp x with ⟨b,k,e,rfl⟩|hx
 .intro B a;simp [gq] at a;subst a;exact ⟨rfl,rfl,rfl⟩
 .rcases vm x with ⟨l,rfl⟩|ht
  .simp only [gq];exact oe l n
  .rw [fO n hx ht];simp [nE]
theorem vR (o:gy) (n:Nat):nE (il n o):=by
 cases o with
 |ret v=>exact EN v n
 |pan v=>simp [il,nE]
section
variable {P:Program} {ap:AP} {g:bW} {m:aN} {S:aH} {w:World}
def C3 (nid:Nat) (F:AV->AV):gy->gy
 | .ret v=> .ret (gq nid (F v)).1
 | .pan v=> .pan (F v)
theorem vz (p:bE ap g m S w) {rd:bW} (j:∀ b B,rd b=some B->g b=some B) {L:List Nat} (M:∀ b B,rd b=some B->b ∈ L) {nid:Nat} {args args':List AV} {cargs:List Value} {out:gy}
  (ha:gm (frz rd 6) args=some args') (hv:aU g m S args cargs) {C:List Value->(Ending->World->Prop)->Prop} (hmono:∀ cargs R R',C cargs R->(∀ e w',R e w'->R' e w')->C cargs R')
  (f:∀ m1 S1,eO S S1->bE ap (aW []) m1 S1 w->aU (aW []) m1 S1 args' cargs->C cargs λe w'=> ∃ m' S',Ai ap [] m1 S1 w out [] m' S' w' e) (hfr:∀ i,i<(il 0 out).length->g (nid+i)=none):
  C cargs λe w'=>PX ap g m S w (C3 nid id out) (zf nid (il 0 out)++L.filterMap λb=>(rd b).map λB=>(b,{B with fro:=true,fz:=B.cells.length})) e w':=by
 have W:bw (bZ S m rd w) args' cargs:=oR (λx v y a d=>i_ p j 6 x v y a d) ha hv;have u:=kg S m rd w
 let m0:aN:=λ_=>(0,0)
 have V:bE ap (aW []) m0 (bZ S m rd w) w:=by
  refine ⟨λb b' B B' h=>by simp [aW] at h,λb B h=>by simp [aW] at h,λk o v h=>lQ p h,λb B h=>by simp [aW] at h, ?_⟩;intro k xs hk;obtain ⟨vs,a,d⟩:=p.glob k xs hk;exact ⟨vs,aY u _ a,d.mono u⟩
 refine hmono _ _ _ (f m0 (bZ S m rd w) u V (bz _ W)) ?_
 rintro e w' ⟨m',S',hF⟩
 obtain ⟨A,q,r⟩:=hF;simp only [Xqb,Ξ] at A q r;generalize G:il 0 out=bs at A q hfr;have J:nE bs:=G ▸ vR out 0
 let gN:bW:=cj g (zf nid bs++L.filterMap λb=>(rd b).map λB=>(b,{B with fro:=true,fz:=B.cells.length}))
 let mN:aN:=λb=>if nid<=b/\b - nid<bs.length then m' (b - nid) else m b
 have t:∀ b,gN b=if nid<=b/\b - nid<bs.length then bs[b - nid]? else match rd b with|some B=>some {B with fro:=true,fz:=B.cells.length}|none=>g b:=by
  intro b;show cj g _ b=_;unfold cj;have T:∀ mk:aM->aM,(if b ∈ L then (rd b).map mk else none)=(rd b).map mk:=by
   intro mk;split
   .rfl
   .rename_i c;cases l:rd b with
    |none=>rfl
    |some B=>exact absurd (M b B l) c
  rw [dJ,uI,Bg,T];by_cases a:nid<=b
  .by_cases d:b - nid<bs.length
   .have f:nid<=b/\b - nid<bs.length:=⟨a,d⟩
    rw [if_pos a,if_pos f,ν d]
   .have f:¬ (nid<=b/\b - nid<bs.length):=λh=>d h.2
    rw [if_pos a,if_neg f,Xq8 (Yqw d)];cases rd b<;>rfl
  .have f:¬ (nid<=b/\b - nid<bs.length):=λh=>a h.1
   rw [if_neg a,if_neg f];cases rd b<;>rfl
 have hnidg:∀ b B,g b=some B->¬ (nid<=b/\b - nid<bs.length):=by
  rintro b B c ⟨a,d⟩
  have:=hfr (b - nid) d;rw [show nid+(b - nid)=b by omega,c] at this;cases this
 have Q:Ge g m gN mN:=by
  intro b B c;have hn:=hnidg b B c;have I:mN b=m b:=if_neg hn;rw [t,if_neg hn];cases l:rd b with
  |none=>exact ⟨B,c,rfl,.inl ⟨rfl,I⟩⟩
  |some B1=>
   have:=j b B1 l;rw [c] at this;cases this;exact ⟨_,rfl,rfl,.inl ⟨rfl,I⟩⟩
 have z:∀ i B,bs[i]? =some B->gN (nid+i)=some B/\mN (nid+i)=m' i:=by
  intro i B F;have hl:=(List.getElem?_eq_some_iff.1 F).1;have f:nid<=nid+i/\nid+i - nid<bs.length:=by omega
  refine ⟨by rw [t,if_pos f,show nid+i - nid=i by omega];exact F, ?_⟩;show (if _ then _ else _)=_;rw [if_pos f,show nid+i - nid=i by omega]
 obtain ⟨N,X⟩:=TJ (g:=g) (m:=m) (S:=S) (w:=w) p A q (λi=>nid+i) (λi Bc h=>by simp [aW] at h) u
  (λk o v h=>(dc h).imp id λ⟨_,b,B,a,d,_⟩=> ⟨b,B,j b B a,d⟩) (gN:=gN) (mN:=mN) (λi v=>some (nid+i,v))
  (by
   intro b ver b' ver' h B hB D;simp only [Option.some.injEq,Prod.mk.injEq] at h;obtain ⟨rfl,rfl⟩:=h;obtain ⟨a,d⟩:=z b B hB;exact ⟨B,a,D,λe=> ⟨e,d,rfl⟩⟩)
  (by
   intro i Bc F;obtain ⟨a,d⟩:=z i Bc F;exact ⟨Bc,a,d,rfl,rfl,rfl,rfl,λ_=>rfl,λhp=>by rw [(J Bc (Xqn F)).1] at hp;cases hp⟩)
  (by
   intro b B c;by_cases f:nid<=b/\b - nid<bs.length
   .rw [t,if_pos f] at c;exact .inl ⟨b - nid,B,c,by omega⟩
   .have I:mN b=m b:=if_neg f;rw [t,if_neg f] at c;right;cases l:rd b with
    | none=>
     rw [l] at c;have c:g b=some B:=c;refine ⟨B,c,I,rfl,rfl,rfl,(p.blk b B c).fz0,(p.blk b B c).fzle,(λi Bc h=>by simp [aW] at h), ?_⟩;intro o v O;rcases dc O with h|⟨_,Z,B1,a,d,_⟩
     .exact p.own b B c o v h
     .have:=p.inj Z b B1 B (j _ _ a) c d;subst this;rw [a] at l;cases l
    | some B1=>
     rw [l] at c;have c:some {B1 with fro:=true,fz:=B1.cells.length}=some B:=c;cases c;have s:=j b B1 l;refine ⟨B1,s,I,rfl,rfl,rfl,(λh=>by cases h),κ _,(λi Bc h=>by simp [aW] at h), ?_⟩;intro o v O;refine ⟨rfl, ?_⟩;rcases dc O with h|⟨_,Z,B2,a,d,U⟩
     .exact υ (p.own b B1 s o v h).2 (p.blk b B1 s).fzle
     .have:=p.inj Z b B2 B1 (j _ _ a) s d;subst this;rw [a] at l;cases l;exact U)
  Q
 refine ⟨mN,S',N,X, ?_⟩;show U4 gN mN S' (C3 nid id out) e;cases out with
 |ret v=>
  obtain ⟨cv,Y,a⟩:=r;refine ⟨cv,Y, ?_⟩;have E:(gq 0 v).2=bs:=G;simp only [Ξ,Xqb,E] at a;refine zt (n:=0) Ee (λx v K=>dZ x (iW x K)) ?_ a;intro i k v K;rw [Ψ] at K;simp only [VR] at K ⊢;obtain ⟨B,d,U,h4,h5⟩:=K;obtain ⟨h6,h7⟩:=z i B d;exact ⟨B,h6,U,h4,by rw [h7];exact h5⟩
 |pan v=>
  obtain ⟨cv,Y,a⟩:=r;exact ⟨cv,Y,dZ _ (iW _ a)⟩
end
end AM
namespace AM
open Go
theorem ED {b:Nat} {r:List Nat} (h:nV (b::r)=true):b ∉ r/\nV r=true:=by
 simp only [nV,π,Xqt] at h;refine ⟨λa=> ?_,h.2⟩;rw [fe.2 a] at h;cases h.1
theorem mT:∀ {l:List Nat} {b p:Nat},lZ l b=some p->l[p]? =some b
 | [],b,p,h=>by simp [lZ] at h
 | c::r,b,p,h=>by
  simp only [lZ] at h;split at h
  .rename_i a;cases h;rw [aG a];rfl
  .simp only [Xqq] at h;obtain ⟨q,d,rfl⟩:=h;simpa using mT d
theorem lK:∀ {l:List Nat} {b p:Nat},nV l=true->l[p]? =some b->lZ l b=some p
 | [],b,p,_,h=>by simp at h
 |c::r,b,0,hn,h=>by simp at h;subst h;simp [lZ]
 | c::r,b,p+1,hn,h=>by
  obtain ⟨e,f⟩:=ED hn;have h:r[p]? =some b:=by simpa using h
  have a:Xqk c b=false:=by
   cases d:Xqk c b with
   |false=>rfl
   |true=>exact absurd (aG d ▸ Xqn h) e
  simp [lZ,a,lK f h]
theorem Es {mk:Nat->aM->aM}:∀ (fp:List Nat) (h':List aM) (b:Nat),look ((FA fp h').map λ(b,B)=>(b,mk b B)) b=(lZ fp b).bind λp=>(h'[p]?).map (mk b)
 | [],h',b=>by cases h'<;>simp [FA,look,lZ]
 |a::r,[],b=>by
  simp only [FA,List.map_nil,look,lZ];cases Xqk a b with
  |true=>rfl
  |false=>cases lZ r b<;>rfl
 | a::r,B::q,b=>by
  simp only [FA,Xqf,look,lZ];cases h:Xqk a b with
  |true=>have:=aG h;subst this;rfl
  |false=>
   simp only [Es r q b];cases lZ r b<;>simp
section
variable {P:Program} {ap:AP} {g:bW} {m:aN} {S:aH} {w:World}
def DA (ρ:Nat->Nat->Option (Nat × Nat)) (B:aM):aM:={B with cells:=(match B.pr with|true=>B.cells|false=>iP ρ B.cells),ver:=0}
theorem ar1 {a b n i:Nat} (h:b<=a):n+(a+i - b)=n+(a - b)+i:=by omega
theorem ar2 {a b i:Nat} (h:b<=a):b+(a+i - b)=a+i:=by omega
theorem P_ {ρ:Nat->Nat->Option (Nat × Nat)} {l:List aM} (h:nE l):l.map (wx ρ 0)=l:=by
 induction l with
 |nil=>rfl
 |cons B r ih=>
  rw [Xqf,ih λB d=>h B (by simp [d])];obtain ⟨a,_,b⟩:=h B (by simp);obtain ⟨c,v,f,z,e,p⟩:=B;simp only at a b;subst a b;rfl
theorem vB (L:bE ap g m S w) {rd:bW} (hrd:∀ b B,rd b=some B->g b=some B) {a:List Nat} {M:List aM} (hbl:gm rd a=some M) (J:nV a=true) {nid:Nat} {args:List AV} {cargs:List Value} {out:gy}
  {vers:Nat->Nat} (hvers:∀ b B,rd b=some B->vers b=B.ver) {ρ ρ':Nat->Nat->Option (Nat × Nat)} (hρe:∀ b v,ρ b v=match Xqk v (vers b) with|true=>(lZ a b).map λp=>(p,0)|false=>none)
  {h':List aM} (hρe':ρ'=HE nid a vers h'.length)
  (hv:aU g m S args cargs) {C:List Value->(Ending->World->Prop)->Prop} (hmono:∀ cargs R R',C cargs R->(∀ e w',R e w'->R' e w')->C cargs R')
  (s:∀ m1 S1,eO S S1->bE ap (aW (M.map (DA ρ))) m1 S1 w->aU (aW (M.map (DA ρ))) m1 S1 (iP ρ args) cargs->C cargs λe w'=> ∃ m' S',Ai ap (M.map (DA ρ)) m1 S1 w out h' m' S' w' e) (hl:a.length<=h'.length) (hfr:∀ i,i<(h'.length - a.length)+(il h'.length out).length->g (nid+i)=none):
  C cargs λe w'=>PX ap g m S w (C3 (nid+(h'.length - a.length)) (ren ρ') out) (zf nid ((h'.drop a.length).map (wx ρ' 0)++il h'.length out)++(FA a h').map λ(b,B)=>(b,wx ρ' (vers b) B)) e w':=by
 have r:∀ p b,a[p]? =some b->∃ B,rd b=some B/\g b=some B/\aW (M.map (DA ρ)) p=some (DA ρ B):=by
  intro p b hp;obtain ⟨B,c,d⟩:=(dx hbl).2 p b hp;exact ⟨B,d,hrd b B d,by simp [aW,c]⟩
 have u:∀ p Bc,aW (M.map (DA ρ)) p=some Bc->∃ b B,a[p]? =some b/\rd b=some B/\g b=some B/\Bc=DA ρ B:=by
  intro p Bc hp;have y:p<a.length:=by
   have:=(List.getElem?_eq_some_iff.1 hp).1;rw [List.length_map,(dx hbl).1] at this;exact this
  obtain ⟨B,c,d,f⟩:=r p _ (ν y);rw [f] at hp;cases hp;exact ⟨_,B,ν y,c,d,rfl⟩
 let mc:aN:=λp=>m (a.getD p 0)
 have l:∀ p b,a[p]? =some b->mc p=m b:=by
  intro p b hp;show m (a.getD p 0)=_;rw [μ,hp];rfl
 have O:oy g m (aW (M.map (DA ρ))) mc ρ:=by
  intro b ver X F h B K D;rw [hρe] at h;split at h
  .rename_i hve;simp only [Xqq,Prod.mk.injEq] at h;obtain ⟨p,hp,rfl,rfl⟩:=h;have hp:=mT hp;obtain ⟨B1,c,d,f⟩:=r p b hp;rw [d] at K;cases K;exact ⟨_,f,Xqo _,λ_=> ⟨by rw [aG hve,hvers b _ c],l p b hp,rfl⟩⟩
  .cases h
 have hSc:bE ap (aW (M.map (DA ρ))) mc S w:=by
  refine ⟨?_, ?_,L.sealed, ?_,L.glob⟩
  .intro p q Bp Bq hp hq e;obtain ⟨b,B,c,d,f,_⟩:=u p Bp hp;obtain ⟨X,B',Y,h2',h3',_⟩:=u q Bq hq;rw [l p b c,l q X Y] at e;have:=L.inj b X B B' f h3' e;subst this;have W:=lK J c;rw [lK J Y] at W;cases W;rfl
  .intro p Bp hp;obtain ⟨b,B,c,d,f,rfl⟩:=u p Bp hp;rw [l p b c];obtain ⟨⟨cur,e,vs,rest,k1,k2,k3,k4,k5,k6⟩,k7,k8⟩:=L.blk b B f;cases hp:B.pr with
   |true=>exact ⟨⟨cur,e,vs,rest,k1,k2,λ_=>by simpa [DA,hp] using k3 hp,by simpa [DA,hp] using bz _ (k3 hp),k5,k6⟩,k7,by simpa [DA,hp] using k8⟩
   | false=>
    have hv:=iB (eO.refl S) O _ k4;exact ⟨⟨cur,e,vs,rest,k1,k2,λh=>by simp [DA,hp] at h,by simpa [DA,hp] using hv,k5,k6⟩,k7,by
     have:(DA ρ B).cells.length=B.cells.length:=by simp only [DA,hp];rw [bA k4,bA hv]
     rw [this];exact k8⟩
  .intro p Bp hp o v ho;obtain ⟨b,B,c,d,f,rfl⟩:=u p Bp hp;rw [l p b c] at ho;exact L.own b B f o v ho
 refine hmono _ _ _ (s mc S (eO.refl S) hSc (iB (eO.refl S) O _ hv)) ?_
 rintro e w' ⟨m',S',hF⟩
 obtain ⟨hsr,E,Q⟩:=hF;generalize hbs:il h'.length out=bs0 at hsr E hfr;have hown:nE bs0:=hbs ▸ vR out h'.length;obtain ⟨bs,G⟩:∃ bs,bs=h'.drop a.length++bs0:=⟨_,rfl⟩
 have hbsl:bs.length=(h'.length - a.length)+bs0.length:=by rw [G,List.length_append,List.length_drop]
 rw [<- hbsl] at hfr
 let ups:=(FA a h').map λ(b,B)=>(b,wx ρ' (vers b) B)
 rw [show (h'.drop a.length).map (wx ρ' 0)++bs0=bs.map (wx ρ' 0) by rw [G,List.map_append,P_ hown]]
 let gN:bW:=cj g (zf nid (bs.map (wx ρ' 0))++ups)
 let mN:aN:=λb=>if nid<=b/\b - nid<bs.length then m' (a.length+(b - nid)) else match lZ a b with|some p=>m' p|none=>m b
 have I:∀ b,gN b=if nid<=b/\b - nid<bs.length then (bs[b - nid]?).map (wx ρ' 0) else match (lZ a b).bind λp=>(h'[p]?).map (wx ρ' (vers b)) with|some B=>some B|none=>g b:=by
  intro b;show cj g _ b=_;unfold cj;rw [dJ,uI,Es (mk:=λb B=>wx ρ' (vers b) B)];by_cases c:nid<=b
  .by_cases d:b - nid<bs.length
   .have s:nid<=b/\b - nid<bs.length:=⟨c,d⟩
    rw [if_pos c,if_pos s,Xqx,ν d];rfl
   .have s:¬ (nid<=b/\b - nid<bs.length):=λh=>d h.2
    rw [if_pos c,if_neg s,Xqx,Xq8 (Yqw d)];rfl
  .have s:¬ (nid<=b/\b - nid<bs.length):=λh=>c h.1
   rw [if_neg c,if_neg s];rfl
 have hnidg:∀ b B,g b=some B->¬ (nid<=b/\b - nid<bs.length):=by
  rintro b B j ⟨c,d⟩
  have:=hfr (b - nid) d;rw [show nid+(b - nid)=b by omega,j] at this;cases this
 have hh':∀ p,p<a.length->∃ B,h'[p]? =some B:=λp hp=> ⟨_,ν (by omega)⟩
 have U:∀ p b,a[p]? =some b->∀ Bc,h'[p]? =some Bc->gN b=some (wx ρ' (vers b) Bc)/\mN b=m' p:=by
  intro p b hp Bc K;obtain ⟨B,c,d,f⟩:=r p b hp;have hn:=hnidg b B d;refine ⟨by rw [I,if_neg hn,lK J hp];simp [K], ?_⟩;show (if _ then _ else _)=_;rw [if_neg hn,lK J hp]
 have T:∀ i B,bs[i]? =some B->gN (nid+i)=some (wx ρ' 0 B)/\mN (nid+i)=m' (a.length+i):=by
  intro i B A;have hl:=(List.getElem?_eq_some_iff.1 A).1;have s:nid<=nid+i/\nid+i - nid<bs.length:=by omega
  refine ⟨by rw [I,if_pos s,show nid+i - nid=i by omega,A];rfl, ?_⟩;show (if _ then _ else _)=_;rw [if_pos s,show nid+i - nid=i by omega]
 have V:∀ p,a.length<=p->aW (h'++bs0) p=bs[p - a.length]? :=by
  intro p hp;have he:h'++bs0=h'.take a.length++bs:=by rw [G,<- Xqe,List.take_append_drop]
  have y:(h'.take a.length).length=a.length:=by rw [List.length_take];omega
  rw [he,fG (by omega),y];rfl
 have t:∀ p Bc,aW (h'++bs0) p=some Bc->(p<a.length/\h'[p]? =some Bc)\/(a.length<=p/\bs[p - a.length]? =some Bc):=by
  intro p Bc h;by_cases hp:p<a.length
  .rw [cU (by omega)] at h;exact .inl ⟨hp,h⟩
  .rw [V p (by omega)] at h;exact .inr ⟨by omega,h⟩
 have hren':oy (aW (h'++bs0)) m' gN mN ρ':=by
  intro p ver X F h Bc K D;rw [hρe'] at h;unfold HE at h;split at h
  .rename_i b hp;cases h;rcases t p Bc K with ⟨c,d⟩|⟨c,_⟩
   .obtain ⟨f,z⟩:=U p _ hp Bc d;exact ⟨_,f,by simp only [wx];omega,λe=> ⟨by simp only [wx] at e;omega,z,rfl⟩⟩
   .have:=(List.getElem?_eq_some_iff.1 hp).1;omega
  .rename_i hp;split at h
   .cases h;have hge:=List.getElem?_eq_none_iff.1 hp;rcases t p Bc K with ⟨c,_⟩|⟨c,d⟩
    .omega
    .obtain ⟨f,z⟩:=T _ Bc d;exact ⟨_,f,by simp only [wx];omega,λe=> ⟨by simp only [wx] at e;omega,by rw [z,show a.length+(p - a.length)=p by omega],rfl⟩⟩
   .cases h
 have hge:Ge g m gN mN:=by
  intro b B j;have hn:=hnidg b B j;cases A:lZ a b with
  | none=>
   have hm:mN b=m b:=by
    show (if _ then _ else _)=_;rw [if_neg hn,A]
   refine ⟨B, ?_,rfl,.inl ⟨rfl,hm⟩⟩;rw [I,if_neg hn,A];exact j
  | some p=>
   have hp:=mT A;obtain ⟨B1,c,d,f⟩:=r p b hp;rw [d] at j;cases j;obtain ⟨Bc,z,h5,N⟩:=E.ge p _ f;rcases t p Bc z with ⟨_,h7⟩|⟨h7,_⟩
   .obtain ⟨h8,h9⟩:=U p b hp Bc h7;refine ⟨_,h8,h5, ?_⟩;rcases N with ⟨N,h6'⟩|N
    .left;refine ⟨?_,by rw [h9,h6',l p b hp]⟩;simp only [wx,DA] at N ⊢;rw [hvers b _ c];omega
    .right;simp only [wx,DA] at N ⊢;rw [hvers b _ c];omega
   .have:=(List.getElem?_eq_some_iff.1 hp).1;omega
 let ι:Nat->Nat:=λp=>if p<a.length then a.getD p 0 else nid+(p - a.length)
 have hι:∀ p b,a[p]? =some b->ι p=b:=by
  intro p b hp;show (if _ then _ else _)=_;rw [if_pos (List.getElem?_eq_some_iff.1 hp).1,μ,hp];rfl
 have hι':∀ i,ι (a.length+i)=nid+i:=by
  intro i;show (if _ then _ else _)=_;rw [if_neg (by omega)];congr 1;omega
 obtain ⟨hsN,hfN⟩:=TJ (g:=g) (m:=m) (S:=S) (w:=w) L hsr E ι
  (by
   intro p Bc hp;obtain ⟨b,B,c,d,f,rfl⟩:=u p Bc hp;rw [hι p b c];exact ⟨B,f,l p b c⟩) (eO.refl S) (λk o v h=> .inl h) (gN:=gN) (mN:=mN) ρ' hren'
  (by
   intro p Bc hp;rcases t p Bc hp with ⟨c,d⟩|⟨c,d⟩
   .have hp:=ν c;obtain ⟨f,z⟩:=U p _ hp Bc d;rw [hι p _ hp];exact ⟨_,f,z,rfl,rfl,rfl,rfl,λh=>by simp [wx,h],λh=>by simp [wx,h]⟩
   .obtain ⟨i,rfl⟩:∃ i,p=a.length+i:=⟨p - a.length,by omega⟩
    rw [show a.length+i - a.length=i by omega] at d;obtain ⟨f,z⟩:=T i Bc d;rw [hι' i];exact ⟨_,f,z,rfl,rfl,rfl,rfl,λh=>by simp [wx,h],λh=>by simp [wx,h]⟩)
  (by
   intro b B j;by_cases s:nid<=b/\b - nid<bs.length
   .rw [I,if_pos s,Xqq] at j;obtain ⟨Bc,j,_⟩:=j;refine .inl ⟨a.length+(b - nid),Bc, ?_,by rw [hι'];omega⟩;rw [V _ (by omega),show a.length+(b - nid) - a.length=b - nid by omega];exact j
   .rw [I,if_neg s] at j;cases A:lZ a b with
    |some p=>
     have hp:=mT A;have y:=(List.getElem?_eq_some_iff.1 hp).1;obtain ⟨Bc,z⟩:=hh' p y;exact .inl ⟨p,Bc,by rw [cU (by omega)];exact z,(hι p b hp).symm⟩
    | none=>
     have hm:mN b=m b:=by
      show (if _ then _ else _)=_;rw [if_neg s,A]
     rw [A] at j;have j:g b=some B:=j;refine .inr ⟨B,j,hm,rfl,rfl,rfl,(L.blk b B j).fz0,(L.blk b B j).fzle, ?_,λo v ho=>L.own b B j o v ho⟩;intro p Bc hp e;obtain ⟨b1,B1,c,_⟩:=u p Bc hp;rw [hι p b1 c] at e;subst e;rw [lK J c] at A;cases A)
  hge
 refine ⟨mN,S',hsN,hfN, ?_⟩;show U4 gN mN S' (C3 (nid+(h'.length - a.length)) (ren ρ') out) e;have hrenh:oy (aW h') m' gN mN ρ':=by
  intro p ver X F h Bc K D;refine hren' p ver X F h Bc ?_ D;rw [cU (List.getElem?_eq_some_iff.1 K).1];exact K
 cases out with
 |ret v=>
  obtain ⟨cv,W,c⟩:=Q;refine ⟨cv,W, ?_⟩;have Z:(gq h'.length v).2=bs0:=hbs;rw [Z] at c;refine zt (n:=h'.length) (A9 ρ') (λx v hx=>um (eO.refl S') hrenh x hx) ?_ c;intro i k v hx;simp only [VR] at hx ⊢;obtain ⟨B,d,f,z,h5⟩:=hx;rw [V _ (Xqs hl (Nat.le_add_right _ _))] at d;obtain ⟨N,h7⟩:=T _ B d;rw [ar1 hl] at N h7;rw [ar2 hl] at h7;exact ⟨_,N,Xqo _,z,λe=>by rw [h7];exact h5 (by simpa [wx] using e)⟩
 |pan v=>
  obtain ⟨cv,W,c⟩:=Q;exact ⟨cv,W,um (eO.refl S') hrenh _ c⟩
end
end AM
namespace AM
open Go
section
variable {P:Program} {ap:AP} {H:bK}
theorem Ce {o:bW} {nid f:Nat} {args:List AV} {md:AV} {c A:Cx} {r:Lp} (h:sO ap H o nid md f args c= .ok r A):
  ∃ args0 h0 out0 h0',H c md f args0 h0= .ok (out0,h0',r.md) A/\((∃ v,out0= .ret v)↔∃ v,r.out= .ret v)/\
  ∀ g m S w cargs (C:List Value->(Ending->World->Prop)->Prop),(∀ cargs R R',C cargs R->(∀ e w',R e w'->R' e w')->C cargs R')->bE ap g m S w->(∀ b ∈ r.fp,∀ B,o b=some B->g b=some B)->(∀ i,i<8->g (nid+i)=none)->aU g m S args cargs->
   (∀ m1 S1,eO S S1->bE ap (aW h0) m1 S1 w->aU (aW h0) m1 S1 args0 cargs->C cargs λe w'=> ∃ m' S',Ai ap h0 m1 S1 w out0 h0' m' S' w' e)->
   C cargs λe w'=>PX ap g m S w r.out r.ups e w':=by
 unfold sO at h;simp only at h;generalize E:lW o 6 (eB (bD args))=fp at h
 let rd:bW:=λb=>match lp fp b with|true=>o b|false=>none
 have a:∀ b B,rd b=some B->b ∈ fp/\o b=some B:=by
  intro b B d;dsimp only [rd] at d;split at d
  .rename_i G;exact ⟨fe.1 G,d⟩
  .cases d
 split at h
 .split at h
  .cases h
  .rename_i args' z;obtain ⟨⟨out,u,md⟩,F,x,h⟩:=R.bind_ok h;dsimp only at h;split at h
   .cases h
   .split at h
    .rename_i v;split at h
     .rename_i n;cases h;refine ⟨_,_,_,_,x,⟨λ_=> ⟨_,rfl⟩,λ_=> ⟨_,rfl⟩⟩, ?_⟩;intro g m S w cargs C hmono s k l t q;have j:il 0 (gy.ret v)=(gq nid v).2:=vV Ee v 0 nid;have:=vz s (rd:=rd) (λb B d=>k b (a b B d).1 B (a b B d).2) (λb B d=>(a b B d).1) (nid:=nid) z t hmono q (λi p=>l i (by rw [j] at p;have:=dB n;omega));rw [j] at this;exact this
     .cases h
    .rename_i v;cases h;refine ⟨_,_,_,_,x,⟨(λ⟨_,h⟩=>by cases h),(λ⟨_,h⟩=>by cases h)⟩, ?_⟩;intro g m S w cargs C hmono s k l t q;exact vz s (rd:=rd) (λb B d=>k b (a b B d).1 B (a b B d).2) (λb B d=>(a b B d).1) (nid:=nid) z t hmono q (λi p=>by simp [il] at p)
 .split at h
  .cases h
  .rename_i I y;obtain ⟨⟨out,u,md⟩,F,x,h⟩:=R.bind_ok h;dsimp only at h;split at h
   .cases h
   .rename_i hcond;simp only [π] at hcond;have D:=dB hcond.1
    let vers:Nat->Nat:=λb=>match rd b with|some B=>B.ver|none=>0
    have hvers':∀ b B,rd b=some B->vers b=B.ver:=by
     intro b B d;simp only [vers,d]
    let ρ':Nat->Nat->Option (Nat × Nat):=HE nid fp vers u.length
    split at h
    .rename_i v;split at h
     .rename_i n;cases h;refine ⟨_,_,_,_,x,⟨λ_=> ⟨_,rfl⟩,λ_=> ⟨_,rfl⟩⟩, ?_⟩;intro g m S w cargs C hmono s k l t q;have j:il u.length (gy.ret v)=(gq (nid+(u.length - fp.length)) (ren ρ' v)).2:=(vV (A9 ρ') v (nid+(u.length - fp.length)) u.length).symm;have:=vB s (rd:=rd) (λb B d=>k b (a b B d).1 B (a b B d).2) y hcond.2 (nid:=nid) hvers' (ρ':=ρ') (λb v=>rfl) rfl t hmono q D (λi p=>l i (by rw [j] at p;exact υ p (dB n)));rw [j] at this;exact this
     .cases h
    .rename_i v;split at h
     .rename_i n;cases h;refine ⟨_,_,_,_,x,⟨(λ⟨_,h⟩=>by cases h),(λ⟨_,h⟩=>by cases h)⟩, ?_⟩;intro g m S w cargs C hmono s k l t q;exact vB s (rd:=rd) (λb B d=>k b (a b B d).1 B (a b B d).2) y hcond.2 (nid:=nid) hvers' (ρ':=ρ') (λb v=>rfl) rfl t hmono q D (λi p=>l i (by simp only [il,Ξ,Xq3] at p;exact υ p (dB n)))
     .cases h
theorem xO (t:gj P ap H) {a:bW} {nid f:Nat} {args:List AV} {c o:Cx} {r:Lp} (h:sO ap H a nid .dead f args c= .ok r o) (x:o.Ok):
  c.Ok/\rD P f/\∀ g m S w cargs,bE ap g m S w->(∀ b ∈ r.fp,∀ B,a b=some B->g b=some B)->(∀ i,i<8->g (nid+i)=none)->aU g m S args cargs->
   Calls P f cargs.toArray w λe w'=>PX ap g m S w r.out r.ups e w':=by
 obtain ⟨args0,h0,q,u,y,_,v⟩:=Ce h;obtain ⟨j,p⟩:=t _ _ _ _ _ _ _ _ y x;refine ⟨j,p.ent,λg m S w cargs A d n z=> ?_⟩;exact v g m S w cargs (λcargs R=>Calls P f cargs.toArray w R) (λ_ _ _ k l=>k.mono l) A d n z λs S1 _ k l=>p.calls s S1 w cargs k l
end
end AM
namespace AM
open Go
def oQ (dec:List (Nat × Bool)) (env:eW):Prop:=∀ t b,look dec t=some b->env.get t= .bool b
def eE (g:bW) (m:aN) (S:aH):List (Nat × List AV)->List Deferred->Prop
 | [],[]=>True
 |d::r,cd::cr=>(∃ cap,cd.target= .fn (.func d.1) cap/\aU g m S d.2 (cd.args++cap).toList)/\eE g m S r cr
 |_,_=>False
theorem qd {g g':bW} {m a:aN} {S S':aH} (c:eO S S') (b:Ge g m g' a):∀ {l:List (Nat × List AV)} {ds:List Deferred},eE g m S l ds->eE g' a S' l ds
 | [],[],_=>by simp only [eE]
 |d::r,cd::cr,h=>by
  simp only [eE] at h ⊢;obtain ⟨⟨cap,e,f⟩,i⟩:=h;exact ⟨⟨cap,e,iA c b _ f⟩,qd c b i⟩
 | [],_::_,h=>by simp [eE] at h
 |_::_,[],h=>by simp [eE] at h
theorem vo {g:bW} {m:aN} {S:aH}:∀ {l l':List (Nat × List AV)} {ds ds':List Deferred},eE g m S l ds->eE g m S l' ds'->eE g m S (l++l') (ds++ds')
 | [],_,[],_,_,h'=>by simpa using h'
 |d::r,_,cd::cr,_,h,h'=>by
  simp only [eE] at h;simp only [List.cons_append,eE];exact ⟨h.1,vo h.2 h'⟩
 | [],_,_::_,_,h,_=>by simp [eE] at h
 |_::_,_,[],_,h,_=>by simp [eE] at h
def UU (P:Program) (ops:Array Oper) (Q:Exit->Act->World->Prop) (o:Oper) (K:Act->World->Prop) (a:Act) (w:World):Prop:=
 if Region.wanted o (yielded ops a.tmps) then o.wp P a w K Q\/(o.asks P a w/\LetsOut Q) else K (a.put o.dst undef) w
def kw (ap:AP) (o:Oper) (g:bW) (m:aN) (S:aH) (w:World) (a:Act) (v:AV) (ups:List (Nat × aM)) (df:List (Nat × List AV)) (Q:Exit->Act->World->Prop) (K:Act->World->Prop):Option AV->Prop
 |none=> ∀ cv m' S' w' ds,bE ap (cj g ups) m' S' w'->Fr g m S w (cj g ups) m' S' w'->VR (cj g ups) m' S' v cv->eE (cj g ups) m' S' df ds->K ({a with defers:=ds++a.defers}.put o.dst cv) w'
 |some pv=> ∀ cv m' S' w',bE ap (cj g ups) m' S' w'->Fr g m S w (cj g ups) m' S' w'->VR (cj g ups) m' S' pv cv->Q (.panic [{v:=cv,recovered:=false}]) a w'
def BV (P:Program) (ap:AP) (ops:Array Oper) (o:Oper) (nid:Nat) (env:eW) (hp:Hp) (rt rb:List Nat) (v:AV) (ups:List (Nat × aM)) (df:List (Nat × List AV)) (p:Option AV):Prop:=
 ∀ g m S w (a:Act),bE ap g m S w->(∀ t ∈ rt,VR g m S (env.get t) (a.tmps.getD t undef))->(∀ b ∈ rb,∀ B,look hp b=some B->g b=some B)->(∀ i,i<8->g (nid+i)=none)->
  ∀ (Q:Exit->Act->World->Prop) (K:Act->World->Prop),kw ap o g m S w a v ups df Q K p->UU P ops Q o K a w
structure Yb (P:Program) (ap:AP) (ops:Array Oper) (o:Oper) (nid:Nat) (s s':RS) (p:Option AV) (v:AV) (rt rb:List Nat) (ups:List (Nat × aM)) (df:List (Nat × List AV)):Prop where
 env:p=none->s'.env=mh s.env o.dst v
 envp:p ≠ none->s'.env=s.env/\df= []
 hp:s'.hp=ups++s.hp
 md:s'.md=s.md
 dfs:s'.dfs=df++s.dfs
 dec:p=none->oQ s'.dec s'.env
 feet:p=none->s'.feet={rt,wt:=Cq o,rb,wb:=ups.map (·.1)}::s.feet
 sem:BV P ap ops o nid s.env s.hp rt rb v ups df p
section
variable {P:Program} {ap:AP} {H:bK}
theorem MT (e:Array Value) (t:Nat) {v:Value} (h:e.getD t undef=v) (b:v ≠ undef):e[t]? =some v:=by
 rw [Array.getD_eq_getD_getElem?] at h;cases a:e[t]? with
 |none=>rw [a] at h;exact absurd h.symm b
 |some u=>rw [a] at h;simpa using h
theorem Ad {ops:Array Oper} {tmps:Array Value} {j s:Nat} (hs:(ops[j]?).bind (·.dst)=some s) {b:Bool} (h:tmps.getD s undef= .bool b):yielded ops tmps j=some b:=by
 unfold yielded;rw [hs];simp only [Xvf];rw [MT tmps s h (by simp [undef])]
theorem Dx {ops:Array Oper} {tmps:Array Value} {j s:Nat} (hs:(ops[j]?).bind (·.dst)=some s) (h:tmps.getD s undef= .tuple #[]):yielded ops tmps j=none:=by
 unfold yielded;rw [hs];simp only [Xvf];rw [Array.getD_eq_getD_getElem?] at h;cases a:tmps[s]? with
 |none=>rfl
 |some u=>
  rw [a] at h;simp at h;rw [h]
theorem rP {g:bW} {m:aN} {S:aH} {w:World} (e:bE ap g m S w) {env:eW} {a:Act} (x:Operand) (h:∀ t,x= .tmp t->VR g m S (env.get t) (a.tmps.getD t undef)):VR g m S (mM ap env x) (a.eval x):=by
 cases x with
 |tmp t=>exact h t rfl
 |const v=>exact dZ _ (DF S v)
 | global k=>
  simp only [mM,Act.eval];cases d:(ap.gl[k]?).join with
  |none=>simp only [VR]
  |some xs=>
   obtain ⟨vs,b,c⟩:=e.glob k xs d;simp only [VR,PR];exact ⟨k,0,vs,rfl,b,c⟩
 |func f=>
  simp only [mM,Act.eval,VR];exact ⟨[],[],rfl,by simp [aU],by simp [aU]⟩
theorem yU {l:List Operand} {t:Nat} (h:Operand.tmp t ∈ l):t ∈ p_ l:=by
 simp only [p_,List.mem_filterMap];exact ⟨_,h,rfl⟩
theorem CF {ops:List Oper} {env:eW} {dec e:List (Nat × Bool)} {o:Oper} {c A:Cx} {run:Bool} (h:Gr ops env dec o c= .ok (run,e) A) (p:A.Ok):
  c.Ok/\(oQ dec env->oQ e env/\(∀ t b,look dec t=some b->look e t=some b)/\∀ g m S (a:Act),(∀ t ∈ fV ops o,VR g m S (env.get t) (a.tmps.getD t undef))->Region.wanted o (yielded ops.toArray a.tmps)=run):=by
 unfold Gr at h;unfold fV;unfold Region.wanted;split at h
 .rename_i y;cases h;simp only [y];exact ⟨p,λhd=> ⟨hd,λ_ _ h=>h,λ_ _ _ _ _=>trivial⟩⟩
 .rename_i j f y;simp only [y];split at h
  .cases h
  .rename_i s hs;have k:(ops.toArray[j]?).bind (·.dst)=some s:=by simpa using hs
   split at h
   .rename_i b l;cases h;refine ⟨p,λhd=> ⟨hd,λ_ _ h=>h,λg m S a n=> ?_⟩⟩;have d:=n s (by simp);rw [hd s b l] at d;simp only [VR,PR] at d;rw [Ad k d];cases f<;>cases b<;>rfl
   .rename_i B;split at h
    .rename_i b l;obtain ⟨C,D,d,u⟩:=R.bind_ok h;cases u;obtain ⟨q,rfl⟩:=iX d p;refine ⟨q,λhd=> ⟨?_, ?_,λg m S a n=> ?_⟩⟩
     .intro t x i;simp only [look] at i;split at i
      .rename_i z;cases i;rw [<- aG z,l]
      .exact hd t x i
     .intro t x i;simp only [look];split
      .rename_i z;rw [aG z] at B;rw [B] at i;cases i
      .exact i
     .have d:=n s (by simp);rw [l] at d;simp only [VR,PR] at d;rw [Ad k d];cases f<;>cases C<;>rfl
    .rename_i l;cases h;refine ⟨p,λhd=> ⟨hd,λ_ _ h=>h,λg m S a n=> ?_⟩⟩;have d:=n s (by simp);rw [l] at d;simp only [VR] at d;obtain ⟨vs,d,u⟩:=d;cases vs with
     |nil=>rw [Dx k d];rfl
     |cons v r=>simp [aU] at u
    .cases h
theorem Eb {env:eW} {o:Oper} {v:AV} {t:Nat} (h:∀ d,o.dst=some d->d ≠ t):(mh env o.dst v).get t=env.get t:=by
 unfold mh;split
 .rename_i d hd;simp only [eW.get,look];split
  .rename_i a;exact absurd (aG a) (h d hd)
  .rfl
 .rfl
theorem sQ {dec:List (Nat × Bool)} {env:eW} {o:Oper} {v:AV} (hd:oQ dec env) (a:Mc dec o=true):oQ dec (mh env o.dst v):=by
 intro t b c;rw [Eb]
 .exact hd t b c
 .rintro d hdd rfl
  unfold Mc at a;rw [hdd] at a;simp [c] at a
end
end AM
namespace AM
open Go
section
variable {P:Program} {ap:AP} {H:bK}
theorem M5 {c:Cx} {dst:Option Nat} {v:AV} (h:(yw c dst v).2.Ok):c.Ok/\bC v (yw c dst v).1:=by
 obtain ⟨cl,orc,bs,ps,ans,hs⟩:=c;unfold yw at h ⊢;dsimp only at h ⊢;split at h
 .rename_i d x r i;split at h
  .rename_i a;have e:bC v x:=h.ps _ (Xjm ..);refine ⟨⟨h.bs,λp hp=>h.ps p (Xx1 _ hp)⟩, ?_⟩;simp only [a];exact e
  .rename_i a;refine ⟨h, ?_⟩;simp only [a];exact λ_ _ _ _ b=>b
 .rename_i f;exact ⟨h,λ_ _ _ _ b=>b⟩
theorem M4 {c:Cx} {dst:Option Nat} (h:(H0 c dst).2.Ok):c.Ok:=by
 obtain ⟨cl,orc,bs,ps,ans,hs⟩:=c;unfold H0 at h;dsimp only at h;split at h
 .split at h
  .exact ⟨h.bs,h.ps⟩
  .exact h
 .exact h
theorem M3 {c:Cx} {dst:Option Nat} {ups:List (Nat × aM)} (h:(yu c dst ups).2.Ok):c.Ok/\(yu c dst ups).1=ups:=by
 obtain ⟨cl,orc,bs,ps,ans,hs⟩:=c;unfold yu at h ⊢;dsimp only at h ⊢;split at h
 .rename_i d e r j b B;split at h
  .rename_i a;have f:B.cells=e:=h.ps _ (Xjm ..);refine ⟨⟨h.bs,λp hp=>h.ps p (Xx1 _ hp)⟩, ?_⟩;simp only [a,<- f]
  .rename_i a;refine ⟨h, ?_⟩;simp only [a]
 .rename_i i;exact ⟨h,rfl⟩
theorem vX {a:Act} {g:Operand} {args:Array Operand} {argTypes:Array TypeId} {ty:TypeId} {f:Nat} {first cap:Array Value} (h:a.eval g= .func (.func f) first cap) (w:World):
  (resolve a.eval {callee:= .value g,args,argTypes} ty).run P w= .ok {target:= .fn (.func f) cap,args:=first++args.map a.eval} w:=by
 simp only [resolve,h,Deferred.ofValue];rfl
theorem Az {a:Act} {g:Operand} {args:Array Operand} {argTypes:Array TypeId} {ty:TypeId} {f:Nat} {first cap:Array Value} (h:a.eval g= .func (.func f) first cap) (b:rD P f) (w:World):
  (do let d <- resolve a.eval {callee:= .value g,args,argTypes} ty;invoke d.target d.args:Sem Next).run P w= .ok (.enter f ((first++args.map a.eval)++cap)) w:=by
 rw [Sem.run_bind,vX h,Result.andThen_ok];exact b _ _
theorem DI {g:bW} {m:aN} {S:aH} {ρ:Operand->AV} {cρ:Operand->Value} {args:Array Operand} (h:∀ o ∈ args,VR g m S (ρ o) (cρ o)):aU g m S (args.toList.map ρ) (args.map cρ).toList:=by
 rw [Array.toList_map];exact qf _ λo a=>h o (by simpa using a)
theorem uJ:∀ {l:Hp} {b:Nat} {B:aM},look l b=some B->(b,B) ∈ l
 | [],_,_,h=>by cases h
 | (k,X)::r,b,B,h=>by
  simp only [look] at h;split at h
  .rename_i a;cases h;have:=aG a;subst this;exact Xjm ..
  .exact Xx1 _ (uJ h)
theorem yQ {α β:Type} {f g:α->β}:∀ {l:List α},l.map f=l.map g->∀ {x:α},x ∈ l->f x=g x
 | [],_,_,h=>by cases h
 |a::r,h,x,hx=>by
  simp only [Xqf,List.cons.injEq] at h;rcases List.mem_cons.1 hx with rfl|hx
  .exact h.1
  .exact yQ h.2 hx
theorem oq (hap:dP P ap) (hH:gj P ap H) {nid:Nat} {ops:List Oper} {o:Oper} {s s':RS} {p:Option AV} {c c':Cx} (h:Fj ap H nid ops o s c= .ok (s',p) c') (O:c'.Ok):
  c.Ok/\(s.md= .dead->oQ s.dec s.env->∃ v rb ups df,Yb P ap ops.toArray o nid s s' p v (p_ o.op.operands.toList++fV ops o) rb ups df):=by
 unfold Fj at h;obtain ⟨⟨run,dec⟩,c1,e1,h⟩:=R.bind_ok h;dsimp only at h;split at h
 .cases h
 rename_i E;have hguard:∀ c1ok:c1.Ok,c.Ok/\(oQ s.dec s.env->oQ dec s.env/\(∀ t b,look s.dec t=some b->look dec t=some b)/\∀ g m S (a:Act),(∀ t ∈ fV ops o,VR g m S (s.env.get t) (a.tmps.getD t undef))->Region.wanted o (yielded ops.toArray a.tmps)=run):=λhk=>CF e1 hk
 have M:∀ {g:bW} {m:aN} {S:aH} {w:World} {a:Act},bE ap g m S w->(∀ t ∈ p_ o.op.operands.toList++fV ops o,VR g m S (s.env.get t) (a.tmps.getD t undef))->∀ x ∈ o.op.operands,VR g m S (mM ap s.env x) (a.eval x):=by
  intro g m S w a j i x V;refine rP j x λt ht=>i t ?_
  subst ht;exact List.mem_append.2 (.inl (yU (by simpa using V)))
 split at h
 ·
  cases h;obtain ⟨A,X⟩:=hguard O;refine ⟨A,λN d=> ?_⟩;obtain ⟨hd,_,hw⟩:=X d;refine ⟨.tup [],[],[],[],⟨λ_=>rfl,λh=>absurd rfl h,rfl,rfl,rfl,λ_=>sQ hd E,λ_=>rfl, ?_⟩⟩;intro g m S w a j i _ _ Q K J;unfold UU;rw [hw g m S a λt ht=>i t (List.mem_append.2 (.inr ht))];simp only [Bool.false_eq_true,if_false];have:=J undef m S w [] (by rw [cZ];exact j) (by rw [cZ];exact Fr.refl _ _ _ _) (by simp only [VR];exact ⟨[],rfl,by simp [aU]⟩) (by simp [eE]);exact this
 ·
  have hwant:∀ (Q:Exit->Act->World->Prop) (K:Act->World->Prop) (g:bW) (m:aN) (S:aH) (a:Act) (w:World),c1.Ok->oQ s.dec s.env->(∀ t ∈ p_ o.op.operands.toList++fV ops o,VR g m S (s.env.get t) (a.tmps.getD t undef))->o.wp P a w K Q->UU P ops.toArray Q o K a w:=by
   intro Q K g m S a w hk d i hh;obtain ⟨_,_,hw⟩:=(hguard hk).2 d;unfold UU;rw [hw g m S a λt ht=>i t (List.mem_append.2 (.inr ht))];simp only [if_true];exact .inl hh
  split at h
  ·
   rename_i gf args argTypes k;split at h
   .rename_i f first cap hf
    obtain ⟨r,c2,e2,h⟩:=R.bind_ok h;have W:c2.Ok:=by
     revert h
     cases hu:H0 c2 o.dst with
     | mk u Y=>
      have D:Y.Ok->c2.Ok:=λhk=>M4 (by rw [hu];exact hk)
      cases u with
      | true=>
       dsimp only;cases r.out with
       |ret v=>
        dsimp only;split
        .intro h;cases h;exact D ⟨O.bs,λp hp=>O.ps p (Xx1 _ hp)⟩
        .intro h;cases h
       |pan v=>intro h;cases h
      |false=>dsimp only;cases r.out<;>intro h<;>cases h<;>exact D O
    obtain ⟨G,hE,hcall⟩:=xO hH e2 W;obtain ⟨A,X⟩:=hguard G;refine ⟨A,λN d=> ?_⟩;obtain ⟨hd,_,_⟩:=X d;have hargs:∀ {g:bW} {m:aN} {S:aH} {w:World} {a:Act},bE ap g m S w->(∀ t ∈ p_ o.op.operands.toList++fV ops o,VR g m S (s.env.get t) (a.tmps.getD t undef))->
      ∃ vf I:List Value,a.eval gf= .func (.func f) vf.toArray I.toArray/\aU g m S (first++args.toList.map (mM ap s.env)++cap) ((vf++(args.map a.eval).toList)++I):=by
     intro g m S w a j i;have y:=M j i;rw [k] at y;have z:=y gf (by simp [Op.operands,Call.operands]);rw [hf] at z;simp only [VR] at z;obtain ⟨vf,I,D,L,h5⟩:=z;exact ⟨vf,I,D,dQ (dQ L (DI λx V=>y x (by simp [Op.operands,Call.operands,V]))) h5⟩
    have T:∀ {a:Act} {vf I:List Value} (w:World),a.eval gf= .func (.func f) vf.toArray I.toArray->(execOp a.eval o).run P w= .ok (.enter f (((vf++(args.map a.eval).toList)++I).toArray)) w:=by
     intro a vf I w he;have:=Az (args:=args) (argTypes:=argTypes) (ty:=o.type) he hE w;unfold execOp;rw [k];dsimp only;rw [this];congr 2;apply Array.toList_inj.1;simp
    split at h
    .rename_i Y hu;split at h
     .rename_i v F;split at h
      .rename_i hall;cases h;have heq:r.ups.map (λ(q:Nat × aM)=>some q.2)=r.ups.map (λ(q:Nat × aM)=>look s.hp q.1):=O.ps _ (Xjm ..);refine ⟨v,r.fp,[],[],⟨λ_=>rfl,λh=>absurd rfl h,rfl,rfl,rfl,λ_=>sQ hd E,λ_=>rfl, ?_⟩⟩;intro g m S w a j i l C Q K J;have hg':cj g r.ups=g:=by
        funext b;unfold cj;cases hl:look r.ups b with
        |none=>rfl
        |some B=>
         have hm:=uJ hl;have y:=yQ heq hm;exact (l b (fe.1 (List.all_eq_true.1 hall _ hm)) B y.symm).symm
       refine hwant Q K g m S a w G d i ?_;obtain ⟨vf,I,y,z⟩:=hargs j i;unfold Oper.wp;rw [T w y];refine (hcall g m S w _ j l C z).mono ?_
       rintro e w' ⟨Z,S',D,L,h5⟩
       rw [F] at h5;obtain ⟨cv,rfl,h6⟩:=h5;rw [hg'] at D L h6;exact J cv Z S' w' [] D L h6 (by simp [eE])
      .cases h
     .cases h
    .rename_i Y hu;split at h
     .rename_i v F;cases h;refine ⟨v,r.fp,r.ups,[],⟨λ_=>rfl,λh=>absurd rfl h,rfl,rfl,rfl,λ_=>sQ hd E,λ_=>rfl, ?_⟩⟩;intro g m S w a j i l C Q K J;refine hwant Q K g m S a w G d i ?_;obtain ⟨vf,I,y,z⟩:=hargs j i;unfold Oper.wp;rw [T w y];refine (hcall g m S w _ j l C z).mono ?_
      rintro e w' ⟨Z,S',D,L,h5⟩
      rw [F] at h5;obtain ⟨cv,rfl,h6⟩:=h5;exact J cv Z S' w' [] D L h6 (by simp [eE])
     .rename_i v F;cases h;refine ⟨v,r.fp,r.ups,[],⟨λh=>(by cases h),λ_=> ⟨rfl,rfl⟩,rfl,rfl,rfl,λh=>(by cases h),λh=>(by cases h), ?_⟩⟩;intro g m S w a j i l C Q K J;refine hwant Q K g m S a w G d i ?_;obtain ⟨vf,I,y,z⟩:=hargs j i;unfold Oper.wp;rw [T w y];refine (hcall g m S w _ j l C z).mono ?_
      rintro e w' ⟨Z,S',D,L,h5⟩
      rw [F] at h5;obtain ⟨cv,rfl,h6⟩:=h5;exact J cv Z S' w' D L h6
   .cases h
  ·
   split at h
   .cases h;exact ⟨(hguard O).1,λN=>by simp_all⟩
   .cases h;exact ⟨(hguard O).1,λN=>by simp_all⟩
   .cases h
  ·
   rename_i gf args argTypes k;split at h
   .rename_i f first cap hf
    cases h;obtain ⟨A,X⟩:=hguard O;refine ⟨A,λN d=> ?_⟩;obtain ⟨hd,_,_⟩:=X d;refine ⟨.dead,[],[],[(f,first++args.toList.map (mM ap s.env)++cap)],⟨λ_=>rfl,λh=>absurd rfl h,rfl,rfl,rfl,λ_=>sQ hd E,λ_=>rfl, ?_⟩⟩;intro g m S w a j i l C Q K J;refine hwant Q K g m S a w O d i ?_;have y:=M j i;rw [k] at y;have z:=y gf (by simp [Op.operands,Call.operands]);rw [hf] at z;simp only [VR] at z;obtain ⟨vf,I,D,L,h5⟩:=z;unfold Oper.wp;have hr:(execOp a.eval o).run P w= .ok (.defer {target:= .fn (.func f) I.toArray,args:=vf.toArray++args.map a.eval}) w:=by
     unfold execOp;rw [k];dsimp only;rw [Sem.run_bind,vX D,Result.andThen_ok];rfl
    rw [hr];refine J undef m S w [{target:= .fn (.func f) I.toArray,args:=vf.toArray++args.map a.eval}] (by rw [cZ];exact j) (by rw [cZ];exact Fr.refl _ _ _ _) (by simp only [VR]) ?_;simp only [eE,cZ,and_true];refine ⟨I.toArray,rfl, ?_⟩;have:=dQ (dQ L (DI (args:=args) λx V=>y x (by simp [Op.operands,Call.operands,V]))) h5;simpa using this
   .cases h
  ·
   rename_i x k;split at h
   .rename_i t v V;cases h;obtain ⟨A,X⟩:=hguard O;refine ⟨A,λN d=> ?_⟩;obtain ⟨hd,_,_⟩:=X d;refine ⟨.dead,[],[],[],⟨λh=>(by cases h),λ_=> ⟨rfl,rfl⟩,rfl,rfl,rfl,λh=>(by cases h),λh=>(by cases h), ?_⟩⟩;intro g m S w a j i l C Q K J;refine hwant Q K g m S a w O d i ?_;have y:=M j i;rw [k] at y;have z:=y x (by simp [Op.operands]);rw [V] at z;have h2':=z;simp only [VR] at h2';obtain ⟨u,D,L⟩:=h2';unfold Oper.wp;have hr:(execOp a.eval o).run P w= .halt (.panic (a.eval x)) w:=by
     unfold execOp;rw [k];dsimp only;rw [D];rfl
    rw [hr];exact J _ m S w (by rw [cZ];exact j) (by rw [cZ];exact Fr.refl _ _ _ _) (by rw [cZ];exact z)
   .cases h
  ·
   rename_i op n1 n2 n3 n4;obtain ⟨em,c2,e2,h⟩:=R.bind_ok h;split at h
   .cases h
   .rename_i v ups bs k;obtain ⟨_,Y,e3,h⟩:=R.bind_ok h;have hv1:(yw Y o.dst v).2.Ok->Y.Ok/\bC v (yw Y o.dst v).1:=M5;generalize yw Y o.dst v=q1 at h hv1;obtain ⟨v1,c4⟩:=q1;dsimp only at h hv1;have hv2:(yu c4 o.dst ups).2.Ok->c4.Ok/\(yu c4 o.dst ups).1=ups:=M3;generalize yu c4 o.dst ups=q2 at h hv2;obtain ⟨ups1,c5⟩:=q2;dsimp only at h hv2;cases h;obtain ⟨hc4,hups⟩:=hv2 O;subst hups;obtain ⟨hc3,hfit⟩:=hv1 hc4;obtain ⟨W,hbs⟩:=Cs e3 hc3;have hem:c1.Ok/\∀ n,sW (mM ap s.env) o.op=some n->Xqk n 0=em:=by
     split at e2
     .rename_i n hn;obtain ⟨hk,rfl⟩:=iX e2 W;exact ⟨hk,λn' U=>by rw [hn] at U;cases U;rfl⟩
     .rename_i hn;cases e2;exact ⟨W,λn' U=>by rw [hn] at U;cases U⟩
    obtain ⟨G,hem⟩:=hem;obtain ⟨A,X⟩:=hguard G;refine ⟨A,λN d=> ?_⟩;obtain ⟨hd,_,_⟩:=X d;refine ⟨v1,Oh (mM ap s.env) o.op,ups1,[],⟨λ_=>rfl,λh=>absurd rfl h,rfl,rfl,rfl,λ_=>sQ hd E,λ_=>rfl, ?_⟩⟩;intro g m S w a j i l C Q K J;refine hwant Q K g m S a w G d i ?_;have y:=M j i;have hok:=Ku hap j (nid:=nid) (C 0 (by omega)) (ρ:=mM ap s.env) (cρ:=a.eval) (λb B hb=>by
      split at hb
      .rename_i hm;exact l b (fe.1 hm) B hb
      .cases hb) o y (dec:=fun| .tmp t=>look dec t|_=>none) (λx V b hb=>by
      split at hb
      .rename_i t;have:=i t (List.mem_append.2 (.inl (yU (by simpa using V))));rw [hd t b hb] at this;simp only [VR,PR] at this;exact this
      .cases hb) hem k hbs
    obtain ⟨nx,Z,w',z,D,L,h5⟩:=hok;unfold Oper.wp;rw [z];rcases h5 with ⟨cv,rfl,h5⟩|⟨rfl,rfl⟩
    .exact J cv Z S w' [] D L (hfit _ _ _ _ h5) (by simp [eE])
    .exact J undef Z S w' [] D L (hfit _ _ _ _ (by simp only [VR])) (by simp [eE])
end
end AM
namespace AM
open Go
theorem uQ:∀ {hp:Hp} {b:Nat} {B:aM},look hp b=some B->b<fK hp
 | [],b,B,h=>by simp [look] at h
 | (c,C)::r,b,B,h=>by
  simp only [look] at h;simp only [fK];split at h
  .rename_i d;have d:=aG d;subst d;split
   .rename_i a;exact dC a
   .omega
  .have e:=uQ h;split
   .exact e
   .rename_i a;have:¬ c<fK r:=λf=>by
     have:Xjd c (fK r)=true:=by
      show Nat.ble (c+1) (fK r)=true;exact Xqc f
     rw [this] at a;cases a
    omega
theorem yN:∀ {l:Hp} {b:Nat} {B:aM},look l b=some B->b ∈ l.map (·.1)
 | [],b,B,h=>by simp [look] at h
 |(c,C)::r,b,B,h=>by
  simp only [look] at h;split at h
  .rename_i a;simp [aG a]
  .simp [yN h]
structure FR (ap:AP) (env:eW) (hp:Hp) (dfs:List (Nat × List AV)) (nt:Nat) (m:aN) (S:aH) (w:World) (a:Act):Prop where
 srel:bE ap (look hp) m S w
 env:∀ t,VR (look hp) m S (env.get t) (a.tmps.getD t undef)
 dfs:eE (look hp) m S dfs a.defers
 size:a.tmps.size=nt
theorem Oc (a:Act) (d:Option Nat) (v:Value):(a.put d v).tmps.size=a.tmps.size:=by
 cases d<;>simp [Act.put]
theorem GZ (a:Act) (d:Option Nat) (v:Value):(a.put d v).defers=a.defers:=by
 cases d<;>simp [Act.put]
theorem G1 (a:Act) (d:Option Nat) (v:Value) {t:Nat} (h:d ≠ some t):(a.put d v).tmps.getD t undef=a.tmps.getD t undef:=by
 cases d with
 |none=>rfl
 |some d=>
  have b:d ≠ t:=λe=>h (by rw [e])
  simp only [Act.put,Array.getD_eq_getD_getElem?];rw [Array.getElem?_setIfInBounds_ne b]
theorem G0 (a:Act) (d:Nat) (v:Value) (h:d<a.tmps.size):(a.put (some d) v).tmps.getD d undef=v:=by
 simp only [Act.put,Array.getD_eq_getD_getElem?];rw [Array.getElem?_setIfInBounds_self_of_lt h];rfl
theorem ib {env:eW} {d:Nat} {v:AV}:(mh env (some d) v).get d=v:=by simp [mh,eW.get,look]
theorem yq {env:eW} {dst:Option Nat} {v:AV} {t:Nat} (h:dst ≠ some t):(mh env dst v).get t=env.get t:=by
 cases dst with
 |none=>rfl
 | some d=>
  have a:Xqk d t=false:=by
   cases b:Xqk d t with
   |false=>rfl
   |true=>exact absurd (by rw [aG b]) h
  simp [mh,eW.get,look,a]
section
variable {P:Program} {ap:AP} {H:bK}
theorem FR.put {env:eW} {hp ups:Hp} {dfs c:List (Nat × List AV)} {nt:Nat} {m b:aN} {S S':aH} {w w':World} {a:Act} (h:FR ap env hp dfs nt m S w a) {dst:Option Nat} (hd:∀ d,dst=some d->d<nt) {v:AV} {cv:Value} {e:List Deferred}
  (h1:bE ap (cj (look hp) ups) b S' w') (h2:Fr (look hp) m S w (cj (look hp) ups) b S' w') (h3:VR (cj (look hp) ups) b S' v cv) (h4:eE (cj (look hp) ups) b S' c e):
  FR ap (mh env dst v) (ups++hp) (c++dfs) nt b S' w' ({a with defers:=e++a.defers}.put dst cv):=by
 rw [jF] at h1 h2 h3 h4;refine ⟨h1, ?_, ?_, ?_⟩
 .intro t;by_cases ht:dst=some t
  .subst ht;rw [ib,G0 _ _ _ (by have:=hd t rfl;have:=h.size;simpa [this] using hd t rfl)];exact h3
  .rw [yq ht,G1 _ _ _ ht];exact lz h2.sle h2.ge _ (h.env t)
 .rw [GZ];exact vo h4 (qd h2.sle h2.ge h.dfs)
 .rw [Oc];exact h.size
theorem FR.still {env:eW} {hp ups:Hp} {dfs:List (Nat × List AV)} {nt:Nat} {m b:aN} {S S':aH} {w w':World} {a:Act} (h:FR ap env hp dfs nt m S w a)
  (h1:bE ap (cj (look hp) ups) b S' w') (h2:Fr (look hp) m S w (cj (look hp) ups) b S' w'):FR ap env (ups++hp) dfs nt b S' w' a:=by
 rw [jF] at h1 h2;exact ⟨h1,λt=>lz h2.sle h2.ge _ (h.env t),qd h2.sle h2.ge h.dfs,h.size⟩
def sF (ap:AP) (hp0:Hp) (m:aN) (S:aH) (w:World) (nt:Nat) (env:eW) (hp:Hp) (dfs:List (Nat × List AV)) (Q:Exit->Act->World->Prop):Option AV->Prop
 |none=> ∀ m' S' w' a',Fr (look hp0) m S w (look hp) m' S' w'->FR ap env hp dfs nt m' S' w' a'->Q .normal a' w'
 |some v=> ∀ m' S' w' a' cv,Fr (look hp0) m S w (look hp) m' S' w'->FR ap env hp dfs nt m' S' w' a'->VR (look hp) m' S' v cv->Q (.panic [{v:=cv,recovered:=false}]) a' w'
theorem oH {ops:Array Oper} {Q:Exit->Act->World->Prop} {i:Nat} {o:Oper} (b:ops[i]? =some o) (rest:List Nat) (a:Act) (w:World):wpOps P ops Q (i::rest) a w↔UU P ops Q o (wpOps P ops Q rest) a w:=by
 simp only [wpOps,b,UU]
theorem Gv {hp ups:Hp} {nid:Nat} (d:∀ b B,look hp b=some B->b<nid) (f:(ups.map (·.1)).all (λx=>Xjd x (nid+8))=true):∀ b B,look (ups++hp) b=some B->b<nid+8:=by
 intro b B a;rw [dJ] at a;split at a
 .rename_i x e;have c:b ∈ ups.map (·.1):=yN e;exact dC (List.all_eq_true.1 f b c)
 .have:=d b B a;omega
theorem qC (D:dP P ap) (Y:gj P ap H) {ops:List Oper} {nt:Nat} (L:∀ o ∈ ops,∀ d,o.dst=some d->d<nt):∀ (l:List Oper) (i nid:Nat) (s s':RS) (p:Option AV) (c c':Cx),pZ ap H ops l nid s c= .ok (s',p) c'->c'.Ok->
  c.Ok/\(s.md= .dead->oQ s.dec s.env->l=ops.drop i->(∀ b B,look s.hp b=some B->b<nid)->
  s'.md= .dead/\∀ m S w a,FR ap s.env s.hp s.dfs nt m S w a->∀ Q,sF ap s.hp m S w nt s'.env s'.hp s'.dfs Q p->wpOps P ops.toArray Q (List.range' i l.length) a w)
 | [],i,nid,s,s',p,c,c',h,hc=>by
  cases h;exact ⟨hc,λe _ _ _=> ⟨e,λm S w a u Q y=>y m S w a (Fr.refl _ _ _ _) u⟩⟩
 | o ::r,i,nid,s,s',p,c,c',h,hc=>by
  simp only [pZ] at h;obtain ⟨⟨s1,p1⟩,c1,e1,h⟩:=R.bind_ok h;dsimp only at h;have hfresh:(∀ b B,look s.hp b=some B->b<nid)->∀ j,j<8->look s.hp (nid+j)=none:=by
   intro I j _;cases hb:look s.hp (nid+j) with
   |none=>rfl
   |some B=>have:=I _ _ hb;omega
  have z:o::r=ops.drop i->ops[i]? =some o/\ops.toArray[i]? =some o/\r=ops.drop (i+1)/\∀ d,o.dst=some d->d<nt:=by
   intro G;have k:ops[i]? =some o:=by
    have:(ops.drop i)[0]? =some o:=by rw [<- G];rfl
    simpa using this
   have N:r=ops.drop (i+1):=by
    have:r=(ops.drop i).drop 1:=by rw [<- G];rfl
    rw [this,Xjq]
   exact ⟨k,by simpa using k,N,L o (Xqn k)⟩
  cases p1 with
  |some v=>
   cases h;obtain ⟨A,E⟩:=oq D Y e1 hc;refine ⟨A,λe q G I=> ?_⟩;obtain ⟨k,n,N,hd⟩:=z G;obtain ⟨v1,rb,ups,df,hs⟩:=E e q;refine ⟨by rw [hs.md,e],λm S w a u Q y=> ?_⟩;rw [ο,Xwx,oH n];refine hs.sem (look s.hp) m S w a u.srel (λt _=>u.env t) (λb _ B hB=>hB) (hfresh I) Q _ ?_;intro cv m' S' w' U x O;have V:=u.still U x;rw [jF] at x O;obtain ⟨f,rfl⟩:=hs.envp (by simp);have y:=y m' S' w' a cv;rw [hs.hp,hs.dfs,f] at y;exact y x V O
  | none=>
   dsimp only at h;cases C:s1.feet with
   |nil=>rw [C] at h;cases h
   | cons ft fr=>
    rw [C] at h;dsimp only at h;split at h
    .rename_i M;obtain ⟨X,ih⟩:=qC D Y L r (i+1) (nid+8) s1 s' p c1 c' h hc;obtain ⟨A,E⟩:=oq D Y e1 X;refine ⟨A,λe q G I=> ?_⟩;obtain ⟨k,n,N,hd⟩:=z G;obtain ⟨v1,rb,ups,df,hs⟩:=E e q;have F:=hs.feet rfl;rw [C] at F;simp only [List.cons.injEq] at F;rw [F.1] at M;obtain ⟨K,ih⟩:=ih (by rw [hs.md,e]) (hs.dec rfl) N (by rw [hs.hp];exact Gv I M);refine ⟨K,λm S w a u Q y=> ?_⟩;rw [ο,Xwx,oH n];refine hs.sem (look s.hp) m S w a u.srel (λt _=>u.env t) (λb _ B hB=>hB) (hfresh I) Q _ ?_;intro cv m' S' w' ds U x O h4;have J:=u.put hd U x O h4;rw [jF] at x;have f:=hs.env rfl;rw [<- f,<- hs.hp,<- hs.dfs] at J;refine ih m' S' w' _ J Q ?_;rw [<- hs.hp] at x;cases p with
     |none=>exact λT S2 W Z h5 h6=>y T S2 W Z (x.trans h5) h6
     |some v=>exact λT S2 W Z cv2 h5 h6 h7=>y T S2 W Z cv2 (x.trans h5) h6 h7
    .cases h
end
end AM
namespace AM
open Go
structure g_ where
 dst:Option Nat
 v:AV
 rt:List Nat
 rb:List Nat
 ups:List (Nat × aM)
def HQ (d:Option Nat):List Nat:=match d with|some d=> [d]|none=> []
def g_.foot (r:g_):rF:={rt:=r.rt,wt:=HQ r.dst,rb:=r.rb,wb:=r.ups.map (·.1)}
def jJ (D:Nat->Bool):Nat->eW->List g_->eW
 |_,e,[]=>e
 |j,e,r::rs=>jJ D (j+1) (match D j with|true=>mh e r.dst r.v|false=>e) rs
def li (D:Nat->Bool):Nat->Hp->List g_->Hp
 |_,h,[]=>h
 |j,h,r::rs=>li D (j+1) (match D j with|true=>r.ups++h|false=>h) rs
theorem kF {D D':Nat->Bool} {t:Nat}:∀ (rs:List g_) (j:Nat) (e e':eW),e.get t=e'.get t->(∀ k r,rs[k]? =some r->r.dst=some t->D (j+k)=D' (j+k))->(jJ D j e rs).get t=(jJ D' j e' rs).get t
 | [],_,_,_,he,_=>he
 | r::rs,j,e,e',he,h=>by
  simp only [jJ];refine kF rs (j+1) _ _ ?_ λk r' a hd=> ?_
  .by_cases hd:r.dst=some t
   .have h0:=h 0 r rfl hd;rw [Xq3] at h0;rw [h0];cases D' j with
    |true=>simp only [hd,ib]
    |false=>exact he
   .cases D j<;>cases D' j<;>simp only [yq hd,he]
  .have:=h (k+1) r' (by simpa using a) hd;rwa [show j+(k+1)=j+1+k by omega] at this
theorem CN:∀ {l:Hp} {b:Nat},b ∉ l.map (·.1)->look l b=none:=by
 intro l b h;cases a:look l b with
 |none=>rfl
 |some B=>exact absurd (yN a) h
theorem nS {ups hp:Hp} {b:Nat} (h:b ∉ ups.map (·.1)):look (ups++hp) b=look hp b:=by
 rw [dJ,CN h]
theorem pH:∀ {l:Hp} {b:Nat},b ∈ l.map (·.1)->∃ B,look l b=some B
 | [],b,h=>by simp at h
 | (c,C)::r,b,h=>by
  simp only [look];cases a:Xqk c b with
  |true=>exact ⟨C,rfl⟩
  |false=>
   simp only [Xqf,Xza] at h;rcases h with h|h
   .subst h;simp at a
   .exact pH h
theorem tC {ups hp hp':Hp} {b:Nat} (h:b ∈ ups.map (·.1)):look (ups++hp) b=look (ups++hp') b:=by
 obtain ⟨B,a⟩:=pH h;rw [dJ,dJ,a]
theorem mR {D D':Nat->Bool} {b:Nat}:∀ (rs:List g_) (j:Nat) (h h':Hp),look h b=look h' b->(∀ k r,rs[k]? =some r->b ∈ r.ups.map (·.1)->D (j+k)=D' (j+k))->look (li D j h rs) b=look (li D' j h' rs) b
 | [],_,_,_,he,_=>he
 | r::rs,j,e,e',he,h=>by
  simp only [li];refine mR rs (j+1) _ _ ?_ λk r' a hd=> ?_
  .by_cases hd:b ∈ r.ups.map (·.1)
   .have h0:=h 0 r rfl hd;rw [Xq3] at h0;rw [h0];cases D' j with
    |true=>exact tC hd
    |false=>exact he
   .cases D j<;>cases D' j<;>simp only [nS hd,he]
  .have:=h (k+1) r' (by simpa using a) hd;rwa [show j+(k+1)=j+1+k by omega] at this
theorem qm:∀ (a:List g_) (j:Nat) (e:eW) {D:Nat->Bool},(∀ k,k<a.length->D (j+k)=false)->jJ D j e a=e
 | [],_,_,_,_=>rfl
 |r::a,j,e,D,h=>by
  have h0:=h 0 (by simp);rw [Xq3] at h0;simp only [jJ,h0];exact qm a (j+1) e λk b=>by have:=h (k+1) (by simpa using b);rwa [show j+(k+1)=j+1+k by omega] at this
theorem kM:∀ (a:List g_) (j:Nat) (e:Hp) {D:Nat->Bool},(∀ k,k<a.length->D (j+k)=false)->li D j e a=e
 | [],_,_,_,_=>rfl
 |r::a,j,e,D,h=>by
  have h0:=h 0 (by simp);rw [Xq3] at h0;simp only [li,h0];exact kM a (j+1) e λk b=>by have:=h (k+1) (by simpa using b);rwa [show j+(k+1)=j+1+k by omega] at this
def lh (e:eW) (rs:List g_):eW:=jJ (λ_=>true) 0 e rs
def yz (h:Hp) (rs:List g_):Hp:=li (λ_=>true) 0 h rs
theorem rO (D:Nat->Bool):∀ (rs:List g_) (j d:Nat) (e:eW),jJ D (j+d) e rs=jJ (λk=>D (k+d)) j e rs
 | [],_,_,_=>rfl
 |r::rs,j,d,e=>by
  simp only [jJ];rw [show j+d+1=j+1+d by omega];exact rO D rs (j+1) d _
theorem uB (D:Nat->Bool):∀ (rs:List g_) (j d:Nat) (e:Hp),li D (j+d) e rs=li (λk=>D (k+d)) j e rs
 | [],_,_,_=>rfl
 |r::rs,j,d,e=>by
  simp only [li];rw [show j+d+1=j+1+d by omega];exact uB D rs (j+1) d _
theorem qn (e:eW) (r:g_) (a:List g_):lh e (r::a)=lh (mh e r.dst r.v) a:=by
 simp only [lh,jJ];exact rO (λ_=>true) a 0 1 _
theorem tq (h:Hp) (r:g_) (a:List g_):yz h (r::a)=yz (r.ups++h) a:=by
 simp only [yz,li];exact uB (λ_=>true) a 0 1 _
theorem sX:∀ (a:List g_) (k:Nat) (e:eW),jJ (λj=>decide (j<k)) 0 e a=lh e (a.take k)
 |a,0,e=>by
  simp only [Xk1];exact qm a 0 e λ_ _=>by simp
 | [],k+1,e=>rfl
 |r::a,k+1,e=>by
  simp only [Xx6,qn,jJ];rw [show decide (0<k+1)=true by simp];dsimp only;rw [<- sX a k];have:=rO (λj=>decide (j<k+1)) a 0 1 (mh e r.dst r.v);rw [this];congr 1;funext j;simp
theorem Gs:∀ (a:List g_) (k:Nat) (e:Hp),li (λj=>decide (j<k)) 0 e a=yz e (a.take k)
 |a,0,e=>by
  simp only [Xk1];exact kM a 0 e λ_ _=>by simp
 | [],k+1,e=>rfl
 |r::a,k+1,e=>by
  simp only [Xx6,tq,li];rw [show decide (0<k+1)=true by simp];dsimp only;rw [<- Gs a k];have:=uB (λj=>decide (j<k+1)) a 0 1 (r.ups++e);rw [this];congr 1;funext j;simp
theorem AZ (e:eW):∀ (b:List g_) (k:Nat) (r:g_),b[k]? =some r->lh e (b.take (k+1))=mh (lh e (b.take k)) r.dst r.v:=by
 intro b
 induction b generalizing e with
 |nil=>intro k r h;simp at h
 | cons a b ih=>
  intro k r h;cases k with
  |zero=>simp at h;subst h;rfl
  |succ k=>
   simp only [Xx6,qn];exact ih _ k r (by simpa using h)
theorem M7 (e:Hp):∀ (b:List g_) (k:Nat) (r:g_),b[k]? =some r->yz e (b.take (k+1))=r.ups++yz e (b.take k):=by
 intro b
 induction b generalizing e with
 |nil=>intro k r h;simp at h
 | cons a b ih=>
  intro k r h;cases k with
  |zero=>simp at h;subst h;rfl
  |succ k=>
   simp only [Xx6,tq];exact ih _ k r (by simpa using h)
section
variable {P:Program} {ap:AP} {H:bK}
structure Lw (P:Program) (ap:AP) (ops:List Oper) (i nid:Nat) (s s':RS) (recs:List g_):Prop where
 env:s'.env=lh s.env recs
 hp:s'.hp=yz s.hp recs
 feet:s'.feet=(recs.map g_.foot).reverse++s.feet
 dle:s.dfs.length<=s'.dfs.length
 bound:∀ (k:Nat) (r:g_),recs[k]? =some r->∀ b ∈ r.ups.map (·.1),b<nid+8*k+8
 sem:s'.dfs.length=s.dfs.length->s'.dfs=s.dfs/\∀ (k:Nat) (r:g_),recs[k]? =some r->∃ o,ops[i+k]? =some o/\r.dst=o.dst/\BV P ap ops.toArray o (nid+8*k) (lh s.env (recs.take k)) (yz s.hp (recs.take k)) r.rt r.rb r.v r.ups [] none
theorem Pz (p:dP P ap) (J:gj P ap H) {ops:List Oper}:∀ (l:List Oper) (i nid:Nat) (s s':RS) (c c':Cx),pZ ap H ops l nid s c= .ok (s',none) c'->c'.Ok->
  c.Ok/\(s.md= .dead->oQ s.dec s.env->l=ops.drop i->s'.md= .dead/\∃ recs:List g_,recs.length=l.length/\Lw P ap ops i nid s s' recs)
 | [],i,nid,s,s',c,c',h,hc=>by
  cases h;exact ⟨hc,λa _ _=> ⟨a,[],rfl,⟨rfl,rfl,rfl,κ _,λk r h=>by simp at h,λ_=> ⟨rfl,λk r h=>by simp at h⟩⟩⟩⟩
 | o :: r,i,nid,s,s',c,c',h,hc=>by
  simp only [pZ] at h;obtain ⟨⟨s1,M⟩,Q,O,h⟩:=R.bind_ok h;dsimp only at h;cases M with
  |some v=>cases h
  | none=>
   dsimp only at h;cases d:s1.feet with
   |nil=>rw [d] at h;cases h
   | cons ft fr=>
    rw [d] at h;dsimp only at h;split at h
    .rename_i u;obtain ⟨C,U⟩:=Pz p J r (i+1) (nid+8) s1 s' Q c' h hc;obtain ⟨z,E⟩:=oq p J O C;refine ⟨z,λa x I=> ?_⟩;have B:ops[i]? =some o:=by
      have:(ops.drop i)[0]? =some o:=by rw [<- I];rfl
      simpa using this
     have N:r=ops.drop (i+1):=by
      have:r=(ops.drop i).drop 1:=by rw [<- I];rfl
      rw [this,Xjq]
     obtain ⟨v1,rb,ups,D,hs⟩:=E a x;have e:=hs.feet rfl;rw [d] at e;simp only [List.cons.injEq] at e;rw [e.1] at u;obtain ⟨n,recs,t,f⟩:=U (by rw [hs.md,a]) (hs.dec rfl) N;refine ⟨n,{dst:=o.dst,v:=v1,rt:=p_ o.op.operands.toList++fV ops o,rb:=rb,ups:=ups}::recs,by simp [t], ?_⟩;have A:s.dfs.length<=s1.dfs.length:=by rw [hs.dfs];simp
     refine ⟨?_, ?_, ?_,Xqs A f.dle, ?_, ?_⟩
     .rw [f.env,qn,hs.env rfl]
     .rw [f.hp,tq,hs.hp]
     .rw [f.feet,hs.feet rfl];simp [g_.foot,HQ,Cq];cases o.dst<;>rfl
     .intro k q j b K;cases k with
      |zero=>
       simp at j;subst j;exact dC (List.all_eq_true.1 u b K)
      |succ k=>
       have:=f.bound k q (by simpa using j) b K;omega
     .intro Y;have W:=f.dle;obtain ⟨G,y⟩:=f.sem (by omega);have F:D= []:=by
       have:D.length=0:=by
        have:=hs.dfs;have X:s1.dfs.length=D.length+s.dfs.length:=by rw [this];simp
        omega
       exact Xq2 this
      subst F;refine ⟨by rw [G,hs.dfs];rfl, ?_⟩;intro k q j;cases k with
      |zero=>
       simp at j;subst j;exact ⟨o,B,rfl,hs.sem⟩
      |succ k=>
       obtain ⟨V,T,h5,L⟩:=y k q (by simpa using j);refine ⟨V,by rw [show i+(k+1)=i+1+k by omega];exact T,h5, ?_⟩;rw [Xx6,qn,tq];rw [hs.env rfl,hs.hp] at L;rw [show nid+8*(k+1)=nid+8+8*k by omega];exact L
    .cases h
end
end AM
namespace AM
open Go
theorem yl {md:Region.Mode} (b:Array Nat) (i:Nat):∀ (l:List Edge) (s:Nat),(l.foldl (λs e=>if Region.binds md e then s|||2^e.on|||b.getD e.on 0 else s) s).testBit i=true->
  s.testBit i=true\/∃ e ∈ l,Region.binds md e=true/\(i=e.on\/(b.getD e.on 0).testBit i=true)
 | [],s,h=> .inl h
 | e::r,s,h=>by
  simp only [Xjx] at h;rcases yl b i r _ h with a|⟨e',a,d⟩
  .split at a
   .rename_i c;simp only [Nat.testBit_or,Xvp,Nat.testBit_two_pow,decide_eq_true_eq] at a;rcases a with (a|a)|a
    .exact .inl a
    .exact .inr ⟨e,by simp,c,.inl a.symm⟩
    .exact .inr ⟨e,by simp,c,.inr a⟩
   .exact .inl a
  .exact .inr ⟨e',by simp [a],d⟩
def lD (acc:Array Nat) (o:Oper):Array Nat:=acc.push (o.after.toList.foldl (λs e=>if Region.binds .any e then s|||2^e.on|||acc.getD e.on 0 else s) 0)
theorem yp (a:Array Nat) (x:Nat):(a.push x).getD a.size 0=x:=by simp [Array.getD_eq_getD_getElem?]
def wI (ops:List Oper) (D:Nat->Bool):Prop:=∀ (k:Nat) (o:Oper),ops[k]? =some o->D k=true->∀ e ∈ o.after,Region.binds .any e=true->D e.on=true
def Tn (D:Nat->Bool) (acc:Array Nat):Prop:=∀ k,D k=true->∀ i,(acc.getD k 0).testBit i=true->D i=true
theorem HF {ops:List Oper} {D:Nat->Bool} (j:wI ops D):∀ (l:List Oper) (acc:Array Nat),Tn D acc->l=ops.drop acc.size->Tn D (l.foldl lD acc)
 | [],acc,h,_=>h
 | o ::r,acc,h,hl=>by
  simp only [Xjx];have c:ops[acc.size]? =some o:=by
   have:(ops.drop acc.size)[0]? =some o:=by rw [<- hl];rfl
   simpa using this
  refine HF j r _ ?_ ?_
  .intro k f i a;by_cases hks:k<acc.size
   .refine h k f i ?_;simpa [lD,Array.getD_eq_getD_getElem?,Array.getElem?_push,Nat.ne_of_lt hks] using a
   .by_cases hke:k=acc.size
    .subst hke;rw [lD,yp] at a;rcases yl acc i _ _ a with b|⟨e,b,p,d⟩
     .simp at b
     .have n:=j _ o c f e (by simpa using b) p;rcases d with rfl|d
      .exact n
      .exact h _ n i d
    .have:(lD acc o)[k]? =none:=by
      simp only [lD];rw [Array.getElem?_eq_none];simp;omega
     simp [Array.getD_eq_getD_getElem?,this] at a
  .have:(lD acc o).size=acc.size+1:=by simp [lD]
   rw [this,<- Xjq,<- hl];rfl
theorem Jy (ops:List Oper):Region.before ops.toArray=ops.foldl lD #[]:=by
 simp only [Region.before,<- Array.foldl_toList];rfl
theorem lU {ops:List Oper} {D:Nat->Bool} (c:wI ops D) {k i:Nat} (b:D k=true) (h:((Region.before ops.toArray).toList.getD k 0).testBit i=true):D i=true:=by
 have:=HF c ops #[] (λk _ i a=>by simp at a) (by simp);rw [<- Jy] at this;refine this k b i ?_;rw [μ] at h;rw [Array.getD_eq_getD_getElem?];simpa using h
theorem mW {a b:List Nat} {x:Nat} (c:x ∈ a) (d:x ∈ b):yS a b=true:=List.any_eq_true.2 ⟨x,c,fe.2 d⟩
structure BT (n:Nat) (bef:Nat->Nat->Bool) (recs:List g_):Prop where
 ok:∀ i j a b,recs[i]? =some a->recs[j]? =some b->i<j->(ia a.foot b.foot=true\/∃ x ∈ b.ups.map (·.1),n+8*i<=x/\x<n+8*i+8)->bef j i=true
theorem zi {n:Nat} {d:List Nat} {recs:List g_} (h:pM n d (recs.map g_.foot).reverse=true):BT n (λj i=>(d.getD j 0).testBit i) recs:=by
 refine ⟨λi j a b k l f e=> ?_⟩;simp only [pM,List.reverse_reverse,Xzk] at h;have c:=h (a.foot,i) (by rw [Xzo];simp [k]) (b.foot,j) (by rw [Xzo];simp [l]);simp only [Xvp,Xqt] at c;rcases c with (c|c)|c
 .have:Xjd i j=true:=Xqc f;rw [this] at c;cases c
 .exfalso;rw [Bool.or_eq_false_iff] at c;rcases e with e|⟨x,p,o,q⟩
  .rw [e] at c;cases c.1
  .have:=List.any_eq_false.1 c.2 x p;simp only [π,not_and] at this;exact this (Xqc o) (Xqc q)
 .exact c
section
variable {P:Program} {ap:AP} {H:bK}
theorem FR.congr {env b:eW} {hp hp':Hp} {dfs:List (Nat × List AV)} {nt:Nat} {m:aN} {S:aH} {w:World} {a:Act} (h:FR ap env hp dfs nt m S w a) (d:∀ t,b.get t=env.get t) (c:look hp'=look hp):FR ap b hp' dfs nt m S w a:=by
 refine ⟨c ▸ h.srel,λt=> ?_,c ▸ h.dfs,h.size⟩;rw [d,c];exact h.env t
def lG (listed:Array Bool):Nat->Bool:=λk=>listed.getD k false
theorem Qj {listed:Array Bool} {i:Nat} (a:i<listed.size) (k:Nat):lG (listed.setIfInBounds i true) k=(if k=i then true else lG listed k):=by
 simp only [lG,Array.getD_eq_getD_getElem?];by_cases h:k=i
 .subst h;rw [if_pos rfl,Array.getElem?_setIfInBounds_self_of_lt a];rfl
 .rw [if_neg h,Array.getElem?_setIfInBounds_ne (λe=>h e.symm)]
def xc (n:Nat) (D:Nat->Bool):Nat:=((Xqm n).filter λi=> !D i).length
theorem vN {D D':Nat->Bool} {i:Nat} (c:D i=false) (b:∀ k,D' k=if k=i then true else D k):∀ (l:List Nat),l.Nodup->i ∈ l->(l.filter λk=> !D k).length=(l.filter λk=> !D' k).length+1
 | [],_,h=>by simp at h
 | a::r,hn,h=>by
  rw [Xkv] at hn;by_cases ha:a=i
  .subst ha;have hsame:r.filter (λk=> !D k)=r.filter (λk=> !D' k):=by
    refine List.filter_congr λk j=> ?_
    have:k ≠ a:=λe=>hn.1 (e ▸ j)
    rw [b k,if_neg this]
   have d:D' a=true:=by rw [b a,if_pos rfl]
   simp [c,d,hsame]
  .have f:=vN c b r hn.2 (by simpa [Ne.symm ha] using h);have:D' a=D a:=by rw [b a,if_neg ha]
   simp only [List.filter_cons,this];split<;>simp [f]
theorem Oi {ops:List Oper} (h:nO ops=true) {listed:Array Bool} (j:listed.size=ops.length) (b:Region.ready .any ops.toArray listed= []):∀ k,k<ops.length->lG listed k=true:=by
 intro k
 induction k using Nat.strongRecOn with
 | _ k ih=>
  intro d;cases hd:lG listed k with
  |true=>rfl
  | false=>
   exfalso;have a:k ∈ Region.ready .any ops.toArray listed:=by
    simp only [Region.ready,Xvq,Yxo,Xxg];refine ⟨d, ?_⟩;have i:listed.getD k true=false:=by
     simp only [lG,Array.getD_eq_getD_getElem?] at hd ⊢;rw [Array.getElem?_eq_getElem (by omega)] at hd ⊢;simpa using hd
    have l:ops.toArray[k]? =some ops[k]:=by simp [d]
    rw [i,l];simp only [Bool.not_false,Bool.true_and,Xjj,Xzy,Array.all_eq_true',Xvp,Xqt];intro e n;cases c:Region.binds .any e with
    |false=>exact .inl rfl
    |true=>
     right;simp only [nO,Xzk] at h;have f:=h (ops[k],k) (by rw [Xzo];simp [d]) e (by simpa using n);rw [c] at f;simp only [Xxi,Xx2] at f;have o:=dC f;exact ih e.on o (by omega)
   rw [b] at a;cases a
theorem zq {ops:List Oper} {listed:Array Bool} (d:listed.size=ops.length) {i:Nat} (h:i ∈ Region.ready .any ops.toArray listed):∃ o,ops[i]? =some o/\lG listed i=false/\i<ops.length/\∀ e ∈ o.after,Region.binds .any e=true->lG listed e.on=true:=by
 simp only [Region.ready,Xvq,Yxo,Xxg,π,Xqt] at h;obtain ⟨c,a,b⟩:=h;have k:ops.toArray[i]? =some ops[i]:=by simp [c]
 rw [k] at b;simp only [Xjj,Xzy,Array.all_eq_true',Xvp,Xqt] at b;refine ⟨ops[i],ν c, ?_,c,λe j f=> ?_⟩
 .simp only [lG,Array.getD_eq_getD_getElem?] at a ⊢;rw [Array.getElem?_eq_getElem (by omega)] at a ⊢;simpa using a
 .rcases b e j with h|h
  .rw [f] at h;cases h
  .exact h
end
end AM
namespace AM
open Go
theorem LW {a b:rF} {x:Nat} (h:x ∈ a.wt) (c:x ∈ b.rt):ia a b=true:=by simp [ia,mW h c]
theorem DR {a b:rF} {x:Nat} (h:x ∈ a.wt) (c:x ∈ b.wt):ia a b=true:=by simp [ia,mW h c]
theorem LV {a b:rF} {x:Nat} (h:x ∈ a.rt) (c:x ∈ b.wt):ia a b=true:=by simp [ia,mW h c]
theorem JE {a b:rF} {x:Nat} (h:x ∈ a.wb) (c:x ∈ b.rb):ia a b=true:=by simp [ia,mW h c]
theorem AR {a b:rF} {x:Nat} (h:x ∈ a.wb) (c:x ∈ b.wb):ia a b=true:=by simp [ia,mW h c]
theorem JD {a b:rF} {x:Nat} (h:x ∈ a.rb) (c:x ∈ b.wb):ia a b=true:=by simp [ia,mW h c]
theorem pI {d:Option Nat} {t:Nat} (h:d=some t):t ∈ HQ d:=by subst h;simp [HQ]
section
variable {P:Program} {ap:AP} {H:bK}
structure UX (ap:AP) (ops:List Oper) (recs:List g_) (e0:eW) (hp0:Hp) (dfs:List (Nat × List AV)) (nt:Nat) (m0:aN) (S0:aH) (w0:World) (listed:Array Bool) (m:aN) (S:aH) (w:World) (a:Act):Prop where
 sz:listed.size=ops.length
 cl:wI ops (lG listed)
 fr:Fr (look hp0) m0 S0 w0 (look (li (lG listed) 0 hp0 recs)) m S w
 rel:FR ap (jJ (lG listed) 0 e0 recs) (li (lG listed) 0 hp0 recs) dfs nt m S w a
theorem DW {ops:List Oper} {recs:List g_} {s:RS} {z nt:Nat} (hnt:∀ o ∈ ops,∀ d,o.dst=some d->d<nt) (hlen:recs.length=ops.length)
  (hbound:∀ (k:Nat) (r:g_),recs[k]? =some r->∀ b ∈ r.ups.map (·.1),b<z+8*k+8)
  (hsem:∀ (k:Nat) (r:g_),recs[k]? =some r->∃ o,ops[k]? =some o/\r.dst=o.dst/\∀ (D:Nat->Bool) m S w (a:Act),bE ap (look (li D 0 s.hp recs)) m S w->(∀ t ∈ r.rt,VR (look (li D 0 s.hp recs)) m S ((lh s.env (recs.take k)).get t) (a.tmps.getD t undef))->
   (∀ b ∈ r.rb,look (yz s.hp (recs.take k)) b=look (li D 0 s.hp recs) b)->(∀ j,j<8->look (li D 0 s.hp recs) (z+8*k+j)=none)->(∀ j,((Region.before ops.toArray).toList.getD j 0).testBit k=true->D j=false)->
   ∀ (Q:Exit->Act->World->Prop) (K:Act->World->Prop),kw ap o (look (li D 0 s.hp recs)) m S w a r.v r.ups [] Q K none->UU P ops.toArray Q o K a w)
  (hord:BT z (λj i=>((Region.before ops.toArray).toList.getD j 0).testBit i) recs) (hback:nO ops=true) (hn0:∀ b B,look s.hp b=some B->b<z) {m0:aN} {S0:aH} {w0:World} {Q:Exit->Act->World->Prop}
  (hQ:∀ m S w a,Fr (look s.hp) m0 S0 w0 (look (yz s.hp recs)) m S w->FR ap (lh s.env recs) (yz s.hp recs) s.dfs nt m S w a->Q .normal a w):
  ∀ (l:Nat) (listed:Array Bool) (m:aN) (S:aH) (w:World) (a:Act),UX ap ops recs s.env s.hp s.dfs nt m0 S0 w0 listed m S w a->xc ops.length (lG listed)<=l->wpAny P .any ops.toArray Q l listed a w:=by
 have hdone:∀ (listed:Array Bool) (m:aN) (S:aH) (w:World) (a:Act),UX ap ops recs s.env s.hp s.dfs nt m0 S0 w0 listed m S w a->(∀ k,k<ops.length->lG listed k=true)->Q .normal a w:=by
  intro listed m S w a p u;have hh:∀ b,look (yz s.hp recs) b=look (li (lG listed) 0 s.hp recs) b:=λb=>
   mR recs 0 _ _ rfl λk r c _=>by rw [u (0+k) (by have:=(List.getElem?_eq_some_iff.1 c).1;omega)]
  have Z:∀ t,(lh s.env recs).get t=(jJ (lG listed) 0 s.env recs).get t:=λt=>
   kF recs 0 _ _ rfl λk r c _=>by rw [u (0+k) (by have:=(List.getElem?_eq_some_iff.1 c).1;omega)]
  have C:=funext hh;exact hQ m S w a (C ▸ p.fr) (p.rel.congr Z C)
 intro l
 induction l with
 | zero=>
  intro listed m S w a p hm;have u:∀ k,k<ops.length->lG listed k=true:=by
   intro k c;cases hd:lG listed k with
   |true=>rfl
   |false=>
    have L:k ∈ (Xqm ops.length).filter λi=> !lG listed i:=by simp [c,hd]
    have:(Xqm ops.length).filter (λi=> !lG listed i)= []:=Xq2 (Nat.le_zero.1 hm);rw [this] at L;cases L
  refine ⟨?_,hdone listed m S w a p u⟩;cases hr:Region.ready .any ops.toArray listed with
  |nil=>rfl
  |cons i r=>
   obtain ⟨o,_,n,h3,_⟩:=zq p.sz (i:=i) (by rw [hr];simp);rw [u i h3] at n;cases n
 | succ l ih=>
  intro listed m S w a p hm;refine ⟨λY=>hdone listed m S w a p (Oi hback p.sz Y),λi hi=> ?_⟩;obtain ⟨o,I,F,W,hedges⟩:=zq p.sz hi;have v:recs[i]? =some recs[i]:=ν (by omega);generalize recs[i]=r at v;obtain ⟨o',X,A,hstep⟩:=hsem i r v;rw [I] at X;cases X;have R:i<listed.size:=by rw [p.sz];exact W
  have f:=Qj R;have N:wI ops (lG (listed.setIfInBounds i true)):=by
   intro k o2 c hd e Z y;rw [f] at hd ⊢;split
   .rfl
   .split at hd
    .rename_i G;subst G;rw [I] at c;cases c;exact hedges e Z y
    .exact p.cl k o2 c hd e Z y
  have M:∀ k q,recs[k]? =some q->k<i->(ia q.foot r.foot=true\/∃ x ∈ r.ups.map (·.1),z+8*k<=x/\x<z+8*k+8)->lG listed k=true:=by
   intro k q c G hc;have E:=hord.ok k i q r c v G hc;have n:=lU N (k:=i) (i:=k) (by rw [f,if_pos rfl]) E;rw [f,if_neg (by omega)] at n;exact n
  have hhigh:∀ k q,recs[k]? =some q->i<k->(ia r.foot q.foot=true\/∃ x ∈ q.ups.map (·.1),z+8*i<=x/\x<z+8*i+8)->lG listed k=false:=by
   intro k q c G hc;cases hd:lG listed k with
   |false=>rfl
   |true=>
    have E:=hord.ok i k r q v c G hc;have n:=lU p.cl hd E;rw [F] at n;cases n
  have O:∀ k q,recs[k]? =some q->(k<i->ia q.foot r.foot=true)->(i<k->ia r.foot q.foot=true)->decide (k<i)=lG listed k:=by
   intro k q c E n;rcases Xz6 k i with h|h|h
   .rw [M k q c h (.inl (E h))];simp [h]
   .subst h;rw [F];simp
   .rw [hhigh k q c h (.inl (n h))];simp;omega
  have hagr':∀ k q,recs[k]? =some q->(k<i->ia q.foot r.foot=true)->(i<k->ia r.foot q.foot=true)->lG (listed.setIfInBounds i true) k=decide (k<i+1):=by
   intro k q c E n;rw [f];rcases Xz6 k i with h|h|h
   .rw [if_neg (by omega),M k q c h (.inl (E h))];simp;omega
   .subst h;simp
   .rw [if_neg (by omega),hhigh k q c h (.inl (n h))];simp;omega
  have V:∀ t ∈ r.rt,(lh s.env (recs.take i)).get t=(jJ (lG listed) 0 s.env recs).get t:=by
   intro t J;rw [<- sX];refine kF recs 0 _ _ rfl λk q c hd=> ?_
   rw [Ψ];exact O k q c (λ_=>LW (pI hd) J) (λ_=>LV J (pI hd))
  have hhp:∀ b ∈ r.rb,look (yz s.hp (recs.take i)) b=look (li (lG listed) 0 s.hp recs) b:=by
   intro b y;rw [<- Gs];refine mR recs 0 _ _ rfl λk q c hd=> ?_
   rw [Ψ];exact O k q c (λ_=>JE hd y) (λ_=>JD y hd)
  have hfresh:∀ j,j<8->look (li (lG listed) 0 s.hp recs) (z+8*i+j)=none:=by
   intro j hj;have E:look (li (lG listed) 0 s.hp recs) (z+8*i+j)=look (li (λ_=>false) 0 s.hp recs) (z+8*i+j):=by
    refine mR recs 0 _ _ rfl λk q c hd=> ?_
    rw [Ψ];have y:=hbound k q c _ hd;rcases Xz6 k i with h|h|h
    .omega
    .subst h;exact F
    .exact hhigh k q c h (.inr ⟨_,hd,by omega,by omega⟩)
   rw [E,kM recs 0 _ (λ_ _=>rfl)];cases y:look s.hp (z+8*i+j) with
   |none=>rfl
   |some B=>have:=hn0 _ _ y;omega
  have T:ops.toArray[i]? =some o:=by simpa using I
  have hgoal:UU P ops.toArray Q o (wpAny P .any ops.toArray Q l (listed.setIfInBounds i true)) a w:=by
   refine hstep (lG listed) m S w a p.rel.srel (λt J=>by rw [V t J];exact p.rel.env t) hhp hfresh (λj hj=>by
    cases hd:lG listed j with
    |false=>rfl
    |true=>
     have n:=lU p.cl hd hj;rw [F] at n;cases n) Q _ ?_
   intro cv m' S' w' ds E n h3 h4;have hF:=p.rel.put (hnt o (Xqn I)) E n h3 h4;rw [jF] at n;rw [Xqb] at hF;have he':∀ t,(jJ (lG (listed.setIfInBounds i true)) 0 s.env recs).get t=(mh (jJ (lG listed) 0 s.env recs) o.dst r.v).get t:=by
    intro t;by_cases J:o.dst=some t
    .have h5:(jJ (lG (listed.setIfInBounds i true)) 0 s.env recs).get t=(jJ (λj=>decide (j<i+1)) 0 s.env recs).get t:=by
      refine kF recs 0 _ _ rfl λk q c hd=> ?_
      rw [Ψ];have U:t ∈ r.foot.wt:=pI (A.trans J);exact hagr' k q c (λ_=>DR (pI hd) U) (λ_=>DR U (pI hd))
     rw [h5,sX,AZ _ _ _ _ v,A,J,ib,ib]
    .rw [yq J];refine kF recs 0 _ _ rfl λk q c hd=> ?_
     rw [Ψ,f,if_neg]
     rintro rfl
     rw [v] at c;cases c;exact J (A ▸ hd)
   have C:look (li (lG (listed.setIfInBounds i true)) 0 s.hp recs)=look (r.ups++li (lG listed) 0 s.hp recs):=by
    funext b;by_cases y:b ∈ r.ups.map (·.1)
    .have h5:look (li (lG (listed.setIfInBounds i true)) 0 s.hp recs) b=look (li (λj=>decide (j<i+1)) 0 s.hp recs) b:=by
      refine mR recs 0 _ _ rfl λk q c hd=> ?_
      rw [Ψ];exact hagr' k q c (λ_=>AR hd y) (λ_=>AR y hd)
     rw [h5,Gs,M7 _ _ _ _ v];exact tC y
    .rw [nS y];refine mR recs 0 _ _ rfl λk q c hd=> ?_
     rw [Ψ,f,if_neg]
     rintro rfl
     rw [v] at c;cases c;exact y hd
   refine ih _ m' S' w' _ ⟨by rw [Array.size_setIfInBounds];exact p.sz,N, ?_,hF.congr he' C⟩ ?_
   .rw [C];exact p.fr.trans n
   .have:=vN F f (Xqm ops.length) Xwy (by simp [W]);simp only [xc] at hm ⊢;omega
  simp only [wpOp,T];exact hgoal
theorem L9 {ops:List Oper} {recs:List g_} {s s':RS} {p nt:Nat} (q:∀ o ∈ ops,∀ d,o.dst=some d->d<nt) (f:recs.length=ops.length) (e:Lw P ap ops 0 p s s' recs) (l:s'.dfs.length=s.dfs.length)
  (hord:BT p (λj i=>((Region.before ops.toArray).toList.getD j 0).testBit i) recs) (hback:nO ops=true) (hn0:∀ b B,look s.hp b=some B->b<p) {m0:aN} {S0:aH} {w0:World} {Q:Exit->Act->World->Prop}
  (hQ:∀ m S w a,Fr (look s.hp) m0 S0 w0 (look (yz s.hp recs)) m S w->FR ap (lh s.env recs) (yz s.hp recs) s.dfs nt m S w a->Q .normal a w):
  ∀ (fuel:Nat) (listed:Array Bool) (m:aN) (S:aH) (w:World) (a:Act),UX ap ops recs s.env s.hp s.dfs nt m0 S0 w0 listed m S w a->xc ops.length (lG listed)<=fuel->wpAny P .any ops.toArray Q fuel listed a w:=by
 obtain ⟨_,c⟩:=e.sem l;refine DW q f e.bound (λk r A=> ?_) hord hback hn0 hQ;obtain ⟨o,t,y,u⟩:=c k r A;rw [Ψ] at t;exact ⟨o,t,y,λD m S w a v C h n _ Q K z=>u _ m S w a v C (λb x B E=>by rw [<- h b x];exact E) n Q K z⟩
def lw (ap:AP) (base:Nat) (keep:List Nat) (hp0:Hp) (m:aN) (S:aH) (w:World) (nt:Nat) (s':St) (Q:Exit->Act->World->Prop):a_->Prop
 | .panic v=>match (cH v).isEmpty with
  |true=> ∀ s1:St,s'=norm base keep s1->sF ap hp0 m S w nt s1.env s1.hp s1.dfs Q (some v)
  |false=>sF ap hp0 m S w nt s'.env s'.hp s'.dfs Q (some v)
 | .normal=> ∀ s1:St,s'=norm base keep s1->sF ap hp0 m S w nt s1.env s1.hp s1.dfs Q none
 |_=>True
theorem Db (z:dP P ap) (F:P.follows .mixedOrders=true) (J:gj P ap H) {ops:List Oper} {l:Bool} {nt base:Nat} {keep:List Nat} (A:∀ o ∈ ops,∀ d,o.dst=some d->d<nt) {s:St} {e:a_} {s':St} {c T:Cx} {id:Nat}
  (h:Da ap H base keep ops l s c= .ok (e,s') T) (hc:T.Ok):c.Ok/\(s.md= .dead->s'.md= .dead/\(∀ m S w a,FR ap s.env s.hp s.dfs nt m S w a->∀ Q,
   lw ap base keep s.hp m S w nt s' Q e->(Code.region id ops.toArray l).wp P Q a w)):=by
 unfold Da at h;obtain ⟨⟨s1,p⟩,Y,I,h⟩:=R.bind_ok h;dsimp only at h;have r:∀ b B,look s.hp b=some B->b<fK s.hp:=λb B q=>uQ q
 cases p with
 | some v=>
  cases l with
  |true=>cases h
  | false=>
   dsimp only at h;split at h
   .rename_i E;cases h;obtain ⟨f,hs⟩:=qC z J A ops 0 _ _ _ _ _ _ I hc;refine ⟨f,λi=> ?_⟩;obtain ⟨x,D⟩:=hs i (λt b q=>by cases q) rfl r;refine ⟨x,λm S w a j Q y=>wp_region ?_⟩;simp only [lw,E] at y;have:=D m S w a j Q (y _ rfl);rw [<- Xwr] at this;simpa using this
   .rename_i E;cases h;obtain ⟨f,hs⟩:=qC z J A ops 0 _ _ _ _ _ _ I hc;refine ⟨f,λi=> ?_⟩;obtain ⟨x,D⟩:=hs i (λt b q=>by cases q) rfl r;refine ⟨x,λm S w a j Q y=>wp_region ?_⟩;simp only [lw,E] at y;have:=D m S w a j Q y;rw [<- Xwr] at this;simpa using this
 | none=>
  dsimp only at h;split at h
  .rename_i hcond;cases h;cases l with
   |false=>
    obtain ⟨f,hs⟩:=qC z J A ops 0 _ _ _ _ _ _ I hc;refine ⟨f,λi=> ?_⟩;obtain ⟨x,D⟩:=hs i (λt b q=>by cases q) rfl r;refine ⟨x,λm S w a j Q y=>wp_region ?_⟩;have:=D m S w a j Q (y _ rfl);rw [<- Xwr] at this;simpa using this
   | true=>
    obtain ⟨f,hs⟩:=Pz z J ops 0 _ _ _ _ _ I hc;refine ⟨f,λi=> ?_⟩;obtain ⟨x,recs,G,n⟩:=hs i (λt b q=>by cases q) rfl;refine ⟨x,λm S w a j Q y=>wp_region_any F ?_⟩;simp only [Xxi,Xx2,π] at hcond;obtain ⟨⟨O,hback⟩,u⟩:=hcond;have u:=aG u;rw [n.feet,List.append_nil] at O;have L:=y _ rfl;have N:=(n.sem u).1;have C:lG (Array.replicate ops.length false)=λ_=>false:=by
     funext k;simp only [lG,Array.getD_eq_getD_getElem?];by_cases U:k<ops.length<;>simp [U]
    have M:ops.toArray.size=ops.length:=by simp
    rw [M];refine L9 A G n u (zi O) hback r (m0:=m) (S0:=S) (w0:=w) (Q:=Q) ?_ ops.length _ m S _ a ⟨by simp, ?_, ?_, ?_⟩ ?_
    .intro X S' w' V K W;refine L X S' w' V ?_ ?_
     .rw [n.hp];exact K
     .rw [n.hp,n.env,N];exact W
    .intro k o U hd;rw [C] at hd;cases hd
    .rw [C,kM recs 0 _ (λ_ _=>rfl)];exact ⟨Ge.refl _ _,eO.refl _,rfl,rfl,rfl,κ _,λ_ _ _=>rfl,λ_ B h=> .inr ⟨B,h,rfl⟩,λ_ _ _ h=> .inl h⟩
    .rw [C,kM recs 0 _ (λ_ _=>rfl),qm recs 0 _ (λ_ _=>rfl)];exact ⟨⟨j.srel.inj,λb B q=>j.srel.blk b B q|>λ⟨x,D,K⟩=> ⟨x,D,K⟩,j.srel.sealed,j.srel.own,j.srel.glob⟩,j.env,j.dfs,j.size⟩
    .exact Xqs (List.length_filter_le _ _) (by simp)
  .cases h
end
end AM
namespace AM
open Go
def ww (acc:List Nat) (b:Nat):List Nat:=if lp acc b then acc else acc++ [b]
theorem Jr (a:List Nat) (b:Nat) (h:a.Nodup):(ww a b).Nodup/\∃ t,ww a b=a++t:=by
 unfold ww;split
 .exact ⟨h,[],by simp⟩
 .rename_i d;refine ⟨?_,[b],rfl⟩;rw [List.nodup_append];refine ⟨h,by simp, ?_⟩;intro x f y c e;simp at c;subst c;subst e;exact d (fe.2 f)
theorem lB:∀ (l a:List Nat),a.Nodup->(l.foldl ww a).Nodup/\∃ t,l.foldl ww a=a++t
 | [],a,h=> ⟨h,[],by simp⟩
 |b::r,a,h=>by
  simp only [Xjx];obtain ⟨c,e,d⟩:=Jr a b h;obtain ⟨i,f,j⟩:=lB r _ c;exact ⟨i,e++f,by rw [j,d,Xqe]⟩
theorem xF:∀ (l a:List Nat),l.Nodup->(∀ x ∈ l,x ∉ a)->l.foldl ww a=a++l
 | [],a,_,_=>by simp
 | b::r,a,h,hd=>by
  rw [Xkv] at h;have e:lp a b=false:=by
   cases c:lp a b with
   |false=>rfl
   |true=>exact absurd (fe.1 c) (hd b (by simp))
  simp only [Xjx];have:ww a b=a++ [b]:=by simp [ww,e]
  rw [this,xF r _ h.2]
  .simp
  .intro x d c;rcases List.mem_append.1 c with c|c
   .exact hd x (by simp [d]) c
   .simp at c;subst c;exact h.1 d
theorem Ko (l:List Nat):eB l=l.foldl ww []:=rfl
theorem GN (n:Nat) (l:List Nat):(eB (Xqm n++l)).Nodup/\∃ t,eB (Xqm n++l)=Xqm n++t:=by
 rw [Ko,List.foldl_append,xF (Xqm n) [] Xwy (by simp),Xqb];exact lB l _ Xwy
theorem oX (rd:bW):∀ (n:Nat) (l:List Nat),l.Nodup->(lW rd n l).Nodup/\∃ t,lW rd n l=l++t
 |0,l,h=> ⟨h,[],by simp [lW]⟩
 | n+1,l,h=>by
  simp only [lW];split
  .exact ⟨h,[],by simp⟩
  .obtain ⟨c,e,d⟩:=lB (l.flatMap λb=>match rd b with|some B=>(match B.pr with|true=> []|false=>bD B.cells)|none=> []) l h;obtain ⟨f,i,a⟩:=oX rd n _ c;refine ⟨f,e++i, ?_⟩;exact a.trans (by rw [d,Xqe])
theorem Bf {f:Nat->AV}:∀ (keep:List Nat) (t:Nat),look (keep.map λt=>(t,f t)) t=if t ∈ keep then some (f t) else none
 | [],t=>by simp [look]
 | a::r,t=>by
  simp only [Xqf,look,Bf r t];cases h:Xqk a t with
  |true=>have:=aG h;subst this;simp
  |false=>
   have b:t ≠ a:=by intro e;subst e;simp at h
   simp [b]
theorem vJ {rd:bW} {mk:Nat->aM->aM}:∀ (ids:List Nat) (j p:Nat),look ((ids.zipIdx j).filterMap λ(b,p)=>(rd b).map λB=>(p,mk p B)) p=if j<=p then (ids[p - j]?).bind λb=>(rd b).map (mk p) else none
 | [],j,p=>by simp [look]
 | a ::r,j,p=>by
  have f:=vJ (rd:=rd) (mk:=mk) r (j+1) p;rw [List.zipIdx_cons];cases c:rd a with
  | none=>
   rw [Xv6 (by simp [c]),f];by_cases hj:j+1<=p
   .rw [if_pos hj,if_pos (by omega)];obtain ⟨d,hd⟩:∃ d,p - j=d+1:=⟨p - j - 1,by omega⟩
    rw [hd,Xjl,show p - (j+1)=d by omega]
   .rw [if_neg hj];by_cases hjp:j<=p
    .rw [if_pos hjp,show p - j=0 by omega];simp [c]
    .rw [if_neg hjp]
  | some B=>
   rw [Xv7 (by simp [c];rfl)];simp only [look];cases h:Xqk j p with
   |true=>have:=aG h;subst this;simp [c]
   | false=>
    have i:j ≠ p:=by intro e;subst e;simp at h
    simp only [f];by_cases hj:j+1<=p
    .rw [if_pos hj,if_pos (by omega)];obtain ⟨d,hd⟩:∃ d,p - j=d+1:=⟨p - j - 1,by omega⟩
     rw [hd,Xjl,show p - (j+1)=d by omega]
    .rw [if_neg hj,if_neg (by omega)]
theorem Bl:∀ {l:List Nat},l.Nodup->nV l=true
 | [],_=>rfl
 |b::r,h=>by
  rw [Xkv] at h;simp only [nV,π,Xqt];refine ⟨?_,Bl h.2⟩;cases a:lp r b with
  |false=>rfl
  |true=>exact absurd (fe.1 a) h.1
section
variable {P:Program} {ap:AP} {H:bK}
theorem DC {g g':bW} {m a:aN} {S S':aH} {ρ:Nat->Nat->Option (Nat × Nat)} (b:eO S S') (h:oy g m g' a ρ):∀ {l:List (Nat × List AV)} {ds:List Deferred},eE g m S l ds->eE g' a S' (l.map λd=>(d.1,iP ρ d.2)) ds
 | [],[],_=>by simp [eE]
 |d::r,cd::cr,p=>by
  simp only [eE] at p;obtain ⟨⟨cap,c,e⟩,f⟩:=p;simp only [Xqf,eE];exact ⟨⟨cap,c,iB b h _ e⟩,DC b h f⟩
 | [],_::_,p=>by simp [eE] at p
 |_::_,[],p=>by simp [eE] at p
theorem kU {h0:List aM} {keep:List Nat} {s:St} {nt:Nat} {m m0:aN} {S S0:aH} {w w0:World} {a:Act} (c:Fr (aW h0) m0 S0 w0 (look s.hp) m S w) (C:FR ap s.env s.hp s.dfs nt m S w a):
  ∃ m',Fr (aW h0) m0 S0 w0 (look (norm h0.length keep s).hp) m' S w/\FR ap (norm h0.length keep s).env (norm h0.length keep s).hp (norm h0.length keep s).dfs nt m' S w a:=by
 obtain ⟨_,t0,O⟩:=oX (look s.hp) 20 (Xqm h0.length) Xwy;generalize hroots:t0++(yc keep s.env++s.dfs.flatMap (λd=>bD d.2))=roots;have hroots':lW (look s.hp) 20 (Xqm h0.length)++yc keep s.env++s.dfs.flatMap (λd=>bD d.2)=Xqm h0.length++roots:=by rw [<- hroots,O];simp only [Xqe]
 obtain ⟨R,t1,L⟩:=GN h0.length roots;obtain ⟨V,t2,M⟩:=oX (look s.hp) 20 _ R;rw [L,Xqe] at M;have hsome:∀ b,b<h0.length->∃ B0 B,aW h0 b=some B0/\look s.hp b=some B/\B.esz=B0.esz/\((B.ver=B0.ver/\m b=m0 b)\/B0.ver<B.ver):=by
  intro b z;obtain ⟨B,l,n⟩:=c.ge b h0[b] (by simp [aW,z]);exact ⟨h0[b],B,by simp [aW,z],l,n⟩
 generalize k:(lW (look s.hp) 20 (eB (Xqm h0.length++roots))).filter (λb=>(look s.hp b).isSome)=ids;have U:ids.Nodup:=by rw [<- k];exact V.filter _
 have D:=Bl U;have y:∃ t,ids=Xqm h0.length++t:=by
  rw [<- k,L,M,List.filter_append];refine ⟨_,congrArg (· ++_) ?_⟩;rw [List.filter_eq_self];intro b z;obtain ⟨_,B,_,n,_⟩:=hsome b (by simpa using z);simp [n]
 obtain ⟨t,y⟩:=y;have u:∀ b,b<h0.length->ids[b]? =some b:=by
  intro b z;rw [y,Xxe (by simpa using z)];simp [z]
 have J:∀ (p b:Nat),ids[p]? =some b->∃ B,look s.hp b=some B:=by
  intro p b hp;have:=Xqn hp;rw [<- k,Xvq] at this;exact Option.isSome_iff_exists.1 this.2
 let ρ:Nat->Nat->Option (Nat × Nat):=λb v=>match look s.hp b with
  |some B=>match Xqk B.ver v with
   |true=>(lZ ids b).map λp=>(p,match Xjd p h0.length with|true=>v|false=>0)
   |false=>none
  |none=>none
 let mk:Nat->aM->aM:=λp B=> {B with cells:=(match B.pr with|true=>B.cells|false=>iP ρ B.cells),ver:=match Xjd p h0.length with|true=>B.ver|false=>0}
 have hnorm:norm h0.length keep s=⟨keep.map λt=>(t,ren ρ (s.env.get t)),ids.zipIdx.filterMap λ(b,p)=>(look s.hp b).map λB=>(p,mk p B),s.md,s.dfs.map λd=>(d.1,iP ρ d.2)⟩:=by
  unfold norm;simp only [hroots',k];rfl
 rw [hnorm];dsimp only;have A:∀ p,look (ids.zipIdx.filterMap λ(b,p)=>(look s.hp b).map λB=>(p,mk p B)) p=(ids[p]?).bind λb=>(look s.hp b).map (mk p):=by
  intro p;rw [vJ (rd:=look s.hp) (mk:=mk) ids 0 p,if_pos (Xqo _),Nat.sub_zero]
 generalize (ids.zipIdx.filterMap λ(b,p)=>(look s.hp b).map λB=>(p,mk p B))=hp2 at A;have i:∀ (p:Nat) (B2:aM),look hp2 p=some B2->∃ b B,ids[p]? =some b/\look s.hp b=some B/\B2=mk p B:=by
  intro p B2 h;rw [A] at h;cases hp:ids[p]? with
  |none=>rw [hp] at h;cases h
  |some b=>
   rw [hp] at h;obtain ⟨B,K⟩:=J p b hp;simp only [Xvf,K,Xjj,Option.some.injEq] at h;exact ⟨b,B,rfl,K,h.symm⟩
 let m2:aN:=λp=>m (ids.getD p 0)
 have j:∀ (p b:Nat),ids[p]? =some b->m2 p=m b:=by
  intro p b hp;show m (ids.getD p 0)=_;rw [μ,hp];rfl
 have x:oy (look s.hp) m (look hp2) m2 ρ:=by
  intro b ver p ver' h B K Y;simp only [ρ,K] at h;split at h
  .rename_i G;have G:=aG G;simp only [Xqq,Prod.mk.injEq] at h;obtain ⟨q,E,rfl,rfl⟩:=h;have E:=mT E;refine ⟨mk q B, ?_, ?_,λ_=> ⟨G,j q b E,rfl⟩⟩
   .rw [A,E];simp [K]
   .simp only [mk];split
    .omega
    .exact κ _
  .cases h
 have F:∀ (p q b:Nat),ids[p]? =some b->ids[q]? =some b->p=q:=by
  intro p q b hp E;have e1:=lK D hp;rw [lK D E] at e1;cases e1;rfl
 refine ⟨m2, ?_, ?_, ?_, ?_,C.size⟩
 .refine ⟨?_,c.sle,c.os,c.tape,c.output,c.size,c.rest, ?_,c.sealN⟩
  .intro b B0 z;have r:b<h0.length:=(List.getElem?_eq_some_iff.1 z).1;obtain ⟨B0',B,l,n,N,W⟩:=hsome b r;rw [z] at l;cases l;have T:Xjd b h0.length=true:=Xqc r;refine ⟨mk b B,by rw [A,u b r];simp [n],N, ?_⟩;simp only [mk,T];rw [j b b (u b r)];exact W
  .intro p B2 hp;obtain ⟨b,B,l,n,rfl⟩:=i p B2 hp;rw [j p b l];rcases c.img b B n with h|⟨B0,N,W⟩
   .exact .inl h
   .have r:b<h0.length:=(List.getElem?_eq_some_iff.1 N).1;have:=F p b b l (u b r);subst this;exact .inr ⟨B0,N,W⟩
 .refine ⟨?_, ?_,C.srel.sealed, ?_,C.srel.glob⟩
  .intro p q B2 B2' hp E e;obtain ⟨b,B,l,n,rfl⟩:=i p B2 hp;obtain ⟨b',B',I,Q,rfl⟩:=i q B2' E;rw [j p b l,j q b' I] at e;have:=C.srel.inj b b' B B' n Q e;subst this;exact F p q b l I
  .intro p B2 hp;obtain ⟨b,B,l,n,rfl⟩:=i p B2 hp;rw [j p b l];obtain ⟨⟨cur,e,vs,rest,k1,k2,Z,k4,k5,k6⟩,k7,X⟩:=C.srel.blk b B n;cases f:B.pr with
   |true=>exact ⟨⟨cur,e,vs,rest,k1,k2,λ_=>by simpa [mk,f] using Z f,by simpa [mk,f] using bz _ (Z f),k5,k6⟩,k7,by simpa [mk,f] using X⟩
   | false=>
    have G:=iB (eO.refl S) x _ k4;exact ⟨⟨cur,e,vs,rest,k1,k2,λh=>by simp [mk,f] at h,by simpa [mk,f] using G,k5,k6⟩,k7,by
     have:(mk p B).cells.length=B.cells.length:=by simp only [mk,f];rw [bA k4,bA G]
     rw [this];exact X⟩
  .intro p B2 hp o v ho;obtain ⟨b,B,l,n,rfl⟩:=i p B2 hp;rw [j p b l] at ho;exact C.srel.own b B n o v ho
 .intro t;simp only [eW.get,Bf];by_cases ht:t ∈ keep
  .rw [if_pos ht];exact um (eO.refl S) x _ (C.env t)
  .rw [if_neg ht];simp [VR]
 .exact DC (eO.refl S) x C.dfs
end
end AM
namespace AM
open Go
mutual
theorem sG {g g':bW} {m n:aN} {S S':aH} (i:eO S S'):∀ (x:AV) {v:Value},(∀ b ∈ cH x,g' b=g b/\n b=m b)->VR g m S x v->VR g' n S' x v
 | .int _ _,_,_,p=>by simpa only [VR,PR] using p
 | .bool _,_,_,p=>by simpa only [VR,PR] using p
 | .str _,_,_,p=>by simpa only [VR,PR] using p
 | .nilS,_,_,p=>by simpa only [VR,PR] using p
 | .nilP,_,_,p=>by simpa only [VR,PR] using p
 | .nilF,_,_,p=>by simpa only [VR,PR] using p
 | .nilI,_,_,p=>by simpa only [VR,PR] using p
 | .sl _ _ _,_,_,p=>by simp only [VR] at p ⊢;exact aQ i _ p
 | .pp _ _,_,_,p=>by simp only [VR] at p ⊢;exact aQ i _ p
 | .mp _ _,_,_,p=>by simp only [VR] at p ⊢;exact aQ i _ p
 | .dead,_,_,_=>by simp only [VR]
 | .own _ _ _,_,_,p=>by simp only [VR] at p
 | .ref b _ _ _,_,h,p=>by
  obtain ⟨j,k⟩:=h b (by simp [cH]);simp only [VR] at p ⊢;rw [j,k];exact p
 | .ptr b _ _,_,h,p=>by
  obtain ⟨j,k⟩:=h b (by simp [cH]);simp only [VR] at p ⊢;rw [j,k];exact p
 | .mr b _,_,h,p=>by
  obtain ⟨j,k⟩:=h b (by simp [cH]);simp only [VR] at p ⊢;rw [j,k];exact p
 | .agg l,_,h,p=>by
  simp only [VR] at p ⊢;obtain ⟨vs,e,q⟩:=p;exact ⟨vs,e,jV i l (λb d=>h b (by simpa [cH] using d)) q⟩
 | .tup l,_,h,p=>by
  simp only [VR] at p ⊢;obtain ⟨vs,e,q⟩:=p;exact ⟨vs,e,jV i l (λb d=>h b (by simpa [cH] using d)) q⟩
 | .fn f a c,_,h,p=>by
  simp only [VR] at p ⊢;obtain ⟨o,s,e,q,r⟩:=p;exact ⟨o,s,e,jV i a (λb d=>h b (by simp [cH,d])) q,jV i c (λb d=>h b (by simp [cH,d])) r⟩
 | .ifc t x,_,h,p=>by
  simp only [VR] at p ⊢;obtain ⟨u,e,q⟩:=p;exact ⟨u,e,sG i x (λb d=>h b (by simpa [cH] using d)) q⟩
theorem jV {g g':bW} {m c:aN} {S S':aH} (d:eO S S'):∀ (l:List AV) {vs:List Value},(∀ b ∈ bD l,g' b=g b/\c b=m b)->aU g m S l vs->aU g' c S' l vs
 | [],[],_,_=>by simp only [aU]
 |x::r,v::vs,h,p=>by
  simp only [aU] at p ⊢;exact ⟨sG d x (λb a=>h b (by simp [bD,a])) p.1,jV d r (λb a=>h b (by simp [bD,a])) p.2⟩
 | [],_::_,_,p=>by simp [aU] at p
 |_::_,[],_,p=>by simp [aU] at p
end
theorem jP {g:bW} {m:aN} {S:aH} {x:AV} {v:Value} (h:(cH x).isEmpty=true) (d:VR g m S x v):PR S x v:=by
 have c:cH x= []:=by simpa using h
 exact iW (m:=m) x (sG (eO.refl S) x (λb a=>by rw [c] at a;cases a) d)
def DX (nt:Nat) (o:Oper):Bool:=match o.dst with|some d=>Xjd d nt|none=>true
def cC (nt:Nat):Code->Bool
 | .region _ ops _=>ops.toList.all (DX nt)
 | .seq a b=>cC nt a && cC nt b
 | .cond _ a b=>cC nt a && cC nt b
 | .block _ b=>cC nt b
 | .loop b=>cC nt b
 | .scope b=>cC nt b
 |_=>true
section
variable {P:Program} {ap:AP} {H:bK}
def Lr (hp:Hp) (m:aN) (S:aH) (Q:Exit->Act->World->Prop) (a:Act) (w:World):a_->Prop
 | .normal=>Q .normal a w
 | .exit id=>Q (.exit id) a w
 | .ret=>Q .ret a w
 | .panic v=> ∀ cv,VR (look hp) m S v cv->Q (.panic [{v:=cv,recovered:=false}]) a w
def XA (ap:AP) (h0:List aM) (m0:aN) (S0:aH) (w0:World) (nt:Nat) (s':St) (e:a_) (Q:Exit->Act->World->Prop):Prop:=
 ∀ m' S' w' a',Fr (aW h0) m0 S0 w0 (look s'.hp) m' S' w'->FR ap s'.env s'.hp s'.dfs nt m' S' w' a'->Lr s'.hp m' S' Q a' w' e
def ag (P:Program) (ap:AP) (h0:List aM) (nt:Nat) (code:Code) (s:St) (e:a_) (s':St):Prop:=
 s.md= .dead->s'.md= .dead/\∀ m0 S0 w0 m S w a,Fr (aW h0) m0 S0 w0 (look s.hp) m S w->FR ap s.env s.hp s.dfs nt m S w a->∀ Q,XA ap h0 m0 S0 w0 nt s' e Q->code.wp P Q a w
theorem ag.still {h0:List aM} {nt:Nat} {b:Code} {s:St} {e:a_} (h:∀ (Q:Exit->Act->World->Prop) hp m S a w,Lr hp m S Q a w e->b.wp P Q a w):ag P ap h0 nt b s e s:=
 λc=> ⟨c,λ_ _ _ m S w a i d Q f=>h Q s.hp m S a w (f m S w a i d)⟩
theorem yC {h0:List aM} {nt:Nat} {b:Code} {f:St->Cx->R (a_ × St)} (x:∀ s e s' c c',f s c= .ok (e,s') c'->c'.Ok->c.Ok/\ag P ap h0 nt b s e s'):
  ∀ (n:Nat) (s:St) (e:a_) (s':St) (c c':Cx),H4 f n s c= .ok (e,s') c'->c'.Ok->c.Ok/\(s.md= .dead->s'.md= .dead/\∀ m0 S0 w0 m S w a,Fr (aW h0) m0 S0 w0 (look s.hp) m S w->FR ap s.env s.hp s.dfs nt m S w a->∀ Q,XA ap h0 m0 S0 w0 nt s' e Q->Code.rounds P b Q n a w)
 |0,s,e,s',c,c',h,hc=>by cases h
 | n+1,s,e,s',c,c',h,hc=>by
  simp only [H4] at h;obtain ⟨⟨p,s1⟩,C,B,h⟩:=R.bind_ok h;dsimp only at h;have hother:p ≠ .normal->R.ok (p,s1) C=R.ok (e,s') c'->c.Ok/\(s.md= .dead->s'.md= .dead/\∀ m0 S0 w0 m S w a,Fr (aW h0) m0 S0 w0 (look s.hp) m S w->FR ap s.env s.hp s.dfs nt m S w a->∀ Q,XA ap h0 m0 S0 w0 nt s' e Q->Code.rounds P b Q (n+1) a w):=by
   intro o F;cases F;obtain ⟨d,l⟩:=x _ _ _ _ _ B hc;refine ⟨d,λi=> ?_⟩;obtain ⟨r,u⟩:=l i;refine ⟨r,λm0 S0 w0 m S w a j k Q q=>u m0 S0 w0 m S w a j k _ ?_⟩;intro z S' w' y h5 A;have:=q z S' w' y h5 A;cases e with
   |normal=>exact absurd rfl o
   |exit id=>exact this
   |ret=>exact this
   |panic v=>exact this
  cases p with
  |normal=>
   dsimp only at h;obtain ⟨t,E⟩:=yC x n s1 e s' C c' h hc;obtain ⟨d,l⟩:=x _ _ _ _ _ B t;refine ⟨d,λi=> ?_⟩;obtain ⟨r,u⟩:=l i;obtain ⟨h5,A⟩:=E r;refine ⟨h5,λm0 S0 w0 m S w a j k Q q=>u m0 S0 w0 m S w a j k _ ?_⟩;intro z S' w' y h7 D;exact A m0 S0 w0 z S' w' y h7 D Q q
  |exit id=>exact hother (by simp) h
  |ret=>exact hother (by simp) h
  |panic v=>exact hother (by simp) h
theorem du (q:dP P ap) (i:P.follows .mixedOrders=true) (K:gj P ap H) {h0:List aM} {keep:List Nat} {lf nt:Nat}:∀ (code:Code),cC nt code=true->∀ (s:St) (e:a_) (s':St) (c p:Cx),jv ap H h0.length keep lf code s c= .ok (e,s') p->p.Ok->c.Ok/\ag P ap h0 nt code s e s'
 | .skip,_,s,e,s',c,p,h,n=>by
  cases h;exact ⟨n,ag.still λQ hp m S a w r=>wp_skip r⟩
 | .label l,_,s,e,s',c,p,h,n=>by
  cases h;exact ⟨n,ag.still λQ hp m S a w r=>wp_label r⟩
 | .exit id,_,s,e,s',c,p,h,n=>by
  cases h;exact ⟨n,ag.still λQ hp m S a w r=>wp_exit r⟩
 | .ret,_,s,e,s',c,p,h,n=>by
  cases h;exact ⟨n,ag.still λQ hp m S a w r=>wp_ret r⟩
 | .region id ops draw,hd,s,e,s',c,p,h,n=>by
  have Z:∀ o ∈ ops.toList,∀ d,o.dst=some d->d<nt:=by
   intro o ho d hod;have:=List.all_eq_true.1 hd o ho;simp only [DX,hod] at this;exact dC this
  obtain ⟨j,hr⟩:=Db q i K Z (id:=id) h n;refine ⟨j,λk=> ?_⟩;obtain ⟨G,h2⟩:=hr k;refine ⟨G,λm0 S0 w0 m S w a f u Q A=> ?_⟩;have:=h2 m S w a u Q;rw [Array.toArray_toList] at this;refine this ?_;cases e with
  |normal=>
   intro s1 L F S' w' D B C;obtain ⟨V,h5,E⟩:=kU (keep:=keep) (f.trans B) C;rw [<- L] at h5 E;exact A V S' w' D h5 E
  | panic v=>
   simp only [lw];split
   .rename_i Y;intro s1 L F S' w' D cv B C h5;obtain ⟨V,E,h7⟩:=kU (keep:=keep) (f.trans B) C;rw [<- L] at E h7;exact A V S' w' D E h7 cv (dZ _ (jP Y h5))
   .intro F S' w' D cv B C h5;exact A F S' w' D (f.trans B) C cv h5
  |exit id=>trivial
  |ret=>trivial
 | .seq x y,hd,s,e,s',c,p,h,n=>by
  simp only [cC,π] at hd;simp only [jv] at h;obtain ⟨⟨M,s1⟩,N,G,h⟩:=R.bind_ok h;dsimp only at h;have hother:M ≠ .normal->R.ok (M,s1) N=R.ok (e,s') p->c.Ok/\ag P ap h0 nt (.seq x y) s e s':=by
   intro O T;cases T;obtain ⟨j,I⟩:=du q i K x hd.1 _ _ _ _ _ G n;refine ⟨j,λk=> ?_⟩;obtain ⟨B,C⟩:=I k;refine ⟨B,λm0 S0 w0 m S w a f u Q A=>wp_seq (C m0 S0 w0 m S w a f u _ ?_)⟩;intro F S' w' D h5 E;have:=A F S' w' D h5 E;cases e with
   |normal=>exact absurd rfl O
   |exit id=>exact this
   |ret=>exact this
   |panic v=>exact this
  cases M with
  |normal=>
   dsimp only at h;obtain ⟨J,ih⟩:=du q i K y hd.2 _ _ _ _ _ h n;obtain ⟨j,I⟩:=du q i K x hd.1 _ _ _ _ _ G J;refine ⟨j,λk=> ?_⟩;obtain ⟨B,C⟩:=I k;obtain ⟨h5,E⟩:=ih B;refine ⟨h5,λm0 S0 w0 m S w a f u Q A=>wp_seq (C m0 S0 w0 m S w a f u _ ?_)⟩;intro F S' w' D h7 h8;exact E m0 S0 w0 F S' w' D h7 h8 Q A
  |exit id=>exact hother (by simp) h
  |ret=>exact hother (by simp) h
  |panic v=>exact hother (by simp) h
 | .cond t x y,hd,s,e,s',c,p,h,n=>by
  simp only [cC,π] at hd;simp only [jv] at h;split at h
  .rename_i bv X;obtain ⟨b',N,G,h⟩:=R.bind_ok h;have key:∀ (z:Code),(N.Ok->N.Ok/\z=if bv then x else y)->N.Ok/\ag P ap h0 nt z s e s'->c.Ok/\ag P ap h0 nt (.cond t x y) s e s':=by
    rintro z hzz ⟨J,ih⟩
    obtain ⟨j,hb⟩:=iX G J;refine ⟨j,λk=> ?_⟩;obtain ⟨h5,E⟩:=ih k;refine ⟨h5,λm0 S0 w0 m S w a f u Q A=>wp_cond (t:=bv) ?_ ?_⟩
    .have:=rP u.srel (a:=a) (env:=s.env) t (λt _=>u.env t);rw [X] at this;simpa only [VR,PR] using this
    .rw [<- (hzz J).2];exact E m0 S0 w0 m S w a f u Q A
   cases b' with
   |true=>exact key x (λU=> ⟨U,by rw [<- (iX G U).2];rfl⟩) (du q i K x hd.1 _ _ _ _ _ h n)
   |false=>exact key y (λU=> ⟨U,by rw [<- (iX G U).2];rfl⟩) (du q i K y hd.2 _ _ _ _ _ h n)
  .cases h
 | .block id b,hd,s,e,s',c,p,h,n=>by
  simp only [cC] at hd;simp only [jv] at h;obtain ⟨⟨M,s1⟩,N,G,h⟩:=R.bind_ok h;dsimp only at h;have W:N=p:=by
   cases M<;>dsimp only at h
   .cases h;rfl
   .split at h<;>cases h<;>rfl
   .cases h;rfl
   .cases h;rfl
  subst W;obtain ⟨j,I⟩:=du q i K b hd _ _ _ _ _ G n;refine ⟨j,λk=> ?_⟩;obtain ⟨B,C⟩:=I k;have hs:s1=s':=by
   cases M<;>dsimp only at h
   .cases h;rfl
   .split at h<;>cases h<;>rfl
   .cases h;rfl
   .cases h;rfl
  subst hs;refine ⟨B,λm0 S0 w0 m S w a f u Q A=>wp_block (C m0 S0 w0 m S w a f u _ ?_)⟩;intro F S' w' D h5 E;have r:=A F S' w' D h5 E;cases M with
  |normal=>cases h;exact r
  |ret=>cases h;exact r
  |panic v=>cases h;exact r
  | exit id'=>
   dsimp only at h;split at h
   .rename_i T;cases h;show Exit.inBlock id Q (.exit id') D w';simp only [Exit.inBlock,if_pos (aG T)];exact r
   .rename_i T;cases h;show Exit.inBlock id Q (.exit id') D w';have O:id' ≠ id:=by intro e;subst e;simp at T
    simp only [Exit.inBlock,if_neg O];exact r
 | .loop b,hd,s,e,s',c,p,h,n=>by
  simp only [cC] at hd;simp only [jv] at h;obtain ⟨j,I⟩:=yC (λs e s' c p h n=>du q i K b hd s e s' c p h n) lf s e s' c p h n;refine ⟨j,λk=> ?_⟩;obtain ⟨B,C⟩:=I k;exact ⟨B,λm0 S0 w0 m S w a f u Q A=>wp_loop_rounds lf (C m0 S0 w0 m S w a f u Q A)⟩
 | .scope b,hd,s,e,s',c,p,h,n=>by
  simp only [cC] at hd;simp only [jv] at h;obtain ⟨j,I⟩:=du q i K b hd _ _ _ _ _ h n;refine ⟨j,λk=> ?_⟩;obtain ⟨B,C⟩:=I k;refine ⟨B,λm0 S0 w0 m S w a f u Q A=>wp_scope_straight (C m0 S0 w0 m S w a f u _ ?_)⟩;intro F S' w' D h5 E;have r:=A F S' w' D h5 E;cases e with
  |normal=>exact r
  |exit id=>exact r
  |ret=>exact r
  |panic v=>exact r
 | .rangeFunc _ _ _ _,_,s,e,s',c,p,h,n=>by cases h
 | .goto _,_,s,e,s',c,p,h,n=>by cases h
 | .refuse _,_,s,e,s',c,p,h,n=>by cases h
end
end AM
