/- The machine and its soundness. -/
import Derived.Test.YtdmfgmmooalfnaaGreatDoorM1
import Derived.Laws.BytesString
import Derived.Laws.MakeOwn
import Derived.Laws.OwnMore
set_option linter.unusedSimpArgs false
set_option linter.unusedVariables false
open List renaming foldl_cons->Xjx,length_take->Xq4,nil_append->Xqi,drop_drop->Xjw,map_cons->Xqg,getElem?_map->Xq5,getElem?_take->Xj7,getElem?_append_left->Xxh,mem_of_mem_drop->Xzn,mem_of_mem_take->Xje,all_cons->Xx5,cons_append->Xxf,append_eq_nil_iff->Xj2,take_append_of_le_length->Xxn,append_assoc->υ,toList_toArray->Xvi,size_toArray->Xzq,length_append->η,length_drop->Xx0,replicate_succ->Xxi,append_nil->Δ,any_cons->Xv5,map_append->Xx3,map_nil->Xxw,ext_getElem?->Xj3,getElem?_set->Xzo,map->Xvc,mem_of_getElem?->Xql
open Bool renaming and_eq_true->φ,not_eq_true'->Xqq
open Nat renaming add_zero->Xq1,beq->Xqn,le_refl->χ,zero_le->Xxr,zero_add->Ψ,add_mul->Xxt,lt_irrefl->Xv3
open Option renaming map_some->Xjo,map_eq_some_iff->Xqs
open UInt8 renaming ofNat->Xqo
namespace AM
open Go
section
variable {P:Program} {ap:AP} {g:dO} {m:bg} {S:aY} {w:World}
theorem EH {x:AV} {v:Value} (h:VR g m S x v) (e:∀ y ∈ x.cells,pO y=true):bC g m S x.cells v.cells.toList/\∀ u ∈ v.cells,u.oneCell'=true:=by
 cases x
 case agg l=>
  simp only [VR] at h;obtain ⟨vs,rfl,h⟩:=h;refine ⟨by simpa [Value.cells,AV.cells] using h, ?_⟩;intro u c;simp only [Value.cells] at c;simp only [AV.cells] at e;have:∀ (l:List AV) (vs:List Value),bC g m S l vs->(∀ y ∈ l,pO y=true)->∀ u ∈ vs,u.oneCell'=true:=by
   intro l
   induction l with
   |nil=>intro vs f _ u c;cases vs<;>simp [bC] at f c
   | cons a r ih=>
    intro vs f e u c;cases vs with
    |nil=>simp [bC] at f
    |cons b q=>
     simp only [bC] at f;rcases List.mem_cons.1 c with rfl|c
     .exact Ph f.1 (e a (by simp))
     .exact ih q f.2 (λy i=>e y (by simp [i])) u c
  exact this l vs h e u (by simpa using c)
 all_goals
  have d:=Ph h (e _ (by simp [AV.cells]));have j:v.cells=#[v]:=by cases v<;>simp [Value.cells,Value.oneCell'] at d ⊢
  rw [j];refine ⟨by simp only [AV.cells,bC];exact ⟨h,trivial⟩,by simpa using d⟩
theorem Jc:∀ (vs:List Value) (i a:Nat) (b:Array Value),a+i+vs.length<=b.size->
  ((vs.zipIdx i).foldl (λ(b:Array Value) (p:Value × Nat)=>b.setIfInBounds (a+p.2) p.1) b).toList=b.toList.take (a+i)++vs++b.toList.drop (a+i+vs.length)
 | [],i,a,b,_=>by simp
 | v::vs,i,a,b,h=>by
  simp only [List.length_cons] at h;simp only [List.zipIdx_cons,Xjx];rw [Jc vs (i+1) a (b.setIfInBounds (a+i) v) (by simp;omega)];have c:a+i<b.toList.length:=by simp;omega
  simp only [Array.toList_setIfInBounds];rw [show a+(i+1)=a+i+1 from by omega,List.set_eq_take_append_cons_drop,if_pos c];have f:(b.toList.take (a+i)++v::b.toList.drop (a+i+1)).take (a+i+1)=b.toList.take (a+i)++ [v]:=by
   rw [List.take_append];have e:a+i+1 - (b.toList.take (a+i)).length=1:=by simp [Xq4];omega
   rw [e];simp [List.take_take]
  have d:(b.toList.take (a+i)++v::b.toList.drop (a+i+1)).drop (a+i+1+vs.length)=b.toList.drop (a+i+(v::vs).length):=by
   rw [List.drop_append];have:(b.toList.take (a+i)).length=a+i:=by simp [Xq4];omega
   rw [this,List.drop_eq_nil_of_le (by rw [this];omega),Xqi,show a+i+1+vs.length - (a+i)=vs.length+1 from by omega,List.drop_succ_cons,Xjw];congr 1;simp;omega
  rw [f,d];simp
theorem Q3 {xs vs:List AV} {b c:List Value} {a:Nat} (h:bC g m S xs b) (d:bC g m S vs c):bC g m S (ji xs a vs) (b.take a++c++b.drop (a+c.length)):=by
 unfold ji;rw [<- b_ d];exact iI (iI (rM _ h) d) (uT _ h)
theorem aaq {xs vs:List AV} {b c:List Value} {a:Nat} (h:eY S xs b) (d:eY S vs c):eY S (ji xs a vs) (b.take a++c++b.drop (a+c.length)):=by
 unfold ji;rw [<- yf d];exact oV (oV (lg _ h) d) (rH _ h)
def oZ (g:dO) (m:bg) (S:aY) (place:Nat->Option (Nat × Nat)):List (Nat × Nat × AV)->List (Nat × Value)->Prop
 | [],[]=>True
 |(off,size,v)::r,(i,c)::q=>place i=some (off,size)/\VR g m S v c/\oZ g m S place r q
 |_,_=>False
theorem qH {place:Nat->Option (Nat × Nat)}:∀ (ps:List (Nat × Nat × AV)) (qs:List (Nat × Value)) (cells cells':List AV) (cs:Array Value),oZ g m S place ps qs->bC g m S cells cs.toList->xU cells ps=some cells'->
  ∃ a,Instr.fill place cs qs=some a/\bC g m S cells' a.toList/\a.size=cs.size
 | [],[],cells,cells',cs,_,hv,h=>by simp [xU] at h;subst h;exact ⟨cs,rfl,hv,rfl⟩
 | (off,size,v)::r,(i,c)::q,cells,cells',cs,hp,hv,h=>by
  simp only [oZ] at hp;simp only [xU] at h;split at h
  .rename_i k;simp only [φ] at k;obtain ⟨⟨l,o⟩,s⟩:=k;obtain ⟨j,B⟩:=EH hp.2.1 (λy t=>List.all_eq_true.1 s y t);have u:=b_ j;have b:=b_ hv;have l:=aP l;have o:=gW o;have A:c.cells.size=size:=by simp only [Array.length_toList] at u;omega
   have d:off+c.cells.size<=cs.size:=by simp only [Array.length_toList] at b;omega
   have n:=Jc c.cells.toList 0 off cs (by simpa using d);have f:bC g m S (ji cells off v.cells) ((c.cells.zipIdx.foldl (λ(cs:Array Value) (p:Value × Nat)=>cs.setIfInBounds (off+p.2) p.1) cs)).toList:=by
    rw [<- Array.foldl_toList,Array.toList_zipIdx,n];simp only [Xq1];exact Q3 hv j
   obtain ⟨a,e,x,z⟩:=qH r q _ cells' _ hp.2.2 f h;refine ⟨a, ?_,x, ?_⟩
   .simp only [Instr.fill,hp.1];rw [if_neg (by simp;omega)];exact e
   .rw [z,<- Array.length_toList,<- Array.foldl_toList,Array.toList_zipIdx,n];simp;omega
  .cases h
 | [],_::_,_,_,_,hp,_,_=>by simp [oZ] at hp
 |_::_,[],_,_,_,hp,_,_=>by simp [oZ] at hp
theorem rO {t:Nat} {a:TI} {i:TypeInfo} {d:TypeDesc} {z:Value} (b:DX P t a i d z):bC g m S a.zero z.cells.toList:=by
 rw [b.zcells];exact cO _ (xN S _)
def zi (g:dO) (m:bg) (S:aY):List (Nat × AV)->List (Nat × Value)->Prop
 | [],[]=>True
 |(i,v)::r,(j,c)::q=>i=j/\VR g m S v c/\zi g m S r q
 |_,_=>False
theorem um {size:Nat}:∀ {ps:List (Nat × AV)} {qs:List (Nat × Value)},zi g m S ps qs->oZ g m S (λi=>some (i*size,size)) (ps.map λ(i,v)=>(i*size,size,v)) qs
 | [],[],_=>by simp [oZ]
 |(i,v)::r,(j,c)::q,h=>by
  simp only [zi] at h;obtain ⟨rfl,b,a⟩:=h;simp only [Xqg,oZ];exact ⟨trivial,b,um a⟩
 | [],_::_,h=>by simp [zi] at h
 |_::_,[],h=>by simp [zi] at h
theorem Dk {b:List (Nat × Nat × Nat)} {place:Nat->Option (Nat × Nat)} (hp:∀ i x,b[i]? =some x->place i=some (x.1,x.2.2)):∀ {ps:List (Nat × AV)} {qs:List (Nat × Value)} {rs:List (Nat × Nat × AV)},zi g m S ps qs->
  kX (λ(q:Nat × AV)=>(b[q.1]?).map λ(x:Nat × Nat × Nat)=>(x.1,x.2.2,q.2)) ps=some rs->oZ g m S place rs qs
 | [],[],rs,_,h=>by simp [kX] at h;subst h;simp [oZ]
 | (i,v)::r,(j,c)::q,rs,hn,h=>by
  simp only [zi] at hn;obtain ⟨rfl,f,e⟩:=hn;simp only [kX] at h;cases a:b[i]? with
  |none=>simp [a] at h
  | some x=>
   simp only [a,Xjo] at h;split at h
   .rename_i l d;cases h;simp only [oZ];exact ⟨hp i x a,f,Dk hp e d⟩
   .cases h
 | [],_::_,_,h,_=>by simp [zi] at h
 |_::_,[],_,h,_=>by simp [zi] at h
theorem Dj:∀ (fields:List Field),(∀ f ∈ fields,(P.info? f.type).isSome)->fields.mapM (λf=>(P.info? f.type).map λi=>(f.offset,i.size))=some (fields.map λf=>(f.offset,match P.info? f.type with|some i=>i.size|none=>0))
 | [],_=>rfl
 | f::r,h=>by
  cases a:P.info? f.type with
  |none=>have:=h f (by simp);simp [a] at this
  |some i=>
   simp [List.mapM_cons,a,Dj r (λf b=>h f (by simp [b]))]
theorem JS (A:jm P ap) {t:Nat} {l:TI} {i:TypeInfo} {d:TypeDesc} {z:Value} (b:DX P t l i d z) {ps:List (Nat × AV)} {qs:Array (Nat × Value)} (C:zi g m S ps qs.toList) {v:AV} {ups:List (Nat × bu)} {bs:List Bool}
  (h:PD ap l ps=some (v,ups,bs)):ups= []/\∃ cv,(Instr.build t qs).run P w= .ok cv w/\VR g m S v cv:=by
 unfold PD at h;split at h
 .rename_i I hd;have k:=bind_some h;clear h;obtain ⟨D,s,h⟩:=k;have k:=bind_some h;clear h;obtain ⟨u,j,h⟩:=k;obtain ⟨rfl,rfl,rfl⟩:=aV h;rw [b.d_eq] at hd;obtain ⟨fields,rfl,rfl⟩:=xw hd;by_cases hall:∀ f ∈ fields.toList,(P.info? f.type).isSome
  .have y:=Dj fields.toList hall;have o:=Dk (place:=((fields.toList.map λf=>(f.offset,match P.info? f.type with|some i=>i.size|none=>0)).toArray[·]?)) (by
    intro i x B;simp only [Xq5,Xqs] at B;obtain ⟨f,q,rfl⟩:=B;simp [q];rfl) C s
   obtain ⟨a,r,p,_⟩:=qH D qs.toList l.zero u z.cells o (rO b) j;refine ⟨rfl,.agg a,run_build w t qs a ?_, ?_⟩
   .simp only [Program.built,b.info,b.und,b.zero];rw [y];exact r
   .simp only [VR];exact ⟨a.toList,by simp,p⟩
  .exfalso;apply hall;intro f q;have:=b.fld;simp only [XR] at this;exact List.all_eq_true.1 this f q
 .rename_i n e hd;have k:=bind_some h;clear h;obtain ⟨E,c,h⟩:=k;have k:=bind_some h;clear h;obtain ⟨u,j,h⟩:=k;obtain ⟨rfl,rfl,rfl⟩:=aV h;obtain ⟨F,G,H,c⟩:=eP A c;rw [b.d_eq] at hd;have hd:=Aw hd;subst hd;obtain ⟨a,r,p,_⟩:=qH _ qs.toList l.zero u z.cells (um (size:=E.size) C) (rO b) j;refine ⟨rfl,.agg a,run_build w t qs a ?_, ?_⟩
  .simp only [Program.built,b.info,b.und,b.zero,c.info];rw [<- c.size];exact r
  .simp only [VR];exact ⟨a.toList,by simp,p⟩
 .cases h
end
end AM
namespace AM
open Go
section
variable {P:Program} {ap:AP} {g:dO} {m:bg} {S:aY} {w:World}
theorem yI {t:Nat} {k:TI} {i:TypeInfo} {d:TypeDesc} {z:Value} (b:DX P t k i d z) {v:AV} (h:sN k k.zero=some v):VR g m S v z:=by
 have f:=rO (g:=g) (m:=m) (S:=S) b;have e:=b.zagg;unfold sN at h;rw [b.d_eq,Hg] at h;unfold ai9 at e;rw [b.zero] at e;split at h
 .rename_i a;cases h;cases d<;>simp [TypeDesc.isRow] at a<;>cases z<;>simp at e
  all_goals
   simp only [VR];exact ⟨_,rfl,by simpa [Value.cells] using f⟩
 .rename_i a;split at h
  .rename_i c l;cases h;have j:z.cells=#[z]:=by
    cases z<;>first|rfl|skip
    cases d<;>simp [TypeDesc.isRow] at a e
   rw [l,j] at f;simp only [bC] at f;exact f.1
  .cases h
theorem Il (y:jm P ap) {x v:AV} {C:Value} (o:VR g m S x C) {asserted:Nat} {ok:Bool} {ups:List (Nat × bu)} {bs:List Bool} (h:JQ ap x asserted ok=some (v,ups,bs)) (B:Nat):
  ups= []/\∃ cv,(Instr.typeAssert C B asserted ok).run P w= .ok cv w/\VR g m S v cv:=by
 unfold JQ at h;have n:=bind_some h;clear h;obtain ⟨F,s,h⟩:=n;obtain ⟨i,d,z,b⟩:=eP y s;have a:∀ D,d ≠ .interface D:=by
  intro D e;subst e;rw [b.d_eq] at h;simp [kM] at h
 have key:∀ (c:Value),(∃ t u,c= .iface t u/\t ≠ asserted)\/c= .nilIface->∀ l,VR g m S l z->ok=true->(Instr.typeAssert c B asserted ok).run P w= .ok (.tuple #[z,.bool false]) w:=by
  intro c E l _ q;subst q;rcases E with ⟨t,u,rfl,k⟩|rfl
  .cases d<;>first|exact absurd rfl (a _)|simp [Instr.typeAssert,run_underlying b.und,k,zeroValue,typeInfo,b.info,b.zero]
  .cases d<;>first|exact absurd rfl (a _)|simp [Instr.typeAssert,run_underlying b.und,zeroValue,typeInfo,b.info,b.zero]
 split at h
 .cases h
 .split at h
  .rename_i t u;simp only [VR] at o;obtain ⟨r,rfl,A⟩:=o;split at h
   .rename_i j;have j:=aP j;subst j;obtain ⟨rfl,rfl,rfl⟩:=aV h;cases ok
    .refine ⟨rfl,r, ?_,A⟩;cases d<;>first|exact absurd rfl (a _)|simp [Instr.typeAssert,run_underlying b.und]
    .refine ⟨rfl,.tuple #[r,.bool true], ?_, ?_⟩
     .cases d<;>first|exact absurd rfl (a _)|simp [Instr.typeAssert,run_underlying b.und]
     .simp only [VR];exact ⟨[r,.bool true],rfl,by simp only [bC,VR,PR];exact ⟨A,trivial,trivial⟩⟩
   .rename_i j;have k:t ≠ asserted:=by intro e;subst e;simp at j
    cases ok
    .cases h
    .simp only at h;have n:=bind_some h;clear h;obtain ⟨l,p,h⟩:=n;obtain ⟨rfl,rfl,rfl⟩:=aV h;have f:=yI (g:=g) (m:=m) (S:=S) b p;refine ⟨rfl,_,key _ (.inl ⟨_,_,rfl,k⟩) l f rfl, ?_⟩;simp only [VR];exact ⟨[z,.bool false],rfl,by simp only [bC,VR,PR];exact ⟨f,trivial,trivial⟩⟩
  .simp only [VR,PR] at o;subst o;cases ok
   .cases h
   .simp only at h;have n:=bind_some h;clear h;obtain ⟨l,p,h⟩:=n;obtain ⟨rfl,rfl,rfl⟩:=aV h;have f:=yI (g:=g) (m:=m) (S:=S) b p;refine ⟨rfl,_,key _ (.inr rfl) l f rfl, ?_⟩;simp only [VR];exact ⟨[z,.bool false],rfl,by simp only [bC,VR,PR];exact ⟨f,trivial,trivial⟩⟩
  .cases h
theorem uB (N:bZ ap g m S w) {rd:dO} (K:∀ b B,rd b=some B->g b=some B) {size:Nat} {x:AV} {O:Value} (i:VR g m S x O) {xs:List AV} {n:Nat} {pr:Bool} (h:OO size rd x=some (xs,n,pr)) (Q:xs.length=n*size)
  {tx:Nat} (hk:((∃ s,x= .str s)/\P.underlying tx=some .string/\size=1)\/((∀ s,x ≠ .str s)/\∃ e,P.underlying tx=some (.slice e))):
  ∃ news,Src P size tx O n news w/\bC g m S xs news/\(pr=true->eY S xs news):=by
 unfold OO at h;split at h
 .rename_i X T nn;cases h;obtain ⟨_,e,d⟩:=hk.resolve_left (by rintro ⟨⟨s,hs⟩,_⟩;cases hs);simp only [VR,PR] at i;obtain ⟨a,G,rfl,V,q⟩:=i;rcases q with ⟨_,rfl,rfl,rfl⟩|⟨b,o,vs,rfl,hp,hs⟩
  .cases a with
   |none=>exact ⟨[],Src.ofNil w d 0,by simp [bC],λ_=>by simp [eY]⟩
   |some p=>exact ⟨[],Src.ofSlice w d p 0 0 [] (by simp) (λj u c=>by simp at c) (λu l=>by simp at l),by simp [bC],λ_=>by simp [eY]⟩
  .refine ⟨vs,Src.ofSlice w d ⟨b,o,none⟩ n G vs (by rw [<- yf hp,Q]) (λj u c=>by rw [Addr.add_mid];exact N.one (hs j u c).1 (hs j u c).2) ?_,cO _ hp,λ_=>hp⟩;intro u l;obtain ⟨j,c⟩:=List.getElem?_of_mem l;exact (hs j u c).2
 .cases h;obtain ⟨_,e,d⟩:=hk.resolve_left (by rintro ⟨⟨s,hs⟩,_⟩;cases hs);simp only [VR,PR] at i;subst i;exact ⟨[],Src.ofNil w d 0,by simp [bC],λ_=>by simp [eY]⟩
 .rename_i s;cases h;obtain ⟨_,d,F⟩:=hk.resolve_right (by rintro ⟨hs,_⟩;exact hs s rfl);simp only [VR,PR] at i;subst i;subst F;have hp:∀ s:List UInt8,eY S (s.map λb=>AV.int .u8 b.toNat) (s.map λb=>Value.int .u8 b.toNat):=by
   intro s
   induction s with
   |nil=>simp [eY]
   |cons a r ih=>simp only [Xqg,eY,PR];exact ⟨trivial,ih⟩
  have f:=Src.ofString (P:=P) w d ⟨s.toArray⟩;have U:byteCells ⟨s.toArray⟩=s.map λb=>Value.int .u8 b.toNat:=by simp [byteCells]
  rw [U,Au] at f;exact ⟨_,f,cO _ (hp s),λ_=>hp s⟩
 .rename_i b ver j T;have Y:=bind_some h;clear h;obtain ⟨B,Z,h⟩:=Y;split at h
  .rename_i t;cases h;simp only [φ,Xqq] at t;obtain ⟨t,C⟩:=t;have y:B.esz ≠ jf:=λe=>by rw [e] at C;exact absurd C (by decide)
   obtain ⟨_,e,d⟩:=hk.resolve_left (by rintro ⟨⟨s,hs⟩,_⟩;cases hs);simp only [VR] at i;obtain ⟨B',z,_,_,q⟩:=i;have v:=K b B Z;rw [v] at z;cases z;obtain ⟨o,rfl,q1,W,q3⟩:=q (aP t.1);have H:=aP t.2;obtain ⟨cur,e',vs,rest,k,D,hp,J,I,M⟩:=(N.blk b B v).lies;have k:=k.cells y;have I:=I y;have L:=b_ J;have E:((vs.drop (j*size)).take (n*size)).length=n*size:=by
    rw [<- b_ (rM _ (uT _ J))];exact Q
   by_cases hn:n=0
   .subst hn;have R:(vs.drop (j*size)).take (0*size)= []:=by simp
    refine ⟨[], ?_, ?_, ?_⟩
    .exact Src.ofSlice w d _ 0 _ [] (by simp) (λ_ _ h=>by simp at h) (λ_ h=>by simp at h)
    .simp [bC]
    .intro _;simp [eY]
   .have A:=W (by omega);refine ⟨(vs.drop (j*size)).take (n*size),Src.ofSlice w d _ n _ _ E ?_ ?_,rM _ (uT _ J),λpr=>lg _ (rH _ (hp pr))⟩
    .intro jj u c;rw [A,Addr.add_mid,H,uZ k,D];rw [Xj7] at c;split at c
     .rw [List.getElem?_drop] at c;rw [Xxh (List.getElem?_eq_some_iff.1 c).1];exact c
     .cases c
    .intro u l;exact I u (Xzn (Xje l))
  .cases h
 .cases h
theorem Jr:∀ (a:List Int) (s:List UInt8),a.foldl (λ(r:ByteArray) n=>r.push (Xqo n.toNat)) ⟨s.toArray⟩=⟨(s++a.map λn=>Xqo n.toNat).toArray⟩
 | [],s=>by simp
 |n::a,s=>by
  simp only [Xjx];have e:(⟨s.toArray⟩:ByteArray).push (Xqo n.toNat)=⟨(s++ [Xqo n.toNat]).toArray⟩:=by simp [ByteArray.push]
  rw [e,Jr a];simp
theorem EX (E:jm P ap) (V:bZ ap g m S w) {rd:dO} (Q:∀ b B,rd b=some B->g b=some B) {s d:Nat} {ts U:TI} (K:ap.tyAt s=some ts) (N:ap.tyAt d=some U) {x v:AV} {L:Value} (F:VR g m S x L) {ups:List (Nat × bu)} {bs:List Bool}
  (h:EW ap ts U rd x=some (v,ups,bs)) (hbs:∀ b ∈ bs,b=true):ups= []/\∃ cv,(convert s d L).run P w= .ok cv w/\VR g m S v cv:=by
 obtain ⟨i1,d1,z1,C⟩:=eP E K;obtain ⟨i2,d2,z2,A⟩:=eP E N;unfold EW at h;split at h
 .rename_i k k' n hd;obtain ⟨rfl,rfl,rfl⟩:=aV h;rw [A.d_eq] at hd;have hd:=ZQ hd;subst hd;simp only [VR,PR] at F;subst F;exact ⟨rfl,_,by simp [convert,run_underlying C.und,run_underlying A.und,Conv.intToInt];rfl,by simp only [VR,PR]⟩
 .rename_i s' j i;obtain ⟨rfl,rfl,rfl⟩:=aV h;rw [C.d_eq] at j;rw [A.d_eq] at i;have j:=yX j;have i:=yX i;subst j;subst i;simp only [VR,PR] at F;subst F;exact ⟨rfl,_,by simp [convert,run_underlying C.und,run_underlying A.und];rfl,by simp only [VR,PR]⟩
 .rename_i x0 e j i;have M:=bind_some h;clear h;obtain ⟨Z,p,h⟩:=M;obtain ⟨ie,de,ze,p⟩:=eP E p;split at h
  .cases h
  .rename_i W xt xb t u;have M:=bind_some h;clear h;obtain ⟨⟨xs,n,pr⟩,y,h⟩:=M;obtain ⟨rfl,rfl,rfl⟩:=aV h;obtain ⟨T,I⟩:=dw hbs;obtain ⟨I,_⟩:=dw I;rw [C.d_eq] at j;rw [A.d_eq] at i;have j:=iG j;have i:=yX i;subst j;subst i;rw [p.d_eq] at t;have t:=ZQ t;subst t;have T:=aP T;obtain ⟨f,hs,Y,_⟩:=uB (P:=P) V Q F y (by omega) (tx:=s) (.inr ⟨λs e=>u s e,e,C.und⟩);have D:f=(xs.map AV.toInt).map (Value.int .u8):=by
    have:∀ (xs:List AV) (f:List Value),bC g m S xs f->xs.all (chk (.int .u8))=true->f=(xs.map AV.toInt).map (Value.int .u8):=by
     intro xs
     induction xs with
     |nil=>intro f h _;cases f<;>simp [bC] at h ⊢
     | cons a r ih=>
      intro f h G;cases f with
      |nil=>simp [bC] at h
      |cons c q=>
       simp only [bC] at h;simp only [Xx5,φ] at G;rw [Xqg,Xqg,ih q h.2 G.2];congr 1;cases a<;>simp [chk] at G
       simp only [VR,PR] at h;rw [h.1,gU G.1];rfl
    exact this xs f Y I
   refine ⟨rfl,.string ⟨((xs.map AV.toInt).map λn=>Xqo n.toNat).toArray⟩, ?_, ?_⟩
   .have hcells:=hs.cells;have z:=hs.len w;have o:=F;cases L
    case slice a l c=>
     have X:l=n:=by simpa [Builtin.lenOf] using z
     subst X;cases a with
     | none=>
      have J:f= []:=by simpa [Builtin.firstCells] using hcells.symm
      rw [J] at D;have H:xs= []:=by
       have:(xs.map AV.toInt).map (Value.int .u8)= []:=D.symm;simpa using this
      subst H;simp [convert,run_underlying C.und,run_underlying A.und,run_underlying p.und,Conv.bytesToString];rfl
     | some a=>
      have O:(loadCells a l).run P w= .ok ((xs.map AV.toInt).map (Value.int .u8)).toArray w:=by
       rw [<- D];simpa [Builtin.firstCells] using hcells
      have R:=run_bytesToString (P:=P) w a l c _ O;rw [show ByteArray.empty=⟨([]:List UInt8).toArray⟩ from rfl,Jr,Xqi] at R;simp only [convert,Sem.run_bind,run_underlying C.und,run_underlying A.und,run_underlying p.und,Result.andThen_ok];exact R
    all_goals (simp [Builtin.lenOf] at z)
    case string s0=>
     exfalso;cases W<;>simp [OO] at y
     case str s1=>exact u s1 rfl
     case nilS=>simp only [VR,PR] at o;cases o
     case sl a b c=>simp only [VR,PR] at o;obtain ⟨_,_,h,_⟩:=o;cases h
     case ref a b c d=>simp only [VR] at o;obtain ⟨_,_,_,⟨_,_,_,h⟩,_⟩:=o;cases h
   .simp only [VR,PR];simp [List.map_map,Function.comp_def]
  .cases h
 .cases h
end
end AM
namespace AM
open Go
def dX (g:dO) (ups:List (Nat × bu)):dO:=λb=>match aF ups b with|some B=>some B|none=>g b
def kY (m:bg) (b:Nat) (x:Nat × Nat):bg:=λc=>if c=b then x else m c
theorem iZ {α:Type}:∀ (a b:List (Nat × α)) (t:Nat),aF (a++b) t=match aF a t with|some x=>some x|none=>aF b t
 | [],b,t=>rfl
 |(u,x)::r,b,t=>by
  simp only [Xxf,aF];split
  .rfl
  .exact iZ r b t
theorem kV (ups:List (Nat × bu)) (hp:Hp):dX (aF hp) ups=aF (ups++hp):=by
 funext b;rw [iZ];unfold dX;cases aF ups b<;>rfl
theorem gm (g:dO):dX g []=g:=rfl
theorem nT (g:dO) (b:Nat) (B:bu) (c:Nat):dX g [(b,B)] c=if c=b then some B else g c:=by
 simp only [dX,aF];by_cases h:c=b
 .subst h;simp
 .have:Xqn b c=false:=by
   cases a:Xqn b c with
   |false=>rfl
   |true=>exact absurd (aP a).symm h
  rw [this,if_neg h]
section
variable {P:Program} {ap:AP} {g:dO} {m:bg} {S:aY} {w:World}
theorem Uh.mono {g g':dO} {m a:bg} {S S':aY} {w w':World} {B:bu} {k c:Nat} (h:Uh g m S w B k c) (b:qj S S') (o:Ge g m g' a) (f:w'.heap[k]? =w.heap[k]?):Uh g' a S' w' B k c:=by
 obtain ⟨⟨cur,e,vs,rest,n,d,j,l,s,r⟩,i,q⟩:=h;exact ⟨⟨cur,e,vs,rest,n.same f,d,λp=>dE b _ (j p),nH b o _ l,s,r⟩,i,q⟩
theorem bZ.seal_lt (h:bZ ap g m S w) {k o:Nat} {v:Value} (a:S k o=some v):k<w.heap.size:=WN (h.sealed k o v a)
theorem bZ.put (h:bZ ap g m S w) (b:Nat) (B:bu) (k c:Nat) {w':World}
  (j:w.heap.size<=k\/∃ B0,g b=some B0/\k=(m b).1) (hw:w.grownBy w' (some k)) (hblk:Uh g m S w' B k c)
  (hge:∀ B0,g b=some B0->B.esz=B0.esz/\((B.ver=B0.ver/\(k,c)=m b)\/B0.ver<B.ver))
  (hseal:∀ o v,S k o=some v->lu w' k o=some v/\B.fro=true/\o<B.fz):
  bZ ap (dX g [(b,B)]) (kY m b (k,c)) S w'/\Fr g m S w (dX g [(b,B)]) (kY m b (k,c)) S w':=by
 have t:Ge g m (dX g [(b,B)]) (kY m b (k,c)):=by
  intro f B1 l;by_cases e:f=b
  .subst e;obtain ⟨a,i⟩:=hge B1 l;refine ⟨B,by rw [nT,if_pos rfl],a, ?_⟩;rcases i with ⟨i,C⟩|i
   .exact .inl ⟨i,by simp [kY,C]⟩
   .exact .inr i
  .exact ⟨B1,by rw [nT,if_neg e];exact l,rfl,.inl ⟨rfl,by simp [kY,e]⟩⟩
 have s:∀ f B1,g f=some B1->f ≠ b->(m f).1 ≠ k:=by
  intro f B1 l A e;have r:=h.lt l;rcases j with j|⟨B0,n,j⟩
  .omega
  .exact A (h.inj f b B1 B0 l n (e.trans j))
 have p:∀ k0,k0<w.heap.size->k0 ≠ k->w'.heap[k0]? =w.heap[k0]? :=λk0 r z=>hw.block k0 r (by simpa using z)
 constructor
 .refine ⟨?_, ?_, ?_, ?_,h.glob⟩
  .intro f y B1 B2 d x u;rw [nT] at d x;by_cases a:f=b<;>by_cases i:y=b
   .rw [a,i]
   .rw [if_neg i] at x;simp only [kY,a,if_true,if_neg i] at u;exact absurd u.symm (s y B2 x i)
   .rw [if_neg a] at d;simp only [kY,i,if_true,if_neg a] at u;exact absurd u (s f B1 d a)
   .rw [if_neg a] at d;rw [if_neg i] at x;simp only [kY,if_neg a,if_neg i] at u;exact h.inj f y B1 B2 d x u
  .intro f B1 d;rw [nT] at d;by_cases a:f=b
   .rw [if_pos a] at d;cases d;simp only [kY,if_pos a];exact hblk.mono (qj.refl S) t rfl
   .rw [if_neg a] at d;simp only [kY,if_neg a];exact (h.blk f B1 d).mono (qj.refl S) t (p _ (h.lt d) (s f B1 d a))
  .intro k0 o v q;by_cases e:k0=k
   .subst e;exact (hseal o v q).1
   .rw [PE (p k0 (h.seal_lt q) e)];exact h.sealed k0 o v q
  .intro f B1 d o v q;rw [nT] at d;by_cases a:f=b
   .rw [if_pos a] at d;cases d;simp only [kY,if_pos a] at q;exact (hseal o v q).2
   .rw [if_neg a] at d;simp only [kY,if_neg a] at q;exact h.own f B1 d o v q
 .refine ⟨t,qj.refl S,hw.os,hw.tape,hw.output,hw.size, ?_, ?_,λ_ _ _ q=> .inl q⟩
  .intro k0 r D;refine p k0 r (λe=> ?_);subst e;rcases j with j|⟨B0,n,j⟩
   .omega
   .exact D b B0 n j.symm
  .intro f B1 d;rw [nT] at d;by_cases a:f=b
   .subst a;rcases j with j|⟨B0,n,j⟩
    .exact .inl (by simpa [kY] using j)
    .exact .inr ⟨B0,n,by simp [kY,j]⟩
   .rw [if_neg a] at d;exact .inr ⟨B1,d,by simp [kY,a]⟩
end
mutual
theorem Me {g:dO} {m:bg} {S:aY}:∀ (x:AV) {v:Value},VR g m S x v->eQ x= []->PR S x v
 | .int _ _,_,p,_=>by simpa only [VR] using p
 | .bool _,_,p,_=>by simpa only [VR] using p
 | .str _,_,p,_=>by simpa only [VR] using p
 | .nilS,_,p,_=>by simpa only [VR] using p
 | .nilP,_,p,_=>by simpa only [VR] using p
 | .nilF,_,p,_=>by simpa only [VR] using p
 | .nilI,_,p,_=>by simpa only [VR] using p
 | .sl _ _ _,_,p,_=>by simpa only [VR] using p
 | .pp _ _,_,p,_=>by simpa only [VR] using p
 | .mp _ _,_,p,_=>by simpa only [VR] using p
 | .dead,_,_,_=>by simp only [PR]
 | .own _ _ _,_,p,_=>by simp only [VR] at p
 | .ref _ _ _ _,_,_,h=>by simp [eQ] at h
 | .ptr _ _ _,_,_,h=>by simp [eQ] at h
 | .mr _ _,_,_,h=>by simp [eQ] at h
 | .agg l,_,p,h=>by
  simp only [VR] at p;simp only [PR];simp only [eQ] at h;obtain ⟨vs,e,q⟩:=p;exact ⟨vs,e,gJ l q h⟩
 | .tup l,_,p,h=>by
  simp only [VR] at p;simp only [PR];simp only [eQ] at h;obtain ⟨vs,e,q⟩:=p;exact ⟨vs,e,gJ l q h⟩
 | .fn f a c,_,p,h=>by
  simp only [VR] at p;simp only [PR];simp only [eQ,Xj2] at h;obtain ⟨d,b,e,q,r⟩:=p;exact ⟨d,b,e,gJ a q h.1,gJ c r h.2⟩
 | .ifc t x,_,p,h=>by
  simp only [VR] at p;simp only [PR];simp only [eQ] at h;obtain ⟨u,e,q⟩:=p;exact ⟨u,e,Me x q h⟩
theorem gJ {g:dO} {m:bg} {S:aY}:∀ (l:List AV) {vs:List Value},bC g m S l vs->bW l= []->eY S l vs
 | [],[],_,_=>by simp only [eY]
 |x::r,v::vs,p,h=>by simp only [bC] at p;simp only [bW,Xj2] at h;simp only [eY];exact ⟨Me x p.1 h.1,gJ r p.2 h.2⟩
 | [],_::_,p,_=>by simp [bC] at p
 |_::_,[],p,_=>by simp [bC] at p
end
section
variable {P:Program} {ap:AP} {g:dO} {m:bg} {S:aY} {w:World}
theorem rW {α:Type} {l:List α} (h:l.isEmpty=true):l= []:=by cases l<;>simp at h ⊢
theorem bZ.fresh (h:bZ ap g m S w) {nid:Nat} (l:g nid=none) (B:bu) (i:B.esz ≠ jf) (c:Nat) {w':World} {cur:Array Value} {e:TypeId} (a:w.grownBy w' none) (b:w'.heap[w.heap.size]? =some (.cells cur e (0,0)))
  (hver:B.fro=false->B.fz=0) (hfz:B.fz<=B.cells.length) {vs rest:List Value} (hc:cur.toList=vs++rest) (hp:B.pr=true->eY S B.cells vs) (f:bC g m S B.cells vs) (h1:∀ u ∈ vs,u.oneCell'=true) (hcap:0<B.esz->cur.size=c*B.esz/\c<=maxLen):
  bZ ap (dX g [(nid,B)]) (kY m nid (w.heap.size,c)) S w'/\Fr g m S w (dX g [(nid,B)]) (kY m nid (w.heap.size,c)) S w':=by
 refine h.put nid B w.heap.size c (.inl (χ _)) ⟨a.os,a.tape,a.output,a.size,λk j _=>a.block k j (by simp)⟩ ⟨⟨cur,e,vs,rest,jX.of i b,hc,hp,f,λ_=>h1,λd _=>hcap d⟩,hver,hfz⟩ (λB0 d=>by rw [l] at d;cases d) ?_;intro o v f;have:=h.seal_lt f;omega
theorem IW (h:bZ ap g m S w) {nid:Nat} (d:g nid=none) {cells:List AV} {cv:Value} (b:bC g m S cells cv.cells.toList) (_hl:∀ x ∈ cells,pO x=true) (f:∀ u ∈ cv.cells,u.oneCell'=true) (t:TypeId):
  ∃ m' w',(newVar t cv).run P w= .ok ⟨w.heap.size,0,none⟩ w'/\bZ ap (dX g [jF nid cells 0]) m' S w'/\Fr g m S w (dX g [jF nid cells 0]) m' S w'/\(m' nid).1=w.heap.size:=by
 have a:=h.fresh (nid:=nid) d (jF nid cells 0).2 (by show 0 ≠ jf;decide) 0 (w':=w.alloc (.cells cv.cells t)) (cur:=cv.cells) (e:=t) (World.grownBy_alloc w _ none) (heap_alloc_new w _) (λ_=>rfl) (Xxr _) (vs:=cv.cells.toList) (rest:= []) (by simp)
  (λhp=>gJ _ b (rW hp)) b (λu c=>f u (by simpa using c)) (λh=>by simp [jF] at h)
 refine ⟨_,_, ?_,a.1,a.2,by simp [kY]⟩;simp [newVar,newRow]
theorem Tc {b:bg} {nid:Nat} {cells:List AV} {a k:Nat} (c:(b nid).1=k):VR (dX g [jF nid cells a]) b S (.ptr nid 0 0) (.pointer (some ⟨k,0,none⟩)):=by
 simp only [VR];refine ⟨(jF nid cells a).2, ?_,Xxr _,⟨_,_,rfl⟩,λ_=>by rw [c]⟩;show dX g [(nid,(jF nid cells a).2)] nid=_;rw [nT,if_pos rfl]
theorem LJ (h:bZ ap g m S w) {rd:dO} (J:∀ b B,rd b=some B->g b=some B) {t:Nat} {L:TI} {i:TypeInfo} {d:TypeDesc} {z:Value} (M:DX P t L i d z) {p x v:AV} {R c:Value} (hp:VR g m S p R) (hx:VR g m S x c)
  {ups:List (Nat × bu)} {bs:List Bool} (hs:QN L rd p x=some (v,ups,bs)) (hbs:∀ b ∈ bs,b=true):
  v= .dead/\∃ m' w',(Instr.storeAt t R c).run P w= .ok () w'/\bZ ap (dX g ups) m' S w'/\Fr g m S w (dX g ups) m' S w':=by
 unfold QN at hs;split at hs
 .rename_i b ver a;have hq:=bind_some hs;clear hs;obtain ⟨B,V,hs⟩:=hq;simp only at hs;split at hs
  .rename_i N;simp only [φ,Xqq] at N;obtain ⟨⟨⟨⟨X,Y⟩,c3⟩,c4⟩,T⟩:=N;have l:B.esz ≠ jf:=λe=>by rw [e] at T;exact absurd T (by decide)
   cases hs;have j:=J b B V;have I:=aP X;have O:=aP c3;have U:=gW (hbs _ (List.mem_singleton.2 rfl));simp only [VR] at hp;obtain ⟨B',F,_,_,q⟩:=hp;rw [j] at F;cases F;have q:=q I;subst q;obtain ⟨A,H⟩:=EH hx (λy hy=>List.all_eq_true.1 c4 y hy);obtain ⟨⟨cur,e,vs,rest,k1,k2,k3,k4,k5,k6⟩,k7,k8⟩:=h.blk b B j;have k1:=k1.cells l;have k5:=k5 l;have s:=b_ A;have Q:=b_ k4;have G:c.cells.size=i.size:=by simp only [Array.length_toList] at s;rw [<- M.size];omega
   have D:cur.toList.length=vs.length+rest.length:=by rw [k2];simp
   have C:=run_storeCells_at P (m b).1 a e c.cells.toList 0 cur w k1 (by simp only [Array.length_toList] at s D ⊢;omega) (λu f=>H u (by simpa using f));simp only [Xq1] at C;have hnewl:(cur.toList.take a++c.cells.toList++cur.toList.drop (a+c.cells.toList.length))=(vs.take a++c.cells.toList++vs.drop (a+c.cells.toList.length))++rest:=by
    rw [k2,Xxn (by omega),List.drop_append_of_le_length (by omega)];simp [υ]
   have n:=h.put b {B with cells:=ji B.cells a x.cells,pr:=B.pr && (bW x.cells).isEmpty} (m b).1 (m b).2 (w':=w.setRow (m b).1 (cur.toList.take a++c.cells.toList++cur.toList.drop (a+c.cells.toList.length)).toArray)
    (.inr ⟨B,j,rfl⟩) ⟨rfl,rfl,rfl,by simp,λk _ Z=>setRow_other w _ k _ (λe=>Z (by rw [e]))⟩
    ⟨⟨_,e,vs.take a++c.cells.toList++vs.drop (a+c.cells.toList.length),rest,jX.of l (setRow_heap w _ cur _ e _ k1),by rw [Xvi,hnewl],λr=>by
      simp only [φ] at r;exact aaq (k3 r.1) (gJ _ A (rW r.2)),Q3 k4 A,by
      intro _ u f;rcases List.mem_append.1 f with f|f
      .rcases List.mem_append.1 f with f|f
       .exact k5 u (Xje f)
       .exact H u (by simpa using f)
      .exact k5 u (Xzn f),λE _=>by
      obtain ⟨W,s2⟩:=k6 E l;refine ⟨?_,s2⟩;rw [<- W,Xzq];simp only [η,Xq4,Xx0,Array.length_toList] at s D ⊢;omega⟩,k7,by
     have:(ji B.cells a x.cells).length=B.cells.length:=by simp only [ji,η,Xq4,Xx0];omega
     simp only [this];exact k8⟩
    (λB0 K=>by rw [j] at K;cases K;exact ⟨rfl,.inl ⟨rfl,rfl⟩⟩)
    (λo v hv=>by
     have:=(h.own b B j o v hv).1;rw [Y] at this;cases this)
   refine ⟨rfl,_,_, ?_,n.1,n.2⟩;have hn:¬ (c.cells.size ≠ i.size):=by simp [G]
   simp [Instr.storeAt,Instr.sureAddr,storeVar,Go.sizeOf,typeInfo,M.info,G,C]
  .cases hs
 .cases hs
end
end AM
namespace AM
open Go
section
variable {P:Program} {ap:AP} {g:dO} {m:bg} {S:aY} {w:World}
theorem oQ (g:dO) (b:Nat) (B:bu):dX g [(b,B)] b=some B:=by rw [nT,if_pos rfl]
theorem Fv {w w':World} (h:w.grownBy w' none) (r:Option Nat):w.grownBy w' r:=⟨h.os,h.tape,h.output,h.size,λk a _=>h.block k a (by simp)⟩
theorem pq (w:World) (o:Obj):w.grownBy (w.drew.alloc o) none:=⟨rfl,rfl,rfl,by simp,λk a _=>Go.RowKit.Below.heap_alloc w.drew o k a⟩
theorem xI {t tx ty e:TypeId} {i:TypeInfo} (d:P.underlying t=some (.slice e)) (c:P.info? e=some i) {x:Value} {a:List Value} (hs:Src P i.size tx x 0 a w):
  (Builtin.append_ #[t,tx] ty #[.slice none 0 0,x]).run P w= .ok (.slice none 0 0) w:=by
 rcases hs.kind with ⟨e',b⟩|b<;>simp [Builtin.append_,run_underlying d,run_underlying b,Go.sizeOf,typeInfo,c,hs.len,hs.cells]
theorem xJ {t tx ty e:TypeId} {i:TypeInfo} (d:P.underlying t=some (.slice e)) (h:P.info? e=some i) {k o sLen sCap n:Nat} {x:Value} {a:List Value} (hs:Src P i.size tx x n a w) (hroom:sLen+n<=sCap)
  {cur:Array Value} {e':TypeId} (hk:w.heap[k]? =some (.cells cur e' (0,0))) (hfit:o+sLen*i.size+a.length<=cur.size):
  (Builtin.append_ #[t,tx] ty #[.slice (some ⟨k,o,none⟩) sLen sCap,x]).run P w= .ok (.slice (some ⟨k,o,none⟩) (sLen+n) sCap) (w.setRow k (cur.toList.take (o+sLen*i.size)++a++cur.toList.drop (o+sLen*i.size+a.length)).toArray):=by
 have b:=run_storeCells_at P k (o+sLen*i.size) e' a 0 cur w hk (by simpa using hfit) hs.one;simp only [Xq1] at b;rcases hs.kind with ⟨f,c⟩|c<;>simp [Builtin.append_,run_underlying d,run_underlying c,Go.sizeOf,typeInfo,h,hs.len,hroom,hs.cells,Addr.add_mid,b]
theorem CQ {n a bytes:Nat} (h:a<n) (c:n<=JA) (b:bytes<=128):Builtin.nextslicecap n a*bytes<=281474976710656:=by
 refine growslice_fits h ?_;have:n*bytes<=JA*128:=Nat.mul_le_mul c b;have e:JA*128=140737488355328:=by decide
 omega
theorem Ak:JA=1099511627776:=by decide
theorem DU {t tx ty e:TypeId} {i:TypeInfo} (d:P.underlying t=some (.slice e)) (c:P.info? e=some i) {x:Value} {base:Option Addr} {sLen sCap:Nat} (hs:Src P i.size tx x 0 [] w) (f:sLen<=sCap):
  (Builtin.append_ #[t,tx] ty #[.slice base sLen sCap,x]).run P w= .ok (.slice base sLen sCap) w:=by
 cases base with
 |none=>rcases hs.kind with ⟨e',b⟩|b<;>simp [Builtin.append_,run_underlying d,run_underlying b,Go.sizeOf,typeInfo,c,hs.len,hs.cells,f]
 |some a=>rcases hs.kind with ⟨e',b⟩|b<;>simp [Builtin.append_,run_underlying d,run_underlying b,Go.sizeOf,typeInfo,c,hs.len,hs.cells,f,storeCells]
theorem xQ (h:bZ ap g m S w) {rd:dO} (Q:∀ b B,rd b=some B->g b=some B) {nid:Nat} (hn:g nid=none) {t tx e:Nat} {ti l:TI} {i G:TypeInfo} {z M:Value} {de:TypeDesc} (ht:DX P t ti i (.slice e) z) (r:DX P e l G de M)
  {s x v:AV} {cs cx:Value} (hvs:VR g m S s cs) (hvx:VR g m S x cx)
  (hk:((∃ s,x= .str s)/\P.underlying tx=some .string/\l.size=1)\/((∀ s,x ≠ .str s)/\∃ e,P.underlying tx=some (.slice e)))
  {em:Bool} (N:s= .nilS->∃ n,yu x=some n/\Xqn n 0=em)
  {ups:List (Nat × bu)} {bs:List Bool} (E:zu nid l rd em s x=some (v,ups,bs)) (y:∀ b ∈ bs,b=true) (ty:Nat):
  ∃ cv m' w',(Builtin.append_ #[t,tx] ty #[cs,cx]).run P w= .ok cv w'/\bZ ap (dX g ups) m' S w'/\Fr g m S w (dX g ups) m' S w'/\VR (dX g ups) m' S v cv:=by
 have hcount:∀ xs n pr,OO l.size rd x=some (xs,n,pr)->yu x=some n:=by
  intro xs n pr a;unfold OO at a;split at a
  .cases a;rfl
  .cases a;rfl
  .cases a;rfl
  .have hq:=bind_some a;clear a;obtain ⟨B,hB,a⟩:=hq;split at a
   .cases a;rfl
   .cases a
  .cases a
 unfold zu at E;have hq:=bind_some E;clear E;obtain ⟨⟨xs,n,pr⟩,a,E⟩:=hq;simp only at E;split at E
 .cases E
 .rename_i W;simp only [φ] at W;have hsz:=gX W.1;have hby:=gW W.2;have d:l.size=G.size:=r.size;have R:l.size ≠ jf:=λe=>by have:=r.small;omega
  have hby':l.bytes=G.bytes:=r.bytes;have hzs:M.cells.size=G.size:=r.zsize;split at E
  ·
   obtain ⟨n',hc',N⟩:=N rfl;rw [hcount _ _ _ a] at hc';cases hc';simp only [VR,PR] at hvs;subst hvs;split at E
   ·
    obtain ⟨rfl,rfl,rfl⟩:=aV E;have O:n=0:=aP N;subst O;have hl:=aP (y _ (List.mem_singleton.2 rfl));obtain ⟨c,hs,hv,hp⟩:=uB (P:=P) h Q hvx a hl hk;rw [d] at hs;exact ⟨_,m,w,xI ht.und r.info hs,by rw [gm];exact h,by rw [gm];exact Fr.refl _ _ _ _,by simp [VR,PR]⟩
   ·
    cases E;obtain ⟨b1,y⟩:=dw y;obtain ⟨b2,_⟩:=dw y;have hl:=aP b1;have hroom:=gW b2;have O:n ≠ 0:=by intro e;subst e;simp at N
    obtain ⟨c,hs,hv,hp⟩:=uB (P:=P) h Q hvx a hl hk;rw [d] at hs;have f:=run_append_grow_src w t tx ty e G M ht.und r.info r.zero none 0 0 [] (run_firstCells_none w.drew _ _ _ _) cx n c hs (by omega) (by rw [Ak] at hroom;omega) (CQ (by omega) (by simpa using hroom) (by omega));have Z:n<=grownCap w n 0 e:=grownCap_ge _ _ _ _;have U:grownCap w n 0 e<=maxLen:=grownCap_le_maxLen _ _ _ _ (by rw [Ak] at hroom;simp only [maxLen];omega);simp only [Ψ] at f;have hf:=h.fresh (nid:=nid) hn ⟨xs,0,false,0,l.size,pr⟩ R (grownCap w n 0 e) (cur:=([]++c).toArray++Builtin.zeroCells M.cells (grownCap w n 0 e - n)) (e:=e) (pq w _) (heap_alloc_new w.drew _) (λ_=>rfl) (Xxr _)
     (vs:=c) (rest:=(Builtin.zeroCells M.cells (grownCap w n 0 e - n)).toList) (by simp) hp hv hs.one (λ_=> ⟨by
      simp only [Array.size_append,Xzq,Xqi,size_zeroCells,hs.newsLen,hzs,d];rw [<- Xxt];congr 1;omega,U⟩)
    refine ⟨_,_,_,f,hf.1,hf.2, ?_⟩;simp only [VR];refine ⟨_,oQ _ _ _,χ _,⟨_,_,_,rfl⟩,λ_=> ⟨0, ?_, ?_, ?_,hsz,R⟩⟩
    .simp [kY]
    .simpa [kY] using Z
    .simp
  .rename_i b ver mN;have hq:=bind_some E;clear E;obtain ⟨B,hB,E⟩:=hq;split at E
   .rename_i F;simp only [φ,Xqq] at F;have hver:=aP F.1.1;have T:=aP F.1.2;have A:B.esz ≠ jf:=λe=>by rw [e] at F;exact absurd F.2 (by decide)
    cases E;obtain ⟨b1,y⟩:=dw y;obtain ⟨b2,y⟩:=dw y;obtain ⟨b3,y⟩:=dw y;obtain ⟨b4,_⟩:=dw y;have hl:=aP b1;have hroom:=gW b2;have hfit:=gW b3;have D:=Q b B hB;simp only [VR] at hvs;obtain ⟨B',hB',_,_,q⟩:=hvs;rw [D] at hB';cases hB';obtain ⟨o,rfl,hcap,ho,H,hnz1⟩:=q hver;simp only [Ψ,Nat.sub_zero,Nat.zero_mul] at hcap ho ⊢;obtain ⟨c,hs,hv,hp⟩:=uB (P:=P) h Q hvx a hl hk;rw [d] at hs;have hbk:=h.blk b B D;obtain ⟨⟨cur,e',vs,rest,k1,k2,k3,k4,k5,k6⟩,k7,k8⟩:=hbk;have k1:=k1.cells A;have k5:=k5 A;obtain ⟨s1,s2⟩:=k6 H A;have hvl:=b_ k4;have hcl:cur.toList.length=vs.length+rest.length:=by rw [k2];simp
    simp only [Array.length_toList] at hcl;have hfz:B.fz<=mN*l.size:=by
     cases hf:B.fro with
     |false=>rw [k7 hf];exact Xxr _
     |true=>simp [hf] at b4;exact gW (by simpa using b4)
    have holds:eY S (B.cells.take (mN*l.size)) (vs.take (mN*l.size))\/B.pr=false:=by
     cases hp:B.pr with
     |false=>exact .inr rfl
     |true=>exact .inl (lg _ (k3 hp))
    have K:(vs.take (mN*l.size)).length=mN*G.size:=by rw [Xq4,d] at*;omega
    have Y:bC g m S (B.cells.take (mN*l.size)++xs) (vs.take (mN*l.size)++c):=iI (rM _ k4) hv;have X:(B.pr && pr)=true->eY S (B.cells.take (mN*l.size)++xs) (vs.take (mN*l.size)++c):=by
     intro hh;simp only [φ] at hh;exact oV (lg _ (k3 hh.1)) (hp hh.2)
    have h1:∀ u ∈ vs.take (mN*l.size)++c,u.oneCell'=true:=by
     intro u C;rcases List.mem_append.1 C with C|C
     .exact k5 u (Xje C)
     .exact hs.one u C
    have L:B.fz<=(B.cells.take (mN*l.size)++xs).length:=by
     rw [η,Xq4];omega
    by_cases hrm:mN+n<=(m b).2
    ·
     by_cases hc0:(m b).2=0
     .have hm0:mN=0:=by omega
      have O:n=0:=by omega
      subst hm0;subst O;have hnews:c= []:=by have:=hs.newsLen;simpa using this
      subst hnews;have f:=DU (P:=P) (w:=w) (ty:=ty) (base:=some ⟨(m b).1,o,none⟩) (sLen:=0) (sCap:=(m b).2) ht.und r.info hs (by omega);have p:=h.put b {B with cells:=B.cells.take (0*l.size)++xs,ver:=ver+1,pr:=B.pr && pr} (m b).1 (m b).2 (w':=w) (.inr ⟨B,D,rfl⟩) ⟨rfl,rfl,rfl,χ _,λ_ _ _=>rfl⟩
       ⟨⟨cur,e',_,vs.drop (0*l.size)++rest,jX.of A k1,by rw [k2];simp,X,Y,λ_=>h1,k6⟩,k7,L⟩ (λB0 I=>by rw [D] at I;cases I;exact ⟨rfl,.inr (by simp only;omega)⟩)
       (λo' u C=> ⟨h.sealed _ _ _ C,(h.own b B D o' u C)⟩)
      refine ⟨_,_,_,f,p.1,p.2, ?_⟩;simp only [VR];refine ⟨_,oQ _ _ _,χ _,⟨_,_,_,rfl⟩,λ_=> ⟨o,by simp [kY],by simp,by simp [kY,hc0],H,A⟩⟩
     .have V:o=0:=ho (by omega);subst V;have hnl:=hs.newsLen;have hbig:mN*G.size+n*G.size<=(m b).2*G.size:=by rw [<- Xxt];exact Nat.mul_le_mul_right _ hrm
      have hcs:cur.size=(m b).2*G.size:=by rw [s1,T,d]
      have f:=xJ (P:=P) (w:=w) (ty:=ty) (o:=0) ht.und r.info hs hrm k1 (by simp only [Ψ];omega);simp only [Ψ] at f;have hlist:cur.toList.take (mN*G.size)=vs.take (mN*l.size):=by rw [k2,d,Xxn (by rw [d] at hfit;omega)]
      have p:=h.put b {B with cells:=B.cells.take (mN*l.size)++xs,ver:=ver+1,pr:=B.pr && pr} (m b).1 (m b).2 (w':=w.setRow (m b).1 (cur.toList.take (mN*G.size)++c++cur.toList.drop (mN*G.size+c.length)).toArray)
       (.inr ⟨B,D,rfl⟩) ⟨rfl,rfl,rfl,by simp,λk _ hk=>setRow_other w _ k _ (λe=>hk (by rw [e]))⟩
       ⟨⟨_,e',_,cur.toList.drop (mN*G.size+c.length),jX.of A (setRow_heap w _ cur _ e' _ k1),by rw [hlist],X,Y,λ_=>h1,λ_ _=> ⟨by
        rw [<- s1,Xzq];simp only [η,Xq4,Xx0,Array.length_toList];omega,s2⟩⟩,k7,L⟩ (λB0 I=>by rw [D] at I;cases I;exact ⟨rfl,.inr (by simp only;omega)⟩)
       (λo' u C=>by
        obtain ⟨f1,f2⟩:=h.own b B D o' u C;refine ⟨?_,f1,f2⟩;have:=h.sealed _ _ _ C;cases J:u.oneCell' with
        |false=>
         obtain ⟨_,_,hm,_⟩:=wP this J;rw [k1] at hm;cases hm
        |true=>
        have this:=A_ this J;rw [uZ k1] at this;refine (jX.of A (setRow_heap w _ cur _ e' _ k1)).get ?_ (λ_=>J);simp only [υ];rw [Xxh (by simp only [Xq4,Array.length_toList];rw [d] at hfz;omega),List.getElem?_take_of_lt (by rw [d] at hfz;omega)];exact this)
      refine ⟨_,_,_,f,p.1,p.2, ?_⟩;simp only [VR];refine ⟨_,oQ _ _ _,χ _,⟨_,_,_,rfl⟩,λ_=> ⟨0,by simp [kY],by simpa [kY] using hrm,by simp,H,A⟩⟩
    ·
     have hold:(Builtin.firstCells G.size mN (.slice (some ⟨(m b).1,o,none⟩) mN (m b).2)).run P w.drew= .ok (vs.take (mN*l.size)).toArray w.drew:=by
      refine run_firstCells_some w.drew G.size mN ⟨(m b).1,o,none⟩ mN _ _ K ?_;intro j u C;have hjl:=(List.getElem?_eq_some_iff.1 C).1;rw [K] at hjl;have hm0:0<mN:=by
       rcases Nat.eq_zero_or_pos mN with I|I
       .subst I;simp at hjl
       .exact I
      have V:o=0:=ho (by omega);subst V;rw [Addr.add_mid,Ψ,uZ (w:=w.drew) (j:=j) k1,k2];rw [Xj7] at C;split at C
      .rw [Xxh (List.getElem?_eq_some_iff.1 C).1];exact C
      .cases C
     have f:=run_append_grow_src w t tx ty e G M ht.und r.info r.zero (some ⟨(m b).1,o,none⟩) mN (m b).2 _ hold cx n c hs (by omega) (by rw [Ak] at hroom;omega) (CQ (by omega) hroom (by omega));have Z:mN+n<=grownCap w (mN+n) (m b).2 e:=grownCap_ge _ _ _ _;have U:grownCap w (mN+n) (m b).2 e<=maxLen:=grownCap_le_maxLen _ _ _ _ (by rw [Ak] at hroom;simp only [maxLen];omega);have p:=h.put b {B with cells:=B.cells.take (mN*l.size)++xs,ver:=ver+1,pr:=B.pr && pr} w.heap.size (grownCap w (mN+n) (m b).2 e) (.inl (χ _))
      (Fv (pq w (.cells ((vs.take (mN*l.size)++c).toArray++Builtin.zeroCells M.cells (grownCap w (mN+n) (m b).2 e - (mN+n))) e)) _)
      ⟨⟨(vs.take (mN*l.size)++c).toArray++Builtin.zeroCells M.cells (grownCap w (mN+n) (m b).2 e - (mN+n)),e,_,(Builtin.zeroCells M.cells (grownCap w (mN+n) (m b).2 e - (mN+n))).toList,jX.of A (heap_alloc_new w.drew _),by simp,X,Y,λ_=>h1,λ_ _=> ⟨by
       simp only [Array.size_append,Xzq,η,size_zeroCells,hs.newsLen,hzs];rw [K,T,d,<- Xxt,<- Xxt];congr 1;omega,U⟩⟩,k7,L⟩ (λB0 I=>by rw [D] at I;cases I;exact ⟨rfl,.inr (by simp only;omega)⟩)
      (λo' u C=>absurd (h.seal_lt C) (Xv3 _))
     refine ⟨_,_,_,f,p.1,p.2, ?_⟩;simp only [VR];refine ⟨_,oQ _ _ _,χ _,⟨_,_,_,rfl⟩,λ_=> ⟨0,by simp [kY],by simpa [kY] using Z,by simp,H,A⟩⟩
   .cases E
  .cases E
end
end AM
namespace AM
open Go
theorem Dv (n:Nat) (z:List AV):(g_ n z).length=n*z.length:=by simp [g_]
theorem Vw (n:Nat) (z:List AV):g_ (n+1) z=z++g_ n z:=by simp [g_,Xxi]
theorem Ot:∀ (n:Nat) (z:List AV) (i:Nat),i<n*z.length->(g_ n z)[i]? =z[i % z.length]?
 |0,z,i,h=>by simp at h
 | n+1,z,i,h=>by
  rw [Vw];by_cases a:i<z.length
  .rw [Xxh a,Nat.mod_eq_of_lt a]
  .have a:z.length<=i:=by omega
   rw [List.getElem?_append_right a,Ot n z (i - z.length) (by rw [Xxt,Nat.one_mul] at h;omega)];congr 1;rw [<- Nat.mod_eq_sub_mod a]
section
variable {P:Program} {ap:AP} {g:dO} {m:bg} {S:aY} {w:World}
theorem EG:∀ {l:List AV} {vs:List Value},l.length=vs.length->(∀ (i:Nat) x v,l[i]? =some x->vs[i]? =some v->VR g m S x v)->bC g m S l vs
 | [],[],_,_=>by simp [bC]
 |x::r,v::vs,hl,h=>by
  simp only [bC];exact ⟨h 0 x v rfl rfl,EG (by simpa using hl) λi x v a b=>h (i+1) x v (by simpa using a) (by simpa using b)⟩
 | [],_::_,h,_=>by simp at h
 |_::_,[],h,_=>by simp at h
theorem BF (z:Array Value) (n:Nat):(madeCells z n).toList=(List.range n).map λi=>z[i % z.size]! :=by simp [madeCells]
theorem xX {t:Nat} {f:TI} {i:TypeInfo} {d:TypeDesc} {z:Value} (c:DX P t f i d z) (n:Nat):bC g m S (g_ n f.zero) (madeCells z.cells (n*i.size)).toList:=by
 have o:=rO (g:=g) (m:=m) (S:=S) c;have a:=b_ o;simp only [Array.length_toList,c.zsize] at a;refine EG (by rw [Dv,a,Array.length_toList,size_madeCells]) ?_;intro j x v h e;have k:j<n*i.size:=by
  have:=(List.getElem?_eq_some_iff.1 h).1;rw [Dv,a] at this;exact this
 rw [Ot n f.zero j (by rw [a];exact k),a] at h;rw [BF,c.zsize,Xq5,List.getElem?_range k] at e;simp only [Xjo,Option.some.injEq] at e;obtain ⟨q,b,p⟩:=tu o _ h;have l:j % i.size<z.cells.size:=by rw [c.zsize];exact Nat.mod_lt _ c.pos
 simp only [Array.getElem?_toList] at b;rw [getElem!_pos z.cells _ l] at e;rw [Array.getElem?_eq_getElem l] at b;cases b;rw [<- e];exact p
theorem Jw {n:Nat} {z:List AV} (h:∀ x ∈ z,pO x=true):∀ x ∈ g_ n z,pO x=true:=by
 intro x a;simp only [g_,List.mem_flatten,List.mem_replicate] at a;obtain ⟨l,⟨_,rfl⟩,a⟩:=a;exact h x a
theorem DY:∀ {l:List AV} {vs:List Value},bC g m S l vs->(∀ x ∈ l,pO x=true)->∀ u ∈ vs,u.oneCell'=true
 | [],[],_,_=>by simp
 |x::r,v::vs,h,hl=>by
  simp only [bC] at h;intro u a;rcases List.mem_cons.1 a with rfl|a
  .exact Ph h.1 (hl x (by simp))
  .exact DY h.2 (λy b=>hl y (by simp [b])) u a
 | [],_::_,h,_=>by simp [bC] at h
 |_::_,[],h,_=>by simp [bC] at h
theorem KH {xs vs:List AV} {a:Nat} {x:AV} (h:x ∈ ji xs a vs):x ∈ xs\/x ∈ vs:=by
 simp only [ji,List.mem_append] at h;rcases h with (h|h)|h
 .exact .inl (Xje h)
 .exact .inr h
 .exact .inl (Xzn h)
theorem Fe:∀ {ps:List (Nat × Nat × AV)} {cells cells':List AV},xU cells ps=some cells'->(∀ x ∈ cells,pO x=true)->∀ x ∈ cells',pO x=true
 | [],cells,cells',h,hl=>by simp [xU] at h;subst h;exact hl
 | (off,size,v)::r,cells,cells',h,hl=>by
  simp only [xU] at h;split at h
  .rename_i b;simp only [φ] at b;refine Fe h λx a=> ?_
   rcases KH a with a|a
   .exact hl x a
   .exact List.all_eq_true.1 b.2 x a
  .cases h
theorem Tz {nid:Nat} {cells:List AV} {a k c n:Nat} (d:n<=c) (hp:0<a) (b:a ≠ jf):VR (dX g [jF nid cells a]) (kY m nid (k,c)) S (.ref nid 0 0 n) (.slice (some ⟨k,0,none⟩) n c):=by
 simp only [VR];refine ⟨_,oQ _ _ _,Xxr _,⟨_,_,_,rfl⟩,λ_=> ⟨0,by simp [kY],by simpa [kY] using d,by simp,hp,b⟩⟩
theorem uy:∀ (a b:List AV),bW (a++b)=bW a++bW b
 | [],b=>by simp [bW]
 |x::r,b=>by simp [bW,uy r b]
theorem Jv (z:List AV) (h:bW z= []):∀ n,bW (g_ n z)= []
 |0=>by simp [g_,bW]
 |n+1=>by
  have a:=Jv z h n;simp only [g_,Xxi,List.flatten_cons,uy,h,Xqi] at a ⊢;exact a
theorem Qo (nid n a:Nat) (z:List AV) (h:(bW z).isEmpty=true):(nid,(⟨g_ n z,0,false,0,a,true⟩:bu))=jF nid (g_ n z) a:=by
 have b:bW z= []:=by simpa using h
 simp [jF,Jv z b n]
theorem BG (F:jm P ap) (h:bZ ap g m S w) {nid:Nat} (V:g nid=none) {t:Nat} {I:TI} {i:TypeInfo} {d:TypeDesc} {z:Value} (J:DX P t I i d z) {l c:AV} {cl O:Value} (N:VR g m S l cl) (K:VR g m S c O)
  {v:AV} {ups:List (Nat × bu)} {bs:List Bool} (k:yG ap nid I l c=some (v,ups,bs)) (j:∀ b ∈ bs,b=true):
  ∃ cv m' w',(Instr.makeSlice t cl O).run P w= .ok cv w'/\bZ ap (dX g ups) m' S w'/\Fr g m S w (dX g ups) m' S w'/\VR (dX g ups) m' S v cv:=by
 unfold yG at k;split at k
 .rename_i e T l R c hd;have U:=bind_some k;clear k;obtain ⟨p,a,k⟩:=U;obtain ⟨n,W,D,a⟩:=eP F a;split at k
  .rename_i f;simp only [φ] at f;have u:=f.2;have f:=f.1;have o:=gX f.1.1;have B:=gW f.2;rw [Qo _ _ _ _ u] at k;cases k;obtain ⟨s,j⟩:=dw j;obtain ⟨A,j⟩:=dw j;obtain ⟨M,_⟩:=dw j;have s:0<=l:=of_decide_eq_true s;have A:l=c:=of_decide_eq_true A;have M:l<=2^40:=of_decide_eq_true M;subst A;simp only [VR,PR] at N K;subst N;subst K;rw [J.d_eq] at hd;have hd:=iG hd;subst hd;have q:(n.bytes:Int)*l<=281474976710656:=by
    have y:(n.bytes:Int)<=128:=by rw [<- a.bytes];exact_mod_cast B
    have H:(n.bytes:Int)*l<=128*l:=Int.mul_le_mul_of_nonneg_right y s;have Q:(2:Int)^40=1099511627776:=by decide
    omega
   have G:l<=9223372036854775807:=by
    have Q:(2:Int)^40=1099511627776:=by decide
    omega
   have r:=run_make (P:=P) w t e n D J.und a.info a.zero T R l l s (Int.le_refl _) q G;have E:bC g m S (g_ l.toNat p.zero) (madeCells D.cells (l.toNat*n.size)).toList:=xX a _;have C:∀ x ∈ g_ l.toNat p.zero,pO x=true:=Jw a.zleaf;have L:=h.fresh (nid:=nid) V (jF nid (g_ l.toNat p.zero) p.size).2 (by have y:=a.small;have H:=a.size;show p.size ≠ jf;omega) l.toNat (w':=w.alloc (.cells (madeCells D.cells (l.toNat*n.size)) e)) (World.grownBy_alloc w _ none) (heap_alloc_new w _) (λ_=>rfl) (Xxr _)
    (rest:= []) (by rw [Δ]) (λhp=>gJ _ E (rW hp)) E (DY E C) (λ_=> ⟨by rw [size_madeCells];simp [jF,a.size],by simp only [maxLen];omega⟩)
   refine ⟨_,_,_,r,L.1,L.2, ?_⟩;exact Tz (χ _) o (by have y:=a.small;have H:=a.size;omega)
  .cases k
 .cases k
theorem G8 {t e:TypeId} {i:TypeInfo} {z:Value} (h:P.underlying t=some (.slice e)) (c:P.info? e=some i) (j:i.zero=some z) {len:Nat} (f:len*i.size<=2^24) (b:len*i.size ≠ 0) {parts:Array (Nat × Value)} {cells:Array Value}
  (hf:Instr.fill (λd=>some (d*i.size,i.size)) (madeCells z.cells (len*i.size)) parts.toList=some cells):
  (Instr.buildSlice t len parts).run P w= .ok (.slice (some ⟨w.heap.size,0,none⟩) len len) (w.alloc (.cells cells e)):=by
 have a:¬ (len*i.size>2^24):=by omega
 unfold madeCells at hf;simp only [Instr.buildSlice,Sem.run_bind,run_underlying h,Result.andThen_ok];simp [Go.sizeOf,typeInfo,c,zeroValue,j,b,newRow];rw [if_neg (by simpa using a)];simp [hf]
theorem DV {t e:TypeId} {i:TypeInfo} (d:P.underlying t=some (.slice e)) (b:P.info? e=some i) {len:Nat} (a:len*i.size=0) {parts:Array (Nat × Value)} {cells:Array Value}
  (hf:Instr.fill (λc=>some (c*i.size,i.size)) #[] parts.toList=some cells):
  (Instr.buildSlice t len parts).run P w= .ok (.slice (some ⟨w.heap.size,0,none⟩) len len) (w.alloc (.cells cells e)):=by
 simp [Instr.buildSlice,run_underlying d,Go.sizeOf,typeInfo,b,a,newRow,Array.range_zero',hf]
theorem zB (D:jm P ap) (h:bZ ap g m S w) {nid:Nat} (L:g nid=none) {t:Nat} {E:TI} {i:TypeInfo} {d:TypeDesc} {z:Value} (s:DX P t E i d z) {len:Nat} {ps:List (Nat × AV)} {qs:Array (Nat × Value)} (K:zi g m S ps qs.toList)
  {v:AV} {ups:List (Nat × bu)} {bs:List Bool} (b:uU ap nid E len ps=some (v,ups,bs)):
  ∃ cv m' w',(Instr.buildSlice t len qs).run P w= .ok cv w'/\bZ ap (dX g ups) m' S w'/\Fr g m S w (dX g ups) m' S w'/\VR (dX g ups) m' S v cv:=by
 unfold uU at b;split at b
 .rename_i e hd;have k:=bind_some b;clear b;obtain ⟨l,a,b⟩:=k;obtain ⟨q,N,J,a⟩:=eP D a;split at b
  .rename_i f;simp only [φ] at f;have c:=gX f.1.1;have r:=gW f.1.2;have k:=bind_some b;clear b;obtain ⟨B,n,b⟩:=k;cases b;rw [s.d_eq] at hd;have hd:=iG hd;subst hd;have C:bC g m S (g_ len l.zero) (madeCells J.cells (len*q.size)).toList:=xX a _;obtain ⟨j,p,u,I⟩:=qH _ qs.toList _ B _ (um (size:=l.size) K) C n;rw [a.size] at p;have o:(Instr.buildSlice t len qs).run P w= .ok (.slice (some ⟨w.heap.size,0,none⟩) len len) (w.alloc (.cells j e)):=by
    by_cases h0:len*q.size=0
    .exact DV s.und a.info h0 (by rw [h0] at p;simpa [madeCells,Array.range_zero'] using p)
    .exact G8 s.und a.info a.zero (by rw [<- a.size];exact r) h0 p
   have A:∀ x ∈ B,pO x=true:=Fe n (Jw a.zleaf);have y:j.size=len*q.size:=by rw [I,size_madeCells]
   have G:=h.fresh (nid:=nid) L (jF nid B l.size).2 (by have F:=a.small;have H:=a.size;show l.size ≠ jf;omega) len (w':=w.alloc (.cells j e)) (World.grownBy_alloc w _ none) (heap_alloc_new w _) (λ_=>rfl) (Xxr _)
    (rest:= []) (by rw [Δ]) (λhp=>gJ _ u (rW hp)) u (DY u A) (λ_=> ⟨by rw [y];simp [jF,a.size],by
     have F:len<=len*l.size:=Nat.le_mul_of_pos_right _ c;have M:(2:Nat)^24=16777216:=by decide
     simp only [maxLen];omega⟩)
   refine ⟨_,_,_,o,G.1,G.2, ?_⟩;exact Tz (χ _) c (by have F:=a.small;have H:=a.size;omega)
  .cases b
 .cases b
theorem ZR {d:TypeDesc} {k e:Nat} (h:kM P (some d)= .map k e):d= .map k e:=by cases d<;>simp [kM] at h;obtain ⟨rfl,rfl⟩:=h;rfl
theorem UW {k:LK} {x y:AV} {u v:Value} (b:Jg k x=true) (a:Jg k y=true) (d:VR g m S x u) (c:VR g m S y v):
  uI k u v=some (Fa x y)/\(Fa x y=true->u=v)/\(∀ n,Instr.sameBits n u u=true)/\eQ x= []:=by
 cases k<;>cases x<;>simp [Jg] at b<;>cases y<;>simp [Jg] at a<;>simp only [VR,PR] at d c<;>subst d<;>subst c
 .refine ⟨by simp [uI,Fa,b,a],λh=> ?_,λn=>by simp [Instr.sameBits],rfl⟩;simp only [Fa,beq_iff_eq] at h;rw [<- gU b,<- gU a,h]
 .refine ⟨by simp [uI,Fa],λh=> ?_,λn=>by simp [Instr.sameBits],rfl⟩;simp only [Fa,beq_iff_eq] at h;rw [h]
 .refine ⟨by simp [uI,Fa,yY],λh=> ?_,λn=>by cases n<;>simp [Instr.sameBits,MapKept.bytes_beq],rfl⟩;simp only [Fa,beq_iff_eq] at h;rw [h]
theorem pM:∀ {lks:List LK} {a b:List AV} {xs c:List Value},og lks a=true->og lks b=true->bC g m S a xs->bC g m S b c->
  dZ lks xs c=some (J8 a b)/\(J8 a b=true->xs=c)/\(∀ n,∀ x ∈ xs,Instr.sameBits n x x=true)/\bW a= []
 | [],[],[],[],[],_,_,_,_=> ⟨rfl,λ_=>rfl,by simp,rfl⟩
 | k::lks,x::a,y::b,u::xs,v::c,ha,hb,h1,h2=>by
  simp only [og,φ] at ha hb;simp only [bC] at h1 h2;obtain ⟨o,p,l,q⟩:=UW ha.1 hb.1 h1.1 h2.1;obtain ⟨e,f,i,j⟩:=pM ha.2 hb.2 h1.2 h2.2;refine ⟨by simp [dZ,o,e,J8],λh=> ?_,λn z d=> ?_,by simp [bW,q,j]⟩
  .simp only [J8,φ] at h;rw [p h.1,f h.2]
  .rcases List.mem_cons.1 d with rfl|d
   .exact l n
   .exact i n z d
 | [],_::_,_,_,_,ha,_,_,_=>by simp [og] at ha
 |_::_,[],_,_,_,ha,_,_,_=>by simp [og] at ha
 | [],[],_::_,_,_,_,hb,_,_=>by simp [og] at hb
 |_::_,_::_,[],_,_,_,hb,_,_=>by simp [og] at hb
 | [],[],[],_::_,_,_,_,h1,_=>by simp [bC] at h1
 | [],[],[],[],_::_,_,_,_,h2=>by simp [bC] at h2
 |_::_,_::_,_::_,[],_,_,_,h1,_=>by simp [bC] at h1
 |_::_,_::_,_::_,_::_,[],_,_,_,h2=>by simp [bC] at h2
def aeB (P:Program) (n:Nat) (t:TypeId) (lks:List LK):Prop:=
 ∀ (em:Bool) (d:Nat) (w:World) (xs:List Value),n<=d->dZ lks xs xs=some true->(Instr.checkKey em d t (wJ P t xs)).run P w= .ok () w
theorem vz {lks:List LK} {xs:List Value} {r:Bool} (h:dZ lks xs xs=some r):dZ lks xs xs=some true:=by
 induction lks generalizing xs r with
 |nil=>cases xs<;>simp [dZ] at h ⊢
 | cons k lks ih=>
  cases xs with
  |nil=>simp [dZ] at h
  | cons x xs=>
   simp only [dZ] at h ⊢;obtain ⟨c,b,h⟩:=bind_some h;rw [Xqs] at h;obtain ⟨d,hd,rfl⟩:=h;have a:uI k x x=some true:=by
    cases k<;>cases x<;>simp [uI] at b ⊢
    split at b
    .rename_i e;simp [e]
    .cases b
   simp [a,ih hd]
theorem sU {n:Nat} (u:∀ t lks,jZ P n t=some lks->aeB P n t lks):∀ (fs:List Field) (off:Nat) (lks:List LK),zI P (jZ P n) fs off=some lks->
  ∀ (em:Bool) (d:Nat) (w:World) (xs:List Value),n<=d->xs.length=off+lks.length->dZ lks (xs.drop off) (xs.drop off)=some true->
   (forIn (m:=Sem) fs PUnit.unit λf _=>do
    if f.name ≠ "_" then Instr.checkKey em d f.type (<- part f.type xs.toArray f.offset)
    pure (ForInStep.yield PUnit.unit)).run P w= .ok PUnit.unit w
 | [],off,lks,hc,em,d,w,xs,hd,hx,h=>by simp
 | f ::fs,off,lks,hc,em,d,w,xs,hd,hx,h=>by
  simp only [zI] at hc;cases j:jZ P n f.type with
  |none=>simp [j] at hc
  | some l=>
   simp only [j] at hc;split at hc
   .rename_i hcond;simp only [φ,Xqq] at hcond;obtain ⟨⟨v,q⟩,c⟩:=hcond;cases s:zI P (jZ P n) fs (off+l.length) with
    |none=>simp [s] at hc
    | some l'=>
     simp only [s] at hc;cases hc;cases r:P.info? f.type with
     |none=>simp [r] at c
     |some i=>
      simp only [r] at c;have c:=aP c;have q:=aP q;have o:f.name ≠ "_" :=by intro e;rw [e] at v;exact absurd v (by decide)
      simp only [η] at hx;obtain ⟨a,b,p,k,x⟩:=tZ l l' _ _ true h;have p:=vz p;have k:=vz k;have y:=wB j r c xs off (by omega) w;have z:=u f.type l j em d w _ hd p;have A:=sU u fs (off+l.length) l' s em d w xs hd (by omega) (by simpa [Xjw,Nat.add_comm] using k);simp only [List.forIn_cons,Sem.run_bind,o,ne_eq,not_false_eq_true,if_true,Result.andThen_ok,q,y,z,Sem.run_pure];simpa using A
   .cases hc
theorem MN:∀ (n:Nat) (t:TypeId) (lks:List LK),jZ P n t=some lks->aeB P n t lks
 |0,_,_,h=>by simp [jZ] at h
 | n +1,t,lks,h=>by
  intro e d w xs hd b;obtain ⟨d,rfl⟩:∃ k,d=k+1:=⟨d - 1,by omega⟩
  have c:=qW _ _ _ _ b;unfold jZ at h;cases a:P.underlying t with
  |none=>simp [a] at h
  | some ds=>
   unfold Instr.checkKey;simp only [Sem.run_bind,run_underlying a,Result.andThen_ok,wJ,a];cases ds<;>simp only [a] at h<;>try cases h
   case struct fs=>
    split at h
    .cases h
    .have:=sU (MN n) fs.toList 0 lks h e d w xs (by omega) (by simp [c.1]) (by simpa using b);simp only [<- Array.forIn_toList];simpa using this
   all_goals (cases xs.headD undef<;>simp)
theorem FM (e:jm P ap) {t:Nat} {h:TI} (d:ap.tyAt t=some h) {a b:List AV} {xs s:List Value} (c:h.cmp=true) (f:og h.lks a=true) (o:og h.lks b=true) (p:bC g m S a xs) (v:bC g m S b s) (k:∃ u,P.underlying t=some (.struct u)):
  (∀ n,(Instr.checkKey n 10000 t (.agg xs.toArray)).run P w= .ok () w)/\(Op.equal t (.agg xs.toArray) (.agg s.toArray)).run P w= .ok (J8 a b) w:=by
 obtain ⟨u,k⟩:=k;rw [(Az e d).1] at c;rw [(Az e d).2] at f o;unfold aaR at c;cases i:jZ P 8 t with
 |none=>simp [i] at c
 |some l=>
  simp only [i,φ,Xqq] at c;have j:=FW c.1;rw [<- j] at f o;have q:=ET 8 t l i 10000 w xs s _ (by omega) (pM f o p v).1;have r:=λn=>MN 8 t l i n 10000 w xs (by omega) (vz (pM f f p p).1)
  simp only [wJ,k] at q r;exact ⟨r,q⟩
theorem C9 {b:TI} {d:TypeDesc} (hd:b.d=kM P (some d)) (hs:∀ fs,d ≠ .struct fs) {x:AV} {v:Value} (h:lG b x=true) (a:VR g m S x v):MapKept.IsKey d v:=by
 unfold lG at h;rw [hd] at h;cases d<;>simp only [kM] at h<;>cases x<;>simp at h<;>simp only [VR,PR] at a<;>first|(exact absurd rfl (hs _))|(subst a;simp only [MapKept.IsKey])
 exact (gU h).symm
theorem XK {f:TI} {d:TypeDesc} (hd:f.d=kM P (some d)) (hs:∀ fs,d ≠ .struct fs) {x y:AV} {u v:Value} (c:lG f x=true) (e:lG f y=true) (i:VR g m S x u) (h:VR g m S y v):Instr.sameNow d u v=some (yz x y):=by
 unfold lG at c e;rw [hd] at c e;cases d<;>simp only [kM] at c e<;>cases x<;>simp at c<;>cases y<;>simp at e<;>simp only [VR,PR] at i h<;>first|(exact absurd rfl (hs _))|(subst i;subst h;simp only [Instr.sameNow,yz])
 .rw [if_pos ((gU c).symm.trans (gU e))]
 .rename_i a b;congr 1;rw [Bool.eq_iff_iff,MapKept.bytes_beq];simp
theorem F5 (h:bZ ap g m S w) {rd:dO} (n:∀ b B,rd b=some B->g b=some B) {x:AV} {s:Value} (p:VR g m S x s) {q:List AV × List AV} (a:Yp rd x=some q):
  ∃ d:Array MapEntry,((s= .map none/\d=#[])\/∃ b c,s= .map (some b)/\w.heap[b]? =some (.map d c))/\bC g m S q.1 (d.toList.map (·.key))/\bC g m S q.2 (d.toList.map (·.val)):=by
 unfold Yp at a;split at a
 .rename_i ks vs;cases a;simp only [VR,PR] at p;rcases p with ⟨rfl,rfl,rfl⟩|⟨b,v,u,rfl,z,A,r,t⟩
  .exact ⟨#[],.inl ⟨rfl,rfl⟩,by simp [bC],by simp [bC]⟩
  .obtain ⟨d,c,o,f⟩:=wP (h.sealed _ _ _ z) rfl;obtain ⟨D,clk',l,i⟩:=wP (h.sealed _ _ _ A) rfl;rw [o] at l;cases l;have f:Value.agg (d.map (·.key))= .agg v.toArray:=Option.some.inj f;have i:Value.agg (d.map (·.val))= .agg u.toArray:=Option.some.inj i;have f:=Value.agg.inj f;have i:=Value.agg.inj i;refine ⟨d,.inr ⟨b,c,rfl,o⟩, ?_, ?_⟩
   .rw [<- Array.toList_map,f];exact cO _ r
   .rw [<- Array.toList_map,i];exact cO _ t
 .rename_i b ver;have E:=bind_some a;clear a;obtain ⟨B,y,a⟩:=E;split at a
  .rename_i j;simp only [φ] at j;split at a
   .rename_i ks vs hcells;cases a;simp only [VR] at p;obtain ⟨B',k,_,_,q⟩:=p;rw [n b B y] at k;cases k;have q:=q (aP j.1);obtain ⟨⟨cur,e,C,rest,k1,k2,_,k4,_,_⟩,_,_⟩:=h.blk b B (n b B y);obtain ⟨d,c,o,rfl⟩:=k1.map (aP j.2);rw [hcells] at k4
    match C,k4 with
    | [u0,u1],k4=>
     simp only [bC,VR,and_true] at k4;obtain ⟨⟨v,rfl,r⟩,u,rfl,t⟩:=k4;simp only [yH,Xxf,List.cons.injEq] at k2;have f:=Value.agg.inj k2.1;have i:=Value.agg.inj k2.2.1;refine ⟨d,.inr ⟨_,c,q,o⟩, ?_, ?_⟩
     .rw [<- Array.toList_map,f];exact r
     .rw [<- Array.toList_map,i];exact t
    | [],k4=>simp [bC] at k4
    | [_],k4=>simp [bC] at k4
    |_::_::_::_,k4=>simp [bC] at k4
   .cases a
  .cases a
 .cases a
structure aao (P:Program) (g:dO) (m:bg) (S:aY) (w:World) (t:Nat) (ti:TI) (d:TypeDesc) (k:AV) (ck:Value):Prop where
 chk:∀ em,(Instr.checkKey em 10000 t ck).run P w= .ok () w
 stay:(Instr.keyThatStays ck ck).run P w= .ok ck w
 eqs:∀ {k' ck'},lG ti k'=true->VR g m S k' ck'->((match d with| .struct _=>(Op.equal t ck ck').run P w= .ok (yz k k') w|_=>Instr.sameNow d ck ck'=some (yz k k'))/\(yz k k'=true->ck=ck'))
theorem Jh (E:jm P ap) {t:Nat} {q:TI} {i:TypeInfo} {d:TypeDesc} {z:Value} (D:ap.tyAt t=some q) (s:DX P t q i d z) {k:AV} {ck:Value} (u:lG q k=true) (A:VR g m S k ck):aao P g m S w t q d k ck:=by
 by_cases hs:∃ o,d= .struct o
 .obtain ⟨o,rfl⟩:=hs;have hd:=s.d_eq;have J:∀ {x:AV},lG q x=true->∃ l,x= .agg l/\q.cmp=true/\og q.lks l=true:=by
   intro x n;unfold lG at n;rw [hd] at n;cases x<;>simp [kM] at n
   exact ⟨_,rfl,n⟩
  obtain ⟨l,rfl,I,y⟩:=J u;have Q:=A;simp only [VR] at A;obtain ⟨xs,rfl,n⟩:=A;refine ⟨(FM E D I y y n n ⟨o,s.und⟩).1, ?_, ?_⟩
  .have N:Instr.sameBits 10000 (.agg xs.toArray) (.agg xs.toArray)=true:=by
    show Instr.sameBits (9999+1) _ _=true;have O:=(pM y y n n).2.2.1 9999;simp only [Instr.sameBits,beq_self_eq_true,Bool.true_and,List.all_eq_true];intro p hp;obtain ⟨a,b⟩:=p;have U:∀ l:List Value,(a,b) ∈ l.zip l->a=b/\a ∈ l:=by
     intro l
     induction l with
     |nil=>intro h;simp at h
     |cons c l ih=>
      intro h;simp only [List.zip_cons_cons,List.mem_cons,Prod.mk.injEq] at h;rcases h with ⟨rfl,rfl⟩|h
      .exact ⟨rfl,by simp⟩
      .exact ⟨(ih h).1,List.mem_cons_of_mem _ (ih h).2⟩
    obtain ⟨rfl,V⟩:=U xs hp;exact O a V
   simp [Instr.keyThatStays,N]
  .intro R F f j;obtain ⟨W,rfl,_,B⟩:=J f;simp only [VR] at j;obtain ⟨X,rfl,L⟩:=j;refine ⟨(FM E D I y B n L ⟨o,s.und⟩).2,λG=> ?_⟩;rw [(pM y B n L).2.1 G]
 .have hs:∀ o,d ≠ .struct o:=λo e=>hs ⟨o,e⟩
  have v:=C9 s.d_eq hs u A;refine ⟨λT=>MapKept.run_checkKey s.und v T 9999,MapKept.run_keyThatStays v, ?_⟩;intro R F f j;have H:=XK s.d_eq hs u f A j;have M:=MapKept.sameNow_of_keys v (C9 s.d_eq hs f j);refine ⟨?_,λG=> ?_⟩
  .cases d<;>first|exact H|exact absurd rfl (hs _)
  .obtain ⟨r,K,C⟩:=M;rw [H] at K;cases K;exact C.1 G
def kN (P:Program) (w:World) (t:Nat) (d:TypeDesc) (ck:Value) (l:List MapEntry) (i:Nat) (r:Option (Nat × Value)):Prop:=
 match d with
 | .struct _=>(Instr.findAsking t ck l i).run P w= .ok r w
 |_=>Instr.findNow d ck l i=some r
theorem kN.nil {t:Nat} {d:TypeDesc} {ck:Value} {i:Nat}:kN P w t d ck [] i none:=by
 unfold kN;cases d<;>first|rfl|simp [Instr.findAsking]
theorem kN.hit {t:Nat} {c:TI} {d:TypeDesc} {k b:AV} {ck:Value} {e:MapEntry} {l:List MapEntry} {i:Nat} (h:aao P g m S w t c d k ck) (a:lG c b=true) (f:VR g m S b e.key) (j:yz k b=true):kN P w t d ck (e::l) i (some (i,e.val)):=by
 have q:=(h.eqs a f).1;rw [j] at q;unfold kN;cases d<;>simp only at q ⊢ <;>first|(simp [Instr.findAsking,q];done)|(simp [Instr.findNow,q];done)
theorem kN.miss {t:Nat} {f:TI} {d:TypeDesc} {k c:AV} {ck:Value} {e:MapEntry} {l:List MapEntry} {i:Nat} {r:Option (Nat × Value)} (h:aao P g m S w t f d k ck) (b:lG f c=true) (j:VR g m S c e.key) (n:yz k c=false) (a:kN P w t d ck l (i+1) r):kN P w t d ck (e::l) i r:=by
 have q:=(h.eqs b j).1;rw [n] at q;unfold kN at a ⊢;cases d<;>simp only at q a ⊢ <;>first|(simp [Instr.findAsking,q,a];done)|(simp [Instr.findNow,q,a];done)
theorem kN.run {t:Nat} {c:TI} {i:TypeInfo} {d:TypeDesc} {z:Value} (b:DX P t c i d z) {ck:Value} {l:List MapEntry} {r:Option (Nat × Value)} (h:kN P w t d ck l 0 r):(Instr.findKey t ck l).run P w= .ok r w:=by
 by_cases hs:∃ a,d= .struct a
 .obtain ⟨a,rfl⟩:=hs;simp only [kN] at h;cases l with
  |nil=>
   simp [Instr.findAsking] at h;subst h;simp [Instr.findKey,run_underlying b.und,Result.andThen,Instr.findNow]
  |cons e l=>
   simp only [Instr.findKey,Sem.run_bind,run_underlying b.und,Result.andThen_ok,Instr.findNow,Instr.sameNow];exact h
 .have hs:∀ a,d ≠ .struct a:=λa e=>hs ⟨a,e⟩
  refine MapKept.run_findKey b.und ?_;unfold kN at h;cases d<;>first|exact h|exact absurd rfl (hs _)
theorem vF {t:Nat} {p:TI} {d:TypeDesc} {k v:AV} {ck cv:Value} (c:aao P g m S w t p d k ck) (q:VR g m S v cv):∀ (l:List MapEntry) (ks vs:List AV) (i:Nat),bC g m S ks (l.map (·.key))->bC g m S vs (l.map (·.val))->ks.all (lG p)=true->
  (kN P w t d ck l i none/\eH ks vs k=none/\ks.any (yz k)=false/\qw ks vs k v=vs++ [v])\/
  ∃ j e x,kN P w t d ck l i (some (i+j,e.val))/\l[j]? =some e/\e.key=ck/\eH ks vs k=some x/\VR g m S x e.val/\ks.any (yz k)=true/\bC g m S (qw ks vs k v) ((l.set j {e with key:=ck,val:=cv}).map (·.val))
 | [],ks,vs,i,h1,h2,_=>by
  cases ks with
  |cons _ _=>simp [bC] at h1
  |nil=>
   cases vs with
   |cons _ _=>simp [bC] at h2
   |nil=>exact .inl ⟨kN.nil,rfl,rfl,rfl⟩
 | e ::l,ks,vs,i,h1,h2,ha=>by
  cases ks with
  |nil=>simp [bC] at h1
  | cons k0 ks=>
   cases vs with
   |nil=>simp [bC] at h2
   | cons v0 vs=>
    simp only [Xqg,bC] at h1 h2;simp only [Xx5,φ] at ha;cases a:yz k k0 with
    |true=>
     have b:e.key=ck:=((c.eqs ha.1 h1.1).2 a).symm;refine .inr ⟨0,e,v0,kN.hit c ha.1 h1.1 a,rfl,b, ?_,h2.1, ?_, ?_⟩
     .simp [eH,a]
     .simp [a]
     .simp only [qw,a,List.set_cons_zero,Xqg,bC];exact ⟨q,h2.2⟩
    | false=>
     rcases vF c q l ks vs (i+1) h1.2 h2.2 ha.2 with ⟨h,n,o,f⟩|⟨j,e',x,h,n,o,f,s,r,u⟩
     .refine .inl ⟨kN.miss c ha.1 h1.1 a h, ?_, ?_, ?_⟩
      .simp [eH,a,n]
      .simp only [Xv5,a,o];rfl
      .simp [qw,a,f]
     .refine .inr ⟨j+1,e',x, ?_,by simpa using n,o, ?_,s, ?_, ?_⟩
      .rw [show i+(j+1)=i+1+j by omega];exact kN.miss c ha.1 h1.1 a h
      .simp [eH,a,f]
      .simp only [Xv5,a,r];rfl
      .simp only [qw,a,List.set_cons_succ,Xqg,bC];exact ⟨h2.1,u⟩
theorem C_ {ok:Bool} {o:Option AV} {z:AV} {u c:Value} {b:Bool} (h:(o=none/\u=c/\b=false)\/∃ x,o=some x/\VR g m S x u/\b=true) (e:VR g m S z c):VR g m S (SA ok o z) (if ok then .tuple #[u,.bool b] else u):=by
 have a:VR g m S (o.getD z) u/\o.isSome=b:=by
  rcases h with ⟨rfl,rfl,rfl⟩|⟨x,rfl,d,rfl⟩
  .exact ⟨e,rfl⟩
  .exact ⟨d,rfl⟩
 cases ok with
 |true=>
  simp only [SA,if_true,VR];refine ⟨[u,.bool b],rfl, ?_⟩;simp only [bC,VR,PR,and_true];exact ⟨a.1,by rw [a.2]⟩
 |false=>simpa [SA] using a.1
theorem Iu (r:jm P ap) (h:bZ ap g m S w) {rd:dO} (H:∀ b B,rd b=some B->g b=some B) {t:Nat} {I:TI} {i:TypeInfo} {d:TypeDesc} {z:Value} (A:DX P t I i d z) {x k v:AV} {K ck:Value} (W:VR g m S x K) (J:VR g m S k ck) {ok:Bool}
  {ups:List (Nat × bu)} {bs:List Bool} (c:KE ap I rd x k ok=some (v,ups,bs)) (n:∀ b ∈ bs,b=true):
  ups= []/\∃ cv,(Instr.lookup t K ck ok).run P w= .ok cv w/\VR g m S v cv:=by
 unfold KE at c;split at c
 .rename_i kt et hd;have p:=bind_some c;clear c;obtain ⟨tk,a,c⟩:=p;have p:=bind_some c;clear c;obtain ⟨X,f,c⟩:=p;have p:=bind_some c;clear c;obtain ⟨q,p,c⟩:=p;have G:=bind_some c;clear c;obtain ⟨T,E,c⟩:=G;obtain ⟨rfl,rfl,rfl⟩:=aV c;have F:=a;obtain ⟨ik,Z,zk,a⟩:=eP r a;obtain ⟨Y,de,Q,f⟩:=eP r f;rw [A.d_eq] at hd;have hd:=ZR hd;subst hd;obtain ⟨L,n⟩:=dw n;obtain ⟨N,_⟩:=dw n;obtain ⟨R,u,v1,U⟩:=F5 h H W p;have l:=Jh (w:=w) r F a L J;have s:VR g m S T Q:=yI f E;refine ⟨rfl, ?_⟩;rcases vF l J R.toList q.1 q.2 0 v1 U N with ⟨o,O,_,_⟩|⟨j,e,y,o,_,_,V,M,_,_⟩
  .refine ⟨_, ?_,C_ (.inl ⟨O,rfl,rfl⟩) s⟩;rcases u with ⟨rfl,rfl⟩|⟨b,D,rfl,C⟩
   .simp [Instr.lookup,run_underlying A.und,l.chk,o.run a,zeroValue,typeInfo,f.info,f.zero,Result.andThen]
   .simp [Instr.lookup,run_underlying A.und,MapKept.run_getObj_map C,l.chk,o.run a,zeroValue,typeInfo,f.info,f.zero,Result.andThen]
  .refine ⟨_, ?_,C_ (.inr ⟨y,V,M,rfl⟩) s⟩;rcases u with ⟨rfl,rfl⟩|⟨b,D,rfl,C⟩
   .have o:=o.run a;simp [Instr.findKey,run_underlying a.und,Result.andThen,Instr.findNow] at o
   .simp [Instr.lookup,run_underlying A.und,MapKept.run_getObj_map C,l.chk,o.run a,Result.andThen]
 .cases c
mutual
theorem QY {S:aY}:∀ (x:AV) {v:Value},PR S x v->eQ x= []
 | .int _ _,_,_=>rfl
 | .bool _,_,_=>rfl
 | .str _,_,_=>rfl
 | .nilS,_,_=>rfl
 | .nilP,_,_=>rfl
 | .nilF,_,_=>rfl
 | .nilI,_,_=>rfl
 | .sl _ _ _,_,_=>rfl
 | .pp _ _,_,_=>rfl
 | .mp _ _,_,_=>rfl
 | .dead,_,_=>rfl
 | .own _ _ _,_,p=>by simp only [PR] at p
 | .ref _ _ _ _,_,p=>by simp only [PR] at p
 | .ptr _ _ _,_,p=>by simp only [PR] at p
 | .mr _ _,_,p=>by simp only [PR] at p
 | .agg l,_,p=>by
  simp only [PR] at p;simp only [eQ];obtain ⟨_,_,q⟩:=p;exact rJ l q
 | .tup l,_,p=>by
  simp only [PR] at p;simp only [eQ];obtain ⟨_,_,q⟩:=p;exact rJ l q
 | .fn f a c,_,p=>by
  simp only [PR] at p;simp only [eQ];obtain ⟨_,_,_,q,r⟩:=p;rw [rJ a q,rJ c r];rfl
 | .ifc t x,_,p=>by
  simp only [PR] at p;simp only [eQ];obtain ⟨_,_,q⟩:=p;exact QY x q
theorem rJ {S:aY}:∀ (l:List AV) {vs:List Value},eY S l vs->bW l= []
 | [],_,_=>rfl
 |x::r,v::vs,p=>by simp only [eY] at p;simp only [bW,QY x p.1,rJ r p.2,Δ]
 |_::_,[],p=>by simp [eY] at p
end
theorem Jo (h:bZ ap g m S w) {b:Nat} {B:bu} {a:Array MapEntry} {clk':Nat} {k:Nat} {w':World} (r:w'.heap[k]? =some (.map a clk')) (j:B.esz=jf) {ks vs:List AV} (e:B.cells= [.agg ks,.agg vs]) (o:bC g m S ks (a.toList.map (·.key))) (n:bC g m S vs (a.toList.map (·.val))) (hp:B.pr=true->bW vs= []/\bW ks= []) (l:B.fro=false->B.fz=0) (f:B.fz<=2) (c:Nat):Uh g m S w' B k c:=by
 refine ⟨⟨yH a,0,[.agg (a.map (·.key)),.agg (a.map (·.val))],[],.inr ⟨j,a,clk',r,rfl⟩,rfl, ?_, ?_,λi=>absurd j i,λ_ i=>absurd j i⟩,l,by rw [e];exact f⟩
 .intro d;obtain ⟨p,q⟩:=hp d;rw [e];simp only [eY,PR,and_true];exact ⟨⟨(a.map (·.key)).toList,by rw [Array.toArray_toList],by rw [Array.toList_map];exact gJ _ o q⟩,(a.map (·.val)).toList,by rw [Array.toArray_toList],by rw [Array.toList_map];exact gJ _ n p⟩
 .rw [e];simp only [bC,VR,and_true];exact ⟨⟨(a.map (·.key)).toList,by rw [Array.toArray_toList],by rw [Array.toList_map];exact o⟩,(a.map (·.val)).toList,by rw [Array.toArray_toList],by rw [Array.toList_map];exact n⟩
theorem Iw (h:bZ ap g m S w) {nid:Nat} (e:g nid=none) (t:Nat):
  ∃ cv m' w',(Instr.makeMap t none).run P w= .ok cv w'/\bZ ap (dX g [(nid,⟨[.agg [],.agg []],0,false,0,jf,true⟩)]) m' S w'/\Fr g m S w (dX g [(nid,⟨[.agg [],.agg []],0,false,0,jf,true⟩)]) m' S w'/\VR (dX g [(nid,⟨[.agg [],.agg []],0,false,0,jf,true⟩)]) m' S (.mr nid 0) cv:=by
 have a:=h.put nid ⟨[.agg [],.agg []],0,false,0,jf,true⟩ w.heap.size 0 (w':=w.alloc (.map #[] 0)) (.inl (χ _)) (World.grownBy_alloc w _ _)
  (Jo h (b:=nid) (heap_alloc_new w _) rfl rfl (by simp [bC]) (by simp [bC]) (λ_=> ⟨rfl,rfl⟩) (λ_=>rfl) (Xxr _) 0)
  (λB0 c=>by rw [e] at c;cases c) (λo v d=>absurd (h.seal_lt d) (Xv3 _))
 refine ⟨.map (some w.heap.size),_,_, ?_,a.1,a.2, ?_⟩
 .simp [Instr.makeMap,Result.andThen]
 .simp only [VR];exact ⟨_,oQ _ _ _,χ _,⟨_,rfl⟩,λ_=>by simp [kY]⟩
theorem FK:∀ (lks:List LK) (l:List AV),og lks l=true->bW l= []
 | [],[],_=>rfl
 |k::lks,x::l,h=>by
  simp only [og,φ] at h;have a:eQ x= []:=by cases k<;>cases x<;>first|rfl|(have:=h.1;simp [Jg] at this)
  simp only [bW,a,FK lks l h.2,Δ]
 | [],_::_,h=>by simp [og] at h
 |_::_,[],h=>by simp [og] at h
theorem BV:∀ (l:List AV) (b:TI),l.all (lG b)=true->bW l= []
 | [],_,_=>rfl
 | x::r,b,h=>by
  simp only [Xx5,φ] at h;have c:eQ x= []:=by
   have a:=h.1;unfold lG at a;split at a<;>first|rfl|(cases a;done)|skip
   simp only [φ] at a;simp only [eQ];exact FK _ _ a.2
  simp only [bW,c,BV r b h.2,Δ]
theorem GU:∀ (ks vs:List AV) (k v:AV),bW vs= []->eQ v= []->bW (qw ks vs k v)= []
 | [],_,k,v,_,h2=>by simp [qw,bW,h2]
 |_::_,[],k,v,_,h2=>by simp [qw,bW,h2]
 |k0::ks,v0::vs,k,v,h1,h2=>by
  simp only [bW,Xj2] at h1;simp only [qw];split
  .simp [bW,h1.2,h2]
  .simp [bW,h1.1,GU ks vs k v h1.2 h2]
theorem yc (L:jm P ap) (h:bZ ap g m S w) {rd:dO} (O:∀ b B,rd b=some B->g b=some B) {t:Nat} {ti:TI} {i:TypeInfo} {d:TypeDesc} {z:Value} (U:DX P t ti i d z) {x k v r:AV} {cx ck cv:Value} (hx:VR g m S x cx) (hk:VR g m S k ck) (hv:VR g m S v cv)
  {ups:List (Nat × bu)} {bs:List Bool} (f:Es ap ti rd x k v=some (r,ups,bs)) (G:∀ b ∈ bs,b=true):
  r= .dead/\∃ E w',(Instr.mapUpdate t cx ck cv).run P w= .ok () w'/\bZ ap (dX g ups) E S w'/\Fr g m S w (dX g ups) E S w':=by
 unfold Es at f;split at f
 .rename_i kt et b ver hd;have Z:=bind_some f;clear f;obtain ⟨tk,p,f⟩:=Z;have Z:=bind_some f;clear f;obtain ⟨B,hB,f⟩:=Z;split at f
  .rename_i l;simp only [φ,Xqq] at l;split at f
   .rename_i ks vs hcells;cases f;have hkt:=p;obtain ⟨ik,dk,zk,p⟩:=eP L p;rw [U.d_eq] at hd;have hd:=ZR hd;subst hd;obtain ⟨b1,G⟩:=dw G;obtain ⟨b2,_⟩:=dw G;have a:=O b B hB;have hz:=aP l.1.2;have V:Yp rd (.mr b ver)=some (ks,vs):=by
     unfold Yp;simp only [hB,Option.bind_some,l.1.1,l.1.2,Bool.and_self,hcells]
    obtain ⟨s,hes,v1,v2⟩:=F5 h O hx V;have D:=Jh (w:=w) L hkt p b1 hk;simp only [VR] at hx;obtain ⟨B',M,_,_,q⟩:=hx;rw [a] at M;cases M;have q:=q (aP l.1.1);subst q;rcases hes with ⟨e,_⟩|⟨b0,H,e,Q⟩
    .cases e
    cases e;have W:(m b).1<w.heap.size:=h.lt a;obtain ⟨_,k7,k8⟩:=h.blk b B a;have key:∀ (c:Array MapEntry) (clk':Nat),bC g m S (yJ ks k) (c.toList.map (·.key))->bC g m S (qw ks vs k v) (c.toList.map (·.val))->
      ∃ E,bZ ap (dX g [(b,{B with cells:= [.agg (yJ ks k),.agg (qw ks vs k v)],pr:=B.pr && (eQ v).isEmpty})]) E S {w with heap:=w.heap.setIfInBounds (m b).1 (.map c clk')}/\Fr g m S w (dX g [(b,{B with cells:= [.agg (yJ ks k),.agg (qw ks vs k v)],pr:=B.pr && (eQ v).isEmpty})]) E S {w with heap:=w.heap.setIfInBounds (m b).1 (.map c clk')}:=by
     intro c clk' w1 w2;have F:=h.put b {B with cells:= [.agg (yJ ks k),.agg (qw ks vs k v)],pr:=B.pr && (eQ v).isEmpty} (m b).1 (m b).2 (w':={w with heap:=w.heap.setIfInBounds (m b).1 (.map c clk')})
      (.inr ⟨B,a,rfl⟩) ⟨rfl,rfl,rfl,by simp,λk' _ hk'=>by simp [show (m b).1 ≠ k' from λe=>hk' (by rw [e])]⟩
      (Jo h (b:=b) (B:={B with cells:= [.agg (yJ ks k),.agg (qw ks vs k v)],pr:=B.pr && (eQ v).isEmpty}) (w':={w with heap:=w.heap.setIfInBounds (m b).1 (.map c clk')}) (k:=(m b).1) (clk':=clk') (by simp [W]) hz rfl w1 w2 (λA=>by
       have A:(B.pr && (eQ v).isEmpty)=true:=A;simp only [φ] at A;obtain ⟨⟨cur,e,us,rest,k1,k2,k3,k4,_,_⟩,_,_⟩:=h.blk b B a;have Y:bW B.cells= []:=rJ _ (k3 A.1);rw [hcells] at Y;simp only [bW,eQ,Δ,Xj2] at Y;refine ⟨GU _ _ _ _ Y.2 (rW A.2), ?_⟩;have J:=BV ks _ b2;unfold yJ;split
       .exact J
       .rw [uy,J];exact BV [k] tk (by simp [b1])) k7 (by rw [hcells] at k8;exact k8) (m b).2)
      (λB0 h0=>by rw [a] at h0;cases h0;exact ⟨rfl,.inl ⟨rfl,rfl⟩⟩)
      (λo u hu=>by
       have:=(h.own b B a o u hu).1;rw [l.2] at this;cases this)
     exact ⟨_,F.1,F.2⟩
    refine ⟨rfl, ?_⟩;rcases vF D hv s.toList ks vs 0 v1 v2 b2 with ⟨R,r2,r3,r4⟩|⟨j,e,y,R,X,rk,r4,r5,r6,r7⟩
    .obtain ⟨E,T,s2⟩:=key (s.push {key:=ck,val:=cv,born:=H}) (H+1)
      (by unfold yJ;rw [r3,Array.toList_push,Xx3];exact iI v1 (by simp only [Xqg,Xxw,bC,and_true];exact hk))
      (by rw [r4,Array.toList_push,Xx3];exact iI v2 (by simp only [Xqg,Xxw,bC,and_true];exact hv))
     refine ⟨E,_, ?_,T,s2⟩;simp [Instr.mapUpdate,run_underlying U.und,MapKept.run_getObj_map Q,D.chk,R.run p,MapKept.run_setObj_map _ Q,Result.andThen]
    .have C:s[j]? =some e:=by simpa using X
     have N:(s.modify j λe=> {e with key:=ck,val:=cv}).toList=s.toList.set j {e with key:=ck,val:=cv}:=by
      apply Xj3;intro n;simp only [Array.getElem?_toList,Array.getElem?_modify,Xzo];by_cases hjn:j=n
      .subst hjn;have I:j<s.toList.length:=(List.getElem?_eq_some_iff.1 X).1;rw [if_pos rfl,if_pos rfl,if_pos I,C];rfl
      .rw [if_neg hjn,if_neg hjn]
     obtain ⟨E,T,s2⟩:=key (s.modify j λe=> {e with key:=ck,val:=cv}) H
      (by
       unfold yJ;rw [r6,N];have:(s.toList.set j {e with key:=ck,val:=cv}).map (·.key)=s.toList.map (·.key):=by
        apply Xj3;intro n;simp only [Xq5,Xzo];by_cases hjn:j=n
        .subst hjn;have I:j<s.toList.length:=(List.getElem?_eq_some_iff.1 X).1;have K:j<s.size:=by simpa using I
         have hge:s[j]=e:=by rw [Array.getElem?_eq_getElem K] at C;exact Option.some.inj C
         simp [K,hge,rk]
        .simp [hjn]
       rw [this];exact v1)
      (by rw [N];exact r7)
     refine ⟨E,_, ?_,T,s2⟩;rw [Ψ] at R;simp [Instr.mapUpdate,run_underlying U.und,MapKept.run_getObj_map Q,D.chk,R.run p,C,rk,D.stay,MapKept.run_setObj_map _ Q,Result.andThen]
   .cases f
  .cases f
 .cases f
end
end AM
namespace AM
open Go
section
variable {P:Program} {ap:AP} {g:dO} {m:bg} {S:aY} {w:World}
theorem wM {ρ:Operand->AV} {cρ:Operand->Value}:∀ (l:List Operand),(∀ o ∈ l,VR g m S (ρ o) (cρ o))->bC g m S (l.map ρ) (l.map cρ)
 | [],_=>by simp [bC]
 |o::r,h=>by simp only [Xqg,bC];exact ⟨h o (by simp),wM r λo a=>h o (by simp [a])⟩
theorem EE {ρ:Operand->AV} {cρ:Operand->Value}:∀ (l:List (Nat × Operand)),(∀ o ∈ l.map (·.2),VR g m S (ρ o) (cρ o))->zi g m S (l.map λ(i,x)=>(i,ρ x)) (l.map λ(i,x)=>(i,cρ x))
 | [],_=>by simp [zi]
 |(i,o)::r,h=>by simp only [Xqg,zi];exact ⟨trivial,h o (by simp),EE r λo a=>h o (by simp [a])⟩
def jo (P:Program) (ap:AP) (g:dO) (m:bg) (S:aY) (w:World) (s:Sem Next) (v:AV) (ups:List (Nat × bu)):Prop:=
 ∃ nx m' w',s.run P w= .ok nx w'/\bZ ap (dX g ups) m' S w'/\Fr g m S w (dX g ups) m' S w'/\((∃ cv,nx= .value cv/\VR (dX g ups) m' S v cv)\/(nx= .skip/\v= .dead))
theorem jo.pur (h:bZ ap g m S w) {s:Sem Value} {v:AV} {ups:List (Nat × bu)} (hs:ups= []/\∃ cv,s.run P w= .ok cv w/\VR g m S v cv):jo P ap g m S w (do pure (.value (<- s))) v ups:=by
 obtain ⟨rfl,cv,b,a⟩:=hs;exact ⟨.value cv,m,w,by simp [b],by rw [gm];exact h,by rw [gm];exact Fr.refl _ _ _ _,.inl ⟨cv,rfl,by rw [gm];exact a⟩⟩
theorem jo.full {s:Sem Value} {v:AV} {ups:List (Nat × bu)} (hs:∃ cv a w',s.run P w= .ok cv w'/\bZ ap (dX g ups) a S w'/\Fr g m S w (dX g ups) a S w'/\VR (dX g ups) a S v cv):jo P ap g m S w (do pure (.value (<- s))) v ups:=by
 obtain ⟨cv,a,w',e,b,c,d⟩:=hs;exact ⟨.value cv,a,w',by simp [e],b,c,.inl ⟨cv,rfl,d⟩⟩
theorem jo.val (h:bZ ap g m S w) {s:Sem Next} {v:AV} {cv:Value} (hs:s.run P w= .ok (.value cv) w) (a:VR g m S v cv):jo P ap g m S w s v []:=
 ⟨.value cv,m,w,hs,by rw [gm];exact h,by rw [gm];exact Fr.refl _ _ _ _,.inl ⟨cv,rfl,by rw [gm];exact a⟩⟩
theorem Eu {ρ:Operand->AV} {cρ:Operand->Value} (x:Option Operand) (h:∀ o ∈ x.toArray,VR g m S (ρ o) (cρ o)):Et g m S (x.map ρ) (x.map cρ):=by
 cases x with
 |none=>simp [Et]
 |some o=>simp only [Xjo,Et];exact h o (by simp)
theorem MQ (a:jm P ap) {t:Nat} {b:TI} (h:ap.tyAt t=some b) (hd:b.d ≠ .iface):P.concrete t=true:=by
 obtain ⟨i,d,z,c⟩:=eP a h;have:=c.d_eq;simp only [Program.concrete,c.und];cases d<;>simp_all [kM]
set_option maxHeartbeats 1000000 in
theorem Vj (j:jm P ap) (D:bZ ap g m S w) {nid:Nat} (Y:g nid=none) {ρ:Operand->AV} {cρ:Operand->Value} {rd:dO} (I:∀ b B,rd b=some B->g b=some B) (o:Oper) (hρ:∀ x ∈ o.op.operands,VR g m S (ρ x) (cρ x))
  {dec:Operand->Option Bool} (hdec:∀ x ∈ o.op.operands,∀ b,dec x=some b->cρ x= .bool b) {em:Bool} (hem:∀ n,zW ρ o.op=some n->Xqn n 0=em)
  {v:AV} {ups:List (Nat × bu)} {bs:List Bool} (h:opA ap nid ρ rd dec em o.op=some (v,ups,bs)) (hbs:∀ b ∈ bs,b=true):jo P ap g m S w (execOp cρ o) v ups:=by
 unfold opA at h;unfold execOp;split at h<;>rename_i heq<;>simp only [heq,Op.operands] at hρ hdec hem ⊢
 .obtain ⟨rfl,rfl,rfl⟩:=aV h;exact jo.val D (by simp) (hρ _ (by simp))
 .obtain ⟨rfl,rfl,rfl⟩:=aV h;exact jo.val D (by simp) (hρ _ (by simp))
 ·
  rename_i c a b;split at h
  .rename_i hd;obtain ⟨rfl,rfl,rfl⟩:=aV h;have:=hdec c (by simp) _ hd;exact jo.val D (by simp [this,asBool]) (hρ _ (by simp))
  .rename_i hd;obtain ⟨rfl,rfl,rfl⟩:=aV h;have:=hdec c (by simp) _ hd;exact jo.val D (by simp [this,asBool]) (hρ _ (by simp))
  .split at h
   .rename_i bc ba bb e1 e2 e3;obtain ⟨rfl,rfl,rfl⟩:=aV h;have F:=hρ c (by simp);have G:=hρ a (by simp);have M:=hρ b (by simp);rw [e1] at F;rw [e2] at G;rw [e3] at M;simp only [VR,PR] at F G M;refine jo.val D (cv:= .bool (cond bc ba bb)) ?_ (by simp only [VR,PR]);rw [F,G,M];cases bc<;>simp [asBool]
   .cases h
 ·
  rename_i e;have A:=bind_some h;clear h;obtain ⟨te,K,h⟩:=A;obtain ⟨ie,de,ze,C⟩:=eP j K;split at h
  .rename_i R;simp only [φ] at R;cases h;obtain ⟨N,w',F,G,M,h4⟩:=IW (P:=P) D Y (cells:=te.zero) (cv:=ze) (rO C) C.zleaf (λu hu=>DY (g:=g) (m:=m) (S:=S) (rO C) C.zleaf u (by simpa using hu)) e;refine jo.full ⟨.pointer (some ⟨w.heap.size,0,none⟩),N,w', ?_,G,M,Tc h4⟩;simp [Instr.alloc,zeroValue,typeInfo,C.info,C.zero,F]
  .cases h
 ·
  rename_i e x;have A:=bind_some h;clear h;obtain ⟨te,K,h⟩:=A;obtain ⟨ie,de,ze,C⟩:=eP j K;simp only at h;split at h
  .rename_i R;simp only [φ] at R;cases h;have E:=hρ x (by simp);have hl:∀ y ∈ (ρ x).cells,pO y=true:=λy hy=>List.all_eq_true.1 R.2 y hy
   obtain ⟨hv1,hv2⟩:=EH E hl;obtain ⟨N,w',F,G,M,h4⟩:=IW (P:=P) D Y (cells:=(ρ x).cells) (cv:=cρ x) hv1 hl hv2 e;refine jo.full ⟨.pointer (some ⟨w.heap.size,0,none⟩),N,w', ?_,G,M,Tc h4⟩;simp [Instr.box,F]
  .cases h
 ·
  rename_i t parts;have A:=bind_some h;clear h;obtain ⟨L,q,h⟩:=A;obtain ⟨i,d,z,C⟩:=eP j q;refine jo.pur D ?_;refine JS j C (qs:=parts.map λ(i,x)=>(i,cρ x)) ?_ h;rw [Array.toList_map];exact EE parts.toList λx E=>hρ x (by simpa using E)
 ·
  rename_i t len parts;have A:=bind_some h;clear h;obtain ⟨L,q,h⟩:=A;obtain ⟨i,d,z,C⟩:=eP j q;refine jo.full ?_;refine zB j D Y C (qs:=parts.map λ(i,x)=>(i,cρ x)) ?_ h;rw [Array.toList_map];exact EE parts.toList λx E=>hρ x (by simpa using E)
 ·
  rename_i t a;have A:=bind_some h;clear h;obtain ⟨L,q,h⟩:=A;obtain ⟨i,d,z,C⟩:=eP j q;exact jo.pur D (Dc D I C (hρ a (by simp)) h hbs)
 ·
  rename_i t a x;have A:=bind_some h;clear h;obtain ⟨L,q,h⟩:=A;obtain ⟨i,d,z,C⟩:=eP j q;have ha:=hρ a (by simp);have E:=hρ x (by simp);generalize cρ a=ca at ha ⊢;generalize cρ x=cx at E ⊢;obtain ⟨rfl,N,w',F,G,M⟩:=LJ D I C ha E h hbs;exact ⟨.skip,N,w',by simp [F],G,M,.inr ⟨rfl,rfl⟩⟩
 ·
  rename_i t r;split at h
  .cases h;obtain ⟨cv,N,w',F,G,M,h4⟩:=Iw (P:=P) D Y t;exact ⟨.value cv,N,w',by simp [F],G,M,.inl ⟨cv,rfl,h4⟩⟩
  .cases h
 ·
  rename_i t x k ok;have A:=bind_some h;clear h;obtain ⟨L,q,h⟩:=A;obtain ⟨i,d,z,C⟩:=eP j q;exact jo.pur D (Iu j D I C (hρ x (by simp)) (hρ k (by simp)) h hbs)
 ·
  rename_i t x k v;have A:=bind_some h;clear h;obtain ⟨L,q,h⟩:=A;obtain ⟨i,d,z,C⟩:=eP j q;obtain ⟨rfl,N,w',F,G,M⟩:=yc j D I C (hρ x (by simp)) (hρ k (by simp)) (hρ v (by simp)) h hbs;exact ⟨.skip,N,w',by simp [F],G,M,.inr ⟨rfl,rfl⟩⟩
 ·
  rename_i t x k v;have A:=bind_some h;clear h;obtain ⟨L,q,h⟩:=A;obtain ⟨i,d,z,C⟩:=eP j q;obtain ⟨rfl,N,w',F,G,M⟩:=yc j D I C (hρ x (by simp)) (hρ k (by simp)) (hρ v (by simp)) h hbs;exact ⟨.skip,N,w',by simp [F],G,M,.inr ⟨rfl,rfl⟩⟩
 ·
  rename_i x;have E:=hρ x (by simp);split at h
  .rename_i b ver off e;rw [e] at E;obtain ⟨rfl,rfl,rfl⟩:=aV h;have H:=E;simp only [VR] at H;obtain ⟨_,_,_,⟨k,o,X⟩,_⟩:=H;exact jo.val D (cv:=cρ x) (by rw [X];simp) E
  .rename_i xs off e;rw [e] at E;obtain ⟨rfl,rfl,rfl⟩:=aV h;have H:=E;simp only [VR,PR] at H;obtain ⟨_,_,_,X,_⟩:=H;exact jo.val D (cv:=cρ x) (by rw [X];simp) E
  .rename_i f a c e;rw [e] at E;obtain ⟨rfl,rfl,rfl⟩:=aV h;have H:=E;simp only [VR] at H;obtain ⟨_,_,X,_⟩:=H;exact jo.val D (cv:=cρ x) (by rw [X];simp) E
  .cases h
 ·
  rename_i op t x y _;have A:=bind_some h;clear h;obtain ⟨L,q,h⟩:=A;exact jo.pur D (Pz j q (hρ x (by simp)) (hρ y (by simp)) h hbs x y)
 ·
  exact jo.pur D (VZ (hρ _ (by simp)) h)
 ·
  rename_i s d x;have A:=bind_some h;clear h;obtain ⟨ts,hts,h⟩:=A;have A:=bind_some h;clear h;obtain ⟨td,htd,h⟩:=A;exact jo.pur D (EX j D I hts htd (hρ x (by simp)) h hbs)
 ·
  rename_i t x;have A:=bind_some h;clear h;obtain ⟨L,q,h⟩:=A;split at h
  .cases h
  .rename_i hd;obtain ⟨rfl,rfl,rfl⟩:=aV h;refine jo.pur D ⟨rfl,.iface t (cρ x),run_makeInterface w t _ (MQ j q hd), ?_⟩;simp only [VR];exact ⟨_,rfl,hρ x (by simp)⟩
 ·
  rename_i f first cap
  obtain ⟨rfl,rfl,rfl⟩:=aV h;refine jo.pur D ⟨rfl,.func (.func f) (first.map cρ) (cap.map cρ),by simp [Instr.makeFunc], ?_⟩;simp only [VR];refine ⟨(first.map cρ).toList,(cap.map cρ).toList,by rw [Array.toArray_toList,Array.toArray_toList], ?_, ?_⟩
  .rw [Array.toList_map];exact wM _ λx E=>hρ x (by simp at E ⊢;exact .inl E)
  .rw [Array.toList_map];exact wM _ λx E=>hρ x (by simp at E ⊢;exact .inr E)
 ·
  rename_i t l c;have A:=bind_some h;clear h;obtain ⟨L,q,h⟩:=A;obtain ⟨i,d,z,C⟩:=eP j q;exact jo.full (BG j D Y C (hρ l (by simp)) (hρ c (by simp)) h hbs)
 ·
  rename_i t x lo hi mx;have A:=bind_some h;clear h;obtain ⟨L,q,h⟩:=A;obtain ⟨i,d,z,C⟩:=eP j q;exact jo.pur D (LG j I C (hρ x (by simp)) (Eu lo λo V=>hρ o (by simp at V;simp [V])) (Eu hi λo V=>hρ o (by simp at V;simp [V])) (Eu mx λo V=>hρ o (by simp at V;simp [V])) h hbs)
 ·
  rename_i s x f;have A:=bind_some h;clear h;obtain ⟨L,q,h⟩:=A;obtain ⟨i,d,z,C⟩:=eP j q;split at h
  .rename_i fs hd;have A:=bind_some h;clear h;obtain ⟨⟨o,ft,sz⟩,hf,h⟩:=A;simp only at h;split at h
   .rename_i hsz;have A:=bind_some h;clear h;obtain ⟨p,hp,h⟩:=A;obtain ⟨rfl,rfl,rfl⟩:=aV h;exact jo.pur D ⟨rfl,DT C hd hf hsz (hρ x (by simp)) hp⟩
   .cases h
  .cases h
 ·
  rename_i t x f;have A:=bind_some h;clear h;obtain ⟨L,q,h⟩:=A;obtain ⟨i,d,z,C⟩:=eP j q;exact jo.pur D (Ko j C (hρ x (by simp)) h hbs)
 ·
  rename_i t x ix;have A:=bind_some h;clear h;obtain ⟨L,q,h⟩:=A;obtain ⟨i,d,z,C⟩:=eP j q;exact jo.pur D (Bv j I C (hρ x (by simp)) (hρ ix (by simp)) h hbs)
 ·
  rename_i t x ix;have A:=bind_some h;clear h;obtain ⟨L,q,h⟩:=A;obtain ⟨i,d,z,C⟩:=eP j q;exact jo.pur D (Ky j C (hρ x (by simp)) (hρ ix (by simp)) h hbs)
 ·
  exact jo.pur D (Il j (hρ _ (by simp)) h _)
 ·
  rename_i t i;have C:=hρ t (by simp);split at h
  .rename_i l e;rw [e] at C;have A:=bind_some h;clear h;obtain ⟨x,E,h⟩:=A;obtain ⟨rfl,rfl,rfl⟩:=aV h;simp only [VR] at C;obtain ⟨vs,X,hl⟩:=C;obtain ⟨cv,F,G⟩:=tu hl i E;refine jo.pur D ⟨rfl,cv, ?_,G⟩;rw [X];simp [Instr.extract,F]
  .cases h
 ·
  rename_i b args T;simp only [Call.operands] at hρ;have hargs:∀ x ∈ args,VR g m S (ρ x) (cρ x):=λx E=>hρ x (by simp [E])
  split at h
  .have A:=bind_some h;clear h;obtain ⟨x,E,h⟩:=A;have A:=bind_some h;clear h;obtain ⟨t,W,h⟩:=A;have A:=bind_some h;clear h;obtain ⟨L,q,h⟩:=A;obtain ⟨i,d,z,C⟩:=eP j q;obtain ⟨hu,cv,F,G⟩:=Qe (P:=P) (w:=w) (hargs x (Array.mem_of_getElem? E)) C h T W (args.map cρ) (by simp [E]) o.type;subst hu;exact jo.val D (cv:=cv) (by simp [resolve,invoke,builtin,F]) G
  .split at h
   .rename_i s x t t1 ha W;have hargs':args=#[s,x]:=by apply Array.ext';simpa using ha
    have hats':T=#[t,t1]:=by apply Array.ext';simpa using W
    subst hargs';subst hats';have A:=bind_some h;clear h;obtain ⟨L,q,h⟩:=A;have A:=bind_some h;clear h;obtain ⟨ti1,hti1,h⟩:=A;obtain ⟨i,d,z,C⟩:=eP j q;obtain ⟨i1,d1,z1,Q⟩:=eP j hti1;have hs:=hargs s (by simp);have E:=hargs x (by simp);have U:ρ s= .nilS->∃ n,yu (ρ x)=some n/\Xqn n 0=em:=by
     intro e;cases hc:yu (ρ x) with
     | none=>
      exfalso;split at h
      .rename_i H;rw [H] at hc;simp [yu] at hc
      .cases h
      .rename_i y hy1 _ hy2 hy3;have A:=bind_some h;clear h;obtain ⟨te,K,h⟩:=A;unfold zu at h;have A:=bind_some h;clear h;obtain ⟨⟨xs,n,pr⟩,hsrc,h⟩:=A;cases Z:ρ x<;>simp [Z,yu] at hc<;>simp [Z,OO] at hsrc
      .cases h
     |some n=>exact ⟨n,rfl,hem n (by simp [zW,e,hc])⟩
    split at h
    .rename_i e y hd J hy;have A:=bind_some h;clear h;obtain ⟨te,K,h⟩:=A;obtain ⟨ie,de,ze,O⟩:=eP j K;split at h
     .rename_i F;rw [C.d_eq] at hd;rw [Q.d_eq] at J;have hd:=iG hd;have J:=yX J;subst hd;subst J;obtain ⟨cv,N,w',r1,r2,r3,r4⟩:=xQ (P:=P) D I Y C O hs E (tx:=t1) (.inl ⟨⟨y,hy⟩,Q.und,aP F⟩) U (by rw [hy];exact h) hbs o.type;exact ⟨.value cv,N,w',by simp [resolve,invoke,builtin,r1],r2,r3,.inl ⟨cv,rfl,r4⟩⟩
     .cases h
    .cases h
    .rename_i e e1 hd J hns;have A:=bind_some h;clear h;obtain ⟨te,K,h⟩:=A;obtain ⟨ie,de,ze,O⟩:=eP j K;rw [C.d_eq] at hd;rw [Q.d_eq] at J;have hd:=iG hd;have J:=iG J;subst hd;subst J;obtain ⟨cv,N,w',r1,r2,r3,r4⟩:=xQ (P:=P) D I Y C O hs E (tx:=t1) (.inr ⟨λs e=>hns s e,_,Q.und⟩) U h hbs o.type;exact ⟨.value cv,N,w',by simp [resolve,invoke,builtin,r1],r2,r3,.inl ⟨cv,rfl,r4⟩⟩
    .cases h
   .cases h
  .have A:=bind_some h;clear h;obtain ⟨r,hr,h⟩:=A;obtain ⟨rfl,rfl,rfl⟩:=aV h;obtain ⟨cv,F,G⟩:=U8 (P:=P) (w:=w) (wM args.toList λx E=>hargs x (Array.mem_toList_iff.1 E)) hr T o.type;refine jo.val D (cv:=cv) ?_ G;have:(Xvc cρ args.toList).toArray=args.map cρ:=by apply Array.ext';rw [Xvi,Array.toList_map]
   rw [this] at F;simp [resolve,invoke,builtin,F]
  .have A:=bind_some h;clear h;obtain ⟨r,hr,h⟩:=A;obtain ⟨rfl,rfl,rfl⟩:=aV h;obtain ⟨cv,F,G⟩:=U6 (P:=P) (w:=w) (wM args.toList λx E=>hargs x (Array.mem_toList_iff.1 E)) hr T o.type;refine jo.val D (cv:=cv) ?_ G;have:(Xvc cρ args.toList).toArray=args.map cρ:=by apply Array.ext';rw [Xvi,Array.toList_map]
   rw [this] at F;simp [resolve,invoke,builtin,F]
  .cases h
 .cases h
end
end AM
namespace AM
open Go
structure Cx.Ok (c:Cx):Prop where
 bs:∀ b ∈ c.bs,b=true
 ps:∀ p ∈ c.ps,p
theorem R.bind_ok {α β:Type} {r:R α} {f:α->Cx->R β} {b:β} {c:Cx} (h:r.bind f= .ok b c):∃ a c1,r= .ok a c1/\f a c1= .ok b c:=by
 cases r with
 |ok a c1=>exact ⟨a,c1,rfl,h⟩
 |need=>simp [R.bind] at h
 |bad n=>simp [R.bind] at h
theorem J5 {c f:Cx} {bs:List Bool} {u:Unit} (h:abf c bs= .ok u f) (d:f.Ok):c.Ok/\∀ b ∈ bs,b=true:=by
 unfold abf at h;split at h
 .split at h
  .rename_i a;cases h;exact ⟨d,λb e=>by simpa using List.all_eq_true.1 a b e⟩
  .cases h
 .cases h;exact ⟨⟨λb a=>d.bs b (by simp [a]),d.ps⟩,λb a=>d.bs b (by simp [a])⟩
theorem mg {c e:Cx} {b a:Bool} (h:A8 c b= .ok a e) (d:e.Ok):c.Ok/\a=b:=by
 unfold A8 at h;split at h
 .cases h;exact ⟨d,rfl⟩
 .split at h
  .cases h
  .rename_i o r _;cases h;have i:=d.bs (lit a b) (by simp);refine ⟨⟨λx f=>d.bs x (by simp [f]),d.ps⟩, ?_⟩;cases a<;>cases b<;>simp [lit] at i ⊢
theorem kw {l:List Nat} {a:Nat}:uh l a=true↔a ∈ l:=by
 simp only [uh,List.any_eq_true];constructor
 .rintro ⟨x,hx,h⟩;exact aP h ▸ hx
 .intro h;exact ⟨a,h,Nat.beq_refl a⟩
theorem jE {α β:Type} {f:α->Option β}:∀ {l:List α} {l':List β},kX f l=some l'->l'.length=l.length/\∀ (i:Nat) x,l[i]? =some x->∃ y,l'[i]? =some y/\f x=some y
 | [],l',h=>by simp [kX] at h;subst h;simp
 | a::r,l',h=>by
  simp only [kX] at h;split at h
  .rename_i y e;split at h
   .rename_i q d;cases h;obtain ⟨j,c⟩:=jE d;refine ⟨by simp [j], ?_⟩;intro i x b;cases i with
    |zero=>simp at b;subst b;exact ⟨y,by simp,e⟩
    |succ i=>simpa using c i x (by simpa using b)
   .cases h
  .cases h
section
variable {P:Program} {ap:AP} {g:dO} {m:bg} {S:aY} {w:World}
noncomputable def dR (S:aY) (m:bg) (rd:dO) (w:World):aY:=λk o=>
 match S k o with
 |some v=>some v
 |none=>open Classical in if ∃ b B,rd b=some B/\(m b).1=k/\o<B.cells.length then lu w k o else none
theorem oO (S:aY) (m:bg) (rd:dO) (w:World):qj S (dR S m rd w):=by
 intro k o v h;simp [dR,h]
theorem gz {rd:dO} {k o:Nat} {v:Value} (h:dR S m rd w k o=some v):S k o=some v\/(lu w k o=some v/\∃ b B,rd b=some B/\(m b).1=k/\o<B.cells.length):=by
 unfold dR at h;split at h
 .rename_i d a;cases h;exact .inl a
 .rename_i e;split at h
  .rename_i c;exact .inr ⟨h,c⟩
  .cases h
theorem qP (a:bZ ap g m S w) {rd:dO} {k o:Nat} {v:Value} (h:dR S m rd w k o=some v):lu w k o=some v:=by
 rcases gz h with h|h
 .exact a.sealed _ _ _ h
 .exact h.1
theorem VG (e:bZ ap g m S w) {rd:dO} {b:Nat} {B:bu} (d:rd b=some B) {o:Nat} (f:o<B.cells.length) {v:Value} (a:lu w (m b).1 o=some v):dR S m rd w (m b).1 o=some v:=by
 unfold dR;split
 .rename_i h c;have:=e.sealed _ _ _ c;rw [a] at this;cases this;rfl
 .rw [if_pos ⟨b,B,d,rfl,f⟩];exact a
theorem G9 (k:bZ ap g m S w) {rd:dO} (f:∀ b B,rd b=some B->g b=some B) {b:Nat} {B:bu} (h:rd b=some B):
  ∃ vs,bC g m S B.cells vs/\(B.pr=true->eY S B.cells vs)/\(∀ j u,vs[j]? =some u->dR S m rd w (m b).1 j=some u)/\vs.length=B.cells.length/\(B.esz ≠ jf->∀ u ∈ vs,u.oneCell'=true):=by
 obtain ⟨⟨cur,e,vs,rest,o,l,n,c,i,q⟩,_,_⟩:=k.blk b B (f b B h);refine ⟨vs,c,n, ?_,(b_ c).symm,i⟩;intro j u d;have a:=(List.getElem?_eq_some_iff.1 d).1;refine VG k h (by rw [b_ c];exact a) ?_;exact o.get (by rw [l,Xxh a];exact d) (λp=>i p u (Xql d))
theorem Aq (h:bZ ap g m S w) {rd:dO} (a:∀ b B,rd b=some B->g b=some B) {b:Nat} {B:bu} (f:rd b=some B) (n:B.esz ≠ jf):
  ∃ vs,bC g m S B.cells vs/\(B.pr=true->eY S B.cells vs)/\lh (dR S m rd w) (m b).1 0 vs/\vs.length=B.cells.length:=by
 obtain ⟨vs,l,d,i,k,e⟩:=G9 h a f;refine ⟨vs,l,d,λj u c=> ?_,k⟩;rw [Ψ];exact ⟨i j u c,e n u (Xql c)⟩
theorem Jp {S':aY} {l:List AV} {y:AV} {vs:List Value} {k:Nat} (h:ace l=some y) (a:eY S' l vs) (hs:∀ j u,vs[j]? =some u->S' k j=some u):PR S' y (.map (some k)):=by
 unfold ace at h;split at h
 .rename_i ks ws;cases h
  match vs,a with
  | [v0,v1],a=>
   simp only [eY,PR,and_true] at a;obtain ⟨⟨c,rfl,d⟩,b,rfl,e⟩:=a;simp only [PR];exact .inr ⟨k,c,b,rfl,hs 0 _ rfl,hs 1 _ rfl,d,e⟩
  | [],a=>simp [eY] at a
  | [_],a=>simp [eY] at a
  |_::_::_::_,a=>simp [eY] at a
 .cases h
theorem uS {S':aY} {f:AV->Option AV} (a:∀ x v y,f x=some y->VR g m S x v->PR S' y v):∀ {l l':List AV} {vs:List Value},kX f l=some l'->bC g m S l vs->eY S' l' vs
 | [],l',[],h,_=>by simp [kX] at h;subst h;simp [eY]
 | x::r,l',v::vs,h,hv=>by
  simp only [kX] at h;simp only [bC] at hv;split at h
  .rename_i y b;split at h
   .rename_i q c;cases h;simp only [eY];exact ⟨a x v y b hv.1,uS a c hv.2⟩
   .cases h
  .cases h
 | [],_,_::_,_,h=>by simp [bC] at h
 |_::_,_,[],_,h=>by simp [bC] at h
theorem mJ (K:bZ ap g m S w) {rd:dO} (z:∀ b B,rd b=some B->g b=some B):∀ (p:Nat) (x:AV) (v:Value) (y:AV),frz rd p x=some y->VR g m S x v->PR (dR S m rd w) y v:=by
 intro p
 induction p with
 |zero=>intro x v y h;simp [frz] at h
 | succ p ih=>
  intro x v y h f;have C:=oO S m rd w;have hlist:∀ {l l':List AV} {vs:List Value},kX (frz rd p) l=some l'->bC g m S l vs->eY (dR S m rd w) l' vs:=λG F=>uS (λx v y hx f=>ih x v y hx f) G F
  unfold frz at h;simp only at h;split at h
  ·
   rename_i b ver i n;have D:=bind_some h;clear h;obtain ⟨B,E,h⟩:=D;split at h
   .rename_i d;simp only [VR] at f;obtain ⟨B',k,_,_,q⟩:=f;rw [z b B E] at k;cases k;obtain ⟨o,rfl,N,ho,L,H⟩:=q (aP d);obtain ⟨vs,G,F,I,M⟩:=Aq K z E H;have hpart:lh (dR S m rd w) (m b).1 o ((vs.drop (i*B.esz)).take (n*B.esz)):=by
     by_cases hi:i<(m b).2
     .rw [ho hi];have:=(I.drop (i*B.esz)).take (n*B.esz);rwa [Ψ] at this
     .have hn:n=0:=by omega
      subst hn;intro j u hj;simp at hj
    have s:∀ l,eY (dR S m rd w) l ((vs.drop (i*B.esz)).take (n*B.esz))->PR (dR S m rd w) (.sl l n true) (.slice (some ⟨(m b).1,o,none⟩) n ((m b).2 - i)):=by
     intro l t;simp only [PR];exact ⟨_,_,rfl,by omega,.inr ⟨_,_,_,rfl,t,hpart⟩⟩
    split at h
    .rename_i A;cases h;exact s _ (lg _ (rH _ (dE C _ (F A))))
    .simp only [Xqs] at h;obtain ⟨l,t,rfl⟩:=h;exact s _ (hlist t (rM _ (uT _ G)))
   .cases h
  ·
   rename_i b ver J;have D:=bind_some h;clear h;obtain ⟨B,E,h⟩:=D;split at h
   .rename_i d;simp only [φ,Xqq] at d;have H:B.esz ≠ jf:=λe=>by rw [e] at d;exact absurd d.2 (by decide)
    simp only [VR] at f;obtain ⟨B',k,_,_,q⟩:=f;rw [z b B E] at k;cases k;have q:=q (aP d.1);subst q;obtain ⟨vs,G,F,I,M⟩:=Aq K z E H;have s:∀ l,eY (dR S m rd w) l vs->PR (dR S m rd w) (.pp l J) (.pointer (some ⟨(m b).1,J,none⟩)):=by
     intro l t;simp only [PR];exact ⟨_,0,_,by rw [Ψ],t,I⟩
    split at h
    .rename_i A;cases h;exact s _ (dE C _ (F A))
    .simp only [Xqs] at h;obtain ⟨l,t,rfl⟩:=h;exact s _ (hlist t G)
   .cases h
  ·
   rename_i b ver;have D:=bind_some h;clear h;obtain ⟨B,E,h⟩:=D;split at h
   .rename_i d;simp only [φ] at d;simp only [VR] at f;obtain ⟨B',k,_,_,q⟩:=f;rw [z b B E] at k;cases k;have q:=q (aP d.1);subst q;obtain ⟨vs,G,F,I,M,_⟩:=G9 K z E;split at h
    .rename_i A;exact Jp h (dE C _ (F A)) I
    .have D:=bind_some h;clear h;obtain ⟨l,t,h⟩:=D;exact Jp h (hlist t G) I
   .cases h
  .simp only [Xqs] at h;obtain ⟨l,t,rfl⟩:=h;simp only [VR] at f;obtain ⟨vs,e,q⟩:=f;simp only [PR];exact ⟨vs,e,hlist t q⟩
  .simp only [Xqs] at h;obtain ⟨l,t,rfl⟩:=h;simp only [VR] at f;obtain ⟨vs,e,q⟩:=f;simp only [PR];exact ⟨vs,e,hlist t q⟩
  .have D:=bind_some h;clear h;obtain ⟨a,W,h⟩:=D;simp only [Xqs] at h;obtain ⟨c,Q,rfl⟩:=h;simp only [VR] at f;obtain ⟨T,vc,e,q,r⟩:=f;simp only [PR];exact ⟨T,vc,e,hlist W q,hlist Q r⟩
  .simp only [Xqs] at h;obtain ⟨u,O,rfl⟩:=h;simp only [VR] at f;obtain ⟨Y,e,q⟩:=f;simp only [PR];exact ⟨Y,e,ih _ _ _ O q⟩
  .cases h
  .rename_i R V n8 n3 X U n6 Z;cases h;refine dF C _ ?_;cases x<;>first
    |exact absurd rfl (R _ _ _ _)
    |exact absurd rfl (V _ _ _)
    |exact absurd rfl (n8 _ _)
    |exact absurd rfl (n3 _)
    |exact absurd rfl (X _)
    |exact absurd rfl (U _ _ _)
    |exact absurd rfl (n6 _ _)
    |exact absurd rfl (Z _ _ _)
    |(simp only [VR] at f;exact f)
    |(simp only [PR])
end
end AM
