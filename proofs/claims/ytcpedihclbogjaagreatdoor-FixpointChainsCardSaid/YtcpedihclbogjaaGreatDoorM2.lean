/- The machine and its soundness. -/
import Derived.Test.YtcpedihclbogjaaGreatDoorM1
import Derived.Laws.BytesString
import Derived.Laws.MakeOwn
import Derived.Laws.OwnMore
set_option linter.unusedSimpArgs false
set_option linter.unusedVariables false
open List renaming foldl_cons->Xjz,length_take->Xqz,nil_append->Xqc,drop_drop->Xjs,map_cons->Xqg,getElem?_map->Xqw,getElem?_take->Xjq,getElem?_append_left->Xxf,mem_of_mem_drop->Xzq,mem_of_mem_take->Xj6,all_cons->Xzr,cons_append->Xqt,append_eq_nil_iff->Xzy,take_append_of_le_length->Xjb,append_assoc->Xqe,toList_toArray->Xvo,size_toArray->Xxh,length_append->ν,length_drop->Xx4,replicate_succ->Xxc,append_nil->Xqd,any_cons->Xvj,map_append->Xq5,map_nil->Xjh,ext_getElem?->Xwm,getElem?_set->Xz6,map->Xz1,mem_of_getElem?->Xqm
open Bool renaming and_eq_true->τ,not_eq_true'->Xqs
open Nat renaming add_zero->Xq4,beq->Xqk,le_refl->κ,zero_le->Xq7,mul_le_mul->Xwe,le_trans->Xqr,zero_add->Δ,add_mul->Xxy,lt_irrefl->Xkc
open Option renaming map_some->Xjm,map_eq_some_iff->Xqq
open UInt8 renaming ofNat->Xql
namespace AM
open Go
section
variable {P:Program} {ap:AP} {g:dK} {m:aW} {S:aO} {w:World}
theorem GR {x:AV} {v:Value} (h:VR g m S x v) (f:∀ y ∈ x.cells,qQ y=true):bu g m S x.cells v.cells.toList/\∀ u ∈ v.cells,u.oneCell'=true:=by
 cases x
 case agg l=>
  simp only [VR] at h;obtain ⟨vs,rfl,h⟩:=h;refine ⟨by simpa [Value.cells,AV.cells] using h, ?_⟩;intro u d;simp only [Value.cells] at d;simp only [AV.cells] at f;have:∀ (l:List AV) (vs:List Value),bu g m S l vs->(∀ y ∈ l,qQ y=true)->∀ u ∈ vs,u.oneCell'=true:=by
   intro l
   induction l with
   |nil=>intro vs e _ u d;cases vs<;>simp [bu] at e d
   | cons a r ih=>
    intro vs e f u d;cases vs with
    |nil=>simp [bu] at e
    |cons b q=>
     simp only [bu] at e;rcases List.mem_cons.1 d with rfl|d
     .exact Rl e.1 (f a (by simp))
     .exact ih q e.2 (λy j=>f y (by simp [j])) u d
  exact this l vs h f u (by simpa using d)
 all_goals
  have c:=Rl h (f _ (by simp [AV.cells]));have i:v.cells=#[v]:=by cases v<;>simp [Value.cells,Value.oneCell'] at c ⊢
  rw [i];refine ⟨by simp only [AV.cells,bu];exact ⟨h,trivial⟩,by simpa using c⟩
theorem KO:∀ (vs:List Value) (i a:Nat) (cs:Array Value),a+i+vs.length<=cs.size->
  ((vs.zipIdx i).foldl (λ(cs:Array Value) (p:Value × Nat)=>cs.setIfInBounds (a+p.2) p.1) cs).toList=cs.toList.take (a+i)++vs++cs.toList.drop (a+i+vs.length)
 | [],i,a,cs,_=>by simp
 | v::vs,i,a,cs,h=>by
  simp only [List.length_cons] at h;simp only [List.zipIdx_cons,Xjz];rw [KO vs (i+1) a (cs.setIfInBounds (a+i) v) (by simp;omega)];have b:a+i<cs.toList.length:=by simp;omega
  simp only [Array.toList_setIfInBounds];rw [show a+(i+1)=a+i+1 from by omega,List.set_eq_take_append_cons_drop,if_pos b];have d:(cs.toList.take (a+i)++v::cs.toList.drop (a+i+1)).take (a+i+1)=cs.toList.take (a+i)++ [v]:=by
   rw [List.take_append];have e:a+i+1 - (cs.toList.take (a+i)).length=1:=by simp [Xqz];omega
   rw [e];simp [List.take_take]
  have c:(cs.toList.take (a+i)++v::cs.toList.drop (a+i+1)).drop (a+i+1+vs.length)=cs.toList.drop (a+i+(v::vs).length):=by
   rw [List.drop_append];have:(cs.toList.take (a+i)).length=a+i:=by simp [Xqz];omega
   rw [this,List.drop_eq_nil_of_le (by rw [this];omega),Xqc,show a+i+1+vs.length - (a+i)=vs.length+1 from by omega,List.drop_succ_cons,Xjs];congr 1;simp;omega
  rw [d,c];simp
theorem Uy {c vs:List AV} {cs b:List Value} {a:Nat} (h:bu g m S c cs) (d:bu g m S vs b):bu g m S (setCells c a vs) (cs.take a++b++cs.drop (a+b.length)):=by
 unfold setCells;rw [<- di d];exact iq (iq (uf _ h) d) (xn _ h)
theorem acZ {c vs:List AV} {cs b:List Value} {a:Nat} (h:bT S c cs) (d:bT S vs b):bT S (setCells c a vs) (cs.take a++b++cs.drop (a+b.length)):=by
 unfold setCells;rw [<- qC d];exact ny (ny (lW _ h) d) (qB _ h)
def qE (g:dK) (m:aW) (S:aO) (place:Nat->Option (Nat × Nat)):List (Nat × Nat × AV)->List (Nat × Value)->Prop
 | [],[]=>True
 |(off,size,v)::r,(i,c)::q=>place i=some (off,size)/\VR g m S v c/\qE g m S place r q
 |_,_=>False
theorem sH {place:Nat->Option (Nat × Nat)}:∀ (ps:List (Nat × Nat × AV)) (qs:List (Nat × Value)) (cells cells':List AV) (cs:Array Value),qE g m S place ps qs->bu g m S cells cs.toList->zD cells ps=some cells'->
  ∃ a,Instr.fill place cs qs=some a/\bu g m S cells' a.toList/\a.size=cs.size
 | [],[],cells,cells',cs,_,hv,h=>by simp [zD] at h;subst h;exact ⟨cs,rfl,hv,rfl⟩
 | (off,size,v)::r,(i,c)::q,cells,cells',cs,hp,hv,h=>by
  simp only [qE] at hp;simp only [zD] at h;split at h
  .rename_i l;simp only [τ] at l;obtain ⟨⟨k,j⟩,s⟩:=l;obtain ⟨n,B⟩:=GR hp.2.1 (λy u=>List.all_eq_true.1 s y u);have t:=di n;have f:=di hv;have k:=aN k;have j:=gG j;have A:c.cells.size=size:=by simp only [Array.length_toList] at t;omega
   have b:off+c.cells.size<=cs.size:=by simp only [Array.length_toList] at f;omega
   have o:=KO c.cells.toList 0 off cs (by simpa using b);have d:bu g m S (setCells cells off v.cells) ((c.cells.zipIdx.foldl (λ(cs:Array Value) (p:Value × Nat)=>cs.setIfInBounds (off+p.2) p.1) cs)).toList:=by
    rw [<- Array.foldl_toList,Array.toList_zipIdx,o];simp only [Xq4];exact Uy hv n
   obtain ⟨a,e,x,z⟩:=sH r q _ cells' _ hp.2.2 d h;refine ⟨a, ?_,x, ?_⟩
   .simp only [Instr.fill,hp.1];rw [if_neg (by simp;omega)];exact e
   .rw [z,<- Array.length_toList,<- Array.foldl_toList,Array.toList_zipIdx,o];simp;omega
  .cases h
 | [],_::_,_,_,_,hp,_,_=>by simp [qE] at hp
 |_::_,[],_,_,_,hp,_,_=>by simp [qE] at hp
theorem ug {t:Nat} {ti:TI} {i:TypeInfo} {d:TypeDesc} {z:Value} (a:FP P t ti i d z):bu g m S ti.zero z.cells.toList:=by
 rw [a.zcells];exact bU _ (zy S _)
def A_ (g:dK) (m:aW) (S:aO):List (Nat × AV)->List (Nat × Value)->Prop
 | [],[]=>True
 |(i,v)::r,(j,c)::q=>i=j/\VR g m S v c/\A_ g m S r q
 |_,_=>False
theorem vS {size:Nat}:∀ {ps:List (Nat × AV)} {qs:List (Nat × Value)},A_ g m S ps qs->qE g m S (λi=>some (i*size,size)) (ps.map λ(i,v)=>(i*size,size,v)) qs
 | [],[],_=>by simp [qE]
 |(i,v)::r,(j,c)::q,h=>by
  simp only [A_] at h;obtain ⟨rfl,b,a⟩:=h;simp only [Xqg,qE];exact ⟨trivial,b,vS a⟩
 | [],_::_,h=>by simp [A_] at h
 |_::_,[],h=>by simp [A_] at h
theorem EO {a:List (Nat × Nat × Nat)} {place:Nat->Option (Nat × Nat)} (hp:∀ i x,a[i]? =some x->place i=some (x.1,x.2.2)):∀ {ps:List (Nat × AV)} {qs:List (Nat × Value)} {rs:List (Nat × Nat × AV)},A_ g m S ps qs->
  lQ (λ(q:Nat × AV)=>(a[q.1]?).map λ(x:Nat × Nat × Nat)=>(x.1,x.2.2,q.2)) ps=some rs->qE g m S place rs qs
 | [],[],rs,_,h=>by simp [lQ] at h;subst h;simp [qE]
 | (i,v)::r,(j,c)::q,rs,hn,h=>by
  simp only [A_] at hn;obtain ⟨rfl,e,d⟩:=hn;simp only [lQ] at h;cases b:a[i]? with
  |none=>simp [b] at h
  | some x=>
   simp only [b,Xjm] at h;split at h
   .rename_i l f;cases h;simp only [qE];exact ⟨hp i x b,e,EO hp d f⟩
   .cases h
 | [],_::_,_,h,_=>by simp [A_] at h
 |_::_,[],_,h,_=>by simp [A_] at h
theorem EN:∀ (fields:List Field),(∀ f ∈ fields,(P.info? f.type).isSome)->fields.mapM (λf=>(P.info? f.type).map λi=>(f.offset,i.size))=some (fields.map λf=>(f.offset,match P.info? f.type with|some i=>i.size|none=>0))
 | [],_=>rfl
 | f::r,h=>by
  cases a:P.info? f.type with
  |none=>have:=h f (by simp);simp [a] at this
  |some i=>
   simp [List.mapM_cons,a,EN r (λf b=>h f (by simp [b]))]
theorem ML (l:iy P ap) {t:Nat} {ti:TI} {i:TypeInfo} {d:TypeDesc} {z:Value} (b:FP P t ti i d z) {ps:List (Nat × AV)} {qs:Array (Nat × Value)} (y:A_ g m S ps qs.toList) {v:AV} {ups:List (Nat × aU)} {bs:List Bool}
  (h:Rz ap ti ps=some (v,ups,bs)):ups= []/\∃ cv,(Instr.build t qs).run P w= .ok cv w/\VR g m S v cv:=by
 unfold Rz at h;split at h
 .rename_i E hd;have k:=bind_some h;clear h;obtain ⟨B,r,h⟩:=k;have k:=bind_some h;clear h;obtain ⟨cs,j,h⟩:=k;obtain ⟨rfl,rfl,rfl⟩:=aS h;rw [b.d_eq] at hd;obtain ⟨fields,rfl,rfl⟩:=yY hd;by_cases hall:∀ f ∈ fields.toList,(P.info? f.type).isSome
  .have o:=EN fields.toList hall;have p:=EO (place:=((fields.toList.map λf=>(f.offset,match P.info? f.type with|some i=>i.size|none=>0)).toArray[·]?)) (by
    intro i x A;simp only [Xqw,Xqq] at A;obtain ⟨f,u,rfl⟩:=A;simp [u];rfl) y r
   obtain ⟨a,s,q,_⟩:=sH B qs.toList ti.zero cs z.cells p (ug b) j;refine ⟨rfl,.agg a,run_build w t qs a ?_, ?_⟩
   .simp only [Program.built,b.info,b.und,b.zero];rw [o];exact s
   .simp only [VR];exact ⟨a.toList,by simp,q⟩
  .exfalso;apply hall;intro f u;have:=b.fld;simp only [Z5] at this;exact List.all_eq_true.1 this f u
 .rename_i n e hd;have k:=bind_some h;clear h;obtain ⟨C,c,h⟩:=k;have k:=bind_some h;clear h;obtain ⟨cs,j,h⟩:=k;obtain ⟨rfl,rfl,rfl⟩:=aS h;obtain ⟨F,D,G,c⟩:=dQ l c;rw [b.d_eq] at hd;have hd:=Dh hd;subst hd;obtain ⟨a,s,q,_⟩:=sH _ qs.toList ti.zero cs z.cells (vS (size:=C.size) y) (ug b) j;refine ⟨rfl,.agg a,run_build w t qs a ?_, ?_⟩
  .simp only [Program.built,b.info,b.und,b.zero,c.info];rw [<- c.size];exact s
  .simp only [VR];exact ⟨a.toList,by simp,q⟩
 .cases h
end
end AM
namespace AM
open Go
section
variable {P:Program} {ap:AP} {g:dK} {m:aW} {S:aO} {w:World}
theorem Aq {t:Nat} {ti:TI} {i:TypeInfo} {d:TypeDesc} {z:Value} (f:FP P t ti i d z) {v:AV} (h:uG ti ti.zero=some v):VR g m S v z:=by
 have e:=ug (g:=g) (m:=m) (S:=S) f;have b:=f.zagg;unfold uG at h;rw [f.d_eq,JB] at h;unfold akb at b;rw [f.zero] at b;split at h
 .rename_i a;cases h;cases d<;>simp [TypeDesc.isRow] at a<;>cases z<;>simp at b
  all_goals
   simp only [VR];exact ⟨_,rfl,by simpa [Value.cells] using e⟩
 .rename_i a;split at h
  .rename_i c k;cases h;have j:z.cells=#[z]:=by
    cases z<;>first|rfl|skip
    cases d<;>simp [TypeDesc.isRow] at a b
   rw [k,j] at e;simp only [bu] at e;exact e.1
  .cases h
theorem JQ (p:iy P ap) {x v:AV} {C:Value} (o:VR g m S x C) {asserted:Nat} {ok:Bool} {ups:List (Nat × aU)} {bs:List Bool} (h:MI ap x asserted ok=some (v,ups,bs)) (A:Nat):
  ups= []/\∃ cv,(Instr.typeAssert C A asserted ok).run P w= .ok cv w/\VR g m S v cv:=by
 unfold MI at h;have n:=bind_some h;clear h;obtain ⟨ti,r,h⟩:=n;obtain ⟨i,d,z,j⟩:=dQ p r;have a:∀ B,d ≠ .interface B:=by
  intro B e;subst e;rw [j.d_eq] at h;simp [lD] at h
 have key:∀ (c:Value),(∃ t u,c= .iface t u/\t ≠ asserted)\/c= .nilIface->∀ l,VR g m S l z->ok=true->(Instr.typeAssert c A asserted ok).run P w= .ok (.tuple #[z,.bool false]) w:=by
  intro c E l _ q;subst q;rcases E with ⟨t,u,rfl,k⟩|rfl
  .cases d<;>first|exact absurd rfl (a _)|simp [Instr.typeAssert,run_underlying j.und,k,zeroValue,typeInfo,j.info,j.zero]
  .cases d<;>first|exact absurd rfl (a _)|simp [Instr.typeAssert,run_underlying j.und,zeroValue,typeInfo,j.info,j.zero]
 split at h
 .cases h
 .split at h
  .rename_i t u;simp only [VR] at o;obtain ⟨y,rfl,D⟩:=o;split at h
   .rename_i b;have b:=aN b;subst b;obtain ⟨rfl,rfl,rfl⟩:=aS h;cases ok
    .refine ⟨rfl,y, ?_,D⟩;cases d<;>first|exact absurd rfl (a _)|simp [Instr.typeAssert,run_underlying j.und]
    .refine ⟨rfl,.tuple #[y,.bool true], ?_, ?_⟩
     .cases d<;>first|exact absurd rfl (a _)|simp [Instr.typeAssert,run_underlying j.und]
     .simp only [VR];exact ⟨[y,.bool true],rfl,by simp only [bu,VR,PR];exact ⟨D,trivial,trivial⟩⟩
   .rename_i b;have k:t ≠ asserted:=by intro e;subst e;simp at b
    cases ok
    .cases h
    .simp only at h;have n:=bind_some h;clear h;obtain ⟨l,s,h⟩:=n;obtain ⟨rfl,rfl,rfl⟩:=aS h;have f:=Aq (g:=g) (m:=m) (S:=S) j s;refine ⟨rfl,_,key _ (.inl ⟨_,_,rfl,k⟩) l f rfl, ?_⟩;simp only [VR];exact ⟨[z,.bool false],rfl,by simp only [bu,VR,PR];exact ⟨f,trivial,trivial⟩⟩
  .simp only [VR,PR] at o;subst o;cases ok
   .cases h
   .simp only at h;have n:=bind_some h;clear h;obtain ⟨l,s,h⟩:=n;obtain ⟨rfl,rfl,rfl⟩:=aS h;have f:=Aq (g:=g) (m:=m) (S:=S) j s;refine ⟨rfl,_,key _ (.inr rfl) l f rfl, ?_⟩;simp only [VR];exact ⟨[z,.bool false],rfl,by simp only [bu,VR,PR];exact ⟨f,trivial,trivial⟩⟩
  .cases h
theorem ww (L:b_ ap g m S w) {rd:dK} (J:∀ b B,rd b=some B->g b=some B) {size:Nat} {x:AV} {O:Value} (i:VR g m S x O) {E:List AV} {n:Nat} {pr:Bool} (h:QI size rd x=some (E,n,pr)) (N:E.length=n*size)
  {tx:Nat} (hk:((∃ s,x= .str s)/\P.underlying tx=some .string/\size=1)\/((∀ s,x ≠ .str s)/\∃ e,P.underlying tx=some (.slice e))):
  ∃ news,Src P size tx O n news w/\bu g m S E news/\(pr=true->bT S E news):=by
 unfold QI at h;split at h
 .rename_i T X nn;cases h;obtain ⟨_,e,d⟩:=hk.resolve_left (by rintro ⟨⟨s,hs⟩,_⟩;cases hs);simp only [VR,PR] at i;obtain ⟨a,cap,rfl,W,q⟩:=i;rcases q with ⟨_,rfl,rfl,rfl⟩|⟨b,o,vs,rfl,hp,hs⟩
  .cases a with
   |none=>exact ⟨[],Src.ofNil w d 0,by simp [bu],λ_=>by simp [bT]⟩
   |some p=>exact ⟨[],Src.ofSlice w d p 0 0 [] (by simp) (λj u c=>by simp at c) (λu D=>by simp at D),by simp [bu],λ_=>by simp [bT]⟩
  .refine ⟨vs,Src.ofSlice w d ⟨b,o,none⟩ n cap vs (by rw [<- qC hp,N]) (λj u c=>by rw [Addr.add_mid];exact L.one (hs j u c).1 (hs j u c).2) ?_,bU _ hp,λ_=>hp⟩;intro u D;obtain ⟨j,c⟩:=List.getElem?_of_mem D;exact (hs j u c).2
 .cases h;obtain ⟨_,e,d⟩:=hk.resolve_left (by rintro ⟨⟨s,hs⟩,_⟩;cases hs);simp only [VR,PR] at i;subst i;exact ⟨[],Src.ofNil w d 0,by simp [bu],λ_=>by simp [bT]⟩
 .rename_i s;cases h;obtain ⟨_,d,K⟩:=hk.resolve_right (by rintro ⟨hs,_⟩;exact hs s rfl);simp only [VR,PR] at i;subst i;subst K;have hp:∀ s:List UInt8,bT S (s.map λb=>AV.int .u8 b.toNat) (s.map λb=>Value.int .u8 b.toNat):=by
   intro s
   induction s with
   |nil=>simp [bT]
   |cons a r ih=>simp only [Xqg,bT,PR];exact ⟨trivial,ih⟩
  have f:=Src.ofString (P:=P) w d ⟨s.toArray⟩;have U:byteCells ⟨s.toArray⟩=s.map λb=>Value.int .u8 b.toNat:=by simp [byteCells]
  rw [U,CV] at f;exact ⟨_,f,bU _ (hp s),λ_=>hp s⟩
 .rename_i b ver j X;have Z:=bind_some h;clear h;obtain ⟨B,Y,h⟩:=Z;split at h
  .rename_i l;cases h;simp only [τ,Xqs] at l;obtain ⟨l,v⟩:=l;have C:B.esz ≠ je:=λe=>by rw [e] at v;exact absurd v (by decide)
   obtain ⟨_,e,d⟩:=hk.resolve_left (by rintro ⟨⟨s,hs⟩,_⟩;cases hs);simp only [VR] at i;obtain ⟨B',A,_,_,q⟩:=i;have y:=J b B Y;rw [y] at A;cases A;obtain ⟨o,rfl,q1,V,q3⟩:=q (aN l.1);have H:=aN l.2;obtain ⟨cur,e',vs,rest,k,t,hp,G,I,Q⟩:=(L.blk b B y).lies;have k:=k.cells C;have I:=I C;have M:=di G;have F:((vs.drop (j*size)).take (n*size)).length=n*size:=by
    rw [<- di (uf _ (xn _ G))];exact N
   by_cases hn:n=0
   .subst hn;have R:(vs.drop (j*size)).take (0*size)= []:=by simp
    refine ⟨[], ?_, ?_, ?_⟩
    .exact Src.ofSlice w d _ 0 _ [] (by simp) (λ_ _ h=>by simp at h) (λ_ h=>by simp at h)
    .simp [bu]
    .intro _;simp [bT]
   .have z:=V (by omega);refine ⟨(vs.drop (j*size)).take (n*size),Src.ofSlice w d _ n _ _ F ?_ ?_,uf _ (xn _ G),λpr=>lW _ (qB _ (hp pr))⟩
    .intro jj u c;rw [z,Addr.add_mid,H,xy k,t];rw [Xjq] at c;split at c
     .rw [List.getElem?_drop] at c;rw [Xxf (List.getElem?_eq_some_iff.1 c).1];exact c
     .cases c
    .intro u D;exact I u (Xzq (Xj6 D))
  .cases h
 .cases h
theorem Ll:∀ (a:List Int) (s:List UInt8),a.foldl (λ(r:ByteArray) n=>r.push (Xql n.toNat)) ⟨s.toArray⟩=⟨(s++a.map λn=>Xql n.toNat).toArray⟩
 | [],s=>by simp
 |n::a,s=>by
  simp only [Xjz];have e:(⟨s.toArray⟩:ByteArray).push (Xql n.toNat)=⟨(s++ [Xql n.toNat]).toArray⟩:=by simp [ByteArray.push]
  rw [e,Ll a];simp
theorem Hg (C:iy P ap) (W:b_ ap g m S w) {rd:dK} (O:∀ b B,rd b=some B->g b=some B) {s d:Nat} {V td:TI} (K:ap.tyAt s=some V) (I:ap.tyAt d=some td) {x v:AV} {R:Value} (G:VR g m S x R) {ups:List (Nat × aU)} {bs:List Bool}
  (h:Hf ap V td rd x=some (v,ups,bs)) (hbs:∀ b ∈ bs,b=true):ups= []/\∃ cv,(convert s d R).run P w= .ok cv w/\VR g m S v cv:=by
 obtain ⟨i1,d1,z1,F⟩:=dQ C K;obtain ⟨i2,d2,z2,D⟩:=dQ C I;unfold Hf at h;split at h
 .rename_i k k' n hd;obtain ⟨rfl,rfl,rfl⟩:=aS h;rw [D.d_eq] at hd;have hd:=acs hd;subst hd;simp only [VR,PR] at G;subst G;exact ⟨rfl,_,by simp [convert,run_underlying F.und,run_underlying D.und,Conv.intToInt];rfl,by simp only [VR,PR]⟩
 .rename_i s' j i;obtain ⟨rfl,rfl,rfl⟩:=aS h;rw [F.d_eq] at j;rw [D.d_eq] at i;have j:=AU j;have i:=AU i;subst j;subst i;simp only [VR,PR] at G;subst G;exact ⟨rfl,_,by simp [convert,run_underlying F.und,run_underlying D.und];rfl,by simp only [VR,PR]⟩
 .rename_i x0 e j i;have Q:=bind_some h;clear h;obtain ⟨te,t,h⟩:=Q;obtain ⟨ie,de,ze,t⟩:=dQ C t;split at h
  .cases h
  .rename_i Z xt xb u y;have Q:=bind_some h;clear h;obtain ⟨⟨p,n,pr⟩,A,h⟩:=Q;obtain ⟨rfl,rfl,rfl⟩:=aS h;obtain ⟨U,M⟩:=dG hbs;obtain ⟨M,_⟩:=dG M;rw [F.d_eq] at j;rw [D.d_eq] at i;have j:=g_ j;have i:=AU i;subst j;subst i;rw [t.d_eq] at u;have u:=acs u;subst u;have U:=aN U;obtain ⟨f,hs,X,_⟩:=ww (P:=P) W O G A (by omega) (tx:=s) (.inr ⟨λs e=>y s e,e,F.und⟩);have E:f=(p.map AV.toInt).map (Value.int .u8):=by
    have:∀ (p:List AV) (f:List Value),bu g m S p f->p.all (chk (.int .u8))=true->f=(p.map AV.toInt).map (Value.int .u8):=by
     intro p
     induction p with
     |nil=>intro f h _;cases f<;>simp [bu] at h ⊢
     | cons a r ih=>
      intro f h H;cases f with
      |nil=>simp [bu] at h
      |cons c q=>
       simp only [bu] at h;simp only [Xzr,τ] at H;rw [Xqg,Xqg,ih q h.2 H.2];congr 1;cases a<;>simp [chk] at H
       simp only [VR,PR] at h;rw [h.1,gy H.1];rfl
    exact this p f X M
   refine ⟨rfl,.string ⟨((p.map AV.toInt).map λn=>Xql n.toNat).toArray⟩, ?_, ?_⟩
   .have hcells:=hs.cells;have z:=hs.len w;have o:=G;cases R
    case slice a l c=>
     have Y:l=n:=by simpa [Builtin.lenOf] using z
     subst Y;cases a with
     | none=>
      have J:f= []:=by simpa [Builtin.firstCells] using hcells.symm
      rw [J] at E;have L:p= []:=by
       have:(p.map AV.toInt).map (Value.int .u8)= []:=E.symm;simpa using this
      subst L;simp [convert,run_underlying F.und,run_underlying D.und,run_underlying t.und,Conv.bytesToString];rfl
     | some a=>
      have N:(loadCells a l).run P w= .ok ((p.map AV.toInt).map (Value.int .u8)).toArray w:=by
       rw [<- E];simpa [Builtin.firstCells] using hcells
      have T:=run_bytesToString (P:=P) w a l c _ N;rw [show ByteArray.empty=⟨([]:List UInt8).toArray⟩ from rfl,Ll,Xqc] at T;simp only [convert,Sem.run_bind,run_underlying F.und,run_underlying D.und,run_underlying t.und,Result.andThen_ok];exact T
    all_goals (simp [Builtin.lenOf] at z)
    case string s0=>
     exfalso;cases Z<;>simp [QI] at A
     case str s1=>exact y s1 rfl
     case nilS=>simp only [VR,PR] at o;cases o
     case sl a b c=>simp only [VR,PR] at o;obtain ⟨_,_,h,_⟩:=o;cases h
     case ref a b c d=>simp only [VR] at o;obtain ⟨_,_,_,⟨_,_,_,h⟩,_⟩:=o;cases h
   .simp only [VR,PR];simp [List.map_map,Function.comp_def]
  .cases h
 .cases h
end
end AM
namespace AM
open Go
def dR (g:dK) (ups:List (Nat × aU)):dK:=λb=>match look ups b with|some B=>some B|none=>g b
def lU (m:aW) (b:Nat) (x:Nat × Nat):aW:=λc=>if c=b then x else m c
theorem gX {α:Type}:∀ (a b:List (Nat × α)) (t:Nat),look (a++b) t=match look a t with|some x=>some x|none=>look b t
 | [],b,t=>rfl
 |(u,x)::r,b,t=>by
  simp only [Xqt,look];split
  .rfl
  .exact gX r b t
theorem oZ (ups:List (Nat × aU)) (hp:Hp):dR (look hp) ups=look (ups++hp):=by
 funext b;rw [gX];unfold dR;cases look ups b<;>rfl
theorem fP (g:dK):dR g []=g:=rfl
theorem o_ (g:dK) (b:Nat) (B:aU) (c:Nat):dR g [(b,B)] c=if c=b then some B else g c:=by
 simp only [dR,look];by_cases h:c=b
 .subst h;simp
 .have:Xqk b c=false:=by
   cases a:Xqk b c with
   |false=>rfl
   |true=>exact absurd (aN a).symm h
  rw [this,if_neg h]
section
variable {P:Program} {ap:AP} {g:dK} {m:aW} {S:aO} {w:World}
theorem Ws.mono {g g':dK} {m b:aW} {S S':aO} {w w':World} {B:aU} {k c:Nat} (h:Ws g m S w B k c) (a:iV S S') (q:Ge g m g' b) (i:w'.heap[k]? =w.heap[k]?):Ws g' b S' w' B k c:=by
 obtain ⟨⟨cur,e,vs,rest,n,f,l,j,h5,o⟩,h7,d⟩:=h;exact ⟨⟨cur,e,vs,rest,n.same i,f,λp=>bD a _ (l p),l_ a q _ j,h5,o⟩,h7,d⟩
theorem b_.seal_lt (h:b_ ap g m S w) {k o:Nat} {v:Value} (a:S k o=some v):k<w.heap.size:=oG (h.sealed k o v a)
theorem b_.put (h:b_ ap g m S w) (b:Nat) (B:aU) (k c:Nat) {w':World}
  (j:w.heap.size<=k\/∃ B0,g b=some B0/\k=(m b).1) (hw:w.grownBy w' (some k)) (hblk:Ws g m S w' B k c)
  (hge:∀ B0,g b=some B0->B.esz=B0.esz/\((B.ver=B0.ver/\(k,c)=m b)\/B0.ver<B.ver))
  (hseal:∀ o v,S k o=some v->bf w' k o=some v/\B.fro=true/\o<B.fz):
  b_ ap (dR g [(b,B)]) (lU m b (k,c)) S w'/\Fr g m S w (dR g [(b,B)]) (lU m b (k,c)) S w':=by
 have s:Ge g m (dR g [(b,B)]) (lU m b (k,c)):=by
  intro f B1 l;by_cases e:f=b
  .subst e;obtain ⟨a,i⟩:=hge B1 l;refine ⟨B,by rw [o_,if_pos rfl],a, ?_⟩;rcases i with ⟨i,D⟩|i
   .exact .inl ⟨i,by simp [lU,D]⟩
   .exact .inr i
  .exact ⟨B1,by rw [o_,if_neg e];exact l,rfl,.inl ⟨rfl,by simp [lU,e]⟩⟩
 have t:∀ f B1,g f=some B1->f ≠ b->(m f).1 ≠ k:=by
  intro f B1 l A e;have r:=h.lt l;rcases j with j|⟨B0,n,j⟩
  .omega
  .exact A (h.inj f b B1 B0 l n (e.trans j))
 have p:∀ k0,k0<w.heap.size->k0 ≠ k->w'.heap[k0]? =w.heap[k0]? :=λk0 r z=>hw.block k0 r (by simpa using z)
 constructor
 .refine ⟨?_, ?_, ?_, ?_,h.glob⟩
  .intro f y B1 B2 d x u;rw [o_] at d x;by_cases a:f=b<;>by_cases i:y=b
   .rw [a,i]
   .rw [if_neg i] at x;simp only [lU,a,if_true,if_neg i] at u;exact absurd u.symm (t y B2 x i)
   .rw [if_neg a] at d;simp only [lU,i,if_true,if_neg a] at u;exact absurd u (t f B1 d a)
   .rw [if_neg a] at d;rw [if_neg i] at x;simp only [lU,if_neg a,if_neg i] at u;exact h.inj f y B1 B2 d x u
  .intro f B1 d;rw [o_] at d;by_cases a:f=b
   .rw [if_pos a] at d;cases d;simp only [lU,if_pos a];exact hblk.mono (iV.refl S) s rfl
   .rw [if_neg a] at d;simp only [lU,if_neg a];exact (h.blk f B1 d).mono (iV.refl S) s (p _ (h.lt d) (t f B1 d a))
  .intro k0 o v q;by_cases e:k0=k
   .subst e;exact (hseal o v q).1
   .rw [iY (p k0 (h.seal_lt q) e)];exact h.sealed k0 o v q
  .intro f B1 d o v q;rw [o_] at d;by_cases a:f=b
   .rw [if_pos a] at d;cases d;simp only [lU,if_pos a] at q;exact (hseal o v q).2
   .rw [if_neg a] at d;simp only [lU,if_neg a] at q;exact h.own f B1 d o v q
 .refine ⟨s,iV.refl S,hw.os,hw.tape,hw.output,hw.size, ?_, ?_,λ_ _ _ q=> .inl q⟩
  .intro k0 r C;refine p k0 r (λe=> ?_);subst e;rcases j with j|⟨B0,n,j⟩
   .omega
   .exact C b B0 n j.symm
  .intro f B1 d;rw [o_] at d;by_cases a:f=b
   .subst a;rcases j with j|⟨B0,n,j⟩
    .exact .inl (by simpa [lU] using j)
    .exact .inr ⟨B0,n,by simp [lU,j]⟩
   .rw [if_neg a] at d;exact .inr ⟨B1,d,by simp [lU,a]⟩
end
mutual
theorem OO {g:dK} {m:aW} {S:aO}:∀ (x:AV) {v:Value},VR g m S x v->eG x= []->PR S x v
 | .int _ _,_,p,_=>by simpa only [VR] using p
 | .bool _,_,p,_=>by simpa only [VR] using p
 | .str _,_,p,_=>by simpa only [VR] using p
 | .nilS,_,p,_=>by simpa only [VR] using p
 | .nilP,_,p,_=>by simpa only [VR] using p
 | .nilF,_,p,_=>by simpa only [VR] using p
 | .nilI,_,p,_=>by simpa only [VR] using p
 | .sl _ _ _,_,p,_=>by simpa only [VR] using p
 | .pp _ _,_,p,_=>by simpa only [VR] using p
 | .mp _ _,_,p,_=>by simpa only [VR] using p
 | .dead,_,_,_=>by simp only [PR]
 | .own _ _ _,_,p,_=>by simp only [VR] at p
 | .ref _ _ _ _,_,_,h=>by simp [eG] at h
 | .ptr _ _ _,_,_,h=>by simp [eG] at h
 | .mr _ _,_,_,h=>by simp [eG] at h
 | .agg l,_,p,h=>by
  simp only [VR] at p;simp only [PR];simp only [eG] at h;obtain ⟨vs,e,q⟩:=p;exact ⟨vs,e,gm l q h⟩
 | .tup l,_,p,h=>by
  simp only [VR] at p;simp only [PR];simp only [eG] at h;obtain ⟨vs,e,q⟩:=p;exact ⟨vs,e,gm l q h⟩
 | .fn f a c,_,p,h=>by
  simp only [VR] at p;simp only [PR];simp only [eG,Xzy] at h;obtain ⟨b,d,e,q,r⟩:=p;exact ⟨b,d,e,gm a q h.1,gm c r h.2⟩
 | .ifc t x,_,p,h=>by
  simp only [VR] at p;simp only [PR];simp only [eG] at h;obtain ⟨u,e,q⟩:=p;exact ⟨u,e,OO x q h⟩
theorem gm {g:dK} {m:aW} {S:aO}:∀ (l:List AV) {vs:List Value},bu g m S l vs->cZ l= []->bT S l vs
 | [],[],_,_=>by simp only [bT]
 |x::r,v::vs,p,h=>by simp only [bu] at p;simp only [cZ,Xzy] at h;simp only [bT];exact ⟨OO x p.1 h.1,gm r p.2 h.2⟩
 | [],_::_,p,_=>by simp [bu] at p
 |_::_,[],p,_=>by simp [bu] at p
end
section
variable {P:Program} {ap:AP} {g:dK} {m:aW} {S:aO} {w:World}
theorem um {α:Type} {l:List α} (h:l.isEmpty=true):l= []:=by cases l<;>simp at h ⊢
theorem b_.fresh (h:b_ ap g m S w) {nid:Nat} (j:g nid=none) (B:aU) (f:B.esz ≠ je) (c:Nat) {w':World} {cur:Array Value} {e:TypeId} (b:w.grownBy w' none) (a:w'.heap[w.heap.size]? =some (.cells cur e (0,0)))
  (hver:B.fro=false->B.fz=0) (hfz:B.fz<=B.cells.length) {vs rest:List Value} (hc:cur.toList=vs++rest) (hp:B.pr=true->bT S B.cells vs) (d:bu g m S B.cells vs) (h1:∀ u ∈ vs,u.oneCell'=true) (hcap:0<B.esz->cur.size=c*B.esz/\c<=maxLen):
  b_ ap (dR g [(nid,B)]) (lU m nid (w.heap.size,c)) S w'/\Fr g m S w (dR g [(nid,B)]) (lU m nid (w.heap.size,c)) S w':=by
 refine h.put nid B w.heap.size c (.inl (κ _)) ⟨b.os,b.tape,b.output,b.size,λk i _=>b.block k i (by simp)⟩ ⟨⟨cur,e,vs,rest,kK.of f a,hc,hp,d,λ_=>h1,λh0 _=>hcap h0⟩,hver,hfz⟩ (λB0 h0=>by rw [j] at h0;cases h0) ?_;intro o v d;have:=h.seal_lt d;omega
theorem Ky (h:b_ ap g m S w) {nid:Nat} (d:g nid=none) {cells:List AV} {cv:Value} (a:bu g m S cells cv.cells.toList) (_hl:∀ x ∈ cells,qQ x=true) (c:∀ u ∈ cv.cells,u.oneCell'=true) (t:TypeId):
  ∃ m' w',(newVar t cv).run P w= .ok ⟨w.heap.size,0,none⟩ w'/\b_ ap (dR g [jI nid cells 0]) m' S w'/\Fr g m S w (dR g [jI nid cells 0]) m' S w'/\(m' nid).1=w.heap.size:=by
 have b:=h.fresh (nid:=nid) d (jI nid cells 0).2 (by show 0 ≠ je;decide) 0 (w':=w.alloc (.cells cv.cells t)) (cur:=cv.cells) (e:=t) (World.grownBy_alloc w _ none) (heap_alloc_new w _) (λ_=>rfl) (Xq7 _) (vs:=cv.cells.toList) (rest:= []) (by simp)
  (λhp=>gm _ a (um hp)) a (λu f=>c u (by simpa using f)) (λh=>by simp [jI] at h)
 refine ⟨_,_, ?_,b.1,b.2,by simp [lU]⟩;simp [newVar,newRow]
theorem Vq {b:aW} {nid:Nat} {cells:List AV} {a k:Nat} (c:(b nid).1=k):VR (dR g [jI nid cells a]) b S (.ptr nid 0 0) (.pointer (some ⟨k,0,none⟩)):=by
 simp only [VR];refine ⟨(jI nid cells a).2, ?_,Xq7 _,⟨_,_,rfl⟩,λ_=>by rw [c]⟩;show dR g [(nid,(jI nid cells a).2)] nid=_;rw [o_,if_pos rfl]
theorem Ot (h:b_ ap g m S w) {rd:dK} (L:∀ b B,rd b=some B->g b=some B) {t:Nat} {ti:TI} {i:TypeInfo} {d:TypeDesc} {z:Value} (W:FP P t ti i d z) {p x v:AV} {R c:Value} (hp:VR g m S p R) (hx:VR g m S x c)
  {ups:List (Nat × aU)} {bs:List Bool} (hs:Uh ti rd p x=some (v,ups,bs)) (hbs:∀ b ∈ bs,b=true):
  v= .dead/\∃ m' w',(Instr.storeAt t R c).run P w= .ok () w'/\b_ ap (dR g ups) m' S w'/\Fr g m S w (dR g ups) m' S w':=by
 unfold Uh at hs;split at hs
 .rename_i b ver a;have hq:=bind_some hs;clear hs;obtain ⟨B,hB,hs⟩:=hq;simp only at hs;split at hs
  .rename_i N;simp only [τ,Xqs] at N;obtain ⟨⟨⟨⟨Y,X⟩,c3⟩,c4⟩,T⟩:=N;have l:B.esz ≠ je:=λe=>by rw [e] at T;exact absurd T (by decide)
   cases hs;have f:=L b B hB;have H:=aN Y;have O:=aN c3;have Q:=gG (hbs _ (List.mem_singleton.2 rfl));simp only [VR] at hp;obtain ⟨B',G,_,_,q⟩:=hp;rw [f] at G;cases G;have q:=q H;subst q;obtain ⟨r,F⟩:=GR hx (λy hy=>List.all_eq_true.1 c4 y hy);obtain ⟨⟨cur,e,vs,rest,K,M,Z,V,J,k6⟩,k7,k8⟩:=h.blk b B f;have K:=K.cells l;have J:=J l;have s:=di r;have U:=di V;have I:c.cells.size=i.size:=by simp only [Array.length_toList] at s;rw [<- W.size];omega
   have E:cur.toList.length=vs.length+rest.length:=by rw [M];simp
   have D:=run_storeCells_at P (m b).1 a e c.cells.toList 0 cur w K (by simp only [Array.length_toList] at s E ⊢;omega) (λu j=>F u (by simpa using j));simp only [Xq4] at D;have hnewl:(cur.toList.take a++c.cells.toList++cur.toList.drop (a+c.cells.toList.length))=(vs.take a++c.cells.toList++vs.drop (a+c.cells.toList.length))++rest:=by
    rw [M,Xjb (by omega),List.drop_append_of_le_length (by omega)];simp [Xqe]
   have n:=h.put b {B with cells:=setCells B.cells a x.cells,pr:=B.pr && (cZ x.cells).isEmpty} (m b).1 (m b).2 (w':=w.setRow (m b).1 (cur.toList.take a++c.cells.toList++cur.toList.drop (a+c.cells.toList.length)).toArray)
    (.inr ⟨B,f,rfl⟩) ⟨rfl,rfl,rfl,by simp,λk _ hk=>setRow_other w _ k _ (λe=>hk (by rw [e]))⟩
    ⟨⟨_,e,vs.take a++c.cells.toList++vs.drop (a+c.cells.toList.length),rest,kK.of l (setRow_heap w _ cur _ e _ K),by rw [Xvo,hnewl],λA=>by
      simp only [τ] at A;exact acZ (Z A.1) (gm _ r (um A.2)),Uy V r,by
      intro _ u j;rcases List.mem_append.1 j with j|j
      .rcases List.mem_append.1 j with j|j
       .exact J u (Xj6 j)
       .exact F u (by simpa using j)
      .exact J u (Xzq j),λC _=>by
      obtain ⟨s1,s2⟩:=k6 C l;refine ⟨?_,s2⟩;rw [<- s1,Xxh];simp only [ν,Xqz,Xx4,Array.length_toList] at s E ⊢;omega⟩,k7,by
     have:(setCells B.cells a x.cells).length=B.cells.length:=by simp only [setCells,ν,Xqz,Xx4];omega
     simp only [this];exact k8⟩
    (λB0 h0=>by rw [f] at h0;cases h0;exact ⟨rfl,.inl ⟨rfl,rfl⟩⟩)
    (λo v hv=>by
     have:=(h.own b B f o v hv).1;rw [X] at this;cases this)
   refine ⟨rfl,_,_, ?_,n.1,n.2⟩;have hn:¬ (c.cells.size ≠ i.size):=by simp [I]
   simp [Instr.storeAt,Instr.sureAddr,storeVar,Go.sizeOf,typeInfo,W.info,I,D]
  .cases hs
 .cases hs
end
end AM
namespace AM
open Go
section
variable {P:Program} {ap:AP} {g:dK} {m:aW} {S:aO} {w:World}
theorem qp (g:dK) (b:Nat) (B:aU):dR g [(b,B)] b=some B:=by rw [o_,if_pos rfl]
theorem Ie {w w':World} (h:w.grownBy w' none) (r:Option Nat):w.grownBy w' r:=⟨h.os,h.tape,h.output,h.size,λk a _=>h.block k a (by simp)⟩
theorem qM (w:World) (o:Obj):w.grownBy (w.drew.alloc o) none:=⟨rfl,rfl,rfl,by simp,λk a _=>Go.RowKit.Below.heap_alloc w.drew o k a⟩
theorem zo {t tx ty e:TypeId} {i:TypeInfo} (c:P.underlying t=some (.slice e)) (d:P.info? e=some i) {x:Value} {a:List Value} (hs:Src P i.size tx x 0 a w):
  (Builtin.append_ #[t,tx] ty #[.slice none 0 0,x]).run P w= .ok (.slice none 0 0) w:=by
 rcases hs.kind with ⟨e',b⟩|b<;>simp [Builtin.append_,run_underlying c,run_underlying b,Go.sizeOf,typeInfo,d,hs.len,hs.cells]
theorem zq {t tx ty e:TypeId} {i:TypeInfo} (h:P.underlying t=some (.slice e)) (d:P.info? e=some i) {k o sLen sCap n:Nat} {x:Value} {a:List Value} (hs:Src P i.size tx x n a w) (hroom:sLen+n<=sCap)
  {cur:Array Value} {e':TypeId} (hk:w.heap[k]? =some (.cells cur e' (0,0))) (hfit:o+sLen*i.size+a.length<=cur.size):
  (Builtin.append_ #[t,tx] ty #[.slice (some ⟨k,o,none⟩) sLen sCap,x]).run P w= .ok (.slice (some ⟨k,o,none⟩) (sLen+n) sCap) (w.setRow k (cur.toList.take (o+sLen*i.size)++a++cur.toList.drop (o+sLen*i.size+a.length)).toArray):=by
 have c:=run_storeCells_at P k (o+sLen*i.size) e' a 0 cur w hk (by simpa using hfit) hs.one;simp only [Xq4] at c;rcases hs.kind with ⟨f,b⟩|b<;>simp [Builtin.append_,run_underlying h,run_underlying b,Go.sizeOf,typeInfo,d,hs.len,hroom,hs.cells,Addr.add_mid,c]
theorem Qo (b:Nat):LD b<=Qp:=by
 unfold LD;split
 .exact κ _
 .decide
theorem Et {n a bytes tb:Nat} (h:a<n) (b:n<=LD tb) (i:bytes=tb) (d:bytes<=256):Builtin.nextslicecap n a*bytes<=281474976710656:=by
 refine growslice_fits h ?_;subst i;unfold LD at b;split at b
 .rename_i f;have c:=Nat.le_of_ble_eq_true f;have:n*bytes<=Qp*128:=Xwe b c;have e:Qp*128=140737488355328:=by decide
  omega
 .have:n*bytes<=549755813888*256:=Xwe b d;omega
theorem CP:Qp=1099511627776:=by decide
theorem FI {t tx ty e:TypeId} {i:TypeInfo} (c:P.underlying t=some (.slice e)) (d:P.info? e=some i) {x:Value} {base:Option Addr} {sLen sCap:Nat} (hs:Src P i.size tx x 0 [] w) (f:sLen<=sCap):
  (Builtin.append_ #[t,tx] ty #[.slice base sLen sCap,x]).run P w= .ok (.slice base sLen sCap) w:=by
 cases base with
 |none=>rcases hs.kind with ⟨e',b⟩|b<;>simp [Builtin.append_,run_underlying c,run_underlying b,Go.sizeOf,typeInfo,d,hs.len,hs.cells,f]
 |some a=>rcases hs.kind with ⟨e',b⟩|b<;>simp [Builtin.append_,run_underlying c,run_underlying b,Go.sizeOf,typeInfo,d,hs.len,hs.cells,f,storeCells]
theorem zB (h:b_ ap g m S w) {rd:dK} (Q:∀ b B,rd b=some B->g b=some B) {nid:Nat} (hn:g nid=none) {t tx e:Nat} {ti p:TI} {i G:TypeInfo} {z M:Value} {de:TypeDesc} (ht:FP P t ti i (.slice e) z) (y:FP P e p G de M)
  {s x v:AV} {cs cx:Value} (hvs:VR g m S s cs) (hvx:VR g m S x cx)
  (hk:((∃ s,x= .str s)/\P.underlying tx=some .string/\p.size=1)\/((∀ s,x ≠ .str s)/\∃ e,P.underlying tx=some (.slice e)))
  {em:Bool} (O:s= .nilS->∃ n,Ae x=some n/\Xqk n 0=em)
  {ups:List (Nat × aU)} {bs:List Bool} (E:Be nid p rd em s x=some (v,ups,bs)) (r:∀ b ∈ bs,b=true) (ty:Nat):
  ∃ cv m' w',(Builtin.append_ #[t,tx] ty #[cs,cx]).run P w= .ok cv w'/\b_ ap (dR g ups) m' S w'/\Fr g m S w (dR g ups) m' S w'/\VR (dR g ups) m' S v cv:=by
 have hcount:∀ L n pr,QI p.size rd x=some (L,n,pr)->Ae x=some n:=by
  intro L n pr a;unfold QI at a;split at a
  .cases a;rfl
  .cases a;rfl
  .cases a;rfl
  .have hq:=bind_some a;clear a;obtain ⟨B,hB,a⟩:=hq;split at a
   .cases a;rfl
   .cases a
  .cases a
 unfold Be at E;have hq:=bind_some E;clear E;obtain ⟨⟨L,n,pr⟩,a,E⟩:=hq;simp only at E;split at E
 .cases E
 .rename_i V;simp only [τ] at V;have hsz:=gI V.1;have hby:=gG V.2;have d:p.size=G.size:=y.size;have T:p.size ≠ je:=λe=>by have:=y.small;omega
  have hby':p.bytes=G.bytes:=y.bytes;have hzs:M.cells.size=G.size:=y.zsize;split at E
  ·
   obtain ⟨n',hc',O⟩:=O rfl;rw [hcount _ _ _ a] at hc';cases hc';simp only [VR,PR] at hvs;subst hvs;split at E
   ·
    obtain ⟨rfl,rfl,rfl⟩:=aS E;have N:n=0:=aN O;subst N;have hl:=aN (r _ (List.mem_singleton.2 rfl));obtain ⟨c,hs,hv,hp⟩:=ww (P:=P) h Q hvx a hl hk;rw [d] at hs;exact ⟨_,m,w,zo ht.und y.info hs,by rw [fP];exact h,by rw [fP];exact Fr.refl _ _ _ _,by simp [VR,PR]⟩
   ·
    cases E;obtain ⟨b1,r⟩:=dG r;obtain ⟨b2,_⟩:=dG r;have hl:=aN b1;have hroomB:=gG b2;have hroom:=Xqr hroomB (Qo _);have N:n ≠ 0:=by intro e;subst e;simp at O
    obtain ⟨c,hs,hv,hp⟩:=ww (P:=P) h Q hvx a hl hk;rw [d] at hs;have f:=run_append_grow_src w t tx ty e G M ht.und y.info y.zero none 0 0 [] (run_firstCells_none w.drew _ _ _ _) cx n c hs (by omega) (by rw [CP] at hroom;omega) (Et (by omega) (by simpa using hroomB) (by omega) (by omega));have hge:n<=grownCap w n 0 e:=grownCap_ge _ _ _ _;have Y:grownCap w n 0 e<=maxLen:=grownCap_le_maxLen _ _ _ _ (by rw [CP] at hroom;simp only [maxLen];omega);simp only [Δ] at f;have hf:=h.fresh (nid:=nid) hn ⟨L,0,false,0,p.size,pr⟩ T (grownCap w n 0 e) (cur:=([]++c).toArray++Builtin.zeroCells M.cells (grownCap w n 0 e - n)) (e:=e) (qM w _) (heap_alloc_new w.drew _) (λ_=>rfl) (Xq7 _)
     (vs:=c) (rest:=(Builtin.zeroCells M.cells (grownCap w n 0 e - n)).toList) (by simp) hp hv hs.one (λ_=> ⟨by
      simp only [Array.size_append,Xxh,Xqc,size_zeroCells,hs.newsLen,hzs,d];rw [<- Xxy];congr 1;omega,Y⟩)
    refine ⟨_,_,_,f,hf.1,hf.2, ?_⟩;simp only [VR];refine ⟨_,qp _ _ _,κ _,⟨_,_,_,rfl⟩,λ_=> ⟨0, ?_, ?_, ?_,hsz,T⟩⟩
    .simp [lU]
    .simpa [lU] using hge
    .simp
  .rename_i b ver mN;have hq:=bind_some E;clear E;obtain ⟨B,hB,E⟩:=hq;split at E
   .rename_i F;simp only [τ,Xqs] at F;have hver:=aN F.1.1;have U:=aN F.1.2;have A:B.esz ≠ je:=λe=>by rw [e] at F;exact absurd F.2 (by decide)
    cases E;obtain ⟨b1,r⟩:=dG r;obtain ⟨b2,r⟩:=dG r;obtain ⟨b3,r⟩:=dG r;obtain ⟨b4,_⟩:=dG r;have hl:=aN b1;have hroomB:=gG b2;have hroom:=Xqr hroomB (Qo _);have hfit:=gG b3;have D:=Q b B hB;simp only [VR] at hvs;obtain ⟨B',hB',_,_,q⟩:=hvs;rw [D] at hB';cases hB';obtain ⟨o,rfl,hcap,ho,H,hnz1⟩:=q hver;simp only [Δ,Nat.sub_zero,Nat.zero_mul] at hcap ho ⊢;obtain ⟨c,hs,hv,hp⟩:=ww (P:=P) h Q hvx a hl hk;rw [d] at hs;have hbk:=h.blk b B D;obtain ⟨⟨cur,e',vs,rest,R,k2,k3,k4,k5,k6⟩,k7,k8⟩:=hbk;have R:=R.cells A;have k5:=k5 A;obtain ⟨s1,s2⟩:=k6 H A;have hvl:=di k4;have hcl:cur.toList.length=vs.length+rest.length:=by rw [k2];simp
    simp only [Array.length_toList] at hcl;have hfz:B.fz<=mN*p.size:=by
     cases hf:B.fro with
     |false=>rw [k7 hf];exact Xq7 _
     |true=>simp [hf] at b4;exact gG (by simpa using b4)
    have holds:bT S (B.cells.take (mN*p.size)) (vs.take (mN*p.size))\/B.pr=false:=by
     cases hp:B.pr with
     |false=>exact .inr rfl
     |true=>exact .inl (lW _ (k3 hp))
    have I:(vs.take (mN*p.size)).length=mN*G.size:=by rw [Xqz,d] at*;omega
    have Z:bu g m S (B.cells.take (mN*p.size)++L) (vs.take (mN*p.size)++c):=iq (uf _ k4) hv;have W:(B.pr && pr)=true->bT S (B.cells.take (mN*p.size)++L) (vs.take (mN*p.size)++c):=by
     intro hh;simp only [τ] at hh;exact ny (lW _ (k3 hh.1)) (hp hh.2)
    have h1:∀ u ∈ vs.take (mN*p.size)++c,u.oneCell'=true:=by
     intro u C;rcases List.mem_append.1 C with C|C
     .exact k5 u (Xj6 C)
     .exact hs.one u C
    have K:B.fz<=(B.cells.take (mN*p.size)++L).length:=by
     rw [ν,Xqz];omega
    by_cases hrm:mN+n<=(m b).2
    ·
     by_cases hc0:(m b).2=0
     .have hm0:mN=0:=by omega
      have N:n=0:=by omega
      subst hm0;subst N;have hnews:c= []:=by have:=hs.newsLen;simpa using this
      subst hnews;have f:=FI (P:=P) (w:=w) (ty:=ty) (base:=some ⟨(m b).1,o,none⟩) (sLen:=0) (sCap:=(m b).2) ht.und y.info hs (by omega);have l:=h.put b {B with cells:=B.cells.take (0*p.size)++L,ver:=ver+1,pr:=B.pr && pr} (m b).1 (m b).2 (w':=w) (.inr ⟨B,D,rfl⟩) ⟨rfl,rfl,rfl,κ _,λ_ _ _=>rfl⟩
       ⟨⟨cur,e',_,vs.drop (0*p.size)++rest,kK.of A R,by rw [k2];simp,W,Z,λ_=>h1,k6⟩,k7,K⟩ (λB0 h0=>by rw [D] at h0;cases h0;exact ⟨rfl,.inr (by simp only;omega)⟩)
       (λo' u C=> ⟨h.sealed _ _ _ C,(h.own b B D o' u C)⟩)
      refine ⟨_,_,_,f,l.1,l.2, ?_⟩;simp only [VR];refine ⟨_,qp _ _ _,κ _,⟨_,_,_,rfl⟩,λ_=> ⟨o,by simp [lU],by simp,by simp [lU,hc0],H,A⟩⟩
     .have X:o=0:=ho (by omega);subst X;have hnl:=hs.newsLen;have hbig:mN*G.size+n*G.size<=(m b).2*G.size:=by rw [<- Xxy];exact Nat.mul_le_mul_right _ hrm
      have hcs:cur.size=(m b).2*G.size:=by rw [s1,U,d]
      have f:=zq (P:=P) (w:=w) (ty:=ty) (o:=0) ht.und y.info hs hrm R (by simp only [Δ];omega);simp only [Δ] at f;have hlist:cur.toList.take (mN*G.size)=vs.take (mN*p.size):=by rw [k2,d,Xjb (by rw [d] at hfit;omega)]
      have l:=h.put b {B with cells:=B.cells.take (mN*p.size)++L,ver:=ver+1,pr:=B.pr && pr} (m b).1 (m b).2 (w':=w.setRow (m b).1 (cur.toList.take (mN*G.size)++c++cur.toList.drop (mN*G.size+c.length)).toArray)
       (.inr ⟨B,D,rfl⟩) ⟨rfl,rfl,rfl,by simp,λk _ hk=>setRow_other w _ k _ (λe=>hk (by rw [e]))⟩
       ⟨⟨_,e',_,cur.toList.drop (mN*G.size+c.length),kK.of A (setRow_heap w _ cur _ e' _ R),by rw [hlist],W,Z,λ_=>h1,λ_ _=> ⟨by
        rw [<- s1,Xxh];simp only [ν,Xqz,Xx4,Array.length_toList];omega,s2⟩⟩,k7,K⟩ (λB0 h0=>by rw [D] at h0;cases h0;exact ⟨rfl,.inr (by simp only;omega)⟩)
       (λo' u C=>by
        obtain ⟨f1,f2⟩:=h.own b B D o' u C;refine ⟨?_,f1,f2⟩;have:=h.sealed _ _ _ C;cases J:u.oneCell' with
        |false=>
         obtain ⟨_,_,hm,_⟩:=yH this J;rw [R] at hm;cases hm
        |true=>
        have this:=nH this J;rw [xy R] at this;refine (kK.of A (setRow_heap w _ cur _ e' _ R)).get ?_ (λ_=>J);simp only [Xqe];rw [Xxf (by simp only [Xqz,Array.length_toList];rw [d] at hfz;omega),List.getElem?_take_of_lt (by rw [d] at hfz;omega)];exact this)
      refine ⟨_,_,_,f,l.1,l.2, ?_⟩;simp only [VR];refine ⟨_,qp _ _ _,κ _,⟨_,_,_,rfl⟩,λ_=> ⟨0,by simp [lU],by simpa [lU] using hrm,by simp,H,A⟩⟩
    ·
     have hold:(Builtin.firstCells G.size mN (.slice (some ⟨(m b).1,o,none⟩) mN (m b).2)).run P w.drew= .ok (vs.take (mN*p.size)).toArray w.drew:=by
      refine run_firstCells_some w.drew G.size mN ⟨(m b).1,o,none⟩ mN _ _ I ?_;intro j u C;have hjl:=(List.getElem?_eq_some_iff.1 C).1;rw [I] at hjl;have hm0:0<mN:=by
       rcases Nat.eq_zero_or_pos mN with h0|h0
       .subst h0;simp at hjl
       .exact h0
      have X:o=0:=ho (by omega);subst X;rw [Addr.add_mid,Δ,xy (w:=w.drew) (j:=j) R,k2];rw [Xjq] at C;split at C
      .rw [Xxf (List.getElem?_eq_some_iff.1 C).1];exact C
      .cases C
     have f:=run_append_grow_src w t tx ty e G M ht.und y.info y.zero (some ⟨(m b).1,o,none⟩) mN (m b).2 _ hold cx n c hs (by omega) (by rw [CP] at hroom;omega) (Et (by omega) hroomB (by omega) (by omega));have hge:mN+n<=grownCap w (mN+n) (m b).2 e:=grownCap_ge _ _ _ _;have Y:grownCap w (mN+n) (m b).2 e<=maxLen:=grownCap_le_maxLen _ _ _ _ (by rw [CP] at hroom;simp only [maxLen];omega);have l:=h.put b {B with cells:=B.cells.take (mN*p.size)++L,ver:=ver+1,pr:=B.pr && pr} w.heap.size (grownCap w (mN+n) (m b).2 e) (.inl (κ _))
      (Ie (qM w (.cells ((vs.take (mN*p.size)++c).toArray++Builtin.zeroCells M.cells (grownCap w (mN+n) (m b).2 e - (mN+n))) e)) _)
      ⟨⟨(vs.take (mN*p.size)++c).toArray++Builtin.zeroCells M.cells (grownCap w (mN+n) (m b).2 e - (mN+n)),e,_,(Builtin.zeroCells M.cells (grownCap w (mN+n) (m b).2 e - (mN+n))).toList,kK.of A (heap_alloc_new w.drew _),by simp,W,Z,λ_=>h1,λ_ _=> ⟨by
       simp only [Array.size_append,Xxh,ν,size_zeroCells,hs.newsLen,hzs];rw [I,U,d,<- Xxy,<- Xxy];congr 1;omega,Y⟩⟩,k7,K⟩ (λB0 h0=>by rw [D] at h0;cases h0;exact ⟨rfl,.inr (by simp only;omega)⟩)
      (λo' u C=>absurd (h.seal_lt C) (Xkc _))
     refine ⟨_,_,_,f,l.1,l.2, ?_⟩;simp only [VR];refine ⟨_,qp _ _ _,κ _,⟨_,_,_,rfl⟩,λ_=> ⟨0,by simp [lU],by simpa [lU] using hge,by simp,H,A⟩⟩
   .cases E
  .cases E
end
end AM
namespace AM
open Go
theorem EX (n:Nat) (z:List AV):(gB n z).length=n*z.length:=by simp [gB]
theorem XV (n:Nat) (z:List AV):gB (n+1) z=z++gB n z:=by simp [gB,Xxc]
theorem Qm:∀ (n:Nat) (z:List AV) (i:Nat),i<n*z.length->(gB n z)[i]? =z[i % z.length]?
 |0,z,i,h=>by simp at h
 | n+1,z,i,h=>by
  rw [XV];by_cases a:i<z.length
  .rw [Xxf a,Nat.mod_eq_of_lt a]
  .have a:z.length<=i:=by omega
   rw [List.getElem?_append_right a,Qm n z (i - z.length) (by rw [Xxy,Nat.one_mul] at h;omega)];congr 1;rw [<- Nat.mod_eq_sub_mod a]
section
variable {P:Program} {ap:AP} {g:dK} {m:aW} {S:aO} {w:World}
theorem GN:∀ {l:List AV} {vs:List Value},l.length=vs.length->(∀ (i:Nat) x v,l[i]? =some x->vs[i]? =some v->VR g m S x v)->bu g m S l vs
 | [],[],_,_=>by simp [bu]
 |x::r,v::vs,hl,h=>by
  simp only [bu];exact ⟨h 0 x v rfl rfl,GN (by simpa using hl) λi x v b a=>h (i+1) x v (by simpa using b) (by simpa using a)⟩
 | [],_::_,h,_=>by simp at h
 |_::_,[],h,_=>by simp at h
theorem DW (z:Array Value) (n:Nat):(madeCells z n).toList=(List.range n).map λi=>z[i % z.size]! :=by simp [madeCells]
theorem zH {t:Nat} {ti:TI} {i:TypeInfo} {d:TypeDesc} {z:Value} (c:FP P t ti i d z) (n:Nat):bu g m S (gB n ti.zero) (madeCells z.cells (n*i.size)).toList:=by
 have h:=ug (g:=g) (m:=m) (S:=S) c;have a:=di h;simp only [Array.length_toList,c.zsize] at a;refine GN (by rw [EX,a,Array.length_toList,size_madeCells]) ?_;intro j x v f e;have k:j<n*i.size:=by
  have:=(List.getElem?_eq_some_iff.1 f).1;rw [EX,a] at this;exact this
 rw [Qm n ti.zero j (by rw [a];exact k),a] at f;rw [DW,c.zsize,Xqw,List.getElem?_range k] at e;simp only [Xjm,Option.some.injEq] at e;obtain ⟨p,b,o⟩:=uZ h _ f;have l:j % i.size<z.cells.size:=by rw [c.zsize];exact Nat.mod_lt _ c.pos
 simp only [Array.getElem?_toList] at b;rw [getElem!_pos z.cells _ l] at e;rw [Array.getElem?_eq_getElem l] at b;cases b;rw [<- e];exact o
theorem Lt {n:Nat} {z:List AV} (h:∀ x ∈ z,qQ x=true):∀ x ∈ gB n z,qQ x=true:=by
 intro x a;simp only [gB,List.mem_flatten,List.mem_replicate] at a;obtain ⟨l,⟨_,rfl⟩,a⟩:=a;exact h x a
theorem FQ:∀ {l:List AV} {vs:List Value},bu g m S l vs->(∀ x ∈ l,qQ x=true)->∀ u ∈ vs,u.oneCell'=true
 | [],[],_,_=>by simp
 |x::r,v::vs,h,hl=>by
  simp only [bu] at h;intro u a;rcases List.mem_cons.1 a with rfl|a
  .exact Rl h.1 (hl x (by simp))
  .exact FQ h.2 (λy b=>hl y (by simp [b])) u a
 | [],_::_,h,_=>by simp [bu] at h
 |_::_,[],h,_=>by simp [bu] at h
theorem NL {b vs:List AV} {a:Nat} {x:AV} (h:x ∈ setCells b a vs):x ∈ b\/x ∈ vs:=by
 simp only [setCells,List.mem_append] at h;rcases h with (h|h)|h
 .exact .inl (Xj6 h)
 .exact .inr h
 .exact .inl (Xzq h)
theorem H5:∀ {ps:List (Nat × Nat × AV)} {cells cells':List AV},zD cells ps=some cells'->(∀ x ∈ cells,qQ x=true)->∀ x ∈ cells',qQ x=true
 | [],cells,cells',h,hl=>by simp [zD] at h;subst h;exact hl
 | (off,size,v)::r,cells,cells',h,hl=>by
  simp only [zD] at h;split at h
  .rename_i b;simp only [τ] at b;refine H5 h λx a=> ?_
   rcases NL a with a|a
   .exact hl x a
   .exact List.all_eq_true.1 b.2 x a
  .cases h
theorem Vu {nid:Nat} {cells:List AV} {a k c n:Nat} (b:n<=c) (hp:0<a) (d:a ≠ je):VR (dR g [jI nid cells a]) (lU m nid (k,c)) S (.ref nid 0 0 n) (.slice (some ⟨k,0,none⟩) n c):=by
 simp only [VR];refine ⟨_,qp _ _ _,Xq7 _,⟨_,_,_,rfl⟩,λ_=> ⟨0,by simp [lU],by simpa [lU] using b,by simp,hp,d⟩⟩
theorem vX:∀ (a b:List AV),cZ (a++b)=cZ a++cZ b
 | [],b=>by simp [cZ]
 |x::r,b=>by simp [cZ,vX r b]
theorem Ls (z:List AV) (h:cZ z= []):∀ n,cZ (gB n z)= []
 |0=>by simp [gB,cZ]
 |n+1=>by
  have a:=Ls z h n;simp only [gB,Xxc,List.flatten_cons,vX,h,Xqc] at a ⊢;exact a
theorem Tt (nid n a:Nat) (z:List AV) (h:(cZ z).isEmpty=true):(nid,(⟨gB n z,0,false,0,a,true⟩:aU))=jI nid (gB n z) a:=by
 have b:cZ z= []:=by simpa using h
 simp [jI,Ls z b n]
theorem DX (y:iy P ap) (h:b_ ap g m S w) {nid:Nat} (R:g nid=none) {t:Nat} {ti:TI} {i:TypeInfo} {d:TypeDesc} {z:Value} (M:FP P t ti i d z) {l c:AV} {cl J:Value} (L:VR g m S l cl) (I:VR g m S c J)
  {v:AV} {ups:List (Nat × aU)} {bs:List Bool} (k:Am ap nid ti l c=some (v,ups,bs)) (j:∀ b ∈ bs,b=true):
  ∃ cv m' w',(Instr.makeSlice t cl J).run P w= .ok cv w'/\b_ ap (dR g ups) m' S w'/\Fr g m S w (dR g ups) m' S w'/\VR (dR g ups) m' S v cv:=by
 unfold Am at k;split at k
 .rename_i e kl l O c hd;have T:=bind_some k;clear k;obtain ⟨q,a,k⟩:=T;obtain ⟨n,U,F,a⟩:=dQ y a;split at k
  .rename_i f;simp only [τ] at f;have D:=f.2;have f:=f.1;have o:=gI f.1.1;have G:=gG f.2;rw [Tt _ _ _ _ D] at k;cases k;obtain ⟨s,j⟩:=dG j;obtain ⟨C,j⟩:=dG j;obtain ⟨K,_⟩:=dG j;have s:0<=l:=of_decide_eq_true s;have C:l=c:=of_decide_eq_true C;have K:l<=2^40:=of_decide_eq_true K;subst C;simp only [VR,PR] at L I;subst L;subst I;rw [M.d_eq] at hd;have hd:=g_ hd;subst hd;have r:(n.bytes:Int)*l<=281474976710656:=by
    have E:(n.bytes:Int)<=128:=by rw [<- a.bytes];exact_mod_cast G
    have H:(n.bytes:Int)*l<=128*l:=Int.mul_le_mul_of_nonneg_right E s;have Q:(2:Int)^40=1099511627776:=by decide
    omega
   have u:l<=9223372036854775807:=by
    have Q:(2:Int)^40=1099511627776:=by decide
    omega
   have p:=run_make (P:=P) w t e n F M.und a.info a.zero kl O l l s (Int.le_refl _) r u;have A:bu g m S (gB l.toNat q.zero) (madeCells F.cells (l.toNat*n.size)).toList:=zH a _;have B:∀ x ∈ gB l.toNat q.zero,qQ x=true:=Lt a.zleaf;have N:=h.fresh (nid:=nid) R (jI nid (gB l.toNat q.zero) q.size).2 (by have E:=a.small;have H:=a.size;show q.size ≠ je;omega) l.toNat (w':=w.alloc (.cells (madeCells F.cells (l.toNat*n.size)) e)) (World.grownBy_alloc w _ none) (heap_alloc_new w _) (λ_=>rfl) (Xq7 _)
    (rest:= []) (by rw [Xqd]) (λhp=>gm _ A (um hp)) A (FQ A B) (λ_=> ⟨by rw [size_madeCells];simp [jI,a.size],by simp only [maxLen];omega⟩)
   refine ⟨_,_,_,p,N.1,N.2, ?_⟩;exact Vu (κ _) o (by have E:=a.small;have H:=a.size;omega)
  .cases k
 .cases k
theorem Jr {t e:TypeId} {i:TypeInfo} {z:Value} (f:P.underlying t=some (.slice e)) (h:P.info? e=some i) (b:i.zero=some z) {len:Nat} (c:len*i.size<=2^24) (h0:len*i.size ≠ 0) {parts:Array (Nat × Value)} {cells:Array Value}
  (hf:Instr.fill (λd=>some (d*i.size,i.size)) (madeCells z.cells (len*i.size)) parts.toList=some cells):
  (Instr.buildSlice t len parts).run P w= .ok (.slice (some ⟨w.heap.size,0,none⟩) len len) (w.alloc (.cells cells e)):=by
 have a:¬ (len*i.size>2^24):=by omega
 unfold madeCells at hf;simp only [Instr.buildSlice,Sem.run_bind,run_underlying f,Result.andThen_ok];simp [Go.sizeOf,typeInfo,h,zeroValue,b,h0,newRow];rw [if_neg (by simpa using a)];simp [hf]
theorem FK {t e:TypeId} {i:TypeInfo} (b:P.underlying t=some (.slice e)) (c:P.info? e=some i) {len:Nat} (h0:len*i.size=0) {parts:Array (Nat × Value)} {cells:Array Value}
  (hf:Instr.fill (λa=>some (a*i.size,i.size)) #[] parts.toList=some cells):
  (Instr.buildSlice t len parts).run P w= .ok (.slice (some ⟨w.heap.size,0,none⟩) len len) (w.alloc (.cells cells e)):=by
 simp [Instr.buildSlice,run_underlying b,Go.sizeOf,typeInfo,c,h0,newRow,Array.range_zero',hf]
theorem Bh (q:iy P ap) (h:b_ ap g m S w) {nid:Nat} (G:g nid=none) {t:Nat} {ti:TI} {i:TypeInfo} {d:TypeDesc} {z:Value} (B:FP P t ti i d z) {len:Nat} {ps:List (Nat × AV)} {qs:Array (Nat × Value)} (J:A_ g m S ps qs.toList)
  {v:AV} {ups:List (Nat × aU)} {bs:List Bool} (b:xw ap nid ti len ps=some (v,ups,bs)):
  ∃ cv m' w',(Instr.buildSlice t len qs).run P w= .ok cv w'/\b_ ap (dR g ups) m' S w'/\Fr g m S w (dR g ups) m' S w'/\VR (dR g ups) m' S v cv:=by
 unfold xw at b;split at b
 .rename_i e hd;have j:=bind_some b;clear b;obtain ⟨o,a,b⟩:=j;obtain ⟨u,K,H,a⟩:=dQ q a;split at b
  .rename_i f;simp only [τ] at f;have c:=gI f.1.1;have A:=gG f.1.2;have j:=bind_some b;clear b;obtain ⟨cs,n,b⟩:=j;cases b;rw [B.d_eq] at hd;have hd:=g_ hd;subst hd;have y:bu g m S (gB len o.zero) (madeCells H.cells (len*u.size)).toList:=zH a _;obtain ⟨k,p,r,I⟩:=sH _ qs.toList _ cs _ (vS (size:=o.size) J) y n;rw [a.size] at p;have l:(Instr.buildSlice t len qs).run P w= .ok (.slice (some ⟨w.heap.size,0,none⟩) len len) (w.alloc (.cells k e)):=by
    by_cases h0:len*u.size=0
    .exact FK B.und a.info h0 (by rw [h0] at p;simpa [madeCells,Array.range_zero'] using p)
    .exact Jr B.und a.info a.zero (by rw [<- a.size];exact A) h0 p
   have s:∀ x ∈ cs,qQ x=true:=H5 n (Lt a.zleaf);have C:k.size=len*u.size:=by rw [I,size_madeCells]
   have E:=h.fresh (nid:=nid) G (jI nid cs o.size).2 (by have D:=a.small;have F:=a.size;show o.size ≠ je;omega) len (w':=w.alloc (.cells k e)) (World.grownBy_alloc w _ none) (heap_alloc_new w _) (λ_=>rfl) (Xq7 _)
    (rest:= []) (by rw [Xqd]) (λhp=>gm _ r (um hp)) r (FQ r s) (λ_=> ⟨by rw [C];simp [jI,a.size],by
     have D:len<=len*o.size:=Nat.le_mul_of_pos_right _ c;have L:(2:Nat)^24=16777216:=by decide
     simp only [maxLen];omega⟩)
   refine ⟨_,_,_,l,E.1,E.2, ?_⟩;exact Vu (κ _) c (by have D:=a.small;have F:=a.size;omega)
  .cases b
 .cases b
theorem acu {d:TypeDesc} {k e:Nat} (h:lD P (some d)= .map k e):d= .map k e:=by cases d<;>simp [lD] at h;obtain ⟨rfl,rfl⟩:=h;rfl
theorem Xq {k:LK} {x y:AV} {u v:Value} (b:KW k x=true) (a:KW k y=true) (c:VR g m S x u) (d:VR g m S y v):
  wL k u v=some (FB x y)/\(FB x y=true->u=v)/\(∀ n,Instr.sameBits n u u=true)/\eG x= []:=by
 cases k<;>cases x<;>simp [KW] at b<;>cases y<;>simp [KW] at a<;>simp only [VR,PR] at c d<;>subst c<;>subst d
 .refine ⟨by simp [wL,FB,b,a],λh=> ?_,λn=>by simp [Instr.sameBits],rfl⟩;simp only [FB,beq_iff_eq] at h;rw [<- gy b,<- gy a,h]
 .refine ⟨by simp [wL,FB],λh=> ?_,λn=>by simp [Instr.sameBits],rfl⟩;simp only [FB,beq_iff_eq] at h;rw [h]
 .refine ⟨by simp [wL,FB,AX],λh=> ?_,λn=>by cases n<;>simp [Instr.sameBits,MapKept.bytes_beq],rfl⟩;simp only [FB,beq_iff_eq] at h;rw [h]
theorem qP:∀ {lks:List LK} {a b:List AV} {c d:List Value},pR lks a=true->pR lks b=true->bu g m S a c->bu g m S b d->
  dW lks c d=some (JU a b)/\(JU a b=true->c=d)/\(∀ n,∀ x ∈ c,Instr.sameBits n x x=true)/\cZ a= []
 | [],[],[],[],[],_,_,_,_=> ⟨rfl,λ_=>rfl,by simp,rfl⟩
 | k::lks,x::a,y::b,u::c,v::d,ha,hb,h1,h2=>by
  simp only [pR,τ] at ha hb;simp only [bu] at h1 h2;obtain ⟨o,q,r,p⟩:=Xq ha.1 hb.1 h1.1 h2.1;obtain ⟨l,i,f,j⟩:=qP ha.2 hb.2 h1.2 h2.2;refine ⟨by simp [dW,o,l,JU],λh=> ?_,λn z e=> ?_,by simp [cZ,p,j]⟩
  .simp only [JU,τ] at h;rw [q h.1,i h.2]
  .rcases List.mem_cons.1 e with rfl|e
   .exact r n
   .exact f n z e
 | [],_::_,_,_,_,ha,_,_,_=>by simp [pR] at ha
 |_::_,[],_,_,_,ha,_,_,_=>by simp [pR] at ha
 | [],[],_::_,_,_,_,hb,_,_=>by simp [pR] at hb
 |_::_,_::_,[],_,_,_,hb,_,_=>by simp [pR] at hb
 | [],[],[],_::_,_,_,_,h1,_=>by simp [bu] at h1
 | [],[],[],[],_::_,_,_,_,h2=>by simp [bu] at h2
 |_::_,_::_,_::_,[],_,_,_,h1,_=>by simp [bu] at h1
 |_::_,_::_,_::_,_::_,[],_,_,_,h2=>by simp [bu] at h2
def af5 (P:Program) (n:Nat) (t:TypeId) (lks:List LK):Prop:=
 ∀ (em:Bool) (d:Nat) (w:World) (xs:List Value),n<=d->dW lks xs xs=some true->(Instr.checkKey em d t (yB P t xs)).run P w= .ok () w
theorem xH {lks:List LK} {a:List Value} {r:Bool} (h:dW lks a a=some r):dW lks a a=some true:=by
 induction lks generalizing a r with
 |nil=>cases a<;>simp [dW] at h ⊢
 | cons k lks ih=>
  cases a with
  |nil=>simp [dW] at h
  | cons x a=>
   simp only [dW] at h ⊢;obtain ⟨c,e,h⟩:=bind_some h;rw [Xqq] at h;obtain ⟨d,hd,rfl⟩:=h;have b:wL k x x=some true:=by
    cases k<;>cases x<;>simp [wL] at e ⊢
    split at e
    .rename_i f;simp [f]
    .cases e
   simp [b,ih hd]
theorem uP {n:Nat} (v:∀ t lks,kL P n t=some lks->af5 P n t lks):∀ (fs:List Field) (off:Nat) (lks:List LK),BA P (kL P n) fs off=some lks->
  ∀ (em:Bool) (d:Nat) (w:World) (xs:List Value),n<=d->xs.length=off+lks.length->dW lks (xs.drop off) (xs.drop off)=some true->
   (forIn (m:=Sem) fs PUnit.unit λf _=>do
    if f.name ≠ "_" then Instr.checkKey em d f.type (<- part f.type xs.toArray f.offset)
    pure (ForInStep.yield PUnit.unit)).run P w= .ok PUnit.unit w
 | [],off,lks,hc,em,d,w,xs,hd,hx,h=>by simp
 | f ::fs,off,lks,hc,em,d,w,xs,hd,hx,h=>by
  simp only [BA] at hc;cases j:kL P n f.type with
  |none=>simp [j] at hc
  | some l=>
   simp only [j] at hc;split at hc
   .rename_i hcond;simp only [τ,Xqs] at hcond;obtain ⟨⟨u,k⟩,c⟩:=hcond;cases o:BA P (kL P n) fs (off+l.length) with
    |none=>simp [o] at hc
    | some l'=>
     simp only [o] at hc;cases hc;cases q:P.info? f.type with
     |none=>simp [q] at c
     |some i=>
      simp only [q] at c;have c:=aN c;have k:=aN k;have r:f.name ≠ "_" :=by intro e;rw [e] at u;exact absurd u (by decide)
      simp only [ν] at hx;obtain ⟨a,b,s,p,x⟩:=vH l l' _ _ true h;have s:=xH s;have p:=xH p;have y:=yt j q c xs off (by omega) w;have A:=v f.type l j em d w _ hd s;have z:=uP v fs (off+l.length) l' o em d w xs hd (by omega) (by simpa [Xjs,Nat.add_comm] using p);simp only [List.forIn_cons,Sem.run_bind,r,ne_eq,not_false_eq_true,if_true,Result.andThen_ok,k,y,A,Sem.run_pure];simpa using z
   .cases hc
theorem OZ:∀ (n:Nat) (t:TypeId) (lks:List LK),kL P n t=some lks->af5 P n t lks
 |0,_,_,h=>by simp [kL] at h
 | n +1,t,lks,h=>by
  intro e d w c hd b;obtain ⟨d,rfl⟩:∃ k,d=k+1:=⟨d - 1,by omega⟩
  have f:=tu _ _ _ _ b;unfold kL at h;cases a:P.underlying t with
  |none=>simp [a] at h
  | some ds=>
   unfold Instr.checkKey;simp only [Sem.run_bind,run_underlying a,Result.andThen_ok,yB,a];cases ds<;>simp only [a] at h<;>try cases h
   case struct fs=>
    split at h
    .cases h
    .have:=uP (OZ n) fs.toList 0 lks h e d w c (by omega) (by simp [f.1]) (by simpa using b);simp only [<- Array.forIn_toList];simpa using this
   all_goals (cases c.headD undef<;>simp)
theorem Iq (c:iy P ap) {t:Nat} {ti:TI} (f:ap.tyAt t=some ti) {a b:List AV} {h j:List Value} (d:ti.cmp=true) (e:pR ti.lks a=true) (n:pR ti.lks b=true) (o:bu g m S a h) (v:bu g m S b j) (p:∃ u,P.underlying t=some (.struct u)):
  (∀ k,(Instr.checkKey k 10000 t (.agg h.toArray)).run P w= .ok () w)/\(Op.equal t (.agg h.toArray) (.agg j.toArray)).run P w= .ok (JU a b) w:=by
 obtain ⟨u,p⟩:=p;rw [(Di c f).1] at d;rw [(Di c f).2] at e n;unfold adl at d;cases i:kL P 8 t with
 |none=>simp [i] at d
 |some l=>
  simp only [i,τ,Xqs] at d;have s:=IB d.1;rw [<- s] at e n;have q:=Ha 8 t l i 10000 w h j _ (by omega) (qP e n o v).1;have r:=λk=>OZ 8 t l i k 10000 w h (by omega) (xH (qP e e o o).1)
  simp only [yB,p] at q r;exact ⟨r,q⟩
theorem EG {ti:TI} {d:TypeDesc} (hd:ti.d=lD P (some d)) (hs:∀ fs,d ≠ .struct fs) {x:AV} {v:Value} (h:mF ti x=true) (a:VR g m S x v):MapKept.IsKey d v:=by
 unfold mF at h;rw [hd] at h;cases d<;>simp only [lD] at h<;>cases x<;>simp at h<;>simp only [VR,PR] at a<;>first|(exact absurd rfl (hs _))|(subst a;simp only [MapKept.IsKey])
 exact (gy h).symm
theorem ZN {ti:TI} {d:TypeDesc} (hd:ti.d=lD P (some d)) (hs:∀ fs,d ≠ .struct fs) {x y:AV} {u v:Value} (e:mF ti x=true) (c:mF ti y=true) (f:VR g m S x u) (h:VR g m S y v):Instr.sameNow d u v=some (wX x y):=by
 unfold mF at e c;rw [hd] at e c;cases d<;>simp only [lD] at e c<;>cases x<;>simp at e<;>cases y<;>simp at c<;>simp only [VR,PR] at f h<;>first|(exact absurd rfl (hs _))|(subst f;subst h;simp only [Instr.sameNow,wX])
 .rw [if_pos ((gy e).symm.trans (gy c))]
 .rename_i a b;congr 1;rw [Bool.eq_iff_iff,MapKept.bytes_beq];simp
theorem IG (h:b_ ap g m S w) {rd:dK} (n:∀ b B,rd b=some B->g b=some B) {x:AV} {u:Value} (p:VR g m S x u) {q:List AV × List AV} (a:aaL rd x=some q):
  ∃ es:Array MapEntry,((u= .map none/\es=#[])\/∃ b d,u= .map (some b)/\w.heap[b]? =some (.map es d))/\bu g m S q.1 (es.toList.map (·.key))/\bu g m S q.2 (es.toList.map (·.val)):=by
 unfold aaL at a;split at a
 .rename_i ks vs;cases a;simp only [VR,PR] at p;rcases p with ⟨rfl,rfl,rfl⟩|⟨b,z,v,rfl,h0,E,t,s⟩
  .exact ⟨#[],.inl ⟨rfl,rfl⟩,by simp [bu],by simp [bu]⟩
  .obtain ⟨es,d,o,j⟩:=yH (h.sealed _ _ _ h0) rfl;obtain ⟨D,clk',l,i⟩:=yH (h.sealed _ _ _ E) rfl;rw [o] at l;cases l;have j:Value.agg (es.map (·.key))= .agg z.toArray:=Option.some.inj j;have i:Value.agg (es.map (·.val))= .agg v.toArray:=Option.some.inj i;have j:=Value.agg.inj j;have i:=Value.agg.inj i;refine ⟨es,.inr ⟨b,d,rfl,o⟩, ?_, ?_⟩
   .rw [<- Array.toList_map,j];exact bU _ t
   .rw [<- Array.toList_map,i];exact bU _ s
 .rename_i b ver;have F:=bind_some a;clear a;obtain ⟨B,y,a⟩:=F;split at a
  .rename_i f;simp only [τ] at f;split at a
   .rename_i ks vs hcells;cases a;simp only [VR] at p;obtain ⟨B',k,_,_,q⟩:=p;rw [n b B y] at k;cases k;have q:=q (aN f.1);obtain ⟨⟨cur,e,A,rest,C,r,_,c,_,_⟩,_,_⟩:=h.blk b B (n b B y);obtain ⟨es,d,o,rfl⟩:=C.map (aN f.2);rw [hcells] at c
    match A,c with
    | [u0,u1],c=>
     simp only [bu,VR,and_true] at c;obtain ⟨⟨z,rfl,t⟩,v,rfl,s⟩:=c;simp only [Ap,Xqt,List.cons.injEq] at r;have j:=Value.agg.inj r.1;have i:=Value.agg.inj r.2.1;refine ⟨es,.inr ⟨_,d,q,o⟩, ?_, ?_⟩
     .rw [<- Array.toList_map,j];exact t
     .rw [<- Array.toList_map,i];exact s
    | [],c=>simp [bu] at c
    | [_],c=>simp [bu] at c
    |_::_::_::_,c=>simp [bu] at c
   .cases a
  .cases a
 .cases a
structure acY (P:Program) (g:dK) (m:aW) (S:aO) (w:World) (t:Nat) (ti:TI) (d:TypeDesc) (k:AV) (ck:Value):Prop where
 chk:∀ em,(Instr.checkKey em 10000 t ck).run P w= .ok () w
 stay:(Instr.keyThatStays ck ck).run P w= .ok ck w
 eqs:∀ {k' ck'},mF ti k'=true->VR g m S k' ck'->((match d with| .struct _=>(Op.equal t ck ck').run P w= .ok (wX k k') w|_=>Instr.sameNow d ck ck'=some (wX k k'))/\(wX k k'=true->ck=ck'))
theorem KX (y:iy P ap) {t:Nat} {ti:TI} {i:TypeInfo} {d:TypeDesc} {z:Value} (C:ap.tyAt t=some ti) (u:FP P t ti i d z) {k:AV} {ck:Value} (q:mF ti k=true) (B:VR g m S k ck):acY P g m S w t ti d k ck:=by
 by_cases hs:∃ o,d= .struct o
 .obtain ⟨o,rfl⟩:=hs;have hd:=u.d_eq;have L:∀ {x:AV},mF ti x=true->∃ l,x= .agg l/\ti.cmp=true/\pR ti.lks l=true:=by
   intro x n;unfold mF at n;rw [hd] at n;cases x<;>simp [lD] at n
   exact ⟨_,rfl,n⟩
  obtain ⟨l,rfl,H,v⟩:=L q;have V:=B;simp only [VR] at B;obtain ⟨F,rfl,n⟩:=B;refine ⟨(Iq y C H v v n n ⟨o,u.und⟩).1, ?_, ?_⟩
  .have U:Instr.sameBits 10000 (.agg F.toArray) (.agg F.toArray)=true:=by
    show Instr.sameBits (9999+1) _ _=true;have T:=(qP v v n n).2.2.1 9999;simp only [Instr.sameBits,beq_self_eq_true,Bool.true_and,List.all_eq_true];intro p hp;obtain ⟨a,b⟩:=p;have M:∀ l:List Value,(a,b) ∈ l.zip l->a=b/\a ∈ l:=by
     intro l
     induction l with
     |nil=>intro h;simp at h
     |cons c l ih=>
      intro h;simp only [List.zip_cons_cons,List.mem_cons,Prod.mk.injEq] at h;rcases h with ⟨rfl,rfl⟩|h
      .exact ⟨rfl,by simp⟩
      .exact ⟨(ih h).1,List.mem_cons_of_mem _ (ih h).2⟩
    obtain ⟨rfl,N⟩:=M F hp;exact T a N
   simp [Instr.keyThatStays,U]
  .intro R E f j;obtain ⟨W,rfl,_,D⟩:=L f;simp only [VR] at j;obtain ⟨X,rfl,J⟩:=j;refine ⟨(Iq y C H v D n J ⟨o,u.und⟩).2,λG=> ?_⟩;rw [(qP v D n J).2.1 G]
 .have hs:∀ o,d ≠ .struct o:=λo e=>hs ⟨o,e⟩
  have s:=EG u.d_eq hs q B;refine ⟨λO=>MapKept.run_checkKey u.und s O 9999,MapKept.run_keyThatStays s, ?_⟩;intro R E f j;have K:=ZN u.d_eq hs q f B j;have Q:=MapKept.sameNow_of_keys s (EG u.d_eq hs f j);refine ⟨?_,λG=> ?_⟩
  .cases d<;>first|exact K|exact absurd rfl (hs _)
  .obtain ⟨r,I,A⟩:=Q;rw [K] at I;cases I;exact A.1 G
def lF (P:Program) (w:World) (t:Nat) (d:TypeDesc) (ck:Value) (l:List MapEntry) (i:Nat) (r:Option (Nat × Value)):Prop:=
 match d with
 | .struct _=>(Instr.findAsking t ck l i).run P w= .ok r w
 |_=>Instr.findNow d ck l i=some r
theorem lF.nil {t:Nat} {d:TypeDesc} {ck:Value} {i:Nat}:lF P w t d ck [] i none:=by
 unfold lF;cases d<;>first|rfl|simp [Instr.findAsking]
theorem lF.hit {t:Nat} {ti:TI} {d:TypeDesc} {k a:AV} {ck:Value} {e:MapEntry} {l:List MapEntry} {i:Nat} (h:acY P g m S w t ti d k ck) (b:mF ti a=true) (c:VR g m S a e.key) (f:wX k a=true):lF P w t d ck (e::l) i (some (i,e.val)):=by
 have q:=(h.eqs b c).1;rw [f] at q;unfold lF;cases d<;>simp only at q ⊢ <;>first|(simp [Instr.findAsking,q];done)|(simp [Instr.findNow,q];done)
theorem lF.miss {t:Nat} {ti:TI} {d:TypeDesc} {k b:AV} {ck:Value} {e:MapEntry} {l:List MapEntry} {i:Nat} {r:Option (Nat × Value)} (h:acY P g m S w t ti d k ck) (c:mF ti b=true) (f:VR g m S b e.key) (j:wX k b=false) (a:lF P w t d ck l (i+1) r):lF P w t d ck (e::l) i r:=by
 have q:=(h.eqs c f).1;rw [j] at q;unfold lF at a ⊢;cases d<;>simp only at q a ⊢ <;>first|(simp [Instr.findAsking,q,a];done)|(simp [Instr.findNow,q,a];done)
theorem lF.run {t:Nat} {ti:TI} {i:TypeInfo} {d:TypeDesc} {z:Value} (b:FP P t ti i d z) {ck:Value} {l:List MapEntry} {r:Option (Nat × Value)} (h:lF P w t d ck l 0 r):(Instr.findKey t ck l).run P w= .ok r w:=by
 by_cases hs:∃ a,d= .struct a
 .obtain ⟨a,rfl⟩:=hs;simp only [lF] at h;cases l with
  |nil=>
   simp [Instr.findAsking] at h;subst h;simp [Instr.findKey,run_underlying b.und,Result.andThen,Instr.findNow]
  |cons e l=>
   simp only [Instr.findKey,Sem.run_bind,run_underlying b.und,Result.andThen_ok,Instr.findNow,Instr.sameNow];exact h
 .have hs:∀ a,d ≠ .struct a:=λa e=>hs ⟨a,e⟩
  refine MapKept.run_findKey b.und ?_;unfold lF at h;cases d<;>first|exact h|exact absurd rfl (hs _)
theorem xK {t:Nat} {ti:TI} {d:TypeDesc} {k v:AV} {ck cv:Value} (c:acY P g m S w t ti d k ck) (p:VR g m S v cv):∀ (l:List MapEntry) (ks vs:List AV) (i:Nat),bu g m S ks (l.map (·.key))->bu g m S vs (l.map (·.val))->ks.all (mF ti)=true->
  (lF P w t d ck l i none/\dO ks vs k=none/\ks.any (wX k)=false/\oQ ks vs k v=vs++ [v])\/
  ∃ j e x,lF P w t d ck l i (some (i+j,e.val))/\l[j]? =some e/\e.key=ck/\dO ks vs k=some x/\VR g m S x e.val/\ks.any (wX k)=true/\bu g m S (oQ ks vs k v) ((l.set j {e with key:=ck,val:=cv}).map (·.val))
 | [],ks,vs,i,h1,h2,_=>by
  cases ks with
  |cons _ _=>simp [bu] at h1
  |nil=>
   cases vs with
   |cons _ _=>simp [bu] at h2
   |nil=>exact .inl ⟨lF.nil,rfl,rfl,rfl⟩
 | e ::l,ks,vs,i,h1,h2,ha=>by
  cases ks with
  |nil=>simp [bu] at h1
  | cons k0 ks=>
   cases vs with
   |nil=>simp [bu] at h2
   | cons v0 vs=>
    simp only [Xqg,bu] at h1 h2;simp only [Xzr,τ] at ha;cases a:wX k k0 with
    |true=>
     have b:e.key=ck:=((c.eqs ha.1 h1.1).2 a).symm;refine .inr ⟨0,e,v0,lF.hit c ha.1 h1.1 a,rfl,b, ?_,h2.1, ?_, ?_⟩
     .simp [dO,a]
     .simp [a]
     .simp only [oQ,a,List.set_cons_zero,Xqg,bu];exact ⟨p,h2.2⟩
    | false=>
     rcases xK c p l ks vs (i+1) h1.2 h2.2 ha.2 with ⟨f,o,n,h⟩|⟨j,e',x,f,o,n,h,r,s,q⟩
     .refine .inl ⟨lF.miss c ha.1 h1.1 a f, ?_, ?_, ?_⟩
      .simp [dO,a,o]
      .simp only [Xvj,a,n];rfl
      .simp [oQ,a,h]
     .refine .inr ⟨j+1,e',x, ?_,by simpa using o,n, ?_,r, ?_, ?_⟩
      .rw [show i+(j+1)=i+1+j by omega];exact lF.miss c ha.1 h1.1 a f
      .simp [dO,a,h]
      .simp only [Xvj,a,s];rfl
      .simp only [oQ,a,List.set_cons_succ,Xqg,bu];exact ⟨h2.1,q⟩
theorem EI {ok:Bool} {o:Option AV} {z:AV} {u c:Value} {b:Bool} (h:(o=none/\u=c/\b=false)\/∃ x,o=some x/\VR g m S x u/\b=true) (e:VR g m S z c):VR g m S (PP ok o z) (if ok then .tuple #[u,.bool b] else u):=by
 have a:VR g m S (o.getD z) u/\o.isSome=b:=by
  rcases h with ⟨rfl,rfl,rfl⟩|⟨x,rfl,d,rfl⟩
  .exact ⟨e,rfl⟩
  .exact ⟨d,rfl⟩
 cases ok with
 |true=>
  simp only [PP,if_true,VR];refine ⟨[u,.bool b],rfl, ?_⟩;simp only [bu,VR,PR,and_true];exact ⟨a.1,by rw [a.2]⟩
 |false=>simpa [PP] using a.1
theorem JW (n:iy P ap) (h:b_ ap g m S w) {rd:dK} (G:∀ b B,rd b=some B->g b=some B) {t:Nat} {ti:TI} {i:TypeInfo} {d:TypeDesc} {z:Value} (A:FP P t ti i d z) {x k v:AV} {J ck:Value} (T:VR g m S x J) (I:VR g m S k ck) {ok:Bool}
  {ups:List (Nat × aU)} {bs:List Bool} (c:NJ ap ti rd x k ok=some (v,ups,bs)) (o:∀ b ∈ bs,b=true):
  ups= []/\∃ cv,(Instr.lookup t J ck ok).run P w= .ok cv w/\VR g m S v cv:=by
 unfold NJ at c;split at c
 .rename_i Y X hd;have r:=bind_some c;clear c;obtain ⟨V,a,c⟩:=r;have r:=bind_some c;clear c;obtain ⟨te,f,c⟩:=r;have r:=bind_some c;clear c;obtain ⟨q,r,c⟩:=r;have E:=bind_some c;clear c;obtain ⟨K,F,c⟩:=E;obtain ⟨rfl,rfl,rfl⟩:=aS c;have D:=a;obtain ⟨Z,dk,zk,a⟩:=dQ n a;obtain ⟨ie,W,U,f⟩:=dQ n f;rw [A.d_eq] at hd;have hd:=acu hd;subst hd;obtain ⟨Q,o⟩:=dG o;obtain ⟨R,_⟩:=dG o;obtain ⟨es,s,v1,N⟩:=IG h G T r;have l:=KX (w:=w) n D a Q I;have u:VR g m S K U:=Aq f F;refine ⟨rfl, ?_⟩;rcases xK l I es.toList q.1 q.2 0 v1 N R with ⟨p,O,_,_⟩|⟨j,e,y,p,_,_,L,M,_,_⟩
  .refine ⟨_, ?_,EI (.inl ⟨O,rfl,rfl⟩) u⟩;rcases s with ⟨rfl,rfl⟩|⟨b,H,rfl,C⟩
   .simp [Instr.lookup,run_underlying A.und,l.chk,p.run a,zeroValue,typeInfo,f.info,f.zero,Result.andThen]
   .simp [Instr.lookup,run_underlying A.und,MapKept.run_getObj_map C,l.chk,p.run a,zeroValue,typeInfo,f.info,f.zero,Result.andThen]
  .refine ⟨_, ?_,EI (.inr ⟨y,L,M,rfl⟩) u⟩;rcases s with ⟨rfl,rfl⟩|⟨b,H,rfl,C⟩
   .have p:=p.run a;simp [Instr.findKey,run_underlying a.und,Result.andThen,Instr.findNow] at p
   .simp [Instr.lookup,run_underlying A.und,MapKept.run_getObj_map C,l.chk,p.run a,Result.andThen]
 .cases c
mutual
theorem Ux {S:aO}:∀ (x:AV) {v:Value},PR S x v->eG x= []
 | .int _ _,_,_=>rfl
 | .bool _,_,_=>rfl
 | .str _,_,_=>rfl
 | .nilS,_,_=>rfl
 | .nilP,_,_=>rfl
 | .nilF,_,_=>rfl
 | .nilI,_,_=>rfl
 | .sl _ _ _,_,_=>rfl
 | .pp _ _,_,_=>rfl
 | .mp _ _,_,_=>rfl
 | .dead,_,_=>rfl
 | .own _ _ _,_,p=>by simp only [PR] at p
 | .ref _ _ _ _,_,p=>by simp only [PR] at p
 | .ptr _ _ _,_,p=>by simp only [PR] at p
 | .mr _ _,_,p=>by simp only [PR] at p
 | .agg l,_,p=>by
  simp only [PR] at p;simp only [eG];obtain ⟨_,_,q⟩:=p;exact t_ l q
 | .tup l,_,p=>by
  simp only [PR] at p;simp only [eG];obtain ⟨_,_,q⟩:=p;exact t_ l q
 | .fn f a c,_,p=>by
  simp only [PR] at p;simp only [eG];obtain ⟨_,_,_,q,r⟩:=p;rw [t_ a q,t_ c r];rfl
 | .ifc t x,_,p=>by
  simp only [PR] at p;simp only [eG];obtain ⟨_,_,q⟩:=p;exact Ux x q
theorem t_ {S:aO}:∀ (l:List AV) {vs:List Value},bT S l vs->cZ l= []
 | [],_,_=>rfl
 |x::r,v::vs,p=>by simp only [bT] at p;simp only [cZ,Ux x p.1,t_ r p.2,Xqd]
 |_::_,[],p=>by simp [bT] at p
end
theorem Ld (h:b_ ap g m S w) {b:Nat} {B:aU} {a:Array MapEntry} {clk':Nat} {k:Nat} {w':World} (p:w'.heap[k]? =some (.map a clk')) (d:B.esz=je) {ks vs:List AV} (i:B.cells= [.agg ks,.agg vs]) (o:bu g m S ks (a.toList.map (·.key))) (n:bu g m S vs (a.toList.map (·.val))) (hp:B.pr=true->cZ vs= []/\cZ ks= []) (f:B.fro=false->B.fz=0) (e:B.fz<=2) (c:Nat):Ws g m S w' B k c:=by
 refine ⟨⟨Ap a,0,[.agg (a.map (·.key)),.agg (a.map (·.val))],[],.inr ⟨d,a,clk',p,rfl⟩,rfl, ?_, ?_,λl=>absurd d l,λ_ l=>absurd d l⟩,f,by rw [i];exact e⟩
 .intro j;obtain ⟨q,r⟩:=hp j;rw [i];simp only [bT,PR,and_true];exact ⟨⟨(a.map (·.key)).toList,by rw [Array.toArray_toList],by rw [Array.toList_map];exact gm _ o r⟩,(a.map (·.val)).toList,by rw [Array.toArray_toList],by rw [Array.toList_map];exact gm _ n q⟩
 .rw [i];simp only [bu,VR,and_true];exact ⟨⟨(a.map (·.key)).toList,by rw [Array.toArray_toList],by rw [Array.toList_map];exact o⟩,(a.map (·.val)).toList,by rw [Array.toArray_toList],by rw [Array.toList_map];exact n⟩
theorem JX (h:b_ ap g m S w) {nid:Nat} (c:g nid=none) (t:Nat):
  ∃ cv m' w',(Instr.makeMap t none).run P w= .ok cv w'/\b_ ap (dR g [(nid,⟨[.agg [],.agg []],0,false,0,je,true⟩)]) m' S w'/\Fr g m S w (dR g [(nid,⟨[.agg [],.agg []],0,false,0,je,true⟩)]) m' S w'/\VR (dR g [(nid,⟨[.agg [],.agg []],0,false,0,je,true⟩)]) m' S (.mr nid 0) cv:=by
 have a:=h.put nid ⟨[.agg [],.agg []],0,false,0,je,true⟩ w.heap.size 0 (w':=w.alloc (.map #[] 0)) (.inl (κ _)) (World.grownBy_alloc w _ _)
  (Ld h (b:=nid) (heap_alloc_new w _) rfl rfl (by simp [bu]) (by simp [bu]) (λ_=> ⟨rfl,rfl⟩) (λ_=>rfl) (Xq7 _) 0)
  (λB0 h0=>by rw [c] at h0;cases h0) (λo v d=>absurd (h.seal_lt d) (Xkc _))
 refine ⟨.map (some w.heap.size),_,_, ?_,a.1,a.2, ?_⟩
 .simp [Instr.makeMap,Result.andThen]
 .simp only [VR];exact ⟨_,qp _ _ _,κ _,⟨_,rfl⟩,λ_=>by simp [lU]⟩
theorem Ip:∀ (lks:List LK) (l:List AV),pR lks l=true->cZ l= []
 | [],[],_=>rfl
 |k::lks,x::l,h=>by
  simp only [pR,τ] at h;have a:eG x= []:=by cases k<;>cases x<;>first|rfl|(have:=h.1;simp [KW] at this)
  simp only [cZ,a,Ip lks l h.2,Xqd]
 | [],_::_,h=>by simp [pR] at h
 |_::_,[],h=>by simp [pR] at h
theorem Eb:∀ (l:List AV) (ti:TI),l.all (mF ti)=true->cZ l= []
 | [],_,_=>rfl
 | x::r,ti,h=>by
  simp only [Xzr,τ] at h;have b:eG x= []:=by
   have a:=h.1;unfold mF at a;split at a<;>first|rfl|(cases a;done)|skip
   simp only [τ] at a;simp only [eG];exact Ip _ _ a.2
  simp only [cZ,b,Eb r ti h.2,Xqd]
theorem Je:∀ (ks vs:List AV) (k v:AV),cZ vs= []->eG v= []->cZ (oQ ks vs k v)= []
 | [],_,k,v,_,h2=>by simp [oQ,cZ,h2]
 |_::_,[],k,v,_,h2=>by simp [oQ,cZ,h2]
 |k0::ks,v0::vs,k,v,h1,h2=>by
  simp only [cZ,Xzy] at h1;simp only [oQ];split
  .simp [cZ,h1.2,h2]
  .simp [cZ,h1.1,Je ks vs k v h1.2 h2]
theorem zS (K:iy P ap) (h:b_ ap g m S w) {rd:dK} (N:∀ b B,rd b=some B->g b=some B) {t:Nat} {ti:TI} {i:TypeInfo} {d:TypeDesc} {z:Value} (W:FP P t ti i d z) {x k v r:AV} {cx ck cv:Value} (hx:VR g m S x cx) (hk:VR g m S k ck) (hv:VR g m S v cv)
  {ups:List (Nat × aU)} {bs:List Bool} (f:Gw ap ti rd x k v=some (r,ups,bs)) (F:∀ b ∈ bs,b=true):
  r= .dead/\∃ D w',(Instr.mapUpdate t cx ck cv).run P w= .ok () w'/\b_ ap (dR g ups) D S w'/\Fr g m S w (dR g ups) D S w':=by
 unfold Gw at f;split at f
 .rename_i kt et b ver hd;have Y:=bind_some f;clear f;obtain ⟨tk,p,f⟩:=Y;have Y:=bind_some f;clear f;obtain ⟨B,hB,f⟩:=Y;split at f
  .rename_i l;simp only [τ,Xqs] at l;split at f
   .rename_i ks vs hcells;cases f;have U:=p;obtain ⟨ik,dk,zk,p⟩:=dQ K p;rw [W.d_eq] at hd;have hd:=acu hd;subst hd;obtain ⟨b1,F⟩:=dG F;obtain ⟨b2,_⟩:=dG F;have a:=N b B hB;have hz:=aN l.1.2;have X:aaL rd (.mr b ver)=some (ks,vs):=by
     unfold aaL;simp only [hB,Option.bind_some,l.1.1,l.1.2,Bool.and_self,hcells]
    obtain ⟨es,Z,v1,v2⟩:=IG h N hx X;have C:=KX (w:=w) K U p b1 hk;simp only [VR] at hx;obtain ⟨B',M,_,_,q⟩:=hx;rw [a] at M;cases M;have q:=q (aN l.1.1);subst q;rcases Z with ⟨e,_⟩|⟨b0,H,e,O⟩
    .cases e
    cases e;have R:(m b).1<w.heap.size:=h.lt a;obtain ⟨_,k7,k8⟩:=h.blk b B a;have key:∀ (c:Array MapEntry) (clk':Nat),bu g m S (vT ks k) (c.toList.map (·.key))->bu g m S (oQ ks vs k v) (c.toList.map (·.val))->
      ∃ D,b_ ap (dR g [(b,{B with cells:= [.agg (vT ks k),.agg (oQ ks vs k v)],pr:=B.pr && (eG v).isEmpty})]) D S {w with heap:=w.heap.setIfInBounds (m b).1 (.map c clk')}/\Fr g m S w (dR g [(b,{B with cells:= [.agg (vT ks k),.agg (oQ ks vs k v)],pr:=B.pr && (eG v).isEmpty})]) D S {w with heap:=w.heap.setIfInBounds (m b).1 (.map c clk')}:=by
     intro c clk' w1 w2;have E:=h.put b {B with cells:= [.agg (vT ks k),.agg (oQ ks vs k v)],pr:=B.pr && (eG v).isEmpty} (m b).1 (m b).2 (w':={w with heap:=w.heap.setIfInBounds (m b).1 (.map c clk')})
      (.inr ⟨B,a,rfl⟩) ⟨rfl,rfl,rfl,by simp,λk' _ hk'=>by simp [show (m b).1 ≠ k' from λe=>hk' (by rw [e])]⟩
      (Ld h (b:=b) (B:={B with cells:= [.agg (vT ks k),.agg (oQ ks vs k v)],pr:=B.pr && (eG v).isEmpty}) (w':={w with heap:=w.heap.setIfInBounds (m b).1 (.map c clk')}) (k:=(m b).1) (clk':=clk') (by simp [R]) hz rfl w1 w2 (λs=>by
       have s:(B.pr && (eG v).isEmpty)=true:=s;simp only [τ] at s;obtain ⟨⟨cur,e,us,rest,k1,k2,k3,k4,_,_⟩,_,_⟩:=h.blk b B a;have hr:cZ B.cells= []:=t_ _ (k3 s.1);rw [hcells] at hr;simp only [cZ,eG,Xqd,Xzy] at hr;refine ⟨Je _ _ _ _ hr.2 (um s.2), ?_⟩;have L:=Eb ks _ b2;unfold vT;split
       .exact L
       .rw [vX,L];exact Eb [k] tk (by simp [b1])) k7 (by rw [hcells] at k8;exact k8) (m b).2)
      (λB0 h0=>by rw [a] at h0;cases h0;exact ⟨rfl,.inl ⟨rfl,rfl⟩⟩)
      (λo u hu=>by
       have:=(h.own b B a o u hu).1;rw [l.2] at this;cases this)
     exact ⟨_,E.1,E.2⟩
    refine ⟨rfl, ?_⟩;rcases xK C hv es.toList ks vs 0 v1 v2 b2 with ⟨Q,r2,r3,r4⟩|⟨j,e,y,Q,V,rk,r4,r5,r6,r7⟩
    .obtain ⟨D,s1,T⟩:=key (es.push {key:=ck,val:=cv,born:=H}) (H+1)
      (by unfold vT;rw [r3,Array.toList_push,Xq5];exact iq v1 (by simp only [Xqg,Xjh,bu,and_true];exact hk))
      (by rw [r4,Array.toList_push,Xq5];exact iq v2 (by simp only [Xqg,Xjh,bu,and_true];exact hv))
     refine ⟨D,_, ?_,s1,T⟩;simp [Instr.mapUpdate,run_underlying W.und,MapKept.run_getObj_map O,C.chk,Q.run p,MapKept.run_setObj_map _ O,Result.andThen]
    .have A:es[j]? =some e:=by simpa using V
     have I:(es.modify j λe=> {e with key:=ck,val:=cv}).toList=es.toList.set j {e with key:=ck,val:=cv}:=by
      apply Xwm;intro n;simp only [Array.getElem?_toList,Array.getElem?_modify,Xz6];by_cases hjn:j=n
      .subst hjn;have G:j<es.toList.length:=(List.getElem?_eq_some_iff.1 V).1;rw [if_pos rfl,if_pos rfl,if_pos G,A];rfl
      .rw [if_neg hjn,if_neg hjn]
     obtain ⟨D,s1,T⟩:=key (es.modify j λe=> {e with key:=ck,val:=cv}) H
      (by
       unfold vT;rw [r6,I];have:(es.toList.set j {e with key:=ck,val:=cv}).map (·.key)=es.toList.map (·.key):=by
        apply Xwm;intro n;simp only [Xqw,Xz6];by_cases hjn:j=n
        .subst hjn;have G:j<es.toList.length:=(List.getElem?_eq_some_iff.1 V).1;have J:j<es.size:=by simpa using G
         have hge:es[j]=e:=by rw [Array.getElem?_eq_getElem J] at A;exact Option.some.inj A
         simp [J,hge,rk]
        .simp [hjn]
       rw [this];exact v1)
      (by rw [I];exact r7)
     refine ⟨D,_, ?_,s1,T⟩;rw [Δ] at Q;simp [Instr.mapUpdate,run_underlying W.und,MapKept.run_getObj_map O,C.chk,Q.run p,A,rk,C.stay,MapKept.run_setObj_map _ O,Result.andThen]
   .cases f
  .cases f
 .cases f
end
end AM
namespace AM
open Go
section
variable {P:Program} {ap:AP} {g:dK} {m:aW} {S:aO} {w:World}
theorem yF {ρ:Operand->AV} {cρ:Operand->Value}:∀ (l:List Operand),(∀ o ∈ l,VR g m S (ρ o) (cρ o))->bu g m S (l.map ρ) (l.map cρ)
 | [],_=>by simp [bu]
 |o::r,h=>by simp only [Xqg,bu];exact ⟨h o (by simp),yF r λo a=>h o (by simp [a])⟩
theorem GI {ρ:Operand->AV} {cρ:Operand->Value}:∀ (l:List (Nat × Operand)),(∀ o ∈ l.map (·.2),VR g m S (ρ o) (cρ o))->A_ g m S (l.map λ(i,x)=>(i,ρ x)) (l.map λ(i,x)=>(i,cρ x))
 | [],_=>by simp [A_]
 |(i,o)::r,h=>by simp only [Xqg,A_];exact ⟨trivial,h o (by simp),GI r λo a=>h o (by simp [a])⟩
def jl (P:Program) (ap:AP) (g:dK) (m:aW) (S:aO) (w:World) (s:Sem Next) (v:AV) (ups:List (Nat × aU)):Prop:=
 ∃ nx m' w',s.run P w= .ok nx w'/\b_ ap (dR g ups) m' S w'/\Fr g m S w (dR g ups) m' S w'/\((∃ cv,nx= .value cv/\VR (dR g ups) m' S v cv)\/(nx= .skip/\v= .dead))
theorem jl.pur (h:b_ ap g m S w) {s:Sem Value} {v:AV} {ups:List (Nat × aU)} (hs:ups= []/\∃ cv,s.run P w= .ok cv w/\VR g m S v cv):jl P ap g m S w (do pure (.value (<- s))) v ups:=by
 obtain ⟨rfl,cv,a,b⟩:=hs;exact ⟨.value cv,m,w,by simp [a],by rw [fP];exact h,by rw [fP];exact Fr.refl _ _ _ _,.inl ⟨cv,rfl,by rw [fP];exact b⟩⟩
theorem jl.full {s:Sem Value} {v:AV} {ups:List (Nat × aU)} (hs:∃ cv a w',s.run P w= .ok cv w'/\b_ ap (dR g ups) a S w'/\Fr g m S w (dR g ups) a S w'/\VR (dR g ups) a S v cv):jl P ap g m S w (do pure (.value (<- s))) v ups:=by
 obtain ⟨cv,a,w',d,e,c,b⟩:=hs;exact ⟨.value cv,a,w',by simp [d],e,c,.inl ⟨cv,rfl,b⟩⟩
theorem jl.val (h:b_ ap g m S w) {s:Sem Next} {v:AV} {cv:Value} (hs:s.run P w= .ok (.value cv) w) (a:VR g m S v cv):jl P ap g m S w s v []:=
 ⟨.value cv,m,w,hs,by rw [fP];exact h,by rw [fP];exact Fr.refl _ _ _ _,.inl ⟨cv,rfl,by rw [fP];exact a⟩⟩
theorem Gz {ρ:Operand->AV} {cρ:Operand->Value} (x:Option Operand) (h:∀ o ∈ x.toArray,VR g m S (ρ o) (cρ o)):Gy g m S (x.map ρ) (x.map cρ):=by
 cases x with
 |none=>simp [Gy]
 |some o=>simp only [Xjm,Gy];exact h o (by simp)
theorem O3 (a:iy P ap) {t:Nat} {ti:TI} (h:ap.tyAt t=some ti) (hd:ti.d ≠ .iface):P.concrete t=true:=by
 obtain ⟨i,d,z,b⟩:=dQ a h;have:=b.d_eq;simp only [Program.concrete,b.und];cases d<;>simp_all [lD]
set_option maxHeartbeats 1000000 in
theorem XL (j:iy P ap) (D:b_ ap g m S w) {nid:Nat} (W:g nid=none) {ρ:Operand->AV} {cρ:Operand->Value} {rd:dK} (I:∀ b B,rd b=some B->g b=some B) (o:Oper) (hρ:∀ x ∈ o.op.operands,VR g m S (ρ x) (cρ x))
  {dec:Operand->Option Bool} (hdec:∀ x ∈ o.op.operands,∀ b,dec x=some b->cρ x= .bool b) {em:Bool} (hem:∀ n,BI ρ o.op=some n->Xqk n 0=em)
  {v:AV} {ups:List (Nat × aU)} {bs:List Bool} (h:opA ap nid ρ rd dec em o.op=some (v,ups,bs)) (hbs:∀ b ∈ bs,b=true):jl P ap g m S w (execOp cρ o) v ups:=by
 unfold opA at h;unfold execOp;split at h<;>rename_i heq<;>simp only [heq,Op.operands] at hρ hdec hem ⊢
 .obtain ⟨rfl,rfl,rfl⟩:=aS h;exact jl.val D (by simp) (hρ _ (by simp))
 .obtain ⟨rfl,rfl,rfl⟩:=aS h;exact jl.val D (by simp) (hρ _ (by simp))
 ·
  rename_i c a b;split at h
  .rename_i hd;obtain ⟨rfl,rfl,rfl⟩:=aS h;have:=hdec c (by simp) _ hd;exact jl.val D (by simp [this,asBool]) (hρ _ (by simp))
  .rename_i hd;obtain ⟨rfl,rfl,rfl⟩:=aS h;have:=hdec c (by simp) _ hd;exact jl.val D (by simp [this,asBool]) (hρ _ (by simp))
  .split at h
   .rename_i bc ba bb e1 e2 e3;obtain ⟨rfl,rfl,rfl⟩:=aS h;have F:=hρ c (by simp);have G:=hρ a (by simp);have L:=hρ b (by simp);rw [e1] at F;rw [e2] at G;rw [e3] at L;simp only [VR,PR] at F G L;refine jl.val D (cv:= .bool (cond bc ba bb)) ?_ (by simp only [VR,PR]);rw [F,G,L];cases bc<;>simp [asBool]
   .cases h
 ·
  rename_i e;have A:=bind_some h;clear h;obtain ⟨te,K,h⟩:=A;obtain ⟨ie,de,ze,C⟩:=dQ j K;split at h
  .rename_i O;simp only [τ] at O;cases h;obtain ⟨M,w',F,G,L,Y⟩:=Ky (P:=P) D W (cells:=te.zero) (cv:=ze) (ug C) C.zleaf (λu hu=>FQ (g:=g) (m:=m) (S:=S) (ug C) C.zleaf u (by simpa using hu)) e;refine jl.full ⟨.pointer (some ⟨w.heap.size,0,none⟩),M,w', ?_,G,L,Vq Y⟩;simp [Instr.alloc,zeroValue,typeInfo,C.info,C.zero,F]
  .cases h
 ·
  rename_i e x;have A:=bind_some h;clear h;obtain ⟨te,K,h⟩:=A;obtain ⟨ie,de,ze,C⟩:=dQ j K;simp only at h;split at h
  .rename_i O;simp only [τ] at O;cases h;have E:=hρ x (by simp);have hl:∀ y ∈ (ρ x).cells,qQ y=true:=λy hy=>List.all_eq_true.1 O.2 y hy
   obtain ⟨hv1,hv2⟩:=GR E hl;obtain ⟨M,w',F,G,L,Y⟩:=Ky (P:=P) D W (cells:=(ρ x).cells) (cv:=cρ x) hv1 hl hv2 e;refine jl.full ⟨.pointer (some ⟨w.heap.size,0,none⟩),M,w', ?_,G,L,Vq Y⟩;simp [Instr.box,F]
  .cases h
 ·
  rename_i t parts;have A:=bind_some h;clear h;obtain ⟨ti,q,h⟩:=A;obtain ⟨i,d,z,C⟩:=dQ j q;refine jl.pur D ?_;refine ML j C (qs:=parts.map λ(i,x)=>(i,cρ x)) ?_ h;rw [Array.toList_map];exact GI parts.toList λx E=>hρ x (by simpa using E)
 ·
  rename_i t len parts;have A:=bind_some h;clear h;obtain ⟨ti,q,h⟩:=A;obtain ⟨i,d,z,C⟩:=dQ j q;refine jl.full ?_;refine Bh j D W C (qs:=parts.map λ(i,x)=>(i,cρ x)) ?_ h;rw [Array.toList_map];exact GI parts.toList λx E=>hρ x (by simpa using E)
 ·
  rename_i t a;have A:=bind_some h;clear h;obtain ⟨ti,q,h⟩:=A;obtain ⟨i,d,z,C⟩:=dQ j q;exact jl.pur D (EJ D I C (hρ a (by simp)) h hbs)
 ·
  rename_i t a x;have A:=bind_some h;clear h;obtain ⟨ti,q,h⟩:=A;obtain ⟨i,d,z,C⟩:=dQ j q;have ha:=hρ a (by simp);have E:=hρ x (by simp);generalize cρ a=ca at ha ⊢;generalize cρ x=cx at E ⊢;obtain ⟨rfl,M,w',F,G,L⟩:=Ot D I C ha E h hbs;exact ⟨.skip,M,w',by simp [F],G,L,.inr ⟨rfl,rfl⟩⟩
 ·
  rename_i t r;split at h
  .cases h;obtain ⟨cv,M,w',F,G,L,Y⟩:=JX (P:=P) D W t;exact ⟨.value cv,M,w',by simp [F],G,L,.inl ⟨cv,rfl,Y⟩⟩
  .cases h
 ·
  rename_i t x k ok;have A:=bind_some h;clear h;obtain ⟨ti,q,h⟩:=A;obtain ⟨i,d,z,C⟩:=dQ j q;exact jl.pur D (JW j D I C (hρ x (by simp)) (hρ k (by simp)) h hbs)
 ·
  rename_i t x k v;have A:=bind_some h;clear h;obtain ⟨ti,q,h⟩:=A;obtain ⟨i,d,z,C⟩:=dQ j q;obtain ⟨rfl,M,w',F,G,L⟩:=zS j D I C (hρ x (by simp)) (hρ k (by simp)) (hρ v (by simp)) h hbs;exact ⟨.skip,M,w',by simp [F],G,L,.inr ⟨rfl,rfl⟩⟩
 ·
  rename_i t x k v;have A:=bind_some h;clear h;obtain ⟨ti,q,h⟩:=A;obtain ⟨i,d,z,C⟩:=dQ j q;obtain ⟨rfl,M,w',F,G,L⟩:=zS j D I C (hρ x (by simp)) (hρ k (by simp)) (hρ v (by simp)) h hbs;exact ⟨.skip,M,w',by simp [F],G,L,.inr ⟨rfl,rfl⟩⟩
 ·
  rename_i x;have E:=hρ x (by simp);split at h
  .rename_i b ver off e;rw [e] at E;obtain ⟨rfl,rfl,rfl⟩:=aS h;have H:=E;simp only [VR] at H;obtain ⟨_,_,_,⟨k,o,X⟩,_⟩:=H;exact jl.val D (cv:=cρ x) (by rw [X];simp) E
  .rename_i xs off e;rw [e] at E;obtain ⟨rfl,rfl,rfl⟩:=aS h;have H:=E;simp only [VR,PR] at H;obtain ⟨_,_,_,X,_⟩:=H;exact jl.val D (cv:=cρ x) (by rw [X];simp) E
  .rename_i f a c e;rw [e] at E;obtain ⟨rfl,rfl,rfl⟩:=aS h;have H:=E;simp only [VR] at H;obtain ⟨_,_,X,_⟩:=H;exact jl.val D (cv:=cρ x) (by rw [X];simp) E
  .cases h
 ·
  rename_i op t x y _;have A:=bind_some h;clear h;obtain ⟨ti,q,h⟩:=A;exact jl.pur D (Ry j q (hρ x (by simp)) (hρ y (by simp)) h hbs x y)
 ·
  exact jl.pur D (Yr (hρ _ (by simp)) h)
 ·
  rename_i s d x;have A:=bind_some h;clear h;obtain ⟨ts,hts,h⟩:=A;have A:=bind_some h;clear h;obtain ⟨td,htd,h⟩:=A;exact jl.pur D (Hg j D I hts htd (hρ x (by simp)) h hbs)
 ·
  rename_i t x;have A:=bind_some h;clear h;obtain ⟨ti,q,h⟩:=A;split at h
  .cases h
  .rename_i hd;obtain ⟨rfl,rfl,rfl⟩:=aS h;refine jl.pur D ⟨rfl,.iface t (cρ x),run_makeInterface w t _ (O3 j q hd), ?_⟩;simp only [VR];exact ⟨_,rfl,hρ x (by simp)⟩
 ·
  rename_i f first cap
  obtain ⟨rfl,rfl,rfl⟩:=aS h;refine jl.pur D ⟨rfl,.func (.func f) (first.map cρ) (cap.map cρ),by simp [Instr.makeFunc], ?_⟩;simp only [VR];refine ⟨(first.map cρ).toList,(cap.map cρ).toList,by rw [Array.toArray_toList,Array.toArray_toList], ?_, ?_⟩
  .rw [Array.toList_map];exact yF _ λx E=>hρ x (by simp at E ⊢;exact .inl E)
  .rw [Array.toList_map];exact yF _ λx E=>hρ x (by simp at E ⊢;exact .inr E)
 ·
  rename_i t l c;have A:=bind_some h;clear h;obtain ⟨ti,q,h⟩:=A;obtain ⟨i,d,z,C⟩:=dQ j q;exact jl.full (DX j D W C (hρ l (by simp)) (hρ c (by simp)) h hbs)
 ·
  rename_i t x lo hi mx;have A:=bind_some h;clear h;obtain ⟨ti,q,h⟩:=A;obtain ⟨i,d,z,C⟩:=dQ j q;exact jl.pur D (Ol j I C (hρ x (by simp)) (Gz lo λo U=>hρ o (by simp at U;simp [U])) (Gz hi λo U=>hρ o (by simp at U;simp [U])) (Gz mx λo U=>hρ o (by simp at U;simp [U])) h hbs)
 ·
  rename_i s x f;have A:=bind_some h;clear h;obtain ⟨ti,q,h⟩:=A;obtain ⟨i,d,z,C⟩:=dQ j q;split at h
  .rename_i fs hd;have A:=bind_some h;clear h;obtain ⟨⟨o,ft,sz⟩,hf,h⟩:=A;simp only at h;split at h
   .rename_i hsz;have A:=bind_some h;clear h;obtain ⟨p,hp,h⟩:=A;obtain ⟨rfl,rfl,rfl⟩:=aS h;exact jl.pur D ⟨rfl,FD C hd hf hsz (hρ x (by simp)) hp⟩
   .cases h
  .cases h
 ·
  rename_i t x f;have A:=bind_some h;clear h;obtain ⟨ti,q,h⟩:=A;obtain ⟨i,d,z,C⟩:=dQ j q;exact jl.pur D (Nq j C (hρ x (by simp)) h hbs)
 ·
  rename_i t x ix;have A:=bind_some h;clear h;obtain ⟨ti,q,h⟩:=A;obtain ⟨i,d,z,C⟩:=dQ j q;exact jl.pur D (DJ j I C (hρ x (by simp)) (hρ ix (by simp)) h hbs)
 ·
  rename_i t x ix;have A:=bind_some h;clear h;obtain ⟨ti,q,h⟩:=A;obtain ⟨i,d,z,C⟩:=dQ j q;exact jl.pur D (ND j C (hρ x (by simp)) (hρ ix (by simp)) h hbs)
 ·
  exact jl.pur D (JQ j (hρ _ (by simp)) h _)
 ·
  rename_i t i;have C:=hρ t (by simp);split at h
  .rename_i l e;rw [e] at C;have A:=bind_some h;clear h;obtain ⟨x,E,h⟩:=A;obtain ⟨rfl,rfl,rfl⟩:=aS h;simp only [VR] at C;obtain ⟨vs,X,hl⟩:=C;obtain ⟨cv,F,G⟩:=uZ hl i E;refine jl.pur D ⟨rfl,cv, ?_,G⟩;rw [X];simp [Instr.extract,F]
  .cases h
 ·
  rename_i b args R;simp only [Call.operands] at hρ;have hargs:∀ x ∈ args,VR g m S (ρ x) (cρ x):=λx E=>hρ x (by simp [E])
  split at h
  .have A:=bind_some h;clear h;obtain ⟨x,E,h⟩:=A;have A:=bind_some h;clear h;obtain ⟨t,V,h⟩:=A;have A:=bind_some h;clear h;obtain ⟨ti,q,h⟩:=A;obtain ⟨i,d,z,C⟩:=dQ j q;obtain ⟨hu,cv,F,G⟩:=S9 (P:=P) (w:=w) (hargs x (Array.mem_of_getElem? E)) C h R V (args.map cρ) (by simp [E]) o.type;subst hu;exact jl.val D (cv:=cv) (by simp [resolve,invoke,builtin,F]) G
  .split at h
   .rename_i s x t t1 ha V;have hargs':args=#[s,x]:=by apply Array.ext';simpa using ha
    have hats':R=#[t,t1]:=by apply Array.ext';simpa using V
    subst hargs';subst hats';have A:=bind_some h;clear h;obtain ⟨ti,q,h⟩:=A;have A:=bind_some h;clear h;obtain ⟨ti1,Z,h⟩:=A;obtain ⟨i,d,z,C⟩:=dQ j q;obtain ⟨i1,d1,z1,Q⟩:=dQ j Z;have hs:=hargs s (by simp);have E:=hargs x (by simp);have T:ρ s= .nilS->∃ n,Ae (ρ x)=some n/\Xqk n 0=em:=by
     intro e;cases hc:Ae (ρ x) with
     | none=>
      exfalso;split at h
      .rename_i H;rw [H] at hc;simp [Ae] at hc
      .cases h
      .rename_i y hy1 _ hy2 hy3;have A:=bind_some h;clear h;obtain ⟨te,K,h⟩:=A;unfold Be at h;have A:=bind_some h;clear h;obtain ⟨⟨xs,n,pr⟩,hsrc,h⟩:=A;cases hxx:ρ x<;>simp [hxx,Ae] at hc<;>simp [hxx,QI] at hsrc
      .cases h
     |some n=>exact ⟨n,rfl,hem n (by simp [BI,e,hc])⟩
    split at h
    .rename_i e y hd J hy;have A:=bind_some h;clear h;obtain ⟨te,K,h⟩:=A;obtain ⟨ie,de,ze,N⟩:=dQ j K;split at h
     .rename_i F;rw [C.d_eq] at hd;rw [Q.d_eq] at J;have hd:=g_ hd;have J:=AU J;subst hd;subst J;obtain ⟨cv,M,w',r1,r2,r3,r4⟩:=zB (P:=P) D I W C N hs E (tx:=t1) (.inl ⟨⟨y,hy⟩,Q.und,aN F⟩) T (by rw [hy];exact h) hbs o.type;exact ⟨.value cv,M,w',by simp [resolve,invoke,builtin,r1],r2,r3,.inl ⟨cv,rfl,r4⟩⟩
     .cases h
    .cases h
    .rename_i e e1 hd J hns;have A:=bind_some h;clear h;obtain ⟨te,K,h⟩:=A;obtain ⟨ie,de,ze,N⟩:=dQ j K;rw [C.d_eq] at hd;rw [Q.d_eq] at J;have hd:=g_ hd;have J:=g_ J;subst hd;subst J;obtain ⟨cv,M,w',r1,r2,r3,r4⟩:=zB (P:=P) D I W C N hs E (tx:=t1) (.inr ⟨λs e=>hns s e,_,Q.und⟩) T h hbs o.type;exact ⟨.value cv,M,w',by simp [resolve,invoke,builtin,r1],r2,r3,.inl ⟨cv,rfl,r4⟩⟩
    .cases h
   .cases h
  .have A:=bind_some h;clear h;obtain ⟨r,hr,h⟩:=A;obtain ⟨rfl,rfl,rfl⟩:=aS h;obtain ⟨cv,F,G⟩:=XB (P:=P) (w:=w) (yF args.toList λx E=>hargs x (Array.mem_toList_iff.1 E)) hr R o.type;refine jl.val D (cv:=cv) ?_ G;have:(Xz1 cρ args.toList).toArray=args.map cρ:=by apply Array.ext';rw [Xvo,Array.toList_map]
   rw [this] at F;simp [resolve,invoke,builtin,F]
  .have A:=bind_some h;clear h;obtain ⟨r,hr,h⟩:=A;obtain ⟨rfl,rfl,rfl⟩:=aS h;obtain ⟨cv,F,G⟩:=Xy (P:=P) (w:=w) (yF args.toList λx E=>hargs x (Array.mem_toList_iff.1 E)) hr R o.type;refine jl.val D (cv:=cv) ?_ G;have:(Xz1 cρ args.toList).toArray=args.map cρ:=by apply Array.ext';rw [Xvo,Array.toList_map]
   rw [this] at F;simp [resolve,invoke,builtin,F]
  .cases h
 .cases h
end
end AM
namespace AM
open Go
structure Cx.Ok (c:Cx):Prop where
 bs:∀ b ∈ c.bs,b=true
 ps:∀ p ∈ c.ps,p
theorem R.bind_ok {α β:Type} {r:R α} {f:α->Cx->R β} {b:β} {c:Cx} (h:r.bind f= .ok b c):∃ a c1,r= .ok a c1/\f a c1= .ok b c:=by
 cases r with
 |ok a c1=>exact ⟨a,c1,rfl,h⟩
 |need=>simp [R.bind] at h
 |bad n=>simp [R.bind] at h
theorem Nb {c f:Cx} {bs:List Bool} {u:Unit} (h:adC c bs= .ok u f) (d:f.Ok):c.Ok/\∀ b ∈ bs,b=true:=by
 unfold adC at h;split at h
 .split at h
  .rename_i a;cases h;exact ⟨d,λb e=>by simpa using List.all_eq_true.1 a b e⟩
  .cases h
 .cases h;exact ⟨⟨λb a=>d.bs b (by simp [a]),d.ps⟩,λb a=>d.bs b (by simp [a])⟩
theorem nD {c e:Cx} {b a:Bool} (h:Dw c b= .ok a e) (d:e.Ok):c.Ok/\a=b:=by
 unfold Dw at h;split at h
 .cases h;exact ⟨d,rfl⟩
 .split at h
  .cases h
  .rename_i o r _;cases h;have f:=d.bs (lit a b) (by simp);refine ⟨⟨λx i=>d.bs x (by simp [i]),d.ps⟩, ?_⟩;cases a<;>cases b<;>simp [lit] at f ⊢
theorem jf {l:List Nat} {a:Nat}:rP l a=true↔a ∈ l:=by
 simp only [rP,List.any_eq_true];constructor
 .rintro ⟨x,hx,h⟩;exact aN h ▸ hx
 .intro h;exact ⟨a,h,Nat.beq_refl a⟩
theorem jH {α β:Type} {f:α->Option β}:∀ {l:List α} {l':List β},lQ f l=some l'->l'.length=l.length/\∀ (i:Nat) x,l[i]? =some x->∃ y,l'[i]? =some y/\f x=some y
 | [],l',h=>by simp [lQ] at h;subst h;simp
 | a::r,l',h=>by
  simp only [lQ] at h;split at h
  .rename_i y j;split at h
   .rename_i q e;cases h;obtain ⟨d,c⟩:=jH e;refine ⟨by simp [d], ?_⟩;intro i x b;cases i with
    |zero=>simp at b;subst b;exact ⟨y,by simp,j⟩
    |succ i=>simpa using c i x (by simpa using b)
   .cases h
  .cases h
section
variable {P:Program} {ap:AP} {g:dK} {m:aW} {S:aO} {w:World}
noncomputable def dL (S:aO) (m:aW) (rd:dK) (w:World):aO:=λk o=>
 match S k o with
 |some v=>some v
 |none=>open Classical in if ∃ b B,rd b=some B/\(m b).1=k/\o<B.cells.length then bf w k o else none
theorem qo (S:aO) (m:aW) (rd:dK) (w:World):iV S (dL S m rd w):=by
 intro k o v h;simp [dL,h]
theorem fU {rd:dK} {k o:Nat} {v:Value} (h:dL S m rd w k o=some v):S k o=some v\/(bf w k o=some v/\∃ b B,rd b=some B/\(m b).1=k/\o<B.cells.length):=by
 unfold dL at h;split at h
 .rename_i e c;cases h;exact .inl c
 .rename_i d;split at h
  .rename_i a;exact .inr ⟨h,a⟩
  .cases h
theorem sS (a:b_ ap g m S w) {rd:dK} {k o:Nat} {v:Value} (h:dL S m rd w k o=some v):bf w k o=some v:=by
 rcases fU h with h|h
 .exact a.sealed _ _ _ h
 .exact h.1
theorem X9 (c:b_ ap g m S w) {rd:dK} {b:Nat} {B:aU} (d:rd b=some B) {o:Nat} (e:o<B.cells.length) {v:Value} (a:bf w (m b).1 o=some v):dL S m rd w (m b).1 o=some v:=by
 unfold dL;split
 .rename_i h f;have:=c.sealed _ _ _ f;rw [a] at this;cases this;rfl
 .rw [if_pos ⟨b,B,d,rfl,e⟩];exact a
theorem Js (h:b_ ap g m S w) {rd:dK} (d:∀ b B,rd b=some B->g b=some B) {b:Nat} {B:aU} (i:rd b=some B):
  ∃ vs,bu g m S B.cells vs/\(B.pr=true->bT S B.cells vs)/\(∀ j u,vs[j]? =some u->dL S m rd w (m b).1 j=some u)/\vs.length=B.cells.length/\(B.esz ≠ je->∀ u ∈ vs,u.oneCell'=true):=by
 obtain ⟨⟨cur,e,vs,rest,o,l,n,f,h5,p⟩,_,_⟩:=h.blk b B (d b B i);refine ⟨vs,f,n, ?_,(di f).symm,h5⟩;intro j u c;have a:=(List.getElem?_eq_some_iff.1 c).1;refine X9 h i (by rw [di f];exact a) ?_;exact o.get (by rw [l,Xxf a];exact c) (λk=>h5 k u (Xqm c))
theorem CS (d:b_ ap g m S w) {rd:dK} (a:∀ b B,rd b=some B->g b=some B) {b:Nat} {B:aU} (h:rd b=some B) (k:B.esz ≠ je):
  ∃ vs,bu g m S B.cells vs/\(B.pr=true->bT S B.cells vs)/\lX (dL S m rd w) (m b).1 0 vs/\vs.length=B.cells.length:=by
 obtain ⟨vs,i,l,f,e,h5⟩:=Js d a h;refine ⟨vs,i,l,λj u c=> ?_,e⟩;rw [Δ];exact ⟨f j u c,h5 k u (Xqm c)⟩
theorem Le {S':aO} {l:List AV} {y:AV} {vs:List Value} {k:Nat} (h:aet l=some y) (a:bT S' l vs) (hs:∀ j u,vs[j]? =some u->S' k j=some u):PR S' y (.map (some k)):=by
 unfold aet at h;split at h
 .rename_i ks f;cases h
  match vs,a with
  | [v0,v1],a=>
   simp only [bT,PR,and_true] at a;obtain ⟨⟨d,rfl,c⟩,b,rfl,e⟩:=a;simp only [PR];exact .inr ⟨k,d,b,rfl,hs 0 _ rfl,hs 1 _ rfl,c,e⟩
  | [],a=>simp [bT] at a
  | [_],a=>simp [bT] at a
  |_::_::_::_,a=>simp [bT] at a
 .cases h
theorem xm {S':aO} {f:AV->Option AV} (a:∀ x v y,f x=some y->VR g m S x v->PR S' y v):∀ {l l':List AV} {vs:List Value},lQ f l=some l'->bu g m S l vs->bT S' l' vs
 | [],l',[],h,_=>by simp [lQ] at h;subst h;simp [bT]
 | x::r,l',v::vs,h,hv=>by
  simp only [lQ] at h;simp only [bu] at hv;split at h
  .rename_i y c;split at h
   .rename_i q b;cases h;simp only [bT];exact ⟨a x v y c hv.1,xm a b hv.2⟩
   .cases h
  .cases h
 | [],_,_::_,_,h=>by simp [bu] at h
 |_::_,_,[],_,h=>by simp [bu] at h
theorem nJ (K:b_ ap g m S w) {rd:dK} (z:∀ b B,rd b=some B->g b=some B):∀ (k:Nat) (x:AV) (v:Value) (y:AV),frz rd k x=some y->VR g m S x v->PR (dL S m rd w) y v:=by
 intro k
 induction k with
 |zero=>intro x v y h;simp [frz] at h
 | succ k ih=>
  intro x v y h f;have C:=qo S m rd w;have hlist:∀ {l l':List AV} {vs:List Value},lQ (frz rd k) l=some l'->bu g m S l vs->bT (dL S m rd w) l' vs:=λH F=>xm (λx v y hx f=>ih x v y hx f) H F
  unfold frz at h;simp only at h;split at h
  ·
   rename_i b ver i n;have D:=bind_some h;clear h;obtain ⟨B,E,h⟩:=D;split at h
   .rename_i d;simp only [VR] at f;obtain ⟨B',s,_,_,q⟩:=f;rw [z b B E] at s;cases s;obtain ⟨o,rfl,N,ho,M,G⟩:=q (aN d);obtain ⟨vs,H,F,I,L⟩:=CS K z E G;have hpart:lX (dL S m rd w) (m b).1 o ((vs.drop (i*B.esz)).take (n*B.esz)):=by
     by_cases hi:i<(m b).2
     .rw [ho hi];have:=(I.drop (i*B.esz)).take (n*B.esz);rwa [Δ] at this
     .have W:n=0:=by omega
      subst W;intro j u Q;simp at Q
    have p:∀ l,bT (dL S m rd w) l ((vs.drop (i*B.esz)).take (n*B.esz))->PR (dL S m rd w) (.sl l n true) (.slice (some ⟨(m b).1,o,none⟩) n ((m b).2 - i)):=by
     intro l t;simp only [PR];exact ⟨_,_,rfl,by omega,.inr ⟨_,_,_,rfl,t,hpart⟩⟩
    split at h
    .rename_i A;cases h;exact p _ (lW _ (qB _ (bD C _ (F A))))
    .simp only [Xqq] at h;obtain ⟨l,t,rfl⟩:=h;exact p _ (hlist t (uf _ (xn _ H)))
   .cases h
  ·
   rename_i b ver J;have D:=bind_some h;clear h;obtain ⟨B,E,h⟩:=D;split at h
   .rename_i d;simp only [τ,Xqs] at d;have G:B.esz ≠ je:=λe=>by rw [e] at d;exact absurd d.2 (by decide)
    simp only [VR] at f;obtain ⟨B',s,_,_,q⟩:=f;rw [z b B E] at s;cases s;have q:=q (aN d.1);subst q;obtain ⟨vs,H,F,I,L⟩:=CS K z E G;have p:∀ l,bT (dL S m rd w) l vs->PR (dL S m rd w) (.pp l J) (.pointer (some ⟨(m b).1,J,none⟩)):=by
     intro l t;simp only [PR];exact ⟨_,0,_,by rw [Δ],t,I⟩
    split at h
    .rename_i A;cases h;exact p _ (bD C _ (F A))
    .simp only [Xqq] at h;obtain ⟨l,t,rfl⟩:=h;exact p _ (hlist t H)
   .cases h
  ·
   rename_i b ver;have D:=bind_some h;clear h;obtain ⟨B,E,h⟩:=D;split at h
   .rename_i d;simp only [τ] at d;simp only [VR] at f;obtain ⟨B',s,_,_,q⟩:=f;rw [z b B E] at s;cases s;have q:=q (aN d.1);subst q;obtain ⟨vs,H,F,I,L,_⟩:=Js K z E;split at h
    .rename_i A;exact Le h (bD C _ (F A)) I
    .have D:=bind_some h;clear h;obtain ⟨l,t,h⟩:=D;exact Le h (hlist t H) I
   .cases h
  .simp only [Xqq] at h;obtain ⟨l,t,rfl⟩:=h;simp only [VR] at f;obtain ⟨vs,e,q⟩:=f;simp only [PR];exact ⟨vs,e,hlist t q⟩
  .simp only [Xqq] at h;obtain ⟨l,t,rfl⟩:=h;simp only [VR] at f;obtain ⟨vs,e,q⟩:=f;simp only [PR];exact ⟨vs,e,hlist t q⟩
  .have D:=bind_some h;clear h;obtain ⟨a,ha,h⟩:=D;simp only [Xqq] at h;obtain ⟨c,T,rfl⟩:=h;simp only [VR] at f;obtain ⟨va,vc,e,q,r⟩:=f;simp only [PR];exact ⟨va,vc,e,hlist ha q,hlist T r⟩
  .simp only [Xqq] at h;obtain ⟨u,hu,rfl⟩:=h;simp only [VR] at f;obtain ⟨cu,e,q⟩:=f;simp only [PR];exact ⟨cu,e,ih _ _ _ hu q⟩
  .cases h
  .rename_i O Y R n3 V Z X U;cases h;refine aZ C _ ?_;cases x<;>first
    |exact absurd rfl (O _ _ _ _)
    |exact absurd rfl (Y _ _ _)
    |exact absurd rfl (R _ _)
    |exact absurd rfl (n3 _)
    |exact absurd rfl (V _)
    |exact absurd rfl (Z _ _ _)
    |exact absurd rfl (X _ _)
    |exact absurd rfl (U _ _ _)
    |(simp only [VR] at f;exact f)
    |(simp only [PR])
end
end AM
