/- The machine and its soundness. -/
import Derived.Test.YtcpedihclbogjaaGreatDoorM1
import Derived.Laws.BytesString
import Derived.Laws.MakeOwn
import Derived.Laws.OwnMore
set_option linter.unusedSimpArgs false
set_option linter.unusedVariables false
open List renaming foldl_cons->Xjz,length_take->Xqz,nil_append->Xqc,drop_drop->Xjs,map_cons->Xqg,getElem?_map->Xqw,getElem?_take->Xjq,getElem?_append_left->Xxf,mem_of_mem_drop->Xzq,mem_of_mem_take->Xj6,all_cons->Xzr,cons_append->Xqt,append_eq_nil_iff->Xzy,take_append_of_le_length->Xjb,append_assoc->Xqe,toList_toArray->Xvo,size_toArray->Xxh,length_append->ν,length_drop->Xx4,replicate_succ->Xxc,append_nil->Xqd,any_cons->Xvj,map_append->Xq5,map_nil->Xjh,ext_getElem?->Xwm,getElem?_set->Xz6,map->Xz1,mem_of_getElem?->Xqm
open Bool renaming and_eq_true->τ,not_eq_true'->Xqs
open Nat renaming add_zero->Xq4,beq->Xqk,le_refl->κ,zero_le->Xq7,mul_le_mul->Xwe,le_trans->Xqr,zero_add->Δ,add_mul->Xxy,lt_irrefl->Xkc
open Option renaming map_some->Xjm,map_eq_some_iff->Xqq
open UInt8 renaming ofNat->Xql
namespace AM
open Go
section
variable {P:Program} {ap:AP} {g:dK} {m:aW} {S:aO} {w:World}
theorem GR {x:AV} {v:Value} (h:VR g m S x v) (f:∀ y ∈ x.cells,qQ y=true):bu g m S x.cells v.cells.toList/\∀ u ∈ v.cells,u.oneCell'=true:=by
 cases x
 case agg l=>
  simp only [VR] at h;obtain ⟨vs,rfl,h⟩:=h;refine ⟨by simpa [Value.cells,AV.cells] using h, ?_⟩;intro u d;simp only [Value.cells] at d;simp only [AV.cells] at f;have:∀ (l:List AV) (vs:List Value),bu g m S l vs->(∀ y ∈ l,qQ y=true)->∀ u ∈ vs,u.oneCell'=true:=by
   intro l
   induction l with
   |nil=>intro vs e _ u d;cases vs<;>simp [bu] at e d
   | cons a r ih=>
    intro vs e f u d;cases vs with
    |nil=>simp [bu] at e
    |cons b q=>
     simp only [bu] at e;rcases List.mem_cons.1 d with rfl|d
     .exact Rl e.1 (f a (by simp))
     .exact ih q e.2 (λy j=>f y (by simp [j])) u d
  exact this l vs h f u (by simpa using d)
 all_goals
  have c:=Rl h (f _ (by simp [AV.cells]));have i:v.cells=#[v]:=by cases v<;>simp [Value.cells,Value.oneCell'] at c ⊢
  rw [i];refine ⟨by simp only [AV.cells,bu];exact ⟨h,trivial⟩,by simpa using c⟩
theorem KO:∀ (vs:List Value) (i a:Nat) (cs:Array Value),a+i+vs.length<=cs.size->
  ((vs.zipIdx i).foldl (λ(cs:Array Value) (p:Value × Nat)=>cs.setIfInBounds (a+p.2) p.1) cs).toList=cs.toList.take (a+i)++vs++cs.toList.drop (a+i+vs.length)
 | [],i,a,cs,_=>by simp
 | v::vs,i,a,cs,h=>by
  simp only [List.length_cons] at h;simp only [List.zipIdx_cons,Xjz];rw [KO vs (i+1) a (cs.setIfInBounds (a+i) v) (by simp;omega)];have b:a+i<cs.toList.length:=by simp;omega
  simp only [Array.toList_setIfInBounds];rw [show a+(i+1)=a+i+1 from by omega,List.set_eq_take_append_cons_drop,if_pos b];have e:(cs.toList.take (a+i)++v::cs.toList.drop (a+i+1)).take (a+i+1)=cs.toList.take (a+i)++ [v]:=by
   rw [List.take_append];have d:a+i+1 - (cs.toList.take (a+i)).length=1:=by simp [Xqz];omega
   rw [d];simp [List.take_take]
  have c:(cs.toList.take (a+i)++v::cs.toList.drop (a+i+1)).drop (a+i+1+vs.length)=cs.toList.drop (a+i+(v::vs).length):=by
   rw [List.drop_append];have:(cs.toList.take (a+i)).length=a+i:=by simp [Xqz];omega
   rw [this,List.drop_eq_nil_of_le (by rw [this];omega),Xqc,show a+i+1+vs.length - (a+i)=vs.length+1 from by omega,List.drop_succ_cons,Xjs];congr 1;simp;omega
  rw [e,c];simp
theorem Uy {d vs:List AV} {cs b:List Value} {a:Nat} (h:bu g m S d cs) (c:bu g m S vs b):bu g m S (setCells d a vs) (cs.take a++b++cs.drop (a+b.length)):=by
 unfold setCells;rw [<- di c];exact iq (iq (uf _ h) c) (xn _ h)
theorem acZ {d vs:List AV} {cs b:List Value} {a:Nat} (h:bT S d cs) (c:bT S vs b):bT S (setCells d a vs) (cs.take a++b++cs.drop (a+b.length)):=by
 unfold setCells;rw [<- qC c];exact ny (ny (lW _ h) c) (qB _ h)
def qE (g:dK) (m:aW) (S:aO) (place:Nat->Option (Nat × Nat)):List (Nat × Nat × AV)->List (Nat × Value)->Prop
 | [],[]=>True
 |(off,size,v)::r,(i,c)::q=>place i=some (off,size)/\VR g m S v c/\qE g m S place r q
 |_,_=>False
theorem sH {place:Nat->Option (Nat × Nat)}:∀ (ps:List (Nat × Nat × AV)) (qs:List (Nat × Value)) (cells cells':List AV) (cs:Array Value),qE g m S place ps qs->bu g m S cells cs.toList->zD cells ps=some cells'->
  ∃ a,Instr.fill place cs qs=some a/\bu g m S cells' a.toList/\a.size=cs.size
 | [],[],cells,cells',cs,_,hv,h=>by simp [zD] at h;subst h;exact ⟨cs,rfl,hv,rfl⟩
 | (off,size,v)::r,(i,c)::q,cells,cells',cs,hp,hv,h=>by
  simp only [qE] at hp;simp only [zD] at h;split at h
  .rename_i j;simp only [τ] at j;obtain ⟨⟨k,l⟩,A⟩:=j;obtain ⟨n,B⟩:=GR hp.2.1 (λy z=>List.all_eq_true.1 A y z);have t:=di n;have b:=di hv;have k:=aN k;have l:=gG l;have s:c.cells.size=size:=by simp only [Array.length_toList] at t;omega
   have d:off+c.cells.size<=cs.size:=by simp only [Array.length_toList] at b;omega
   have o:=KO c.cells.toList 0 off cs (by simpa using d);have f:bu g m S (setCells cells off v.cells) ((c.cells.zipIdx.foldl (λ(cs:Array Value) (p:Value × Nat)=>cs.setIfInBounds (off+p.2) p.1) cs)).toList:=by
    rw [<- Array.foldl_toList,Array.toList_zipIdx,o];simp only [Xq4];exact Uy hv n
   obtain ⟨a,e,u,x⟩:=sH r q _ cells' _ hp.2.2 f h;refine ⟨a, ?_,u, ?_⟩
   .simp only [Instr.fill,hp.1];rw [if_neg (by simp;omega)];exact e
   .rw [x,<- Array.length_toList,<- Array.foldl_toList,Array.toList_zipIdx,o];simp;omega
  .cases h
 | [],_::_,_,_,_,hp,_,_=>by simp [qE] at hp
 |_::_,[],_,_,_,hp,_,_=>by simp [qE] at hp
theorem ug {t:Nat} {ti:TI} {i:TypeInfo} {d:TypeDesc} {z:Value} (a:FP P t ti i d z):bu g m S ti.zero z.cells.toList:=by
 rw [a.zcells];exact bU _ (zy S _)
def A_ (g:dK) (m:aW) (S:aO):List (Nat × AV)->List (Nat × Value)->Prop
 | [],[]=>True
 |(i,v)::r,(j,c)::q=>i=j/\VR g m S v c/\A_ g m S r q
 |_,_=>False
theorem vS {size:Nat}:∀ {ps:List (Nat × AV)} {qs:List (Nat × Value)},A_ g m S ps qs->qE g m S (λi=>some (i*size,size)) (ps.map λ(i,v)=>(i*size,size,v)) qs
 | [],[],_=>by simp [qE]
 |(i,v)::r,(j,c)::q,h=>by
  simp only [A_] at h;obtain ⟨rfl,b,a⟩:=h;simp only [Xqg,qE];exact ⟨trivial,b,vS a⟩
 | [],_::_,h=>by simp [A_] at h
 |_::_,[],h=>by simp [A_] at h
theorem EO {a:List (Nat × Nat × Nat)} {place:Nat->Option (Nat × Nat)} (hp:∀ i x,a[i]? =some x->place i=some (x.1,x.2.2)):∀ {ps:List (Nat × AV)} {qs:List (Nat × Value)} {rs:List (Nat × Nat × AV)},A_ g m S ps qs->
  lQ (λ(q:Nat × AV)=>(a[q.1]?).map λ(x:Nat × Nat × Nat)=>(x.1,x.2.2,q.2)) ps=some rs->qE g m S place rs qs
 | [],[],rs,_,h=>by simp [lQ] at h;subst h;simp [qE]
 | (i,v)::r,(j,c)::q,rs,hn,h=>by
  simp only [A_] at hn;obtain ⟨rfl,e,f⟩:=hn;simp only [lQ] at h;cases b:a[i]? with
  |none=>simp [b] at h
  | some x=>
   simp only [b,Xjm] at h;split at h
   .rename_i l d;cases h;simp only [qE];exact ⟨hp i x b,e,EO hp f d⟩
   .cases h
 | [],_::_,_,h,_=>by simp [A_] at h
 |_::_,[],_,h,_=>by simp [A_] at h
theorem EN:∀ (fields:List Field),(∀ f ∈ fields,(P.info? f.type).isSome)->fields.mapM (λf=>(P.info? f.type).map λi=>(f.offset,i.size))=some (fields.map λf=>(f.offset,match P.info? f.type with|some i=>i.size|none=>0))
 | [],_=>rfl
 | f::r,h=>by
  cases a:P.info? f.type with
  |none=>have:=h f (by simp);simp [a] at this
  |some i=>
   simp [List.mapM_cons,a,EN r (λf b=>h f (by simp [b]))]
theorem ML (l:iy P ap) {t:Nat} {ti:TI} {i:TypeInfo} {d:TypeDesc} {z:Value} (b:FP P t ti i d z) {ps:List (Nat × AV)} {qs:Array (Nat × Value)} (A:A_ g m S ps qs.toList) {v:AV} {ups:List (Nat × aU)} {bs:List Bool}
  (h:Rz ap ti ps=some (v,ups,bs)):ups= []/\∃ cv,(Instr.build t qs).run P w= .ok cv w/\VR g m S v cv:=by
 unfold Rz at h;split at h
 .rename_i D hd;have j:=bind_some h;clear h;obtain ⟨B,q,h⟩:=j;have j:=bind_some h;clear h;obtain ⟨cs,k,h⟩:=j;obtain ⟨rfl,rfl,rfl⟩:=aS h;rw [b.d_eq] at hd;obtain ⟨fields,rfl,rfl⟩:=yY hd;by_cases hall:∀ f ∈ fields.toList,(P.info? f.type).isSome
  .have r:=EN fields.toList hall;have p:=EO (place:=((fields.toList.map λf=>(f.offset,match P.info? f.type with|some i=>i.size|none=>0)).toArray[·]?)) (by
    intro i x y;simp only [Xqw,Xqq] at y;obtain ⟨f,s,rfl⟩:=y;simp [s];rfl) A q
   obtain ⟨a,u,o,_⟩:=sH B qs.toList ti.zero cs z.cells p (ug b) k;refine ⟨rfl,.agg a,run_build w t qs a ?_, ?_⟩
   .simp only [Program.built,b.info,b.und,b.zero];rw [r];exact u
   .simp only [VR];exact ⟨a.toList,by simp,o⟩
  .exfalso;apply hall;intro f s;have:=b.fld;simp only [Z5] at this;exact List.all_eq_true.1 this f s
 .rename_i n e hd;have j:=bind_some h;clear h;obtain ⟨C,c,h⟩:=j;have j:=bind_some h;clear h;obtain ⟨cs,k,h⟩:=j;obtain ⟨rfl,rfl,rfl⟩:=aS h;obtain ⟨G,E,F,c⟩:=dQ l c;rw [b.d_eq] at hd;have hd:=Dh hd;subst hd;obtain ⟨a,u,o,_⟩:=sH _ qs.toList ti.zero cs z.cells (vS (size:=C.size) A) (ug b) k;refine ⟨rfl,.agg a,run_build w t qs a ?_, ?_⟩
  .simp only [Program.built,b.info,b.und,b.zero,c.info];rw [<- c.size];exact u
  .simp only [VR];exact ⟨a.toList,by simp,o⟩
 .cases h
end
end AM
namespace AM
open Go
section
variable {P:Program} {ap:AP} {g:dK} {m:aW} {S:aO} {w:World}
theorem Aq {t:Nat} {ti:TI} {i:TypeInfo} {d:TypeDesc} {z:Value} (e:FP P t ti i d z) {v:AV} (h:uG ti ti.zero=some v):VR g m S v z:=by
 have b:=ug (g:=g) (m:=m) (S:=S) e;have f:=e.zagg;unfold uG at h;rw [e.d_eq,JB] at h;unfold akb at f;rw [e.zero] at f;split at h
 .rename_i a;cases h;cases d<;>simp [TypeDesc.isRow] at a<;>cases z<;>simp at f
  all_goals
   simp only [VR];exact ⟨_,rfl,by simpa [Value.cells] using b⟩
 .rename_i a;split at h
  .rename_i c k;cases h;have j:z.cells=#[z]:=by
    cases z<;>first|rfl|skip
    cases d<;>simp [TypeDesc.isRow] at a f
   rw [k,j] at b;simp only [bu] at b;exact b.1
  .cases h
theorem JQ (q:iy P ap) {x v:AV} {C:Value} (o:VR g m S x C) {asserted:Nat} {ok:Bool} {ups:List (Nat × aU)} {bs:List Bool} (h:MI ap x asserted ok=some (v,ups,bs)) (D:Nat):
  ups= []/\∃ cv,(Instr.typeAssert C D asserted ok).run P w= .ok cv w/\VR g m S v cv:=by
 unfold MI at h;have n:=bind_some h;clear h;obtain ⟨ti,p,h⟩:=n;obtain ⟨i,d,z,j⟩:=dQ q p;have a:∀ A,d ≠ .interface A:=by
  intro A e;subst e;rw [j.d_eq] at h;simp [lD] at h
 have key:∀ (c:Value),(∃ t u,c= .iface t u/\t ≠ asserted)\/c= .nilIface->∀ l,VR g m S l z->ok=true->(Instr.typeAssert c D asserted ok).run P w= .ok (.tuple #[z,.bool false]) w:=by
  intro c E l _ y;subst y;rcases E with ⟨t,u,rfl,k⟩|rfl
  .cases d<;>first|exact absurd rfl (a _)|simp [Instr.typeAssert,run_underlying j.und,k,zeroValue,typeInfo,j.info,j.zero]
  .cases d<;>first|exact absurd rfl (a _)|simp [Instr.typeAssert,run_underlying j.und,zeroValue,typeInfo,j.info,j.zero]
 split at h
 .cases h
 .split at h
  .rename_i t u;simp only [VR] at o;obtain ⟨r,rfl,B⟩:=o;split at h
   .rename_i b;have b:=aN b;subst b;obtain ⟨rfl,rfl,rfl⟩:=aS h;cases ok
    .refine ⟨rfl,r, ?_,B⟩;cases d<;>first|exact absurd rfl (a _)|simp [Instr.typeAssert,run_underlying j.und]
    .refine ⟨rfl,.tuple #[r,.bool true], ?_, ?_⟩
     .cases d<;>first|exact absurd rfl (a _)|simp [Instr.typeAssert,run_underlying j.und]
     .simp only [VR];exact ⟨[r,.bool true],rfl,by simp only [bu,VR,PR];exact ⟨B,trivial,trivial⟩⟩
   .rename_i b;have k:t ≠ asserted:=by intro e;subst e;simp at b
    cases ok
    .cases h
    .simp only at h;have n:=bind_some h;clear h;obtain ⟨l,s,h⟩:=n;obtain ⟨rfl,rfl,rfl⟩:=aS h;have f:=Aq (g:=g) (m:=m) (S:=S) j s;refine ⟨rfl,_,key _ (.inl ⟨_,_,rfl,k⟩) l f rfl, ?_⟩;simp only [VR];exact ⟨[z,.bool false],rfl,by simp only [bu,VR,PR];exact ⟨f,trivial,trivial⟩⟩
  .simp only [VR,PR] at o;subst o;cases ok
   .cases h
   .simp only at h;have n:=bind_some h;clear h;obtain ⟨l,s,h⟩:=n;obtain ⟨rfl,rfl,rfl⟩:=aS h;have f:=Aq (g:=g) (m:=m) (S:=S) j s;refine ⟨rfl,_,key _ (.inr rfl) l f rfl, ?_⟩;simp only [VR];exact ⟨[z,.bool false],rfl,by simp only [bu,VR,PR];exact ⟨f,trivial,trivial⟩⟩
  .cases h
theorem ww (N:b_ ap g m S w) {rd:dK} (J:∀ b B,rd b=some B->g b=some B) {size:Nat} {x:AV} {R:Value} (f:VR g m S x R) {E:List AV} {n:Nat} {pr:Bool} (h:QI size rd x=some (E,n,pr)) (O:E.length=n*size)
  {tx:Nat} (hk:((∃ s,x= .str s)/\P.underlying tx=some .string/\size=1)\/((∀ s,x ≠ .str s)/\∃ e,P.underlying tx=some (.slice e))):
  ∃ news,Src P size tx R n news w/\bu g m S E news/\(pr=true->bT S E news):=by
 unfold QI at h;split at h
 .rename_i T Z nn;cases h;obtain ⟨_,e,d⟩:=hk.resolve_left (by rintro ⟨⟨s,hs⟩,_⟩;cases hs);simp only [VR,PR] at f;obtain ⟨a,cap,rfl,W,q⟩:=f;rcases q with ⟨_,rfl,rfl,rfl⟩|⟨b,o,vs,rfl,hp,hs⟩
  .cases a with
   |none=>exact ⟨[],Src.ofNil w d 0,by simp [bu],λ_=>by simp [bT]⟩
   |some p=>exact ⟨[],Src.ofSlice w d p 0 0 [] (by simp) (λj u c=>by simp at c) (λu t=>by simp at t),by simp [bu],λ_=>by simp [bT]⟩
  .refine ⟨vs,Src.ofSlice w d ⟨b,o,none⟩ n cap vs (by rw [<- qC hp,O]) (λj u c=>by rw [Addr.add_mid];exact N.one (hs j u c).1 (hs j u c).2) ?_,bU _ hp,λ_=>hp⟩;intro u t;obtain ⟨j,c⟩:=List.getElem?_of_mem t;exact (hs j u c).2
 .cases h;obtain ⟨_,e,d⟩:=hk.resolve_left (by rintro ⟨⟨s,hs⟩,_⟩;cases hs);simp only [VR,PR] at f;subst f;exact ⟨[],Src.ofNil w d 0,by simp [bu],λ_=>by simp [bT]⟩
 .rename_i s;cases h;obtain ⟨_,d,H⟩:=hk.resolve_right (by rintro ⟨hs,_⟩;exact hs s rfl);simp only [VR,PR] at f;subst f;subst H;have hp:∀ s:List UInt8,bT S (s.map λb=>AV.int .u8 b.toNat) (s.map λb=>Value.int .u8 b.toNat):=by
   intro s
   induction s with
   |nil=>simp [bT]
   |cons a r ih=>simp only [Xqg,bT,PR];exact ⟨trivial,ih⟩
  have i:=Src.ofString (P:=P) w d ⟨s.toArray⟩;have X:byteCells ⟨s.toArray⟩=s.map λb=>Value.int .u8 b.toNat:=by simp [byteCells]
  rw [X,CV] at i;exact ⟨_,i,bU _ (hp s),λ_=>hp s⟩
 .rename_i b ver j Z;have Y:=bind_some h;clear h;obtain ⟨B,U,h⟩:=Y;split at h
  .rename_i l;cases h;simp only [τ,Xqs] at l;obtain ⟨l,z⟩:=l;have C:B.esz ≠ je:=λe=>by rw [e] at z;exact absurd z (by decide)
   obtain ⟨_,e,d⟩:=hk.resolve_left (by rintro ⟨⟨s,hs⟩,_⟩;cases hs);simp only [VR] at f;obtain ⟨B',v,_,_,q⟩:=f;have y:=J b B U;rw [y] at v;cases v;obtain ⟨o,rfl,q1,V,q3⟩:=q (aN l.1);have G:=aN l.2;obtain ⟨cur,e',vs,rest,k,A,hp,I,F,L⟩:=(N.blk b B y).lies;have k:=k.cells C;have F:=F C;have M:=di I;have K:((vs.drop (j*size)).take (n*size)).length=n*size:=by
    rw [<- di (uf _ (xn _ I))];exact O
   by_cases hn:n=0
   .subst hn;have Q:(vs.drop (j*size)).take (0*size)= []:=by simp
    refine ⟨[], ?_, ?_, ?_⟩
    .exact Src.ofSlice w d _ 0 _ [] (by simp) (λ_ _ h=>by simp at h) (λ_ h=>by simp at h)
    .simp [bu]
    .intro _;simp [bT]
   .have D:=V (by omega);refine ⟨(vs.drop (j*size)).take (n*size),Src.ofSlice w d _ n _ _ K ?_ ?_,uf _ (xn _ I),λpr=>lW _ (qB _ (hp pr))⟩
    .intro jj u c;rw [D,Addr.add_mid,G,xy k,A];rw [Xjq] at c;split at c
     .rw [List.getElem?_drop] at c;rw [Xxf (List.getElem?_eq_some_iff.1 c).1];exact c
     .cases c
    .intro u t;exact F u (Xzq (Xj6 t))
  .cases h
 .cases h
theorem Ll:∀ (a:List Int) (s:List UInt8),a.foldl (λ(r:ByteArray) n=>r.push (Xql n.toNat)) ⟨s.toArray⟩=⟨(s++a.map λn=>Xql n.toNat).toArray⟩
 | [],s=>by simp
 |n::a,s=>by
  simp only [Xjz];have e:(⟨s.toArray⟩:ByteArray).push (Xql n.toNat)=⟨(s++ [Xql n.toNat]).toArray⟩:=by simp [ByteArray.push]
  rw [e,Ll a];simp
theorem Hg (C:iy P ap) (X:b_ ap g m S w) {rd:dK} (N:∀ b B,rd b=some B->g b=some B) {s d:Nat} {V td:TI} (I:ap.tyAt s=some V) (K:ap.tyAt d=some td) {x v:AV} {O:Value} (G:VR g m S x O) {ups:List (Nat × aU)} {bs:List Bool}
  (h:Hf ap V td rd x=some (v,ups,bs)) (hbs:∀ b ∈ bs,b=true):ups= []/\∃ cv,(convert s d O).run P w= .ok cv w/\VR g m S v cv:=by
 obtain ⟨i1,d1,z1,F⟩:=dQ C I;obtain ⟨i2,d2,z2,E⟩:=dQ C K;unfold Hf at h;split at h
 .rename_i k k' n hd;obtain ⟨rfl,rfl,rfl⟩:=aS h;rw [E.d_eq] at hd;have hd:=acs hd;subst hd;simp only [VR,PR] at G;subst G;exact ⟨rfl,_,by simp [convert,run_underlying F.und,run_underlying E.und,Conv.intToInt];rfl,by simp only [VR,PR]⟩
 .rename_i s' j i;obtain ⟨rfl,rfl,rfl⟩:=aS h;rw [F.d_eq] at j;rw [E.d_eq] at i;have j:=AU j;have i:=AU i;subst j;subst i;simp only [VR,PR] at G;subst G;exact ⟨rfl,_,by simp [convert,run_underlying F.und,run_underlying E.und];rfl,by simp only [VR,PR]⟩
 .rename_i x0 e j i;have J:=bind_some h;clear h;obtain ⟨te,t,h⟩:=J;obtain ⟨ie,de,ze,t⟩:=dQ C t;split at h
  .cases h
  .rename_i Z xt xb u A;have J:=bind_some h;clear h;obtain ⟨⟨p,n,pr⟩,z,h⟩:=J;obtain ⟨rfl,rfl,rfl⟩:=aS h;obtain ⟨U,M⟩:=dG hbs;obtain ⟨M,_⟩:=dG M;rw [F.d_eq] at j;rw [E.d_eq] at i;have j:=g_ j;have i:=AU i;subst j;subst i;rw [t.d_eq] at u;have u:=acs u;subst u;have U:=aN U;obtain ⟨f,hs,W,_⟩:=ww (P:=P) X N G z (by omega) (tx:=s) (.inr ⟨λs e=>A s e,e,F.und⟩);have D:f=(p.map AV.toInt).map (Value.int .u8):=by
    have:∀ (p:List AV) (f:List Value),bu g m S p f->p.all (chk (.int .u8))=true->f=(p.map AV.toInt).map (Value.int .u8):=by
     intro p
     induction p with
     |nil=>intro f h _;cases f<;>simp [bu] at h ⊢
     | cons a r ih=>
      intro f h H;cases f with
      |nil=>simp [bu] at h
      |cons c q=>
       simp only [bu] at h;simp only [Xzr,τ] at H;rw [Xqg,Xqg,ih q h.2 H.2];congr 1;cases a<;>simp [chk] at H
       simp only [VR,PR] at h;rw [h.1,gy H.1];rfl
    exact this p f W M
   refine ⟨rfl,.string ⟨((p.map AV.toInt).map λn=>Xql n.toNat).toArray⟩, ?_, ?_⟩
   .have hcells:=hs.cells;have y:=hs.len w;have o:=G;cases O
    case slice a l c=>
     have Y:l=n:=by simpa [Builtin.lenOf] using y
     subst Y;cases a with
     | none=>
      have R:f= []:=by simpa [Builtin.firstCells] using hcells.symm
      rw [R] at D;have Q:p= []:=by
       have:(p.map AV.toInt).map (Value.int .u8)= []:=D.symm;simpa using this
      subst Q;simp [convert,run_underlying F.und,run_underlying E.und,run_underlying t.und,Conv.bytesToString];rfl
     | some a=>
      have L:(loadCells a l).run P w= .ok ((p.map AV.toInt).map (Value.int .u8)).toArray w:=by
       rw [<- D];simpa [Builtin.firstCells] using hcells
      have T:=run_bytesToString (P:=P) w a l c _ L;rw [show ByteArray.empty=⟨([]:List UInt8).toArray⟩ from rfl,Ll,Xqc] at T;simp only [convert,Sem.run_bind,run_underlying F.und,run_underlying E.und,run_underlying t.und,Result.andThen_ok];exact T
    all_goals (simp [Builtin.lenOf] at y)
    case string s0=>
     exfalso;cases Z<;>simp [QI] at z
     case str s1=>exact A s1 rfl
     case nilS=>simp only [VR,PR] at o;cases o
     case sl a b c=>simp only [VR,PR] at o;obtain ⟨_,_,h,_⟩:=o;cases h
     case ref a b c d=>simp only [VR] at o;obtain ⟨_,_,_,⟨_,_,_,h⟩,_⟩:=o;cases h
   .simp only [VR,PR];simp [List.map_map,Function.comp_def]
  .cases h
 .cases h
end
end AM
namespace AM
open Go
def dR (g:dK) (ups:List (Nat × aU)):dK:=λb=>match look ups b with|some B=>some B|none=>g b
def lU (m:aW) (b:Nat) (x:Nat × Nat):aW:=λc=>if c=b then x else m c
theorem gX {α:Type}:∀ (a b:List (Nat × α)) (t:Nat),look (a++b) t=match look a t with|some x=>some x|none=>look b t
 | [],b,t=>rfl
 |(u,x)::r,b,t=>by
  simp only [Xqt,look];split
  .rfl
  .exact gX r b t
theorem oZ (ups:List (Nat × aU)) (hp:Hp):dR (look hp) ups=look (ups++hp):=by
 funext b;rw [gX];unfold dR;cases look ups b<;>rfl
theorem fP (g:dK):dR g []=g:=rfl
theorem o_ (g:dK) (b:Nat) (B:aU) (c:Nat):dR g [(b,B)] c=if c=b then some B else g c:=by
 simp only [dR,look];by_cases h:c=b
 .subst h;simp
 .have:Xqk b c=false:=by
   cases a:Xqk b c with
   |false=>rfl
   |true=>exact absurd (aN a).symm h
  rw [this,if_neg h]
section
variable {P:Program} {ap:AP} {g:dK} {m:aW} {S:aO} {w:World}
theorem Ws.mono {g g':dK} {m b:aW} {S S':aO} {w w':World} {B:aU} {k c:Nat} (h:Ws g m S w B k c) (a:iV S S') (f:Ge g m g' b) (d:w'.heap[k]? =w.heap[k]?):Ws g' b S' w' B k c:=by
 obtain ⟨⟨cur,e,vs,rest,o,q,j,i,h5,n⟩,h7,l⟩:=h;exact ⟨⟨cur,e,vs,rest,o.same d,q,λp=>bD a _ (j p),l_ a f _ i,h5,n⟩,h7,l⟩
theorem b_.seal_lt (h:b_ ap g m S w) {k o:Nat} {v:Value} (a:S k o=some v):k<w.heap.size:=oG (h.sealed k o v a)
theorem b_.put (h:b_ ap g m S w) (b:Nat) (B:aU) (k c:Nat) {w':World}
  (i:w.heap.size<=k\/∃ B0,g b=some B0/\k=(m b).1) (hw:w.grownBy w' (some k)) (hblk:Ws g m S w' B k c)
  (hge:∀ B0,g b=some B0->B.esz=B0.esz/\((B.ver=B0.ver/\(k,c)=m b)\/B0.ver<B.ver))
  (hseal:∀ o v,S k o=some v->bf w' k o=some v/\B.fro=true/\o<B.fz):
  b_ ap (dR g [(b,B)]) (lU m b (k,c)) S w'/\Fr g m S w (dR g [(b,B)]) (lU m b (k,c)) S w':=by
 have t:Ge g m (dR g [(b,B)]) (lU m b (k,c)):=by
  intro f B1 l;by_cases e:f=b
  .subst e;obtain ⟨a,j⟩:=hge B1 l;refine ⟨B,by rw [o_,if_pos rfl],a, ?_⟩;rcases j with ⟨j,D⟩|j
   .exact .inl ⟨j,by simp [lU,D]⟩
   .exact .inr j
  .exact ⟨B1,by rw [o_,if_neg e];exact l,rfl,.inl ⟨rfl,by simp [lU,e]⟩⟩
 have s:∀ f B1,g f=some B1->f ≠ b->(m f).1 ≠ k:=by
  intro f B1 l z e;have r:=h.lt l;rcases i with i|⟨B0,p,i⟩
  .omega
  .exact z (h.inj f b B1 B0 l p (e.trans i))
 have n:∀ k0,k0<w.heap.size->k0 ≠ k->w'.heap[k0]? =w.heap[k0]? :=λk0 r A=>hw.block k0 r (by simpa using A)
 constructor
 .refine ⟨?_, ?_, ?_, ?_,h.glob⟩
  .intro f y B1 B2 d x u;rw [o_] at d x;by_cases a:f=b<;>by_cases j:y=b
   .rw [a,j]
   .rw [if_neg j] at x;simp only [lU,a,if_true,if_neg j] at u;exact absurd u.symm (s y B2 x j)
   .rw [if_neg a] at d;simp only [lU,j,if_true,if_neg a] at u;exact absurd u (s f B1 d a)
   .rw [if_neg a] at d;rw [if_neg j] at x;simp only [lU,if_neg a,if_neg j] at u;exact h.inj f y B1 B2 d x u
  .intro f B1 d;rw [o_] at d;by_cases a:f=b
   .rw [if_pos a] at d;cases d;simp only [lU,if_pos a];exact hblk.mono (iV.refl S) t rfl
   .rw [if_neg a] at d;simp only [lU,if_neg a];exact (h.blk f B1 d).mono (iV.refl S) t (n _ (h.lt d) (s f B1 d a))
  .intro k0 o v q;by_cases e:k0=k
   .subst e;exact (hseal o v q).1
   .rw [iY (n k0 (h.seal_lt q) e)];exact h.sealed k0 o v q
  .intro f B1 d o v q;rw [o_] at d;by_cases a:f=b
   .rw [if_pos a] at d;cases d;simp only [lU,if_pos a] at q;exact (hseal o v q).2
   .rw [if_neg a] at d;simp only [lU,if_neg a] at q;exact h.own f B1 d o v q
 .refine ⟨t,iV.refl S,hw.os,hw.tape,hw.output,hw.size, ?_, ?_,λ_ _ _ q=> .inl q⟩
  .intro k0 r C;refine n k0 r (λe=> ?_);subst e;rcases i with i|⟨B0,p,i⟩
   .omega
   .exact C b B0 p i.symm
  .intro f B1 d;rw [o_] at d;by_cases a:f=b
   .subst a;rcases i with i|⟨B0,p,i⟩
    .exact .inl (by simpa [lU] using i)
    .exact .inr ⟨B0,p,by simp [lU,i]⟩
   .rw [if_neg a] at d;exact .inr ⟨B1,d,by simp [lU,a]⟩
end
mutual
theorem OO {g:dK} {m:aW} {S:aO}:∀ (x:AV) {v:Value},VR g m S x v->eG x= []->PR S x v
 | .int _ _,_,p,_=>by simpa only [VR] using p
 | .bool _,_,p,_=>by simpa only [VR] using p
 | .str _,_,p,_=>by simpa only [VR] using p
 | .nilS,_,p,_=>by simpa only [VR] using p
 | .nilP,_,p,_=>by simpa only [VR] using p
 | .nilF,_,p,_=>by simpa only [VR] using p
 | .nilI,_,p,_=>by simpa only [VR] using p
 | .sl _ _ _,_,p,_=>by simpa only [VR] using p
 | .pp _ _,_,p,_=>by simpa only [VR] using p
 | .mp _ _,_,p,_=>by simpa only [VR] using p
 | .dead,_,_,_=>by simp only [PR]
 | .own _ _ _,_,p,_=>by simp only [VR] at p
 | .ref _ _ _ _,_,_,h=>by simp [eG] at h
 | .ptr _ _ _,_,_,h=>by simp [eG] at h
 | .mr _ _,_,_,h=>by simp [eG] at h
 | .agg l,_,p,h=>by
  simp only [VR] at p;simp only [PR];simp only [eG] at h;obtain ⟨vs,e,q⟩:=p;exact ⟨vs,e,gm l q h⟩
 | .tup l,_,p,h=>by
  simp only [VR] at p;simp only [PR];simp only [eG] at h;obtain ⟨vs,e,q⟩:=p;exact ⟨vs,e,gm l q h⟩
 | .fn f a c,_,p,h=>by
  simp only [VR] at p;simp only [PR];simp only [eG,Xzy] at h;obtain ⟨b,d,e,q,r⟩:=p;exact ⟨b,d,e,gm a q h.1,gm c r h.2⟩
 | .ifc t x,_,p,h=>by
  simp only [VR] at p;simp only [PR];simp only [eG] at h;obtain ⟨u,e,q⟩:=p;exact ⟨u,e,OO x q h⟩
theorem gm {g:dK} {m:aW} {S:aO}:∀ (l:List AV) {vs:List Value},bu g m S l vs->cZ l= []->bT S l vs
 | [],[],_,_=>by simp only [bT]
 |x::r,v::vs,p,h=>by simp only [bu] at p;simp only [cZ,Xzy] at h;simp only [bT];exact ⟨OO x p.1 h.1,gm r p.2 h.2⟩
 | [],_::_,p,_=>by simp [bu] at p
 |_::_,[],p,_=>by simp [bu] at p
end
section
variable {P:Program} {ap:AP} {g:dK} {m:aW} {S:aO} {w:World}
theorem um {α:Type} {l:List α} (h:l.isEmpty=true):l= []:=by cases l<;>simp at h ⊢
theorem b_.fresh (h:b_ ap g m S w) {nid:Nat} (i:g nid=none) (B:aU) (f:B.esz ≠ je) (c:Nat) {w':World} {cur:Array Value} {e:TypeId} (b:w.grownBy w' none) (a:w'.heap[w.heap.size]? =some (.cells cur e (0,0)))
  (hver:B.fro=false->B.fz=0) (hfz:B.fz<=B.cells.length) {vs rest:List Value} (hc:cur.toList=vs++rest) (hp:B.pr=true->bT S B.cells vs) (d:bu g m S B.cells vs) (h1:∀ u ∈ vs,u.oneCell'=true) (hcap:0<B.esz->cur.size=c*B.esz/\c<=maxLen):
  b_ ap (dR g [(nid,B)]) (lU m nid (w.heap.size,c)) S w'/\Fr g m S w (dR g [(nid,B)]) (lU m nid (w.heap.size,c)) S w':=by
 refine h.put nid B w.heap.size c (.inl (κ _)) ⟨b.os,b.tape,b.output,b.size,λk j _=>b.block k j (by simp)⟩ ⟨⟨cur,e,vs,rest,kK.of f a,hc,hp,d,λ_=>h1,λh0 _=>hcap h0⟩,hver,hfz⟩ (λB0 h0=>by rw [i] at h0;cases h0) ?_;intro o v d;have:=h.seal_lt d;omega
theorem Ky (h:b_ ap g m S w) {nid:Nat} (c:g nid=none) {cells:List AV} {cv:Value} (a:bu g m S cells cv.cells.toList) (_hl:∀ x ∈ cells,qQ x=true) (f:∀ u ∈ cv.cells,u.oneCell'=true) (t:TypeId):
  ∃ m' w',(newVar t cv).run P w= .ok ⟨w.heap.size,0,none⟩ w'/\b_ ap (dR g [jI nid cells 0]) m' S w'/\Fr g m S w (dR g [jI nid cells 0]) m' S w'/\(m' nid).1=w.heap.size:=by
 have b:=h.fresh (nid:=nid) c (jI nid cells 0).2 (by show 0 ≠ je;decide) 0 (w':=w.alloc (.cells cv.cells t)) (cur:=cv.cells) (e:=t) (World.grownBy_alloc w _ none) (heap_alloc_new w _) (λ_=>rfl) (Xq7 _) (vs:=cv.cells.toList) (rest:= []) (by simp)
  (λhp=>gm _ a (um hp)) a (λu d=>f u (by simpa using d)) (λh=>by simp [jI] at h)
 refine ⟨_,_, ?_,b.1,b.2,by simp [lU]⟩;simp [newVar,newRow]
theorem Vq {b:aW} {nid:Nat} {cells:List AV} {a k:Nat} (c:(b nid).1=k):VR (dR g [jI nid cells a]) b S (.ptr nid 0 0) (.pointer (some ⟨k,0,none⟩)):=by
 simp only [VR];refine ⟨(jI nid cells a).2, ?_,Xq7 _,⟨_,_,rfl⟩,λ_=>by rw [c]⟩;show dR g [(nid,(jI nid cells a).2)] nid=_;rw [o_,if_pos rfl]
theorem Ot (h:b_ ap g m S w) {rd:dK} (L:∀ b B,rd b=some B->g b=some B) {t:Nat} {ti:TI} {i:TypeInfo} {d:TypeDesc} {z:Value} (V:FP P t ti i d z) {p x v:AV} {T c:Value} (hp:VR g m S p T) (hx:VR g m S x c)
  {ups:List (Nat × aU)} {bs:List Bool} (hs:Uh ti rd p x=some (v,ups,bs)) (hbs:∀ b ∈ bs,b=true):
  v= .dead/\∃ m' w',(Instr.storeAt t T c).run P w= .ok () w'/\b_ ap (dR g ups) m' S w'/\Fr g m S w (dR g ups) m' S w':=by
 unfold Uh at hs;split at hs
 .rename_i b ver a;have hq:=bind_some hs;clear hs;obtain ⟨B,X,hs⟩:=hq;simp only at hs;split at hs
  .rename_i M;simp only [τ,Xqs] at M;obtain ⟨⟨⟨⟨Z,c2⟩,c3⟩,c4⟩,U⟩:=M;have l:B.esz ≠ je:=λe=>by rw [e] at U;exact absurd U (by decide)
   cases hs;have j:=L b B X;have F:=aN Z;have N:=aN c3;have O:=gG (hbs _ (List.mem_singleton.2 rfl));simp only [VR] at hp;obtain ⟨B',E,_,_,q⟩:=hp;rw [j] at E;cases E;have q:=q F;subst q;obtain ⟨A,I⟩:=GR hx (λy hy=>List.all_eq_true.1 c4 y hy);obtain ⟨⟨cur,e,vs,rest,K,W,k3,R,J,Y⟩,k7,k8⟩:=h.blk b B j;have K:=K.cells l;have J:=J l;have s:=di A;have Q:=di R;have H:c.cells.size=i.size:=by simp only [Array.length_toList] at s;rw [<- V.size];omega
   have C:cur.toList.length=vs.length+rest.length:=by rw [W];simp
   have G:=run_storeCells_at P (m b).1 a e c.cells.toList 0 cur w K (by simp only [Array.length_toList] at s C ⊢;omega) (λu f=>I u (by simpa using f));simp only [Xq4] at G;have hnewl:(cur.toList.take a++c.cells.toList++cur.toList.drop (a+c.cells.toList.length))=(vs.take a++c.cells.toList++vs.drop (a+c.cells.toList.length))++rest:=by
    rw [W,Xjb (by omega),List.drop_append_of_le_length (by omega)];simp [Xqe]
   have n:=h.put b {B with cells:=setCells B.cells a x.cells,pr:=B.pr && (cZ x.cells).isEmpty} (m b).1 (m b).2 (w':=w.setRow (m b).1 (cur.toList.take a++c.cells.toList++cur.toList.drop (a+c.cells.toList.length)).toArray)
    (.inr ⟨B,j,rfl⟩) ⟨rfl,rfl,rfl,by simp,λk _ hk=>setRow_other w _ k _ (λe=>hk (by rw [e]))⟩
    ⟨⟨_,e,vs.take a++c.cells.toList++vs.drop (a+c.cells.toList.length),rest,kK.of l (setRow_heap w _ cur _ e _ K),by rw [Xvo,hnewl],λr=>by
      simp only [τ] at r;exact acZ (k3 r.1) (gm _ A (um r.2)),Uy R A,by
      intro _ u f;rcases List.mem_append.1 f with f|f
      .rcases List.mem_append.1 f with f|f
       .exact J u (Xj6 f)
       .exact I u (by simpa using f)
      .exact J u (Xzq f),λD _=>by
      obtain ⟨s1,s2⟩:=Y D l;refine ⟨?_,s2⟩;rw [<- s1,Xxh];simp only [ν,Xqz,Xx4,Array.length_toList] at s C ⊢;omega⟩,k7,by
     have:(setCells B.cells a x.cells).length=B.cells.length:=by simp only [setCells,ν,Xqz,Xx4];omega
     simp only [this];exact k8⟩
    (λB0 h0=>by rw [j] at h0;cases h0;exact ⟨rfl,.inl ⟨rfl,rfl⟩⟩)
    (λo v hv=>by
     have:=(h.own b B j o v hv).1;rw [c2] at this;cases this)
   refine ⟨rfl,_,_, ?_,n.1,n.2⟩;have hn:¬ (c.cells.size ≠ i.size):=by simp [H]
   simp [Instr.storeAt,Instr.sureAddr,storeVar,Go.sizeOf,typeInfo,V.info,H,G]
  .cases hs
 .cases hs
end
end AM
namespace AM
open Go
section
variable {P:Program} {ap:AP} {g:dK} {m:aW} {S:aO} {w:World}
theorem qp (g:dK) (b:Nat) (B:aU):dR g [(b,B)] b=some B:=by rw [o_,if_pos rfl]
theorem Ie {w w':World} (h:w.grownBy w' none) (r:Option Nat):w.grownBy w' r:=⟨h.os,h.tape,h.output,h.size,λk a _=>h.block k a (by simp)⟩
theorem qM (w:World) (o:Obj):w.grownBy (w.drew.alloc o) none:=⟨rfl,rfl,rfl,by simp,λk a _=>Go.RowKit.Below.heap_alloc w.drew o k a⟩
theorem zo {t tx ty e:TypeId} {i:TypeInfo} (c:P.underlying t=some (.slice e)) (d:P.info? e=some i) {x:Value} {a:List Value} (hs:Src P i.size tx x 0 a w):
  (Builtin.append_ #[t,tx] ty #[.slice none 0 0,x]).run P w= .ok (.slice none 0 0) w:=by
 rcases hs.kind with ⟨e',b⟩|b<;>simp [Builtin.append_,run_underlying c,run_underlying b,Go.sizeOf,typeInfo,d,hs.len,hs.cells]
theorem zq {t tx ty e:TypeId} {i:TypeInfo} (f:P.underlying t=some (.slice e)) (h:P.info? e=some i) {k o sLen sCap n:Nat} {x:Value} {a:List Value} (hs:Src P i.size tx x n a w) (hroom:sLen+n<=sCap)
  {cur:Array Value} {e':TypeId} (hk:w.heap[k]? =some (.cells cur e' (0,0))) (hfit:o+sLen*i.size+a.length<=cur.size):
  (Builtin.append_ #[t,tx] ty #[.slice (some ⟨k,o,none⟩) sLen sCap,x]).run P w= .ok (.slice (some ⟨k,o,none⟩) (sLen+n) sCap) (w.setRow k (cur.toList.take (o+sLen*i.size)++a++cur.toList.drop (o+sLen*i.size+a.length)).toArray):=by
 have b:=run_storeCells_at P k (o+sLen*i.size) e' a 0 cur w hk (by simpa using hfit) hs.one;simp only [Xq4] at b;rcases hs.kind with ⟨d,c⟩|c<;>simp [Builtin.append_,run_underlying f,run_underlying c,Go.sizeOf,typeInfo,h,hs.len,hroom,hs.cells,Addr.add_mid,b]
theorem Qo (b:Nat):LD b<=Qp:=by
 unfold LD;split
 .exact κ _
 .decide
theorem Et {n a bytes tb:Nat} (h:a<n) (b:n<=LD tb) (d:bytes=tb) (f:bytes<=256):Builtin.nextslicecap n a*bytes<=281474976710656:=by
 refine growslice_fits h ?_;subst d;unfold LD at b;split at b
 .rename_i c;have i:=Nat.le_of_ble_eq_true c;have:n*bytes<=Qp*128:=Xwe b i;have e:Qp*128=140737488355328:=by decide
  omega
 .have:n*bytes<=549755813888*256:=Xwe b f;omega
theorem CP:Qp=1099511627776:=by decide
theorem FI {t tx ty e:TypeId} {i:TypeInfo} (d:P.underlying t=some (.slice e)) (f:P.info? e=some i) {x:Value} {base:Option Addr} {sLen sCap:Nat} (hs:Src P i.size tx x 0 [] w) (c:sLen<=sCap):
  (Builtin.append_ #[t,tx] ty #[.slice base sLen sCap,x]).run P w= .ok (.slice base sLen sCap) w:=by
 cases base with
 |none=>rcases hs.kind with ⟨e',b⟩|b<;>simp [Builtin.append_,run_underlying d,run_underlying b,Go.sizeOf,typeInfo,f,hs.len,hs.cells,c]
 |some a=>rcases hs.kind with ⟨e',b⟩|b<;>simp [Builtin.append_,run_underlying d,run_underlying b,Go.sizeOf,typeInfo,f,hs.len,hs.cells,c,storeCells]
theorem zB (h:b_ ap g m S w) {rd:dK} (R:∀ b B,rd b=some B->g b=some B) {nid:Nat} (hn:g nid=none) {t tx e:Nat} {ti l:TI} {i G:TypeInfo} {z M:Value} {de:TypeDesc} (ht:FP P t ti i (.slice e) z) (r:FP P e l G de M)
  {s x v:AV} {cs cx:Value} (hvs:VR g m S s cs) (hvx:VR g m S x cx)
  (hk:((∃ s,x= .str s)/\P.underlying tx=some .string/\l.size=1)\/((∀ s,x ≠ .str s)/\∃ e,P.underlying tx=some (.slice e)))
  {em:Bool} (O:s= .nilS->∃ n,Ae x=some n/\Xqk n 0=em)
  {ups:List (Nat × aU)} {bs:List Bool} (E:Be nid l rd em s x=some (v,ups,bs)) (y:∀ b ∈ bs,b=true) (ty:Nat):
  ∃ cv m' w',(Builtin.append_ #[t,tx] ty #[cs,cx]).run P w= .ok cv w'/\b_ ap (dR g ups) m' S w'/\Fr g m S w (dR g ups) m' S w'/\VR (dR g ups) m' S v cv:=by
 have hcount:∀ L n pr,QI l.size rd x=some (L,n,pr)->Ae x=some n:=by
  intro L n pr a;unfold QI at a;split at a
  .cases a;rfl
  .cases a;rfl
  .cases a;rfl
  .have hq:=bind_some a;clear a;obtain ⟨B,hB,a⟩:=hq;split at a
   .cases a;rfl
   .cases a
  .cases a
 unfold Be at E;have hq:=bind_some E;clear E;obtain ⟨⟨L,n,pr⟩,a,E⟩:=hq;simp only at E;split at E
 .cases E
 .rename_i Z;simp only [τ] at Z;have hsz:=gI Z.1;have hby:=gG Z.2;have d:l.size=G.size:=r.size;have U:l.size ≠ je:=λe=>by have:=r.small;omega
  have hby':l.bytes=G.bytes:=r.bytes;have hzs:M.cells.size=G.size:=r.zsize;split at E
  ·
   obtain ⟨n',hc',O⟩:=O rfl;rw [hcount _ _ _ a] at hc';cases hc';simp only [VR,PR] at hvs;subst hvs;split at E
   ·
    obtain ⟨rfl,rfl,rfl⟩:=aS E;have Q:n=0:=aN O;subst Q;have hl:=aN (y _ (List.mem_singleton.2 rfl));obtain ⟨c,hs,hv,hp⟩:=ww (P:=P) h R hvx a hl hk;rw [d] at hs;exact ⟨_,m,w,zo ht.und r.info hs,by rw [fP];exact h,by rw [fP];exact Fr.refl _ _ _ _,by simp [VR,PR]⟩
   ·
    cases E;obtain ⟨b1,y⟩:=dG y;obtain ⟨b2,_⟩:=dG y;have hl:=aN b1;have hroomB:=gG b2;have hroom:=Xqr hroomB (Qo _);have Q:n ≠ 0:=by intro e;subst e;simp at O
    obtain ⟨c,hs,hv,hp⟩:=ww (P:=P) h R hvx a hl hk;rw [d] at hs;have f:=run_append_grow_src w t tx ty e G M ht.und r.info r.zero none 0 0 [] (run_firstCells_none w.drew _ _ _ _) cx n c hs (by omega) (by rw [CP] at hroom;omega) (Et (by omega) (by simpa using hroomB) (by omega) (by omega));have V:n<=grownCap w n 0 e:=grownCap_ge _ _ _ _;have hle:grownCap w n 0 e<=maxLen:=grownCap_le_maxLen _ _ _ _ (by rw [CP] at hroom;simp only [maxLen];omega);simp only [Δ] at f;have hf:=h.fresh (nid:=nid) hn ⟨L,0,false,0,l.size,pr⟩ U (grownCap w n 0 e) (cur:=([]++c).toArray++Builtin.zeroCells M.cells (grownCap w n 0 e - n)) (e:=e) (qM w _) (heap_alloc_new w.drew _) (λ_=>rfl) (Xq7 _)
     (vs:=c) (rest:=(Builtin.zeroCells M.cells (grownCap w n 0 e - n)).toList) (by simp) hp hv hs.one (λ_=> ⟨by
      simp only [Array.size_append,Xxh,Xqc,size_zeroCells,hs.newsLen,hzs,d];rw [<- Xxy];congr 1;omega,hle⟩)
    refine ⟨_,_,_,f,hf.1,hf.2, ?_⟩;simp only [VR];refine ⟨_,qp _ _ _,κ _,⟨_,_,_,rfl⟩,λ_=> ⟨0, ?_, ?_, ?_,hsz,U⟩⟩
    .simp [lU]
    .simpa [lU] using V
    .simp
  .rename_i b ver mN;have hq:=bind_some E;clear E;obtain ⟨B,hB,E⟩:=hq;split at E
   .rename_i F;simp only [τ,Xqs] at F;have hver:=aN F.1.1;have T:=aN F.1.2;have A:B.esz ≠ je:=λe=>by rw [e] at F;exact absurd F.2 (by decide)
    cases E;obtain ⟨b1,y⟩:=dG y;obtain ⟨b2,y⟩:=dG y;obtain ⟨b3,y⟩:=dG y;obtain ⟨b4,_⟩:=dG y;have hl:=aN b1;have hroomB:=gG b2;have hroom:=Xqr hroomB (Qo _);have hfit:=gG b3;have D:=R b B hB;simp only [VR] at hvs;obtain ⟨B',hB',_,_,q⟩:=hvs;rw [D] at hB';cases hB';obtain ⟨o,rfl,hcap,ho,H,hnz1⟩:=q hver;simp only [Δ,Nat.sub_zero,Nat.zero_mul] at hcap ho ⊢;obtain ⟨c,hs,hv,hp⟩:=ww (P:=P) h R hvx a hl hk;rw [d] at hs;have hbk:=h.blk b B D;obtain ⟨⟨cur,e',vs,rest,N,k2,k3,k4,k5,k6⟩,k7,k8⟩:=hbk;have N:=N.cells A;have k5:=k5 A;obtain ⟨s1,s2⟩:=k6 H A;have hvl:=di k4;have hcl:cur.toList.length=vs.length+rest.length:=by rw [k2];simp
    simp only [Array.length_toList] at hcl;have hfz:B.fz<=mN*l.size:=by
     cases hf:B.fro with
     |false=>rw [k7 hf];exact Xq7 _
     |true=>simp [hf] at b4;exact gG (by simpa using b4)
    have holds:bT S (B.cells.take (mN*l.size)) (vs.take (mN*l.size))\/B.pr=false:=by
     cases hp:B.pr with
     |false=>exact .inr rfl
     |true=>exact .inl (lW _ (k3 hp))
    have J:(vs.take (mN*l.size)).length=mN*G.size:=by rw [Xqz,d] at*;omega
    have W:bu g m S (B.cells.take (mN*l.size)++L) (vs.take (mN*l.size)++c):=iq (uf _ k4) hv;have X:(B.pr && pr)=true->bT S (B.cells.take (mN*l.size)++L) (vs.take (mN*l.size)++c):=by
     intro hh;simp only [τ] at hh;exact ny (lW _ (k3 hh.1)) (hp hh.2)
    have h1:∀ u ∈ vs.take (mN*l.size)++c,u.oneCell'=true:=by
     intro u C;rcases List.mem_append.1 C with C|C
     .exact k5 u (Xj6 C)
     .exact hs.one u C
    have I:B.fz<=(B.cells.take (mN*l.size)++L).length:=by
     rw [ν,Xqz];omega
    by_cases hrm:mN+n<=(m b).2
    ·
     by_cases hc0:(m b).2=0
     .have hm0:mN=0:=by omega
      have Q:n=0:=by omega
      subst hm0;subst Q;have hnews:c= []:=by have:=hs.newsLen;simpa using this
      subst hnews;have f:=FI (P:=P) (w:=w) (ty:=ty) (base:=some ⟨(m b).1,o,none⟩) (sLen:=0) (sCap:=(m b).2) ht.und r.info hs (by omega);have p:=h.put b {B with cells:=B.cells.take (0*l.size)++L,ver:=ver+1,pr:=B.pr && pr} (m b).1 (m b).2 (w':=w) (.inr ⟨B,D,rfl⟩) ⟨rfl,rfl,rfl,κ _,λ_ _ _=>rfl⟩
       ⟨⟨cur,e',_,vs.drop (0*l.size)++rest,kK.of A N,by rw [k2];simp,X,W,λ_=>h1,k6⟩,k7,I⟩ (λB0 h0=>by rw [D] at h0;cases h0;exact ⟨rfl,.inr (by simp only;omega)⟩)
       (λo' u C=> ⟨h.sealed _ _ _ C,(h.own b B D o' u C)⟩)
      refine ⟨_,_,_,f,p.1,p.2, ?_⟩;simp only [VR];refine ⟨_,qp _ _ _,κ _,⟨_,_,_,rfl⟩,λ_=> ⟨o,by simp [lU],by simp,by simp [lU,hc0],H,A⟩⟩
     .have Y:o=0:=ho (by omega);subst Y;have hnl:=hs.newsLen;have hbig:mN*G.size+n*G.size<=(m b).2*G.size:=by rw [<- Xxy];exact Nat.mul_le_mul_right _ hrm
      have hcs:cur.size=(m b).2*G.size:=by rw [s1,T,d]
      have f:=zq (P:=P) (w:=w) (ty:=ty) (o:=0) ht.und r.info hs hrm N (by simp only [Δ];omega);simp only [Δ] at f;have hlist:cur.toList.take (mN*G.size)=vs.take (mN*l.size):=by rw [k2,d,Xjb (by rw [d] at hfit;omega)]
      have p:=h.put b {B with cells:=B.cells.take (mN*l.size)++L,ver:=ver+1,pr:=B.pr && pr} (m b).1 (m b).2 (w':=w.setRow (m b).1 (cur.toList.take (mN*G.size)++c++cur.toList.drop (mN*G.size+c.length)).toArray)
       (.inr ⟨B,D,rfl⟩) ⟨rfl,rfl,rfl,by simp,λk _ hk=>setRow_other w _ k _ (λe=>hk (by rw [e]))⟩
       ⟨⟨_,e',_,cur.toList.drop (mN*G.size+c.length),kK.of A (setRow_heap w _ cur _ e' _ N),by rw [hlist],X,W,λ_=>h1,λ_ _=> ⟨by
        rw [<- s1,Xxh];simp only [ν,Xqz,Xx4,Array.length_toList];omega,s2⟩⟩,k7,I⟩ (λB0 h0=>by rw [D] at h0;cases h0;exact ⟨rfl,.inr (by simp only;omega)⟩)
       (λo' u C=>by
        obtain ⟨f1,f2⟩:=h.own b B D o' u C;refine ⟨?_,f1,f2⟩;have:=h.sealed _ _ _ C;cases K:u.oneCell' with
        |false=>
         obtain ⟨_,_,hm,_⟩:=yH this K;rw [N] at hm;cases hm
        |true=>
        have this:=nH this K;rw [xy N] at this;refine (kK.of A (setRow_heap w _ cur _ e' _ N)).get ?_ (λ_=>K);simp only [Xqe];rw [Xxf (by simp only [Xqz,Array.length_toList];rw [d] at hfz;omega),List.getElem?_take_of_lt (by rw [d] at hfz;omega)];exact this)
      refine ⟨_,_,_,f,p.1,p.2, ?_⟩;simp only [VR];refine ⟨_,qp _ _ _,κ _,⟨_,_,_,rfl⟩,λ_=> ⟨0,by simp [lU],by simpa [lU] using hrm,by simp,H,A⟩⟩
    ·
     have hold:(Builtin.firstCells G.size mN (.slice (some ⟨(m b).1,o,none⟩) mN (m b).2)).run P w.drew= .ok (vs.take (mN*l.size)).toArray w.drew:=by
      refine run_firstCells_some w.drew G.size mN ⟨(m b).1,o,none⟩ mN _ _ J ?_;intro j u C;have hjl:=(List.getElem?_eq_some_iff.1 C).1;rw [J] at hjl;have hm0:0<mN:=by
       rcases Nat.eq_zero_or_pos mN with h0|h0
       .subst h0;simp at hjl
       .exact h0
      have Y:o=0:=ho (by omega);subst Y;rw [Addr.add_mid,Δ,xy (w:=w.drew) (j:=j) N,k2];rw [Xjq] at C;split at C
      .rw [Xxf (List.getElem?_eq_some_iff.1 C).1];exact C
      .cases C
     have f:=run_append_grow_src w t tx ty e G M ht.und r.info r.zero (some ⟨(m b).1,o,none⟩) mN (m b).2 _ hold cx n c hs (by omega) (by rw [CP] at hroom;omega) (Et (by omega) hroomB (by omega) (by omega));have V:mN+n<=grownCap w (mN+n) (m b).2 e:=grownCap_ge _ _ _ _;have hle:grownCap w (mN+n) (m b).2 e<=maxLen:=grownCap_le_maxLen _ _ _ _ (by rw [CP] at hroom;simp only [maxLen];omega);have p:=h.put b {B with cells:=B.cells.take (mN*l.size)++L,ver:=ver+1,pr:=B.pr && pr} w.heap.size (grownCap w (mN+n) (m b).2 e) (.inl (κ _))
      (Ie (qM w (.cells ((vs.take (mN*l.size)++c).toArray++Builtin.zeroCells M.cells (grownCap w (mN+n) (m b).2 e - (mN+n))) e)) _)
      ⟨⟨(vs.take (mN*l.size)++c).toArray++Builtin.zeroCells M.cells (grownCap w (mN+n) (m b).2 e - (mN+n)),e,_,(Builtin.zeroCells M.cells (grownCap w (mN+n) (m b).2 e - (mN+n))).toList,kK.of A (heap_alloc_new w.drew _),by simp,X,W,λ_=>h1,λ_ _=> ⟨by
       simp only [Array.size_append,Xxh,ν,size_zeroCells,hs.newsLen,hzs];rw [J,T,d,<- Xxy,<- Xxy];congr 1;omega,hle⟩⟩,k7,I⟩ (λB0 h0=>by rw [D] at h0;cases h0;exact ⟨rfl,.inr (by simp only;omega)⟩)
      (λo' u C=>absurd (h.seal_lt C) (Xkc _))
     refine ⟨_,_,_,f,p.1,p.2, ?_⟩;simp only [VR];refine ⟨_,qp _ _ _,κ _,⟨_,_,_,rfl⟩,λ_=> ⟨0,by simp [lU],by simpa [lU] using V,by simp,H,A⟩⟩
   .cases E
  .cases E
end
end AM
namespace AM
open Go
theorem EX (n:Nat) (z:List AV):(gB n z).length=n*z.length:=by simp [gB]
theorem XV (n:Nat) (z:List AV):gB (n+1) z=z++gB n z:=by simp [gB,Xxc]
theorem Qm:∀ (n:Nat) (z:List AV) (i:Nat),i<n*z.length->(gB n z)[i]? =z[i % z.length]?
 |0,z,i,h=>by simp at h
 | n+1,z,i,h=>by
  rw [XV];by_cases a:i<z.length
  .rw [Xxf a,Nat.mod_eq_of_lt a]
  .have a:z.length<=i:=by omega
   rw [List.getElem?_append_right a,Qm n z (i - z.length) (by rw [Xxy,Nat.one_mul] at h;omega)];congr 1;rw [<- Nat.mod_eq_sub_mod a]
section
variable {P:Program} {ap:AP} {g:dK} {m:aW} {S:aO} {w:World}
theorem GN:∀ {l:List AV} {vs:List Value},l.length=vs.length->(∀ (i:Nat) x v,l[i]? =some x->vs[i]? =some v->VR g m S x v)->bu g m S l vs
 | [],[],_,_=>by simp [bu]
 |x::r,v::vs,hl,h=>by
  simp only [bu];exact ⟨h 0 x v rfl rfl,GN (by simpa using hl) λi x v b a=>h (i+1) x v (by simpa using b) (by simpa using a)⟩
 | [],_::_,h,_=>by simp at h
 |_::_,[],h,_=>by simp at h
theorem DW (z:Array Value) (n:Nat):(madeCells z n).toList=(List.range n).map λi=>z[i % z.size]! :=by simp [madeCells]
theorem zH {t:Nat} {ti:TI} {i:TypeInfo} {d:TypeDesc} {z:Value} (c:FP P t ti i d z) (n:Nat):bu g m S (gB n ti.zero) (madeCells z.cells (n*i.size)).toList:=by
 have k:=ug (g:=g) (m:=m) (S:=S) c;have a:=di k;simp only [Array.length_toList,c.zsize] at a;refine GN (by rw [EX,a,Array.length_toList,size_madeCells]) ?_;intro j x v f e;have h:j<n*i.size:=by
  have:=(List.getElem?_eq_some_iff.1 f).1;rw [EX,a] at this;exact this
 rw [Qm n ti.zero j (by rw [a];exact h),a] at f;rw [DW,c.zsize,Xqw,List.getElem?_range h] at e;simp only [Xjm,Option.some.injEq] at e;obtain ⟨p,b,o⟩:=uZ k _ f;have l:j % i.size<z.cells.size:=by rw [c.zsize];exact Nat.mod_lt _ c.pos
 simp only [Array.getElem?_toList] at b;rw [getElem!_pos z.cells _ l] at e;rw [Array.getElem?_eq_getElem l] at b;cases b;rw [<- e];exact o
theorem Lt {n:Nat} {z:List AV} (h:∀ x ∈ z,qQ x=true):∀ x ∈ gB n z,qQ x=true:=by
 intro x a;simp only [gB,List.mem_flatten,List.mem_replicate] at a;obtain ⟨l,⟨_,rfl⟩,a⟩:=a;exact h x a
theorem FQ:∀ {l:List AV} {vs:List Value},bu g m S l vs->(∀ x ∈ l,qQ x=true)->∀ u ∈ vs,u.oneCell'=true
 | [],[],_,_=>by simp
 |x::r,v::vs,h,hl=>by
  simp only [bu] at h;intro u a;rcases List.mem_cons.1 a with rfl|a
  .exact Rl h.1 (hl x (by simp))
  .exact FQ h.2 (λy b=>hl y (by simp [b])) u a
 | [],_::_,h,_=>by simp [bu] at h
 |_::_,[],h,_=>by simp [bu] at h
theorem NL {b vs:List AV} {a:Nat} {x:AV} (h:x ∈ setCells b a vs):x ∈ b\/x ∈ vs:=by
 simp only [setCells,List.mem_append] at h;rcases h with (h|h)|h
 .exact .inl (Xj6 h)
 .exact .inr h
 .exact .inl (Xzq h)
theorem H5:∀ {ps:List (Nat × Nat × AV)} {cells cells':List AV},zD cells ps=some cells'->(∀ x ∈ cells,qQ x=true)->∀ x ∈ cells',qQ x=true
 | [],cells,cells',h,hl=>by simp [zD] at h;subst h;exact hl
 | (off,size,v)::r,cells,cells',h,hl=>by
  simp only [zD] at h;split at h
  .rename_i b;simp only [τ] at b;refine H5 h λx a=> ?_
   rcases NL a with a|a
   .exact hl x a
   .exact List.all_eq_true.1 b.2 x a
  .cases h
theorem Vu {nid:Nat} {cells:List AV} {a k c n:Nat} (d:n<=c) (hp:0<a) (b:a ≠ je):VR (dR g [jI nid cells a]) (lU m nid (k,c)) S (.ref nid 0 0 n) (.slice (some ⟨k,0,none⟩) n c):=by
 simp only [VR];refine ⟨_,qp _ _ _,Xq7 _,⟨_,_,_,rfl⟩,λ_=> ⟨0,by simp [lU],by simpa [lU] using d,by simp,hp,b⟩⟩
theorem vX:∀ (a b:List AV),cZ (a++b)=cZ a++cZ b
 | [],b=>by simp [cZ]
 |x::r,b=>by simp [cZ,vX r b]
theorem Ls (z:List AV) (h:cZ z= []):∀ n,cZ (gB n z)= []
 |0=>by simp [gB,cZ]
 |n+1=>by
  have a:=Ls z h n;simp only [gB,Xxc,List.flatten_cons,vX,h,Xqc] at a ⊢;exact a
theorem Tt (nid n a:Nat) (z:List AV) (h:(cZ z).isEmpty=true):(nid,(⟨gB n z,0,false,0,a,true⟩:aU))=jI nid (gB n z) a:=by
 have b:cZ z= []:=by simpa using h
 simp [jI,Ls z b n]
theorem DX (B:iy P ap) (h:b_ ap g m S w) {nid:Nat} (R:g nid=none) {t:Nat} {ti:TI} {i:TypeInfo} {d:TypeDesc} {z:Value} (M:FP P t ti i d z) {l c:AV} {cl L:Value} (J:VR g m S l cl) (H:VR g m S c L)
  {v:AV} {ups:List (Nat × aU)} {bs:List Bool} (k:Am ap nid ti l c=some (v,ups,bs)) (j:∀ b ∈ bs,b=true):
  ∃ cv m' w',(Instr.makeSlice t cl L).run P w= .ok cv w'/\b_ ap (dR g ups) m' S w'/\Fr g m S w (dR g ups) m' S w'/\VR (dR g ups) m' S v cv:=by
 unfold Am at k;split at k
 .rename_i e kl l O c hd;have Q:=bind_some k;clear k;obtain ⟨q,a,k⟩:=Q;obtain ⟨n,U,A,a⟩:=dQ B a;split at k
  .rename_i f;simp only [τ] at f;have F:=f.2;have f:=f.1;have r:=gI f.1.1;have C:=gG f.2;rw [Tt _ _ _ _ F] at k;cases k;obtain ⟨s,j⟩:=dG j;obtain ⟨E,j⟩:=dG j;obtain ⟨N,_⟩:=dG j;have s:0<=l:=of_decide_eq_true s;have E:l=c:=of_decide_eq_true E;have N:l<=2^40:=of_decide_eq_true N;subst E;simp only [VR,PR] at J H;subst J;subst H;rw [M.d_eq] at hd;have hd:=g_ hd;subst hd;have p:(n.bytes:Int)*l<=281474976710656:=by
    have G:(n.bytes:Int)<=128:=by rw [<- a.bytes];exact_mod_cast C
    have K:(n.bytes:Int)*l<=128*l:=Int.mul_le_mul_of_nonneg_right G s;have T:(2:Int)^40=1099511627776:=by decide
    omega
   have u:l<=9223372036854775807:=by
    have T:(2:Int)^40=1099511627776:=by decide
    omega
   have o:=run_make (P:=P) w t e n A M.und a.info a.zero kl O l l s (Int.le_refl _) p u;have D:bu g m S (gB l.toNat q.zero) (madeCells A.cells (l.toNat*n.size)).toList:=zH a _;have y:∀ x ∈ gB l.toNat q.zero,qQ x=true:=Lt a.zleaf;have I:=h.fresh (nid:=nid) R (jI nid (gB l.toNat q.zero) q.size).2 (by have G:=a.small;have K:=a.size;show q.size ≠ je;omega) l.toNat (w':=w.alloc (.cells (madeCells A.cells (l.toNat*n.size)) e)) (World.grownBy_alloc w _ none) (heap_alloc_new w _) (λ_=>rfl) (Xq7 _)
    (rest:= []) (by rw [Xqd]) (λhp=>gm _ D (um hp)) D (FQ D y) (λ_=> ⟨by rw [size_madeCells];simp [jI,a.size],by simp only [maxLen];omega⟩)
   refine ⟨_,_,_,o,I.1,I.2, ?_⟩;exact Vu (κ _) r (by have G:=a.small;have K:=a.size;omega)
  .cases k
 .cases k
theorem Jr {t e:TypeId} {i:TypeInfo} {z:Value} (d:P.underlying t=some (.slice e)) (h:P.info? e=some i) (b:i.zero=some z) {len:Nat} (c:len*i.size<=2^24) (h0:len*i.size ≠ 0) {parts:Array (Nat × Value)} {cells:Array Value}
  (hf:Instr.fill (λf=>some (f*i.size,i.size)) (madeCells z.cells (len*i.size)) parts.toList=some cells):
  (Instr.buildSlice t len parts).run P w= .ok (.slice (some ⟨w.heap.size,0,none⟩) len len) (w.alloc (.cells cells e)):=by
 have a:¬ (len*i.size>2^24):=by omega
 unfold madeCells at hf;simp only [Instr.buildSlice,Sem.run_bind,run_underlying d,Result.andThen_ok];simp [Go.sizeOf,typeInfo,h,zeroValue,b,h0,newRow];rw [if_neg (by simpa using a)];simp [hf]
theorem FK {t e:TypeId} {i:TypeInfo} (b:P.underlying t=some (.slice e)) (c:P.info? e=some i) {len:Nat} (h0:len*i.size=0) {parts:Array (Nat × Value)} {cells:Array Value}
  (hf:Instr.fill (λa=>some (a*i.size,i.size)) #[] parts.toList=some cells):
  (Instr.buildSlice t len parts).run P w= .ok (.slice (some ⟨w.heap.size,0,none⟩) len len) (w.alloc (.cells cells e)):=by
 simp [Instr.buildSlice,run_underlying b,Go.sizeOf,typeInfo,c,h0,newRow,Array.range_zero',hf]
theorem Bh (s:iy P ap) (h:b_ ap g m S w) {nid:Nat} (H:g nid=none) {t:Nat} {ti:TI} {i:TypeInfo} {d:TypeDesc} {z:Value} (C:FP P t ti i d z) {len:Nat} {ps:List (Nat × AV)} {qs:Array (Nat × Value)} (G:A_ g m S ps qs.toList)
  {v:AV} {ups:List (Nat × aU)} {bs:List Bool} (b:xw ap nid ti len ps=some (v,ups,bs)):
  ∃ cv m' w',(Instr.buildSlice t len qs).run P w= .ok cv w'/\b_ ap (dR g ups) m' S w'/\Fr g m S w (dR g ups) m' S w'/\VR (dR g ups) m' S v cv:=by
 unfold xw at b;split at b
 .rename_i e hd;have f:=bind_some b;clear b;obtain ⟨n,a,b⟩:=f;obtain ⟨A,K,F,a⟩:=dQ s a;split at b
  .rename_i k;simp only [τ] at k;have c:=gI k.1.1;have u:=gG k.1.2;have f:=bind_some b;clear b;obtain ⟨cs,o,b⟩:=f;cases b;rw [C.d_eq] at hd;have hd:=g_ hd;subst hd;have q:bu g m S (gB len n.zero) (madeCells F.cells (len*A.size)).toList:=zH a _;obtain ⟨j,p,y,I⟩:=sH _ qs.toList _ cs _ (vS (size:=n.size) G) q o;rw [a.size] at p;have l:(Instr.buildSlice t len qs).run P w= .ok (.slice (some ⟨w.heap.size,0,none⟩) len len) (w.alloc (.cells j e)):=by
    by_cases h0:len*A.size=0
    .exact FK C.und a.info h0 (by rw [h0] at p;simpa [madeCells,Array.range_zero'] using p)
    .exact Jr C.und a.info a.zero (by rw [<- a.size];exact u) h0 p
   have r:∀ x ∈ cs,qQ x=true:=H5 o (Lt a.zleaf);have B:j.size=len*A.size:=by rw [I,size_madeCells]
   have E:=h.fresh (nid:=nid) H (jI nid cs n.size).2 (by have D:=a.small;have J:=a.size;show n.size ≠ je;omega) len (w':=w.alloc (.cells j e)) (World.grownBy_alloc w _ none) (heap_alloc_new w _) (λ_=>rfl) (Xq7 _)
    (rest:= []) (by rw [Xqd]) (λhp=>gm _ y (um hp)) y (FQ y r) (λ_=> ⟨by rw [B];simp [jI,a.size],by
     have D:len<=len*n.size:=Nat.le_mul_of_pos_right _ c;have L:(2:Nat)^24=16777216:=by decide
     simp only [maxLen];omega⟩)
   refine ⟨_,_,_,l,E.1,E.2, ?_⟩;exact Vu (κ _) c (by have D:=a.small;have J:=a.size;omega)
  .cases b
 .cases b
theorem acu {d:TypeDesc} {k e:Nat} (h:lD P (some d)= .map k e):d= .map k e:=by cases d<;>simp [lD] at h;obtain ⟨rfl,rfl⟩:=h;rfl
theorem Xq {k:LK} {x y:AV} {u v:Value} (a:KW k x=true) (b:KW k y=true) (c:VR g m S x u) (d:VR g m S y v):
  wL k u v=some (FB x y)/\(FB x y=true->u=v)/\(∀ n,Instr.sameBits n u u=true)/\eG x= []:=by
 cases k<;>cases x<;>simp [KW] at a<;>cases y<;>simp [KW] at b<;>simp only [VR,PR] at c d<;>subst c<;>subst d
 .refine ⟨by simp [wL,FB,a,b],λh=> ?_,λn=>by simp [Instr.sameBits],rfl⟩;simp only [FB,beq_iff_eq] at h;rw [<- gy a,<- gy b,h]
 .refine ⟨by simp [wL,FB],λh=> ?_,λn=>by simp [Instr.sameBits],rfl⟩;simp only [FB,beq_iff_eq] at h;rw [h]
 .refine ⟨by simp [wL,FB,AX],λh=> ?_,λn=>by cases n<;>simp [Instr.sameBits,MapKept.bytes_beq],rfl⟩;simp only [FB,beq_iff_eq] at h;rw [h]
theorem qP:∀ {lks:List LK} {a b:List AV} {c d:List Value},pR lks a=true->pR lks b=true->bu g m S a c->bu g m S b d->
  dW lks c d=some (JU a b)/\(JU a b=true->c=d)/\(∀ n,∀ x ∈ c,Instr.sameBits n x x=true)/\cZ a= []
 | [],[],[],[],[],_,_,_,_=> ⟨rfl,λ_=>rfl,by simp,rfl⟩
 | k::lks,x::a,y::b,u::c,v::d,ha,hb,h1,h2=>by
  simp only [pR,τ] at ha hb;simp only [bu] at h1 h2;obtain ⟨q,j,p,f⟩:=Xq ha.1 hb.1 h1.1 h2.1;obtain ⟨r,l,i,o⟩:=qP ha.2 hb.2 h1.2 h2.2;refine ⟨by simp [dW,q,r,JU],λh=> ?_,λn z e=> ?_,by simp [cZ,f,o]⟩
  .simp only [JU,τ] at h;rw [j h.1,l h.2]
  .rcases List.mem_cons.1 e with rfl|e
   .exact p n
   .exact i n z e
 | [],_::_,_,_,_,ha,_,_,_=>by simp [pR] at ha
 |_::_,[],_,_,_,ha,_,_,_=>by simp [pR] at ha
 | [],[],_::_,_,_,_,hb,_,_=>by simp [pR] at hb
 |_::_,_::_,[],_,_,_,hb,_,_=>by simp [pR] at hb
 | [],[],[],_::_,_,_,_,h1,_=>by simp [bu] at h1
 | [],[],[],[],_::_,_,_,_,h2=>by simp [bu] at h2
 |_::_,_::_,_::_,[],_,_,_,h1,_=>by simp [bu] at h1
 |_::_,_::_,_::_,_::_,[],_,_,_,h2=>by simp [bu] at h2
def af5 (P:Program) (n:Nat) (t:TypeId) (lks:List LK):Prop:=
 ∀ (em:Bool) (d:Nat) (w:World) (xs:List Value),n<=d->dW lks xs xs=some true->(Instr.checkKey em d t (yB P t xs)).run P w= .ok () w
theorem xH {lks:List LK} {a:List Value} {r:Bool} (h:dW lks a a=some r):dW lks a a=some true:=by
 induction lks generalizing a r with
 |nil=>cases a<;>simp [dW] at h ⊢
 | cons k lks ih=>
  cases a with
  |nil=>simp [dW] at h
  | cons x a=>
   simp only [dW] at h ⊢;obtain ⟨c,b,h⟩:=bind_some h;rw [Xqq] at h;obtain ⟨d,hd,rfl⟩:=h;have e:wL k x x=some true:=by
    cases k<;>cases x<;>simp [wL] at b ⊢
    split at b
    .rename_i f;simp [f]
    .cases b
   simp [e,ih hd]
theorem uP {n:Nat} (v:∀ t lks,kL P n t=some lks->af5 P n t lks):∀ (fs:List Field) (off:Nat) (lks:List LK),BA P (kL P n) fs off=some lks->
  ∀ (em:Bool) (d:Nat) (w:World) (xs:List Value),n<=d->xs.length=off+lks.length->dW lks (xs.drop off) (xs.drop off)=some true->
   (forIn (m:=Sem) fs PUnit.unit λf _=>do
    if f.name ≠ "_" then Instr.checkKey em d f.type (<- part f.type xs.toArray f.offset)
    pure (ForInStep.yield PUnit.unit)).run P w= .ok PUnit.unit w
 | [],off,lks,hc,em,d,w,xs,hd,hx,h=>by simp
 | f ::fs,off,lks,hc,em,d,w,xs,hd,hx,h=>by
  simp only [BA] at hc;cases j:kL P n f.type with
  |none=>simp [j] at hc
  | some l=>
   simp only [j] at hc;split at hc
   .rename_i hcond;simp only [τ,Xqs] at hcond;obtain ⟨⟨u,q⟩,c⟩:=hcond;cases p:BA P (kL P n) fs (off+l.length) with
    |none=>simp [p] at hc
    | some l'=>
     simp only [p] at hc;cases hc;cases r:P.info? f.type with
     |none=>simp [r] at c
     |some i=>
      simp only [r] at c;have c:=aN c;have q:=aN q;have o:f.name ≠ "_" :=by intro e;rw [e] at u;exact absurd u (by decide)
      simp only [ν] at hx;obtain ⟨a,b,k,s,z⟩:=vH l l' _ _ true h;have k:=xH k;have s:=xH s;have y:=yt j r c xs off (by omega) w;have A:=v f.type l j em d w _ hd k;have x:=uP v fs (off+l.length) l' p em d w xs hd (by omega) (by simpa [Xjs,Nat.add_comm] using s);simp only [List.forIn_cons,Sem.run_bind,o,ne_eq,not_false_eq_true,if_true,Result.andThen_ok,q,y,A,Sem.run_pure];simpa using x
   .cases hc
theorem OZ:∀ (n:Nat) (t:TypeId) (lks:List LK),kL P n t=some lks->af5 P n t lks
 |0,_,_,h=>by simp [kL] at h
 | n +1,t,lks,h=>by
  intro e d w c hd b;obtain ⟨d,rfl⟩:∃ k,d=k+1:=⟨d - 1,by omega⟩
  have f:=tu _ _ _ _ b;unfold kL at h;cases a:P.underlying t with
  |none=>simp [a] at h
  | some ds=>
   unfold Instr.checkKey;simp only [Sem.run_bind,run_underlying a,Result.andThen_ok,yB,a];cases ds<;>simp only [a] at h<;>try cases h
   case struct fs=>
    split at h
    .cases h
    .have:=uP (OZ n) fs.toList 0 lks h e d w c (by omega) (by simp [f.1]) (by simpa using b);simp only [<- Array.forIn_toList];simpa using this
   all_goals (cases c.headD undef<;>simp)
theorem Iq (f:iy P ap) {t:Nat} {ti:TI} (e:ap.tyAt t=some ti) {a b:List AV} {h n:List Value} (c:ti.cmp=true) (d:pR ti.lks a=true) (p:pR ti.lks b=true) (s:bu g m S a h) (v:bu g m S b n) (k:∃ u,P.underlying t=some (.struct u)):
  (∀ o,(Instr.checkKey o 10000 t (.agg h.toArray)).run P w= .ok () w)/\(Op.equal t (.agg h.toArray) (.agg n.toArray)).run P w= .ok (JU a b) w:=by
 obtain ⟨u,k⟩:=k;rw [(Di f e).1] at c;rw [(Di f e).2] at d p;unfold adl at c;cases i:kL P 8 t with
 |none=>simp [i] at c
 |some l=>
  simp only [i,τ,Xqs] at c;have j:=IB c.1;rw [<- j] at d p;have q:=Ha 8 t l i 10000 w h n _ (by omega) (qP d p s v).1;have r:=λo=>OZ 8 t l i o 10000 w h (by omega) (xH (qP d d s s).1)
  simp only [yB,k] at q r;exact ⟨r,q⟩
theorem EG {ti:TI} {d:TypeDesc} (hd:ti.d=lD P (some d)) (hs:∀ fs,d ≠ .struct fs) {x:AV} {v:Value} (h:mF ti x=true) (a:VR g m S x v):MapKept.IsKey d v:=by
 unfold mF at h;rw [hd] at h;cases d<;>simp only [lD] at h<;>cases x<;>simp at h<;>simp only [VR,PR] at a<;>first|(exact absurd rfl (hs _))|(subst a;simp only [MapKept.IsKey])
 exact (gy h).symm
theorem ZN {ti:TI} {d:TypeDesc} (hd:ti.d=lD P (some d)) (hs:∀ fs,d ≠ .struct fs) {x y:AV} {u v:Value} (c:mF ti x=true) (e:mF ti y=true) (f:VR g m S x u) (h:VR g m S y v):Instr.sameNow d u v=some (wX x y):=by
 unfold mF at c e;rw [hd] at c e;cases d<;>simp only [lD] at c e<;>cases x<;>simp at c<;>cases y<;>simp at e<;>simp only [VR,PR] at f h<;>first|(exact absurd rfl (hs _))|(subst f;subst h;simp only [Instr.sameNow,wX])
 .rw [if_pos ((gy c).symm.trans (gy e))]
 .rename_i a b;congr 1;rw [Bool.eq_iff_iff,MapKept.bytes_beq];simp
theorem IG (h:b_ ap g m S w) {rd:dK} (n:∀ b B,rd b=some B->g b=some B) {x:AV} {u:Value} (o:VR g m S x u) {q:List AV × List AV} (a:aaL rd x=some q):
  ∃ es:Array MapEntry,((u= .map none/\es=#[])\/∃ b c,u= .map (some b)/\w.heap[b]? =some (.map es c))/\bu g m S q.1 (es.toList.map (·.key))/\bu g m S q.2 (es.toList.map (·.val)):=by
 unfold aaL at a;split at a
 .rename_i ks vs;cases a;simp only [VR,PR] at o;rcases o with ⟨rfl,rfl,rfl⟩|⟨b,z,y,rfl,h0,F,s,r⟩
  .exact ⟨#[],.inl ⟨rfl,rfl⟩,by simp [bu],by simp [bu]⟩
  .obtain ⟨es,c,p,f⟩:=yH (h.sealed _ _ _ h0) rfl;obtain ⟨C,clk',l,j⟩:=yH (h.sealed _ _ _ F) rfl;rw [p] at l;cases l;have f:Value.agg (es.map (·.key))= .agg z.toArray:=Option.some.inj f;have j:Value.agg (es.map (·.val))= .agg y.toArray:=Option.some.inj j;have f:=Value.agg.inj f;have j:=Value.agg.inj j;refine ⟨es,.inr ⟨b,c,rfl,p⟩, ?_, ?_⟩
   .rw [<- Array.toList_map,f];exact bU _ s
   .rw [<- Array.toList_map,j];exact bU _ r
 .rename_i b ver;have D:=bind_some a;clear a;obtain ⟨B,v,a⟩:=D;split at a
  .rename_i i;simp only [τ] at i;split at a
   .rename_i ks vs hcells;cases a;simp only [VR] at o;obtain ⟨B',k,_,_,q⟩:=o;rw [n b B v] at k;cases k;have q:=q (aN i.1);obtain ⟨⟨cur,e,A,rest,E,t,_,d,_,_⟩,_,_⟩:=h.blk b B (n b B v);obtain ⟨es,c,p,rfl⟩:=E.map (aN i.2);rw [hcells] at d
    match A,d with
    | [u0,u1],d=>
     simp only [bu,VR,and_true] at d;obtain ⟨⟨z,rfl,s⟩,y,rfl,r⟩:=d;simp only [Ap,Xqt,List.cons.injEq] at t;have f:=Value.agg.inj t.1;have j:=Value.agg.inj t.2.1;refine ⟨es,.inr ⟨_,c,q,p⟩, ?_, ?_⟩
     .rw [<- Array.toList_map,f];exact s
     .rw [<- Array.toList_map,j];exact r
    | [],d=>simp [bu] at d
    | [_],d=>simp [bu] at d
    |_::_::_::_,d=>simp [bu] at d
   .cases a
  .cases a
 .cases a
structure acY (P:Program) (g:dK) (m:aW) (S:aO) (w:World) (t:Nat) (ti:TI) (d:TypeDesc) (k:AV) (ck:Value):Prop where
 chk:∀ em,(Instr.checkKey em 10000 t ck).run P w= .ok () w
 stay:(Instr.keyThatStays ck ck).run P w= .ok ck w
 eqs:∀ {k' ck'},mF ti k'=true->VR g m S k' ck'->((match d with| .struct _=>(Op.equal t ck ck').run P w= .ok (wX k k') w|_=>Instr.sameNow d ck ck'=some (wX k k'))/\(wX k k'=true->ck=ck'))
theorem KX (A:iy P ap) {t:Nat} {ti:TI} {i:TypeInfo} {d:TypeDesc} {z:Value} (y:ap.tyAt t=some ti) (q:FP P t ti i d z) {k:AV} {ck:Value} (s:mF ti k=true) (D:VR g m S k ck):acY P g m S w t ti d k ck:=by
 by_cases hs:∃ o,d= .struct o
 .obtain ⟨o,rfl⟩:=hs;have hd:=q.d_eq;have J:∀ {x:AV},mF ti x=true->∃ l,x= .agg l/\ti.cmp=true/\pR ti.lks l=true:=by
   intro x n;unfold mF at n;rw [hd] at n;cases x<;>simp [lD] at n
   exact ⟨_,rfl,n⟩
  obtain ⟨l,rfl,H,v⟩:=J s;have R:=D;simp only [VR] at D;obtain ⟨E,rfl,n⟩:=D;refine ⟨(Iq A y H v v n n ⟨o,q.und⟩).1, ?_, ?_⟩
  .have O:Instr.sameBits 10000 (.agg E.toArray) (.agg E.toArray)=true:=by
    show Instr.sameBits (9999+1) _ _=true;have Q:=(qP v v n n).2.2.1 9999;simp only [Instr.sameBits,beq_self_eq_true,Bool.true_and,List.all_eq_true];intro p hp;obtain ⟨a,b⟩:=p;have N:∀ l:List Value,(a,b) ∈ l.zip l->a=b/\a ∈ l:=by
     intro l
     induction l with
     |nil=>intro h;simp at h
     |cons c l ih=>
      intro h;simp only [List.zip_cons_cons,List.mem_cons,Prod.mk.injEq] at h;rcases h with ⟨rfl,rfl⟩|h
      .exact ⟨rfl,by simp⟩
      .exact ⟨(ih h).1,List.mem_cons_of_mem _ (ih h).2⟩
    obtain ⟨rfl,U⟩:=N E hp;exact Q a U
   simp [Instr.keyThatStays,O]
  .intro M F f j;obtain ⟨W,rfl,_,B⟩:=J f;simp only [VR] at j;obtain ⟨X,rfl,K⟩:=j;refine ⟨(Iq A y H v B n K ⟨o,q.und⟩).2,λG=> ?_⟩;rw [(qP v B n K).2.1 G]
 .have hs:∀ o,d ≠ .struct o:=λo e=>hs ⟨o,e⟩
  have u:=EG q.d_eq hs s D;refine ⟨λT=>MapKept.run_checkKey q.und u T 9999,MapKept.run_keyThatStays u, ?_⟩;intro M F f j;have L:=ZN q.d_eq hs s f D j;have V:=MapKept.sameNow_of_keys u (EG q.d_eq hs f j);refine ⟨?_,λG=> ?_⟩
  .cases d<;>first|exact L|exact absurd rfl (hs _)
  .obtain ⟨r,I,C⟩:=V;rw [L] at I;cases I;exact C.1 G
def lF (P:Program) (w:World) (t:Nat) (d:TypeDesc) (ck:Value) (l:List MapEntry) (i:Nat) (r:Option (Nat × Value)):Prop:=
 match d with
 | .struct _=>(Instr.findAsking t ck l i).run P w= .ok r w
 |_=>Instr.findNow d ck l i=some r
theorem lF.nil {t:Nat} {d:TypeDesc} {ck:Value} {i:Nat}:lF P w t d ck [] i none:=by
 unfold lF;cases d<;>first|rfl|simp [Instr.findAsking]
theorem lF.hit {t:Nat} {ti:TI} {d:TypeDesc} {k a:AV} {ck:Value} {e:MapEntry} {l:List MapEntry} {i:Nat} (h:acY P g m S w t ti d k ck) (b:mF ti a=true) (c:VR g m S a e.key) (f:wX k a=true):lF P w t d ck (e::l) i (some (i,e.val)):=by
 have q:=(h.eqs b c).1;rw [f] at q;unfold lF;cases d<;>simp only at q ⊢ <;>first|(simp [Instr.findAsking,q];done)|(simp [Instr.findNow,q];done)
theorem lF.miss {t:Nat} {ti:TI} {d:TypeDesc} {k b:AV} {ck:Value} {e:MapEntry} {l:List MapEntry} {i:Nat} {r:Option (Nat × Value)} (h:acY P g m S w t ti d k ck) (c:mF ti b=true) (f:VR g m S b e.key) (j:wX k b=false) (a:lF P w t d ck l (i+1) r):lF P w t d ck (e::l) i r:=by
 have q:=(h.eqs c f).1;rw [j] at q;unfold lF at a ⊢;cases d<;>simp only at q a ⊢ <;>first|(simp [Instr.findAsking,q,a];done)|(simp [Instr.findNow,q,a];done)
theorem lF.run {t:Nat} {ti:TI} {i:TypeInfo} {d:TypeDesc} {z:Value} (b:FP P t ti i d z) {ck:Value} {l:List MapEntry} {r:Option (Nat × Value)} (h:lF P w t d ck l 0 r):(Instr.findKey t ck l).run P w= .ok r w:=by
 by_cases hs:∃ a,d= .struct a
 .obtain ⟨a,rfl⟩:=hs;simp only [lF] at h;cases l with
  |nil=>
   simp [Instr.findAsking] at h;subst h;simp [Instr.findKey,run_underlying b.und,Result.andThen,Instr.findNow]
  |cons e l=>
   simp only [Instr.findKey,Sem.run_bind,run_underlying b.und,Result.andThen_ok,Instr.findNow,Instr.sameNow];exact h
 .have hs:∀ a,d ≠ .struct a:=λa e=>hs ⟨a,e⟩
  refine MapKept.run_findKey b.und ?_;unfold lF at h;cases d<;>first|exact h|exact absurd rfl (hs _)
theorem xK {t:Nat} {ti:TI} {d:TypeDesc} {k v:AV} {ck cv:Value} (b:acY P g m S w t ti d k ck) (p:VR g m S v cv):∀ (l:List MapEntry) (ks vs:List AV) (i:Nat),bu g m S ks (l.map (·.key))->bu g m S vs (l.map (·.val))->ks.all (mF ti)=true->
  (lF P w t d ck l i none/\dO ks vs k=none/\ks.any (wX k)=false/\oQ ks vs k v=vs++ [v])\/
  ∃ j e x,lF P w t d ck l i (some (i+j,e.val))/\l[j]? =some e/\e.key=ck/\dO ks vs k=some x/\VR g m S x e.val/\ks.any (wX k)=true/\bu g m S (oQ ks vs k v) ((l.set j {e with key:=ck,val:=cv}).map (·.val))
 | [],ks,vs,i,h1,h2,_=>by
  cases ks with
  |cons _ _=>simp [bu] at h1
  |nil=>
   cases vs with
   |cons _ _=>simp [bu] at h2
   |nil=>exact .inl ⟨lF.nil,rfl,rfl,rfl⟩
 | e ::l,ks,vs,i,h1,h2,ha=>by
  cases ks with
  |nil=>simp [bu] at h1
  | cons k0 ks=>
   cases vs with
   |nil=>simp [bu] at h2
   | cons v0 vs=>
    simp only [Xqg,bu] at h1 h2;simp only [Xzr,τ] at ha;cases a:wX k k0 with
    |true=>
     have c:e.key=ck:=((b.eqs ha.1 h1.1).2 a).symm;refine .inr ⟨0,e,v0,lF.hit b ha.1 h1.1 a,rfl,c, ?_,h2.1, ?_, ?_⟩
     .simp [dO,a]
     .simp [a]
     .simp only [oQ,a,List.set_cons_zero,Xqg,bu];exact ⟨p,h2.2⟩
    | false=>
     rcases xK b p l ks vs (i+1) h1.2 h2.2 ha.2 with ⟨o,n,h,f⟩|⟨j,e',x,o,n,h,f,q,s,r⟩
     .refine .inl ⟨lF.miss b ha.1 h1.1 a o, ?_, ?_, ?_⟩
      .simp [dO,a,n]
      .simp only [Xvj,a,h];rfl
      .simp [oQ,a,f]
     .refine .inr ⟨j+1,e',x, ?_,by simpa using n,h, ?_,q, ?_, ?_⟩
      .rw [show i+(j+1)=i+1+j by omega];exact lF.miss b ha.1 h1.1 a o
      .simp [dO,a,f]
      .simp only [Xvj,a,s];rfl
      .simp only [oQ,a,List.set_cons_succ,Xqg,bu];exact ⟨h2.1,r⟩
theorem EI {ok:Bool} {o:Option AV} {z:AV} {u c:Value} {b:Bool} (h:(o=none/\u=c/\b=false)\/∃ x,o=some x/\VR g m S x u/\b=true) (d:VR g m S z c):VR g m S (PP ok o z) (if ok then .tuple #[u,.bool b] else u):=by
 have a:VR g m S (o.getD z) u/\o.isSome=b:=by
  rcases h with ⟨rfl,rfl,rfl⟩|⟨x,rfl,e,rfl⟩
  .exact ⟨d,rfl⟩
  .exact ⟨e,rfl⟩
 cases ok with
 |true=>
  simp only [PP,if_true,VR];refine ⟨[u,.bool b],rfl, ?_⟩;simp only [bu,VR,PR,and_true];exact ⟨a.1,by rw [a.2]⟩
 |false=>simpa [PP] using a.1
theorem JW (n:iy P ap) (h:b_ ap g m S w) {rd:dK} (G:∀ b B,rd b=some B->g b=some B) {t:Nat} {ti:TI} {i:TypeInfo} {d:TypeDesc} {z:Value} (A:FP P t ti i d z) {x k v:AV} {J ck:Value} (R:VR g m S x J) (I:VR g m S k ck) {ok:Bool}
  {ups:List (Nat × aU)} {bs:List Bool} (c:NJ ap ti rd x k ok=some (v,ups,bs)) (r:∀ b ∈ bs,b=true):
  ups= []/\∃ cv,(Instr.lookup t J ck ok).run P w= .ok cv w/\VR g m S v cv:=by
 unfold NJ at c;split at c
 .rename_i kt et hd;have o:=bind_some c;clear c;obtain ⟨tk,a,c⟩:=o;have o:=bind_some c;clear c;obtain ⟨Y,f,c⟩:=o;have o:=bind_some c;clear c;obtain ⟨q,o,c⟩:=o;have C:=bind_some c;clear c;obtain ⟨N,F,c⟩:=C;obtain ⟨rfl,rfl,rfl⟩:=aS c;have H:=a;obtain ⟨X,W,zk,a⟩:=dQ n a;obtain ⟨Z,V,M,f⟩:=dQ n f;rw [A.d_eq] at hd;have hd:=acu hd;subst hd;obtain ⟨Q,r⟩:=dG r;obtain ⟨T,_⟩:=dG r;obtain ⟨es,s,v1,U⟩:=IG h G R o;have l:=KX (w:=w) n H a Q I;have u:VR g m S N M:=Aq f F;refine ⟨rfl, ?_⟩;rcases xK l I es.toList q.1 q.2 0 v1 U T with ⟨p,O,_,_⟩|⟨j,e,y,p,_,_,K,L,_,_⟩
  .refine ⟨_, ?_,EI (.inl ⟨O,rfl,rfl⟩) u⟩;rcases s with ⟨rfl,rfl⟩|⟨b,D,rfl,E⟩
   .simp [Instr.lookup,run_underlying A.und,l.chk,p.run a,zeroValue,typeInfo,f.info,f.zero,Result.andThen]
   .simp [Instr.lookup,run_underlying A.und,MapKept.run_getObj_map E,l.chk,p.run a,zeroValue,typeInfo,f.info,f.zero,Result.andThen]
  .refine ⟨_, ?_,EI (.inr ⟨y,K,L,rfl⟩) u⟩;rcases s with ⟨rfl,rfl⟩|⟨b,D,rfl,E⟩
   .have p:=p.run a;simp [Instr.findKey,run_underlying a.und,Result.andThen,Instr.findNow] at p
   .simp [Instr.lookup,run_underlying A.und,MapKept.run_getObj_map E,l.chk,p.run a,Result.andThen]
 .cases c
mutual
theorem Ux {S:aO}:∀ (x:AV) {v:Value},PR S x v->eG x= []
 | .int _ _,_,_=>rfl
 | .bool _,_,_=>rfl
 | .str _,_,_=>rfl
 | .nilS,_,_=>rfl
 | .nilP,_,_=>rfl
 | .nilF,_,_=>rfl
 | .nilI,_,_=>rfl
 | .sl _ _ _,_,_=>rfl
 | .pp _ _,_,_=>rfl
 | .mp _ _,_,_=>rfl
 | .dead,_,_=>rfl
 | .own _ _ _,_,p=>by simp only [PR] at p
 | .ref _ _ _ _,_,p=>by simp only [PR] at p
 | .ptr _ _ _,_,p=>by simp only [PR] at p
 | .mr _ _,_,p=>by simp only [PR] at p
 | .agg l,_,p=>by
  simp only [PR] at p;simp only [eG];obtain ⟨_,_,q⟩:=p;exact t_ l q
 | .tup l,_,p=>by
  simp only [PR] at p;simp only [eG];obtain ⟨_,_,q⟩:=p;exact t_ l q
 | .fn f a c,_,p=>by
  simp only [PR] at p;simp only [eG];obtain ⟨_,_,_,q,r⟩:=p;rw [t_ a q,t_ c r];rfl
 | .ifc t x,_,p=>by
  simp only [PR] at p;simp only [eG];obtain ⟨_,_,q⟩:=p;exact Ux x q
theorem t_ {S:aO}:∀ (l:List AV) {vs:List Value},bT S l vs->cZ l= []
 | [],_,_=>rfl
 |x::r,v::vs,p=>by simp only [bT] at p;simp only [cZ,Ux x p.1,t_ r p.2,Xqd]
 |_::_,[],p=>by simp [bT] at p
end
theorem Ld (h:b_ ap g m S w) {b:Nat} {B:aU} {a:Array MapEntry} {clk':Nat} {k:Nat} {w':World} (q:w'.heap[k]? =some (.map a clk')) (e:B.esz=je) {ks vs:List AV} (d:B.cells= [.agg ks,.agg vs]) (n:bu g m S ks (a.toList.map (·.key))) (o:bu g m S vs (a.toList.map (·.val))) (hp:B.pr=true->cZ vs= []/\cZ ks= []) (l:B.fro=false->B.fz=0) (j:B.fz<=2) (c:Nat):Ws g m S w' B k c:=by
 refine ⟨⟨Ap a,0,[.agg (a.map (·.key)),.agg (a.map (·.val))],[],.inr ⟨e,a,clk',q,rfl⟩,rfl, ?_, ?_,λf=>absurd e f,λ_ f=>absurd e f⟩,l,by rw [d];exact j⟩
 .intro i;obtain ⟨p,r⟩:=hp i;rw [d];simp only [bT,PR,and_true];exact ⟨⟨(a.map (·.key)).toList,by rw [Array.toArray_toList],by rw [Array.toList_map];exact gm _ n r⟩,(a.map (·.val)).toList,by rw [Array.toArray_toList],by rw [Array.toList_map];exact gm _ o p⟩
 .rw [d];simp only [bu,VR,and_true];exact ⟨⟨(a.map (·.key)).toList,by rw [Array.toArray_toList],by rw [Array.toList_map];exact n⟩,(a.map (·.val)).toList,by rw [Array.toArray_toList],by rw [Array.toList_map];exact o⟩
theorem JX (h:b_ ap g m S w) {nid:Nat} (c:g nid=none) (t:Nat):
  ∃ cv m' w',(Instr.makeMap t none).run P w= .ok cv w'/\b_ ap (dR g [(nid,⟨[.agg [],.agg []],0,false,0,je,true⟩)]) m' S w'/\Fr g m S w (dR g [(nid,⟨[.agg [],.agg []],0,false,0,je,true⟩)]) m' S w'/\VR (dR g [(nid,⟨[.agg [],.agg []],0,false,0,je,true⟩)]) m' S (.mr nid 0) cv:=by
 have a:=h.put nid ⟨[.agg [],.agg []],0,false,0,je,true⟩ w.heap.size 0 (w':=w.alloc (.map #[] 0)) (.inl (κ _)) (World.grownBy_alloc w _ _)
  (Ld h (b:=nid) (heap_alloc_new w _) rfl rfl (by simp [bu]) (by simp [bu]) (λ_=> ⟨rfl,rfl⟩) (λ_=>rfl) (Xq7 _) 0)
  (λB0 h0=>by rw [c] at h0;cases h0) (λo v d=>absurd (h.seal_lt d) (Xkc _))
 refine ⟨.map (some w.heap.size),_,_, ?_,a.1,a.2, ?_⟩
 .simp [Instr.makeMap,Result.andThen]
 .simp only [VR];exact ⟨_,qp _ _ _,κ _,⟨_,rfl⟩,λ_=>by simp [lU]⟩
theorem Ip:∀ (lks:List LK) (l:List AV),pR lks l=true->cZ l= []
 | [],[],_=>rfl
 |k::lks,x::l,h=>by
  simp only [pR,τ] at h;have a:eG x= []:=by cases k<;>cases x<;>first|rfl|(have:=h.1;simp [KW] at this)
  simp only [cZ,a,Ip lks l h.2,Xqd]
 | [],_::_,h=>by simp [pR] at h
 |_::_,[],h=>by simp [pR] at h
theorem Eb:∀ (l:List AV) (ti:TI),l.all (mF ti)=true->cZ l= []
 | [],_,_=>rfl
 | x::r,ti,h=>by
  simp only [Xzr,τ] at h;have b:eG x= []:=by
   have a:=h.1;unfold mF at a;split at a<;>first|rfl|(cases a;done)|skip
   simp only [τ] at a;simp only [eG];exact Ip _ _ a.2
  simp only [cZ,b,Eb r ti h.2,Xqd]
theorem Je:∀ (ks vs:List AV) (k v:AV),cZ vs= []->eG v= []->cZ (oQ ks vs k v)= []
 | [],_,k,v,_,h2=>by simp [oQ,cZ,h2]
 |_::_,[],k,v,_,h2=>by simp [oQ,cZ,h2]
 |k0::ks,v0::vs,k,v,h1,h2=>by
  simp only [cZ,Xzy] at h1;simp only [oQ];split
  .simp [cZ,h1.2,h2]
  .simp [cZ,h1.1,Je ks vs k v h1.2 h2]
theorem zS (J:iy P ap) (h:b_ ap g m S w) {rd:dK} (N:∀ b B,rd b=some B->g b=some B) {t:Nat} {ti:TI} {i:TypeInfo} {d:TypeDesc} {z:Value} (Y:FP P t ti i d z) {x k v r:AV} {cx ck cv:Value} (W:VR g m S x cx) (hk:VR g m S k ck) (hv:VR g m S v cv)
  {ups:List (Nat × aU)} {bs:List Bool} (f:Gw ap ti rd x k v=some (r,ups,bs)) (H:∀ b ∈ bs,b=true):
  r= .dead/\∃ D w',(Instr.mapUpdate t cx ck cv).run P w= .ok () w'/\b_ ap (dR g ups) D S w'/\Fr g m S w (dR g ups) D S w':=by
 unfold Gw at f;split at f
 .rename_i kt et b ver hd;have hq:=bind_some f;clear f;obtain ⟨tk,l,f⟩:=hq;have hq:=bind_some f;clear f;obtain ⟨B,hB,f⟩:=hq;split at f
  .rename_i p;simp only [τ,Xqs] at p;split at f
   .rename_i ks vs hcells;cases f;have hkt:=l;obtain ⟨ik,dk,zk,l⟩:=dQ J l;rw [Y.d_eq] at hd;have hd:=acu hd;subst hd;obtain ⟨b1,H⟩:=dG H;obtain ⟨b2,_⟩:=dG H;have a:=N b B hB;have hz:=aN p.1.2;have hmc:aaL rd (.mr b ver)=some (ks,vs):=by
     unfold aaL;simp only [hB,Option.bind_some,p.1.1,p.1.2,Bool.and_self,hcells]
    obtain ⟨es,T,v1,v2⟩:=IG h N W hmc;have A:=KX (w:=w) J hkt l b1 hk;simp only [VR] at W;obtain ⟨B',K,_,_,q⟩:=W;rw [a] at K;cases K;have q:=q (aN p.1.1);subst q;rcases T with ⟨e,_⟩|⟨b0,G,e,O⟩
    .cases e
    cases e;have R:(m b).1<w.heap.size:=h.lt a;obtain ⟨_,k7,k8⟩:=h.blk b B a;have key:∀ (c:Array MapEntry) (clk':Nat),bu g m S (vT ks k) (c.toList.map (·.key))->bu g m S (oQ ks vs k v) (c.toList.map (·.val))->
      ∃ D,b_ ap (dR g [(b,{B with cells:= [.agg (vT ks k),.agg (oQ ks vs k v)],pr:=B.pr && (eG v).isEmpty})]) D S {w with heap:=w.heap.setIfInBounds (m b).1 (.map c clk')}/\Fr g m S w (dR g [(b,{B with cells:= [.agg (vT ks k),.agg (oQ ks vs k v)],pr:=B.pr && (eG v).isEmpty})]) D S {w with heap:=w.heap.setIfInBounds (m b).1 (.map c clk')}:=by
     intro c clk' w1 w2;have E:=h.put b {B with cells:= [.agg (vT ks k),.agg (oQ ks vs k v)],pr:=B.pr && (eG v).isEmpty} (m b).1 (m b).2 (w':={w with heap:=w.heap.setIfInBounds (m b).1 (.map c clk')})
      (.inr ⟨B,a,rfl⟩) ⟨rfl,rfl,rfl,by simp,λk' _ V=>by simp [show (m b).1 ≠ k' from λe=>V (by rw [e])]⟩
      (Ld h (b:=b) (B:={B with cells:= [.agg (vT ks k),.agg (oQ ks vs k v)],pr:=B.pr && (eG v).isEmpty}) (w':={w with heap:=w.heap.setIfInBounds (m b).1 (.map c clk')}) (k:=(m b).1) (clk':=clk') (by simp [R]) hz rfl w1 w2 (λs=>by
       have s:(B.pr && (eG v).isEmpty)=true:=s;simp only [τ] at s;obtain ⟨⟨cur,e,us,rest,k1,k2,k3,k4,_,_⟩,_,_⟩:=h.blk b B a;have hr:cZ B.cells= []:=t_ _ (k3 s.1);rw [hcells] at hr;simp only [cZ,eG,Xqd,Xzy] at hr;refine ⟨Je _ _ _ _ hr.2 (um s.2), ?_⟩;have M:=Eb ks _ b2;unfold vT;split
       .exact M
       .rw [vX,M];exact Eb [k] tk (by simp [b1])) k7 (by rw [hcells] at k8;exact k8) (m b).2)
      (λB0 h0=>by rw [a] at h0;cases h0;exact ⟨rfl,.inl ⟨rfl,rfl⟩⟩)
      (λo u hu=>by
       have:=(h.own b B a o u hu).1;rw [p.2] at this;cases this)
     exact ⟨_,E.1,E.2⟩
    refine ⟨rfl, ?_⟩;rcases xK A hv es.toList ks vs 0 v1 v2 b2 with ⟨Q,r2,r3,r4⟩|⟨j,e,y,Q,Z,rk,r4,r5,r6,r7⟩
    .obtain ⟨D,s1,X⟩:=key (es.push {key:=ck,val:=cv,born:=G}) (G+1)
      (by unfold vT;rw [r3,Array.toList_push,Xq5];exact iq v1 (by simp only [Xqg,Xjh,bu,and_true];exact hk))
      (by rw [r4,Array.toList_push,Xq5];exact iq v2 (by simp only [Xqg,Xjh,bu,and_true];exact hv))
     refine ⟨D,_, ?_,s1,X⟩;simp [Instr.mapUpdate,run_underlying Y.und,MapKept.run_getObj_map O,A.chk,Q.run l,MapKept.run_setObj_map _ O,Result.andThen]
    .have C:es[j]? =some e:=by simpa using Z
     have I:(es.modify j λe=> {e with key:=ck,val:=cv}).toList=es.toList.set j {e with key:=ck,val:=cv}:=by
      apply Xwm;intro n;simp only [Array.getElem?_toList,Array.getElem?_modify,Xz6];by_cases hjn:j=n
      .subst hjn;have F:j<es.toList.length:=(List.getElem?_eq_some_iff.1 Z).1;rw [if_pos rfl,if_pos rfl,if_pos F,C];rfl
      .rw [if_neg hjn,if_neg hjn]
     obtain ⟨D,s1,X⟩:=key (es.modify j λe=> {e with key:=ck,val:=cv}) G
      (by
       unfold vT;rw [r6,I];have:(es.toList.set j {e with key:=ck,val:=cv}).map (·.key)=es.toList.map (·.key):=by
        apply Xwm;intro n;simp only [Xqw,Xz6];by_cases hjn:j=n
        .subst hjn;have F:j<es.toList.length:=(List.getElem?_eq_some_iff.1 Z).1;have L:j<es.size:=by simpa using F
         have U:es[j]=e:=by rw [Array.getElem?_eq_getElem L] at C;exact Option.some.inj C
         simp [L,U,rk]
        .simp [hjn]
       rw [this];exact v1)
      (by rw [I];exact r7)
     refine ⟨D,_, ?_,s1,X⟩;rw [Δ] at Q;simp [Instr.mapUpdate,run_underlying Y.und,MapKept.run_getObj_map O,A.chk,Q.run l,C,rk,A.stay,MapKept.run_setObj_map _ O,Result.andThen]
   .cases f
  .cases f
 .cases f
end
end AM
namespace AM
open Go
section
variable {P:Program} {ap:AP} {g:dK} {m:aW} {S:aO} {w:World}
theorem yF {ρ:Operand->AV} {cρ:Operand->Value}:∀ (l:List Operand),(∀ o ∈ l,VR g m S (ρ o) (cρ o))->bu g m S (l.map ρ) (l.map cρ)
 | [],_=>by simp [bu]
 |o::r,h=>by simp only [Xqg,bu];exact ⟨h o (by simp),yF r λo a=>h o (by simp [a])⟩
theorem GI {ρ:Operand->AV} {cρ:Operand->Value}:∀ (l:List (Nat × Operand)),(∀ o ∈ l.map (·.2),VR g m S (ρ o) (cρ o))->A_ g m S (l.map λ(i,x)=>(i,ρ x)) (l.map λ(i,x)=>(i,cρ x))
 | [],_=>by simp [A_]
 |(i,o)::r,h=>by simp only [Xqg,A_];exact ⟨trivial,h o (by simp),GI r λo a=>h o (by simp [a])⟩
def jl (P:Program) (ap:AP) (g:dK) (m:aW) (S:aO) (w:World) (s:Sem Next) (v:AV) (ups:List (Nat × aU)):Prop:=
 ∃ nx m' w',s.run P w= .ok nx w'/\b_ ap (dR g ups) m' S w'/\Fr g m S w (dR g ups) m' S w'/\((∃ cv,nx= .value cv/\VR (dR g ups) m' S v cv)\/(nx= .skip/\v= .dead))
theorem jl.pur (h:b_ ap g m S w) {s:Sem Value} {v:AV} {ups:List (Nat × aU)} (hs:ups= []/\∃ cv,s.run P w= .ok cv w/\VR g m S v cv):jl P ap g m S w (do pure (.value (<- s))) v ups:=by
 obtain ⟨rfl,cv,a,b⟩:=hs;exact ⟨.value cv,m,w,by simp [a],by rw [fP];exact h,by rw [fP];exact Fr.refl _ _ _ _,.inl ⟨cv,rfl,by rw [fP];exact b⟩⟩
theorem jl.full {s:Sem Value} {v:AV} {ups:List (Nat × aU)} (hs:∃ cv a w',s.run P w= .ok cv w'/\b_ ap (dR g ups) a S w'/\Fr g m S w (dR g ups) a S w'/\VR (dR g ups) a S v cv):jl P ap g m S w (do pure (.value (<- s))) v ups:=by
 obtain ⟨cv,a,w',b,e,c,d⟩:=hs;exact ⟨.value cv,a,w',by simp [b],e,c,.inl ⟨cv,rfl,d⟩⟩
theorem jl.val (h:b_ ap g m S w) {s:Sem Next} {v:AV} {cv:Value} (hs:s.run P w= .ok (.value cv) w) (a:VR g m S v cv):jl P ap g m S w s v []:=
 ⟨.value cv,m,w,hs,by rw [fP];exact h,by rw [fP];exact Fr.refl _ _ _ _,.inl ⟨cv,rfl,by rw [fP];exact a⟩⟩
theorem Gz {ρ:Operand->AV} {cρ:Operand->Value} (x:Option Operand) (h:∀ o ∈ x.toArray,VR g m S (ρ o) (cρ o)):Gy g m S (x.map ρ) (x.map cρ):=by
 cases x with
 |none=>simp [Gy]
 |some o=>simp only [Xjm,Gy];exact h o (by simp)
theorem O3 (a:iy P ap) {t:Nat} {ti:TI} (h:ap.tyAt t=some ti) (hd:ti.d ≠ .iface):P.concrete t=true:=by
 obtain ⟨i,d,z,b⟩:=dQ a h;have:=b.d_eq;simp only [Program.concrete,b.und];cases d<;>simp_all [lD]
set_option maxHeartbeats 1000000 in
theorem XL (j:iy P ap) (D:b_ ap g m S w) {nid:Nat} (X:g nid=none) {ρ:Operand->AV} {cρ:Operand->Value} {rd:dK} (I:∀ b B,rd b=some B->g b=some B) (o:Oper) (hρ:∀ x ∈ o.op.operands,VR g m S (ρ x) (cρ x))
  {dec:Operand->Option Bool} (hdec:∀ x ∈ o.op.operands,∀ b,dec x=some b->cρ x= .bool b) {em:Bool} (hem:∀ n,BI ρ o.op=some n->Xqk n 0=em)
  {v:AV} {ups:List (Nat × aU)} {bs:List Bool} (h:opA ap nid ρ rd dec em o.op=some (v,ups,bs)) (hbs:∀ b ∈ bs,b=true):jl P ap g m S w (execOp cρ o) v ups:=by
 unfold opA at h;unfold execOp;split at h<;>rename_i heq<;>simp only [heq,Op.operands] at hρ hdec hem ⊢
 .obtain ⟨rfl,rfl,rfl⟩:=aS h;exact jl.val D (by simp) (hρ _ (by simp))
 .obtain ⟨rfl,rfl,rfl⟩:=aS h;exact jl.val D (by simp) (hρ _ (by simp))
 ·
  rename_i c a b;split at h
  .rename_i hd;obtain ⟨rfl,rfl,rfl⟩:=aS h;have:=hdec c (by simp) _ hd;exact jl.val D (by simp [this,asBool]) (hρ _ (by simp))
  .rename_i hd;obtain ⟨rfl,rfl,rfl⟩:=aS h;have:=hdec c (by simp) _ hd;exact jl.val D (by simp [this,asBool]) (hρ _ (by simp))
  .split at h
   .rename_i bc ba bb e1 e2 e3;obtain ⟨rfl,rfl,rfl⟩:=aS h;have F:=hρ c (by simp);have G:=hρ a (by simp);have L:=hρ b (by simp);rw [e1] at F;rw [e2] at G;rw [e3] at L;simp only [VR,PR] at F G L;refine jl.val D (cv:= .bool (cond bc ba bb)) ?_ (by simp only [VR,PR]);rw [F,G,L];cases bc<;>simp [asBool]
   .cases h
 ·
  rename_i e;have A:=bind_some h;clear h;obtain ⟨Z,K,h⟩:=A;obtain ⟨ie,de,ze,C⟩:=dQ j K;split at h
  .rename_i R;simp only [τ] at R;cases h;obtain ⟨M,w',F,G,L,Y⟩:=Ky (P:=P) D X (cells:=Z.zero) (cv:=ze) (ug C) C.zleaf (λu hu=>FQ (g:=g) (m:=m) (S:=S) (ug C) C.zleaf u (by simpa using hu)) e;refine jl.full ⟨.pointer (some ⟨w.heap.size,0,none⟩),M,w', ?_,G,L,Vq Y⟩;simp [Instr.alloc,zeroValue,typeInfo,C.info,C.zero,F]
  .cases h
 ·
  rename_i e x;have A:=bind_some h;clear h;obtain ⟨Z,K,h⟩:=A;obtain ⟨ie,de,ze,C⟩:=dQ j K;simp only at h;split at h
  .rename_i R;simp only [τ] at R;cases h;have E:=hρ x (by simp);have hl:∀ y ∈ (ρ x).cells,qQ y=true:=λy hy=>List.all_eq_true.1 R.2 y hy
   obtain ⟨hv1,hv2⟩:=GR E hl;obtain ⟨M,w',F,G,L,Y⟩:=Ky (P:=P) D X (cells:=(ρ x).cells) (cv:=cρ x) hv1 hl hv2 e;refine jl.full ⟨.pointer (some ⟨w.heap.size,0,none⟩),M,w', ?_,G,L,Vq Y⟩;simp [Instr.box,F]
  .cases h
 ·
  rename_i t parts;have A:=bind_some h;clear h;obtain ⟨ti,q,h⟩:=A;obtain ⟨i,d,z,C⟩:=dQ j q;refine jl.pur D ?_;refine ML j C (qs:=parts.map λ(i,x)=>(i,cρ x)) ?_ h;rw [Array.toList_map];exact GI parts.toList λx E=>hρ x (by simpa using E)
 ·
  rename_i t len parts;have A:=bind_some h;clear h;obtain ⟨ti,q,h⟩:=A;obtain ⟨i,d,z,C⟩:=dQ j q;refine jl.full ?_;refine Bh j D X C (qs:=parts.map λ(i,x)=>(i,cρ x)) ?_ h;rw [Array.toList_map];exact GI parts.toList λx E=>hρ x (by simpa using E)
 ·
  rename_i t a;have A:=bind_some h;clear h;obtain ⟨ti,q,h⟩:=A;obtain ⟨i,d,z,C⟩:=dQ j q;exact jl.pur D (EJ D I C (hρ a (by simp)) h hbs)
 ·
  rename_i t a x;have A:=bind_some h;clear h;obtain ⟨ti,q,h⟩:=A;obtain ⟨i,d,z,C⟩:=dQ j q;have ha:=hρ a (by simp);have E:=hρ x (by simp);generalize cρ a=ca at ha ⊢;generalize cρ x=cx at E ⊢;obtain ⟨rfl,M,w',F,G,L⟩:=Ot D I C ha E h hbs;exact ⟨.skip,M,w',by simp [F],G,L,.inr ⟨rfl,rfl⟩⟩
 ·
  rename_i t r;split at h
  .cases h;obtain ⟨cv,M,w',F,G,L,Y⟩:=JX (P:=P) D X t;exact ⟨.value cv,M,w',by simp [F],G,L,.inl ⟨cv,rfl,Y⟩⟩
  .cases h
 ·
  rename_i t x k ok;have A:=bind_some h;clear h;obtain ⟨ti,q,h⟩:=A;obtain ⟨i,d,z,C⟩:=dQ j q;exact jl.pur D (JW j D I C (hρ x (by simp)) (hρ k (by simp)) h hbs)
 ·
  rename_i t x k v;have A:=bind_some h;clear h;obtain ⟨ti,q,h⟩:=A;obtain ⟨i,d,z,C⟩:=dQ j q;obtain ⟨rfl,M,w',F,G,L⟩:=zS j D I C (hρ x (by simp)) (hρ k (by simp)) (hρ v (by simp)) h hbs;exact ⟨.skip,M,w',by simp [F],G,L,.inr ⟨rfl,rfl⟩⟩
 ·
  rename_i t x k v;have A:=bind_some h;clear h;obtain ⟨ti,q,h⟩:=A;obtain ⟨i,d,z,C⟩:=dQ j q;obtain ⟨rfl,M,w',F,G,L⟩:=zS j D I C (hρ x (by simp)) (hρ k (by simp)) (hρ v (by simp)) h hbs;exact ⟨.skip,M,w',by simp [F],G,L,.inr ⟨rfl,rfl⟩⟩
 ·
  rename_i x;have E:=hρ x (by simp);split at h
  .rename_i b ver off e;rw [e] at E;obtain ⟨rfl,rfl,rfl⟩:=aS h;have H:=E;simp only [VR] at H;obtain ⟨_,_,_,⟨k,o,W⟩,_⟩:=H;exact jl.val D (cv:=cρ x) (by rw [W];simp) E
  .rename_i xs off e;rw [e] at E;obtain ⟨rfl,rfl,rfl⟩:=aS h;have H:=E;simp only [VR,PR] at H;obtain ⟨_,_,_,W,_⟩:=H;exact jl.val D (cv:=cρ x) (by rw [W];simp) E
  .rename_i f a c e;rw [e] at E;obtain ⟨rfl,rfl,rfl⟩:=aS h;have H:=E;simp only [VR] at H;obtain ⟨_,_,W,_⟩:=H;exact jl.val D (cv:=cρ x) (by rw [W];simp) E
  .cases h
 ·
  rename_i op t x y _;have A:=bind_some h;clear h;obtain ⟨ti,q,h⟩:=A;exact jl.pur D (Ry j q (hρ x (by simp)) (hρ y (by simp)) h hbs x y)
 ·
  exact jl.pur D (Yr (hρ _ (by simp)) h)
 ·
  rename_i s d x;have A:=bind_some h;clear h;obtain ⟨ts,hts,h⟩:=A;have A:=bind_some h;clear h;obtain ⟨td,htd,h⟩:=A;exact jl.pur D (Hg j D I hts htd (hρ x (by simp)) h hbs)
 ·
  rename_i t x;have A:=bind_some h;clear h;obtain ⟨ti,q,h⟩:=A;split at h
  .cases h
  .rename_i hd;obtain ⟨rfl,rfl,rfl⟩:=aS h;refine jl.pur D ⟨rfl,.iface t (cρ x),run_makeInterface w t _ (O3 j q hd), ?_⟩;simp only [VR];exact ⟨_,rfl,hρ x (by simp)⟩
 ·
  rename_i f first cap
  obtain ⟨rfl,rfl,rfl⟩:=aS h;refine jl.pur D ⟨rfl,.func (.func f) (first.map cρ) (cap.map cρ),by simp [Instr.makeFunc], ?_⟩;simp only [VR];refine ⟨(first.map cρ).toList,(cap.map cρ).toList,by rw [Array.toArray_toList,Array.toArray_toList], ?_, ?_⟩
  .rw [Array.toList_map];exact yF _ λx E=>hρ x (by simp at E ⊢;exact .inl E)
  .rw [Array.toList_map];exact yF _ λx E=>hρ x (by simp at E ⊢;exact .inr E)
 ·
  rename_i t l c;have A:=bind_some h;clear h;obtain ⟨ti,q,h⟩:=A;obtain ⟨i,d,z,C⟩:=dQ j q;exact jl.full (DX j D X C (hρ l (by simp)) (hρ c (by simp)) h hbs)
 ·
  rename_i t x lo hi mx;have A:=bind_some h;clear h;obtain ⟨ti,q,h⟩:=A;obtain ⟨i,d,z,C⟩:=dQ j q;exact jl.pur D (Ol j I C (hρ x (by simp)) (Gz lo λo T=>hρ o (by simp at T;simp [T])) (Gz hi λo T=>hρ o (by simp at T;simp [T])) (Gz mx λo T=>hρ o (by simp at T;simp [T])) h hbs)
 ·
  rename_i s x f;have A:=bind_some h;clear h;obtain ⟨ti,q,h⟩:=A;obtain ⟨i,d,z,C⟩:=dQ j q;split at h
  .rename_i fs hd;have A:=bind_some h;clear h;obtain ⟨⟨o,ft,sz⟩,hf,h⟩:=A;simp only at h;split at h
   .rename_i hsz;have A:=bind_some h;clear h;obtain ⟨p,hp,h⟩:=A;obtain ⟨rfl,rfl,rfl⟩:=aS h;exact jl.pur D ⟨rfl,FD C hd hf hsz (hρ x (by simp)) hp⟩
   .cases h
  .cases h
 ·
  rename_i t x f;have A:=bind_some h;clear h;obtain ⟨ti,q,h⟩:=A;obtain ⟨i,d,z,C⟩:=dQ j q;exact jl.pur D (Nq j C (hρ x (by simp)) h hbs)
 ·
  rename_i t x ix;have A:=bind_some h;clear h;obtain ⟨ti,q,h⟩:=A;obtain ⟨i,d,z,C⟩:=dQ j q;exact jl.pur D (DJ j I C (hρ x (by simp)) (hρ ix (by simp)) h hbs)
 ·
  rename_i t x ix;have A:=bind_some h;clear h;obtain ⟨ti,q,h⟩:=A;obtain ⟨i,d,z,C⟩:=dQ j q;exact jl.pur D (ND j C (hρ x (by simp)) (hρ ix (by simp)) h hbs)
 ·
  exact jl.pur D (JQ j (hρ _ (by simp)) h _)
 ·
  rename_i t i;have C:=hρ t (by simp);split at h
  .rename_i l e;rw [e] at C;have A:=bind_some h;clear h;obtain ⟨x,E,h⟩:=A;obtain ⟨rfl,rfl,rfl⟩:=aS h;simp only [VR] at C;obtain ⟨vs,W,hl⟩:=C;obtain ⟨cv,F,G⟩:=uZ hl i E;refine jl.pur D ⟨rfl,cv, ?_,G⟩;rw [W];simp [Instr.extract,F]
  .cases h
 ·
  rename_i b args Q;simp only [Call.operands] at hρ;have hargs:∀ x ∈ args,VR g m S (ρ x) (cρ x):=λx E=>hρ x (by simp [E])
  split at h
  .have A:=bind_some h;clear h;obtain ⟨x,E,h⟩:=A;have A:=bind_some h;clear h;obtain ⟨t,V,h⟩:=A;have A:=bind_some h;clear h;obtain ⟨ti,q,h⟩:=A;obtain ⟨i,d,z,C⟩:=dQ j q;obtain ⟨hu,cv,F,G⟩:=S9 (P:=P) (w:=w) (hargs x (Array.mem_of_getElem? E)) C h Q V (args.map cρ) (by simp [E]) o.type;subst hu;exact jl.val D (cv:=cv) (by simp [resolve,invoke,builtin,F]) G
  .split at h
   .rename_i s x t t1 ha V;have hargs':args=#[s,x]:=by apply Array.ext';simpa using ha
    have hats':Q=#[t,t1]:=by apply Array.ext';simpa using V
    subst hargs';subst hats';have A:=bind_some h;clear h;obtain ⟨ti,q,h⟩:=A;have A:=bind_some h;clear h;obtain ⟨ti1,hti1,h⟩:=A;obtain ⟨i,d,z,C⟩:=dQ j q;obtain ⟨i1,d1,z1,O⟩:=dQ j hti1;have hs:=hargs s (by simp);have E:=hargs x (by simp);have U:ρ s= .nilS->∃ n,Ae (ρ x)=some n/\Xqk n 0=em:=by
     intro e;cases hc:Ae (ρ x) with
     | none=>
      exfalso;split at h
      .rename_i H;rw [H] at hc;simp [Ae] at hc
      .cases h
      .rename_i y hy1 _ hy2 hy3;have A:=bind_some h;clear h;obtain ⟨Z,K,h⟩:=A;unfold Be at h;have A:=bind_some h;clear h;obtain ⟨⟨xs,n,pr⟩,hsrc,h⟩:=A;cases hxx:ρ x<;>simp [hxx,Ae] at hc<;>simp [hxx,QI] at hsrc
      .cases h
     |some n=>exact ⟨n,rfl,hem n (by simp [BI,e,hc])⟩
    split at h
    .rename_i e y hd J hy;have A:=bind_some h;clear h;obtain ⟨Z,K,h⟩:=A;obtain ⟨ie,de,ze,N⟩:=dQ j K;split at h
     .rename_i F;rw [C.d_eq] at hd;rw [O.d_eq] at J;have hd:=g_ hd;have J:=AU J;subst hd;subst J;obtain ⟨cv,M,w',r1,r2,r3,r4⟩:=zB (P:=P) D I X C N hs E (tx:=t1) (.inl ⟨⟨y,hy⟩,O.und,aN F⟩) U (by rw [hy];exact h) hbs o.type;exact ⟨.value cv,M,w',by simp [resolve,invoke,builtin,r1],r2,r3,.inl ⟨cv,rfl,r4⟩⟩
     .cases h
    .cases h
    .rename_i e e1 hd J hns;have A:=bind_some h;clear h;obtain ⟨Z,K,h⟩:=A;obtain ⟨ie,de,ze,N⟩:=dQ j K;rw [C.d_eq] at hd;rw [O.d_eq] at J;have hd:=g_ hd;have J:=g_ J;subst hd;subst J;obtain ⟨cv,M,w',r1,r2,r3,r4⟩:=zB (P:=P) D I X C N hs E (tx:=t1) (.inr ⟨λs e=>hns s e,_,O.und⟩) U h hbs o.type;exact ⟨.value cv,M,w',by simp [resolve,invoke,builtin,r1],r2,r3,.inl ⟨cv,rfl,r4⟩⟩
    .cases h
   .cases h
  .have A:=bind_some h;clear h;obtain ⟨r,hr,h⟩:=A;obtain ⟨rfl,rfl,rfl⟩:=aS h;obtain ⟨cv,F,G⟩:=XB (P:=P) (w:=w) (yF args.toList λx E=>hargs x (Array.mem_toList_iff.1 E)) hr Q o.type;refine jl.val D (cv:=cv) ?_ G;have:(Xz1 cρ args.toList).toArray=args.map cρ:=by apply Array.ext';rw [Xvo,Array.toList_map]
   rw [this] at F;simp [resolve,invoke,builtin,F]
  .have A:=bind_some h;clear h;obtain ⟨r,hr,h⟩:=A;obtain ⟨rfl,rfl,rfl⟩:=aS h;obtain ⟨cv,F,G⟩:=Xy (P:=P) (w:=w) (yF args.toList λx E=>hargs x (Array.mem_toList_iff.1 E)) hr Q o.type;refine jl.val D (cv:=cv) ?_ G;have:(Xz1 cρ args.toList).toArray=args.map cρ:=by apply Array.ext';rw [Xvo,Array.toList_map]
   rw [this] at F;simp [resolve,invoke,builtin,F]
  .cases h
 .cases h
end
end AM
namespace AM
open Go
structure Cx.Ok (c:Cx):Prop where
 bs:∀ b ∈ c.bs,b=true
 ps:∀ p ∈ c.ps,p
theorem R.bind_ok {α β:Type} {r:R α} {f:α->Cx->R β} {b:β} {c:Cx} (h:r.bind f= .ok b c):∃ a c1,r= .ok a c1/\f a c1= .ok b c:=by
 cases r with
 |ok a c1=>exact ⟨a,c1,rfl,h⟩
 |need=>simp [R.bind] at h
 |bad n=>simp [R.bind] at h
theorem Nb {c f:Cx} {bs:List Bool} {u:Unit} (h:adC c bs= .ok u f) (d:f.Ok):c.Ok/\∀ b ∈ bs,b=true:=by
 unfold adC at h;split at h
 .split at h
  .rename_i a;cases h;exact ⟨d,λb e=>by simpa using List.all_eq_true.1 a b e⟩
  .cases h
 .cases h;exact ⟨⟨λb a=>d.bs b (by simp [a]),d.ps⟩,λb a=>d.bs b (by simp [a])⟩
theorem nD {c e:Cx} {b d:Bool} (h:Dw c b= .ok d e) (a:e.Ok):c.Ok/\d=b:=by
 unfold Dw at h;split at h
 .cases h;exact ⟨a,rfl⟩
 .split at h
  .cases h
  .rename_i o r _;cases h;have i:=a.bs (lit d b) (by simp);refine ⟨⟨λx f=>a.bs x (by simp [f]),a.ps⟩, ?_⟩;cases d<;>cases b<;>simp [lit] at i ⊢
theorem jf {l:List Nat} {a:Nat}:rP l a=true↔a ∈ l:=by
 simp only [rP,List.any_eq_true];constructor
 .rintro ⟨x,hx,h⟩;exact aN h ▸ hx
 .intro h;exact ⟨a,h,Nat.beq_refl a⟩
theorem jH {α β:Type} {f:α->Option β}:∀ {l:List α} {l':List β},lQ f l=some l'->l'.length=l.length/\∀ (i:Nat) x,l[i]? =some x->∃ y,l'[i]? =some y/\f x=some y
 | [],l',h=>by simp [lQ] at h;subst h;simp
 | a::r,l',h=>by
  simp only [lQ] at h;split at h
  .rename_i y c;split at h
   .rename_i q j;cases h;obtain ⟨e,d⟩:=jH j;refine ⟨by simp [e], ?_⟩;intro i x b;cases i with
    |zero=>simp at b;subst b;exact ⟨y,by simp,c⟩
    |succ i=>simpa using d i x (by simpa using b)
   .cases h
  .cases h
section
variable {P:Program} {ap:AP} {g:dK} {m:aW} {S:aO} {w:World}
noncomputable def dL (S:aO) (m:aW) (rd:dK) (w:World):aO:=λk o=>
 match S k o with
 |some v=>some v
 |none=>open Classical in if ∃ b B,rd b=some B/\(m b).1=k/\o<B.cells.length then bf w k o else none
theorem qo (S:aO) (m:aW) (rd:dK) (w:World):iV S (dL S m rd w):=by
 intro k o v h;simp [dL,h]
theorem fU {rd:dK} {k o:Nat} {v:Value} (h:dL S m rd w k o=some v):S k o=some v\/(bf w k o=some v/\∃ b B,rd b=some B/\(m b).1=k/\o<B.cells.length):=by
 unfold dL at h;split at h
 .rename_i d a;cases h;exact .inl a
 .rename_i e;split at h
  .rename_i c;exact .inr ⟨h,c⟩
  .cases h
theorem sS (a:b_ ap g m S w) {rd:dK} {k o:Nat} {v:Value} (h:dL S m rd w k o=some v):bf w k o=some v:=by
 rcases fU h with h|h
 .exact a.sealed _ _ _ h
 .exact h.1
theorem X9 (d:b_ ap g m S w) {rd:dK} {b:Nat} {B:aU} (f:rd b=some B) {o:Nat} (c:o<B.cells.length) {v:Value} (a:bf w (m b).1 o=some v):dL S m rd w (m b).1 o=some v:=by
 unfold dL;split
 .rename_i h e;have:=d.sealed _ _ _ e;rw [a] at this;cases this;rfl
 .rw [if_pos ⟨b,B,f,rfl,c⟩];exact a
theorem Js (h:b_ ap g m S w) {rd:dK} (f:∀ b B,rd b=some B->g b=some B) {b:Nat} {B:aU} (i:rd b=some B):
  ∃ vs,bu g m S B.cells vs/\(B.pr=true->bT S B.cells vs)/\(∀ j u,vs[j]? =some u->dL S m rd w (m b).1 j=some u)/\vs.length=B.cells.length/\(B.esz ≠ je->∀ u ∈ vs,u.oneCell'=true):=by
 obtain ⟨⟨cur,e,vs,rest,o,k,n,d,h5,p⟩,_,_⟩:=h.blk b B (f b B i);refine ⟨vs,d,n, ?_,(di d).symm,h5⟩;intro j u c;have a:=(List.getElem?_eq_some_iff.1 c).1;refine X9 h i (by rw [di d];exact a) ?_;exact o.get (by rw [k,Xxf a];exact c) (λl=>h5 l u (Xqm c))
theorem CS (f:b_ ap g m S w) {rd:dK} (a:∀ b B,rd b=some B->g b=some B) {b:Nat} {B:aU} (h:rd b=some B) (d:B.esz ≠ je):
  ∃ vs,bu g m S B.cells vs/\(B.pr=true->bT S B.cells vs)/\lX (dL S m rd w) (m b).1 0 vs/\vs.length=B.cells.length:=by
 obtain ⟨vs,l,i,e,k,h5⟩:=Js f a h;refine ⟨vs,l,i,λj u c=> ?_,k⟩;rw [Δ];exact ⟨e j u c,h5 d u (Xqm c)⟩
theorem Le {S':aO} {l:List AV} {y:AV} {vs:List Value} {k:Nat} (h:aet l=some y) (a:bT S' l vs) (hs:∀ j u,vs[j]? =some u->S' k j=some u):PR S' y (.map (some k)):=by
 unfold aet at h;split at h
 .rename_i ks f;cases h
  match vs,a with
  | [v0,v1],a=>
   simp only [bT,PR,and_true] at a;obtain ⟨⟨d,rfl,b⟩,e,rfl,c⟩:=a;simp only [PR];exact .inr ⟨k,d,e,rfl,hs 0 _ rfl,hs 1 _ rfl,b,c⟩
  | [],a=>simp [bT] at a
  | [_],a=>simp [bT] at a
  |_::_::_::_,a=>simp [bT] at a
 .cases h
theorem xm {S':aO} {f:AV->Option AV} (a:∀ x v y,f x=some y->VR g m S x v->PR S' y v):∀ {l l':List AV} {vs:List Value},lQ f l=some l'->bu g m S l vs->bT S' l' vs
 | [],l',[],h,_=>by simp [lQ] at h;subst h;simp [bT]
 | x::r,l',v::vs,h,hv=>by
  simp only [lQ] at h;simp only [bu] at hv;split at h
  .rename_i y b;split at h
   .rename_i q c;cases h;simp only [bT];exact ⟨a x v y b hv.1,xm a c hv.2⟩
   .cases h
  .cases h
 | [],_,_::_,_,h=>by simp [bu] at h
 |_::_,_,[],_,h=>by simp [bu] at h
theorem nJ (K:b_ ap g m S w) {rd:dK} (z:∀ b B,rd b=some B->g b=some B):∀ (p:Nat) (x:AV) (v:Value) (y:AV),frz rd p x=some y->VR g m S x v->PR (dL S m rd w) y v:=by
 intro p
 induction p with
 |zero=>intro x v y h;simp [frz] at h
 | succ p ih=>
  intro x v y h f;have C:=qo S m rd w;have hlist:∀ {l l':List AV} {vs:List Value},lQ (frz rd p) l=some l'->bu g m S l vs->bT (dL S m rd w) l' vs:=λH G=>xm (λx v y hx f=>ih x v y hx f) H G
  unfold frz at h;simp only at h;split at h
  ·
   rename_i b ver i n;have D:=bind_some h;clear h;obtain ⟨B,E,h⟩:=D;split at h
   .rename_i d;simp only [VR] at f;obtain ⟨B',k,_,_,q⟩:=f;rw [z b B E] at k;cases k;obtain ⟨o,rfl,L,V,N,F⟩:=q (aN d);obtain ⟨vs,H,G,I,M⟩:=CS K z E F;have hpart:lX (dL S m rd w) (m b).1 o ((vs.drop (i*B.esz)).take (n*B.esz)):=by
     by_cases hi:i<(m b).2
     .rw [V hi];have:=(I.drop (i*B.esz)).take (n*B.esz);rwa [Δ] at this
     .have hn:n=0:=by omega
      subst hn;intro j u hj;simp at hj
    have s:∀ l,bT (dL S m rd w) l ((vs.drop (i*B.esz)).take (n*B.esz))->PR (dL S m rd w) (.sl l n true) (.slice (some ⟨(m b).1,o,none⟩) n ((m b).2 - i)):=by
     intro l t;simp only [PR];exact ⟨_,_,rfl,by omega,.inr ⟨_,_,_,rfl,t,hpart⟩⟩
    split at h
    .rename_i A;cases h;exact s _ (lW _ (qB _ (bD C _ (G A))))
    .simp only [Xqq] at h;obtain ⟨l,t,rfl⟩:=h;exact s _ (hlist t (uf _ (xn _ H)))
   .cases h
  ·
   rename_i b ver J;have D:=bind_some h;clear h;obtain ⟨B,E,h⟩:=D;split at h
   .rename_i d;simp only [τ,Xqs] at d;have F:B.esz ≠ je:=λe=>by rw [e] at d;exact absurd d.2 (by decide)
    simp only [VR] at f;obtain ⟨B',k,_,_,q⟩:=f;rw [z b B E] at k;cases k;have q:=q (aN d.1);subst q;obtain ⟨vs,H,G,I,M⟩:=CS K z E F;have s:∀ l,bT (dL S m rd w) l vs->PR (dL S m rd w) (.pp l J) (.pointer (some ⟨(m b).1,J,none⟩)):=by
     intro l t;simp only [PR];exact ⟨_,0,_,by rw [Δ],t,I⟩
    split at h
    .rename_i A;cases h;exact s _ (bD C _ (G A))
    .simp only [Xqq] at h;obtain ⟨l,t,rfl⟩:=h;exact s _ (hlist t H)
   .cases h
  ·
   rename_i b ver;have D:=bind_some h;clear h;obtain ⟨B,E,h⟩:=D;split at h
   .rename_i d;simp only [τ] at d;simp only [VR] at f;obtain ⟨B',k,_,_,q⟩:=f;rw [z b B E] at k;cases k;have q:=q (aN d.1);subst q;obtain ⟨vs,H,G,I,M,_⟩:=Js K z E;split at h
    .rename_i A;exact Le h (bD C _ (G A)) I
    .have D:=bind_some h;clear h;obtain ⟨l,t,h⟩:=D;exact Le h (hlist t H) I
   .cases h
  .simp only [Xqq] at h;obtain ⟨l,t,rfl⟩:=h;simp only [VR] at f;obtain ⟨vs,e,q⟩:=f;simp only [PR];exact ⟨vs,e,hlist t q⟩
  .simp only [Xqq] at h;obtain ⟨l,t,rfl⟩:=h;simp only [VR] at f;obtain ⟨vs,e,q⟩:=f;simp only [PR];exact ⟨vs,e,hlist t q⟩
  .have D:=bind_some h;clear h;obtain ⟨a,R,h⟩:=D;simp only [Xqq] at h;obtain ⟨c,O,rfl⟩:=h;simp only [VR] at f;obtain ⟨X,vc,e,q,r⟩:=f;simp only [PR];exact ⟨X,vc,e,hlist R q,hlist O r⟩
  .simp only [Xqq] at h;obtain ⟨u,U,rfl⟩:=h;simp only [VR] at f;obtain ⟨cu,e,q⟩:=f;simp only [PR];exact ⟨cu,e,ih _ _ _ U q⟩
  .cases h
  .rename_i n1 W T Q n4 Z n6 Y;cases h;refine aZ C _ ?_;cases x<;>first
    |exact absurd rfl (n1 _ _ _ _)
    |exact absurd rfl (W _ _ _)
    |exact absurd rfl (T _ _)
    |exact absurd rfl (Q _)
    |exact absurd rfl (n4 _)
    |exact absurd rfl (Z _ _ _)
    |exact absurd rfl (n6 _ _)
    |exact absurd rfl (Y _ _ _)
    |(simp only [VR] at f;exact f)
    |(simp only [PR])
end
end AM
