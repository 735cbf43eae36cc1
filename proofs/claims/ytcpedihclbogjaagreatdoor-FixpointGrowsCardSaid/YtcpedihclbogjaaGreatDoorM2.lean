/- The machine and its soundness. -/
import Derived.Test.YtcpedihclbogjaaGreatDoorM1
import Derived.Laws.BytesString
import Derived.Laws.MakeOwn
import Derived.Laws.OwnMore
set_option linter.unusedSimpArgs false
set_option linter.unusedVariables false
open List renaming foldl_cons->Xjx,length_take->Xq7,nil_append->Xqb,drop_drop->Xjq,map_cons->Xqf,getElem?_map->Xqx,getElem?_take->Xjn,getElem?_append_left->Xxe,mem_of_mem_drop->Xzl,mem_of_mem_take->Xj3,all_cons->Xzn,cons_append->Xqu,append_eq_nil_iff->Xzw,take_append_of_le_length->Xx7,append_assoc->Xqe,toList_toArray->Xvo,size_toArray->Xxg,length_append->ξ,length_drop->Xx3,replicate_succ->Xxa,append_nil->Xqd,any_cons->Xvk,map_append->Xq5,map_nil->Xjc,ext_getElem?->Xwl,getElem?_set->Xwm,map->Xz0,mem_of_getElem?->Xqn
open Bool renaming and_eq_true->π,not_eq_true'->Xqt
open Nat renaming add_zero->Xq3,beq->Xqk,le_refl->κ,zero_le->Xqo,mul_le_mul->Xwu,le_trans->Xqs,zero_add->Ψ,add_mul->Xxy,lt_irrefl->Xkb
open Option renaming map_some->Xjj,map_eq_some_iff->Xqq
open UInt8 renaming ofNat->Xql
namespace AM
open Go
section
variable {P:Program} {ap:AP} {g:bW} {m:aN} {S:aH} {w:World}
theorem xE {x:AV} {v:Value} (h:VR g m S x v) (e:∀ y ∈ x.cells,kO y=true):aU g m S x.cells v.cells.toList/\∀ u ∈ v.cells,u.oneCell'=true:=by
 cases x
 case agg l=>
  simp only [VR] at h;obtain ⟨vs,rfl,h⟩:=h;refine ⟨by simpa [Value.cells,AV.cells] using h, ?_⟩;intro u d;simp only [Value.cells] at d;simp only [AV.cells] at e;have:∀ (l:List AV) (vs:List Value),aU g m S l vs->(∀ y ∈ l,kO y=true)->∀ u ∈ vs,u.oneCell'=true:=by
   intro l
   induction l with
   |nil=>intro vs f _ u d;cases vs<;>simp [aU] at f d
   | cons a r ih=>
    intro vs f e u d;cases vs with
    |nil=>simp [aU] at f
    |cons b q=>
     simp only [aU] at f;rcases List.mem_cons.1 d with rfl|d
     .exact FI f.1 (e a (by simp))
     .exact ih q f.2 (λy j=>e y (by simp [j])) u d
  exact this l vs h e u (by simpa using d)
 all_goals
  have c:=FI h (e _ (by simp [AV.cells]));have i:v.cells=#[v]:=by cases v<;>simp [Value.cells,Value.oneCell'] at c ⊢
  rw [i];refine ⟨by simp only [AV.cells,aU];exact ⟨h,trivial⟩,by simpa using c⟩
theorem A4:∀ (vs:List Value) (i a:Nat) (cs:Array Value),a+i+vs.length<=cs.size->
  ((vs.zipIdx i).foldl (λ(cs:Array Value) (p:Value × Nat)=>cs.setIfInBounds (a+p.2) p.1) cs).toList=cs.toList.take (a+i)++vs++cs.toList.drop (a+i+vs.length)
 | [],i,a,cs,_=>by simp
 | v::vs,i,a,cs,h=>by
  simp only [List.length_cons] at h;simp only [List.zipIdx_cons,Xjx];rw [A4 vs (i+1) a (cs.setIfInBounds (a+i) v) (by simp;omega)];have b:a+i<cs.toList.length:=by simp;omega
  simp only [Array.toList_setIfInBounds];rw [show a+(i+1)=a+i+1 from by omega,List.set_eq_take_append_cons_drop,if_pos b];have c:(cs.toList.take (a+i)++v::cs.toList.drop (a+i+1)).take (a+i+1)=cs.toList.take (a+i)++ [v]:=by
   rw [List.take_append];have e:a+i+1 - (cs.toList.take (a+i)).length=1:=by simp [Xq7];omega
   rw [e];simp [List.take_take]
  have d:(cs.toList.take (a+i)++v::cs.toList.drop (a+i+1)).drop (a+i+1+vs.length)=cs.toList.drop (a+i+(v::vs).length):=by
   rw [List.drop_append];have:(cs.toList.take (a+i)).length=a+i:=by simp [Xq7];omega
   rw [this,List.drop_eq_nil_of_le (by rw [this];omega),Xqb,show a+i+1+vs.length - (a+i)=vs.length+1 from by omega,List.drop_succ_cons,Xjq];congr 1;simp;omega
  rw [c,d];simp
theorem HC {d vs:List AV} {cs b:List Value} {a:Nat} (h:aU g m S d cs) (c:aU g m S vs b):aU g m S (setCells d a vs) (cs.take a++b++cs.drop (a+b.length)):=by
 unfold setCells;rw [<- bA c];exact dQ (dQ (mC _ h) c) (oS _ h)
theorem PZ {d vs:List AV} {cs b:List Value} {a:Nat} (h:bw S d cs) (c:bw S vs b):bw S (setCells d a vs) (cs.take a++b++cs.drop (a+b.length)):=by
 unfold setCells;rw [<- kz c];exact iV (iV (iy _ h) c) (ky _ h)
def kA (g:bW) (m:aN) (S:aH) (place:Nat->Option (Nat × Nat)):List (Nat × Nat × AV)->List (Nat × Value)->Prop
 | [],[]=>True
 |(off,size,v)::r,(i,c)::q=>place i=some (off,size)/\VR g m S v c/\kA g m S place r q
 |_,_=>False
theorem lI {place:Nat->Option (Nat × Nat)}:∀ (ps:List (Nat × Nat × AV)) (qs:List (Nat × Value)) (cells cells':List AV) (cs:Array Value),kA g m S place ps qs->aU g m S cells cs.toList->q_ cells ps=some cells'->
  ∃ a,Instr.fill place cs qs=some a/\aU g m S cells' a.toList/\a.size=cs.size
 | [],[],cells,cells',cs,_,hv,h=>by simp [q_] at h;subst h;exact ⟨cs,rfl,hv,rfl⟩
 | (off,size,v)::r,(i,c)::q,cells,cells',cs,hp,hv,h=>by
  simp only [kA] at hp;simp only [q_] at h;split at h
  .rename_i l;simp only [π] at l;obtain ⟨⟨o,k⟩,x⟩:=l;obtain ⟨n,B⟩:=xE hp.2.1 (λy t=>List.all_eq_true.1 x y t);have u:=bA n;have b:=bA hv;have o:=aG o;have k:=dB k;have z:c.cells.size=size:=by simp only [Array.length_toList] at u;omega
   have f:off+c.cells.size<=cs.size:=by simp only [Array.length_toList] at b;omega
   have j:=A4 c.cells.toList 0 off cs (by simpa using f);have d:aU g m S (setCells cells off v.cells) ((c.cells.zipIdx.foldl (λ(cs:Array Value) (p:Value × Nat)=>cs.setIfInBounds (off+p.2) p.1) cs)).toList:=by
    rw [<- Array.foldl_toList,Array.toList_zipIdx,j];simp only [Xq3];exact HC hv n
   obtain ⟨a,e,A,s⟩:=lI r q _ cells' _ hp.2.2 d h;refine ⟨a, ?_,A, ?_⟩
   .simp only [Instr.fill,hp.1];rw [if_neg (by simp;omega)];exact e
   .rw [s,<- Array.length_toList,<- Array.foldl_toList,Array.toList_zipIdx,j];simp;omega
  .cases h
 | [],_::_,_,_,_,hp,_,_=>by simp [kA] at hp
 |_::_,[],_,_,_,hp,_,_=>by simp [kA] at hp
theorem mD {t:Nat} {ti:TI} {i:TypeInfo} {d:TypeDesc} {z:Value} (a:wK P t ti i d z):aU g m S ti.zero z.cells.toList:=by
 rw [a.zcells];exact bz _ (qV S _)
def sE (g:bW) (m:aN) (S:aH):List (Nat × AV)->List (Nat × Value)->Prop
 | [],[]=>True
 |(i,v)::r,(j,c)::q=>i=j/\VR g m S v c/\sE g m S r q
 |_,_=>False
theorem nX {size:Nat}:∀ {ps:List (Nat × AV)} {qs:List (Nat × Value)},sE g m S ps qs->kA g m S (λi=>some (i*size,size)) (ps.map λ(i,v)=>(i*size,size,v)) qs
 | [],[],_=>by simp [kA]
 |(i,v)::r,(j,c)::q,h=>by
  simp only [sE] at h;obtain ⟨rfl,a,b⟩:=h;simp only [Xqf,kA];exact ⟨trivial,a,nX b⟩
 | [],_::_,h=>by simp [sE] at h
 |_::_,[],h=>by simp [sE] at h
theorem vM {b:List (Nat × Nat × Nat)} {place:Nat->Option (Nat × Nat)} (hp:∀ i x,b[i]? =some x->place i=some (x.1,x.2.2)):∀ {ps:List (Nat × AV)} {qs:List (Nat × Value)} {rs:List (Nat × Nat × AV)},sE g m S ps qs->
  gm (λ(q:Nat × AV)=>(b[q.1]?).map λ(x:Nat × Nat × Nat)=>(x.1,x.2.2,q.2)) ps=some rs->kA g m S place rs qs
 | [],[],rs,_,h=>by simp [gm] at h;subst h;simp [kA]
 | (i,v)::r,(j,c)::q,rs,hn,h=>by
  simp only [sE] at hn;obtain ⟨rfl,d,e⟩:=hn;simp only [gm] at h;cases a:b[i]? with
  |none=>simp [a] at h
  | some x=>
   simp only [a,Xjj] at h;split at h
   .rename_i l f;cases h;simp only [kA];exact ⟨hp i x a,d,vM hp e f⟩
   .cases h
 | [],_::_,_,h,_=>by simp [sE] at h
 |_::_,[],_,h,_=>by simp [sE] at h
theorem vL:∀ (fields:List Field),(∀ f ∈ fields,(P.info? f.type).isSome)->fields.mapM (λf=>(P.info? f.type).map λi=>(f.offset,i.size))=some (fields.map λf=>(f.offset,match P.info? f.type with|some i=>i.size|none=>0))
 | [],_=>rfl
 | f::r,h=>by
  cases a:P.info? f.type with
  |none=>have:=h f (by simp);simp [a] at this
  |some i=>
   simp [List.mapM_cons,a,vL r (λf b=>h f (by simp [b]))]
theorem Cd (o:dP P ap) {t:Nat} {ti:TI} {i:TypeInfo} {d:TypeDesc} {z:Value} (b:wK P t ti i d z) {ps:List (Nat × AV)} {qs:Array (Nat × Value)} (y:sE g m S ps qs.toList) {v:AV} {ups:List (Nat × aM)} {bs:List Bool}
  (h:FQ ap ti ps=some (v,ups,bs)):ups= []/\∃ cv,(Instr.build t qs).run P w= .ok cv w/\VR g m S v cv:=by
 unfold FQ at h;split at h
 .rename_i D hd;have k:=bind_some h;clear h;obtain ⟨B,s,h⟩:=k;have k:=bind_some h;clear h;obtain ⟨cs,j,h⟩:=k;obtain ⟨rfl,rfl,rfl⟩:=aK h;rw [b.d_eq] at hd;obtain ⟨fields,rfl,rfl⟩:=qF hd;by_cases hall:∀ f ∈ fields.toList,(P.info? f.type).isSome
  .have r:=vL fields.toList hall;have p:=vM (place:=((fields.toList.map λf=>(f.offset,match P.info? f.type with|some i=>i.size|none=>0)).toArray[·]?)) (by
    intro i x A;simp only [Xqx,Xqq] at A;obtain ⟨f,q,rfl⟩:=A;simp [q];rfl) y s
   obtain ⟨a,l,u,_⟩:=lI B qs.toList ti.zero cs z.cells p (mD b) j;refine ⟨rfl,.agg a,run_build w t qs a ?_, ?_⟩
   .simp only [Program.built,b.info,b.und,b.zero];rw [r];exact l
   .simp only [VR];exact ⟨a.toList,by simp,u⟩
  .exfalso;apply hall;intro f q;have:=b.fld;simp only [MP] at this;exact List.all_eq_true.1 this f q
 .rename_i n e hd;have k:=bind_some h;clear h;obtain ⟨C,c,h⟩:=k;have k:=bind_some h;clear h;obtain ⟨cs,j,h⟩:=k;obtain ⟨rfl,rfl,rfl⟩:=aK h;obtain ⟨G,E,F,c⟩:=cB o c;rw [b.d_eq] at hd;have hd:=ub hd;subst hd;obtain ⟨a,l,u,_⟩:=lI _ qs.toList ti.zero cs z.cells (nX (size:=C.size) y) (mD b) j;refine ⟨rfl,.agg a,run_build w t qs a ?_, ?_⟩
  .simp only [Program.built,b.info,b.und,b.zero,c.info];rw [<- c.size];exact l
  .simp only [VR];exact ⟨a.toList,by simp,u⟩
 .cases h
end
end AM
namespace AM
open Go
section
variable {P:Program} {ap:AP} {g:bW} {m:aN} {S:aH} {w:World}
theorem rV {t:Nat} {ti:TI} {i:TypeInfo} {d:TypeDesc} {z:Value} (f:wK P t ti i d z) {v:AV} (h:mY ti ti.zero=some v):VR g m S v z:=by
 have e:=mD (g:=g) (m:=m) (S:=S) f;have b:=f.zagg;unfold mY at h;rw [f.d_eq,zV] at h;unfold XV at b;rw [f.zero] at b;split at h
 .rename_i a;cases h;cases d<;>simp [TypeDesc.isRow] at a<;>cases z<;>simp at b
  all_goals
   simp only [VR];exact ⟨_,rfl,by simpa [Value.cells] using e⟩
 .rename_i a;split at h
  .rename_i c k;cases h;have j:z.cells=#[z]:=by
    cases z<;>first|rfl|skip
    cases d<;>simp [TypeDesc.isRow] at a b
   rw [k,j] at e;simp only [aU] at e;exact e.1
  .cases h
theorem Am (r:dP P ap) {x v:AV} {C:Value} (o:VR g m S x C) {asserted:Nat} {ok:Bool} {ups:List (Nat × aM)} {bs:List Bool} (h:Ca ap x asserted ok=some (v,ups,bs)) (A:Nat):
  ups= []/\∃ cv,(Instr.typeAssert C A asserted ok).run P w= .ok cv w/\VR g m S v cv:=by
 unfold Ca at h;have n:=bind_some h;clear h;obtain ⟨ti,y,h⟩:=n;obtain ⟨i,d,z,j⟩:=cB r y;have a:∀ B,d ≠ .interface B:=by
  intro B e;subst e;rw [j.d_eq] at h;simp [gX] at h
 have key:∀ (c:Value),(∃ t u,c= .iface t u/\t ≠ asserted)\/c= .nilIface->∀ l,VR g m S l z->ok=true->(Instr.typeAssert c A asserted ok).run P w= .ok (.tuple #[z,.bool false]) w:=by
  intro c E l _ s;subst s;rcases E with ⟨t,u,rfl,k⟩|rfl
  .cases d<;>first|exact absurd rfl (a _)|simp [Instr.typeAssert,run_underlying j.und,k,zeroValue,typeInfo,j.info,j.zero]
  .cases d<;>first|exact absurd rfl (a _)|simp [Instr.typeAssert,run_underlying j.und,zeroValue,typeInfo,j.info,j.zero]
 split at h
 .cases h
 .split at h
  .rename_i t u;simp only [VR] at o;obtain ⟨q,rfl,D⟩:=o;split at h
   .rename_i f;have f:=aG f;subst f;obtain ⟨rfl,rfl,rfl⟩:=aK h;cases ok
    .refine ⟨rfl,q, ?_,D⟩;cases d<;>first|exact absurd rfl (a _)|simp [Instr.typeAssert,run_underlying j.und]
    .refine ⟨rfl,.tuple #[q,.bool true], ?_, ?_⟩
     .cases d<;>first|exact absurd rfl (a _)|simp [Instr.typeAssert,run_underlying j.und]
     .simp only [VR];exact ⟨[q,.bool true],rfl,by simp only [aU,VR,PR];exact ⟨D,trivial,trivial⟩⟩
   .rename_i f;have k:t ≠ asserted:=by intro e;subst e;simp at f
    cases ok
    .cases h
    .simp only at h;have n:=bind_some h;clear h;obtain ⟨l,p,h⟩:=n;obtain ⟨rfl,rfl,rfl⟩:=aK h;have b:=rV (g:=g) (m:=m) (S:=S) j p;refine ⟨rfl,_,key _ (.inl ⟨_,_,rfl,k⟩) l b rfl, ?_⟩;simp only [VR];exact ⟨[z,.bool false],rfl,by simp only [aU,VR,PR];exact ⟨b,trivial,trivial⟩⟩
  .simp only [VR,PR] at o;subst o;cases ok
   .cases h
   .simp only at h;have n:=bind_some h;clear h;obtain ⟨l,p,h⟩:=n;obtain ⟨rfl,rfl,rfl⟩:=aK h;have b:=rV (g:=g) (m:=m) (S:=S) j p;refine ⟨rfl,_,key _ (.inr rfl) l b rfl, ?_⟩;simp only [VR];exact ⟨[z,.bool false],rfl,by simp only [aU,VR,PR];exact ⟨b,trivial,trivial⟩⟩
  .cases h
theorem om (R:bE ap g m S w) {rd:bW} (I:∀ b B,rd b=some B->g b=some B) {size:Nat} {x:AV} {N:Value} (i:VR g m S x N) {E:List AV} {n:Nat} {pr:Bool} (h:E9 size rd x=some (E,n,pr)) (O:E.length=n*size)
  {tx:Nat} (hk:((∃ s,x= .str s)/\P.underlying tx=some .string/\size=1)\/((∀ s,x ≠ .str s)/\∃ e,P.underlying tx=some (.slice e))):
  ∃ news,Src P size tx N n news w/\aU g m S E news/\(pr=true->bw S E news):=by
 unfold E9 at h;split at h
 .rename_i U V nn;cases h;obtain ⟨_,e,d⟩:=hk.resolve_left (by rintro ⟨⟨s,hs⟩,_⟩;cases hs);simp only [VR,PR] at i;obtain ⟨a,cap,rfl,X,q⟩:=i;rcases q with ⟨_,rfl,rfl,rfl⟩|⟨b,o,vs,rfl,hp,hs⟩
  .cases a with
   |none=>exact ⟨[],Src.ofNil w d 0,by simp [aU],λ_=>by simp [bw]⟩
   |some p=>exact ⟨[],Src.ofSlice w d p 0 0 [] (by simp) (λj u c=>by simp at c) (λu D=>by simp at D),by simp [aU],λ_=>by simp [bw]⟩
  .refine ⟨vs,Src.ofSlice w d ⟨b,o,none⟩ n cap vs (by rw [<- kz hp,O]) (λj u c=>by rw [Addr.add_mid];exact R.one (hs j u c).1 (hs j u c).2) ?_,bz _ hp,λ_=>hp⟩;intro u D;obtain ⟨j,c⟩:=List.getElem?_of_mem D;exact (hs j u c).2
 .cases h;obtain ⟨_,e,d⟩:=hk.resolve_left (by rintro ⟨⟨s,hs⟩,_⟩;cases hs);simp only [VR,PR] at i;subst i;exact ⟨[],Src.ofNil w d 0,by simp [aU],λ_=>by simp [bw]⟩
 .rename_i s;cases h;obtain ⟨_,d,J⟩:=hk.resolve_right (by rintro ⟨hs,_⟩;exact hs s rfl);simp only [VR,PR] at i;subst i;subst J;have hp:∀ s:List UInt8,bw S (s.map λb=>AV.int .u8 b.toNat) (s.map λb=>Value.int .u8 b.toNat):=by
   intro s
   induction s with
   |nil=>simp [bw]
   |cons a r ih=>simp only [Xqf,bw,PR];exact ⟨trivial,ih⟩
  have f:=Src.ofString (P:=P) w d ⟨s.toArray⟩;have Z:byteCells ⟨s.toArray⟩=s.map λb=>Value.int .u8 b.toNat:=by simp [byteCells]
  rw [Z,tS] at f;exact ⟨_,f,bz _ (hp s),λ_=>hp s⟩
 .rename_i b ver j V;have Y:=bind_some h;clear h;obtain ⟨B,W,h⟩:=Y;split at h
  .rename_i v;cases h;simp only [π,Xqt] at v;obtain ⟨v,l⟩:=v;have t:B.esz ≠ eZ:=λe=>by rw [e] at l;exact absurd l (by decide)
   obtain ⟨_,e,d⟩:=hk.resolve_left (by rintro ⟨⟨s,hs⟩,_⟩;cases hs);simp only [VR] at i;obtain ⟨B',y,_,_,q⟩:=i;have A:=I b B W;rw [A] at y;cases y;obtain ⟨o,rfl,q1,T,q3⟩:=q (aG v.1);have F:=aG v.2;obtain ⟨cur,e',vs,rest,k,z,hp,K,G,L⟩:=(R.blk b B A).lies;have k:=k.cells t;have G:=G t;have M:=bA K;have H:((vs.drop (j*size)).take (n*size)).length=n*size:=by
    rw [<- bA (mC _ (oS _ K))];exact O
   by_cases hn:n=0
   .subst hn;have Q:(vs.drop (j*size)).take (0*size)= []:=by simp
    refine ⟨[], ?_, ?_, ?_⟩
    .exact Src.ofSlice w d _ 0 _ [] (by simp) (λ_ _ h=>by simp at h) (λ_ h=>by simp at h)
    .simp [aU]
    .intro _;simp [bw]
   .have C:=T (by omega);refine ⟨(vs.drop (j*size)).take (n*size),Src.ofSlice w d _ n _ _ H ?_ ?_,mC _ (oS _ K),λpr=>iy _ (ky _ (hp pr))⟩
    .intro jj u c;rw [C,Addr.add_mid,F,oV k,z];rw [Xjn] at c;split at c
     .rw [List.getElem?_drop] at c;rw [Xxe (List.getElem?_eq_some_iff.1 c).1];exact c
     .cases c
    .intro u D;exact G u (Xzl (Xj3 D))
  .cases h
 .cases h
theorem Bn:∀ (a:List Int) (s:List UInt8),a.foldl (λ(r:ByteArray) n=>r.push (Xql n.toNat)) ⟨s.toArray⟩=⟨(s++a.map λn=>Xql n.toNat).toArray⟩
 | [],s=>by simp
 |n::a,s=>by
  simp only [Xjx];have e:(⟨s.toArray⟩:ByteArray).push (Xql n.toNat)=⟨(s++ [Xql n.toNat]).toArray⟩:=by simp [ByteArray.push]
  rw [e,Bn a];simp
theorem xT (E:dP P ap) (Z:bE ap g m S w) {rd:bW} (Q:∀ b B,rd b=some B->g b=some B) {s d:Nat} {T td:TI} (I:ap.tyAt s=some T) (O:ap.tyAt d=some td) {x v:AV} {M:Value} (G:VR g m S x M) {ups:List (Nat × aM)} {bs:List Bool}
  (h:xS ap T td rd x=some (v,ups,bs)) (hbs:∀ b ∈ bs,b=true):ups= []/\∃ cv,(convert s d M).run P w= .ok cv w/\VR g m S v cv:=by
 obtain ⟨i1,d1,z1,C⟩:=cB E I;obtain ⟨i2,d2,z2,D⟩:=cB E O;unfold xS at h;split at h
 .rename_i k k' n hd;obtain ⟨rfl,rfl,rfl⟩:=aK h;rw [D.d_eq] at hd;have hd:=Pt hd;subst hd;simp only [VR,PR] at G;subst G;exact ⟨rfl,_,by simp [convert,run_underlying C.und,run_underlying D.und,Conv.intToInt];rfl,by simp only [VR,PR]⟩
 .rename_i s' j i;obtain ⟨rfl,rfl,rfl⟩:=aK h;rw [C.d_eq] at j;rw [D.d_eq] at i;have j:=sr j;have i:=sr i;subst j;subst i;simp only [VR,PR] at G;subst G;exact ⟨rfl,_,by simp [convert,run_underlying C.und,run_underlying D.und];rfl,by simp only [VR,PR]⟩
 .rename_i x0 e j i;have R:=bind_some h;clear h;obtain ⟨te,t,h⟩:=R;obtain ⟨ie,de,ze,t⟩:=cB E t;split at h
  .cases h
  .rename_i X xt xb u y;have R:=bind_some h;clear h;obtain ⟨⟨p,n,pr⟩,z,h⟩:=R;obtain ⟨rfl,rfl,rfl⟩:=aK h;obtain ⟨V,N⟩:=bQ hbs;obtain ⟨N,_⟩:=bQ N;rw [C.d_eq] at j;rw [D.d_eq] at i;have j:=dM j;have i:=sr i;subst j;subst i;rw [t.d_eq] at u;have u:=Pt u;subst u;have V:=aG V;obtain ⟨f,hs,W,_⟩:=om (P:=P) Z Q G z (by omega) (tx:=s) (.inr ⟨λs e=>y s e,e,C.und⟩);have F:f=(p.map AV.toInt).map (Value.int .u8):=by
    have:∀ (p:List AV) (f:List Value),aU g m S p f->p.all (chk (.int .u8))=true->f=(p.map AV.toInt).map (Value.int .u8):=by
     intro p
     induction p with
     |nil=>intro f h _;cases f<;>simp [aU] at h ⊢
     | cons a r ih=>
      intro f h H;cases f with
      |nil=>simp [aU] at h
      |cons c q=>
       simp only [aU] at h;simp only [Xzn,π] at H;rw [Xqf,Xqf,ih q h.2 H.2];congr 1;cases a<;>simp [chk] at H
       simp only [VR,PR] at h;rw [h.1,dw H.1];rfl
    exact this p f W N
   refine ⟨rfl,.string ⟨((p.map AV.toInt).map λn=>Xql n.toNat).toArray⟩, ?_, ?_⟩
   .have hcells:=hs.cells;have A:=hs.len w;have o:=G;cases M
    case slice a l c=>
     have Y:l=n:=by simpa [Builtin.lenOf] using A
     subst Y;cases a with
     | none=>
      have J:f= []:=by simpa [Builtin.firstCells] using hcells.symm
      rw [J] at F;have K:p= []:=by
       have:(p.map AV.toInt).map (Value.int .u8)= []:=F.symm;simpa using this
      subst K;simp [convert,run_underlying C.und,run_underlying D.und,run_underlying t.und,Conv.bytesToString];rfl
     | some a=>
      have L:(loadCells a l).run P w= .ok ((p.map AV.toInt).map (Value.int .u8)).toArray w:=by
       rw [<- F];simpa [Builtin.firstCells] using hcells
      have U:=run_bytesToString (P:=P) w a l c _ L;rw [show ByteArray.empty=⟨([]:List UInt8).toArray⟩ from rfl,Bn,Xqb] at U;simp only [convert,Sem.run_bind,run_underlying C.und,run_underlying D.und,run_underlying t.und,Result.andThen_ok];exact U
    all_goals (simp [Builtin.lenOf] at A)
    case string s0=>
     exfalso;cases X<;>simp [E9] at z
     case str s1=>exact y s1 rfl
     case nilS=>simp only [VR,PR] at o;cases o
     case sl a b c=>simp only [VR,PR] at o;obtain ⟨_,_,h,_⟩:=o;cases h
     case ref a b c d=>simp only [VR] at o;obtain ⟨_,_,_,⟨_,_,_,h⟩,_⟩:=o;cases h
   .simp only [VR,PR];simp [List.map_map,Function.comp_def]
  .cases h
 .cases h
end
end AM
namespace AM
open Go
def cj (g:bW) (ups:List (Nat × aM)):bW:=λb=>match look ups b with|some B=>some B|none=>g b
def iv (m:aN) (b:Nat) (x:Nat × Nat):aN:=λc=>if c=b then x else m c
theorem dJ {α:Type}:∀ (a b:List (Nat × α)) (t:Nat),look (a++b) t=match look a t with|some x=>some x|none=>look b t
 | [],b,t=>rfl
 |(u,x)::r,b,t=>by
  simp only [Xqu,look];split
  .rfl
  .exact dJ r b t
theorem jF (ups:List (Nat × aM)) (hp:Hp):cj (look hp) ups=look (ups++hp):=by
 funext b;rw [dJ];unfold cj;cases look ups b<;>rfl
theorem cZ (g:bW):cj g []=g:=rfl
theorem jG (g:bW) (b:Nat) (B:aM) (c:Nat):cj g [(b,B)] c=if c=b then some B else g c:=by
 simp only [cj,look];by_cases h:c=b
 .subst h;simp
 .have:Xqk b c=false:=by
   cases a:Xqk b c with
   |false=>rfl
   |true=>exact absurd (aG a).symm h
  rw [this,if_neg h]
section
variable {P:Program} {ap:AP} {g:bW} {m:aN} {S:aH} {w:World}
theorem Jm.mono {g g':bW} {m a:aN} {S S':aH} {w w':World} {B:aM} {k c:Nat} (h:Jm g m S w B k c) (b:eO S S') (j:Ge g m g' a) (o:w'.heap[k]? =w.heap[k]?):Jm g' a S' w' B k c:=by
 obtain ⟨⟨cur,e,vs,rest,l,n,q,f,h5,i⟩,h7,d⟩:=h;exact ⟨⟨cur,e,vs,rest,l.same o,n,λp=>aY b _ (q p),iA b j _ f,h5,i⟩,h7,d⟩
theorem bE.seal_lt (h:bE ap g m S w) {k o:Nat} {v:Value} (a:S k o=some v):k<w.heap.size:=ju (h.sealed k o v a)
theorem bE.put (h:bE ap g m S w) (b:Nat) (B:aM) (k c:Nat) {w':World}
  (i:w.heap.size<=k\/∃ B0,g b=some B0/\k=(m b).1) (hw:w.grownBy w' (some k)) (hblk:Jm g m S w' B k c)
  (hge:∀ B0,g b=some B0->B.esz=B0.esz/\((B.ver=B0.ver/\(k,c)=m b)\/B0.ver<B.ver))
  (hseal:∀ o v,S k o=some v->aR w' k o=some v/\B.fro=true/\o<B.fz):
  bE ap (cj g [(b,B)]) (iv m b (k,c)) S w'/\Fr g m S w (cj g [(b,B)]) (iv m b (k,c)) S w':=by
 have t:Ge g m (cj g [(b,B)]) (iv m b (k,c)):=by
  intro f B1 p;by_cases e:f=b
  .subst e;obtain ⟨a,j⟩:=hge B1 p;refine ⟨B,by rw [jG,if_pos rfl],a, ?_⟩;rcases j with ⟨j,C⟩|j
   .exact .inl ⟨j,by simp [iv,C]⟩
   .exact .inr j
  .exact ⟨B1,by rw [jG,if_neg e];exact p,rfl,.inl ⟨rfl,by simp [iv,e]⟩⟩
 have s:∀ f B1,g f=some B1->f ≠ b->(m f).1 ≠ k:=by
  intro f B1 p A e;have r:=h.lt p;rcases i with i|⟨B0,l,i⟩
  .omega
  .exact A (h.inj f b B1 B0 p l (e.trans i))
 have n:∀ k0,k0<w.heap.size->k0 ≠ k->w'.heap[k0]? =w.heap[k0]? :=λk0 r y=>hw.block k0 r (by simpa using y)
 constructor
 .refine ⟨?_, ?_, ?_, ?_,h.glob⟩
  .intro f z B1 B2 d x u;rw [jG] at d x;by_cases a:f=b<;>by_cases j:z=b
   .rw [a,j]
   .rw [if_neg j] at x;simp only [iv,a,if_true,if_neg j] at u;exact absurd u.symm (s z B2 x j)
   .rw [if_neg a] at d;simp only [iv,j,if_true,if_neg a] at u;exact absurd u (s f B1 d a)
   .rw [if_neg a] at d;rw [if_neg j] at x;simp only [iv,if_neg a,if_neg j] at u;exact h.inj f z B1 B2 d x u
  .intro f B1 d;rw [jG] at d;by_cases a:f=b
   .rw [if_pos a] at d;cases d;simp only [iv,if_pos a];exact hblk.mono (eO.refl S) t rfl
   .rw [if_neg a] at d;simp only [iv,if_neg a];exact (h.blk f B1 d).mono (eO.refl S) t (n _ (h.lt d) (s f B1 d a))
  .intro k0 o v q;by_cases e:k0=k
   .subst e;exact (hseal o v q).1
   .rw [eR (n k0 (h.seal_lt q) e)];exact h.sealed k0 o v q
  .intro f B1 d o v q;rw [jG] at d;by_cases a:f=b
   .rw [if_pos a] at d;cases d;simp only [iv,if_pos a] at q;exact (hseal o v q).2
   .rw [if_neg a] at d;simp only [iv,if_neg a] at q;exact h.own f B1 d o v q
 .refine ⟨t,eO.refl S,hw.os,hw.tape,hw.output,hw.size, ?_, ?_,λ_ _ _ q=> .inl q⟩
  .intro k0 r D;refine n k0 r (λe=> ?_);subst e;rcases i with i|⟨B0,l,i⟩
   .omega
   .exact D b B0 l i.symm
  .intro f B1 d;rw [jG] at d;by_cases a:f=b
   .subst a;rcases i with i|⟨B0,l,i⟩
    .exact .inl (by simpa [iv] using i)
    .exact .inr ⟨B0,l,by simp [iv,i]⟩
   .rw [if_neg a] at d;exact .inr ⟨B1,d,by simp [iv,a]⟩
end
mutual
theorem DG {g:bW} {m:aN} {S:aH}:∀ (x:AV) {v:Value},VR g m S x v->cH x= []->PR S x v
 | .int _ _,_,p,_=>by simpa only [VR] using p
 | .bool _,_,p,_=>by simpa only [VR] using p
 | .str _,_,p,_=>by simpa only [VR] using p
 | .nilS,_,p,_=>by simpa only [VR] using p
 | .nilP,_,p,_=>by simpa only [VR] using p
 | .nilF,_,p,_=>by simpa only [VR] using p
 | .nilI,_,p,_=>by simpa only [VR] using p
 | .sl _ _ _,_,p,_=>by simpa only [VR] using p
 | .pp _ _,_,p,_=>by simpa only [VR] using p
 | .mp _ _,_,p,_=>by simpa only [VR] using p
 | .dead,_,_,_=>by simp only [PR]
 | .own _ _ _,_,p,_=>by simp only [VR] at p
 | .ref _ _ _ _,_,_,h=>by simp [cH] at h
 | .ptr _ _ _,_,_,h=>by simp [cH] at h
 | .mr _ _,_,_,h=>by simp [cH] at h
 | .agg l,_,p,h=>by
  simp only [VR] at p;simp only [PR];simp only [cH] at h;obtain ⟨vs,e,q⟩:=p;exact ⟨vs,e,di l q h⟩
 | .tup l,_,p,h=>by
  simp only [VR] at p;simp only [PR];simp only [cH] at h;obtain ⟨vs,e,q⟩:=p;exact ⟨vs,e,di l q h⟩
 | .fn f a c,_,p,h=>by
  simp only [VR] at p;simp only [PR];simp only [cH,Xzw] at h;obtain ⟨b,d,e,q,r⟩:=p;exact ⟨b,d,e,di a q h.1,di c r h.2⟩
 | .ifc t x,_,p,h=>by
  simp only [VR] at p;simp only [PR];simp only [cH] at h;obtain ⟨u,e,q⟩:=p;exact ⟨u,e,DG x q h⟩
theorem di {g:bW} {m:aN} {S:aH}:∀ (l:List AV) {vs:List Value},aU g m S l vs->bD l= []->bw S l vs
 | [],[],_,_=>by simp only [bw]
 |x::r,v::vs,p,h=>by simp only [aU] at p;simp only [bD,Xzw] at h;simp only [bw];exact ⟨DG x p.1 h.1,di r p.2 h.2⟩
 | [],_::_,p,_=>by simp [aU] at p
 |_::_,[],p,_=>by simp [aU] at p
end
section
variable {P:Program} {ap:AP} {g:bW} {m:aN} {S:aH} {w:World}
theorem mK {α:Type} {l:List α} (h:l.isEmpty=true):l= []:=by cases l<;>simp at h ⊢
theorem bE.fresh (h:bE ap g m S w) {nid:Nat} (j:g nid=none) (B:aM) (f:B.esz ≠ eZ) (c:Nat) {w':World} {cur:Array Value} {e:TypeId} (b:w.grownBy w' none) (a:w'.heap[w.heap.size]? =some (.cells cur e (0,0)))
  (hver:B.fro=false->B.fz=0) (hfz:B.fz<=B.cells.length) {vs rest:List Value} (hc:cur.toList=vs++rest) (hp:B.pr=true->bw S B.cells vs) (d:aU g m S B.cells vs) (h1:∀ u ∈ vs,u.oneCell'=true) (hcap:0<B.esz->cur.size=c*B.esz/\c<=maxLen):
  bE ap (cj g [(nid,B)]) (iv m nid (w.heap.size,c)) S w'/\Fr g m S w (cj g [(nid,B)]) (iv m nid (w.heap.size,c)) S w':=by
 refine h.put nid B w.heap.size c (.inl (κ _)) ⟨b.os,b.tape,b.output,b.size,λk i _=>b.block k i (by simp)⟩ ⟨⟨cur,e,vs,rest,gA.of f a,hc,hp,d,λ_=>h1,λh0 _=>hcap h0⟩,hver,hfz⟩ (λB0 h0=>by rw [j] at h0;cases h0) ?_;intro o v d;have:=h.seal_lt d;omega
theorem AL (h:bE ap g m S w) {nid:Nat} (f:g nid=none) {cells:List AV} {cv:Value} (b:aU g m S cells cv.cells.toList) (_hl:∀ x ∈ cells,kO x=true) (c:∀ u ∈ cv.cells,u.oneCell'=true) (t:TypeId):
  ∃ m' w',(newVar t cv).run P w= .ok ⟨w.heap.size,0,none⟩ w'/\bE ap (cj g [fJ nid cells 0]) m' S w'/\Fr g m S w (cj g [fJ nid cells 0]) m' S w'/\(m' nid).1=w.heap.size:=by
 have a:=h.fresh (nid:=nid) f (fJ nid cells 0).2 (by show 0 ≠ eZ;decide) 0 (w':=w.alloc (.cells cv.cells t)) (cur:=cv.cells) (e:=t) (World.grownBy_alloc w _ none) (heap_alloc_new w _) (λ_=>rfl) (Xqo _) (vs:=cv.cells.toList) (rest:= []) (by simp)
  (λhp=>di _ b (mK hp)) b (λu d=>c u (by simpa using d)) (λh=>by simp [fJ] at h)
 refine ⟨_,_, ?_,a.1,a.2,by simp [iv]⟩;simp [newVar,newRow]
theorem Iu {b:aN} {nid:Nat} {cells:List AV} {a k:Nat} (c:(b nid).1=k):VR (cj g [fJ nid cells a]) b S (.ptr nid 0 0) (.pointer (some ⟨k,0,none⟩)):=by
 simp only [VR];refine ⟨(fJ nid cells a).2, ?_,Xqo _,⟨_,_,rfl⟩,λ_=>by rw [c]⟩;show cj g [(nid,(fJ nid cells a).2)] nid=_;rw [jG,if_pos rfl]
theorem Dn (h:bE ap g m S w) {rd:bW} (L:∀ b B,rd b=some B->g b=some B) {t:Nat} {ti:TI} {i:TypeInfo} {d:TypeDesc} {z:Value} (V:wK P t ti i d z) {p x v:AV} {U c:Value} (hp:VR g m S p U) (hx:VR g m S x c)
  {ups:List (Nat × aM)} {bs:List Bool} (hs:Hl ti rd p x=some (v,ups,bs)) (hbs:∀ b ∈ bs,b=true):
  v= .dead/\∃ m' w',(Instr.storeAt t U c).run P w= .ok () w'/\bE ap (cj g ups) m' S w'/\Fr g m S w (cj g ups) m' S w':=by
 unfold Hl at hs;split at hs
 .rename_i b ver a;have hq:=bind_some hs;clear hs;obtain ⟨B,hB,hs⟩:=hq;simp only at hs;split at hs
  .rename_i N;simp only [π,Xqt] at N;obtain ⟨⟨⟨⟨c1,c2⟩,c3⟩,c4⟩,T⟩:=N;have l:B.esz ≠ eZ:=λe=>by rw [e] at T;exact absurd T (by decide)
   cases hs;have f:=L b B hB;have C:=aG c1;have Q:=aG c3;have O:=dB (hbs _ (List.mem_singleton.2 rfl));simp only [VR] at hp;obtain ⟨B',G,_,_,q⟩:=hp;rw [f] at G;cases G;have q:=q C;subst q;obtain ⟨s,F⟩:=xE hx (λy Y=>List.all_eq_true.1 c4 y Y);obtain ⟨⟨cur,e,vs,rest,J,W,Z,M,K,k6⟩,k7,X⟩:=h.blk b B f;have J:=J.cells l;have K:=K l;have r:=bA s;have R:=bA M;have I:c.cells.size=i.size:=by simp only [Array.length_toList] at r;rw [<- V.size];omega
   have D:cur.toList.length=vs.length+rest.length:=by rw [W];simp
   have H:=run_storeCells_at P (m b).1 a e c.cells.toList 0 cur w J (by simp only [Array.length_toList] at r D ⊢;omega) (λu j=>F u (by simpa using j));simp only [Xq3] at H;have hnewl:(cur.toList.take a++c.cells.toList++cur.toList.drop (a+c.cells.toList.length))=(vs.take a++c.cells.toList++vs.drop (a+c.cells.toList.length))++rest:=by
    rw [W,Xx7 (by omega),List.drop_append_of_le_length (by omega)];simp [Xqe]
   have n:=h.put b {B with cells:=setCells B.cells a x.cells,pr:=B.pr && (bD x.cells).isEmpty} (m b).1 (m b).2 (w':=w.setRow (m b).1 (cur.toList.take a++c.cells.toList++cur.toList.drop (a+c.cells.toList.length)).toArray)
    (.inr ⟨B,f,rfl⟩) ⟨rfl,rfl,rfl,by simp,λk _ hk=>setRow_other w _ k _ (λe=>hk (by rw [e]))⟩
    ⟨⟨_,e,vs.take a++c.cells.toList++vs.drop (a+c.cells.toList.length),rest,gA.of l (setRow_heap w _ cur _ e _ J),by rw [Xvo,hnewl],λA=>by
      simp only [π] at A;exact PZ (Z A.1) (di _ s (mK A.2)),HC M s,by
      intro _ u j;rcases List.mem_append.1 j with j|j
      .rcases List.mem_append.1 j with j|j
       .exact K u (Xj3 j)
       .exact F u (by simpa using j)
      .exact K u (Xzl j),λE _=>by
      obtain ⟨s1,s2⟩:=k6 E l;refine ⟨?_,s2⟩;rw [<- s1,Xxg];simp only [ξ,Xq7,Xx3,Array.length_toList] at r D ⊢;omega⟩,k7,by
     have:(setCells B.cells a x.cells).length=B.cells.length:=by simp only [setCells,ξ,Xq7,Xx3];omega
     simp only [this];exact X⟩
    (λB0 h0=>by rw [f] at h0;cases h0;exact ⟨rfl,.inl ⟨rfl,rfl⟩⟩)
    (λo v hv=>by
     have:=(h.own b B f o v hv).1;rw [c2] at this;cases this)
   refine ⟨rfl,_,_, ?_,n.1,n.2⟩;have hn:¬ (c.cells.size ≠ i.size):=by simp [I]
   simp [Instr.storeAt,Instr.sureAddr,storeVar,Go.sizeOf,typeInfo,V.info,I,H]
  .cases hs
 .cases hs
end
end AM
namespace AM
open Go
section
variable {P:Program} {ap:AP} {g:bW} {m:aN} {S:aH} {w:World}
theorem kp (g:bW) (b:Nat) (B:aM):cj g [(b,B)] b=some B:=by rw [jG,if_pos rfl]
theorem yt {w w':World} (h:w.grownBy w' none) (r:Option Nat):w.grownBy w' r:=⟨h.os,h.tape,h.output,h.size,λk a _=>h.block k a (by simp)⟩
theorem kJ (w:World) (o:Obj):w.grownBy (w.drew.alloc o) none:=⟨rfl,rfl,rfl,by simp,λk a _=>Go.RowKit.Below.heap_alloc w.drew o k a⟩
theorem qQ {t tx ty e:TypeId} {i:TypeInfo} (d:P.underlying t=some (.slice e)) (c:P.info? e=some i) {x:Value} {a:List Value} (hs:Src P i.size tx x 0 a w):
  (Builtin.append_ #[t,tx] ty #[.slice none 0 0,x]).run P w= .ok (.slice none 0 0) w:=by
 rcases hs.kind with ⟨e',b⟩|b<;>simp [Builtin.append_,run_underlying d,run_underlying b,Go.sizeOf,typeInfo,c,hs.len,hs.cells]
theorem qR {t tx ty e:TypeId} {i:TypeInfo} (h:P.underlying t=some (.slice e)) (f:P.info? e=some i) {k o sLen sCap n:Nat} {x:Value} {a:List Value} (hs:Src P i.size tx x n a w) (hroom:sLen+n<=sCap)
  {cur:Array Value} {e':TypeId} (hk:w.heap[k]? =some (.cells cur e' (0,0))) (hfit:o+sLen*i.size+a.length<=cur.size):
  (Builtin.append_ #[t,tx] ty #[.slice (some ⟨k,o,none⟩) sLen sCap,x]).run P w= .ok (.slice (some ⟨k,o,none⟩) (sLen+n) sCap) (w.setRow k (cur.toList.take (o+sLen*i.size)++a++cur.toList.drop (o+sLen*i.size+a.length)).toArray):=by
 have b:=run_storeCells_at P k (o+sLen*i.size) e' a 0 cur w hk (by simpa using hfit) hs.one;simp only [Xq3] at b;rcases hs.kind with ⟨d,c⟩|c<;>simp [Builtin.append_,run_underlying h,run_underlying c,Go.sizeOf,typeInfo,f,hs.len,hroom,hs.cells,Addr.add_mid,b]
theorem EQ (b:Nat):BB b<=ER:=by
 unfold BB;split
 .exact κ _
 .decide
theorem vr {n a bytes tb:Nat} (h:a<n) (b:n<=BB tb) (i:bytes=tb) (d:bytes<=256):Builtin.nextslicecap n a*bytes<=281474976710656:=by
 refine growslice_fits h ?_;subst i;unfold BB at b;split at b
 .rename_i c;have f:=Nat.le_of_ble_eq_true c;have:n*bytes<=ER*128:=Xwu b f;have e:ER*128=140737488355328:=by decide
  omega
 .have:n*bytes<=549755813888*256:=Xwu b d;omega
theorem tO:ER=1099511627776:=by decide
theorem wD {t tx ty e:TypeId} {i:TypeInfo} (f:P.underlying t=some (.slice e)) (d:P.info? e=some i) {x:Value} {base:Option Addr} {sLen sCap:Nat} (hs:Src P i.size tx x 0 [] w) (c:sLen<=sCap):
  (Builtin.append_ #[t,tx] ty #[.slice base sLen sCap,x]).run P w= .ok (.slice base sLen sCap) w:=by
 cases base with
 |none=>rcases hs.kind with ⟨e',b⟩|b<;>simp [Builtin.append_,run_underlying f,run_underlying b,Go.sizeOf,typeInfo,d,hs.len,hs.cells,c]
 |some a=>rcases hs.kind with ⟨e',b⟩|b<;>simp [Builtin.append_,run_underlying f,run_underlying b,Go.sizeOf,typeInfo,d,hs.len,hs.cells,c,storeCells]
theorem qY (h:bE ap g m S w) {rd:bW} (Q:∀ b B,rd b=some B->g b=some B) {nid:Nat} (hn:g nid=none) {t tx e:Nat} {ti p:TI} {i F:TypeInfo} {z N:Value} {de:TypeDesc} (ht:wK P t ti i (.slice e) z) (r:wK P e p F de N)
  {s x v:AV} {cs cx:Value} (hvs:VR g m S s cs) (hvx:VR g m S x cx)
  (hk:((∃ s,x= .str s)/\P.underlying tx=some .string/\p.size=1)\/((∀ s,x ≠ .str s)/\∃ e,P.underlying tx=some (.slice e)))
  {em:Bool} (R:s= .nilS->∃ n,rN x=some n/\Xqk n 0=em)
  {ups:List (Nat × aM)} {bs:List Bool} (E:sH nid p rd em s x=some (v,ups,bs)) (y:∀ b ∈ bs,b=true) (ty:Nat):
  ∃ cv m' w',(Builtin.append_ #[t,tx] ty #[cs,cx]).run P w= .ok cv w'/\bE ap (cj g ups) m' S w'/\Fr g m S w (cj g ups) m' S w'/\VR (cj g ups) m' S v cv:=by
 have hcount:∀ L n pr,E9 p.size rd x=some (L,n,pr)->rN x=some n:=by
  intro L n pr a;unfold E9 at a;split at a
  .cases a;rfl
  .cases a;rfl
  .cases a;rfl
  .have hq:=bind_some a;clear a;obtain ⟨B,hB,a⟩:=hq;split at a
   .cases a;rfl
   .cases a
  .cases a
 unfold sH at E;have hq:=bind_some E;clear E;obtain ⟨⟨L,n,pr⟩,a,E⟩:=hq;simp only at E;split at E
 .cases E
 .rename_i X;simp only [π] at X;have hsz:=dC X.1;have hby:=dB X.2;have d:p.size=F.size:=r.size;have U:p.size ≠ eZ:=λe=>by have:=r.small;omega
  have hby':p.bytes=F.bytes:=r.bytes;have eU:N.cells.size=F.size:=r.zsize;split at E
  ·
   obtain ⟨n',hc',R⟩:=R rfl;rw [hcount _ _ _ a] at hc';cases hc';simp only [VR,PR] at hvs;subst hvs;split at E
   ·
    obtain ⟨rfl,rfl,rfl⟩:=aK E;have M:n=0:=aG R;subst M;have hl:=aG (y _ (List.mem_singleton.2 rfl));obtain ⟨c,hs,hv,hp⟩:=om (P:=P) h Q hvx a hl hk;rw [d] at hs;exact ⟨_,m,w,qQ ht.und r.info hs,by rw [cZ];exact h,by rw [cZ];exact Fr.refl _ _ _ _,by simp [VR,PR]⟩
   ·
    cases E;obtain ⟨b1,y⟩:=bQ y;obtain ⟨b2,_⟩:=bQ y;have hl:=aG b1;have hroomB:=dB b2;have hroom:=Xqs hroomB (EQ _);have M:n ≠ 0:=by intro e;subst e;simp at R
    obtain ⟨c,hs,hv,hp⟩:=om (P:=P) h Q hvx a hl hk;rw [d] at hs;have f:=run_append_grow_src w t tx ty e F N ht.und r.info r.zero none 0 0 [] (run_firstCells_none w.drew _ _ _ _) cx n c hs (by omega) (by rw [tO] at hroom;omega) (vr (by omega) (by simpa using hroomB) (by omega) (by omega));have W:n<=grownCap w n 0 e:=grownCap_ge _ _ _ _;have hle:grownCap w n 0 e<=maxLen:=grownCap_le_maxLen _ _ _ _ (by rw [tO] at hroom;simp only [maxLen];omega);simp only [Ψ] at f;have hf:=h.fresh (nid:=nid) hn ⟨L,0,false,0,p.size,pr⟩ U (grownCap w n 0 e) (cur:=([]++c).toArray++Builtin.zeroCells N.cells (grownCap w n 0 e - n)) (e:=e) (kJ w _) (heap_alloc_new w.drew _) (λ_=>rfl) (Xqo _)
     (vs:=c) (rest:=(Builtin.zeroCells N.cells (grownCap w n 0 e - n)).toList) (by simp) hp hv hs.one (λ_=> ⟨by
      simp only [Array.size_append,Xxg,Xqb,size_zeroCells,hs.newsLen,eU,d];rw [<- Xxy];congr 1;omega,hle⟩)
    refine ⟨_,_,_,f,hf.1,hf.2, ?_⟩;simp only [VR];refine ⟨_,kp _ _ _,κ _,⟨_,_,_,rfl⟩,λ_=> ⟨0, ?_, ?_, ?_,hsz,U⟩⟩
    .simp [iv]
    .simpa [iv] using W
    .simp
  .rename_i b ver mN;have hq:=bind_some E;clear E;obtain ⟨B,hB,E⟩:=hq;split at E
   .rename_i G;simp only [π,Xqt] at G;have hver:=aG G.1.1;have T:=aG G.1.2;have A:B.esz ≠ eZ:=λe=>by rw [e] at G;exact absurd G.2 (by decide)
    cases E;obtain ⟨b1,y⟩:=bQ y;obtain ⟨b2,y⟩:=bQ y;obtain ⟨b3,y⟩:=bQ y;obtain ⟨b4,_⟩:=bQ y;have hl:=aG b1;have hroomB:=dB b2;have hroom:=Xqs hroomB (EQ _);have hfit:=dB b3;have D:=Q b B hB;simp only [VR] at hvs;obtain ⟨B',hB',_,_,q⟩:=hvs;rw [D] at hB';cases hB';obtain ⟨o,rfl,hcap,ho,H,hnz1⟩:=q hver;simp only [Ψ,Nat.sub_zero,Nat.zero_mul] at hcap ho ⊢;obtain ⟨c,hs,hv,hp⟩:=om (P:=P) h Q hvx a hl hk;rw [d] at hs;have hbk:=h.blk b B D;obtain ⟨⟨cur,e',vs,rest,O,k2,k3,k4,k5,k6⟩,k7,k8⟩:=hbk;have O:=O.cells A;have k5:=k5 A;obtain ⟨s1,s2⟩:=k6 H A;have hvl:=bA k4;have hcl:cur.toList.length=vs.length+rest.length:=by rw [k2];simp
    simp only [Array.length_toList] at hcl;have hfz:B.fz<=mN*p.size:=by
     cases hf:B.fro with
     |false=>rw [k7 hf];exact Xqo _
     |true=>simp [hf] at b4;exact dB (by simpa using b4)
    have holds:bw S (B.cells.take (mN*p.size)) (vs.take (mN*p.size))\/B.pr=false:=by
     cases hp:B.pr with
     |false=>exact .inr rfl
     |true=>exact .inl (iy _ (k3 hp))
    have I:(vs.take (mN*p.size)).length=mN*F.size:=by rw [Xq7,d] at*;omega
    have Z:aU g m S (B.cells.take (mN*p.size)++L) (vs.take (mN*p.size)++c):=dQ (mC _ k4) hv;have Y:(B.pr && pr)=true->bw S (B.cells.take (mN*p.size)++L) (vs.take (mN*p.size)++c):=by
     intro hh;simp only [π] at hh;exact iV (iy _ (k3 hh.1)) (hp hh.2)
    have h1:∀ u ∈ vs.take (mN*p.size)++c,u.oneCell'=true:=by
     intro u C;rcases List.mem_append.1 C with C|C
     .exact k5 u (Xj3 C)
     .exact hs.one u C
    have J:B.fz<=(B.cells.take (mN*p.size)++L).length:=by
     rw [ξ,Xq7];omega
    by_cases hrm:mN+n<=(m b).2
    ·
     by_cases hc0:(m b).2=0
     .have hm0:mN=0:=by omega
      have M:n=0:=by omega
      subst hm0;subst M;have hnews:c= []:=by have:=hs.newsLen;simpa using this
      subst hnews;have f:=wD (P:=P) (w:=w) (ty:=ty) (base:=some ⟨(m b).1,o,none⟩) (sLen:=0) (sCap:=(m b).2) ht.und r.info hs (by omega);have l:=h.put b {B with cells:=B.cells.take (0*p.size)++L,ver:=ver+1,pr:=B.pr && pr} (m b).1 (m b).2 (w':=w) (.inr ⟨B,D,rfl⟩) ⟨rfl,rfl,rfl,κ _,λ_ _ _=>rfl⟩
       ⟨⟨cur,e',_,vs.drop (0*p.size)++rest,gA.of A O,by rw [k2];simp,Y,Z,λ_=>h1,k6⟩,k7,J⟩ (λB0 h0=>by rw [D] at h0;cases h0;exact ⟨rfl,.inr (by simp only;omega)⟩)
       (λo' u C=> ⟨h.sealed _ _ _ C,(h.own b B D o' u C)⟩)
      refine ⟨_,_,_,f,l.1,l.2, ?_⟩;simp only [VR];refine ⟨_,kp _ _ _,κ _,⟨_,_,_,rfl⟩,λ_=> ⟨o,by simp [iv],by simp,by simp [iv,hc0],H,A⟩⟩
     .have V:o=0:=ho (by omega);subst V;have hnl:=hs.newsLen;have hbig:mN*F.size+n*F.size<=(m b).2*F.size:=by rw [<- Xxy];exact Nat.mul_le_mul_right _ hrm
      have hcs:cur.size=(m b).2*F.size:=by rw [s1,T,d]
      have f:=qR (P:=P) (w:=w) (ty:=ty) (o:=0) ht.und r.info hs hrm O (by simp only [Ψ];omega);simp only [Ψ] at f;have hlist:cur.toList.take (mN*F.size)=vs.take (mN*p.size):=by rw [k2,d,Xx7 (by rw [d] at hfit;omega)]
      have l:=h.put b {B with cells:=B.cells.take (mN*p.size)++L,ver:=ver+1,pr:=B.pr && pr} (m b).1 (m b).2 (w':=w.setRow (m b).1 (cur.toList.take (mN*F.size)++c++cur.toList.drop (mN*F.size+c.length)).toArray)
       (.inr ⟨B,D,rfl⟩) ⟨rfl,rfl,rfl,by simp,λk _ hk=>setRow_other w _ k _ (λe=>hk (by rw [e]))⟩
       ⟨⟨_,e',_,cur.toList.drop (mN*F.size+c.length),gA.of A (setRow_heap w _ cur _ e' _ O),by rw [hlist],Y,Z,λ_=>h1,λ_ _=> ⟨by
        rw [<- s1,Xxg];simp only [ξ,Xq7,Xx3,Array.length_toList];omega,s2⟩⟩,k7,J⟩ (λB0 h0=>by rw [D] at h0;cases h0;exact ⟨rfl,.inr (by simp only;omega)⟩)
       (λo' u C=>by
        obtain ⟨f1,f2⟩:=h.own b B D o' u C;refine ⟨?_,f1,f2⟩;have:=h.sealed _ _ _ C;cases K:u.oneCell' with
        |false=>
         obtain ⟨_,_,hm,_⟩:=qi this K;rw [O] at hm;cases hm
        |true=>
        have this:=iY this K;rw [oV O] at this;refine (gA.of A (setRow_heap w _ cur _ e' _ O)).get ?_ (λ_=>K);simp only [Xqe];rw [Xxe (by simp only [Xq7,Array.length_toList];rw [d] at hfz;omega),List.getElem?_take_of_lt (by rw [d] at hfz;omega)];exact this)
      refine ⟨_,_,_,f,l.1,l.2, ?_⟩;simp only [VR];refine ⟨_,kp _ _ _,κ _,⟨_,_,_,rfl⟩,λ_=> ⟨0,by simp [iv],by simpa [iv] using hrm,by simp,H,A⟩⟩
    ·
     have hold:(Builtin.firstCells F.size mN (.slice (some ⟨(m b).1,o,none⟩) mN (m b).2)).run P w.drew= .ok (vs.take (mN*p.size)).toArray w.drew:=by
      refine run_firstCells_some w.drew F.size mN ⟨(m b).1,o,none⟩ mN _ _ I ?_;intro j u C;have hjl:=(List.getElem?_eq_some_iff.1 C).1;rw [I] at hjl;have hm0:0<mN:=by
       rcases Nat.eq_zero_or_pos mN with h0|h0
       .subst h0;simp at hjl
       .exact h0
      have V:o=0:=ho (by omega);subst V;rw [Addr.add_mid,Ψ,oV (w:=w.drew) (j:=j) O,k2];rw [Xjn] at C;split at C
      .rw [Xxe (List.getElem?_eq_some_iff.1 C).1];exact C
      .cases C
     have f:=run_append_grow_src w t tx ty e F N ht.und r.info r.zero (some ⟨(m b).1,o,none⟩) mN (m b).2 _ hold cx n c hs (by omega) (by rw [tO] at hroom;omega) (vr (by omega) hroomB (by omega) (by omega));have W:mN+n<=grownCap w (mN+n) (m b).2 e:=grownCap_ge _ _ _ _;have hle:grownCap w (mN+n) (m b).2 e<=maxLen:=grownCap_le_maxLen _ _ _ _ (by rw [tO] at hroom;simp only [maxLen];omega);have l:=h.put b {B with cells:=B.cells.take (mN*p.size)++L,ver:=ver+1,pr:=B.pr && pr} w.heap.size (grownCap w (mN+n) (m b).2 e) (.inl (κ _))
      (yt (kJ w (.cells ((vs.take (mN*p.size)++c).toArray++Builtin.zeroCells N.cells (grownCap w (mN+n) (m b).2 e - (mN+n))) e)) _)
      ⟨⟨(vs.take (mN*p.size)++c).toArray++Builtin.zeroCells N.cells (grownCap w (mN+n) (m b).2 e - (mN+n)),e,_,(Builtin.zeroCells N.cells (grownCap w (mN+n) (m b).2 e - (mN+n))).toList,gA.of A (heap_alloc_new w.drew _),by simp,Y,Z,λ_=>h1,λ_ _=> ⟨by
       simp only [Array.size_append,Xxg,ξ,size_zeroCells,hs.newsLen,eU];rw [I,T,d,<- Xxy,<- Xxy];congr 1;omega,hle⟩⟩,k7,J⟩ (λB0 h0=>by rw [D] at h0;cases h0;exact ⟨rfl,.inr (by simp only;omega)⟩)
      (λo' u C=>absurd (h.seal_lt C) (Xkb _))
     refine ⟨_,_,_,f,l.1,l.2, ?_⟩;simp only [VR];refine ⟨_,kp _ _ _,κ _,⟨_,_,_,rfl⟩,λ_=> ⟨0,by simp [iv],by simpa [iv] using W,by simp,H,A⟩⟩
   .cases E
  .cases E
end
end AM
namespace AM
open Go
theorem vW (n:Nat) (z:List AV):(dA n z).length=n*z.length:=by simp [dA]
theorem KF (n:Nat) (z:List AV):dA (n+1) z=z++dA n z:=by simp [dA,Xxa]
theorem EP:∀ (n:Nat) (z:List AV) (i:Nat),i<n*z.length->(dA n z)[i]? =z[i % z.length]?
 |0,z,i,h=>by simp at h
 | n+1,z,i,h=>by
  rw [KF];by_cases a:i<z.length
  .rw [Xxe a,Nat.mod_eq_of_lt a]
  .have a:z.length<=i:=by omega
   rw [List.getElem?_append_right a,EP n z (i - z.length) (by rw [Xxy,Nat.one_mul] at h;omega)];congr 1;rw [<- Nat.mod_eq_sub_mod a]
section
variable {P:Program} {ap:AP} {g:bW} {m:aN} {S:aH} {w:World}
theorem xD:∀ {l:List AV} {vs:List Value},l.length=vs.length->(∀ (i:Nat) x v,l[i]? =some x->vs[i]? =some v->VR g m S x v)->aU g m S l vs
 | [],[],_,_=>by simp [aU]
 |x::r,v::vs,hl,h=>by
  simp only [aU];exact ⟨h 0 x v rfl rfl,xD (by simpa using hl) λi x v a b=>h (i+1) x v (by simpa using a) (by simpa using b)⟩
 | [],_::_,h,_=>by simp at h
 |_::_,[],h,_=>by simp at h
theorem uL (z:Array Value) (n:Nat):(madeCells z n).toList=(List.range n).map λi=>z[i % z.size]! :=by simp [madeCells]
theorem rm {t:Nat} {ti:TI} {i:TypeInfo} {d:TypeDesc} {z:Value} (c:wK P t ti i d z) (n:Nat):aU g m S (dA n ti.zero) (madeCells z.cells (n*i.size)).toList:=by
 have k:=mD (g:=g) (m:=m) (S:=S) c;have a:=bA k;simp only [Array.length_toList,c.zsize] at a;refine xD (by rw [vW,a,Array.length_toList,size_madeCells]) ?_;intro j x v f e;have h:j<n*i.size:=by
  have:=(List.getElem?_eq_some_iff.1 f).1;rw [vW,a] at this;exact this
 rw [EP n ti.zero j (by rw [a];exact h),a] at f;rw [uL,c.zsize,Xqx,List.getElem?_range h] at e;simp only [Xjj,Option.some.injEq] at e;obtain ⟨p,b,o⟩:=nH k _ f;have l:j % i.size<z.cells.size:=by rw [c.zsize];exact Nat.mod_lt _ c.pos
 simp only [Array.getElem?_toList] at b;rw [getElem!_pos z.cells _ l] at e;rw [Array.getElem?_eq_getElem l] at b;cases b;rw [<- e];exact o
theorem Bu {n:Nat} {z:List AV} (h:∀ x ∈ z,kO x=true):∀ x ∈ dA n z,kO x=true:=by
 intro x a;simp only [dA,List.mem_flatten,List.mem_replicate] at a;obtain ⟨l,⟨_,rfl⟩,a⟩:=a;exact h x a
theorem wL:∀ {l:List AV} {vs:List Value},aU g m S l vs->(∀ x ∈ l,kO x=true)->∀ u ∈ vs,u.oneCell'=true
 | [],[],_,_=>by simp
 |x::r,v::vs,h,hl=>by
  simp only [aU] at h;intro u a;rcases List.mem_cons.1 a with rfl|a
  .exact FI h.1 (hl x (by simp))
  .exact wL h.2 (λy b=>hl y (by simp [b])) u a
 | [],_::_,h,_=>by simp [aU] at h
 |_::_,[],h,_=>by simp [aU] at h
theorem CR {b vs:List AV} {a:Nat} {x:AV} (h:x ∈ setCells b a vs):x ∈ b\/x ∈ vs:=by
 simp only [setCells,List.mem_append] at h;rcases h with (h|h)|h
 .exact .inl (Xj3 h)
 .exact .inr h
 .exact .inl (Xzl h)
theorem yf:∀ {ps:List (Nat × Nat × AV)} {cells cells':List AV},q_ cells ps=some cells'->(∀ x ∈ cells,kO x=true)->∀ x ∈ cells',kO x=true
 | [],cells,cells',h,hl=>by simp [q_] at h;subst h;exact hl
 | (off,size,v)::r,cells,cells',h,hl=>by
  simp only [q_] at h;split at h
  .rename_i b;simp only [π] at b;refine yf h λx a=> ?_
   rcases CR a with a|a
   .exact hl x a
   .exact List.all_eq_true.1 b.2 x a
  .cases h
theorem IA {nid:Nat} {cells:List AV} {a k c n:Nat} (b:n<=c) (hp:0<a) (d:a ≠ eZ):VR (cj g [fJ nid cells a]) (iv m nid (k,c)) S (.ref nid 0 0 n) (.slice (some ⟨k,0,none⟩) n c):=by
 simp only [VR];refine ⟨_,kp _ _ _,Xqo _,⟨_,_,_,rfl⟩,λ_=> ⟨0,by simp [iv],by simpa [iv] using b,by simp,hp,d⟩⟩
theorem og:∀ (a b:List AV),bD (a++b)=bD a++bD b
 | [],b=>by simp [bD]
 |x::r,b=>by simp [bD,og r b]
theorem Bt (z:List AV) (h:bD z= []):∀ n,bD (dA n z)= []
 |0=>by simp [dA,bD]
 |n+1=>by
  have a:=Bt z h n;simp only [dA,Xxa,List.flatten_cons,og,h,Xqb] at a ⊢;exact a
theorem GM (nid n a:Nat) (z:List AV) (h:(bD z).isEmpty=true):(nid,(⟨dA n z,0,false,0,a,true⟩:aM))=fJ nid (dA n z) a:=by
 have b:bD z= []:=by simpa using h
 simp [fJ,Bt z b n]
theorem uM (C:dP P ap) (h:bE ap g m S w) {nid:Nat} (T:g nid=none) {t:Nat} {ti:TI} {i:TypeInfo} {d:TypeDesc} {z:Value} (N:wK P t ti i d z) {l c:AV} {cl J:Value} (M:VR g m S l cl) (H:VR g m S c J)
  {v:AV} {ups:List (Nat × aM)} {bs:List Bool} (k:rT ap nid ti l c=some (v,ups,bs)) (j:∀ b ∈ bs,b=true):
  ∃ cv m' w',(Instr.makeSlice t cl J).run P w= .ok cv w'/\bE ap (cj g ups) m' S w'/\Fr g m S w (cj g ups) m' S w'/\VR (cj g ups) m' S v cv:=by
 unfold rT at k;split at k
 .rename_i e kl l O c hd;have R:=bind_some k;clear k;obtain ⟨r,a,k⟩:=R;obtain ⟨n,U,u,a⟩:=cB C a;split at k
  .rename_i f;simp only [π] at f;have B:=f.2;have f:=f.1;have q:=dC f.1.1;have y:=dB f.2;rw [GM _ _ _ _ B] at k;cases k;obtain ⟨s,j⟩:=bQ j;obtain ⟨F,j⟩:=bQ j;obtain ⟨K,_⟩:=bQ j;have s:0<=l:=of_decide_eq_true s;have F:l=c:=of_decide_eq_true F;have K:l<=2^40:=of_decide_eq_true K;subst F;simp only [VR,PR] at M H;subst M;subst H;rw [N.d_eq] at hd;have hd:=dM hd;subst hd;have o:(n.bytes:Int)*l<=281474976710656:=by
    have A:(n.bytes:Int)<=128:=by rw [<- a.bytes];exact_mod_cast y
    have I:(n.bytes:Int)*l<=128*l:=Int.mul_le_mul_of_nonneg_right A s;have Q:(2:Int)^40=1099511627776:=by decide
    omega
   have D:l<=9223372036854775807:=by
    have Q:(2:Int)^40=1099511627776:=by decide
    omega
   have p:=run_make (P:=P) w t e n u N.und a.info a.zero kl O l l s (Int.le_refl _) o D;have G:aU g m S (dA l.toNat r.zero) (madeCells u.cells (l.toNat*n.size)).toList:=rm a _;have E:∀ x ∈ dA l.toNat r.zero,kO x=true:=Bu a.zleaf;have L:=h.fresh (nid:=nid) T (fJ nid (dA l.toNat r.zero) r.size).2 (by have A:=a.small;have I:=a.size;show r.size ≠ eZ;omega) l.toNat (w':=w.alloc (.cells (madeCells u.cells (l.toNat*n.size)) e)) (World.grownBy_alloc w _ none) (heap_alloc_new w _) (λ_=>rfl) (Xqo _)
    (rest:= []) (by rw [Xqd]) (λhp=>di _ G (mK hp)) G (wL G E) (λ_=> ⟨by rw [size_madeCells];simp [fJ,a.size],by simp only [maxLen];omega⟩)
   refine ⟨_,_,_,p,L.1,L.2, ?_⟩;exact IA (κ _) q (by have A:=a.small;have I:=a.size;omega)
  .cases k
 .cases k
theorem zL {t e:TypeId} {i:TypeInfo} {z:Value} (f:P.underlying t=some (.slice e)) (c:P.info? e=some i) (h:i.zero=some z) {len:Nat} (b:len*i.size<=2^24) (h0:len*i.size ≠ 0) {parts:Array (Nat × Value)} {cells:Array Value}
  (hf:Instr.fill (λd=>some (d*i.size,i.size)) (madeCells z.cells (len*i.size)) parts.toList=some cells):
  (Instr.buildSlice t len parts).run P w= .ok (.slice (some ⟨w.heap.size,0,none⟩) len len) (w.alloc (.cells cells e)):=by
 have a:¬ (len*i.size>2^24):=by omega
 unfold madeCells at hf;simp only [Instr.buildSlice,Sem.run_bind,run_underlying f,Result.andThen_ok];simp [Go.sizeOf,typeInfo,c,zeroValue,h,h0,newRow];rw [if_neg (by simpa using a)];simp [hf]
theorem wE {t e:TypeId} {i:TypeInfo} (c:P.underlying t=some (.slice e)) (a:P.info? e=some i) {len:Nat} (h0:len*i.size=0) {parts:Array (Nat × Value)} {cells:Array Value}
  (hf:Instr.fill (λb=>some (b*i.size,i.size)) #[] parts.toList=some cells):
  (Instr.buildSlice t len parts).run P w= .ok (.slice (some ⟨w.heap.size,0,none⟩) len len) (w.alloc (.cells cells e)):=by
 simp [Instr.buildSlice,run_underlying c,Go.sizeOf,typeInfo,a,h0,newRow,Array.range_zero',hf]
theorem sL (q:dP P ap) (h:bE ap g m S w) {nid:Nat} (J:g nid=none) {t:Nat} {ti:TI} {i:TypeInfo} {d:TypeDesc} {z:Value} (B:wK P t ti i d z) {len:Nat} {ps:List (Nat × AV)} {qs:Array (Nat × Value)} (I:sE g m S ps qs.toList)
  {v:AV} {ups:List (Nat × aM)} {bs:List Bool} (b:oT ap nid ti len ps=some (v,ups,bs)):
  ∃ cv m' w',(Instr.buildSlice t len qs).run P w= .ok cv w'/\bE ap (cj g ups) m' S w'/\Fr g m S w (cj g ups) m' S w'/\VR (cj g ups) m' S v cv:=by
 unfold oT at b;split at b
 .rename_i e hd;have k:=bind_some b;clear b;obtain ⟨o,a,b⟩:=k;obtain ⟨u,K,F,a⟩:=cB q a;split at b
  .rename_i j;simp only [π] at j;have c:=dC j.1.1;have y:=dB j.1.2;have k:=bind_some b;clear b;obtain ⟨cs,l,b⟩:=k;cases b;rw [B.d_eq] at hd;have hd:=dM hd;subst hd;have r:aU g m S (dA len o.zero) (madeCells F.cells (len*u.size)).toList:=rm a _;obtain ⟨f,p,C,H⟩:=lI _ qs.toList _ cs _ (nX (size:=o.size) I) r l;rw [a.size] at p;have n:(Instr.buildSlice t len qs).run P w= .ok (.slice (some ⟨w.heap.size,0,none⟩) len len) (w.alloc (.cells f e)):=by
    by_cases h0:len*u.size=0
    .exact wE B.und a.info h0 (by rw [h0] at p;simpa [madeCells,Array.range_zero'] using p)
    .exact zL B.und a.info a.zero (by rw [<- a.size];exact y) h0 p
   have s:∀ x ∈ cs,kO x=true:=yf l (Bu a.zleaf);have A:f.size=len*u.size:=by rw [H,size_madeCells]
   have E:=h.fresh (nid:=nid) J (fJ nid cs o.size).2 (by have D:=a.small;have G:=a.size;show o.size ≠ eZ;omega) len (w':=w.alloc (.cells f e)) (World.grownBy_alloc w _ none) (heap_alloc_new w _) (λ_=>rfl) (Xqo _)
    (rest:= []) (by rw [Xqd]) (λhp=>di _ C (mK hp)) C (wL C s) (λ_=> ⟨by rw [A];simp [fJ,a.size],by
     have D:len<=len*o.size:=Nat.le_mul_of_pos_right _ c;have L:(2:Nat)^24=16777216:=by decide
     simp only [maxLen];omega⟩)
   refine ⟨_,_,_,n,E.1,E.2, ?_⟩;exact IA (κ _) c (by have D:=a.small;have G:=a.size;omega)
  .cases b
 .cases b
theorem Pu {d:TypeDesc} {k e:Nat} (h:gX P (some d)= .map k e):d= .map k e:=by cases d<;>simp [gX] at h;obtain ⟨rfl,rfl⟩:=h;rfl
theorem J_ {k:LK} {x y:AV} {u v:Value} (a:A_ k x=true) (b:A_ k y=true) (c:VR g m S x u) (d:VR g m S y v):
  oA k u v=some (wy x y)/\(wy x y=true->u=v)/\(∀ n,Instr.sameBits n u u=true)/\cH x= []:=by
 cases k<;>cases x<;>simp [A_] at a<;>cases y<;>simp [A_] at b<;>simp only [VR,PR] at c d<;>subst c<;>subst d
 .refine ⟨by simp [oA,wy,a,b],λh=> ?_,λn=>by simp [Instr.sameBits],rfl⟩;simp only [wy,beq_iff_eq] at h;rw [<- dw a,<- dw b,h]
 .refine ⟨by simp [oA,wy],λh=> ?_,λn=>by simp [Instr.sameBits],rfl⟩;simp only [wy,beq_iff_eq] at h;rw [h]
 .refine ⟨by simp [oA,wy,su],λh=> ?_,λn=>by cases n<;>simp [Instr.sameBits,MapKept.bytes_beq],rfl⟩;simp only [wy,beq_iff_eq] at h;rw [h]
theorem kN:∀ {lks:List LK} {a b:List AV} {c d:List Value},jM lks a=true->jM lks b=true->aU g m S a c->aU g m S b d->
  cE lks c d=some (Ap a b)/\(Ap a b=true->c=d)/\(∀ n,∀ x ∈ c,Instr.sameBits n x x=true)/\bD a= []
 | [],[],[],[],[],_,_,_,_=> ⟨rfl,λ_=>rfl,by simp,rfl⟩
 | k::lks,x::a,y::b,u::c,v::d,ha,hb,h1,h2=>by
  simp only [jM,π] at ha hb;simp only [aU] at h1 h2;obtain ⟨q,o,i,j⟩:=J_ ha.1 hb.1 h1.1 h2.1;obtain ⟨f,l,r,p⟩:=kN ha.2 hb.2 h1.2 h2.2;refine ⟨by simp [cE,q,f,Ap],λh=> ?_,λn z e=> ?_,by simp [bD,j,p]⟩
  .simp only [Ap,π] at h;rw [o h.1,l h.2]
  .rcases List.mem_cons.1 e with rfl|e
   .exact i n
   .exact r n z e
 | [],_::_,_,_,_,ha,_,_,_=>by simp [jM] at ha
 |_::_,[],_,_,_,ha,_,_,_=>by simp [jM] at ha
 | [],[],_::_,_,_,_,hb,_,_=>by simp [jM] at hb
 |_::_,_::_,[],_,_,_,hb,_,_=>by simp [jM] at hb
 | [],[],[],_::_,_,_,_,h1,_=>by simp [aU] at h1
 | [],[],[],[],_::_,_,_,_,h2=>by simp [aU] at h2
 |_::_,_::_,_::_,[],_,_,_,h1,_=>by simp [aU] at h1
 |_::_,_::_,_::_,_::_,[],_,_,_,h2=>by simp [aU] at h2
def Tp (P:Program) (n:Nat) (t:TypeId) (lks:List LK):Prop:=
 ∀ (em:Bool) (d:Nat) (w:World) (xs:List Value),n<=d->cE lks xs xs=some true->(Instr.checkKey em d t (qb P t xs)).run P w= .ok () w
theorem pg {lks:List LK} {a:List Value} {r:Bool} (h:cE lks a a=some r):cE lks a a=some true:=by
 induction lks generalizing a r with
 |nil=>cases a<;>simp [cE] at h ⊢
 | cons k lks ih=>
  cases a with
  |nil=>simp [cE] at h
  | cons x a=>
   simp only [cE] at h ⊢;obtain ⟨c,b,h⟩:=bind_some h;rw [Xqq] at h;obtain ⟨d,hd,rfl⟩:=h;have e:oA k x x=some true:=by
    cases k<;>cases x<;>simp [oA] at b ⊢
    split at b
    .rename_i f;simp [f]
    .cases b
   simp [e,ih hd]
theorem nk {n:Nat} (u:∀ t lks,gB P n t=some lks->Tp P n t lks):∀ (fs:List Field) (off:Nat) (lks:List LK),sP P (gB P n) fs off=some lks->
  ∀ (em:Bool) (d:Nat) (w:World) (xs:List Value),n<=d->xs.length=off+lks.length->cE lks (xs.drop off) (xs.drop off)=some true->
   (forIn (m:=Sem) fs PUnit.unit λf _=>do
    if f.name ≠ "_" then Instr.checkKey em d f.type (<- part f.type xs.toArray f.offset)
    pure (ForInStep.yield PUnit.unit)).run P w= .ok PUnit.unit w
 | [],off,lks,hc,em,d,w,xs,hd,hx,h=>by simp
 | f ::fs,off,lks,hc,em,d,w,xs,hd,hx,h=>by
  simp only [sP] at hc;cases j:gB P n f.type with
  |none=>simp [j] at hc
  | some l=>
   simp only [j] at hc;split at hc
   .rename_i hcond;simp only [π,Xqt] at hcond;obtain ⟨⟨v,o⟩,c⟩:=hcond;cases k:sP P (gB P n) fs (off+l.length) with
    |none=>simp [k] at hc
    | some l'=>
     simp only [k] at hc;cases hc;cases r:P.info? f.type with
     |none=>simp [r] at c
     |some i=>
      simp only [r] at c;have c:=aG c;have o:=aG o;have s:f.name ≠ "_" :=by intro e;rw [e] at v;exact absurd v (by decide)
      simp only [ξ] at hx;obtain ⟨a,b,p,q,A⟩:=nP l l' _ _ true h;have p:=pg p;have q:=pg q;have z:=pX j r c xs off (by omega) w;have x:=u f.type l j em d w _ hd p;have y:=nk u fs (off+l.length) l' k em d w xs hd (by omega) (by simpa [Xjq,Nat.add_comm] using q);simp only [List.forIn_cons,Sem.run_bind,s,ne_eq,not_false_eq_true,if_true,Result.andThen_ok,o,z,x,Sem.run_pure];simpa using y
   .cases hc
theorem DQ:∀ (n:Nat) (t:TypeId) (lks:List LK),gB P n t=some lks->Tp P n t lks
 |0,_,_,h=>by simp [gB] at h
 | n +1,t,lks,h=>by
  intro e d w b hd c;obtain ⟨d,rfl⟩:∃ k,d=k+1:=⟨d - 1,by omega⟩
  have f:=lX _ _ _ _ c;unfold gB at h;cases a:P.underlying t with
  |none=>simp [a] at h
  | some ds=>
   unfold Instr.checkKey;simp only [Sem.run_bind,run_underlying a,Result.andThen_ok,qb,a];cases ds<;>simp only [a] at h<;>try cases h
   case struct fs=>
    split at h
    .cases h
    .have:=nk (DQ n) fs.toList 0 lks h e d w b (by omega) (by simp [f.1]) (by simpa using c);simp only [<- Array.forIn_toList];simpa using this
   all_goals (cases b.headD undef<;>simp)
theorem yF (h:dP P ap) {t:Nat} {ti:TI} (d:ap.tyAt t=some ti) {a b:List AV} {f o:List Value} (e:ti.cmp=true) (c:jM ti.lks a=true) (s:jM ti.lks b=true) (p:aU g m S a f) (v:aU g m S b o) (n:∃ u,P.underlying t=some (.struct u)):
  (∀ k,(Instr.checkKey k 10000 t (.agg f.toArray)).run P w= .ok () w)/\(Op.equal t (.agg f.toArray) (.agg o.toArray)).run P w= .ok (Ap a b) w:=by
 obtain ⟨u,n⟩:=n;rw [(ud h d).1] at e;rw [(ud h d).2] at c s;unfold Qi at e;cases i:gB P 8 t with
 |none=>simp [i] at e
 |some l=>
  simp only [i,π,Xqt] at e;have j:=yL e.1;rw [<- j] at c s;have q:=xQ 8 t l i 10000 w f o _ (by omega) (kN c s p v).1;have r:=λk=>DQ 8 t l i k 10000 w f (by omega) (pg (kN c c p p).1)
  simp only [qb,n] at q r;exact ⟨r,q⟩
theorem vG {ti:TI} {d:TypeDesc} (hd:ti.d=gX P (some d)) (hs:∀ fs,d ≠ .struct fs) {x:AV} {v:Value} (h:iG ti x=true) (a:VR g m S x v):MapKept.IsKey d v:=by
 unfold iG at h;rw [hd] at h;cases d<;>simp only [gX] at h<;>cases x<;>simp at h<;>simp only [VR,PR] at a<;>first|(exact absurd rfl (hs _))|(subst a;simp only [MapKept.IsKey])
 exact (dw h).symm
theorem MB {ti:TI} {d:TypeDesc} (hd:ti.d=gX P (some d)) (hs:∀ fs,d ≠ .struct fs) {x y:AV} {u v:Value} (e:iG ti x=true) (c:iG ti y=true) (f:VR g m S x u) (h:VR g m S y v):Instr.sameNow d u v=some (oJ x y):=by
 unfold iG at e c;rw [hd] at e c;cases d<;>simp only [gX] at e c<;>cases x<;>simp at e<;>cases y<;>simp at c<;>simp only [VR,PR] at f h<;>first|(exact absurd rfl (hs _))|(subst f;subst h;simp only [Instr.sameNow,oJ])
 .rw [if_pos ((dw e).symm.trans (dw c))]
 .rename_i a b;congr 1;rw [Bool.eq_iff_iff,MapKept.bytes_beq];simp
theorem yO (h:bE ap g m S w) {rd:bW} (n:∀ b B,rd b=some B->g b=some B) {x:AV} {t:Value} (p:VR g m S x t) {q:List AV × List AV} (a:Nx rd x=some q):
  ∃ es:Array MapEntry,((t= .map none/\es=#[])\/∃ b d,t= .map (some b)/\w.heap[b]? =some (.map es d))/\aU g m S q.1 (es.toList.map (·.key))/\aU g m S q.2 (es.toList.map (·.val)):=by
 unfold Nx at a;split at a
 .rename_i ks vs;cases a;simp only [VR,PR] at p;rcases p with ⟨rfl,rfl,rfl⟩|⟨b,v,y,rfl,h0,A,s,r⟩
  .exact ⟨#[],.inl ⟨rfl,rfl⟩,by simp [aU],by simp [aU]⟩
  .obtain ⟨es,d,o,f⟩:=qi (h.sealed _ _ _ h0) rfl;obtain ⟨F,clk',l,i⟩:=qi (h.sealed _ _ _ A) rfl;rw [o] at l;cases l;have f:Value.agg (es.map (·.key))= .agg v.toArray:=Option.some.inj f;have i:Value.agg (es.map (·.val))= .agg y.toArray:=Option.some.inj i;have f:=Value.agg.inj f;have i:=Value.agg.inj i;refine ⟨es,.inr ⟨b,d,rfl,o⟩, ?_, ?_⟩
   .rw [<- Array.toList_map,f];exact bz _ s
   .rw [<- Array.toList_map,i];exact bz _ r
 .rename_i b ver;have E:=bind_some a;clear a;obtain ⟨B,z,a⟩:=E;split at a
  .rename_i j;simp only [π] at j;split at a
   .rename_i ks vs hcells;cases a;simp only [VR] at p;obtain ⟨B',k,_,_,q⟩:=p;rw [n b B z] at k;cases k;have q:=q (aG j.1);obtain ⟨⟨cur,e,D,rest,C,u,_,c,_,_⟩,_,_⟩:=h.blk b B (n b B z);obtain ⟨es,d,o,rfl⟩:=C.map (aG j.2);rw [hcells] at c
    match D,c with
    | [u0,u1],c=>
     simp only [aU,VR,and_true] at c;obtain ⟨⟨v,rfl,s⟩,y,rfl,r⟩:=c;simp only [rU,Xqu,List.cons.injEq] at u;have f:=Value.agg.inj u.1;have i:=Value.agg.inj u.2.1;refine ⟨es,.inr ⟨_,d,q,o⟩, ?_, ?_⟩
     .rw [<- Array.toList_map,f];exact s
     .rw [<- Array.toList_map,i];exact r
    | [],c=>simp [aU] at c
    | [_],c=>simp [aU] at c
    |_::_::_::_,c=>simp [aU] at c
   .cases a
  .cases a
 .cases a
structure PY (P:Program) (g:bW) (m:aN) (S:aH) (w:World) (t:Nat) (ti:TI) (d:TypeDesc) (k:AV) (ck:Value):Prop where
 chk:∀ em,(Instr.checkKey em 10000 t ck).run P w= .ok () w
 stay:(Instr.keyThatStays ck ck).run P w= .ok ck w
 eqs:∀ {k' ck'},iG ti k'=true->VR g m S k' ck'->((match d with| .struct _=>(Op.equal t ck ck').run P w= .ok (oJ k k') w|_=>Instr.sameNow d ck ck'=some (oJ k k'))/\(oJ k k'=true->ck=ck'))
theorem Ba (A:dP P ap) {t:Nat} {ti:TI} {i:TypeInfo} {d:TypeDesc} {z:Value} (B:ap.tyAt t=some ti) (u:wK P t ti i d z) {k:AV} {ck:Value} (s:iG ti k=true) (D:VR g m S k ck):PY P g m S w t ti d k ck:=by
 by_cases hs:∃ o,d= .struct o
 .obtain ⟨o,rfl⟩:=hs;have hd:=u.d_eq;have L:∀ {x:AV},iG ti x=true->∃ l,x= .agg l/\ti.cmp=true/\jM ti.lks l=true:=by
   intro x n;unfold iG at n;rw [hd] at n;cases x<;>simp [gX] at n
   exact ⟨_,rfl,n⟩
  obtain ⟨l,rfl,J,v⟩:=L s;have M:=D;simp only [VR] at D;obtain ⟨E,rfl,n⟩:=D;refine ⟨(yF A B J v v n n ⟨o,u.und⟩).1, ?_, ?_⟩
  .have V:Instr.sameBits 10000 (.agg E.toArray) (.agg E.toArray)=true:=by
    show Instr.sameBits (9999+1) _ _=true;have R:=(kN v v n n).2.2.1 9999;simp only [Instr.sameBits,beq_self_eq_true,Bool.true_and,List.all_eq_true];intro p hp;obtain ⟨a,b⟩:=p;have T:∀ l:List Value,(a,b) ∈ l.zip l->a=b/\a ∈ l:=by
     intro l
     induction l with
     |nil=>intro h;simp at h
     |cons c l ih=>
      intro h;simp only [List.zip_cons_cons,List.mem_cons,Prod.mk.injEq] at h;rcases h with ⟨rfl,rfl⟩|h
      .exact ⟨rfl,by simp⟩
      .exact ⟨(ih h).1,List.mem_cons_of_mem _ (ih h).2⟩
    obtain ⟨rfl,U⟩:=T E hp;exact R a U
   simp [Instr.keyThatStays,V]
  .intro N F f j;obtain ⟨W,rfl,_,y⟩:=L f;simp only [VR] at j;obtain ⟨X,rfl,H⟩:=j;refine ⟨(yF A B J v y n H ⟨o,u.und⟩).2,λG=> ?_⟩;rw [(kN v y n H).2.1 G]
 .have hs:∀ o,d ≠ .struct o:=λo e=>hs ⟨o,e⟩
  have q:=vG u.d_eq hs s D;refine ⟨λO=>MapKept.run_checkKey u.und q O 9999,MapKept.run_keyThatStays q, ?_⟩;intro N F f j;have K:=MB u.d_eq hs s f D j;have Q:=MapKept.sameNow_of_keys q (vG u.d_eq hs f j);refine ⟨?_,λG=> ?_⟩
  .cases d<;>first|exact K|exact absurd rfl (hs _)
  .obtain ⟨r,I,C⟩:=Q;rw [K] at I;cases I;exact C.1 G
def gZ (P:Program) (w:World) (t:Nat) (d:TypeDesc) (ck:Value) (l:List MapEntry) (i:Nat) (r:Option (Nat × Value)):Prop:=
 match d with
 | .struct _=>(Instr.findAsking t ck l i).run P w= .ok r w
 |_=>Instr.findNow d ck l i=some r
theorem gZ.nil {t:Nat} {d:TypeDesc} {ck:Value} {i:Nat}:gZ P w t d ck [] i none:=by
 unfold gZ;cases d<;>first|rfl|simp [Instr.findAsking]
theorem gZ.hit {t:Nat} {ti:TI} {d:TypeDesc} {k a:AV} {ck:Value} {e:MapEntry} {l:List MapEntry} {i:Nat} (h:PY P g m S w t ti d k ck) (b:iG ti a=true) (c:VR g m S a e.key) (f:oJ k a=true):gZ P w t d ck (e::l) i (some (i,e.val)):=by
 have q:=(h.eqs b c).1;rw [f] at q;unfold gZ;cases d<;>simp only at q ⊢ <;>first|(simp [Instr.findAsking,q];done)|(simp [Instr.findNow,q];done)
theorem gZ.miss {t:Nat} {ti:TI} {d:TypeDesc} {k b:AV} {ck:Value} {e:MapEntry} {l:List MapEntry} {i:Nat} {r:Option (Nat × Value)} (h:PY P g m S w t ti d k ck) (c:iG ti b=true) (j:VR g m S b e.key) (f:oJ k b=false) (a:gZ P w t d ck l (i+1) r):gZ P w t d ck (e::l) i r:=by
 have q:=(h.eqs c j).1;rw [f] at q;unfold gZ at a ⊢;cases d<;>simp only at q a ⊢ <;>first|(simp [Instr.findAsking,q,a];done)|(simp [Instr.findNow,q,a];done)
theorem gZ.run {t:Nat} {ti:TI} {i:TypeInfo} {d:TypeDesc} {z:Value} (b:wK P t ti i d z) {ck:Value} {l:List MapEntry} {r:Option (Nat × Value)} (h:gZ P w t d ck l 0 r):(Instr.findKey t ck l).run P w= .ok r w:=by
 by_cases hs:∃ a,d= .struct a
 .obtain ⟨a,rfl⟩:=hs;simp only [gZ] at h;cases l with
  |nil=>
   simp [Instr.findAsking] at h;subst h;simp [Instr.findKey,run_underlying b.und,Result.andThen,Instr.findNow]
  |cons e l=>
   simp only [Instr.findKey,Sem.run_bind,run_underlying b.und,Result.andThen_ok,Instr.findNow,Instr.sameNow];exact h
 .have hs:∀ a,d ≠ .struct a:=λa e=>hs ⟨a,e⟩
  refine MapKept.run_findKey b.und ?_;unfold gZ at h;cases d<;>first|exact h|exact absurd rfl (hs _)
theorem pq {t:Nat} {ti:TI} {d:TypeDesc} {k v:AV} {ck cv:Value} (b:PY P g m S w t ti d k ck) (p:VR g m S v cv):∀ (l:List MapEntry) (ks vs:List AV) (i:Nat),aU g m S ks (l.map (·.key))->aU g m S vs (l.map (·.val))->ks.all (iG ti)=true->
  (gZ P w t d ck l i none/\b_ ks vs k=none/\ks.any (oJ k)=false/\jD ks vs k v=vs++ [v])\/
  ∃ j e x,gZ P w t d ck l i (some (i+j,e.val))/\l[j]? =some e/\e.key=ck/\b_ ks vs k=some x/\VR g m S x e.val/\ks.any (oJ k)=true/\aU g m S (jD ks vs k v) ((l.set j {e with key:=ck,val:=cv}).map (·.val))
 | [],ks,vs,i,h1,h2,_=>by
  cases ks with
  |cons _ _=>simp [aU] at h1
  |nil=>
   cases vs with
   |cons _ _=>simp [aU] at h2
   |nil=>exact .inl ⟨gZ.nil,rfl,rfl,rfl⟩
 | e ::l,ks,vs,i,h1,h2,ha=>by
  cases ks with
  |nil=>simp [aU] at h1
  | cons k0 ks=>
   cases vs with
   |nil=>simp [aU] at h2
   | cons v0 vs=>
    simp only [Xqf,aU] at h1 h2;simp only [Xzn,π] at ha;cases a:oJ k k0 with
    |true=>
     have c:e.key=ck:=((b.eqs ha.1 h1.1).2 a).symm;refine .inr ⟨0,e,v0,gZ.hit b ha.1 h1.1 a,rfl,c, ?_,h2.1, ?_, ?_⟩
     .simp [b_,a]
     .simp [a]
     .simp only [jD,a,List.set_cons_zero,Xqf,aU];exact ⟨p,h2.2⟩
    | false=>
     rcases pq b p l ks vs (i+1) h1.2 h2.2 ha.2 with ⟨h,n,f,o⟩|⟨j,e',x,h,n,f,o,r,q,s⟩
     .refine .inl ⟨gZ.miss b ha.1 h1.1 a h, ?_, ?_, ?_⟩
      .simp [b_,a,n]
      .simp only [Xvk,a,f];rfl
      .simp [jD,a,o]
     .refine .inr ⟨j+1,e',x, ?_,by simpa using n,f, ?_,r, ?_, ?_⟩
      .rw [show i+(j+1)=i+1+j by omega];exact gZ.miss b ha.1 h1.1 a h
      .simp [b_,a,o]
      .simp only [Xvk,a,q];rfl
      .simp only [jD,a,List.set_cons_succ,Xqf,aU];exact ⟨h2.1,s⟩
theorem vH {ok:Bool} {o:Option AV} {z:AV} {u c:Value} {b:Bool} (h:(o=none/\u=c/\b=false)\/∃ x,o=some x/\VR g m S x u/\b=true) (d:VR g m S z c):VR g m S (Ep ok o z) (if ok then .tuple #[u,.bool b] else u):=by
 have a:VR g m S (o.getD z) u/\o.isSome=b:=by
  rcases h with ⟨rfl,rfl,rfl⟩|⟨x,rfl,e,rfl⟩
  .exact ⟨d,rfl⟩
  .exact ⟨e,rfl⟩
 cases ok with
 |true=>
  simp only [Ep,if_true,VR];refine ⟨[u,.bool b],rfl, ?_⟩;simp only [aU,VR,PR,and_true];exact ⟨a.1,by rw [a.2]⟩
 |false=>simpa [Ep] using a.1
theorem Aq (n:dP P ap) (h:bE ap g m S w) {rd:bW} (F:∀ b B,rd b=some B->g b=some B) {t:Nat} {ti:TI} {i:TypeInfo} {d:TypeDesc} {z:Value} (A:wK P t ti i d z) {x k v:AV} {I ck:Value} (U:VR g m S x I) (J:VR g m S k ck) {ok:Bool}
  {ups:List (Nat × aM)} {bs:List Bool} (c:CP ap ti rd x k ok=some (v,ups,bs)) (o:∀ b ∈ bs,b=true):
  ups= []/\∃ cv,(Instr.lookup t I ck ok).run P w= .ok cv w/\VR g m S v cv:=by
 unfold CP at c;split at c
 .rename_i kt Y hd;have r:=bind_some c;clear c;obtain ⟨X,a,c⟩:=r;have r:=bind_some c;clear c;obtain ⟨te,f,c⟩:=r;have r:=bind_some c;clear c;obtain ⟨q,r,c⟩:=r;have E:=bind_some c;clear c;obtain ⟨O,D,c⟩:=E;obtain ⟨rfl,rfl,rfl⟩:=aK c;have H:=a;obtain ⟨ik,W,Z,a⟩:=cB n a;obtain ⟨ie,V,K,f⟩:=cB n f;rw [A.d_eq] at hd;have hd:=Pu hd;subst hd;obtain ⟨T,o⟩:=bQ o;obtain ⟨Q,_⟩:=bQ o;obtain ⟨es,s,v1,L⟩:=yO h F U r;have l:=Ba (w:=w) n H a T J;have u:VR g m S O K:=rV f D;refine ⟨rfl, ?_⟩;rcases pq l J es.toList q.1 q.2 0 v1 L Q with ⟨p,M,_,_⟩|⟨j,e,y,p,_,_,R,N,_,_⟩
  .refine ⟨_, ?_,vH (.inl ⟨M,rfl,rfl⟩) u⟩;rcases s with ⟨rfl,rfl⟩|⟨b,C,rfl,G⟩
   .simp [Instr.lookup,run_underlying A.und,l.chk,p.run a,zeroValue,typeInfo,f.info,f.zero,Result.andThen]
   .simp [Instr.lookup,run_underlying A.und,MapKept.run_getObj_map G,l.chk,p.run a,zeroValue,typeInfo,f.info,f.zero,Result.andThen]
  .refine ⟨_, ?_,vH (.inr ⟨y,R,N,rfl⟩) u⟩;rcases s with ⟨rfl,rfl⟩|⟨b,C,rfl,G⟩
   .have p:=p.run a;simp [Instr.findKey,run_underlying a.und,Result.andThen,Instr.findNow] at p
   .simp [Instr.lookup,run_underlying A.und,MapKept.run_getObj_map G,l.chk,p.run a,Result.andThen]
 .cases c
mutual
theorem HA {S:aH}:∀ (x:AV) {v:Value},PR S x v->cH x= []
 | .int _ _,_,_=>rfl
 | .bool _,_,_=>rfl
 | .str _,_,_=>rfl
 | .nilS,_,_=>rfl
 | .nilP,_,_=>rfl
 | .nilF,_,_=>rfl
 | .nilI,_,_=>rfl
 | .sl _ _ _,_,_=>rfl
 | .pp _ _,_,_=>rfl
 | .mp _ _,_,_=>rfl
 | .dead,_,_=>rfl
 | .own _ _ _,_,p=>by simp only [PR] at p
 | .ref _ _ _ _,_,p=>by simp only [PR] at p
 | .ptr _ _ _,_,p=>by simp only [PR] at p
 | .mr _ _,_,p=>by simp only [PR] at p
 | .agg l,_,p=>by
  simp only [PR] at p;simp only [cH];obtain ⟨_,_,q⟩:=p;exact mB l q
 | .tup l,_,p=>by
  simp only [PR] at p;simp only [cH];obtain ⟨_,_,q⟩:=p;exact mB l q
 | .fn f a c,_,p=>by
  simp only [PR] at p;simp only [cH];obtain ⟨_,_,_,q,r⟩:=p;rw [mB a q,mB c r];rfl
 | .ifc t x,_,p=>by
  simp only [PR] at p;simp only [cH];obtain ⟨_,_,q⟩:=p;exact HA x q
theorem mB {S:aH}:∀ (l:List AV) {vs:List Value},bw S l vs->bD l= []
 | [],_,_=>rfl
 |x::r,v::vs,p=>by simp only [bw] at p;simp only [bD,HA x p.1,mB r p.2,Xqd]
 |_::_,[],p=>by simp [bw] at p
end
theorem Bh (h:bE ap g m S w) {b:Nat} {B:aM} {a:Array MapEntry} {clk':Nat} {k:Nat} {w':World} (r:w'.heap[k]? =some (.map a clk')) (e:B.esz=eZ) {ks vs:List AV} (f:B.cells= [.agg ks,.agg vs]) (n:aU g m S ks (a.toList.map (·.key))) (o:aU g m S vs (a.toList.map (·.val))) (hp:B.pr=true->bD vs= []/\bD ks= []) (j:B.fro=false->B.fz=0) (i:B.fz<=2) (c:Nat):Jm g m S w' B k c:=by
 refine ⟨⟨rU a,0,[.agg (a.map (·.key)),.agg (a.map (·.val))],[],.inr ⟨e,a,clk',r,rfl⟩,rfl, ?_, ?_,λl=>absurd e l,λ_ l=>absurd e l⟩,j,by rw [f];exact i⟩
 .intro d;obtain ⟨p,q⟩:=hp d;rw [f];simp only [bw,PR,and_true];exact ⟨⟨(a.map (·.key)).toList,by rw [Array.toArray_toList],by rw [Array.toList_map];exact di _ n q⟩,(a.map (·.val)).toList,by rw [Array.toArray_toList],by rw [Array.toList_map];exact di _ o p⟩
 .rw [f];simp only [aU,VR,and_true];exact ⟨⟨(a.map (·.key)).toList,by rw [Array.toArray_toList],by rw [Array.toList_map];exact n⟩,(a.map (·.val)).toList,by rw [Array.toArray_toList],by rw [Array.toList_map];exact o⟩
theorem Ar (h:bE ap g m S w) {nid:Nat} (d:g nid=none) (t:Nat):
  ∃ cv m' w',(Instr.makeMap t none).run P w= .ok cv w'/\bE ap (cj g [(nid,⟨[.agg [],.agg []],0,false,0,eZ,true⟩)]) m' S w'/\Fr g m S w (cj g [(nid,⟨[.agg [],.agg []],0,false,0,eZ,true⟩)]) m' S w'/\VR (cj g [(nid,⟨[.agg [],.agg []],0,false,0,eZ,true⟩)]) m' S (.mr nid 0) cv:=by
 have a:=h.put nid ⟨[.agg [],.agg []],0,false,0,eZ,true⟩ w.heap.size 0 (w':=w.alloc (.map #[] 0)) (.inl (κ _)) (World.grownBy_alloc w _ _)
  (Bh h (b:=nid) (heap_alloc_new w _) rfl rfl (by simp [aU]) (by simp [aU]) (λ_=> ⟨rfl,rfl⟩) (λ_=>rfl) (Xqo _) 0)
  (λB0 h0=>by rw [d] at h0;cases h0) (λo v c=>absurd (h.seal_lt c) (Xkb _))
 refine ⟨.map (some w.heap.size),_,_, ?_,a.1,a.2, ?_⟩
 .simp [Instr.makeMap,Result.andThen]
 .simp only [VR];exact ⟨_,kp _ _ _,κ _,⟨_,rfl⟩,λ_=>by simp [iv]⟩
theorem yE:∀ (lks:List LK) (l:List AV),jM lks l=true->bD l= []
 | [],[],_=>rfl
 |k::lks,x::l,h=>by
  simp only [jM,π] at h;have a:cH x= []:=by cases k<;>cases x<;>first|rfl|(have:=h.1;simp [A_] at this)
  simp only [bD,a,yE lks l h.2,Xqd]
 | [],_::_,h=>by simp [jM] at h
 |_::_,[],h=>by simp [jM] at h
theorem uW:∀ (l:List AV) (ti:TI),l.all (iG ti)=true->bD l= []
 | [],_,_=>rfl
 | x::r,ti,h=>by
  simp only [Xzn,π] at h;have b:cH x= []:=by
   have a:=h.1;unfold iG at a;split at a<;>first|rfl|(cases a;done)|skip
   simp only [π] at a;simp only [cH];exact yE _ _ a.2
  simp only [bD,b,uW r ti h.2,Xqd]
theorem zu:∀ (ks vs:List AV) (k v:AV),bD vs= []->cH v= []->bD (jD ks vs k v)= []
 | [],_,k,v,_,h2=>by simp [jD,bD,h2]
 |_::_,[],k,v,_,h2=>by simp [jD,bD,h2]
 |k0::ks,v0::vs,k,v,h1,h2=>by
  simp only [bD,Xzw] at h1;simp only [jD];split
  .simp [bD,h1.2,h2]
  .simp [bD,h1.1,zu ks vs k v h1.2 h2]
theorem rC (J:dP P ap) (h:bE ap g m S w) {rd:bW} (N:∀ b B,rd b=some B->g b=some B) {t:Nat} {ti:TI} {i:TypeInfo} {d:TypeDesc} {z:Value} (ht:wK P t ti i d z) {x k v r:AV} {cx ck cv:Value} (Y:VR g m S x cx) (hk:VR g m S k ck) (hv:VR g m S v cv)
  {ups:List (Nat × aM)} {bs:List Bool} (f:xp ap ti rd x k v=some (r,ups,bs)) (H:∀ b ∈ bs,b=true):
  r= .dead/\∃ C w',(Instr.mapUpdate t cx ck cv).run P w= .ok () w'/\bE ap (cj g ups) C S w'/\Fr g m S w (cj g ups) C S w':=by
 unfold xp at f;split at f
 .rename_i kt et b ver hd;have X:=bind_some f;clear f;obtain ⟨tk,p,f⟩:=X;have X:=bind_some f;clear f;obtain ⟨B,hB,f⟩:=X;split at f
  .rename_i l;simp only [π,Xqt] at l;split at f
   .rename_i ks vs hcells;cases f;have Z:=p;obtain ⟨ik,dk,zk,p⟩:=cB J p;rw [ht.d_eq] at hd;have hd:=Pu hd;subst hd;obtain ⟨b1,H⟩:=bQ H;obtain ⟨b2,_⟩:=bQ H;have a:=N b B hB;have hz:=aG l.1.2;have hmc:Nx rd (.mr b ver)=some (ks,vs):=by
     unfold Nx;simp only [hB,Option.bind_some,l.1.1,l.1.2,Bool.and_self,hcells]
    obtain ⟨es,hes,v1,v2⟩:=yO h N Y hmc;have A:=Ba (w:=w) J Z p b1 hk;simp only [VR] at Y;obtain ⟨B',K,_,_,q⟩:=Y;rw [a] at K;cases K;have q:=q (aG l.1.1);subst q;rcases hes with ⟨e,_⟩|⟨b0,G,e,Q⟩
    .cases e
    cases e;have hlt:(m b).1<w.heap.size:=h.lt a;obtain ⟨_,k7,k8⟩:=h.blk b B a;have key:∀ (c:Array MapEntry) (clk':Nat),aU g m S (nY ks k) (c.toList.map (·.key))->aU g m S (jD ks vs k v) (c.toList.map (·.val))->
      ∃ C,bE ap (cj g [(b,{B with cells:= [.agg (nY ks k),.agg (jD ks vs k v)],pr:=B.pr && (cH v).isEmpty})]) C S {w with heap:=w.heap.setIfInBounds (m b).1 (.map c clk')}/\Fr g m S w (cj g [(b,{B with cells:= [.agg (nY ks k),.agg (jD ks vs k v)],pr:=B.pr && (cH v).isEmpty})]) C S {w with heap:=w.heap.setIfInBounds (m b).1 (.map c clk')}:=by
     intro c clk' w1 w2;have E:=h.put b {B with cells:= [.agg (nY ks k),.agg (jD ks vs k v)],pr:=B.pr && (cH v).isEmpty} (m b).1 (m b).2 (w':={w with heap:=w.heap.setIfInBounds (m b).1 (.map c clk')})
      (.inr ⟨B,a,rfl⟩) ⟨rfl,rfl,rfl,by simp,λk' _ V=>by simp [show (m b).1 ≠ k' from λe=>V (by rw [e])]⟩
      (Bh h (b:=b) (B:={B with cells:= [.agg (nY ks k),.agg (jD ks vs k v)],pr:=B.pr && (cH v).isEmpty}) (w':={w with heap:=w.heap.setIfInBounds (m b).1 (.map c clk')}) (k:=(m b).1) (clk':=clk') (by simp [hlt]) hz rfl w1 w2 (λs=>by
       have s:(B.pr && (cH v).isEmpty)=true:=s;simp only [π] at s;obtain ⟨⟨cur,e,us,rest,k1,k2,k3,k4,_,_⟩,_,_⟩:=h.blk b B a;have R:bD B.cells= []:=mB _ (k3 s.1);rw [hcells] at R;simp only [bD,cH,Xqd,Xzw] at R;refine ⟨zu _ _ _ _ R.2 (mK s.2), ?_⟩;have L:=uW ks _ b2;unfold nY;split
       .exact L
       .rw [og,L];exact uW [k] tk (by simp [b1])) k7 (by rw [hcells] at k8;exact k8) (m b).2)
      (λB0 h0=>by rw [a] at h0;cases h0;exact ⟨rfl,.inl ⟨rfl,rfl⟩⟩)
      (λo u hu=>by
       have:=(h.own b B a o u hu).1;rw [l.2] at this;cases this)
     exact ⟨_,E.1,E.2⟩
    refine ⟨rfl, ?_⟩;rcases pq A hv es.toList ks vs 0 v1 v2 b2 with ⟨O,r2,r3,r4⟩|⟨j,e,y,O,T,rk,r4,r5,r6,r7⟩
    .obtain ⟨C,s1,W⟩:=key (es.push {key:=ck,val:=cv,born:=G}) (G+1)
      (by unfold nY;rw [r3,Array.toList_push,Xq5];exact dQ v1 (by simp only [Xqf,Xjc,aU,and_true];exact hk))
      (by rw [r4,Array.toList_push,Xq5];exact dQ v2 (by simp only [Xqf,Xjc,aU,and_true];exact hv))
     refine ⟨C,_, ?_,s1,W⟩;simp [Instr.mapUpdate,run_underlying ht.und,MapKept.run_getObj_map Q,A.chk,O.run p,MapKept.run_setObj_map _ Q,Result.andThen]
    .have D:es[j]? =some e:=by simpa using T
     have I:(es.modify j λe=> {e with key:=ck,val:=cv}).toList=es.toList.set j {e with key:=ck,val:=cv}:=by
      apply Xwl;intro n;simp only [Array.getElem?_toList,Array.getElem?_modify,Xwm];by_cases hjn:j=n
      .subst hjn;have F:j<es.toList.length:=(List.getElem?_eq_some_iff.1 T).1;rw [if_pos rfl,if_pos rfl,if_pos F,D];rfl
      .rw [if_neg hjn,if_neg hjn]
     obtain ⟨C,s1,W⟩:=key (es.modify j λe=> {e with key:=ck,val:=cv}) G
      (by
       unfold nY;rw [r6,I];have:(es.toList.set j {e with key:=ck,val:=cv}).map (·.key)=es.toList.map (·.key):=by
        apply Xwl;intro n;simp only [Xqx,Xwm];by_cases hjn:j=n
        .subst hjn;have F:j<es.toList.length:=(List.getElem?_eq_some_iff.1 T).1;have M:j<es.size:=by simpa using F
         have U:es[j]=e:=by rw [Array.getElem?_eq_getElem M] at D;exact Option.some.inj D
         simp [M,U,rk]
        .simp [hjn]
       rw [this];exact v1)
      (by rw [I];exact r7)
     refine ⟨C,_, ?_,s1,W⟩;rw [Ψ] at O;simp [Instr.mapUpdate,run_underlying ht.und,MapKept.run_getObj_map Q,A.chk,O.run p,D,rk,A.stay,MapKept.run_setObj_map _ Q,Result.andThen]
   .cases f
  .cases f
 .cases f
end
end AM
namespace AM
open Go
section
variable {P:Program} {ap:AP} {g:bW} {m:aN} {S:aH} {w:World}
theorem qf {ρ:Operand->AV} {cρ:Operand->Value}:∀ (l:List Operand),(∀ o ∈ l,VR g m S (ρ o) (cρ o))->aU g m S (l.map ρ) (l.map cρ)
 | [],_=>by simp [aU]
 |o::r,h=>by simp only [Xqf,aU];exact ⟨h o (by simp),qf r λo a=>h o (by simp [a])⟩
theorem xz {ρ:Operand->AV} {cρ:Operand->Value}:∀ (l:List (Nat × Operand)),(∀ o ∈ l.map (·.2),VR g m S (ρ o) (cρ o))->sE g m S (l.map λ(i,x)=>(i,ρ x)) (l.map λ(i,x)=>(i,cρ x))
 | [],_=>by simp [sE]
 |(i,o)::r,h=>by simp only [Xqf,sE];exact ⟨trivial,h o (by simp),xz r λo a=>h o (by simp [a])⟩
def fo (P:Program) (ap:AP) (g:bW) (m:aN) (S:aH) (w:World) (s:Sem Next) (v:AV) (ups:List (Nat × aM)):Prop:=
 ∃ nx m' w',s.run P w= .ok nx w'/\bE ap (cj g ups) m' S w'/\Fr g m S w (cj g ups) m' S w'/\((∃ cv,nx= .value cv/\VR (cj g ups) m' S v cv)\/(nx= .skip/\v= .dead))
theorem fo.pur (h:bE ap g m S w) {s:Sem Value} {v:AV} {ups:List (Nat × aM)} (hs:ups= []/\∃ cv,s.run P w= .ok cv w/\VR g m S v cv):fo P ap g m S w (do pure (.value (<- s))) v ups:=by
 obtain ⟨rfl,cv,a,b⟩:=hs;exact ⟨.value cv,m,w,by simp [a],by rw [cZ];exact h,by rw [cZ];exact Fr.refl _ _ _ _,.inl ⟨cv,rfl,by rw [cZ];exact b⟩⟩
theorem fo.full {s:Sem Value} {v:AV} {ups:List (Nat × aM)} (hs:∃ cv a w',s.run P w= .ok cv w'/\bE ap (cj g ups) a S w'/\Fr g m S w (cj g ups) a S w'/\VR (cj g ups) a S v cv):fo P ap g m S w (do pure (.value (<- s))) v ups:=by
 obtain ⟨cv,a,w',b,c,e,d⟩:=hs;exact ⟨.value cv,a,w',by simp [b],c,e,.inl ⟨cv,rfl,d⟩⟩
theorem fo.val (h:bE ap g m S w) {s:Sem Next} {v:AV} {cv:Value} (hs:s.run P w= .ok (.value cv) w) (a:VR g m S v cv):fo P ap g m S w s v []:=
 ⟨.value cv,m,w,hs,by rw [cZ];exact h,by rw [cZ];exact Fr.refl _ _ _ _,.inl ⟨cv,rfl,by rw [cZ];exact a⟩⟩
theorem xx {ρ:Operand->AV} {cρ:Operand->Value} (x:Option Operand) (h:∀ o ∈ x.toArray,VR g m S (ρ o) (cρ o)):xw g m S (x.map ρ) (x.map cρ):=by
 cases x with
 |none=>simp [xw]
 |some o=>simp only [Xjj,xw];exact h o (by simp)
theorem DT (a:dP P ap) {t:Nat} {ti:TI} (h:ap.tyAt t=some ti) (hd:ti.d ≠ .iface):P.concrete t=true:=by
 obtain ⟨i,d,z,b⟩:=cB a h;have:=b.d_eq;simp only [Program.concrete,b.und];cases d<;>simp_all [gX]
set_option maxHeartbeats 1000000 in
theorem Ku (j:dP P ap) (D:bE ap g m S w) {nid:Nat} (W:g nid=none) {ρ:Operand->AV} {cρ:Operand->Value} {rd:bW} (I:∀ b B,rd b=some B->g b=some B) (o:Oper) (hρ:∀ x ∈ o.op.operands,VR g m S (ρ x) (cρ x))
  {dec:Operand->Option Bool} (hdec:∀ x ∈ o.op.operands,∀ b,dec x=some b->cρ x= .bool b) {em:Bool} (hem:∀ n,sW ρ o.op=some n->Xqk n 0=em)
  {v:AV} {ups:List (Nat × aM)} {bs:List Bool} (h:opA ap nid ρ rd dec em o.op=some (v,ups,bs)) (hbs:∀ b ∈ bs,b=true):fo P ap g m S w (execOp cρ o) v ups:=by
 unfold opA at h;unfold execOp;split at h<;>rename_i heq<;>simp only [heq,Op.operands] at hρ hdec hem ⊢
 .obtain ⟨rfl,rfl,rfl⟩:=aK h;exact fo.val D (by simp) (hρ _ (by simp))
 .obtain ⟨rfl,rfl,rfl⟩:=aK h;exact fo.val D (by simp) (hρ _ (by simp))
 ·
  rename_i c a b;split at h
  .rename_i hd;obtain ⟨rfl,rfl,rfl⟩:=aK h;have:=hdec c (by simp) _ hd;exact fo.val D (by simp [this,asBool]) (hρ _ (by simp))
  .rename_i hd;obtain ⟨rfl,rfl,rfl⟩:=aK h;have:=hdec c (by simp) _ hd;exact fo.val D (by simp [this,asBool]) (hρ _ (by simp))
  .split at h
   .rename_i bc ba bb e1 e2 e3;obtain ⟨rfl,rfl,rfl⟩:=aK h;have F:=hρ c (by simp);have G:=hρ a (by simp);have L:=hρ b (by simp);rw [e1] at F;rw [e2] at G;rw [e3] at L;simp only [VR,PR] at F G L;refine fo.val D (cv:= .bool (cond bc ba bb)) ?_ (by simp only [VR,PR]);rw [F,G,L];cases bc<;>simp [asBool]
   .cases h
 ·
  rename_i e;have A:=bind_some h;clear h;obtain ⟨te,K,h⟩:=A;obtain ⟨ie,de,ze,C⟩:=cB j K;split at h
  .rename_i O;simp only [π] at O;cases h;obtain ⟨M,w',F,G,L,h4⟩:=AL (P:=P) D W (cells:=te.zero) (cv:=ze) (mD C) C.zleaf (λu hu=>wL (g:=g) (m:=m) (S:=S) (mD C) C.zleaf u (by simpa using hu)) e;refine fo.full ⟨.pointer (some ⟨w.heap.size,0,none⟩),M,w', ?_,G,L,Iu h4⟩;simp [Instr.alloc,zeroValue,typeInfo,C.info,C.zero,F]
  .cases h
 ·
  rename_i e x;have A:=bind_some h;clear h;obtain ⟨te,K,h⟩:=A;obtain ⟨ie,de,ze,C⟩:=cB j K;simp only at h;split at h
  .rename_i O;simp only [π] at O;cases h;have E:=hρ x (by simp);have hl:∀ y ∈ (ρ x).cells,kO y=true:=λy hy=>List.all_eq_true.1 O.2 y hy
   obtain ⟨hv1,hv2⟩:=xE E hl;obtain ⟨M,w',F,G,L,h4⟩:=AL (P:=P) D W (cells:=(ρ x).cells) (cv:=cρ x) hv1 hl hv2 e;refine fo.full ⟨.pointer (some ⟨w.heap.size,0,none⟩),M,w', ?_,G,L,Iu h4⟩;simp [Instr.box,F]
  .cases h
 ·
  rename_i t parts;have A:=bind_some h;clear h;obtain ⟨ti,q,h⟩:=A;obtain ⟨i,d,z,C⟩:=cB j q;refine fo.pur D ?_;refine Cd j C (qs:=parts.map λ(i,x)=>(i,cρ x)) ?_ h;rw [Array.toList_map];exact xz parts.toList λx E=>hρ x (by simpa using E)
 ·
  rename_i t len parts;have A:=bind_some h;clear h;obtain ⟨ti,q,h⟩:=A;obtain ⟨i,d,z,C⟩:=cB j q;refine fo.full ?_;refine sL j D W C (qs:=parts.map λ(i,x)=>(i,cρ x)) ?_ h;rw [Array.toList_map];exact xz parts.toList λx E=>hρ x (by simpa using E)
 ·
  rename_i t a;have A:=bind_some h;clear h;obtain ⟨ti,q,h⟩:=A;obtain ⟨i,d,z,C⟩:=cB j q;exact fo.pur D (vI D I C (hρ a (by simp)) h hbs)
 ·
  rename_i t a x;have A:=bind_some h;clear h;obtain ⟨ti,q,h⟩:=A;obtain ⟨i,d,z,C⟩:=cB j q;have ha:=hρ a (by simp);have E:=hρ x (by simp);generalize cρ a=ca at ha ⊢;generalize cρ x=cx at E ⊢;obtain ⟨rfl,M,w',F,G,L⟩:=Dn D I C ha E h hbs;exact ⟨.skip,M,w',by simp [F],G,L,.inr ⟨rfl,rfl⟩⟩
 ·
  rename_i t r;split at h
  .cases h;obtain ⟨cv,M,w',F,G,L,h4⟩:=Ar (P:=P) D W t;exact ⟨.value cv,M,w',by simp [F],G,L,.inl ⟨cv,rfl,h4⟩⟩
  .cases h
 ·
  rename_i t x k ok;have A:=bind_some h;clear h;obtain ⟨ti,q,h⟩:=A;obtain ⟨i,d,z,C⟩:=cB j q;exact fo.pur D (Aq j D I C (hρ x (by simp)) (hρ k (by simp)) h hbs)
 ·
  rename_i t x k v;have A:=bind_some h;clear h;obtain ⟨ti,q,h⟩:=A;obtain ⟨i,d,z,C⟩:=cB j q;obtain ⟨rfl,M,w',F,G,L⟩:=rC j D I C (hρ x (by simp)) (hρ k (by simp)) (hρ v (by simp)) h hbs;exact ⟨.skip,M,w',by simp [F],G,L,.inr ⟨rfl,rfl⟩⟩
 ·
  rename_i t x k v;have A:=bind_some h;clear h;obtain ⟨ti,q,h⟩:=A;obtain ⟨i,d,z,C⟩:=cB j q;obtain ⟨rfl,M,w',F,G,L⟩:=rC j D I C (hρ x (by simp)) (hρ k (by simp)) (hρ v (by simp)) h hbs;exact ⟨.skip,M,w',by simp [F],G,L,.inr ⟨rfl,rfl⟩⟩
 ·
  rename_i x;have E:=hρ x (by simp);split at h
  .rename_i b ver off e;rw [e] at E;obtain ⟨rfl,rfl,rfl⟩:=aK h;have H:=E;simp only [VR] at H;obtain ⟨_,_,_,⟨k,o,X⟩,_⟩:=H;exact fo.val D (cv:=cρ x) (by rw [X];simp) E
  .rename_i xs off e;rw [e] at E;obtain ⟨rfl,rfl,rfl⟩:=aK h;have H:=E;simp only [VR,PR] at H;obtain ⟨_,_,_,X,_⟩:=H;exact fo.val D (cv:=cρ x) (by rw [X];simp) E
  .rename_i f a c e;rw [e] at E;obtain ⟨rfl,rfl,rfl⟩:=aK h;have H:=E;simp only [VR] at H;obtain ⟨_,_,X,_⟩:=H;exact fo.val D (cv:=cρ x) (by rw [X];simp) E
  .cases h
 ·
  rename_i op t x y _;have A:=bind_some h;clear h;obtain ⟨ti,q,h⟩:=A;exact fo.pur D (FP j q (hρ x (by simp)) (hρ y (by simp)) h hbs x y)
 ·
  exact fo.pur D (K_ (hρ _ (by simp)) h)
 ·
  rename_i s d x;have A:=bind_some h;clear h;obtain ⟨ts,hts,h⟩:=A;have A:=bind_some h;clear h;obtain ⟨td,htd,h⟩:=A;exact fo.pur D (xT j D I hts htd (hρ x (by simp)) h hbs)
 ·
  rename_i t x;have A:=bind_some h;clear h;obtain ⟨ti,q,h⟩:=A;split at h
  .cases h
  .rename_i hd;obtain ⟨rfl,rfl,rfl⟩:=aK h;refine fo.pur D ⟨rfl,.iface t (cρ x),run_makeInterface w t _ (DT j q hd), ?_⟩;simp only [VR];exact ⟨_,rfl,hρ x (by simp)⟩
 ·
  rename_i f first cap
  obtain ⟨rfl,rfl,rfl⟩:=aK h;refine fo.pur D ⟨rfl,.func (.func f) (first.map cρ) (cap.map cρ),by simp [Instr.makeFunc], ?_⟩;simp only [VR];refine ⟨(first.map cρ).toList,(cap.map cρ).toList,by rw [Array.toArray_toList,Array.toArray_toList], ?_, ?_⟩
  .rw [Array.toList_map];exact qf _ λx E=>hρ x (by simp at E ⊢;exact .inl E)
  .rw [Array.toList_map];exact qf _ λx E=>hρ x (by simp at E ⊢;exact .inr E)
 ·
  rename_i t l c;have A:=bind_some h;clear h;obtain ⟨ti,q,h⟩:=A;obtain ⟨i,d,z,C⟩:=cB j q;exact fo.full (uM j D W C (hρ l (by simp)) (hρ c (by simp)) h hbs)
 ·
  rename_i t x lo hi mx;have A:=bind_some h;clear h;obtain ⟨ti,q,h⟩:=A;obtain ⟨i,d,z,C⟩:=cB j q;exact fo.pur D (Di j I C (hρ x (by simp)) (xx lo λo T=>hρ o (by simp at T;simp [T])) (xx hi λo T=>hρ o (by simp at T;simp [T])) (xx mx λo T=>hρ o (by simp at T;simp [T])) h hbs)
 ·
  rename_i s x f;have A:=bind_some h;clear h;obtain ⟨ti,q,h⟩:=A;obtain ⟨i,d,z,C⟩:=cB j q;split at h
  .rename_i fs hd;have A:=bind_some h;clear h;obtain ⟨⟨o,ft,sz⟩,hf,h⟩:=A;simp only at h;split at h
   .rename_i hsz;have A:=bind_some h;clear h;obtain ⟨p,hp,h⟩:=A;obtain ⟨rfl,rfl,rfl⟩:=aK h;exact fo.pur D ⟨rfl,wA C hd hf hsz (hρ x (by simp)) hp⟩
   .cases h
  .cases h
 ·
  rename_i t x f;have A:=bind_some h;clear h;obtain ⟨ti,q,h⟩:=A;obtain ⟨i,d,z,C⟩:=cB j q;exact fo.pur D (CA j C (hρ x (by simp)) h hbs)
 ·
  rename_i t x ix;have A:=bind_some h;clear h;obtain ⟨ti,q,h⟩:=A;obtain ⟨i,d,z,C⟩:=cB j q;exact fo.pur D (uC j I C (hρ x (by simp)) (hρ ix (by simp)) h hbs)
 ·
  rename_i t x ix;have A:=bind_some h;clear h;obtain ⟨ti,q,h⟩:=A;obtain ⟨i,d,z,C⟩:=cB j q;exact fo.pur D (CH j C (hρ x (by simp)) (hρ ix (by simp)) h hbs)
 ·
  exact fo.pur D (Am j (hρ _ (by simp)) h _)
 ·
  rename_i t i;have C:=hρ t (by simp);split at h
  .rename_i l e;rw [e] at C;have A:=bind_some h;clear h;obtain ⟨x,E,h⟩:=A;obtain ⟨rfl,rfl,rfl⟩:=aK h;simp only [VR] at C;obtain ⟨vs,X,hl⟩:=C;obtain ⟨cv,F,G⟩:=nH hl i E;refine fo.pur D ⟨rfl,cv, ?_,G⟩;rw [X];simp [Instr.extract,F]
  .cases h
 ·
  rename_i b args R;simp only [Call.operands] at hρ;have hargs:∀ x ∈ args,VR g m S (ρ x) (cρ x):=λx E=>hρ x (by simp [E])
  split at h
  .have A:=bind_some h;clear h;obtain ⟨x,E,h⟩:=A;have A:=bind_some h;clear h;obtain ⟨t,V,h⟩:=A;have A:=bind_some h;clear h;obtain ⟨ti,q,h⟩:=A;obtain ⟨i,d,z,C⟩:=cB j q;obtain ⟨hu,cv,F,G⟩:=Gy (P:=P) (w:=w) (hargs x (Array.mem_of_getElem? E)) C h R V (args.map cρ) (by simp [E]) o.type;subst hu;exact fo.val D (cv:=cv) (by simp [resolve,invoke,builtin,F]) G
  .split at h
   .rename_i s x t t1 ha V;have hargs':args=#[s,x]:=by apply Array.ext';simpa using ha
    have hats':R=#[t,t1]:=by apply Array.ext';simpa using V
    subst hargs';subst hats';have A:=bind_some h;clear h;obtain ⟨ti,q,h⟩:=A;have A:=bind_some h;clear h;obtain ⟨ti1,Z,h⟩:=A;obtain ⟨i,d,z,C⟩:=cB j q;obtain ⟨i1,d1,z1,Q⟩:=cB j Z;have hs:=hargs s (by simp);have E:=hargs x (by simp);have U:ρ s= .nilS->∃ n,rN (ρ x)=some n/\Xqk n 0=em:=by
     intro e;cases hc:rN (ρ x) with
     | none=>
      exfalso;split at h
      .rename_i H;rw [H] at hc;simp [rN] at hc
      .cases h
      .rename_i y hy1 _ hy2 hy3;have A:=bind_some h;clear h;obtain ⟨te,K,h⟩:=A;unfold sH at h;have A:=bind_some h;clear h;obtain ⟨⟨xs,n,pr⟩,Y,h⟩:=A;cases hxx:ρ x<;>simp [hxx,rN] at hc<;>simp [hxx,E9] at Y
      .cases h
     |some n=>exact ⟨n,rfl,hem n (by simp [sW,e,hc])⟩
    split at h
    .rename_i e y hd J hy;have A:=bind_some h;clear h;obtain ⟨te,K,h⟩:=A;obtain ⟨ie,de,ze,N⟩:=cB j K;split at h
     .rename_i F;rw [C.d_eq] at hd;rw [Q.d_eq] at J;have hd:=dM hd;have J:=sr J;subst hd;subst J;obtain ⟨cv,M,w',r1,r2,r3,r4⟩:=qY (P:=P) D I W C N hs E (tx:=t1) (.inl ⟨⟨y,hy⟩,Q.und,aG F⟩) U (by rw [hy];exact h) hbs o.type;exact ⟨.value cv,M,w',by simp [resolve,invoke,builtin,r1],r2,r3,.inl ⟨cv,rfl,r4⟩⟩
     .cases h
    .cases h
    .rename_i e e1 hd J hns;have A:=bind_some h;clear h;obtain ⟨te,K,h⟩:=A;obtain ⟨ie,de,ze,N⟩:=cB j K;rw [C.d_eq] at hd;rw [Q.d_eq] at J;have hd:=dM hd;have J:=dM J;subst hd;subst J;obtain ⟨cv,M,w',r1,r2,r3,r4⟩:=qY (P:=P) D I W C N hs E (tx:=t1) (.inr ⟨λs e=>hns s e,_,Q.und⟩) U h hbs o.type;exact ⟨.value cv,M,w',by simp [resolve,invoke,builtin,r1],r2,r3,.inl ⟨cv,rfl,r4⟩⟩
    .cases h
   .cases h
  .have A:=bind_some h;clear h;obtain ⟨r,hr,h⟩:=A;obtain ⟨rfl,rfl,rfl⟩:=aK h;obtain ⟨cv,F,G⟩:=Kj (P:=P) (w:=w) (qf args.toList λx E=>hargs x (Array.mem_toList_iff.1 E)) hr R o.type;refine fo.val D (cv:=cv) ?_ G;have:(Xz0 cρ args.toList).toArray=args.map cρ:=by apply Array.ext';rw [Xvo,Array.toList_map]
   rw [this] at F;simp [resolve,invoke,builtin,F]
  .have A:=bind_some h;clear h;obtain ⟨r,hr,h⟩:=A;obtain ⟨rfl,rfl,rfl⟩:=aK h;obtain ⟨cv,F,G⟩:=Kh (P:=P) (w:=w) (qf args.toList λx E=>hargs x (Array.mem_toList_iff.1 E)) hr R o.type;refine fo.val D (cv:=cv) ?_ G;have:(Xz0 cρ args.toList).toArray=args.map cρ:=by apply Array.ext';rw [Xvo,Array.toList_map]
   rw [this] at F;simp [resolve,invoke,builtin,F]
  .cases h
 .cases h
end
end AM
namespace AM
open Go
structure Cx.Ok (c:Cx):Prop where
 bs:∀ b ∈ c.bs,b=true
 ps:∀ p ∈ c.ps,p
theorem R.bind_ok {α β:Type} {r:R α} {f:α->Cx->R β} {b:β} {c:Cx} (h:r.bind f= .ok b c):∃ a c1,r= .ok a c1/\f a c1= .ok b c:=by
 cases r with
 |ok a c1=>exact ⟨a,c1,rfl,h⟩
 |need=>simp [R.bind] at h
 |bad n=>simp [R.bind] at h
theorem Cs {c f:Cx} {bs:List Bool} {u:Unit} (h:Qy c bs= .ok u f) (d:f.Ok):c.Ok/\∀ b ∈ bs,b=true:=by
 unfold Qy at h;split at h
 .split at h
  .rename_i a;cases h;exact ⟨d,λb e=>by simpa using List.all_eq_true.1 a b e⟩
  .cases h
 .cases h;exact ⟨⟨λb a=>d.bs b (by simp [a]),d.ps⟩,λb a=>d.bs b (by simp [a])⟩
theorem iX {c e:Cx} {b d:Bool} (h:ur c b= .ok d e) (a:e.Ok):c.Ok/\d=b:=by
 unfold ur at h;split at h
 .cases h;exact ⟨a,rfl⟩
 .split at h
  .cases h
  .rename_i o r _;cases h;have f:=a.bs (lit d b) (by simp);refine ⟨⟨λx i=>a.bs x (by simp [i]),a.ps⟩, ?_⟩;cases d<;>cases b<;>simp [lit] at f ⊢
theorem fe {l:List Nat} {a:Nat}:lp l a=true↔a ∈ l:=by
 simp only [lp,List.any_eq_true];constructor
 .rintro ⟨x,hx,h⟩;exact aG h ▸ hx
 .intro h;exact ⟨a,h,Nat.beq_refl a⟩
theorem dx {α β:Type} {f:α->Option β}:∀ {l:List α} {l':List β},gm f l=some l'->l'.length=l.length/\∀ (i:Nat) x,l[i]? =some x->∃ y,l'[i]? =some y/\f x=some y
 | [],l',h=>by simp [gm] at h;subst h;simp
 | a::r,l',h=>by
  simp only [gm] at h;split at h
  .rename_i y j;split at h
   .rename_i q d;cases h;obtain ⟨c,e⟩:=dx d;refine ⟨by simp [c], ?_⟩;intro i x b;cases i with
    |zero=>simp at b;subst b;exact ⟨y,by simp,j⟩
    |succ i=>simpa using e i x (by simpa using b)
   .cases h
  .cases h
section
variable {P:Program} {ap:AP} {g:bW} {m:aN} {S:aH} {w:World}
noncomputable def bZ (S:aH) (m:aN) (rd:bW) (w:World):aH:=λk o=>
 match S k o with
 |some v=>some v
 |none=>open Classical in if ∃ b B,rd b=some B/\(m b).1=k/\o<B.cells.length then aR w k o else none
theorem kg (S:aH) (m:aN) (rd:bW) (w:World):eO S (bZ S m rd w):=by
 intro k o v h;simp [bZ,h]
theorem dc {rd:bW} {k o:Nat} {v:Value} (h:bZ S m rd w k o=some v):S k o=some v\/(aR w k o=some v/\∃ b B,rd b=some B/\(m b).1=k/\o<B.cells.length):=by
 unfold bZ at h;split at h
 .rename_i e c;cases h;exact .inl c
 .rename_i d;split at h
  .rename_i a;exact .inr ⟨h,a⟩
  .cases h
theorem lQ (a:bE ap g m S w) {rd:bW} {k o:Nat} {v:Value} (h:bZ S m rd w k o=some v):aR w k o=some v:=by
 rcases dc h with h|h
 .exact a.sealed _ _ _ h
 .exact h.1
theorem KQ (d:bE ap g m S w) {rd:bW} {b:Nat} {B:aM} (e:rd b=some B) {o:Nat} (f:o<B.cells.length) {v:Value} (a:aR w (m b).1 o=some v):bZ S m rd w (m b).1 o=some v:=by
 unfold bZ;split
 .rename_i h c;have:=d.sealed _ _ _ c;rw [a] at this;cases this;rfl
 .rw [if_pos ⟨b,B,e,rfl,f⟩];exact a
theorem zM (i:bE ap g m S w) {rd:bW} (f:∀ b B,rd b=some B->g b=some B) {b:Nat} {B:aM} (h:rd b=some B):
  ∃ vs,aU g m S B.cells vs/\(B.pr=true->bw S B.cells vs)/\(∀ j u,vs[j]? =some u->bZ S m rd w (m b).1 j=some u)/\vs.length=B.cells.length/\(B.esz ≠ eZ->∀ u ∈ vs,u.oneCell'=true):=by
 obtain ⟨⟨cur,e,vs,rest,l,n,o,d,h5,p⟩,_,_⟩:=i.blk b B (f b B h);refine ⟨vs,d,o, ?_,(bA d).symm,h5⟩;intro j u c;have a:=(List.getElem?_eq_some_iff.1 c).1;refine KQ i h (by rw [bA d];exact a) ?_;exact l.get (by rw [n,Xxe a];exact c) (λk=>h5 k u (Xqn c))
theorem tR (e:bE ap g m S w) {rd:bW} (a:∀ b B,rd b=some B->g b=some B) {b:Nat} {B:aM} (h:rd b=some B) (k:B.esz ≠ eZ):
  ∃ vs,aU g m S B.cells vs/\(B.pr=true->bw S B.cells vs)/\iz (bZ S m rd w) (m b).1 0 vs/\vs.length=B.cells.length:=by
 obtain ⟨vs,d,f,l,i,h5⟩:=zM e a h;refine ⟨vs,d,f,λj u c=> ?_,i⟩;rw [Ψ];exact ⟨l j u c,h5 k u (Xqn c)⟩
theorem Bk {S':aH} {l:List AV} {y:AV} {vs:List Value} {k:Nat} (h:Rv l=some y) (a:bw S' l vs) (hs:∀ j u,vs[j]? =some u->S' k j=some u):PR S' y (.map (some k)):=by
 unfold Rv at h;split at h
 .rename_i ks f;cases h
  match vs,a with
  | [v0,v1],a=>
   simp only [bw,PR,and_true] at a;obtain ⟨⟨b,rfl,d⟩,c,rfl,e⟩:=a;simp only [PR];exact .inr ⟨k,b,c,rfl,hs 0 _ rfl,hs 1 _ rfl,d,e⟩
  | [],a=>simp [bw] at a
  | [_],a=>simp [bw] at a
  |_::_::_::_,a=>simp [bw] at a
 .cases h
theorem oR {S':aH} {f:AV->Option AV} (a:∀ x v y,f x=some y->VR g m S x v->PR S' y v):∀ {l l':List AV} {vs:List Value},gm f l=some l'->aU g m S l vs->bw S' l' vs
 | [],l',[],h,_=>by simp [gm] at h;subst h;simp [bw]
 | x::r,l',v::vs,h,hv=>by
  simp only [gm] at h;simp only [aU] at hv;split at h
  .rename_i y c;split at h
   .rename_i q b;cases h;simp only [bw];exact ⟨a x v y c hv.1,oR a b hv.2⟩
   .cases h
  .cases h
 | [],_,_::_,_,h=>by simp [aU] at h
 |_::_,_,[],_,h=>by simp [aU] at h
theorem i_ (K:bE ap g m S w) {rd:bW} (z:∀ b B,rd b=some B->g b=some B):∀ (s:Nat) (x:AV) (v:Value) (y:AV),frz rd s x=some y->VR g m S x v->PR (bZ S m rd w) y v:=by
 intro s
 induction s with
 |zero=>intro x v y h;simp [frz] at h
 | succ s ih=>
  intro x v y h f;have C:=kg S m rd w;have hlist:∀ {l l':List AV} {vs:List Value},gm (frz rd s) l=some l'->aU g m S l vs->bw (bZ S m rd w) l' vs:=λG H=>oR (λx v y hx f=>ih x v y hx f) G H
  unfold frz at h;simp only at h;split at h
  ·
   rename_i b ver i n;have D:=bind_some h;clear h;obtain ⟨B,E,h⟩:=D;split at h
   .rename_i d;simp only [VR] at f;obtain ⟨B',p,_,_,q⟩:=f;rw [z b B E] at p;cases p;obtain ⟨o,rfl,L,V,M,F⟩:=q (aG d);obtain ⟨vs,G,H,I,N⟩:=tR K z E F;have hpart:iz (bZ S m rd w) (m b).1 o ((vs.drop (i*B.esz)).take (n*B.esz)):=by
     by_cases hi:i<(m b).2
     .rw [V hi];have:=(I.drop (i*B.esz)).take (n*B.esz);rwa [Ψ] at this
     .have hn:n=0:=by omega
      subst hn;intro j u Q;simp at Q
    have k:∀ l,bw (bZ S m rd w) l ((vs.drop (i*B.esz)).take (n*B.esz))->PR (bZ S m rd w) (.sl l n true) (.slice (some ⟨(m b).1,o,none⟩) n ((m b).2 - i)):=by
     intro l t;simp only [PR];exact ⟨_,_,rfl,by omega,.inr ⟨_,_,_,rfl,t,hpart⟩⟩
    split at h
    .rename_i A;cases h;exact k _ (iy _ (ky _ (aY C _ (H A))))
    .simp only [Xqq] at h;obtain ⟨l,t,rfl⟩:=h;exact k _ (hlist t (mC _ (oS _ G)))
   .cases h
  ·
   rename_i b ver J;have D:=bind_some h;clear h;obtain ⟨B,E,h⟩:=D;split at h
   .rename_i d;simp only [π,Xqt] at d;have F:B.esz ≠ eZ:=λe=>by rw [e] at d;exact absurd d.2 (by decide)
    simp only [VR] at f;obtain ⟨B',p,_,_,q⟩:=f;rw [z b B E] at p;cases p;have q:=q (aG d.1);subst q;obtain ⟨vs,G,H,I,N⟩:=tR K z E F;have k:∀ l,bw (bZ S m rd w) l vs->PR (bZ S m rd w) (.pp l J) (.pointer (some ⟨(m b).1,J,none⟩)):=by
     intro l t;simp only [PR];exact ⟨_,0,_,by rw [Ψ],t,I⟩
    split at h
    .rename_i A;cases h;exact k _ (aY C _ (H A))
    .simp only [Xqq] at h;obtain ⟨l,t,rfl⟩:=h;exact k _ (hlist t G)
   .cases h
  ·
   rename_i b ver;have D:=bind_some h;clear h;obtain ⟨B,E,h⟩:=D;split at h
   .rename_i d;simp only [π] at d;simp only [VR] at f;obtain ⟨B',p,_,_,q⟩:=f;rw [z b B E] at p;cases p;have q:=q (aG d.1);subst q;obtain ⟨vs,G,H,I,N,_⟩:=zM K z E;split at h
    .rename_i A;exact Bk h (aY C _ (H A)) I
    .have D:=bind_some h;clear h;obtain ⟨l,t,h⟩:=D;exact Bk h (hlist t G) I
   .cases h
  .simp only [Xqq] at h;obtain ⟨l,t,rfl⟩:=h;simp only [VR] at f;obtain ⟨vs,e,q⟩:=f;simp only [PR];exact ⟨vs,e,hlist t q⟩
  .simp only [Xqq] at h;obtain ⟨l,t,rfl⟩:=h;simp only [VR] at f;obtain ⟨vs,e,q⟩:=f;simp only [PR];exact ⟨vs,e,hlist t q⟩
  .have D:=bind_some h;clear h;obtain ⟨a,O,h⟩:=D;simp only [Xqq] at h;obtain ⟨c,T,rfl⟩:=h;simp only [VR] at f;obtain ⟨Y,vc,e,q,r⟩:=f;simp only [PR];exact ⟨Y,vc,e,hlist O q,hlist T r⟩
  .simp only [Xqq] at h;obtain ⟨u,hu,rfl⟩:=h;simp only [VR] at f;obtain ⟨Z,e,q⟩:=f;simp only [PR];exact ⟨Z,e,ih _ _ _ hu q⟩
  .cases h
  .rename_i U W n8 X n4 n5 R n7;cases h;refine aQ C _ ?_;cases x<;>first
    |exact absurd rfl (U _ _ _ _)
    |exact absurd rfl (W _ _ _)
    |exact absurd rfl (n8 _ _)
    |exact absurd rfl (X _)
    |exact absurd rfl (n4 _)
    |exact absurd rfl (n5 _ _ _)
    |exact absurd rfl (R _ _)
    |exact absurd rfl (n7 _ _ _)
    |(simp only [VR] at f;exact f)
    |(simp only [PR])
end
end AM
