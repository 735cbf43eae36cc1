/- The abstract machine over the code of the model, and the proof that it is sound. No conditions. -/
import Derived.Test.YtokiomlellclkaaGreatDoorM1
import Derived.Laws.BytesString
import Derived.Laws.MakeOwn
import Derived.Laws.OwnMore
set_option linter.unusedSimpArgs false
set_option linter.unusedVariables false
open List renaming foldl_cons→Xqw,length_take→Xqn,nil_append→θ,drop_drop→Xx7,map_cons→φ,getElem?_map→Ξ,getElem?_take→Xq9,getElem?_append_left→Xqc,mem_of_mem_drop→Xjx,mem_of_mem_take→Xxt,all_cons→Xxu,cons_append→Xqt,append_eq_nil_iff→Xx0,take_append_of_le_length→Xjm,drop_append_of_le_length→Xzg,append_assoc→Δ,toList_toArray→Xxz,size_toArray→Xqz,length_append→ξ,length_drop→Xq8,replicate_succ→Xzp,append_nil→ο,any_cons→Xki,map_append→Xxa,map_nil→Xjo,ext_getElem?→Xxk,getElem?_set→Xjv,map→Xvv,mem_of_getElem?→χ
open Bool renaming and_eq_true→δ,not_eq_true'→Xqi
open Nat renaming add_zero→Xqo,beq→υ,le_refl→ζ,zero_le→Xqr,mul_le_mul→Xwv,le_trans→Xqg,zero_add→Θ,add_mul→Xx5,eq_zero_or_pos→Xq1,lt_irrefl→Xjh
open Option renaming map_some→Xqu,map_eq_some_iff→Φ
open UInt8 renaming ofNat→π
namespace AM
open Go
section
variable {P:Program} {ap:AP} {g:bJ} {m:aH} {S:az} {w:World}
theorem zI {x:AV} {v:Value} (h:VR g m S x v) (e:∀ y ∈ x.cells,kH y=true):aU g m S x.cells v.cells.toList∧∀ u ∈ v.cells,u.oneCell'=true:=by
 cases x
 case agg l=>
  simp only [VR] at h;obtain ⟨vs,rfl,h⟩:=h;refine ⟨by simpa [Value.cells,AV.cells] using h, ?_⟩;intro u d;simp only [Value.cells] at d;simp only [AV.cells] at e;have:∀ (l:List AV) (vs:List Value),aU g m S l vs→(∀ y ∈ l,kH y=true)→∀ u ∈ vs,u.oneCell'=true:=by
   intro l
   induction l with
   |nil=>intro vs f _ u d;cases vs<;>simp [aU] at f d
   | cons a r ih=>
    intro vs f e u d;cases vs with
    |nil=>simp [aU] at f
    |cons b q=>
     simp only [aU] at f;rcases List.mem_cons.1 d with rfl|d
     ·exact Jh f.1 (e a (by simp))
     ·exact ih q f.2 (fun y j=>e y (by simp [j])) u d
  exact this l vs h e u (by simpa using d)
 all_goals
  have c:=Jh h (e _ (by simp [AV.cells]));have i:v.cells=#[v]:=by cases v<;>simp [Value.cells,Value.oneCell'] at c ⊢
  rw [i];refine ⟨by simp only [AV.cells,aU];exact ⟨h,trivial⟩,by simpa using c⟩
theorem D6:∀ (vs:List Value) (i off:Nat) (cs:Array Value),off+i+vs.length≤cs.size→
  ((vs.zipIdx i).foldl (fun (cs:Array Value) (p:Value × Nat)=>cs.setIfInBounds (off+p.2) p.1) cs).toList=cs.toList.take (off+i)++vs++cs.toList.drop (off+i+vs.length)
 | [],i,off,cs,_=>by simp
 | v::vs,i,off,cs,h=>by
  simp only [List.length_cons] at h;simp only [List.zipIdx_cons,Xqw];rw [D6 vs (i+1) off (cs.setIfInBounds (off+i) v) (by simp;omega)];have a:off+i<cs.toList.length:=by simp;omega
  simp only [Array.toList_setIfInBounds];rw [show off+(i+1)=off+i+1 from by omega,List.set_eq_take_append_cons_drop,if_pos a];have d:(cs.toList.take (off+i)++v::cs.toList.drop (off+i+1)).take (off+i+1)=cs.toList.take (off+i)++ [v]:=by
   rw [List.take_append];have b:off+i+1 - (cs.toList.take (off+i)).length=1:=by simp [Xqn];omega
   rw [b];simp [List.take_take]
  have c:(cs.toList.take (off+i)++v::cs.toList.drop (off+i+1)).drop (off+i+1+vs.length)=cs.toList.drop (off+i+(v::vs).length):=by
   rw [List.drop_append];have:(cs.toList.take (off+i)).length=off+i:=by simp [Xqn];omega
   rw [this,List.drop_eq_nil_of_le (by rw [this];omega),θ,show off+i+1+vs.length - (off+i)=vs.length+1 from by omega,List.drop_succ_cons,Xx7];congr 1;simp;omega
  rw [d,c];simp
theorem EO {b vs:List AV} {cs us:List Value} {a:Nat} (h:aU g m S b cs) (c:aU g m S vs us):aU g m S (dR b a vs) (cs.take a++us++cs.drop (a+us.length)):=by
 unfold dR;rw [← aW c];exact fC (fC (nG _ h) c) (qo _ h)
theorem KA {b vs:List AV} {cs us:List Value} {a:Nat} (h:bi S b cs) (c:bi S vs us):bi S (dR b a vs) (cs.take a++us++cs.drop (a+us.length)):=by
 unfold dR;rw [← jE c];exact iK (iK (jf _ h) c) (ny _ h)
def kQ (g:bJ) (m:aH) (S:az) (place:Nat→Option (Nat × Nat)):List (Nat × Nat × AV)→List (Nat × Value)→Prop
 | [],[]=>True
 |(off,size,v)::r,(i,c)::q=>place i=some (off,size)∧VR g m S v c∧kQ g m S place r q
 |_,_=>False
theorem lV {place:Nat→Option (Nat × Nat)}:∀ (ps:List (Nat × Nat × AV)) (qs:List (Nat × Value)) (cells cells':List AV) (cs:Array Value),kQ g m S place ps qs→aU g m S cells cs.toList→tJ cells ps=some cells'→
  ∃ a,Instr.fill place cs qs=some a∧aU g m S cells' a.toList∧a.size=cs.size
 | [],[],cells,cells',cs,_,hv,h=>by simp [tJ] at h;subst h;exact ⟨cs,rfl,hv,rfl⟩
 | (off,size,v)::r,(i,c)::q,cells,cells',cs,hp,hv,h=>by
  simp only [kQ] at hp;simp only [tJ] at h;split at h
  ·rename_i k;simp only [δ] at k;obtain ⟨⟨l,n⟩,z⟩:=k;obtain ⟨j,B⟩:=zI hp.2.1 (fun y A=>List.all_eq_true.1 z y A);have x:=aW j;have b:=aW hv;have l:=aA l;have n:=dU n;have s:c.cells.size=size:=by simp only [Array.length_toList] at x;omega
   have f:off+c.cells.size≤cs.size:=by simp only [Array.length_toList] at b;omega
   have o:=D6 c.cells.toList 0 off cs (by simpa using f);have d:aU g m S (dR cells off v.cells) ((c.cells.zipIdx.foldl (fun (cs:Array Value) (p:Value × Nat)=>cs.setIfInBounds (off+p.2) p.1) cs)).toList:=by
    rw [← Array.foldl_toList,Array.toList_zipIdx,o];simp only [Xqo];exact EO hv j
   obtain ⟨a,e,u,t⟩:=lV r q _ cells' _ hp.2.2 d h;refine ⟨a, ?_,u, ?_⟩
   ·simp only [Instr.fill,hp.1];rw [if_neg (by simp;omega)];exact e
   ·rw [t,← Array.length_toList,← Array.foldl_toList,Array.toList_zipIdx,o];simp;omega
  ·cases h
 | [],_::_,_,_,_,hp,_,_=>by simp [kQ] at hp
 |_::_,[],_,_,_,hp,_,_=>by simp [kQ] at hp
theorem nH {t:Nat} {a:TI} {i:TypeInfo} {d:TypeDesc} {z:Value} (b:uO P t a i d z):aU g m S a.zero z.cells.toList:=by
 rw [b.zcells];exact aZ _ (sU S _)
def uP (g:bJ) (m:aH) (S:az):List (Nat × AV)→List (Nat × Value)→Prop
 | [],[]=>True
 |(i,v)::r,(j,c)::q=>i=j∧VR g m S v c∧uP g m S r q
 |_,_=>False
theorem oQ {size:Nat}:∀ {ps:List (Nat × AV)} {qs:List (Nat × Value)},uP g m S ps qs→kQ g m S (fun i=>some (i*size,size)) (ps.map fun (i,v)=>(i*size,size,v)) qs
 | [],[],_=>by simp [kQ]
 |(i,v)::r,(j,c)::q,h=>by
  simp only [uP] at h;obtain ⟨rfl,b,a⟩:=h;simp only [φ,kQ];exact ⟨trivial,b,oQ a⟩
 | [],_::_,h=>by simp [uP] at h
 |_::_,[],h=>by simp [uP] at h
theorem yh {a:List (Nat × Nat × Nat)} {place:Nat→Option (Nat × Nat)} (hp:∀ i x,a[i]? =some x→place i=some (x.1,x.2.2)):∀ {ps:List (Nat × AV)} {qs:List (Nat × Value)} {rs:List (Nat × Nat × AV)},uP g m S ps qs→
  fM (fun (q:Nat × AV)=>(a[q.1]?).map fun (x:Nat × Nat × Nat)=>(x.1,x.2.2,q.2)) ps=some rs→kQ g m S place rs qs
 | [],[],rs,_,h=>by simp [fM] at h;subst h;simp [kQ]
 | (i,v)::r,(j,c)::q,rs,hn,h=>by
  simp only [uP] at hn;obtain ⟨rfl,e,f⟩:=hn;simp only [fM] at h;cases b:a[i]? with
  |none=>simp [b] at h
  | some x=>
   simp only [b,Xqu] at h;split at h
   ·rename_i l d;cases h;simp only [kQ];exact ⟨hp i x b,e,yh hp f d⟩
   ·cases h
 | [],_::_,_,h,_=>by simp [uP] at h
 |_::_,[],_,h,_=>by simp [uP] at h
theorem yg:∀ (fields:List Field),(∀ f ∈ fields,(P.info? f.type).isSome)→fields.mapM (fun f=>(P.info? f.type).map fun i=>(f.offset,i.size))=some (fields.map fun f=>(f.offset,match P.info? f.type with|some i=>i.size|none=>0))
 | [],_=>rfl
 | f::r,h=>by
  cases a:P.info? f.type with
  |none=>have:=h f (by simp);simp [a] at this
  |some i=>
   simp [List.mapM_cons,a,yg r (fun f b=>h f (by simp [b]))]
theorem EQ (s:dJ P ap) {t:Nat} {o:TI} {i:TypeInfo} {d:TypeDesc} {z:Value} (b:uO P t o i d z) {ps:List (Nat × AV)} {qs:Array (Nat × Value)} (B:uP g m S ps qs.toList) {v:AV} {ups:List (Nat × aP)} {bs:List Bool}
  (h:Jo ap o ps=some (v,ups,bs)):ups= []∧∃ cv,(Instr.build t qs).run P w= .ok cv w∧VR g m S v cv:=by
 unfold Jo at h;split at h
 ·rename_i G k;have j:=bind_some h;clear h;obtain ⟨D,y,h⟩:=j;have j:=bind_some h;clear h;obtain ⟨cs,l,h⟩:=j;obtain ⟨rfl,rfl,rfl⟩:=aO h;rw [b.d_eq] at k;obtain ⟨fields,rfl,rfl⟩:=sF k;by_cases hall:∀ f ∈ fields.toList,(P.info? f.type).isSome
  ·have p:=yg fields.toList hall;have u:=yh (place:=((fields.toList.map fun f=>(f.offset,match P.info? f.type with|some i=>i.size|none=>0)).toArray[·]?)) (by
    intro i x C;simp only [Ξ,Φ] at C;obtain ⟨f,A,rfl⟩:=C;simp [A];rfl) B y
   obtain ⟨a,q,r,_⟩:=lV D qs.toList o.zero cs z.cells u (nH b) l;refine ⟨rfl,.agg a,run_build w t qs a ?_, ?_⟩
   ·simp only [Program.built,b.info,b.und,b.zero];rw [p];exact q
   ·simp only [VR];exact ⟨a.toList,by simp,r⟩
  ·exfalso;apply hall;intro f A;have:=b.fld;simp only [P6] at this;exact List.all_eq_true.1 this f A
 ·rename_i n e k;have j:=bind_some h;clear h;obtain ⟨E,c,h⟩:=j;have j:=bind_some h;clear h;obtain ⟨cs,l,h⟩:=j;obtain ⟨rfl,rfl,rfl⟩:=aO h;obtain ⟨H,I,F,c⟩:=bV s c;rw [b.d_eq] at k;have k:=wF k;subst k;obtain ⟨a,q,r,_⟩:=lV _ qs.toList o.zero cs z.cells (oQ (size:=E.size) B) (nH b) l;refine ⟨rfl,.agg a,run_build w t qs a ?_, ?_⟩
  ·simp only [Program.built,b.info,b.und,b.zero,c.info];rw [← c.size];exact q
  ·simp only [VR];exact ⟨a.toList,by simp,r⟩
 ·cases h
end
end AM
namespace AM
open Go
section
variable {P:Program} {ap:AP} {g:bJ} {m:aH} {S:az} {w:World}
theorem uG {t:Nat} {k:TI} {i:TypeInfo} {d:TypeDesc} {z:Value} (b:uO P t k i d z) {v:AV} (h:nT k k.zero=some v):VR g m S v z:=by
 have f:=nH (g:=g) (m:=m) (S:=S) b;have e:=b.zagg;unfold nT at h;rw [b.d_eq,CE] at h;unfold ZW at e;rw [b.zero] at e;split at h
 ·rename_i a;cases h;cases d<;>simp [TypeDesc.isRow] at a<;>cases z<;>simp at e
  all_goals
   simp only [VR];exact ⟨_,rfl,by simpa [Value.cells] using f⟩
 ·rename_i a;split at h
  ·rename_i c l;cases h;have j:z.cells=#[z]:=by
    cases z<;>first|rfl|skip
    cases d<;>simp [TypeDesc.isRow] at a e
   rw [l,j] at f;simp only [aU] at f;exact f.1
  ·cases h
theorem Dc (p:dJ P ap) {x v:AV} {A:Value} (o:VR g m S x A) {asserted:Nat} {ok:Bool} {ups:List (Nat × aP)} {bs:List Bool} (h:EP ap x asserted ok=some (v,ups,bs)) (C:Nat):
  ups= []∧∃ cv,(Instr.typeAssert A C asserted ok).run P w= .ok cv w∧VR g m S v cv:=by
 unfold EP at h;have n:=bind_some h;clear h;obtain ⟨F,s,h⟩:=n;obtain ⟨i,d,z,f⟩:=bV p s;have a:∀ D,d ≠ .interface D:=by
  intro D e;subst e;rw [f.d_eq] at h;simp [iT] at h
 have key:∀ (c:Value),(∃ t u,c= .iface t u∧t ≠ asserted)∨c= .nilIface→∀ l,VR g m S l z→ok=true→(Instr.typeAssert c C asserted ok).run P w= .ok (.tuple #[z,.bool false]) w:=by
  intro c E l _ q;subst q;rcases E with ⟨t,u,rfl,k⟩|rfl
  ·cases d<;>first|exact absurd rfl (a _)|simp [Instr.typeAssert,run_underlying f.und,k,zeroValue,typeInfo,f.info,f.zero]
  ·cases d<;>first|exact absurd rfl (a _)|simp [Instr.typeAssert,run_underlying f.und,zeroValue,typeInfo,f.info,f.zero]
 split at h
 ·cases h
 ·split at h
  ·rename_i t u;simp only [VR] at o;obtain ⟨y,rfl,B⟩:=o;split at h
   ·rename_i j;have j:=aA j;subst j;obtain ⟨rfl,rfl,rfl⟩:=aO h;cases ok
    ·refine ⟨rfl,y, ?_,B⟩;cases d<;>first|exact absurd rfl (a _)|simp [Instr.typeAssert,run_underlying f.und]
    ·refine ⟨rfl,.tuple #[y,.bool true], ?_, ?_⟩
     ·cases d<;>first|exact absurd rfl (a _)|simp [Instr.typeAssert,run_underlying f.und]
     ·simp only [VR];exact ⟨[y,.bool true],rfl,by simp only [aU,VR,PR];exact ⟨B,trivial,trivial⟩⟩
   ·rename_i j;have k:t ≠ asserted:=by intro e;subst e;simp at j
    cases ok
    ·cases h
    ·simp only at h;have n:=bind_some h;clear h;obtain ⟨l,r,h⟩:=n;obtain ⟨rfl,rfl,rfl⟩:=aO h;have b:=uG (g:=g) (m:=m) (S:=S) f r;refine ⟨rfl,_,key _ (.inl ⟨_,_,rfl,k⟩) l b rfl, ?_⟩;simp only [VR];exact ⟨[z,.bool false],rfl,by simp only [aU,VR,PR];exact ⟨b,trivial,trivial⟩⟩
  ·simp only [VR,PR] at o;subst o;cases ok
   ·cases h
   ·simp only at h;have n:=bind_some h;clear h;obtain ⟨l,r,h⟩:=n;obtain ⟨rfl,rfl,rfl⟩:=aO h;have b:=uG (g:=g) (m:=m) (S:=S) f r;refine ⟨rfl,_,key _ (.inr rfl) l b rfl, ?_⟩;simp only [VR];exact ⟨[z,.bool false],rfl,by simp only [aU,VR,PR];exact ⟨b,trivial,trivial⟩⟩
  ·cases h
theorem pq (N:bf ap g m S w) {rd:bJ} (J:∀ b B,rd b=some B→g b=some B) {size:Nat} {x:AV} {O:Value} (i:VR g m S x O) {E:List AV} {n:Nat} {pr:Bool} (h:IY size rd x=some (E,n,pr)) (M:E.length=n*size)
  {tx:Nat} (hk:((∃ s,x= .str s)∧P.underlying tx=some .string∧size=1)∨((∀ s,x ≠ .str s)∧∃ e,P.underlying tx=some (.slice e))):
  ∃ news,Src P size tx O n news w∧aU g m S E news∧(pr=true→bi S E news):=by
 unfold IY at h;split at h
 ·rename_i U Z nn;cases h;obtain ⟨_,e,d⟩:=hk.resolve_left (by rintro ⟨⟨s,hs⟩,_⟩;cases hs);simp only [VR,PR] at i;obtain ⟨a,F,rfl,Y,q⟩:=i;rcases q with ⟨_,rfl,rfl,rfl⟩|⟨b,o,vs,rfl,hp,hs⟩
  ·cases a with
   |none=>exact ⟨[],Src.ofNil w d 0,by simp [aU],fun _=>by simp [bi]⟩
   |some p=>exact ⟨[],Src.ofSlice w d p 0 0 [] (by simp) (fun j u c=>by simp at c) (fun u C=>by simp at C),by simp [aU],fun _=>by simp [bi]⟩
  ·refine ⟨vs,Src.ofSlice w d ⟨b,o,none⟩ n F vs (by rw [← jE hp,M]) (fun j u c=>by rw [Addr.add_mid];exact N.one (hs j u c).1 (hs j u c).2) ?_,aZ _ hp,fun _=>hp⟩;intro u C;obtain ⟨j,c⟩:=List.getElem?_of_mem C;exact (hs j u c).2
 ·cases h;obtain ⟨_,e,d⟩:=hk.resolve_left (by rintro ⟨⟨s,hs⟩,_⟩;cases hs);simp only [VR,PR] at i;subst i;exact ⟨[],Src.ofNil w d 0,by simp [aU],fun _=>by simp [bi]⟩
 ·rename_i s;cases h;obtain ⟨_,d,G⟩:=hk.resolve_right (by rintro ⟨hs,_⟩;exact hs s rfl);simp only [VR,PR] at i;subst i;subst G;have hp:∀ s:List UInt8,bi S (s.map fun b=>AV.int .u8 b.toNat) (s.map fun b=>Value.int .u8 b.toNat):=by
   intro s
   induction s with
   |nil=>simp [bi]
   |cons a r ih=>simp only [φ,bi,PR];exact ⟨trivial,ih⟩
  have f:=Src.ofString (P:=P) w d ⟨s.toArray⟩;have X:byteCells ⟨s.toArray⟩=s.map fun b=>Value.int .u8 b.toNat:=by simp [byteCells]
  rw [X,wC] at f;exact ⟨_,f,aZ _ (hp s),fun _=>hp s⟩
 ·rename_i b ver j Z;have V:=bind_some h;clear h;obtain ⟨B,W,h⟩:=V;split at h
  ·rename_i l;cases h;simp only [δ,Xqi] at l;obtain ⟨l,y⟩:=l;have v:B.esz ≠ dN:=fun e=>by rw [e] at y;exact absurd y (by decide)
   obtain ⟨_,e,d⟩:=hk.resolve_left (by rintro ⟨⟨s,hs⟩,_⟩;cases hs);simp only [VR] at i;obtain ⟨B',z,_,_,q⟩:=i;have t:=J b B W;rw [t] at z;cases z;obtain ⟨o,rfl,q1,q2,q3⟩:=q (aA l.1);have H:=aA l.2;obtain ⟨cur,e',vs,rest,k,A,hp,I,K,Q⟩:=(N.blk b B t).lies;have k:=k.cells v;have K:=K v;have T:=aW I;have L:((vs.drop (j*size)).take (n*size)).length=n*size:=by
    rw [← aW (nG _ (qo _ I))];exact M
   by_cases hn:n=0
   ·subst hn;have R:(vs.drop (j*size)).take (0*size)= []:=by simp
    refine ⟨[], ?_, ?_, ?_⟩
    ·exact Src.ofSlice w d _ 0 _ [] (by simp) (fun _ _ h=>by simp at h) (fun _ h=>by simp at h)
    ·simp [aU]
    ·intro _;simp [bi]
   ·have D:=q2 (by omega);refine ⟨(vs.drop (j*size)).take (n*size),Src.ofSlice w d _ n _ _ L ?_ ?_,nG _ (qo _ I),fun pr=>jf _ (ny _ (hp pr))⟩
    ·intro jj u c;rw [D,Addr.add_mid,H,jh k,A];rw [Xq9] at c;split at c
     ·rw [List.getElem?_drop] at c;rw [Xqc (List.getElem?_eq_some_iff.1 c).1];exact c
     ·cases c
    ·intro u C;exact K u (Xjx (Xxt C))
  ·cases h
 ·cases h
theorem Eo:∀ (ns:List Int) (s:List UInt8),ns.foldl (fun (r:ByteArray) n=>r.push (π n.toNat)) ⟨s.toArray⟩=⟨(s++ns.map fun n=>π n.toNat).toArray⟩
 | [],s=>by simp
 |n::ns,s=>by
  simp only [Xqw];have e:(⟨s.toArray⟩:ByteArray).push (π n.toNat)=⟨(s++ [π n.toNat]).toArray⟩:=by simp [ByteArray.push]
  rw [e,Eo ns];simp
theorem zY (D:dJ P ap) (hS:bf ap g m S w) {rd:bJ} (M:∀ b B,rd b=some B→g b=some B) {s d:Nat} {V W:TI} (R:ap.tyAt s=some V) (L:ap.tyAt d=some W) {x v:AV} {N:Value} (G:VR g m S x N) {ups:List (Nat × aP)} {bs:List Bool}
  (h:zX ap V W rd x=some (v,ups,bs)) (hbs:∀ b ∈ bs,b=true):ups= []∧∃ cv,(convert s d N).run P w= .ok cv w∧VR g m S v cv:=by
 obtain ⟨i1,d1,z1,C⟩:=bV D R;obtain ⟨i2,d2,z2,F⟩:=bV D L;unfold zX at h;split at h
 ·rename_i k k' n I;obtain ⟨rfl,rfl,rfl⟩:=aO h;rw [F.d_eq] at I;have I:=Ti I;subst I;simp only [VR,PR] at G;subst G;exact ⟨rfl,_,by simp [convert,run_underlying C.und,run_underlying F.und,Conv.intToInt];rfl,by simp only [VR,PR]⟩
 ·rename_i s' j i;obtain ⟨rfl,rfl,rfl⟩:=aO h;rw [C.d_eq] at j;rw [F.d_eq] at i;have j:=uM j;have i:=uM i;subst j;subst i;simp only [VR,PR] at G;subst G;exact ⟨rfl,_,by simp [convert,run_underlying C.und,run_underlying F.und];rfl,by simp only [VR,PR]⟩
 ·rename_i x0 e j i;have J:=bind_some h;clear h;obtain ⟨te,t,h⟩:=J;obtain ⟨ie,de,ze,t⟩:=bV D t;split at h
  ·cases h
  ·rename_i Y xt xb u z;have J:=bind_some h;clear h;obtain ⟨⟨p,n,pr⟩,y,h⟩:=J;obtain ⟨rfl,rfl,rfl⟩:=aO h;obtain ⟨X,T⟩:=bK hbs;obtain ⟨T,_⟩:=bK T;rw [C.d_eq] at j;rw [F.d_eq] at i;have j:=eG j;have i:=uM i;subst j;subst i;rw [t.d_eq] at u;have u:=Ti u;subst u;have X:=aA X;obtain ⟨f,hs,Z,_⟩:=pq (P:=P) hS M G y (by omega) (tx:=s) (.inr ⟨fun s e=>z s e,e,C.und⟩);have E:f=(p.map AV.toInt).map (Value.int .u8):=by
    have:∀ (p:List AV) (f:List Value),aU g m S p f→p.all (chk (.int .u8))=true→f=(p.map AV.toInt).map (Value.int .u8):=by
     intro p
     induction p with
     |nil=>intro f h _;cases f<;>simp [aU] at h ⊢
     | cons a r ih=>
      intro f h H;cases f with
      |nil=>simp [aU] at h
      |cons c q=>
       simp only [aU] at h;simp only [Xxu,δ] at H;rw [φ,φ,ih q h.2 H.2];congr 1;cases a<;>simp [chk] at H
       simp only [VR,PR] at h;rw [h.1,dZ H.1];rfl
    exact this p f Z T
   refine ⟨rfl,.string ⟨((p.map AV.toInt).map fun n=>π n.toNat).toArray⟩, ?_, ?_⟩
   ·have hcells:=hs.cells;have A:=hs.len w;have o:=G;cases N
    case slice a l c=>
     have hl:l=n:=by simpa [Builtin.lenOf] using A
     subst hl;cases a with
     | none=>
      have O:f= []:=by simpa [Builtin.firstCells] using hcells.symm
      rw [O] at E;have K:p= []:=by
       have:(p.map AV.toInt).map (Value.int .u8)= []:=E.symm;simpa using this
      subst K;simp [convert,run_underlying C.und,run_underlying F.und,run_underlying t.und,Conv.bytesToString];rfl
     | some a=>
      have Q:(loadCells a l).run P w= .ok ((p.map AV.toInt).map (Value.int .u8)).toArray w:=by
       rw [← E];simpa [Builtin.firstCells] using hcells
      have U:=run_bytesToString (P:=P) w a l c _ Q;rw [show ByteArray.empty=⟨([]:List UInt8).toArray⟩ from rfl,Eo,θ] at U;simp only [convert,Sem.run_bind,run_underlying C.und,run_underlying F.und,run_underlying t.und,Result.andThen_ok];exact U
    all_goals (simp [Builtin.lenOf] at A)
    case string s0=>
     exfalso;cases Y<;>simp [IY] at y
     case str s1=>exact z s1 rfl
     case nilS=>simp only [VR,PR] at o;cases o
     case sl a b c=>simp only [VR,PR] at o;obtain ⟨_,_,h,_⟩:=o;cases h
     case ref a b c d=>simp only [VR] at o;obtain ⟨_,_,_,⟨_,_,_,h⟩,_⟩:=o;cases h
   ·simp only [VR,PR];simp [List.map_map,Function.comp_def]
  ·cases h
 ·cases h
end
end AM
namespace AM
open Go
def bH (g:bJ) (ups:List (Nat × aP)):bJ:=fun b=>match ah ups b with|some B=>some B|none=>g b
def setM (m:aH) (b:Nat) (x:Nat × Nat):aH:=fun c=>if c=b then x else m c
theorem eY {α:Type}:∀ (a b:List (Nat × α)) (t:Nat),ah (a++b) t=match ah a t with|some x=>some x|none=>ah b t
 | [],b,t=>rfl
 |(u,x)::r,b,t=>by
  simp only [Xqt,ah];split
  ·rfl
  ·exact eY r b t
theorem jd (ups:List (Nat × aP)) (hp:Hp):bH (ah hp) ups=ah (ups++hp):=by
 funext b;rw [eY];unfold bH;cases ah ups b<;>rfl
theorem dE (g:bJ):bH g []=g:=rfl
theorem jY (g:bJ) (b:Nat) (B:aP) (c:Nat):bH g [(b,B)] c=if c=b then some B else g c:=by
 simp only [bH,ah];by_cases h:c=b
 ·subst h;simp
 ·have:υ b c=false:=by
   cases a:υ b c with
   |false=>rfl
   |true=>exact absurd (aA a).symm h
  rw [this,if_neg h]
section
variable {P:Program} {ap:AP} {g:bJ} {m:aH} {S:az} {w:World}
theorem NQ.mono {g g':bJ} {m a:aH} {S S':az} {w w':World} {B:aP} {k c:Nat} (h:NQ g m S w B k c) (b:ig S S') (s:Ge g m g' a) (f:w'.heap[k]? =w.heap[k]?):NQ g' a S' w' B k c:=by
 obtain ⟨⟨cur,e,vs,rest,i,n,o,q,l,r⟩,d,j⟩:=h;exact ⟨⟨cur,e,vs,rest,i.same f,n,fun p=>aV b _ (o p),iw b s _ q,l,r⟩,d,j⟩
theorem bf.seal_lt (h:bf ap g m S w) {k o:Nat} {v:Value} (a:S k o=some v):k<w.heap.size:=GI (h.sealed k o v a)
theorem bf.put (h:bf ap g m S w) (b:Nat) (B:aP) (k c:Nat) {w':World}
  (i:w.heap.size≤k∨∃ B0,g b=some B0∧k=(m b).1) (hw:w.grownBy w' (some k)) (hblk:NQ g m S w' B k c)
  (hge:∀ B0,g b=some B0→B.esz=B0.esz∧((B.ver=B0.ver∧(k,c)=m b)∨B0.ver<B.ver))
  (hseal:∀ o v,S k o=some v→bW w' k o=some v∧B.fro=true∧o<B.fz)
  (hmw:MW w w':=by first|exact MW.refl _|exact MW.alloc _ _ _ _|exact MW.row _ _ _|exact MW.map0 _):
  bf ap (bH g [(b,B)]) (setM m b (k,c)) S w'∧Fr g m S w (bH g [(b,B)]) (setM m b (k,c)) S w':=by
 have s:Ge g m (bH g [(b,B)]) (setM m b (k,c)):=by
  intro f B1 p;by_cases e:f=b
  ·subst e;obtain ⟨a,j⟩:=hge B1 p;refine ⟨B,by rw [jY,if_pos rfl],a, ?_⟩;rcases j with ⟨j,C⟩|j
   ·exact .inl ⟨j,by simp [setM,C]⟩
   ·exact .inr j
  ·exact ⟨B1,by rw [jY,if_neg e];exact p,rfl,.inl ⟨rfl,by simp [setM,e]⟩⟩
 have t:∀ f B1,g f=some B1→f ≠ b→(m f).1 ≠ k:=by
  intro f B1 p A e;have r:=h.lt p;rcases i with i|⟨B0,n,i⟩
  ·omega
  ·exact A (h.inj f b B1 B0 p n (e.trans i))
 have l:∀ k0,k0<w.heap.size→k0 ≠ k→w'.heap[k0]? =w.heap[k0]? :=fun k0 r y=>hw.block k0 r (by simpa using y)
 constructor
 ·refine ⟨?_, ?_, ?_, ?_,h.glob⟩
  ·intro f z B1 B2 d x u;rw [jY] at d x;by_cases a:f=b<;>by_cases j:z=b
   ·rw [a,j]
   ·rw [if_neg j] at x;simp only [setM,a,if_true,if_neg j] at u;exact absurd u.symm (t z B2 x j)
   ·rw [if_neg a] at d;simp only [setM,j,if_true,if_neg a] at u;exact absurd u (t f B1 d a)
   ·rw [if_neg a] at d;rw [if_neg j] at x;simp only [setM,if_neg a,if_neg j] at u;exact h.inj f z B1 B2 d x u
  ·intro f B1 d;rw [jY] at d;by_cases a:f=b
   ·rw [if_pos a] at d;cases d;simp only [setM,if_pos a];exact hblk.mono (ig.refl S) s rfl
   ·rw [if_neg a] at d;simp only [setM,if_neg a];exact (h.blk f B1 d).mono (ig.refl S) s (l _ (h.lt d) (t f B1 d a))
  ·intro k0 o v q;by_cases e:k0=k
   ·subst e;exact (hseal o v q).1
   ·rw [Jq (l k0 (h.seal_lt q) e)];exact h.sealed k0 o v q
  ·intro f B1 d o v q;rw [jY] at d;by_cases a:f=b
   ·rw [if_pos a] at d;cases d;simp only [setM,if_pos a] at q;exact (hseal o v q).2
   ·rw [if_neg a] at d;simp only [setM,if_neg a] at q;exact h.own f B1 d o v q
 ·refine ⟨s,ig.refl S,hw.os,hw.tape,hw.output,hw.size, ?_, ?_,fun _ _ _ q=> .inl q,hmw.mb _ _⟩
  ·intro k0 r D;refine l k0 r (fun e=> ?_);subst e;rcases i with i|⟨B0,n,i⟩
   ·omega
   ·exact D b B0 n i.symm
  ·intro f B1 d;rw [jY] at d;by_cases a:f=b
   ·subst a;rcases i with i|⟨B0,n,i⟩
    ·exact .inl (by simpa [setM] using i)
    ·exact .inr ⟨B0,n,by simp [setM,i]⟩
   ·rw [if_neg a] at d;exact .inr ⟨B1,d,by simp [setM,a]⟩
end
mutual
theorem zD {g:bJ} {m:aH} {S:az}:∀ (x:AV) {v:Value},VR g m S x v→bZ x= []→PR S x v
 | .int _ _,_,p,_=>by simpa only [VR] using p
 | .bool _,_,p,_=>by simpa only [VR] using p
 | .str _,_,p,_=>by simpa only [VR] using p
 | .nilS,_,p,_=>by simpa only [VR] using p
 | .nilP,_,p,_=>by simpa only [VR] using p
 | .raw _,_,p,_=>by simpa only [VR] using p
 | .nilF,_,p,_=>by simpa only [VR] using p
 | .nilI,_,p,_=>by simpa only [VR] using p
 | .sl _ _ _,_,p,_=>by simpa only [VR] using p
 | .pp _ _,_,p,_=>by simpa only [VR] using p
 | .mp _ _,_,p,_=>by simpa only [VR] using p
 | .dead,_,_,_=>by simp only [PR]
 | .own _ _ _,_,p,_=>by simp only [VR] at p
 | .ref _ _ _ _,_,_,h=>by simp [bZ] at h
 | .ptr _ _ _,_,_,h=>by simp [bZ] at h
 | .mr _ _,_,_,h=>by simp [bZ] at h
 | .agg l,_,p,h=>by
  simp only [VR] at p;simp only [PR];simp only [bZ] at h;obtain ⟨vs,e,q⟩:=p;exact ⟨vs,e,dO l q h⟩
 | .tup l,_,p,h=>by
  simp only [VR] at p;simp only [PR];simp only [bZ] at h;obtain ⟨vs,e,q⟩:=p;exact ⟨vs,e,dO l q h⟩
 | .fn f a c,_,p,h=>by
  simp only [VR] at p;simp only [PR];simp only [bZ,Xx0] at h;obtain ⟨d,b,e,q,r⟩:=p;exact ⟨d,b,e,dO a q h.1,dO c r h.2⟩
 | .ifc t x,_,p,h=>by
  simp only [VR] at p;simp only [PR];simp only [bZ] at h;obtain ⟨u,e,q⟩:=p;exact ⟨u,e,zD x q h⟩
theorem dO {g:bJ} {m:aH} {S:az}:∀ (l:List AV) {vs:List Value},aU g m S l vs→bD l= []→bi S l vs
 | [],[],_,_=>by simp only [bi]
 |x::r,v::vs,p,h=>by simp only [aU] at p;simp only [bD,Xx0] at h;simp only [bi];exact ⟨zD x p.1 h.1,dO r p.2 h.2⟩
 | [],_::_,p,_=>by simp [aU] at p
 |_::_,[],p,_=>by simp [aU] at p
end
section
variable {P:Program} {ap:AP} {g:bJ} {m:aH} {S:az} {w:World}
theorem rH {α:Type} {l:List α} (h:l.isEmpty=true):l= []:=by cases l<;>simp at h ⊢
theorem bf.fresh (h:bf ap g m S w) {nid:Nat} (i:g nid=none) (B:aP) (j:B.esz ≠ dN) (c:Nat) {w':World} {cur:Array Value} {e:TypeId} (b:w.grownBy w' none) (a:w'.heap[w.heap.size]? =some (.cells cur e (0,0)))
  (hver:B.fro=false→B.fz=0) (hfz:B.fz≤B.cells.length) {vs rest:List Value} (hc:cur.toList=vs++rest) (hp:B.pr=true→bi S B.cells vs) (d:aU g m S B.cells vs) (h1:∀ u ∈ vs,u.oneCell'=true) (hcap:0<B.esz→cur.size=c*B.esz∧c≤maxLen)
  (hmw:MW w w':=by first|exact MW.refl _|exact MW.alloc _ _ _ _|exact MW.row _ _ _|exact MW.map0 _):
  bf ap (bH g [(nid,B)]) (setM m nid (w.heap.size,c)) S w'∧Fr g m S w (bH g [(nid,B)]) (setM m nid (w.heap.size,c)) S w':=by
 refine h.put (hmw:=hmw) nid B w.heap.size c (.inl (ζ _)) ⟨b.os,b.tape,b.output,b.size,fun k f _=>b.block k f (by simp)⟩ ⟨⟨cur,e,vs,rest,fU.of j a,hc,hp,d,fun _=>h1,fun h0 _=>hcap h0⟩,hver,hfz⟩ (fun B0 h0=>by rw [i] at h0;cases h0) ?_;intro o v d;have:=h.seal_lt d;omega
theorem DN (h:bf ap g m S w) {nid:Nat} (d:g nid=none) {cells:List AV} {cv:Value} (b:aU g m S cells cv.cells.toList) (_hl:∀ x ∈ cells,kH x=true) (c:∀ u ∈ cv.cells,u.oneCell'=true) (t:TypeId):
  ∃ m' w',(newVar t cv).run P w= .ok ⟨w.heap.size,0,none⟩ w'∧bf ap (bH g [jH nid cells 0]) m' S w'∧Fr g m S w (bH g [jH nid cells 0]) m' S w'∧(m' nid).1=w.heap.size:=by
 have a:=h.fresh (nid:=nid) d (jH nid cells 0).2 (by show 0 ≠ dN;decide) 0 (w':=w.alloc (.cells cv.cells t)) (cur:=cv.cells) (e:=t) (World.grownBy_alloc w _ none) (heap_alloc_new w _) (fun _=>rfl) (Xqr _) (vs:=cv.cells.toList) (rest:= []) (by simp)
  (fun hp=>dO _ b (rH hp)) b (fun u f=>c u (by simpa using f)) (fun h=>by simp [jH] at h)
 refine ⟨_,_, ?_,a.1,a.2,by simp [setM]⟩;simp [newVar,newRow]
theorem ML {b:aH} {nid:Nat} {cells:List AV} {a k:Nat} (c:(b nid).1=k):VR (bH g [jH nid cells a]) b S (.ptr nid 0 0) (.pointer (some ⟨k,0,none⟩)):=by
 simp only [VR];refine ⟨(jH nid cells a).2, ?_,Xqr _,⟨_,_,rfl⟩,fun _=>by rw [c]⟩;show bH g [(nid,(jH nid cells a).2)] nid=_;rw [jY,if_pos rfl]
theorem Gl (h:bf ap g m S w) {rd:bJ} (J:∀ b B,rd b=some B→g b=some B) {t:Nat} {O:TI} {i:TypeInfo} {d:TypeDesc} {z:Value} (Q:uO P t O i d z) {p x v:AV} {N c:Value} (hp:VR g m S p N) (Y:VR g m S x c)
  {ups:List (Nat × aP)} {bs:List Bool} (hs:Kv O rd p x=some (v,ups,bs)) (hbs:∀ b ∈ bs,b=true):
  v= .dead∧∃ m' w',(Instr.storeAt t N c).run P w= .ok () w'∧bf ap (bH g ups) m' S w'∧Fr g m S w (bH g ups) m' S w':=by
 unfold Kv at hs;split at hs
 ·rename_i b ver a;have U:=bind_some hs;clear hs;obtain ⟨B,V,hs⟩:=U;simp only at hs;split at hs
  ·rename_i L;simp only [δ,Xqi] at L;obtain ⟨⟨⟨⟨c1,c2⟩,X⟩,c4⟩,M⟩:=L;have l:B.esz ≠ dN:=fun e=>by rw [e] at M;exact absurd M (by decide)
   cases hs;have f:=J b B V;have F:=aA c1;have R:=aA X;have K:=dU (hbs _ (List.mem_singleton.2 rfl));simp only [VR] at hp;obtain ⟨B',D,_,_,q⟩:=hp;rw [f] at D;cases D;have q:=q F;subst q;obtain ⟨A,E⟩:=zI Y (fun y hy=>List.all_eq_true.1 c4 y hy);obtain ⟨⟨cur,e,vs,rest,k1,k2,k3,k4,k5,k6⟩,k7,k8⟩:=h.blk b B f;have k1:=k1.cells l;have k5:=k5 l;have s:=aW A;have T:=aW k4;have C:c.cells.size=i.size:=by simp only [Array.length_toList] at s;rw [← Q.size];omega
   have H:cur.toList.length=vs.length+rest.length:=by rw [k2];simp
   have G:=run_storeCells_at P (m b).1 a e c.cells.toList 0 cur w k1 (by simp only [Array.length_toList] at s H ⊢;omega) (fun u j=>E u (by simpa using j));simp only [Xqo] at G;have hnewl:(cur.toList.take a++c.cells.toList++cur.toList.drop (a+c.cells.toList.length))=(vs.take a++c.cells.toList++vs.drop (a+c.cells.toList.length))++rest:=by
    rw [k2,Xjm (by omega),Xzg (by omega)];simp [Δ]
   have n:=h.put b {B with cells:=dR B.cells a x.cells,pr:=B.pr && (bD x.cells).isEmpty} (m b).1 (m b).2 (w':=w.setRow (m b).1 (cur.toList.take a++c.cells.toList++cur.toList.drop (a+c.cells.toList.length)).toArray)
    (.inr ⟨B,f,rfl⟩) ⟨rfl,rfl,rfl,by simp,fun k _ hk=>setRow_other w _ k _ (fun e=>hk (by rw [e]))⟩
    ⟨⟨_,e,vs.take a++c.cells.toList++vs.drop (a+c.cells.toList.length),rest,fU.of l (setRow_heap w _ cur _ e _ k1),by rw [Xxz,hnewl],fun r=>by
      simp only [δ] at r;exact KA (k3 r.1) (dO _ A (rH r.2)),EO k4 A,by
      intro _ u j;rcases List.mem_append.1 j with j|j
      ·rcases List.mem_append.1 j with j|j
       ·exact k5 u (Xxt j)
       ·exact E u (by simpa using j)
      ·exact k5 u (Xjx j),fun I _=>by
      obtain ⟨Z,s2⟩:=k6 I l;refine ⟨?_,s2⟩;rw [← Z,Xqz];simp only [ξ,Xqn,Xq8,Array.length_toList] at s H ⊢;omega⟩,k7,by
     have:(dR B.cells a x.cells).length=B.cells.length:=by simp only [dR,ξ,Xqn,Xq8];omega
     simp only [this];exact k8⟩
    (fun B0 h0=>by rw [f] at h0;cases h0;exact ⟨rfl,.inl ⟨rfl,rfl⟩⟩)
    (fun o v W=>by
     have:=(h.own b B f o v W).1;rw [c2] at this;cases this)
   refine ⟨rfl,_,_, ?_,n.1,n.2⟩;have hn:¬ (c.cells.size ≠ i.size):=by simp [C]
   simp [Instr.storeAt,Instr.sureAddr,storeVar,Go.sizeOf,typeInfo,Q.info,C,G]
  ·cases hs
 ·cases hs
end
end AM
namespace AM
open Go
section
variable {P:Program} {ap:AP} {g:bJ} {m:aH} {S:az} {w:World}
theorem jL (g:bJ) (b:Nat) (B:aP):bH g [(b,B)] b=some B:=by rw [jY,if_pos rfl]
theorem Ap {w w':World} (h:w.grownBy w' none) (r:Option Nat):w.grownBy w' r:=⟨h.os,h.tape,h.output,h.size,fun k a _=>h.block k a (by simp)⟩
theorem kV (w:World) (o:Obj):w.grownBy (w.drew.alloc o) none:=⟨rfl,rfl,rfl,by simp,fun k a _=>Go.RowKit.Below.heap_alloc w.drew o k a⟩
theorem sO {t tx ty e:TypeId} {i:TypeInfo} (d:P.underlying t=some (.slice e)) (c:P.info? e=some i) {x:Value} {a:List Value} (hs:Src P i.size tx x 0 a w):
  (Builtin.append_ #[t,tx] ty #[.slice none 0 0,x]).run P w= .ok (.slice none 0 0) w:=by
 rcases hs.kind with ⟨e',b⟩|b<;>simp [Builtin.append_,run_underlying d,run_underlying b,Go.sizeOf,typeInfo,c,hs.len,hs.cells]
theorem sQ {t tx ty e:TypeId} {i:TypeInfo} (h:P.underlying t=some (.slice e)) (d:P.info? e=some i) {k o sLen sCap n:Nat} {x:Value} {a:List Value} (hs:Src P i.size tx x n a w) (hroom:sLen+n≤sCap)
  {cur:Array Value} {e':TypeId} (hk:w.heap[k]? =some (.cells cur e' (0,0))) (hfit:o+sLen*i.size+a.length≤cur.size):
  (Builtin.append_ #[t,tx] ty #[.slice (some ⟨k,o,none⟩) sLen sCap,x]).run P w= .ok (.slice (some ⟨k,o,none⟩) (sLen+n) sCap) (w.setRow k (cur.toList.take (o+sLen*i.size)++a++cur.toList.drop (o+sLen*i.size+a.length)).toArray):=by
 have c:=run_storeCells_at P k (o+sLen*i.size) e' a 0 cur w hk (by simpa using hfit) hs.one;simp only [Xqo] at c;rcases hs.kind with ⟨f,b⟩|b<;>simp [Builtin.append_,run_underlying h,run_underlying b,Go.sizeOf,typeInfo,d,hs.len,hroom,hs.cells,Addr.add_mid,c]
theorem Iz (b:Nat):Et b≤IA:=by
 unfold Et;split
 ·exact ζ _
 ·decide
theorem xK {n a bytes tb:Nat} (h:a<n) (b:n≤Et tb) (c:bytes=tb) (f:bytes≤256):Builtin.nextslicecap n a*bytes≤281474976710656:=by
 refine growslice_fits h ?_;subst c;unfold Et at b;split at b
 ·rename_i d;have i:=Nat.le_of_ble_eq_true d;have:n*bytes≤IA*128:=Xwv b i;have e:IA*128=140737488355328:=by decide
  omega
 ·have:n*bytes≤549755813888*256:=Xwv b f;omega
theorem wo:IA=1099511627776:=by decide
theorem yN {t tx ty e:TypeId} {i:TypeInfo} (d:P.underlying t=some (.slice e)) (c:P.info? e=some i) {x:Value} {base:Option Addr} {sLen sCap:Nat} (hs:Src P i.size tx x 0 [] w) (f:sLen≤sCap):
  (Builtin.append_ #[t,tx] ty #[.slice base sLen sCap,x]).run P w= .ok (.slice base sLen sCap) w:=by
 cases base with
 |none=>rcases hs.kind with ⟨e',b⟩|b<;>simp [Builtin.append_,run_underlying d,run_underlying b,Go.sizeOf,typeInfo,c,hs.len,hs.cells,f]
 |some a=>rcases hs.kind with ⟨e',b⟩|b<;>simp [Builtin.append_,run_underlying d,run_underlying b,Go.sizeOf,typeInfo,c,hs.len,hs.cells,f,storeCells]
theorem sZ (h:bf ap g m S w) {rd:bJ} (M:∀ b B,rd b=some B→g b=some B) {nid:Nat} (hn:g nid=none) {t tx e:Nat} {ti p:TI} {i F:TypeInfo} {z O:Value} {de:TypeDesc} (ht:uO P t ti i (.slice e) z) (r:uO P e p F de O)
  {s x v:AV} {cs cx:Value} (hvs:VR g m S s cs) (hvx:VR g m S x cx)
  (hk:((∃ s,x= .str s)∧P.underlying tx=some .string∧p.size=1)∨((∀ s,x ≠ .str s)∧∃ e,P.underlying tx=some (.slice e)))
  {em:Bool} (Q:s= .nilS→∃ n,uo x=some n∧υ n 0=em)
  {ups:List (Nat × aP)} {bs:List Bool} (E:uT nid p rd em s x=some (v,ups,bs)) (y:∀ b ∈ bs,b=true) (ty:Nat):
  ∃ cv m' w',(Builtin.append_ #[t,tx] ty #[cs,cx]).run P w= .ok cv w'∧bf ap (bH g ups) m' S w'∧Fr g m S w (bH g ups) m' S w'∧VR (bH g ups) m' S v cv:=by
 have hcount:∀ L n pr,IY p.size rd x=some (L,n,pr)→uo x=some n:=by
  intro L n pr a;unfold IY at a;split at a
  ·cases a;rfl
  ·cases a;rfl
  ·cases a;rfl
  ·have hq:=bind_some a;clear a;obtain ⟨B,hB,a⟩:=hq;split at a
   ·cases a;rfl
   ·cases a
  ·cases a
 unfold uT at E;have hq:=bind_some E;clear E;obtain ⟨⟨L,n,pr⟩,a,E⟩:=hq;simp only at E;split at E
 ·cases E
 ·rename_i X;simp only [δ] at X;have hsz:=dV X.1;have hby:=dU X.2;have d:p.size=F.size:=r.size;have R:p.size ≠ dN:=fun e=>by have:=r.small;omega
  have hby':p.bytes=F.bytes:=r.bytes;have hzs:O.cells.size=F.size:=r.zsize;split at E
  ·
   obtain ⟨n',hc',Q⟩:=Q rfl;rw [hcount _ _ _ a] at hc';cases hc';simp only [VR,PR] at hvs;subst hvs;split at E
   ·
    obtain ⟨rfl,rfl,rfl⟩:=aO E;have N:n=0:=aA Q;subst N;have hl:=aA (y _ (List.mem_singleton.2 rfl));obtain ⟨c,hs,hv,hp⟩:=pq (P:=P) h M hvx a hl hk;rw [d] at hs;exact ⟨_,m,w,sO ht.und r.info hs,by rw [dE];exact h,by rw [dE];exact Fr.refl _ _ _ _,by simp [VR,PR]⟩
   ·
    cases E;obtain ⟨b1,y⟩:=bK y;obtain ⟨b2,_⟩:=bK y;have hl:=aA b1;have hroomB:=dU b2;have hroom:=Xqg hroomB (Iz _);have N:n ≠ 0:=by intro e;subst e;simp at Q
    obtain ⟨c,hs,hv,hp⟩:=pq (P:=P) h M hvx a hl hk;rw [d] at hs;have f:=run_append_grow_src w t tx ty e F O ht.und r.info r.zero none 0 0 [] (run_firstCells_none w.drew _ _ _ _) cx n c hs (by omega) (by rw [wo] at hroom;omega) (xK (by omega) (by simpa using hroomB) (by omega) (by omega));have V:n≤grownCap w n 0 e:=grownCap_ge _ _ _ _;have Y:grownCap w n 0 e≤maxLen:=grownCap_le_maxLen _ _ _ _ (by rw [wo] at hroom;simp only [maxLen];omega);simp only [Θ] at f;have hf:=h.fresh (nid:=nid) hn ⟨L,0,false,0,p.size,pr⟩ R (grownCap w n 0 e) (cur:=([]++c).toArray++Builtin.zeroCells O.cells (grownCap w n 0 e - n)) (e:=e) (kV w _) (heap_alloc_new w.drew _) (fun _=>rfl) (Xqr _)
     (vs:=c) (rest:=(Builtin.zeroCells O.cells (grownCap w n 0 e - n)).toList) (by simp) hp hv hs.one (fun _=> ⟨by
      simp only [Array.size_append,Xqz,θ,size_zeroCells,hs.newsLen,hzs,d];rw [← Xx5];congr 1;omega,Y⟩)
    refine ⟨_,_,_,f,hf.1,hf.2, ?_⟩;simp only [VR];refine ⟨_,jL _ _ _,ζ _,⟨_,_,_,rfl⟩,fun _=> ⟨0, ?_, ?_, ?_,hsz,R⟩⟩
    ·simp [setM]
    ·simpa [setM] using V
    ·simp
  ·rename_i b ver mN;have hq:=bind_some E;clear E;obtain ⟨B,hB,E⟩:=hq;split at E
   ·rename_i G;simp only [δ,Xqi] at G;have hver:=aA G.1.1;have T:=aA G.1.2;have A:B.esz ≠ dN:=fun e=>by rw [e] at G;exact absurd G.2 (by decide)
    cases E;obtain ⟨b1,y⟩:=bK y;obtain ⟨b2,y⟩:=bK y;obtain ⟨b3,y⟩:=bK y;obtain ⟨b4,_⟩:=bK y;have hl:=aA b1;have hroomB:=dU b2;have hroom:=Xqg hroomB (Iz _);have hfit:=dU b3;have D:=M b B hB;simp only [VR] at hvs;obtain ⟨B',hB',_,_,q⟩:=hvs;rw [D] at hB';cases hB';obtain ⟨o,rfl,hcap,ho,H,hnz1⟩:=q hver;simp only [Θ,Nat.sub_zero,Nat.zero_mul] at hcap ho ⊢;obtain ⟨c,hs,hv,hp⟩:=pq (P:=P) h M hvx a hl hk;rw [d] at hs;have hbk:=h.blk b B D;obtain ⟨⟨cur,e',vs,rest,k1,k2,k3,k4,k5,k6⟩,k7,k8⟩:=hbk;have k1:=k1.cells A;have k5:=k5 A;obtain ⟨s1,s2⟩:=k6 H A;have hvl:=aW k4;have hcl:cur.toList.length=vs.length+rest.length:=by rw [k2];simp
    simp only [Array.length_toList] at hcl;have hfz:B.fz≤mN*p.size:=by
     cases hf:B.fro with
     |false=>rw [k7 hf];exact Xqr _
     |true=>simp [hf] at b4;exact dU (by simpa using b4)
    have holds:bi S (B.cells.take (mN*p.size)) (vs.take (mN*p.size))∨B.pr=false:=by
     cases hp:B.pr with
     |false=>exact .inr rfl
     |true=>exact .inl (jf _ (k3 hp))
    have I:(vs.take (mN*p.size)).length=mN*F.size:=by rw [Xqn,d] at*;omega
    have Z:aU g m S (B.cells.take (mN*p.size)++L) (vs.take (mN*p.size)++c):=fC (nG _ k4) hv;have U:(B.pr && pr)=true→bi S (B.cells.take (mN*p.size)++L) (vs.take (mN*p.size)++c):=by
     intro hh;simp only [δ] at hh;exact iK (jf _ (k3 hh.1)) (hp hh.2)
    have h1:∀ u ∈ vs.take (mN*p.size)++c,u.oneCell'=true:=by
     intro u C;rcases List.mem_append.1 C with C|C
     ·exact k5 u (Xxt C)
     ·exact hs.one u C
    have J:B.fz≤(B.cells.take (mN*p.size)++L).length:=by
     rw [ξ,Xqn];omega
    by_cases hrm:mN+n≤(m b).2
    ·
     by_cases hc0:(m b).2=0
     ·have hm0:mN=0:=by omega
      have N:n=0:=by omega
      subst hm0;subst N;have hnews:c= []:=by have:=hs.newsLen;simpa using this
      subst hnews;have f:=yN (P:=P) (w:=w) (ty:=ty) (base:=some ⟨(m b).1,o,none⟩) (sLen:=0) (sCap:=(m b).2) ht.und r.info hs (by omega);have l:=h.put b {B with cells:=B.cells.take (0*p.size)++L,ver:=ver+1,pr:=B.pr && pr} (m b).1 (m b).2 (w':=w) (.inr ⟨B,D,rfl⟩) ⟨rfl,rfl,rfl,ζ _,fun _ _ _=>rfl⟩
       ⟨⟨cur,e',_,vs.drop (0*p.size)++rest,fU.of A k1,by rw [k2];simp,U,Z,fun _=>h1,k6⟩,k7,J⟩ (fun B0 h0=>by rw [D] at h0;cases h0;exact ⟨rfl,.inr (by simp only;omega)⟩)
       (fun o' u C=> ⟨h.sealed _ _ _ C,(h.own b B D o' u C)⟩)
      refine ⟨_,_,_,f,l.1,l.2, ?_⟩;simp only [VR];refine ⟨_,jL _ _ _,ζ _,⟨_,_,_,rfl⟩,fun _=> ⟨o,by simp [setM],by simp,by simp [setM,hc0],H,A⟩⟩
     ·have W:o=0:=ho (by omega);subst W;have hnl:=hs.newsLen;have hbig:mN*F.size+n*F.size≤(m b).2*F.size:=by rw [← Xx5];exact Nat.mul_le_mul_right _ hrm
      have hcs:cur.size=(m b).2*F.size:=by rw [s1,T,d]
      have f:=sQ (P:=P) (w:=w) (ty:=ty) (o:=0) ht.und r.info hs hrm k1 (by simp only [Θ];omega);simp only [Θ] at f;have hlist:cur.toList.take (mN*F.size)=vs.take (mN*p.size):=by rw [k2,d,Xjm (by rw [d] at hfit;omega)]
      have l:=h.put b {B with cells:=B.cells.take (mN*p.size)++L,ver:=ver+1,pr:=B.pr && pr} (m b).1 (m b).2 (w':=w.setRow (m b).1 (cur.toList.take (mN*F.size)++c++cur.toList.drop (mN*F.size+c.length)).toArray)
       (.inr ⟨B,D,rfl⟩) ⟨rfl,rfl,rfl,by simp,fun k _ hk=>setRow_other w _ k _ (fun e=>hk (by rw [e]))⟩
       ⟨⟨_,e',_,cur.toList.drop (mN*F.size+c.length),fU.of A (setRow_heap w _ cur _ e' _ k1),by rw [hlist],U,Z,fun _=>h1,fun _ _=> ⟨by
        rw [← s1,Xqz];simp only [ξ,Xqn,Xq8,Array.length_toList];omega,s2⟩⟩,k7,J⟩ (fun B0 h0=>by rw [D] at h0;cases h0;exact ⟨rfl,.inr (by simp only;omega)⟩)
       (fun o' u C=>by
        obtain ⟨f1,f2⟩:=h.own b B D o' u C;refine ⟨?_,f1,f2⟩;have:=h.sealed _ _ _ C;cases K:u.oneCell' with
        |false=>
         obtain ⟨_,_,hm,_⟩:=rE this K;rw [k1] at hm;cases hm
        |true=>
        have this:=rF this K;rw [jh k1] at this;refine (fU.of A (setRow_heap w _ cur _ e' _ k1)).get ?_ (fun _=>K);simp only [Δ];rw [Xqc (by simp only [Xqn,Array.length_toList];rw [d] at hfz;omega),List.getElem?_take_of_lt (by rw [d] at hfz;omega)];exact this)
      refine ⟨_,_,_,f,l.1,l.2, ?_⟩;simp only [VR];refine ⟨_,jL _ _ _,ζ _,⟨_,_,_,rfl⟩,fun _=> ⟨0,by simp [setM],by simpa [setM] using hrm,by simp,H,A⟩⟩
    ·
     have hold:(Builtin.firstCells F.size mN (.slice (some ⟨(m b).1,o,none⟩) mN (m b).2)).run P w.drew= .ok (vs.take (mN*p.size)).toArray w.drew:=by
      refine run_firstCells_some w.drew F.size mN ⟨(m b).1,o,none⟩ mN _ _ I ?_;intro j u C;have hjl:=(List.getElem?_eq_some_iff.1 C).1;rw [I] at hjl;have hm0:0<mN:=by
       rcases Xq1 mN with h0|h0
       ·subst h0;simp at hjl
       ·exact h0
      have W:o=0:=ho (by omega);subst W;rw [Addr.add_mid,Θ,jh (w:=w.drew) (j:=j) k1,k2];rw [Xq9] at C;split at C
      ·rw [Xqc (List.getElem?_eq_some_iff.1 C).1];exact C
      ·cases C
     have f:=run_append_grow_src w t tx ty e F O ht.und r.info r.zero (some ⟨(m b).1,o,none⟩) mN (m b).2 _ hold cx n c hs (by omega) (by rw [wo] at hroom;omega) (xK (by omega) hroomB (by omega) (by omega));have V:mN+n≤grownCap w (mN+n) (m b).2 e:=grownCap_ge _ _ _ _;have Y:grownCap w (mN+n) (m b).2 e≤maxLen:=grownCap_le_maxLen _ _ _ _ (by rw [wo] at hroom;simp only [maxLen];omega);have l:=h.put b {B with cells:=B.cells.take (mN*p.size)++L,ver:=ver+1,pr:=B.pr && pr} w.heap.size (grownCap w (mN+n) (m b).2 e) (.inl (ζ _))
      (Ap (kV w (.cells ((vs.take (mN*p.size)++c).toArray++Builtin.zeroCells O.cells (grownCap w (mN+n) (m b).2 e - (mN+n))) e)) _)
      ⟨⟨(vs.take (mN*p.size)++c).toArray++Builtin.zeroCells O.cells (grownCap w (mN+n) (m b).2 e - (mN+n)),e,_,(Builtin.zeroCells O.cells (grownCap w (mN+n) (m b).2 e - (mN+n))).toList,fU.of A (heap_alloc_new w.drew _),by simp,U,Z,fun _=>h1,fun _ _=> ⟨by
       simp only [Array.size_append,Xqz,ξ,size_zeroCells,hs.newsLen,hzs];rw [I,T,d,← Xx5,← Xx5];congr 1;omega,Y⟩⟩,k7,J⟩ (fun B0 h0=>by rw [D] at h0;cases h0;exact ⟨rfl,.inr (by simp only;omega)⟩)
      (fun o' u C=>absurd (h.seal_lt C) (Xjh _))
     refine ⟨_,_,_,f,l.1,l.2, ?_⟩;simp only [VR];refine ⟨_,jL _ _ _,ζ _,⟨_,_,_,rfl⟩,fun _=> ⟨0,by simp [setM],by simpa [setM] using V,by simp,H,A⟩⟩
   ·cases E
  ·cases E
end
end AM
namespace AM
open Go
theorem yx (n:Nat) (z:List AV):(gG n z).length=n*z.length:=by simp [gG]
theorem Ep (n:Nat) (z:List AV):gG (n+1) z=z++gG n z:=by simp [gG,Xzp]
theorem Iy:∀ (n:Nat) (z:List AV) (i:Nat),i<n*z.length→(gG n z)[i]? =z[i % z.length]?
 |0,z,i,h=>by simp at h
 | n+1,z,i,h=>by
  rw [Ep];by_cases a:i<z.length
  ·rw [Xqc a,Nat.mod_eq_of_lt a]
  ·have a:z.length≤i:=by omega
   rw [List.getElem?_append_right a,Iy n z (i - z.length) (by rw [Xx5,Nat.one_mul] at h;omega)];congr 1;rw [← Nat.mod_eq_sub_mod a]
section
variable {P:Program} {ap:AP} {g:bJ} {m:aH} {S:az} {w:World}
theorem zH:∀ {l:List AV} {vs:List Value},l.length=vs.length→(∀ (i:Nat) x v,l[i]? =some x→vs[i]? =some v→VR g m S x v)→aU g m S l vs
 | [],[],_,_=>by simp [aU]
 |x::r,v::vs,hl,h=>by
  simp only [aU];exact ⟨h 0 x v rfl rfl,zH (by simpa using hl) fun i x v b a=>h (i+1) x v (by simpa using b) (by simpa using a)⟩
 | [],_::_,h,_=>by simp at h
 |_::_,[],h,_=>by simp at h
theorem xe (z:Array Value) (n:Nat):(madeCells z n).toList=(List.range n).map fun i=>z[i % z.size]! :=by simp [madeCells]
theorem mV {t:Nat} {k:TI} {i:TypeInfo} {d:TypeDesc} {z:Value} (f:uO P t k i d z) (n:Nat):aU g m S (gG n k.zero) (madeCells z.cells (n*i.size)).toList:=by
 have o:=nH (g:=g) (m:=m) (S:=S) f;have a:=aW o;simp only [Array.length_toList,f.zsize] at a;refine zH (by rw [yx,a,Array.length_toList,size_madeCells]) ?_;intro j x v l e;have c:j<n*i.size:=by
  have:=(List.getElem?_eq_some_iff.1 l).1;rw [yx,a] at this;exact this
 rw [Iy n k.zero j (by rw [a];exact c),a] at l;rw [xe,f.zsize,Ξ,List.getElem?_range c] at e;simp only [Xqu,Option.some.injEq] at e;obtain ⟨q,b,p⟩:=oq o _ l;have hm:j % i.size<z.cells.size:=by rw [f.zsize];exact Nat.mod_lt _ (by
  rcases Xq1 i.size with h|h
  ·rw [h,Nat.mul_zero] at c;exact absurd c (Nat.not_lt_zero _)
  ·exact h)
 simp only [Array.getElem?_toList] at b;rw [getElem!_pos z.cells _ hm] at e;rw [Array.getElem?_eq_getElem hm] at b;cases b;rw [← e];exact p
theorem xy {n:Nat} {z:List AV} (h:∀ x ∈ z,kH x=true):∀ x ∈ gG n z,kH x=true:=by
 intro x a;simp only [gG,List.mem_flatten,List.mem_replicate] at a;obtain ⟨l,⟨_,rfl⟩,a⟩:=a;exact h x a
theorem uS:∀ {l:List AV} {vs:List Value},aU g m S l vs→(∀ x ∈ l,kH x=true)→∀ u ∈ vs,u.oneCell'=true
 | [],[],_,_=>by simp
 |x::r,v::vs,h,hl=>by
  simp only [aU] at h;intro u a;rcases List.mem_cons.1 a with rfl|a
  ·exact Jh h.1 (hl x (by simp))
  ·exact uS h.2 (fun y b=>hl y (by simp [b])) u a
 | [],_::_,h,_=>by simp [aU] at h
 |_::_,[],h,_=>by simp [aU] at h
theorem FN {b vs:List AV} {a:Nat} {x:AV} (h:x ∈ dR b a vs):x ∈ b∨x ∈ vs:=by
 simp only [dR,List.mem_append] at h;rcases h with (h|h)|h
 ·exact .inl (Xxt h)
 ·exact .inr h
 ·exact .inl (Xjx h)
theorem Af:∀ {ps:List (Nat × Nat × AV)} {cells cells':List AV},tJ cells ps=some cells'→(∀ x ∈ cells,kH x=true)→∀ x ∈ cells',kH x=true
 | [],cells,cells',h,hl=>by simp [tJ] at h;subst h;exact hl
 | (off,size,v)::r,cells,cells',h,hl=>by
  simp only [tJ] at h;split at h
  ·rename_i b;simp only [δ] at b;refine Af h fun x a=> ?_
   rcases FN a with a|a
   ·exact hl x a
   ·exact List.all_eq_true.1 b.2 x a
  ·cases h
theorem Va {nid:Nat} {cells:List AV} {a k c n:Nat} (b:n≤c) (hp:0<a) (d:a ≠ dN):VR (bH g [jH nid cells a]) (setM m nid (k,c)) S (.ref nid 0 0 n) (.slice (some ⟨k,0,none⟩) n c):=by
 simp only [VR];refine ⟨_,jL _ _ _,Xqr _,⟨_,_,_,rfl⟩,fun _=> ⟨0,by simp [setM],by simpa [setM] using b,by simp,hp,d⟩⟩
theorem Rq {nid:Nat} {cells:List AV} {a k c n:Nat} {p:Bool} (b:n≤c) (hp:0<a) (d:a ≠ dN):VR (bH g [(nid,⟨cells,0,false,0,a,p⟩)]) (setM m nid (k,c)) S (.ref nid 0 0 n) (.slice (some ⟨k,0,none⟩) n c):=by
 simp only [VR];refine ⟨_,jL _ _ _,Xqr _,⟨_,_,_,rfl⟩,fun _=> ⟨0,by simp [setM],by simpa [setM] using b,by simp,hp,d⟩⟩
theorem oZ:∀ (a b:List AV),bD (a++b)=bD a++bD b
 | [],b=>by simp [bD]
 |x::r,b=>by simp [bD,oZ r b]
theorem xx (z:List AV) (h:bD z= []):∀ n,bD (gG n z)= []
 |0=>by simp [gG,bD]
 |n+1=>by
  have a:=xx z h n;simp only [gG,Xzp,List.flatten_cons,oZ,h,θ] at a ⊢;exact a
theorem EZ (h:bf ap g m S w) {rd:bJ} (M:∀ b B,rd b=some B→g b=some B) {t e:Nat} {ti a:TI} {i O:TypeInfo} {z J:Value} {de:TypeDesc} (V:uO P t ti i (.slice e) z) (c:uO P e a O de J) {x v:AV} {cx:Value} (K:VR g m S x cx)
  {ups:List (Nat × aP)} {bs:List Bool} (l:Jv a rd x=some (v,ups,bs)) (hbs:∀ b ∈ bs,b=true) (ats:Array TypeId) (hat:ats[0]? =some t) (args:Array Value) (harg:args[0]? =some cx) (ty:TypeId):
  ∃ m' w',(Builtin.clear_ ats ty args).run P w= .ok (.tuple #[]) w'∧bf ap (bH g ups) m' S w'∧Fr g m S w (bH g ups) m' S w'∧v= .tup []:=by
 unfold Jv at l;split at l
 ·obtain ⟨rfl,rfl,rfl⟩:=aO l;simp only [VR,PR] at K;subst K;exact ⟨m,w,by simp [Builtin.clear_,hat,harg,run_underlying V.und],by rw [dE];exact h,by rw [dE];exact Fr.refl _ _ _ _,rfl⟩
 ·rename_i b ver j n;have hq:=bind_some l;clear l;obtain ⟨B,hB,l⟩:=hq;split at l
  ·rename_i F;simp only [δ,Xqi] at F;obtain ⟨⟨⟨⟨c1,c2⟩,c3⟩,c4⟩,c5⟩:=F;cases l;have d:=M b B hB;have G:=aA c1;have f:=aA c3;have hfit:=dU (hbs _ (List.mem_singleton.2 rfl));have r:B.esz ≠ dN:=by have h1:=c.small;have h2:=c.size;omega
   simp only [VR] at K;obtain ⟨B',E,_,_,q⟩:=K;rw [d] at E;cases E;obtain ⟨o,rfl,hjn,W,Z,_⟩:=q G;have A:aU g m S (gG n a.zero) (madeCells J.cells (n*O.size)).toList:=mV c n;have T:∀ x ∈ gG n a.zero,kH x=true:=xy c.zleaf;have C:=uS A T;have Y:bD (gG n a.zero)= []:=xx _ (by simpa using c5) _;have p:=aW A;have I:(gG n a.zero).length=n*a.size:=by rw [p,Array.length_toList,size_madeCells,c.size]
   obtain ⟨⟨cur,L,vs,rest,k1,k2,k3,k4,k5,k6⟩,k7,k8⟩:=h.blk b B d;have k1:=k1.cells r;have k5:=k5 r;have hvl':=aW k4;have H:cur.toList.length=vs.length+rest.length:=by rw [k2];simp
   generalize N:(madeCells J.cells (n*O.size)).toList=zs at A C p;have R:zs.length=n*a.size:=by rw [← p,I]
   have X:(Builtin.zeroCells J.cells n).toList=zs:=by rw [← N,← c.zsize];rfl
   have D:=run_storeCells_at P (m b).1 (j*a.size) L zs 0 cur w k1 (by simp only [Array.length_toList] at H;omega) C;simp only [Xqo] at D;have hnewl:(cur.toList.take (j*a.size)++zs++cur.toList.drop (j*a.size+zs.length))=(vs.take (j*a.size)++zs++vs.drop (j*a.size+zs.length))++rest:=by
    rw [k2,Xjm (by omega),Xzg (by omega)];simp [Δ]
   have y:=h.put b {B with cells:=dR B.cells (j*a.size) (gG n a.zero)} (m b).1 (m b).2 (w':=w.setRow (m b).1 (cur.toList.take (j*a.size)++zs++cur.toList.drop (j*a.size+zs.length)).toArray)
    (.inr ⟨B,d,rfl⟩) ⟨rfl,rfl,rfl,by simp,fun k _ hk=>setRow_other w _ k _ (fun e=>hk (by rw [e]))⟩
    ⟨⟨_,L,vs.take (j*a.size)++zs++vs.drop (j*a.size+zs.length),rest,fU.of r (setRow_heap w _ cur _ L _ k1),by rw [Xxz,hnewl],fun U=>KA (k3 U) (dO _ A Y),EO k4 A,by
      intro _ u s;rcases List.mem_append.1 s with s|s
      ·rcases List.mem_append.1 s with s|s
       ·exact k5 u (Xxt s)
       ·exact C u s
      ·exact k5 u (Xjx s),fun f _=>by
      obtain ⟨s1,s2⟩:=k6 f r;refine ⟨?_,s2⟩;rw [← s1,Xqz];simp only [ξ,Xqn,Xq8,Array.length_toList] at p H ⊢;omega⟩,k7,by
     have:(dR B.cells (j*a.size) (gG n a.zero)).length=B.cells.length:=by simp only [dR,ξ,Xqn,Xq8];omega
     simp only [this];exact k8⟩
    (fun B0 h0=>by rw [d] at h0;cases h0;exact ⟨rfl,.inl ⟨rfl,rfl⟩⟩)
    (fun o v A=>by
     have:=(h.own b B d o v A).1;rw [c2] at this;cases this)
   refine ⟨_,_, ?_,y.1,y.2,rfl⟩;by_cases hn:n=0
   ·subst hn;have Q:zs= []:=List.eq_nil_of_length_eq_zero (by simpa using R);subst Q;have hsame:w.setRow (m b).1 (cur.toList.take (j*a.size)++ []++cur.toList.drop (j*a.size+([]:List Value).length)).toArray=w:=by
     simp only [ο,List.length_nil,Xqo,List.take_append_drop,Array.toArray_toList];exact setRow_self w _ cur L (0,0) k1
    rw [hsame];simp [Builtin.clear_,hat,harg,run_underlying V.und]
   ·have W:=W (by omega);subst W;rw [f] at harg;cases n with
    |zero=>exact absurd rfl hn
    |succ n=>simp [Builtin.clear_,hat,harg,run_underlying V.und,zeroValue,typeInfo,c.info,c.zero,X,D,Result.andThen]
  ·cases l
 ·cases l
theorem xf (B:dJ P ap) (h:bf ap g m S w) {nid:Nat} (V:g nid=none) {t:Nat} {M:TI} {i:TypeInfo} {d:TypeDesc} {z:Value} (N:uO P t M i d z) {l c:AV} {cl K:Value} (L:VR g m S l cl) (J:VR g m S c K)
  {v:AV} {ups:List (Nat × aP)} {bs:List Bool} (hm:uz ap nid M l c=some (v,ups,bs)) (j:∀ b ∈ bs,b=true):
  ∃ cv m' w',(Instr.makeSlice t cl K).run P w= .ok cv w'∧bf ap (bH g ups) m' S w'∧Fr g m S w (bH g ups) m' S w'∧VR (bH g ups) m' S v cv:=by
 unfold uz at hm;split at hm
 ·rename_i e kl l U c s;have T:=bind_some hm;clear hm;obtain ⟨k,a,hm⟩:=T;obtain ⟨n,X,E,a⟩:=bV B a;split at hm
  ·rename_i f;simp only [δ] at f;have D:=f.2;have f:=f.1;have o:=dV f.1.1;have G:=dU f.2;have F:bD (gG l.toNat k.zero)= []:=xx _ (by simpa using D) _;generalize k.zero.all Q9=p at hm;cases hm;obtain ⟨u,j⟩:=bK j;obtain ⟨I,j⟩:=bK j;obtain ⟨R,_⟩:=bK j;have u:0≤l:=of_decide_eq_true u;have I:l=c:=of_decide_eq_true I;have R:l≤2^40:=of_decide_eq_true R;subst I;simp only [VR,PR] at L J;subst L;subst J;rw [N.d_eq] at s;have s:=eG s;subst s;have q:(n.bytes:Int)*l≤281474976710656:=by
    have y:(n.bytes:Int)≤128:=by rw [← a.bytes];exact_mod_cast G
    have Q:(n.bytes:Int)*l≤128*l:=Int.mul_le_mul_of_nonneg_right y u;have W:(2:Int)^40=1099511627776:=by decide
    omega
   have H:l≤9223372036854775807:=by
    have W:(2:Int)^40=1099511627776:=by decide
    omega
   have r:=run_make (P:=P) w t e n E N.und a.info a.zero kl U l l u (Int.le_refl _) q H;have C:aU g m S (gG l.toNat k.zero) (madeCells E.cells (l.toNat*n.size)).toList:=mV a _;have A:∀ x ∈ gG l.toNat k.zero,kH x=true:=xy a.zleaf;have O:=h.fresh (nid:=nid) V ⟨gG l.toNat k.zero,0,false,0,k.size,p⟩ (by have y:=a.small;have Q:=a.size;show k.size ≠ dN;omega) l.toNat (w':=w.alloc (.cells (madeCells E.cells (l.toNat*n.size)) e)) (World.grownBy_alloc w _ none) (heap_alloc_new w _) (fun _=>rfl) (Xqr _)
    (rest:= []) (by rw [ο]) (fun hp=>dO _ C F) C (uS C A) (fun _=> ⟨by rw [size_madeCells];simp [a.size],by simp only [maxLen];omega⟩)
   refine ⟨_,_,_,r,O.1,O.2, ?_⟩;exact Rq (ζ _) o (by have y:=a.small;have Q:=a.size;omega)
  ·cases hm
 ·cases hm
theorem qQ {t e:TypeId} {i:TypeInfo} {z:Value} (d:P.underlying t=some (.slice e)) (c:P.info? e=some i) (f:i.zero=some z) {a:Nat} (h:a*i.size≤2^24) (h0:a*i.size ≠ 0) {parts:Array (Nat × Value)} {cells:Array Value}
  (hf:Instr.fill (fun j=>some (j*i.size,i.size)) (madeCells z.cells (a*i.size)) parts.toList=some cells):
  (Instr.buildSlice t a parts).run P w= .ok (.slice (some ⟨w.heap.size,0,none⟩) a a) (w.alloc (.cells cells e)):=by
 have b:¬ (a*i.size>2^24):=by omega
 unfold madeCells at hf;simp only [Instr.buildSlice,Sem.run_bind,run_underlying d,Result.andThen_ok];simp [Go.sizeOf,typeInfo,c,zeroValue,f,h0,newRow];rw [if_neg (by simpa using b)];simp [hf]
theorem yO {t e:TypeId} {i:TypeInfo} (c:P.underlying t=some (.slice e)) (b:P.info? e=some i) {a:Nat} (h0:a*i.size=0) {parts:Array (Nat × Value)} {cells:Array Value}
  (hf:Instr.fill (fun d=>some (d*i.size,i.size)) #[] parts.toList=some cells):
  (Instr.buildSlice t a parts).run P w= .ok (.slice (some ⟨w.heap.size,0,none⟩) a a) (w.alloc (.cells cells e)):=by
 simp [Instr.buildSlice,run_underlying c,Go.sizeOf,typeInfo,b,h0,newRow,Array.range_zero',hf]
theorem uX (A:dJ P ap) (h:bf ap g m S w) {nid:Nat} (J:g nid=none) {t:Nat} {F:TI} {i:TypeInfo} {d:TypeDesc} {z:Value} (B:uO P t F i d z) {b:Nat} {ps:List (Nat × AV)} {qs:Array (Nat × Value)} (H:uP g m S ps qs.toList)
  {v:AV} {ups:List (Nat × aP)} {bs:List Bool} (hm:qw ap nid F b ps=some (v,ups,bs)):
  ∃ cv m' w',(Instr.buildSlice t b qs).run P w= .ok cv w'∧bf ap (bH g ups) m' S w'∧Fr g m S w (bH g ups) m' S w'∧VR (bH g ups) m' S v cv:=by
 unfold qw at hm;split at hm
 ·rename_i e q;have j:=bind_some hm;clear hm;obtain ⟨o,a,hm⟩:=j;obtain ⟨D,N,K,a⟩:=bV A a;split at hm
  ·rename_i f;simp only [δ] at f;have c:=dV f.1.1;have C:=dU f.1.2;have j:=bind_some hm;clear hm;obtain ⟨cs,l,hm⟩:=j;cases hm;rw [B.d_eq] at q;have q:=eG q;subst q;have s:aU g m S (gG b o.zero) (madeCells K.cells (b*D.size)).toList:=mV a _;obtain ⟨k,p,y,I⟩:=lV _ qs.toList _ cs _ (oQ (size:=o.size) H) s l;rw [a.size] at p;have n:(Instr.buildSlice t b qs).run P w= .ok (.slice (some ⟨w.heap.size,0,none⟩) b b) (w.alloc (.cells k e)):=by
    by_cases h0:b*D.size=0
    ·exact yO B.und a.info h0 (by rw [h0] at p;simpa [madeCells,Array.range_zero'] using p)
    ·exact qQ B.und a.info a.zero (by rw [← a.size];exact C) h0 p
   have u:∀ x ∈ cs,kH x=true:=Af l (xy a.zleaf);have r:k.size=b*D.size:=by rw [I,size_madeCells]
   have G:=h.fresh (nid:=nid) J (jH nid cs o.size).2 (by have E:=a.small;have L:=a.size;show o.size ≠ dN;omega) b (w':=w.alloc (.cells k e)) (World.grownBy_alloc w _ none) (heap_alloc_new w _) (fun _=>rfl) (Xqr _)
    (rest:= []) (by rw [ο]) (fun hp=>dO _ y (rH hp)) y (uS y u) (fun _=> ⟨by rw [r];simp [jH,a.size],by
     have E:b≤b*o.size:=Nat.le_mul_of_pos_right _ c;have M:(2:Nat)^24=16777216:=by decide
     simp only [maxLen];omega⟩)
   refine ⟨_,_,_,n,G.1,G.2, ?_⟩;exact Va (ζ _) c (by have E:=a.small;have L:=a.size;omega)
  ·cases hm
 ·cases hm
theorem Gm {d:TypeDesc} {k e:Nat} (h:iT P (some d)= .map k e):d= .map k e:=by cases d<;>simp [iT] at h;obtain ⟨rfl,rfl⟩:=h;rfl
theorem Ot {k:LK} {x y:AV} {u v:Value} (a:Eb k x=true) (b:Eb k y=true) (c:VR g m S x u) (d:VR g m S y v):
  pV k u v=some (Ae x y)∧(Ae x y=true→u=v)∧(∀ n,Instr.sameBits n u u=true)∧bZ x= []:=by
 cases k<;>cases x<;>simp [Eb] at a<;>cases y<;>simp [Eb] at b<;>simp only [VR,PR] at c d<;>subst c<;>subst d
 ·refine ⟨by simp [pV,Ae,a,b],fun h=> ?_,fun n=>by simp [Instr.sameBits],rfl⟩;simp only [Ae,beq_iff_eq] at h;rw [← dZ a,← dZ b,h]
 ·refine ⟨by simp [pV,Ae],fun h=> ?_,fun n=>by simp [Instr.sameBits],rfl⟩;simp only [Ae,beq_iff_eq] at h;rw [h]
 ·refine ⟨by simp [pV,Ae,uN],fun h=> ?_,fun n=>by cases n<;>simp [Instr.sameBits,MapKept.bytes_beq],rfl⟩;simp only [Ae,beq_iff_eq] at h;rw [h]
theorem kY:∀ {lks:List LK} {a b:List AV} {xs ys:List Value},kD lks a=true→kD lks b=true→aU g m S a xs→aU g m S b ys→
  dh lks xs ys=some (Ff a b)∧(Ff a b=true→xs=ys)∧(∀ n,∀ x ∈ xs,Instr.sameBits n x x=true)∧bD a= []
 | [],[],[],[],[],_,_,_,_=> ⟨rfl,fun _=>rfl,by simp,rfl⟩
 | k::lks,x::a,y::b,u::xs,v::ys,ha,hb,h1,h2=>by
  simp only [kD,δ] at ha hb;simp only [aU] at h1 h2;obtain ⟨i,f,j,o⟩:=Ot ha.1 hb.1 h1.1 h2.1;obtain ⟨d,l,e,p⟩:=kY ha.2 hb.2 h1.2 h2.2;refine ⟨by simp [dh,i,d,Ff],fun h=> ?_,fun n z c=> ?_,by simp [bD,o,p]⟩
  ·simp only [Ff,δ] at h;rw [f h.1,l h.2]
  ·rcases List.mem_cons.1 c with rfl|c
   ·exact j n
   ·exact e n z c
 | [],_::_,_,_,_,ha,_,_,_=>by simp [kD] at ha
 |_::_,[],_,_,_,ha,_,_,_=>by simp [kD] at ha
 | [],[],_::_,_,_,_,hb,_,_=>by simp [kD] at hb
 |_::_,_::_,[],_,_,_,hb,_,_=>by simp [kD] at hb
 | [],[],[],_::_,_,_,_,h1,_=>by simp [aU] at h1
 | [],[],[],[],_::_,_,_,_,h2=>by simp [aU] at h2
 |_::_,_::_,_::_,[],_,_,_,h1,_=>by simp [aU] at h1
 |_::_,_::_,_::_,_::_,[],_,_,_,h2=>by simp [aU] at h2
def VM (P:Program) (n:Nat) (t:TypeId) (lks:List LK):Prop:=
 ∀ (em:Bool) (d:Nat) (w:World) (xs:List Value),n≤d→dh lks xs xs=some true→(Instr.checkKey em d t (qX P t xs)).run P w= .ok () w
theorem qF {lks:List LK} {a:List Value} {r:Bool} (h:dh lks a a=some r):dh lks a a=some true:=by
 induction lks generalizing a r with
 |nil=>cases a<;>simp [dh] at h ⊢
 | cons k lks ih=>
  cases a with
  |nil=>simp [dh] at h
  | cons x a=>
   simp only [dh] at h ⊢;obtain ⟨c,b,h⟩:=bind_some h;rw [Φ] at h;obtain ⟨d,i,rfl⟩:=h;have e:pV k x x=some true:=by
    cases k<;>cases x<;>simp [pV] at b ⊢
    split at b
    ·rename_i f;simp [f]
    ·cases b
   simp [e,ih i]
theorem nV {n:Nat} (u:∀ t lks,iy P n t=some lks→VM P n t lks):∀ (fs:List Field) (off:Nat) (lks:List LK),vw P (iy P n) fs off=some lks→
  ∀ (em:Bool) (d:Nat) (w:World) (xs:List Value),n≤d→xs.length=off+lks.length→dh lks (xs.drop off) (xs.drop off)=some true→
   (forIn (m:=Sem) fs PUnit.unit fun f _=>do
    if f.name ≠ "_" then Instr.checkKey em d f.type (← part f.type xs.toArray f.offset)
    pure (ForInStep.yield PUnit.unit)).run P w= .ok PUnit.unit w
 | [],off,lks,hc,em,d,w,xs,hd,hx,h=>by simp
 | f ::fs,off,lks,hc,em,d,w,xs,hd,hx,h=>by
  simp only [vw] at hc;cases j:iy P n f.type with
  |none=>simp [j] at hc
  | some l=>
   simp only [j] at hc;split at hc
   ·rename_i hcond;simp only [δ,Xqi] at hcond;obtain ⟨⟨v,q⟩,c⟩:=hcond;cases s:vw P (iy P n) fs (off+l.length) with
    |none=>simp [s] at hc
    | some l'=>
     simp only [s] at hc;cases hc;cases k:P.info? f.type with
     |none=>simp [k] at c
     |some i=>
      simp only [k] at c;have c:=aA c;have q:=aA q;have r:f.name ≠ "_" :=by intro e;rw [e] at v;exact absurd v (by decide)
      simp only [ξ] at hx;obtain ⟨a,b,o,p,A⟩:=oI l l' _ _ true h;have o:=qF o;have p:=qF p;have y:=qR j k c xs off (by omega) w;have z:=u f.type l j em d w _ hd o;have x:=nV u fs (off+l.length) l' s em d w xs hd (by omega) (by simpa [Xx7,Nat.add_comm] using p);simp only [List.forIn_cons,Sem.run_bind,r,ne_eq,not_false_eq_true,if_true,Result.andThen_ok,q,y,z,Sem.run_pure];simpa using x
   ·cases hc
theorem GL:∀ (n:Nat) (t:TypeId) (lks:List LK),iy P n t=some lks→VM P n t lks
 |0,_,_,h=>by simp [iy] at h
 | n +1,t,lks,h=>by
  intro f d w b i c;obtain ⟨d,rfl⟩:∃ k,d=k+1:=⟨d - 1,by omega⟩
  have e:=mJ _ _ _ _ c;unfold iy at h;cases a:P.underlying t with
  |none=>simp [a] at h
  | some ds=>
   unfold Instr.checkKey;simp only [Sem.run_bind,run_underlying a,Result.andThen_ok,qX,a];cases ds<;>simp only [a] at h<;>try cases h
   case struct fs=>
    split at h
    ·cases h
    ·have:=nV (GL n) fs.toList 0 lks h f d w b (by omega) (by simp [e.1]) (by simpa using c);simp only [← Array.forIn_toList];simpa using this
   all_goals (cases b.headD undef<;>simp)
theorem AX (e:dJ P ap) {t:Nat} {j:TI} (h:ap.tyAt t=some j) {a b:List AV} {f p:List Value} (d:j.cmp=true) (c:kD j.lks a=true) (u:kD j.lks b=true) (k:aU g m S a f) (x:aU g m S b p) (o:∃ v,P.underlying t=some (.struct v)):
  (∀ s,(Instr.checkKey s 10000 t (.agg f.toArray)).run P w= .ok () w)∧(Op.equal t (.agg f.toArray) (.agg p.toArray)).run P w= .ok (Ff a b) w:=by
 obtain ⟨v,o⟩:=o;rw [(wG e h).1] at d;rw [(wG e h).2] at c u;unfold Ue at d;cases i:iy P 8 t with
 |none=>simp [i] at d
 |some l=>
  simp only [i,δ,Xqi] at d;have n:=A_ d.1;rw [← n] at c u;have q:=zS 8 t l i 10000 w f p _ (by omega) (kY c u k x).1;have r:=fun s=>GL 8 t l i s 10000 w f (by omega) (qF (kY c c k k).1)
  simp only [qX,o] at q r;exact ⟨r,q⟩
theorem xZ {a:TI} {d:TypeDesc} (c:a.d=iT P (some d)) (hs:∀ fs,d ≠ .struct fs) {x:AV} {v:Value} (h:gJ a x=true) (b:VR g m S x v):MapKept.IsKey d v:=by
 unfold gJ at h;rw [c] at h;cases d<;>simp only [iT] at h<;>cases x<;>simp at h<;>simp only [VR,PR] at b<;>first|(exact absurd rfl (hs _))|(subst b;simp only [MapKept.IsKey])
 exact (dZ h).symm
theorem PU {f:TI} {d:TypeDesc} (j:f.d=iT P (some d)) (hs:∀ fs,d ≠ .struct fs) {x y:AV} {u v:Value} (c:gJ f x=true) (e:gJ f y=true) (h:VR g m S x u) (i:VR g m S y v):Instr.sameNow d u v=some (Ad x y):=by
 unfold gJ at c e;rw [j] at c e;cases d<;>simp only [iT] at c e<;>cases x<;>simp at c<;>cases y<;>simp at e<;>simp only [VR,PR] at h i<;>first|(exact absurd rfl (hs _))|(subst h;subst i;simp only [Instr.sameNow,Ad])
 ·rw [if_pos ((dZ c).symm.trans (dZ e))]
 ·rename_i a b;congr 1;rw [Bool.eq_iff_iff,MapKept.bytes_beq];simp
theorem uF (h:bf ap g m S w) {rd:bJ} (j:∀ b B,rd b=some B→g b=some B) {x:AV} {r:Value} (l:VR g m S x r) {q:List AV × List AV} (a:Ov rd x=some q):
  ∃ es:Array MapEntry,((r= .map none∧es=#[])∨∃ b clk,r= .map (some b)∧w.heap[b]? =some (.map es clk))∧aU g m S q.1 (es.toList.map (·.key))∧aU g m S q.2 (es.toList.map (·.val)):=by
 unfold Ov at a;split at a
 ·rename_i ks vs;cases a;simp only [VR,PR] at l;rcases l with ⟨rfl,rfl,rfl⟩|⟨b,t,u,rfl,h0,v,o,p⟩
  ·exact ⟨#[],.inl ⟨rfl,rfl⟩,by simp [aU],by simp [aU]⟩
  ·obtain ⟨es,clk,n,f⟩:=rE (h.sealed _ _ _ h0) rfl;obtain ⟨z,clk',k,c⟩:=rE (h.sealed _ _ _ v) rfl;rw [n] at k;cases k;have f:Value.agg (es.map (·.key))= .agg t.toArray:=Option.some.inj f;have c:Value.agg (es.map (·.val))= .agg u.toArray:=Option.some.inj c;have f:=Value.agg.inj f;have c:=Value.agg.inj c;refine ⟨es,.inr ⟨b,clk,rfl,n⟩, ?_, ?_⟩
   ·rw [← Array.toList_map,f];exact aZ _ o
   ·rw [← Array.toList_map,c];exact aZ _ p
 ·rename_i b ver;have y:=bind_some a;clear a;obtain ⟨B,s,a⟩:=y;split at a
  ·rename_i d;simp only [δ] at d;split at a
   ·rename_i ks vs hcells;cases a;simp only [VR] at l;obtain ⟨B',i,_,_,q⟩:=l;rw [j b B s] at i;cases i;have q:=q (aA d.1);obtain ⟨⟨cur,e,us,rest,k1,k2,_,k4,_,_⟩,_,_⟩:=h.blk b B (j b B s);obtain ⟨es,clk,n,rfl⟩:=k1.map (aA d.2);rw [hcells] at k4
    match us,k4 with
    | [u0,u1],k4=>
     simp only [aU,VR,and_true] at k4;obtain ⟨⟨t,rfl,o⟩,u,rfl,p⟩:=k4;simp only [jk,Xqt,List.cons.injEq] at k2;have f:=Value.agg.inj k2.1;have c:=Value.agg.inj k2.2.1;refine ⟨es,.inr ⟨_,clk,q,n⟩, ?_, ?_⟩
     ·rw [← Array.toList_map,f];exact o
     ·rw [← Array.toList_map,c];exact p
    | [],k4=>simp [aU] at k4
    | [_],k4=>simp [aU] at k4
    |_::_::_::_,k4=>simp [aU] at k4
   ·cases a
  ·cases a
 ·cases a
structure TT (P:Program) (g:bJ) (m:aH) (S:az) (w:World) (t:Nat) (ti:TI) (d:TypeDesc) (k:AV) (ck:Value):Prop where
 chk:∀ em,(Instr.checkKey em 10000 t ck).run P w= .ok () w
 stay:(Instr.keyThatStays ck ck).run P w= .ok ck w
 eqs:∀ {k' ck'},gJ ti k'=true→VR g m S k' ck'→((match d with| .struct _=>(Op.equal t ck ck').run P w= .ok (Ad k k') w|_=>Instr.sameNow d ck ck'=some (Ad k k'))∧(Ad k k'=true→ck=ck'))
theorem wW (B:dJ P ap) {t:Nat} {s:TI} {i:TypeInfo} {d:TypeDesc} {z:Value} (C:ap.tyAt t=some s) (u:uO P t s i d z) {k:AV} {ck:Value} (v:gJ s k=true) (D:VR g m S k ck):TT P g m S w t s d k ck:=by
 by_cases hs:∃ o,d= .struct o
 ·obtain ⟨o,rfl⟩:=hs;have Q:=u.d_eq;have I:∀ {x:AV},gJ s x=true→∃ l,x= .agg l∧s.cmp=true∧kD s.lks l=true:=by
   intro x j;unfold gJ at j;rw [Q] at j;cases x<;>simp [iT] at j
   exact ⟨_,rfl,j⟩
  obtain ⟨l,rfl,K,y⟩:=I v;have N:=D;simp only [VR] at D;obtain ⟨G,rfl,j⟩:=D;refine ⟨(AX B C K y y j j ⟨o,u.und⟩).1, ?_, ?_⟩
  ·have R:Instr.sameBits 10000 (.agg G.toArray) (.agg G.toArray)=true:=by
    show Instr.sameBits (9999+1) _ _=true;have V:=(kY y y j j).2.2.1 9999;simp only [Instr.sameBits,beq_self_eq_true,Bool.true_and,List.all_eq_true];intro p hp;obtain ⟨a,b⟩:=p;have U:∀ l:List Value,(a,b) ∈ l.zip l→a=b∧a ∈ l:=by
     intro l
     induction l with
     |nil=>intro h;simp at h
     |cons c l ih=>
      intro h;simp only [List.zip_cons_cons,List.mem_cons,Prod.mk.injEq] at h;rcases h with ⟨rfl,rfl⟩|h
      ·exact ⟨rfl,by simp⟩
      ·exact ⟨(ih h).1,List.mem_cons_of_mem _ (ih h).2⟩
    obtain ⟨rfl,hm⟩:=U G hp;exact V a hm
   simp [Instr.keyThatStays,R]
  ·intro O H f n;obtain ⟨X,rfl,_,A⟩:=I f;simp only [VR] at n;obtain ⟨Y,rfl,M⟩:=n;refine ⟨(AX B C K y A j M ⟨o,u.und⟩).2,fun F=> ?_⟩;rw [(kY y A j M).2.1 F]
 ·have hs:∀ o,d ≠ .struct o:=fun o e=>hs ⟨o,e⟩
  have q:=xZ u.d_eq hs v D;refine ⟨fun W=>MapKept.run_checkKey u.und q W 9999,MapKept.run_keyThatStays q, ?_⟩;intro O H f n;have J:=PU u.d_eq hs v f D n;have T:=MapKept.sameNow_of_keys q (xZ u.d_eq hs f n);refine ⟨?_,fun F=> ?_⟩
  ·cases d<;>first|exact J|exact absurd rfl (hs _)
  ·obtain ⟨r,L,E⟩:=T;rw [J] at L;cases L;exact E.1 F
def iU (P:Program) (w:World) (t:Nat) (d:TypeDesc) (ck:Value) (l:List MapEntry) (i:Nat) (r:Option (Nat × Value)):Prop:=
 match d with
 | .struct _=>(Instr.findAsking t ck l i).run P w= .ok r w
 |_=>Instr.findNow d ck l i=some r
theorem iU.nil {t:Nat} {d:TypeDesc} {ck:Value} {i:Nat}:iU P w t d ck [] i none:=by
 unfold iU;cases d<;>first|rfl|simp [Instr.findAsking]
theorem iU.hit {t:Nat} {c:TI} {d:TypeDesc} {k b:AV} {ck:Value} {e:MapEntry} {l:List MapEntry} {i:Nat} (h:TT P g m S w t c d k ck) (a:gJ c b=true) (j:VR g m S b e.key) (f:Ad k b=true):iU P w t d ck (e::l) i (some (i,e.val)):=by
 have q:=(h.eqs a j).1;rw [f] at q;unfold iU;cases d<;>simp only at q ⊢ <;>first|(simp [Instr.findAsking,q];done)|(simp [Instr.findNow,q];done)
theorem iU.miss {t:Nat} {f:TI} {d:TypeDesc} {k c:AV} {ck:Value} {e:MapEntry} {l:List MapEntry} {i:Nat} {r:Option (Nat × Value)} (h:TT P g m S w t f d k ck) (b:gJ f c=true) (n:VR g m S c e.key) (j:Ad k c=false) (a:iU P w t d ck l (i+1) r):iU P w t d ck (e::l) i r:=by
 have q:=(h.eqs b n).1;rw [j] at q;unfold iU at a ⊢;cases d<;>simp only at q a ⊢ <;>first|(simp [Instr.findAsking,q,a];done)|(simp [Instr.findNow,q,a];done)
theorem iU.run {t:Nat} {c:TI} {i:TypeInfo} {d:TypeDesc} {z:Value} (b:uO P t c i d z) {ck:Value} {l:List MapEntry} {r:Option (Nat × Value)} (h:iU P w t d ck l 0 r):(Instr.findKey t ck l).run P w= .ok r w:=by
 by_cases hs:∃ a,d= .struct a
 ·obtain ⟨a,rfl⟩:=hs;simp only [iU] at h;cases l with
  |nil=>
   simp [Instr.findAsking] at h;subst h;simp [Instr.findKey,run_underlying b.und,Result.andThen,Instr.findNow]
  |cons e l=>
   simp only [Instr.findKey,Sem.run_bind,run_underlying b.und,Result.andThen_ok,Instr.findNow,Instr.sameNow];exact h
 ·have hs:∀ a,d ≠ .struct a:=fun a e=>hs ⟨a,e⟩
  refine MapKept.run_findKey b.und ?_;unfold iU at h;cases d<;>first|exact h|exact absurd rfl (hs _)
theorem lW {t:Nat} {q:TI} {d:TypeDesc} {k v:AV} {ck cv:Value} (c:TT P g m S w t q d k ck) (p:VR g m S v cv):∀ (l:List MapEntry) (ks vs:List AV) (i:Nat),aU g m S ks (l.map (·.key))→aU g m S vs (l.map (·.val))→ks.all (gJ q)=true→
  (iU P w t d ck l i none∧iC ks vs k=none∧ks.any (Ad k)=false∧mY ks vs k v=vs++ [v])∨
  ∃ j e x,iU P w t d ck l i (some (i+j,e.val))∧l[j]? =some e∧e.key=ck∧iC ks vs k=some x∧VR g m S x e.val∧ks.any (Ad k)=true∧aU g m S (mY ks vs k v) ((l.set j {e with key:=ck,val:=cv}).map (·.val))
 | [],ks,vs,i,h1,h2,_=>by
  cases ks with
  |cons _ _=>simp [aU] at h1
  |nil=>
   cases vs with
   |cons _ _=>simp [aU] at h2
   |nil=>exact .inl ⟨iU.nil,rfl,rfl,rfl⟩
 | e ::l,ks,vs,i,h1,h2,ha=>by
  cases ks with
  |nil=>simp [aU] at h1
  | cons k0 ks=>
   cases vs with
   |nil=>simp [aU] at h2
   | cons v0 vs=>
    simp only [φ,aU] at h1 h2;simp only [Xxu,δ] at ha;cases a:Ad k k0 with
    |true=>
     have b:e.key=ck:=((c.eqs ha.1 h1.1).2 a).symm;refine .inr ⟨0,e,v0,iU.hit c ha.1 h1.1 a,rfl,b, ?_,h2.1, ?_, ?_⟩
     ·simp [iC,a]
     ·simp [a]
     ·simp only [mY,a,List.set_cons_zero,φ,aU];exact ⟨p,h2.2⟩
    | false=>
     rcases lW c p l ks vs (i+1) h1.2 h2.2 ha.2 with ⟨o,f,n,h⟩|⟨j,e',x,o,f,n,h,r,s,u⟩
     ·refine .inl ⟨iU.miss c ha.1 h1.1 a o, ?_, ?_, ?_⟩
      ·simp [iC,a,f]
      ·simp only [Xki,a,n];rfl
      ·simp [mY,a,h]
     ·refine .inr ⟨j+1,e',x, ?_,by simpa using f,n, ?_,r, ?_, ?_⟩
      ·rw [show i+(j+1)=i+1+j by omega];exact iU.miss c ha.1 h1.1 a o
      ·simp [iC,a,h]
      ·simp only [Xki,a,s];rfl
      ·simp only [mY,a,List.set_cons_succ,φ,aU];exact ⟨h2.1,u⟩
theorem x_ {ok:Bool} {o:Option AV} {z:AV} {u c:Value} {b:Bool} (h:(o=none∧u=c∧b=false)∨∃ x,o=some x∧VR g m S x u∧b=true) (d:VR g m S z c):VR g m S (LU ok o z) (if ok then .tuple #[u,.bool b] else u):=by
 have a:VR g m S (o.getD z) u∧o.isSome=b:=by
  rcases h with ⟨rfl,rfl,rfl⟩|⟨x,rfl,e,rfl⟩
  ·exact ⟨d,rfl⟩
  ·exact ⟨e,rfl⟩
 cases ok with
 |true=>
  simp only [LU,if_true,VR];refine ⟨[u,.bool b],rfl, ?_⟩;simp only [aU,VR,PR,and_true];exact ⟨a.1,by rw [a.2]⟩
 |false=>simpa [LU] using a.1
theorem Dk (o:dJ P ap) (h:bf ap g m S w) {rd:bJ} (E:∀ b B,rd b=some B→g b=some B) {t:Nat} {I:TI} {i:TypeInfo} {d:TypeDesc} {z:Value} (A:uO P t I i d z) {x k v:AV} {J ck:Value} (Q:VR g m S x J) (K:VR g m S k ck) {ok:Bool}
  {ups:List (Nat × aP)} {bs:List Bool} (c:FI ap I rd x k ok=some (v,ups,bs)) (r:∀ b ∈ bs,b=true):
  ups= []∧∃ cv,(Instr.lookup t J ck ok).run P w= .ok cv w∧VR g m S v cv:=by
 unfold FI at c;split at c
 ·rename_i Z et C;have n:=bind_some c;clear c;obtain ⟨X,a,c⟩:=n;have n:=bind_some c;clear c;obtain ⟨te,f,c⟩:=n;have n:=bind_some c;clear c;obtain ⟨q,n,c⟩:=n;have G:=bind_some c;clear c;obtain ⟨U,D,c⟩:=G;obtain ⟨rfl,rfl,rfl⟩:=aO c;have H:=a;obtain ⟨ik,dk,Y,a⟩:=bV o a;obtain ⟨ie,de,N,f⟩:=bV o f;rw [A.d_eq] at C;have C:=Gm C;subst C;obtain ⟨W,r⟩:=bK r;obtain ⟨V,_⟩:=bK r;obtain ⟨es,u,O,L⟩:=uF h E Q n;have l:=wW (w:=w) o H a W K;have s:VR g m S U N:=uG f D;refine ⟨rfl, ?_⟩;rcases lW l K es.toList q.1 q.2 0 O L V with ⟨p,T,_,_⟩|⟨j,e,y,p,_,_,M,R,_,_⟩
  ·refine ⟨_, ?_,x_ (.inl ⟨T,rfl,rfl⟩) s⟩;rcases u with ⟨rfl,rfl⟩|⟨b,clk,rfl,F⟩
   ·simp [Instr.lookup,run_underlying A.und,l.chk,p.run a,zeroValue,typeInfo,f.info,f.zero,Result.andThen]
   ·simp [Instr.lookup,run_underlying A.und,MapKept.run_getObj_map F,l.chk,p.run a,zeroValue,typeInfo,f.info,f.zero,Result.andThen]
  ·refine ⟨_, ?_,x_ (.inr ⟨y,M,R,rfl⟩) s⟩;rcases u with ⟨rfl,rfl⟩|⟨b,clk,rfl,F⟩
   ·have p:=p.run a;simp [Instr.findKey,run_underlying a.und,Result.andThen,Instr.findNow] at p
   ·simp [Instr.lookup,run_underlying A.und,MapKept.run_getObj_map F,l.chk,p.run a,Result.andThen]
 ·cases c
mutual
theorem KC {S:az}:∀ (x:AV) {v:Value},PR S x v→bZ x= []
 | .int _ _,_,_=>rfl
 | .bool _,_,_=>rfl
 | .str _,_,_=>rfl
 | .nilS,_,_=>rfl
 | .nilP,_,_=>rfl
 | .raw _,_,_=>rfl
 | .nilF,_,_=>rfl
 | .nilI,_,_=>rfl
 | .sl _ _ _,_,_=>rfl
 | .pp _ _,_,_=>rfl
 | .mp _ _,_,_=>rfl
 | .dead,_,_=>rfl
 | .own _ _ _,_,p=>by simp only [PR] at p
 | .ref _ _ _ _,_,p=>by simp only [PR] at p
 | .ptr _ _ _,_,p=>by simp only [PR] at p
 | .mr _ _,_,p=>by simp only [PR] at p
 | .agg l,_,p=>by
  simp only [PR] at p;simp only [bZ];obtain ⟨_,_,q⟩:=p;exact nC l q
 | .tup l,_,p=>by
  simp only [PR] at p;simp only [bZ];obtain ⟨_,_,q⟩:=p;exact nC l q
 | .fn f a c,_,p=>by
  simp only [PR] at p;simp only [bZ];obtain ⟨_,_,_,q,r⟩:=p;rw [nC a q,nC c r];rfl
 | .ifc t x,_,p=>by
  simp only [PR] at p;simp only [bZ];obtain ⟨_,_,q⟩:=p;exact KC x q
theorem nC {S:az}:∀ (l:List AV) {vs:List Value},bi S l vs→bD l= []
 | [],_,_=>rfl
 |x::r,v::vs,p=>by simp only [bi] at p;simp only [bD,KC x p.1,nC r p.2,ο]
 |_::_,[],p=>by simp [bi] at p
end
theorem Ej (h:bf ap g m S w) {b:Nat} {B:aP} {a:Array MapEntry} {clk':Nat} {k:Nat} {w':World} (p:w'.heap[k]? =some (.map a clk')) (j:B.esz=dN) {ks vs:List AV} (e:B.cells= [.agg ks,.agg vs]) (n:aU g m S ks (a.toList.map (·.key))) (o:aU g m S vs (a.toList.map (·.val))) (hp:B.pr=true→bD vs= []∧bD ks= []) (l:B.fro=false→B.fz=0) (d:B.fz≤2) (c:Nat):NQ g m S w' B k c:=by
 refine ⟨⟨jk a,0,[.agg (a.map (·.key)),.agg (a.map (·.val))],[],.inr ⟨j,a,clk',p,rfl⟩,rfl, ?_, ?_,fun i=>absurd j i,fun _ i=>absurd j i⟩,l,by rw [e];exact d⟩
 ·intro f;obtain ⟨r,q⟩:=hp f;rw [e];simp only [bi,PR,and_true];exact ⟨⟨(a.map (·.key)).toList,by rw [Array.toArray_toList],by rw [Array.toList_map];exact dO _ n q⟩,(a.map (·.val)).toList,by rw [Array.toArray_toList],by rw [Array.toList_map];exact dO _ o r⟩
 ·rw [e];simp only [aU,VR,and_true];exact ⟨⟨(a.map (·.key)).toList,by rw [Array.toArray_toList],by rw [Array.toList_map];exact n⟩,(a.map (·.val)).toList,by rw [Array.toArray_toList],by rw [Array.toList_map];exact o⟩
theorem Dl (h:bf ap g m S w) {nid:Nat} (c:g nid=none) (t:Nat):
  ∃ cv m' w',(Instr.makeMap t none).run P w= .ok cv w'∧bf ap (bH g [(nid,⟨[.agg [],.agg []],0,false,0,dN,true⟩)]) m' S w'∧Fr g m S w (bH g [(nid,⟨[.agg [],.agg []],0,false,0,dN,true⟩)]) m' S w'∧VR (bH g [(nid,⟨[.agg [],.agg []],0,false,0,dN,true⟩)]) m' S (.mr nid 0) cv:=by
 have a:=h.put nid ⟨[.agg [],.agg []],0,false,0,dN,true⟩ w.heap.size 0 (w':=w.alloc (.map #[] 0)) (.inl (ζ _)) (World.grownBy_alloc w _ _)
  (Ej h (b:=nid) (heap_alloc_new w _) rfl rfl (by simp [aU]) (by simp [aU]) (fun _=> ⟨rfl,rfl⟩) (fun _=>rfl) (Xqr _) 0)
  (fun B0 h0=>by rw [c] at h0;cases h0) (fun o v d=>absurd (h.seal_lt d) (Xjh _))
 refine ⟨.map (some w.heap.size),_,_, ?_,a.1,a.2, ?_⟩
 ·simp [Instr.makeMap,Result.andThen]
 ·simp only [VR];exact ⟨_,jL _ _ _,ζ _,⟨_,rfl⟩,fun _=>by simp [setM]⟩
theorem AU:∀ (lks:List LK) (l:List AV),kD lks l=true→bD l= []
 | [],[],_=>rfl
 |k::lks,x::l,h=>by
  simp only [kD,δ] at h;have a:bZ x= []:=by cases k<;>cases x<;>first|rfl|(have:=h.1;simp [Eb] at this)
  simp only [bD,a,AU lks l h.2,ο]
 | [],_::_,h=>by simp [kD] at h
 |_::_,[],h=>by simp [kD] at h
theorem xw:∀ (l:List AV) (ti:TI),l.all (gJ ti)=true→bD l= []
 | [],_,_=>rfl
 | x::r,ti,h=>by
  simp only [Xxu,δ] at h;have b:bZ x= []:=by
   have a:=h.1;unfold gJ at a;split at a<;>first|rfl|(cases a;done)|skip
   simp only [δ] at a;simp only [bZ];exact AU _ _ a.2
  simp only [bD,b,xw r ti h.2,ο]
theorem BQ:∀ (ks vs:List AV) (k v:AV),bD vs= []→bZ v= []→bD (mY ks vs k v)= []
 | [],_,k,v,_,h2=>by simp [mY,bD,h2]
 |_::_,[],k,v,_,h2=>by simp [mY,bD,h2]
 |k0::ks,v0::vs,k,v,h1,h2=>by
  simp only [bD,Xx0] at h1;simp only [mY];split
  ·simp [bD,h1.2,h2]
  ·simp [bD,h1.1,BQ ks vs k v h1.2 h2]
theorem t_ (K:dJ P ap) (h:bf ap g m S w) {rd:bJ} (L:∀ b B,rd b=some B→g b=some B) {t:Nat} {ti:TI} {i:TypeInfo} {d:TypeDesc} {z:Value} (ht:uO P t ti i d z) {x k v r:AV} {cx ck cv:Value} (hx:VR g m S x cx) (hk:VR g m S k ck) (hv:VR g m S v cv)
  {ups:List (Nat × aP)} {bs:List Bool} (f:zi ap ti rd x k v=some (r,ups,bs)) (I:∀ b ∈ bs,b=true):
  r= .dead∧∃ F w',(Instr.mapUpdate t cx ck cv).run P w= .ok () w'∧bf ap (bH g ups) F S w'∧Fr g m S w (bH g ups) F S w':=by
 unfold zi at f;split at f
 ·rename_i kt et b ver R;have U:=bind_some f;clear f;obtain ⟨tk,l,f⟩:=U;have U:=bind_some f;clear f;obtain ⟨B,hB,f⟩:=U;split at f
  ·rename_i p;simp only [δ,Xqi] at p;split at f
   ·rename_i ks vs hcells;cases f;have W:=l;obtain ⟨ik,dk,zk,l⟩:=bV K l;rw [ht.d_eq] at R;have R:=Gm R;subst R;obtain ⟨b1,I⟩:=bK I;obtain ⟨b2,_⟩:=bK I;have c:=L b B hB;have hz:=aA p.1.2;have V:Ov rd (.mr b ver)=some (ks,vs):=by
     unfold Ov;simp only [hB,Option.bind_some,p.1.1,p.1.2,Bool.and_self,hcells]
    obtain ⟨es,Y,v1,v2⟩:=uF h L hx V;have E:=wW (w:=w) K W l b1 hk;simp only [VR] at hx;obtain ⟨B',N,_,_,q⟩:=hx;rw [c] at N;cases N;have q:=q (aA p.1.1);subst q;rcases Y with ⟨e,_⟩|⟨b0,clk,e,O⟩
    ·cases e
    cases e;have Z:(m b).1<w.heap.size:=h.lt c;obtain ⟨_,k7,k8⟩:=h.blk b B c;have key:∀ (a:Array MapEntry) (clk':Nat),(sW es clk→sW a clk')→aU g m S (xn ks k) (a.toList.map (·.key))→aU g m S (mY ks vs k v) (a.toList.map (·.val))→
      ∃ F,bf ap (bH g [(b,{B with cells:= [.agg (xn ks k),.agg (mY ks vs k v)],pr:=B.pr && (bZ v).isEmpty})]) F S {w with heap:=w.heap.setIfInBounds (m b).1 (.map a clk')}∧Fr g m S w (bH g [(b,{B with cells:= [.agg (xn ks k),.agg (mY ks vs k v)],pr:=B.pr && (bZ v).isEmpty})]) F S {w with heap:=w.heap.setIfInBounds (m b).1 (.map a clk')}:=by
     intro a clk' hwf w1 w2;have G:=h.put (hmw:=MW.setM O hwf) b {B with cells:= [.agg (xn ks k),.agg (mY ks vs k v)],pr:=B.pr && (bZ v).isEmpty} (m b).1 (m b).2 (w':={w with heap:=w.heap.setIfInBounds (m b).1 (.map a clk')})
      (.inr ⟨B,c,rfl⟩) ⟨rfl,rfl,rfl,by simp,fun k' _ hk'=>by simp [show (m b).1 ≠ k' from fun e=>hk' (by rw [e])]⟩
      (Ej h (b:=b) (B:={B with cells:= [.agg (xn ks k),.agg (mY ks vs k v)],pr:=B.pr && (bZ v).isEmpty}) (w':={w with heap:=w.heap.setIfInBounds (m b).1 (.map a clk')}) (k:=(m b).1) (clk':=clk') (by simp [Z]) hz rfl w1 w2 (fun D=>by
       have D:(B.pr && (bZ v).isEmpty)=true:=D;simp only [δ] at D;obtain ⟨⟨cur,e,us,rest,k1,k2,k3,k4,_,_⟩,_,_⟩:=h.blk b B c;have hr:bD B.cells= []:=nC _ (k3 D.1);rw [hcells] at hr;simp only [bD,bZ,ο,Xx0] at hr;refine ⟨BQ _ _ _ _ hr.2 (rH D.2), ?_⟩;have M:=xw ks _ b2;unfold xn;split
       ·exact M
       ·rw [oZ,M];exact xw [k] tk (by simp [b1])) k7 (by rw [hcells] at k8;exact k8) (m b).2)
      (fun B0 h0=>by rw [c] at h0;cases h0;exact ⟨rfl,.inl ⟨rfl,rfl⟩⟩)
      (fun o u hu=>by
       have:=(h.own b B c o u hu).1;rw [p.2] at this;cases this)
     exact ⟨_,G.1,G.2⟩
    refine ⟨rfl, ?_⟩;rcases lW E hv es.toList ks vs 0 v1 v2 b2 with ⟨Q,r2,r3,r4⟩|⟨j,e,y,Q,T,rk,r4,r5,r6,r7⟩
    ·obtain ⟨F,s1,X⟩:=key (es.push {key:=ck,val:=cv,born:=clk}) (clk+1) (sW.push ck cv)
      (by unfold xn;rw [r3,Array.toList_push,Xxa];exact fC v1 (by simp only [φ,Xjo,aU,and_true];exact hk))
      (by rw [r4,Array.toList_push,Xxa];exact fC v2 (by simp only [φ,Xjo,aU,and_true];exact hv))
     refine ⟨F,_, ?_,s1,X⟩;simp [Instr.mapUpdate,run_underlying ht.und,MapKept.run_getObj_map O,E.chk,Q.run l,MapKept.run_setObj_map _ O,Result.andThen]
    ·have s:es[j]? =some e:=by simpa using T
     have J:(es.modify j fun e=> {e with key:=ck,val:=cv}).toList=es.toList.set j {e with key:=ck,val:=cv}:=by
      apply Xxk;intro n;simp only [Array.getElem?_toList,Array.getElem?_modify,Xjv];by_cases hjn:j=n
      ·subst hjn;have C:j<es.toList.length:=(List.getElem?_eq_some_iff.1 T).1;rw [if_pos rfl,if_pos rfl,if_pos C,s];rfl
      ·rw [if_neg hjn,if_neg hjn]
     obtain ⟨F,s1,X⟩:=key (es.modify j fun e=> {e with key:=ck,val:=cv}) clk
      (sW.same (by
       rw [J];apply Xxk;intro n;simp only [Ξ,Xjv];by_cases hjn:j=n
       ·subst hjn;have C:j<es.toList.length:=(List.getElem?_eq_some_iff.1 T).1;have A:j<es.size:=by simpa using C
        have H:es[j]=e:=by rw [Array.getElem?_eq_getElem A] at s;exact Option.some.inj s
        simp [A,H]
       ·simp [hjn]))
      (by
       unfold xn;rw [r6,J];have:(es.toList.set j {e with key:=ck,val:=cv}).map (·.key)=es.toList.map (·.key):=by
        apply Xxk;intro n;simp only [Ξ,Xjv];by_cases hjn:j=n
        ·subst hjn;have C:j<es.toList.length:=(List.getElem?_eq_some_iff.1 T).1;have A:j<es.size:=by simpa using C
         have H:es[j]=e:=by rw [Array.getElem?_eq_getElem A] at s;exact Option.some.inj s
         simp [A,H,rk]
        ·simp [hjn]
       rw [this];exact v1)
      (by rw [J];exact r7)
     refine ⟨F,_, ?_,s1,X⟩;rw [Θ] at Q;simp [Instr.mapUpdate,run_underlying ht.und,MapKept.run_getObj_map O,E.chk,Q.run l,s,rk,E.stay,MapKept.run_setObj_map _ O,Result.andThen]
   ·cases f
  ·cases f
 ·cases f
end
end AM
namespace AM
open Go
section
variable {P:Program} {ap:AP} {g:bJ} {m:aH} {S:az} {w:World}
theorem qZ {ρ:Operand→AV} {cρ:Operand→Value}:∀ (l:List Operand),(∀ o ∈ l,VR g m S (ρ o) (cρ o))→aU g m S (l.map ρ) (l.map cρ)
 | [],_=>by simp [aU]
 |o::r,h=>by simp only [φ,aU];exact ⟨h o (by simp),qZ r fun o a=>h o (by simp [a])⟩
theorem zy {ρ:Operand→AV} {cρ:Operand→Value}:∀ (l:List (Nat × Operand)),(∀ o ∈ l.map (·.2),VR g m S (ρ o) (cρ o))→uP g m S (l.map fun (i,x)=>(i,ρ x)) (l.map fun (i,x)=>(i,cρ x))
 | [],_=>by simp [uP]
 |(i,o)::r,h=>by simp only [φ,uP];exact ⟨trivial,h o (by simp),zy r fun o a=>h o (by simp [a])⟩
def fG (P:Program) (ap:AP) (g:bJ) (m:aH) (S:az) (w:World) (s:Sem Next) (v:AV) (ups:List (Nat × aP)):Prop:=
 ∃ nx m' w',s.run P w= .ok nx w'∧bf ap (bH g ups) m' S w'∧Fr g m S w (bH g ups) m' S w'∧((∃ cv,nx= .value cv∧VR (bH g ups) m' S v cv)∨(nx= .skip∧v= .dead))
theorem fG.pur (h:bf ap g m S w) {s:Sem Value} {v:AV} {ups:List (Nat × aP)} (hs:ups= []∧∃ cv,s.run P w= .ok cv w∧VR g m S v cv):fG P ap g m S w (do pure (.value (← s))) v ups:=by
 obtain ⟨rfl,cv,a,b⟩:=hs;exact ⟨.value cv,m,w,by simp [a],by rw [dE];exact h,by rw [dE];exact Fr.refl _ _ _ _,.inl ⟨cv,rfl,by rw [dE];exact b⟩⟩
theorem fG.full {s:Sem Value} {v:AV} {ups:List (Nat × aP)} (hs:∃ cv a w',s.run P w= .ok cv w'∧bf ap (bH g ups) a S w'∧Fr g m S w (bH g ups) a S w'∧VR (bH g ups) a S v cv):fG P ap g m S w (do pure (.value (← s))) v ups:=by
 obtain ⟨cv,a,w',b,c,e,d⟩:=hs;exact ⟨.value cv,a,w',by simp [b],c,e,.inl ⟨cv,rfl,d⟩⟩
theorem fG.val (h:bf ap g m S w) {s:Sem Next} {v:AV} {cv:Value} (hs:s.run P w= .ok (.value cv) w) (a:VR g m S v cv):fG P ap g m S w s v []:=
 ⟨.value cv,m,w,hs,by rw [dE];exact h,by rw [dE];exact Fr.refl _ _ _ _,.inl ⟨cv,rfl,by rw [dE];exact a⟩⟩
theorem zq {ρ:Operand→AV} {cρ:Operand→Value} (x:Option Operand) (h:∀ o ∈ x.toArray,VR g m S (ρ o) (cρ o)):zo g m S (x.map ρ) (x.map cρ):=by
 cases x with
 |none=>simp [zo]
 |some o=>simp only [Xqu,zo];exact h o (by simp)
theorem GU (a:dJ P ap) {t:Nat} {b:TI} (h:ap.tyAt t=some b) (e:b.d ≠ .iface):P.concrete t=true:=by
 obtain ⟨i,d,z,c⟩:=bV a h;have:=c.d_eq;simp only [Program.concrete,c.und];cases d<;>simp_all [iT]
set_option maxHeartbeats 1000000 in
theorem OG (A:dJ P ap) (F:bf ap g m S w) {nid:Nat} (hn:g nid=none) {ρ:Operand→AV} {cρ:Operand→Value} {rd:bJ} (K:∀ b B,rd b=some B→g b=some B) (o:Oper) (hρ:∀ x ∈ o.op.operands,VR g m S (ρ x) (cρ x))
  {dec:Operand→Option Bool} (hdec:∀ x ∈ o.op.operands,∀ b,dec x=some b→cρ x= .bool b) {em:Bool} (hem:∀ n,vC ρ o.op=some n→υ n 0=em)
  {v:AV} {ups:List (Nat × aP)} {bs:List Bool} (h:opA ap nid ρ rd dec em o.op=some (v,ups,bs)) (hbs:∀ b ∈ bs,b=true):fG P ap g m S w (execOp cρ o) v ups:=by
 unfold opA at h;unfold execOp;split at h<;>rename_i heq<;>simp only [heq,Op.operands] at hρ hdec hem ⊢
 ·obtain ⟨rfl,rfl,rfl⟩:=aO h;exact fG.val F (by simp) (hρ _ (by simp))
 ·obtain ⟨rfl,rfl,rfl⟩:=aO h;exact fG.val F (by simp) (hρ _ (by simp))
 ·
  rename_i c a b;split at h
  ·rename_i H;obtain ⟨rfl,rfl,rfl⟩:=aO h;have:=hdec c (by simp) _ H;exact fG.val F (by simp [this,asBool]) (hρ _ (by simp))
  ·rename_i H;obtain ⟨rfl,rfl,rfl⟩:=aO h;have:=hdec c (by simp) _ H;exact fG.val F (by simp [this,asBool]) (hρ _ (by simp))
  ·split at h
   ·rename_i bc ba bb e1 e2 e3;obtain ⟨rfl,rfl,rfl⟩:=aO h;have G:=hρ c (by simp);have I:=hρ a (by simp);have T:=hρ b (by simp);rw [e1] at G;rw [e2] at I;rw [e3] at T;simp only [VR,PR] at G I T;refine fG.val F (cv:= .bool (cond bc ba bb)) ?_ (by simp only [VR,PR]);rw [G,I,T];cases bc<;>simp [asBool]
   ·cases h
 ·
  rename_i e;have j:=bind_some h;clear h;obtain ⟨te,L,h⟩:=j;obtain ⟨ie,de,ze,D⟩:=bV A L;split at h
  ·rename_i hok;simp only [δ] at hok;cases h;obtain ⟨N,w',G,I,T,h4⟩:=DN (P:=P) F hn (cells:=te.zero) (cv:=ze) (nH D) D.zleaf (fun u hu=>uS (g:=g) (m:=m) (S:=S) (nH D) D.zleaf u (by simpa using hu)) e;refine fG.full ⟨.pointer (some ⟨w.heap.size,0,none⟩),N,w', ?_,I,T,ML h4⟩;simp [Instr.alloc,zeroValue,typeInfo,D.info,D.zero,G]
  ·cases h
 ·
  rename_i e x;have j:=bind_some h;clear h;obtain ⟨te,L,h⟩:=j;obtain ⟨ie,de,ze,D⟩:=bV A L;simp only at h;split at h
  ·rename_i hok;cases h;have E:=hρ x (by simp);have hl:∀ y ∈ (ρ x).cells,kH y=true:=fun y hy=>List.all_eq_true.1 hok y hy
   obtain ⟨hv1,hv2⟩:=zI E hl;obtain ⟨N,w',G,I,T,h4⟩:=DN (P:=P) F hn (cells:=(ρ x).cells) (cv:=cρ x) hv1 hl hv2 e;refine fG.full ⟨.pointer (some ⟨w.heap.size,0,none⟩),N,w', ?_,I,T,ML h4⟩;simp [Instr.box,G]
  ·cases h
 ·
  rename_i t parts;have j:=bind_some h;clear h;obtain ⟨Q,C,h⟩:=j;obtain ⟨i,d,z,D⟩:=bV A C;refine fG.pur F ?_;refine EQ A D (qs:=parts.map fun (i,x)=>(i,cρ x)) ?_ h;rw [Array.toList_map];exact zy parts.toList fun x E=>hρ x (by simpa using E)
 ·
  rename_i t len parts;have j:=bind_some h;clear h;obtain ⟨Q,C,h⟩:=j;obtain ⟨i,d,z,D⟩:=bV A C;refine fG.full ?_;refine uX A F hn D (qs:=parts.map fun (i,x)=>(i,cρ x)) ?_ h;rw [Array.toList_map];exact zy parts.toList fun x E=>hρ x (by simpa using E)
 ·
  rename_i t a;have j:=bind_some h;clear h;obtain ⟨Q,C,h⟩:=j;obtain ⟨i,d,z,D⟩:=bV A C;exact fG.pur F (yc F K D (hρ a (by simp)) h hbs)
 ·
  rename_i t a x;have j:=bind_some h;clear h;obtain ⟨Q,C,h⟩:=j;obtain ⟨i,d,z,D⟩:=bV A C;have ha:=hρ a (by simp);have E:=hρ x (by simp);generalize cρ a=ca at ha ⊢;generalize cρ x=cx at E ⊢;obtain ⟨rfl,N,w',G,I,T⟩:=Gl F K D ha E h hbs;exact ⟨.skip,N,w',by simp [G],I,T,.inr ⟨rfl,rfl⟩⟩
 ·
  rename_i t r;split at h
  ·cases h;obtain ⟨cv,N,w',G,I,T,h4⟩:=Dl (P:=P) F hn t;exact ⟨.value cv,N,w',by simp [G],I,T,.inl ⟨cv,rfl,h4⟩⟩
  ·cases h
 ·
  rename_i t x k ok;have j:=bind_some h;clear h;obtain ⟨Q,C,h⟩:=j;obtain ⟨i,d,z,D⟩:=bV A C;exact fG.pur F (Dk A F K D (hρ x (by simp)) (hρ k (by simp)) h hbs)
 ·
  rename_i t x k v;have j:=bind_some h;clear h;obtain ⟨Q,C,h⟩:=j;obtain ⟨i,d,z,D⟩:=bV A C;obtain ⟨rfl,N,w',G,I,T⟩:=t_ A F K D (hρ x (by simp)) (hρ k (by simp)) (hρ v (by simp)) h hbs;exact ⟨.skip,N,w',by simp [G],I,T,.inr ⟨rfl,rfl⟩⟩
 ·
  rename_i t x k v;have j:=bind_some h;clear h;obtain ⟨Q,C,h⟩:=j;obtain ⟨i,d,z,D⟩:=bV A C;obtain ⟨rfl,N,w',G,I,T⟩:=t_ A F K D (hρ x (by simp)) (hρ k (by simp)) (hρ v (by simp)) h hbs;exact ⟨.skip,N,w',by simp [G],I,T,.inr ⟨rfl,rfl⟩⟩
 ·
  rename_i x;have E:=hρ x (by simp);split at h
  ·rename_i b ver off e;rw [e] at E;obtain ⟨rfl,rfl,rfl⟩:=aO h;have J:=E;simp only [VR] at J;obtain ⟨_,_,_,⟨k,o,V⟩,_⟩:=J;exact fG.val F (cv:=cρ x) (by rw [V];simp) E
  ·rename_i xs off e;rw [e] at E;obtain ⟨rfl,rfl,rfl⟩:=aO h;have J:=E;simp only [VR,PR] at J;obtain ⟨_,_,_,V,_⟩:=J;exact fG.val F (cv:=cρ x) (by rw [V];simp) E
  ·rename_i f a c e;rw [e] at E;obtain ⟨rfl,rfl,rfl⟩:=aO h;have J:=E;simp only [VR] at J;obtain ⟨_,_,V,_⟩:=J;exact fG.val F (cv:=cρ x) (by rw [V];simp) E
  ·rename_i ty vv e;rw [e] at E;obtain ⟨rfl,rfl,rfl⟩:=aO h;have J:=E;simp only [VR] at J;obtain ⟨u,V,_⟩:=J;exact fG.val F (cv:=cρ x) (by rw [V];simp) E
  ·cases h
 ·
  rename_i op t x y _;have j:=bind_some h;clear h;obtain ⟨Q,C,h⟩:=j;exact fG.pur F (Jm A C (hρ x (by simp)) (hρ y (by simp)) h hbs x y)
 ·
  exact fG.pur F (OZ (hρ _ (by simp)) h)
 ·
  rename_i s d x;have j:=bind_some h;clear h;obtain ⟨ts,hts,h⟩:=j;have j:=bind_some h;clear h;obtain ⟨td,htd,h⟩:=j;exact fG.pur F (zY A F K hts htd (hρ x (by simp)) h hbs)
 ·
  rename_i t x;have j:=bind_some h;clear h;obtain ⟨Q,C,h⟩:=j;split at h
  ·cases h
  ·rename_i H;obtain ⟨rfl,rfl,rfl⟩:=aO h;refine fG.pur F ⟨rfl,.iface t (cρ x),run_makeInterface w t _ (GU A C H), ?_⟩;simp only [VR];exact ⟨_,rfl,hρ x (by simp)⟩
 ·
  rename_i f first cap
  obtain ⟨rfl,rfl,rfl⟩:=aO h;refine fG.pur F ⟨rfl,.func (.func f) (first.map cρ) (cap.map cρ),by simp [Instr.makeFunc], ?_⟩;simp only [VR];refine ⟨(first.map cρ).toList,(cap.map cρ).toList,by rw [Array.toArray_toList,Array.toArray_toList], ?_, ?_⟩
  ·rw [Array.toList_map];exact qZ _ fun x E=>hρ x (by simp at E ⊢;exact .inl E)
  ·rw [Array.toList_map];exact qZ _ fun x E=>hρ x (by simp at E ⊢;exact .inr E)
 ·
  rename_i t l c;have j:=bind_some h;clear h;obtain ⟨Q,C,h⟩:=j;obtain ⟨i,d,z,D⟩:=bV A C;exact fG.full (xf A F hn D (hρ l (by simp)) (hρ c (by simp)) h hbs)
 ·
  rename_i t x lo hi mx;have j:=bind_some h;clear h;obtain ⟨Q,C,h⟩:=j;obtain ⟨i,d,z,D⟩:=bV A C;exact fG.pur F (Gh A K D (hρ x (by simp)) (zq lo fun o Y=>hρ o (by simp at Y;simp [Y])) (zq hi fun o Y=>hρ o (by simp at Y;simp [Y])) (zq mx fun o Y=>hρ o (by simp at Y;simp [Y])) h hbs)
 ·
  rename_i s x f;have j:=bind_some h;clear h;obtain ⟨Q,C,h⟩:=j;obtain ⟨i,d,z,D⟩:=bV A C;split at h
  ·rename_i fs H;have j:=bind_some h;clear h;obtain ⟨⟨o,ft,sz⟩,hf,h⟩:=j;simp only at h;split at h
   ·rename_i hsz;have j:=bind_some h;clear h;obtain ⟨p,hp,h⟩:=j;obtain ⟨rfl,rfl,rfl⟩:=aO h;exact fG.pur F ⟨rfl,yM D H hf hsz (hρ x (by simp)) hp⟩
   ·cases h
  ·cases h
 ·
  rename_i t x f;have j:=bind_some h;clear h;obtain ⟨Q,C,h⟩:=j;obtain ⟨i,d,z,D⟩:=bV A C;exact fG.pur F (Fg A D (hρ x (by simp)) h hbs)
 ·
  rename_i t x ix;have j:=bind_some h;clear h;obtain ⟨Q,C,h⟩:=j;obtain ⟨i,d,z,D⟩:=bV A C;exact fG.pur F (wS A K D (hρ x (by simp)) (hρ ix (by simp)) h hbs)
 ·
  rename_i t x ix;have j:=bind_some h;clear h;obtain ⟨Q,C,h⟩:=j;obtain ⟨i,d,z,D⟩:=bV A C;exact fG.pur F (Fq A D (hρ x (by simp)) (hρ ix (by simp)) h hbs)
 ·
  exact fG.pur F (Dc A (hρ _ (by simp)) h _)
 ·
  rename_i t i;have D:=hρ t (by simp);split at h
  ·rename_i l e;rw [e] at D;have j:=bind_some h;clear h;obtain ⟨x,E,h⟩:=j;obtain ⟨rfl,rfl,rfl⟩:=aO h;simp only [VR] at D;obtain ⟨vs,V,hl⟩:=D;obtain ⟨cv,G,I⟩:=oq hl i E;refine fG.pur F ⟨rfl,cv, ?_,I⟩;rw [V];simp [Instr.extract,G]
  ·cases h
 ·
  rename_i b args U;simp only [Call.operands] at hρ;have hargs:∀ x ∈ args,VR g m S (ρ x) (cρ x):=fun x E=>hρ x (by simp [E])
  split at h
  ·have j:=bind_some h;clear h;obtain ⟨x,E,h⟩:=j;have j:=bind_some h;clear h;obtain ⟨t,R,h⟩:=j;have j:=bind_some h;clear h;obtain ⟨Q,C,h⟩:=j;obtain ⟨i,d,z,D⟩:=bV A C;split at h
   ·rename_i kt et H;have j:=bind_some h;clear h;obtain ⟨q,hqc,h⟩:=j;obtain ⟨rfl,rfl,rfl⟩:=aO h;rw [D.d_eq] at H;have H:=Gm H;subst H;obtain ⟨es,he,hk,_⟩:=uF F K (hargs x (Array.mem_of_getElem? E)) hqc;have Z:es.size=q.1.length:=by
     have:=aW hk;simpa using this.symm
    refine fG.val F (cv:= .int .i64 q.1.length) ?_ (by simp only [VR,PR]);rcases he with ⟨G,I⟩|⟨b,clk,G,I⟩
    ·subst I;simp [resolve,invoke,builtin,Builtin.len_,R,E,run_underlying D.und,G,goInt,← Z]
    ·simp [resolve,invoke,builtin,Builtin.len_,R,E,run_underlying D.und,G,goInt,MapKept.run_getObj_map I,← Z,Result.andThen]
   ·rename_i d hnm;obtain ⟨hu,cv,G,I⟩:=JK (P:=P) (w:=w) (hargs x (Array.mem_of_getElem? E)) D h U R (args.map cρ) (by simp [E]) o.type;subst hu;exact fG.val F (cv:=cv) (by simp [resolve,invoke,builtin,G]) I
  ·split at h
   ·rename_i s x t t1 ha R;have hargs':args=#[s,x]:=by apply Array.ext';simpa using ha
    have hats':U=#[t,t1]:=by apply Array.ext';simpa using R
    subst hargs';subst hats';have j:=bind_some h;clear h;obtain ⟨Q,C,h⟩:=j;have j:=bind_some h;clear h;obtain ⟨ti1,hti1,h⟩:=j;obtain ⟨i,d,z,D⟩:=bV A C;obtain ⟨i1,d1,z1,W⟩:=bV A hti1;have hs:=hargs s (by simp);have E:=hargs x (by simp);have X:ρ s= .nilS→∃ n,uo (ρ x)=some n∧υ n 0=em:=by
     intro e;cases hc:uo (ρ x) with
     | none=>
      exfalso;split at h
      ·rename_i J;rw [J] at hc;simp [uo] at hc
      ·cases h
      ·rename_i y hy1 _ hy2 hy3;have j:=bind_some h;clear h;obtain ⟨te,L,h⟩:=j;unfold uT at h;have j:=bind_some h;clear h;obtain ⟨⟨xs,n,pr⟩,hsrc,h⟩:=j;cases hxx:ρ x<;>simp [hxx,uo] at hc<;>simp [hxx,IY] at hsrc
      ·cases h
     |some n=>exact ⟨n,rfl,hem n (by simp [vC,e,hc])⟩
    split at h
    ·rename_i e y H M hy;have j:=bind_some h;clear h;obtain ⟨te,L,h⟩:=j;obtain ⟨ie,de,ze,O⟩:=bV A L;split at h
     ·rename_i G;rw [D.d_eq] at H;rw [W.d_eq] at M;have H:=eG H;have M:=uM M;subst H;subst M;obtain ⟨cv,N,w',r1,r2,r3,r4⟩:=sZ (P:=P) F K hn D O hs E (tx:=t1) (.inl ⟨⟨y,hy⟩,W.und,aA G⟩) X (by rw [hy];exact h) hbs o.type;exact ⟨.value cv,N,w',by simp [resolve,invoke,builtin,r1],r2,r3,.inl ⟨cv,rfl,r4⟩⟩
     ·cases h
    ·cases h
    ·rename_i e e1 H M hns;have j:=bind_some h;clear h;obtain ⟨te,L,h⟩:=j;obtain ⟨ie,de,ze,O⟩:=bV A L;rw [D.d_eq] at H;rw [W.d_eq] at M;have H:=eG H;have M:=eG M;subst H;subst M;obtain ⟨cv,N,w',r1,r2,r3,r4⟩:=sZ (P:=P) F K hn D O hs E (tx:=t1) (.inr ⟨fun s e=>hns s e,_,W.und⟩) X h hbs o.type;exact ⟨.value cv,N,w',by simp [resolve,invoke,builtin,r1],r2,r3,.inl ⟨cv,rfl,r4⟩⟩
    ·cases h
   ·cases h
  ·
   have j:=bind_some h;clear h;obtain ⟨x,E,h⟩:=j;have j:=bind_some h;clear h;obtain ⟨t,R,h⟩:=j;have j:=bind_some h;clear h;obtain ⟨Q,C,h⟩:=j;obtain ⟨i,d,z,D⟩:=bV A C;split at h
   ·rename_i e H;have j:=bind_some h;clear h;obtain ⟨te,L,h⟩:=j;obtain ⟨ie,de,ze,O⟩:=bV A L;rw [D.d_eq] at H;have H:=eG H;subst H;obtain ⟨N,w',r1,r2,r3,rfl⟩:=EZ (P:=P) F K D O (hargs x (Array.mem_of_getElem? E)) h hbs U R (args.map cρ) (by simp [E]) o.type;exact ⟨.value (.tuple #[]),N,w',by simp [resolve,invoke,builtin,r1],r2,r3,.inl ⟨_,rfl,by simp only [VR];exact ⟨[],rfl,by simp only [aU]⟩⟩⟩
   ·cases h
  ·have j:=bind_some h;clear h;obtain ⟨r,hr,h⟩:=j;obtain ⟨rfl,rfl,rfl⟩:=aO h;obtain ⟨cv,G,I⟩:=Oy (P:=P) (w:=w) (qZ args.toList fun x E=>hargs x (Array.mem_toList_iff.1 E)) hr U o.type;refine fG.val F (cv:=cv) ?_ I;have:(Xvv cρ args.toList).toArray=args.map cρ:=by apply Array.ext';rw [Xxz,Array.toList_map]
   rw [this] at G;simp [resolve,invoke,builtin,G]
  ·have j:=bind_some h;clear h;obtain ⟨r,hr,h⟩:=j;obtain ⟨rfl,rfl,rfl⟩:=aO h;obtain ⟨cv,G,I⟩:=Ox (P:=P) (w:=w) (qZ args.toList fun x E=>hargs x (Array.mem_toList_iff.1 E)) hr U o.type;refine fG.val F (cv:=cv) ?_ I;have:(Xvv cρ args.toList).toArray=args.map cρ:=by apply Array.ext';rw [Xxz,Array.toList_map]
   rw [this] at G;simp [resolve,invoke,builtin,G]
  ·cases h
 ·cases h
end
end AM
namespace AM
open Go
structure Cx.Ok (c:Cx):Prop where
 bs:∀ b ∈ c.bs,b=true
 ps:∀ p ∈ c.ps,p
theorem R.bind_ok {α β:Type} {r:R α} {f:α→Cx→R β} {b:β} {c:Cx} (h:r.bind f= .ok b c):∃ a c1,r= .ok a c1∧f a c1= .ok b c:=by
 cases r with
 |ok a c1=>exact ⟨a,c1,rfl,h⟩
 |need=>simp [R.bind] at h
 |bad n=>simp [R.bind] at h
theorem Fb {c c':Cx} {bs:List Bool} {u:Unit} (h:Uk c bs= .ok u c') (d:c'.Ok):c.Ok∧∀ b ∈ bs,b=true:=by
 unfold Uk at h;split at h
 ·split at h
  ·rename_i a;cases h;exact ⟨d,fun b e=>by simpa using List.all_eq_true.1 a b e⟩
  ·cases h
 ·cases h;exact ⟨⟨fun b a=>d.bs b (by simp [a]),d.ps⟩,fun b a=>d.bs b (by simp [a])⟩
theorem jG {c c':Cx} {b a:Bool} (h:wJ c b= .ok a c') (d:c'.Ok):c.Ok∧a=b:=by
 unfold wJ at h;split at h
 ·cases h;exact ⟨d,rfl⟩
 ·split at h
  ·cases h
  ·rename_i o r _;cases h;have e:=d.bs (lit a b) (by simp);refine ⟨⟨fun x f=>d.bs x (by simp [f]),d.ps⟩, ?_⟩;cases a<;>cases b<;>simp [lit] at e ⊢
theorem fO {l:List Nat} {a:Nat}:kJ l a=true↔a ∈ l:=by
 simp only [kJ,List.any_eq_true];constructor
 ·rintro ⟨x,hx,h⟩;exact aA h ▸ hx
 ·intro h;exact ⟨a,h,Nat.beq_refl a⟩
theorem d_ {α β:Type} {f:α→Option β}:∀ {l:List α} {l':List β},fM f l=some l'→l'.length=l.length∧∀ (i:Nat) x,l[i]? =some x→∃ y,l'[i]? =some y∧f x=some y
 | [],l',h=>by simp [fM] at h;subst h;simp
 | a::r,l',h=>by
  simp only [fM] at h;split at h
  ·rename_i y e;split at h
   ·rename_i q d;cases h;obtain ⟨c,j⟩:=d_ d;refine ⟨by simp [c], ?_⟩;intro i x b;cases i with
    |zero=>simp at b;subst b;exact ⟨y,by simp,e⟩
    |succ i=>simpa using j i x (by simpa using b)
   ·cases h
  ·cases h
section
variable {P:Program} {ap:AP} {g:bJ} {m:aH} {S:az} {w:World}
noncomputable def bU (S:az) (m:aH) (rd:bJ) (w:World):az:=fun k o=>
 match S k o with
 |some v=>some v
 |none=>open Classical in if ∃ b B,rd b=some B∧(m b).1=k∧o<B.cells.length then bW w k o else none
theorem jJ (S:az) (m:aH) (rd:bJ) (w:World):ig S (bU S m rd w):=by
 intro k o v h;simp [bU,h]
theorem dW {rd:bJ} {k o:Nat} {v:Value} (h:bU S m rd w k o=some v):S k o=some v∨(bW w k o=some v∧∃ b B,rd b=some B∧(m b).1=k∧o<B.cells.length):=by
 unfold bU at h;split at h
 ·rename_i d a;cases h;exact .inl a
 ·rename_i e;split at h
  ·rename_i c;exact .inr ⟨h,c⟩
  ·cases h
theorem jX (a:bf ap g m S w) {rd:bJ} {k o:Nat} {v:Value} (h:bU S m rd w k o=some v):bW w k o=some v:=by
 rcases dW h with h|h
 ·exact a.sealed _ _ _ h
 ·exact h.1
theorem OT (c:bf ap g m S w) {rd:bJ} {b:Nat} {B:aP} (d:rd b=some B) {o:Nat} (e:o<B.cells.length) {v:Value} (a:bW w (m b).1 o=some v):bU S m rd w (m b).1 o=some v:=by
 unfold bU;split
 ·rename_i h f;have:=c.sealed _ _ _ f;rw [a] at this;cases this;rfl
 ·rw [if_pos ⟨b,B,d,rfl,e⟩];exact a
theorem Ce (i:bf ap g m S w) {rd:bJ} (d:∀ b B,rd b=some B→g b=some B) {b:Nat} {B:aP} (k:rd b=some B):
  ∃ vs,aU g m S B.cells vs∧(B.pr=true→bi S B.cells vs)∧(∀ j u,vs[j]? =some u→bU S m rd w (m b).1 j=some u)∧vs.length=B.cells.length∧(B.esz ≠ dN→∀ u ∈ vs,u.oneCell'=true):=by
 obtain ⟨⟨cur,e,vs,rest,l,n,o,f,h,q⟩,_,_⟩:=i.blk b B (d b B k);refine ⟨vs,f,o, ?_,(aW f).symm,h⟩;intro j u c;have a:=(List.getElem?_eq_some_iff.1 c).1;refine OT i k (by rw [aW f];exact a) ?_;exact l.get (by rw [n,Xqc a];exact c) (fun p=>h p u (χ c))
theorem wB (f:bf ap g m S w) {rd:bJ} (a:∀ b B,rd b=some B→g b=some B) {b:Nat} {B:aP} (h:rd b=some B) (e:B.esz ≠ dN):
  ∃ vs,aU g m S B.cells vs∧(B.pr=true→bi S B.cells vs)∧iM (bU S m rd w) (m b).1 0 vs∧vs.length=B.cells.length:=by
 obtain ⟨vs,d,l,n,k,i⟩:=Ce f a h;refine ⟨vs,d,l,fun j u c=> ?_,k⟩;rw [Θ];exact ⟨n j u c,i e u (χ c)⟩
theorem Em {S':az} {l:List AV} {y:AV} {vs:List Value} {k:Nat} (h:UU l=some y) (a:bi S' l vs) (hs:∀ j u,vs[j]? =some u→S' k j=some u):PR S' y (.map (some k)):=by
 unfold UU at h;split at h
 ·rename_i ks f;cases h
  match vs,a with
  | [v0,v1],a=>
   simp only [bi,PR,and_true] at a;obtain ⟨⟨e,rfl,d⟩,b,rfl,c⟩:=a;simp only [PR];exact .inr ⟨k,e,b,rfl,hs 0 _ rfl,hs 1 _ rfl,d,c⟩
  | [],a=>simp [bi] at a
  | [_],a=>simp [bi] at a
  |_::_::_::_,a=>simp [bi] at a
 ·cases h
theorem qm {S':az} {f:AV→Option AV} (a:∀ x v y,f x=some y→VR g m S x v→PR S' y v):∀ {l l':List AV} {vs:List Value},fM f l=some l'→aU g m S l vs→bi S' l' vs
 | [],l',[],h,_=>by simp [fM] at h;subst h;simp [bi]
 | x::r,l',v::vs,h,hv=>by
  simp only [fM] at h;simp only [aU] at hv;split at h
  ·rename_i y b;split at h
   ·rename_i q c;cases h;simp only [bi];exact ⟨a x v y b hv.1,qm a c hv.2⟩
   ·cases h
  ·cases h
 | [],_,_::_,_,h=>by simp [aU] at h
 |_::_,_,[],_,h=>by simp [aU] at h
theorem iZ (K:bf ap g m S w) {rd:bJ} (z:∀ b B,rd b=some B→g b=some B):∀ (p:Nat) (x:AV) (v:Value) (y:AV),frz rd p x=some y→VR g m S x v→PR (bU S m rd w) y v:=by
 intro p
 induction p with
 |zero=>intro x v y h;simp [frz] at h
 | succ p ih=>
  intro x v y h f;have D:=jJ S m rd w;have hlist:∀ {l l':List AV} {vs:List Value},fM (frz rd p) l=some l'→aU g m S l vs→bi (bU S m rd w) l' vs:=fun F H=>qm (fun x v y Y f=>ih x v y Y f) F H
  unfold frz at h;simp only at h;split at h
  ·
   rename_i b ver i n;have C:=bind_some h;clear h;obtain ⟨B,E,h⟩:=C;split at h
   ·rename_i d;simp only [VR] at f;obtain ⟨B',k,_,_,q⟩:=f;rw [z b B E] at k;cases k;obtain ⟨o,rfl,M,X,L,G⟩:=q (aA d);obtain ⟨vs,F,H,I,N⟩:=wB K z E G;have hpart:iM (bU S m rd w) (m b).1 o ((vs.drop (i*B.esz)).take (n*B.esz)):=by
     by_cases hi:i<(m b).2
     ·rw [X hi];have:=(I.drop (i*B.esz)).take (n*B.esz);rwa [Θ] at this
     ·have V:n=0:=by omega
      subst V;intro j u T;simp at T
    have s:∀ l,bi (bU S m rd w) l ((vs.drop (i*B.esz)).take (n*B.esz))→PR (bU S m rd w) (.sl l n true) (.slice (some ⟨(m b).1,o,none⟩) n ((m b).2 - i)):=by
     intro l t;simp only [PR];exact ⟨_,_,rfl,by omega,.inr ⟨_,_,_,rfl,t,hpart⟩⟩
    split at h
    ·rename_i A;cases h;exact s _ (jf _ (ny _ (aV D _ (H A))))
    ·simp only [Φ] at h;obtain ⟨l,t,rfl⟩:=h;exact s _ (hlist t (nG _ (qo _ F)))
   ·cases h
  ·
   rename_i b ver J;have C:=bind_some h;clear h;obtain ⟨B,E,h⟩:=C;split at h
   ·rename_i d;simp only [δ,Xqi] at d;have G:B.esz ≠ dN:=fun e=>by rw [e] at d;exact absurd d.2 (by decide)
    simp only [VR] at f;obtain ⟨B',k,_,_,q⟩:=f;rw [z b B E] at k;cases k;have q:=q (aA d.1);subst q;obtain ⟨vs,F,H,I,N⟩:=wB K z E G;have s:∀ l,bi (bU S m rd w) l vs→PR (bU S m rd w) (.pp l J) (.pointer (some ⟨(m b).1,J,none⟩)):=by
     intro l t;simp only [PR];exact ⟨_,0,_,by rw [Θ],t,I⟩
    split at h
    ·rename_i A;cases h;exact s _ (aV D _ (H A))
    ·simp only [Φ] at h;obtain ⟨l,t,rfl⟩:=h;exact s _ (hlist t F)
   ·cases h
  ·
   rename_i b ver;have C:=bind_some h;clear h;obtain ⟨B,E,h⟩:=C;split at h
   ·rename_i d;simp only [δ] at d;simp only [VR] at f;obtain ⟨B',k,_,_,q⟩:=f;rw [z b B E] at k;cases k;have q:=q (aA d.1);subst q;obtain ⟨vs,F,H,I,N,_⟩:=Ce K z E;split at h
    ·rename_i A;exact Em h (aV D _ (H A)) I
    ·have C:=bind_some h;clear h;obtain ⟨l,t,h⟩:=C;exact Em h (hlist t F) I
   ·cases h
  ·simp only [Φ] at h;obtain ⟨l,t,rfl⟩:=h;simp only [VR] at f;obtain ⟨vs,e,q⟩:=f;simp only [PR];exact ⟨vs,e,hlist t q⟩
  ·simp only [Φ] at h;obtain ⟨l,t,rfl⟩:=h;simp only [VR] at f;obtain ⟨vs,e,q⟩:=f;simp only [PR];exact ⟨vs,e,hlist t q⟩
  ·have C:=bind_some h;clear h;obtain ⟨a,Q,h⟩:=C;simp only [Φ] at h;obtain ⟨c,R,rfl⟩:=h;simp only [VR] at f;obtain ⟨O,vc,e,q,r⟩:=f;simp only [PR];exact ⟨O,vc,e,hlist Q q,hlist R r⟩
  ·simp only [Φ] at h;obtain ⟨u,Z,rfl⟩:=h;simp only [VR] at f;obtain ⟨cu,e,q⟩:=f;simp only [PR];exact ⟨cu,e,ih _ _ _ Z q⟩
  ·cases h
  ·rename_i n1 n2 W n3 n4 n5 n6 U;cases h;refine bI D _ ?_;cases x<;>first
    |exact absurd rfl (n1 _ _ _ _)
    |exact absurd rfl (n2 _ _ _)
    |exact absurd rfl (W _ _)
    |exact absurd rfl (n3 _)
    |exact absurd rfl (n4 _)
    |exact absurd rfl (n5 _ _ _)
    |exact absurd rfl (n6 _ _)
    |exact absurd rfl (U _ _ _)
    |(simp only [VR] at f;exact f)
    |(simp only [PR])
end
end AM
