/- The abstract machine over the code of the model, and the proof that it is sound. No conditions. -/
import Derived.Test.YtcjindbblhcopaaGreatDoorM1
import Derived.Laws.BytesString
import Derived.Laws.MakeOwn
import Derived.Laws.OwnMore
set_option linter.unusedSimpArgs false
set_option linter.unusedVariables false
open List renaming foldl_cons→Xjn,length_take→Xqq,nil_append→Xqc,drop_drop→Xjy,map_cons→Xqf,getElem?_map→Xqz,getElem?_take→Xjp,getElem?_append_left→Xxf,mem_of_mem_drop→Xzh,mem_of_mem_take→Xjg,all_cons→Xx2,cons_append→Xq1,append_eq_nil_iff→Xj6,take_append_of_le_length→Xx3,append_assoc→Ψ,toList_toArray→Xw4,size_toArray→Xx8,length_append→θ,length_drop→Xx5,replicate_succ→Xxe,append_nil→Γ,any_cons→Xz1,map_append→Xxt,map_nil→Xxz,ext_getElem?→Xju,getElem?_set→Xzi,map→Xjh,mem_of_getElem?→Xqr
open Bool renaming and_eq_true→σ,not_eq_true'→Xqm
open Nat renaming add_zero→Xq5,beq→Xqo,le_refl→Θ,zero_le→Xxq,zero_add→χ,add_mul→Xxp,lt_irrefl→Xvm
open Option renaming map_some→Xjf,map_eq_some_iff→Xqs
open UInt8 renaming ofNat→Xqi
namespace AM
open Go
section
variable {P:Program} {ap:AP} {g:dM} {m:a_} {S:aU} {w:World}
theorem CU {x:AV} {v:Value} (h:VR g m S x v) (e:∀ y ∈ x.cells,nX y=true):bD g m S x.cells v.cells.toList∧∀ u ∈ v.cells,u.oneCell'=true:=by
 cases x
 case agg l=>
  simp only [VR] at h;obtain ⟨vs,rfl,h⟩:=h;refine ⟨by simpa [Value.cells,AV.cells] using h, ?_⟩;intro u c;simp only [Value.cells] at c;simp only [AV.cells] at e;have:∀ (l:List AV) (vs:List Value),bD g m S l vs→(∀ y ∈ l,nX y=true)→∀ u ∈ vs,u.oneCell'=true:=by
   intro l
   induction l with
   |nil=>intro vs f _ u c;cases vs<;>simp [bD] at f c
   | cons a r ih=>
    intro vs f e u c;cases vs with
    |nil=>simp [bD] at f
    |cons b q=>
     simp only [bD] at f;rcases List.mem_cons.1 c with rfl|c
     ·exact MZ f.1 (e a (by simp))
     ·exact ih q f.2 (fun y i=>e y (by simp [i])) u c
  exact this l vs h e u (by simpa using c)
 all_goals
  have d:=MZ h (e _ (by simp [AV.cells]));have j:v.cells=#[v]:=by cases v<;>simp [Value.cells,Value.oneCell'] at d ⊢
  rw [j];refine ⟨by simp only [AV.cells,bD];exact ⟨h,trivial⟩,by simpa using d⟩
theorem GY:∀ (vs:List Value) (i a:Nat) (cs:Array Value),a+i+vs.length≤cs.size→
  ((vs.zipIdx i).foldl (fun (cs:Array Value) (p:Value × Nat)=>cs.setIfInBounds (a+p.2) p.1) cs).toList=cs.toList.take (a+i)++vs++cs.toList.drop (a+i+vs.length)
 | [],i,a,cs,_=>by simp
 | v::vs,i,a,cs,h=>by
  simp only [List.length_cons] at h;simp only [List.zipIdx_cons,Xjn];rw [GY vs (i+1) a (cs.setIfInBounds (a+i) v) (by simp;omega)];have b:a+i<cs.toList.length:=by simp;omega
  simp only [Array.toList_setIfInBounds];rw [show a+(i+1)=a+i+1 from by omega,List.set_eq_take_append_cons_drop,if_pos b];have e:(cs.toList.take (a+i)++v::cs.toList.drop (a+i+1)).take (a+i+1)=cs.toList.take (a+i)++ [v]:=by
   rw [List.take_append];have c:a+i+1 - (cs.toList.take (a+i)).length=1:=by simp [Xqq];omega
   rw [c];simp [List.take_take]
  have d:(cs.toList.take (a+i)++v::cs.toList.drop (a+i+1)).drop (a+i+1+vs.length)=cs.toList.drop (a+i+(v::vs).length):=by
   rw [List.drop_append];have:(cs.toList.take (a+i)).length=a+i:=by simp [Xqq];omega
   rw [this,List.drop_eq_nil_of_le (by rw [this];omega),Xqc,show a+i+1+vs.length - (a+i)=vs.length+1 from by omega,List.drop_succ_cons,Xjy];congr 1;simp;omega
  rw [e,d];simp
theorem O7 {d vs:List AV} {cs b:List Value} {a:Nat} (h:bD g m S d cs) (c:bD g m S vs b):bD g m S (ja d a vs) (cs.take a++b++cs.drop (a+b.length)):=by
 unfold ja;rw [← dm c];exact iy (iy (ql _ h) c) (tX _ h)
theorem XL {d vs:List AV} {cs b:List Value} {a:Nat} (h:dD S d cs) (c:dD S vs b):dD S (ja d a vs) (cs.take a++b++cs.drop (a+b.length)):=by
 unfold ja;rw [← wZ c];exact lC (lC (kR _ h) c) (qi _ h)
def nJ (g:dM) (m:a_) (S:aU) (place:Nat→Option (Nat × Nat)):List (Nat × Nat × AV)→List (Nat × Value)→Prop
 | [],[]=>True
 |(off,size,v)::r,(i,c)::q=>place i=some (off,size)∧VR g m S v c∧nJ g m S place r q
 |_,_=>False
theorem oZ {place:Nat→Option (Nat × Nat)}:∀ (ps:List (Nat × Nat × AV)) (qs:List (Nat × Value)) (cells cells':List AV) (cs:Array Value),nJ g m S place ps qs→bD g m S cells cs.toList→wP cells ps=some cells'→
  ∃ a,Instr.fill place cs qs=some a∧bD g m S cells' a.toList∧a.size=cs.size
 | [],[],cells,cells',cs,_,hv,h=>by simp [wP] at h;subst h;exact ⟨cs,rfl,hv,rfl⟩
 | (off,size,v)::r,(i,c)::q,cells,cells',cs,hp,hv,h=>by
  simp only [nJ] at hp;simp only [wP] at h;split at h
  ·rename_i n;simp only [σ] at n;obtain ⟨⟨j,k⟩,s⟩:=n;obtain ⟨o,B⟩:=CU hp.2.1 (fun y x=>List.all_eq_true.1 s y x);have u:=dm o;have b:=dm hv;have j:=aO j;have k:=gG k;have A:c.cells.size=size:=by simp only [Array.length_toList] at u;omega
   have f:off+c.cells.size≤cs.size:=by simp only [Array.length_toList] at b;omega
   have l:=GY c.cells.toList 0 off cs (by simpa using f);have d:bD g m S (ja cells off v.cells) ((c.cells.zipIdx.foldl (fun (cs:Array Value) (p:Value × Nat)=>cs.setIfInBounds (off+p.2) p.1) cs)).toList:=by
    rw [← Array.foldl_toList,Array.toList_zipIdx,l];simp only [Xq5];exact O7 hv o
   obtain ⟨a,e,t,z⟩:=oZ r q _ cells' _ hp.2.2 d h;refine ⟨a, ?_,t, ?_⟩
   ·simp only [Instr.fill,hp.1];rw [if_neg (by simp;omega)];exact e
   ·rw [z,← Array.length_toList,← Array.foldl_toList,Array.toList_zipIdx,l];simp;omega
  ·cases h
 | [],_::_,_,_,_,hp,_,_=>by simp [nJ] at hp
 |_::_,[],_,_,_,hp,_,_=>by simp [nJ] at hp
theorem qm {t:Nat} {a:TI} {i:TypeInfo} {d:TypeDesc} {z:Value} (b:BI P t a i d z):bD g m S a.zero z.cells.toList:=by
 rw [b.zcells];exact bY _ (wJ S _)
def xX (g:dM) (m:a_) (S:aU):List (Nat × AV)→List (Nat × Value)→Prop
 | [],[]=>True
 |(i,v)::r,(j,c)::q=>i=j∧VR g m S v c∧xX g m S r q
 |_,_=>False
theorem rP {size:Nat}:∀ {ps:List (Nat × AV)} {qs:List (Nat × Value)},xX g m S ps qs→nJ g m S (fun i=>some (i*size,size)) (ps.map fun (i,v)=>(i*size,size,v)) qs
 | [],[],_=>by simp [nJ]
 |(i,v)::r,(j,c)::q,h=>by
  simp only [xX] at h;obtain ⟨rfl,b,a⟩:=h;simp only [Xqf,nJ];exact ⟨trivial,b,rP a⟩
 | [],_::_,h=>by simp [xX] at h
 |_::_,[],h=>by simp [xX] at h
theorem AL {a:List (Nat × Nat × Nat)} {place:Nat→Option (Nat × Nat)} (hp:∀ i x,a[i]? =some x→place i=some (x.1,x.2.2)):∀ {ps:List (Nat × AV)} {qs:List (Nat × Value)} {rs:List (Nat × Nat × AV)},xX g m S ps qs→
  kP (fun (q:Nat × AV)=>(a[q.1]?).map fun (x:Nat × Nat × Nat)=>(x.1,x.2.2,q.2)) ps=some rs→nJ g m S place rs qs
 | [],[],rs,_,h=>by simp [kP] at h;subst h;simp [nJ]
 | (i,v)::r,(j,c)::q,rs,hn,h=>by
  simp only [xX] at hn;obtain ⟨rfl,f,e⟩:=hn;simp only [kP] at h;cases b:a[i]? with
  |none=>simp [b] at h
  | some x=>
   simp only [b,Xjf] at h;split at h
   ·rename_i l d;cases h;simp only [nJ];exact ⟨hp i x b,f,AL hp e d⟩
   ·cases h
 | [],_::_,_,h,_=>by simp [xX] at h
 |_::_,[],_,h,_=>by simp [xX] at h
theorem AC:∀ (fields:List Field),(∀ f ∈ fields,(P.info? f.type).isSome)→fields.mapM (fun f=>(P.info? f.type).map fun i=>(f.offset,i.size))=some (fields.map fun f=>(f.offset,match P.info? f.type with|some i=>i.size|none=>0))
 | [],_=>rfl
 | f::r,h=>by
  cases a:P.info? f.type with
  |none=>have:=h f (by simp);simp [a] at this
  |some i=>
   simp [List.mapM_cons,a,AC r (fun f b=>h f (by simp [b]))]
theorem Iy (q:iM P ap) {t:Nat} {l:TI} {i:TypeInfo} {d:TypeDesc} {z:Value} (b:BI P t l i d z) {ps:List (Nat × AV)} {qs:Array (Nat × Value)} (A:xX g m S ps qs.toList) {v:AV} {ups:List (Nat × bi)} {bs:List Bool}
  (h:Nq ap l ps=some (v,ups,bs)):ups= []∧∃ cv,(Instr.build t qs).run P w= .ok cv w∧VR g m S v cv:=by
 unfold Nq at h;split at h
 ·rename_i G hd;have k:=bind_some h;clear h;obtain ⟨D,s,h⟩:=k;have k:=bind_some h;clear h;obtain ⟨cs,j,h⟩:=k;obtain ⟨rfl,rfl,rfl⟩:=aT h;rw [b.d_eq] at hd;obtain ⟨fields,rfl,rfl⟩:=vX hd;by_cases hall:∀ f ∈ fields.toList,(P.info? f.type).isSome
  ·have o:=AC fields.toList hall;have u:=AL (place:=((fields.toList.map fun f=>(f.offset,match P.info? f.type with|some i=>i.size|none=>0)).toArray[·]?)) (by
    intro i x B;simp only [Xqz,Xqs] at B;obtain ⟨f,r,rfl⟩:=B;simp [r];rfl) A s
   obtain ⟨a,y,p,_⟩:=oZ D qs.toList l.zero cs z.cells u (qm b) j;refine ⟨rfl,.agg a,run_build w t qs a ?_, ?_⟩
   ·simp only [Program.built,b.info,b.und,b.zero];rw [o];exact y
   ·simp only [VR];exact ⟨a.toList,by simp,p⟩
  ·exfalso;apply hall;intro f r;have:=b.fld;simp only [UX] at this;exact List.all_eq_true.1 this f r
 ·rename_i n e hd;have k:=bind_some h;clear h;obtain ⟨C,c,h⟩:=k;have k:=bind_some h;clear h;obtain ⟨cs,j,h⟩:=k;obtain ⟨rfl,rfl,rfl⟩:=aT h;obtain ⟨E,H,F,c⟩:=eQ q c;rw [b.d_eq] at hd;have hd:=yY hd;subst hd;obtain ⟨a,y,p,_⟩:=oZ _ qs.toList l.zero cs z.cells (rP (size:=C.size) A) (qm b) j;refine ⟨rfl,.agg a,run_build w t qs a ?_, ?_⟩
  ·simp only [Program.built,b.info,b.und,b.zero,c.info];rw [← c.size];exact y
  ·simp only [VR];exact ⟨a.toList,by simp,p⟩
 ·cases h
end
end AM
namespace AM
open Go
section
variable {P:Program} {ap:AP} {g:dM} {m:a_} {S:aU} {w:World}
theorem xG {t:Nat} {k:TI} {i:TypeInfo} {d:TypeDesc} {z:Value} (f:BI P t k i d z) {v:AV} (h:qI k k.zero=some v):VR g m S v z:=by
 have b:=qm (g:=g) (m:=m) (S:=S) f;have e:=f.zagg;unfold qI at h;rw [f.d_eq,Fp] at h;unfold aeY at e;rw [f.zero] at e;split at h
 ·rename_i a;cases h;cases d<;>simp [TypeDesc.isRow] at a<;>cases z<;>simp at e
  all_goals
   simp only [VR];exact ⟨_,rfl,by simpa [Value.cells] using b⟩
 ·rename_i a;split at h
  ·rename_i c l;cases h;have j:z.cells=#[z]:=by
    cases z<;>first|rfl|skip
    cases d<;>simp [TypeDesc.isRow] at a e
   rw [l,j] at b;simp only [bD] at b;exact b.1
  ·cases h
theorem F8 (q:iM P ap) {x v:AV} {D:Value} (o:VR g m S x D) {asserted:Nat} {ok:Bool} {ups:List (Nat × bi)} {bs:List Bool} (h:Iq ap x asserted ok=some (v,ups,bs)) (B:Nat):
  ups= []∧∃ cv,(Instr.typeAssert D B asserted ok).run P w= .ok cv w∧VR g m S v cv:=by
 unfold Iq at h;have n:=bind_some h;clear h;obtain ⟨F,y,h⟩:=n;obtain ⟨i,d,z,b⟩:=eQ q y;have a:∀ C,d ≠ .interface C:=by
  intro C e;subst e;rw [b.d_eq] at h;simp [kw] at h
 have key:∀ (c:Value),(∃ t u,c= .iface t u∧t ≠ asserted)∨c= .nilIface→∀ l,VR g m S l z→ok=true→(Instr.typeAssert c B asserted ok).run P w= .ok (.tuple #[z,.bool false]) w:=by
  intro c E l _ s;subst s;rcases E with ⟨t,u,rfl,k⟩|rfl
  ·cases d<;>first|exact absurd rfl (a _)|simp [Instr.typeAssert,run_underlying b.und,k,zeroValue,typeInfo,b.info,b.zero]
  ·cases d<;>first|exact absurd rfl (a _)|simp [Instr.typeAssert,run_underlying b.und,zeroValue,typeInfo,b.info,b.zero]
 split at h
 ·cases h
 ·split at h
  ·rename_i t u;simp only [VR] at o;obtain ⟨p,rfl,A⟩:=o;split at h
   ·rename_i f;have f:=aO f;subst f;obtain ⟨rfl,rfl,rfl⟩:=aT h;cases ok
    ·refine ⟨rfl,p, ?_,A⟩;cases d<;>first|exact absurd rfl (a _)|simp [Instr.typeAssert,run_underlying b.und]
    ·refine ⟨rfl,.tuple #[p,.bool true], ?_, ?_⟩
     ·cases d<;>first|exact absurd rfl (a _)|simp [Instr.typeAssert,run_underlying b.und]
     ·simp only [VR];exact ⟨[p,.bool true],rfl,by simp only [bD,VR,PR];exact ⟨A,trivial,trivial⟩⟩
   ·rename_i f;have k:t ≠ asserted:=by intro e;subst e;simp at f
    cases ok
    ·cases h
    ·simp only at h;have n:=bind_some h;clear h;obtain ⟨l,r,h⟩:=n;obtain ⟨rfl,rfl,rfl⟩:=aT h;have j:=xG (g:=g) (m:=m) (S:=S) b r;refine ⟨rfl,_,key _ (.inl ⟨_,_,rfl,k⟩) l j rfl, ?_⟩;simp only [VR];exact ⟨[z,.bool false],rfl,by simp only [bD,VR,PR];exact ⟨j,trivial,trivial⟩⟩
  ·simp only [VR,PR] at o;subst o;cases ok
   ·cases h
   ·simp only at h;have n:=bind_some h;clear h;obtain ⟨l,r,h⟩:=n;obtain ⟨rfl,rfl,rfl⟩:=aT h;have j:=xG (g:=g) (m:=m) (S:=S) b r;refine ⟨rfl,_,key _ (.inr rfl) l j rfl, ?_⟩;simp only [VR];exact ⟨[z,.bool false],rfl,by simp only [bD,VR,PR];exact ⟨j,trivial,trivial⟩⟩
  ·cases h
theorem su (M:cZ ap g m S w) {rd:dM} (J:∀ b B,rd b=some B→g b=some B) {size:Nat} {x:AV} {R:Value} (i:VR g m S x R) {E:List AV} {n:Nat} {pr:Bool} (h:L8 size rd x=some (E,n,pr)) (Q:E.length=n*size)
  {tx:Nat} (hk:((∃ s,x= .str s)∧P.underlying tx=some .string∧size=1)∨((∀ s,x ≠ .str s)∧∃ e,P.underlying tx=some (.slice e))):
  ∃ news,Src P size tx R n news w∧bD g m S E news∧(pr=true→dD S E news):=by
 unfold L8 at h;split at h
 ·rename_i W X nn;cases h;obtain ⟨_,e,d⟩:=hk.resolve_left (by rintro ⟨⟨s,hs⟩,_⟩;cases hs);simp only [VR,PR] at i;obtain ⟨a,H,rfl,U,q⟩:=i;rcases q with ⟨_,rfl,rfl,rfl⟩|⟨b,o,vs,rfl,hp,hs⟩
  ·cases a with
   |none=>exact ⟨[],Src.ofNil w d 0,by simp [bD],fun _=>by simp [dD]⟩
   |some p=>exact ⟨[],Src.ofSlice w d p 0 0 [] (by simp) (fun j u c=>by simp at c) (fun u l=>by simp at l),by simp [bD],fun _=>by simp [dD]⟩
  ·refine ⟨vs,Src.ofSlice w d ⟨b,o,none⟩ n H vs (by rw [← wZ hp,Q]) (fun j u c=>by rw [Addr.add_mid];exact M.one (hs j u c).1 (hs j u c).2) ?_,bY _ hp,fun _=>hp⟩;intro u l;obtain ⟨j,c⟩:=List.getElem?_of_mem l;exact (hs j u c).2
 ·cases h;obtain ⟨_,e,d⟩:=hk.resolve_left (by rintro ⟨⟨s,hs⟩,_⟩;cases hs);simp only [VR,PR] at i;subst i;exact ⟨[],Src.ofNil w d 0,by simp [bD],fun _=>by simp [dD]⟩
 ·rename_i s;cases h;obtain ⟨_,d,L⟩:=hk.resolve_right (by rintro ⟨hs,_⟩;exact hs s rfl);simp only [VR,PR] at i;subst i;subst L;have hp:∀ s:List UInt8,dD S (s.map fun b=>AV.int .u8 b.toNat) (s.map fun b=>Value.int .u8 b.toNat):=by
   intro s
   induction s with
   |nil=>simp [dD]
   |cons a r ih=>simp only [Xqf,dD,PR];exact ⟨trivial,ih⟩
  have f:=Src.ofString (P:=P) w d ⟨s.toArray⟩;have hb:byteCells ⟨s.toArray⟩=s.map fun b=>Value.int .u8 b.toNat:=by simp [byteCells]
  rw [hb,yV] at f;exact ⟨_,f,bY _ (hp s),fun _=>hp s⟩
 ·rename_i b ver j X;have Z:=bind_some h;clear h;obtain ⟨B,Y,h⟩:=Z;split at h
  ·rename_i z;cases h;simp only [σ,Xqm] at z;obtain ⟨z,C⟩:=z;have y:B.esz ≠ iU:=fun e=>by rw [e] at C;exact absurd C (by decide)
   obtain ⟨_,e,d⟩:=hk.resolve_left (by rintro ⟨⟨s,hs⟩,_⟩;cases hs);simp only [VR] at i;obtain ⟨B',D,_,_,q⟩:=i;have v:=J b B Y;rw [v] at D;cases D;obtain ⟨o,rfl,q1,V,q3⟩:=q (aO z.1);have F:=aO z.2;obtain ⟨cur,e',vs,rest,k,A,hp,G,I,N⟩:=(M.blk b B v).lies;have k:=k.cells y;have I:=I y;have O:=dm G;have K:((vs.drop (j*size)).take (n*size)).length=n*size:=by
    rw [← dm (ql _ (tX _ G))];exact Q
   by_cases hn:n=0
   ·subst hn;have T:(vs.drop (j*size)).take (0*size)= []:=by simp
    refine ⟨[], ?_, ?_, ?_⟩
    ·exact Src.ofSlice w d _ 0 _ [] (by simp) (fun _ _ h=>by simp at h) (fun _ h=>by simp at h)
    ·simp [bD]
    ·intro _;simp [dD]
   ·have t:=V (by omega);refine ⟨(vs.drop (j*size)).take (n*size),Src.ofSlice w d _ n _ _ K ?_ ?_,ql _ (tX _ G),fun pr=>kR _ (qi _ (hp pr))⟩
    ·intro jj u c;rw [t,Addr.add_mid,F,ug k,A];rw [Xjp] at c;split at c
     ·rw [List.getElem?_drop] at c;rw [Xxf (List.getElem?_eq_some_iff.1 c).1];exact c
     ·cases c
    ·intro u l;exact I u (Xzh (Xjg l))
  ·cases h
 ·cases h
theorem Hr:∀ (a:List Int) (s:List UInt8),a.foldl (fun (r:ByteArray) n=>r.push (Xqi n.toNat)) ⟨s.toArray⟩=⟨(s++a.map fun n=>Xqi n.toNat).toArray⟩
 | [],s=>by simp
 |n::a,s=>by
  simp only [Xjn];have e:(⟨s.toArray⟩:ByteArray).push (Xqi n.toNat)=⟨(s++ [Xqi n.toNat]).toArray⟩:=by simp [ByteArray.push]
  rw [e,Hr a];simp
theorem Dp (C:iM P ap) (X:cZ ap g m S w) {rd:dM} (N:∀ b B,rd b=some B→g b=some B) {s d:Nat} {V U:TI} (K:ap.tyAt s=some V) (L:ap.tyAt d=some U) {x v:AV} {Q:Value} (G:VR g m S x Q) {ups:List (Nat × bi)} {bs:List Bool}
  (h:Dn ap V U rd x=some (v,ups,bs)) (hbs:∀ b ∈ bs,b=true):ups= []∧∃ cv,(convert s d Q).run P w= .ok cv w∧VR g m S v cv:=by
 obtain ⟨i1,d1,z1,E⟩:=eQ C K;obtain ⟨i2,d2,z2,D⟩:=eQ C L;unfold Dn at h;split at h
 ·rename_i k k' n hd;obtain ⟨rfl,rfl,rfl⟩:=aT h;rw [D.d_eq] at hd;have hd:=Xi hd;subst hd;simp only [VR,PR] at G;subst G;exact ⟨rfl,_,by simp [convert,run_underlying E.und,run_underlying D.und,Conv.intToInt];rfl,by simp only [VR,PR]⟩
 ·rename_i s' j i;obtain ⟨rfl,rfl,rfl⟩:=aT h;rw [E.d_eq] at j;rw [D.d_eq] at i;have j:=xP j;have i:=xP i;subst j;subst i;simp only [VR,PR] at G;subst G;exact ⟨rfl,_,by simp [convert,run_underlying E.und,run_underlying D.und];rfl,by simp only [VR,PR]⟩
 ·rename_i x0 e j i;have O:=bind_some h;clear h;obtain ⟨te,t,h⟩:=O;obtain ⟨ie,de,ze,t⟩:=eQ C t;split at h
  ·cases h
  ·rename_i Z xt xb u A;have O:=bind_some h;clear h;obtain ⟨⟨p,n,pr⟩,z,h⟩:=O;obtain ⟨rfl,rfl,rfl⟩:=aT h;obtain ⟨T,J⟩:=dB hbs;obtain ⟨J,_⟩:=dB J;rw [E.d_eq] at j;rw [D.d_eq] at i;have j:=ig j;have i:=xP i;subst j;subst i;rw [t.d_eq] at u;have u:=Xi u;subst u;have T:=aO T;obtain ⟨f,hs,Y,_⟩:=su (P:=P) X N G z (by omega) (tx:=s) (.inr ⟨fun s e=>A s e,e,E.und⟩);have F:f=(p.map AV.toInt).map (Value.int .u8):=by
    have:∀ (p:List AV) (f:List Value),bD g m S p f→p.all (chk (.int .u8))=true→f=(p.map AV.toInt).map (Value.int .u8):=by
     intro p
     induction p with
     |nil=>intro f h _;cases f<;>simp [bD] at h ⊢
     | cons a r ih=>
      intro f h H;cases f with
      |nil=>simp [bD] at h
      |cons c q=>
       simp only [bD] at h;simp only [Xx2,σ] at H;rw [Xqf,Xqf,ih q h.2 H.2];congr 1;cases a<;>simp [chk] at H
       simp only [VR,PR] at h;rw [h.1,gy H.1];rfl
    exact this p f Y J
   refine ⟨rfl,.string ⟨((p.map AV.toInt).map fun n=>Xqi n.toNat).toArray⟩, ?_, ?_⟩
   ·have hcells:=hs.cells;have y:=hs.len w;have o:=G;cases Q
    case slice a l c=>
     have hl:l=n:=by simpa [Builtin.lenOf] using y
     subst hl;cases a with
     | none=>
      have M:f= []:=by simpa [Builtin.firstCells] using hcells.symm
      rw [M] at F;have I:p= []:=by
       have:(p.map AV.toInt).map (Value.int .u8)= []:=F.symm;simpa using this
      subst I;simp [convert,run_underlying E.und,run_underlying D.und,run_underlying t.und,Conv.bytesToString];rfl
     | some a=>
      have R:(loadCells a l).run P w= .ok ((p.map AV.toInt).map (Value.int .u8)).toArray w:=by
       rw [← F];simpa [Builtin.firstCells] using hcells
      have W:=run_bytesToString (P:=P) w a l c _ R;rw [show ByteArray.empty=⟨([]:List UInt8).toArray⟩ from rfl,Hr,Xqc] at W;simp only [convert,Sem.run_bind,run_underlying E.und,run_underlying D.und,run_underlying t.und,Result.andThen_ok];exact W
    all_goals (simp [Builtin.lenOf] at y)
    case string s0=>
     exfalso;cases Z<;>simp [L8] at z
     case str s1=>exact A s1 rfl
     case nilS=>simp only [VR,PR] at o;cases o
     case sl a b c=>simp only [VR,PR] at o;obtain ⟨_,_,h,_⟩:=o;cases h
     case ref a b c d=>simp only [VR] at o;obtain ⟨_,_,_,⟨_,_,_,h⟩,_⟩:=o;cases h
   ·simp only [VR,PR];simp [List.map_map,Function.comp_def]
  ·cases h
 ·cases h
end
end AM
namespace AM
open Go
def dW (g:dM) (ups:List (Nat × bi)):dM:=fun b=>match aG ups b with|some B=>some B|none=>g b
def kQ (m:a_) (b:Nat) (x:Nat × Nat):a_:=fun c=>if c=b then x else m c
theorem gZ {α:Type}:∀ (a b:List (Nat × α)) (t:Nat),aG (a++b) t=match aG a t with|some x=>some x|none=>aG b t
 | [],b,t=>rfl
 |(u,x)::r,b,t=>by
  simp only [Xq1,aG];split
  ·rfl
  ·exact gZ r b t
theorem kM (ups:List (Nat × bi)) (hp:Hp):dW (aG hp) ups=aG (ups++hp):=by
 funext b;rw [gZ];unfold dW;cases aG ups b<;>rfl
theorem fQ (g:dM):dW g []=g:=rfl
theorem mf (g:dM) (b:Nat) (B:bi) (c:Nat):dW g [(b,B)] c=if c=b then some B else g c:=by
 simp only [dW,aG];by_cases h:c=b
 ·subst h;simp
 ·have:Xqo b c=false:=by
   cases a:Xqo b c with
   |false=>rfl
   |true=>exact absurd (aO a).symm h
  rw [this,if_neg h]
section
variable {P:Program} {ap:AP} {g:dM} {m:a_} {S:aU} {w:World}
theorem QP.mono {g g':dM} {m b:a_} {S S':aU} {w w':World} {B:bi} {k c:Nat} (h:QP g m S w B k c) (a:mY S S') (l:Ge g m g' b) (d:w'.heap[k]? =w.heap[k]?):QP g' b S' w' B k c:=by
 obtain ⟨⟨cur,e,vs,rest,r,q,s,f,o,j⟩,n,i⟩:=h;exact ⟨⟨cur,e,vs,rest,r.same d,q,fun p=>bM a _ (s p),lW a l _ f,o,j⟩,n,i⟩
theorem cZ.seal_lt (h:cZ ap g m S w) {k o:Nat} {v:Value} (a:S k o=some v):k<w.heap.size:=J_ (h.sealed k o v a)
theorem cZ.put (h:cZ ap g m S w) (b:Nat) (B:bi) (k c:Nat) {w':World}
  (j:w.heap.size≤k∨∃ B0,g b=some B0∧k=(m b).1) (hw:w.grownBy w' (some k)) (hblk:QP g m S w' B k c)
  (hge:∀ B0,g b=some B0→B.esz=B0.esz∧((B.ver=B0.ver∧(k,c)=m b)∨B0.ver<B.ver))
  (hseal:∀ o v,S k o=some v→dU w' k o=some v∧B.fro=true∧o<B.fz):
  cZ ap (dW g [(b,B)]) (kQ m b (k,c)) S w'∧Fr g m S w (dW g [(b,B)]) (kQ m b (k,c)) S w':=by
 have t:Ge g m (dW g [(b,B)]) (kQ m b (k,c)):=by
  intro f B1 n;by_cases e:f=b
  ·subst e;obtain ⟨a,i⟩:=hge B1 n;refine ⟨B,by rw [mf,if_pos rfl],a, ?_⟩;rcases i with ⟨i,D⟩|i
   ·exact .inl ⟨i,by simp [kQ,D]⟩
   ·exact .inr i
  ·exact ⟨B1,by rw [mf,if_neg e];exact n,rfl,.inl ⟨rfl,by simp [kQ,e]⟩⟩
 have s:∀ f B1,g f=some B1→f ≠ b→(m f).1 ≠ k:=by
  intro f B1 n A e;have r:=h.lt n;rcases j with j|⟨B0,p,j⟩
  ·omega
  ·exact A (h.inj f b B1 B0 n p (e.trans j))
 have l:∀ k0,k0<w.heap.size→k0 ≠ k→w'.heap[k0]? =w.heap[k0]? :=fun k0 r y=>hw.block k0 r (by simpa using y)
 constructor
 ·refine ⟨?_, ?_, ?_, ?_,h.glob⟩
  ·intro f z B1 B2 d x u;rw [mf] at d x;by_cases a:f=b<;>by_cases i:z=b
   ·rw [a,i]
   ·rw [if_neg i] at x;simp only [kQ,a,if_true,if_neg i] at u;exact absurd u.symm (s z B2 x i)
   ·rw [if_neg a] at d;simp only [kQ,i,if_true,if_neg a] at u;exact absurd u (s f B1 d a)
   ·rw [if_neg a] at d;rw [if_neg i] at x;simp only [kQ,if_neg a,if_neg i] at u;exact h.inj f z B1 B2 d x u
  ·intro f B1 d;rw [mf] at d;by_cases a:f=b
   ·rw [if_pos a] at d;cases d;simp only [kQ,if_pos a];exact hblk.mono (mY.refl S) t rfl
   ·rw [if_neg a] at d;simp only [kQ,if_neg a];exact (h.blk f B1 d).mono (mY.refl S) t (l _ (h.lt d) (s f B1 d a))
  ·intro k0 o v q;by_cases e:k0=k
   ·subst e;exact (hseal o v q).1
   ·rw [Nr (l k0 (h.seal_lt q) e)];exact h.sealed k0 o v q
  ·intro f B1 d o v q;rw [mf] at d;by_cases a:f=b
   ·rw [if_pos a] at d;cases d;simp only [kQ,if_pos a] at q;exact (hseal o v q).2
   ·rw [if_neg a] at d;simp only [kQ,if_neg a] at q;exact h.own f B1 d o v q
 ·refine ⟨t,mY.refl S,hw.os,hw.tape,hw.output,hw.size, ?_, ?_,fun _ _ _ q=> .inl q⟩
  ·intro k0 r C;refine l k0 r (fun e=> ?_);subst e;rcases j with j|⟨B0,p,j⟩
   ·omega
   ·exact C b B0 p j.symm
  ·intro f B1 d;rw [mf] at d;by_cases a:f=b
   ·subst a;rcases j with j|⟨B0,p,j⟩
    ·exact .inl (by simpa [kQ] using j)
    ·exact .inr ⟨B0,p,by simp [kQ,j]⟩
   ·rw [if_neg a] at d;exact .inr ⟨B1,d,by simp [kQ,a]⟩
end
mutual
theorem JW {g:dM} {m:a_} {S:aU}:∀ (x:AV) {v:Value},VR g m S x v→eX x= []→PR S x v
 | .int _ _,_,p,_=>by simpa only [VR] using p
 | .bool _,_,p,_=>by simpa only [VR] using p
 | .str _,_,p,_=>by simpa only [VR] using p
 | .nilS,_,p,_=>by simpa only [VR] using p
 | .nilP,_,p,_=>by simpa only [VR] using p
 | .nilF,_,p,_=>by simpa only [VR] using p
 | .nilI,_,p,_=>by simpa only [VR] using p
 | .sl _ _ _,_,p,_=>by simpa only [VR] using p
 | .pp _ _,_,p,_=>by simpa only [VR] using p
 | .mp _ _,_,p,_=>by simpa only [VR] using p
 | .dead,_,_,_=>by simp only [PR]
 | .own _ _ _,_,p,_=>by simp only [VR] at p
 | .ref _ _ _ _,_,_,h=>by simp [eX] at h
 | .ptr _ _ _,_,_,h=>by simp [eX] at h
 | .mr _ _,_,_,h=>by simp [eX] at h
 | .agg l,_,p,h=>by
  simp only [VR] at p;simp only [PR];simp only [eX] at h;obtain ⟨vs,e,q⟩:=p;exact ⟨vs,e,gq l q h⟩
 | .tup l,_,p,h=>by
  simp only [VR] at p;simp only [PR];simp only [eX] at h;obtain ⟨vs,e,q⟩:=p;exact ⟨vs,e,gq l q h⟩
 | .fn f a c,_,p,h=>by
  simp only [VR] at p;simp only [PR];simp only [eX,Xj6] at h;obtain ⟨d,b,e,q,r⟩:=p;exact ⟨d,b,e,gq a q h.1,gq c r h.2⟩
 | .ifc t x,_,p,h=>by
  simp only [VR] at p;simp only [PR];simp only [eX] at h;obtain ⟨u,e,q⟩:=p;exact ⟨u,e,JW x q h⟩
theorem gq {g:dM} {m:a_} {S:aU}:∀ (l:List AV) {vs:List Value},bD g m S l vs→cO l= []→dD S l vs
 | [],[],_,_=>by simp only [dD]
 |x::r,v::vs,p,h=>by simp only [bD] at p;simp only [cO,Xj6] at h;simp only [dD];exact ⟨JW x p.1 h.1,gq r p.2 h.2⟩
 | [],_::_,p,_=>by simp [bD] at p
 |_::_,[],p,_=>by simp [bD] at p
end
section
variable {P:Program} {ap:AP} {g:dM} {m:a_} {S:aU} {w:World}
theorem qy {α:Type} {l:List α} (h:l.isEmpty=true):l= []:=by cases l<;>simp at h ⊢
theorem cZ.fresh (h:cZ ap g m S w) {nid:Nat} (f:g nid=none) (B:bi) (j:B.esz ≠ iU) (c:Nat) {w':World} {cur:Array Value} {e:TypeId} (a:w.grownBy w' none) (b:w'.heap[w.heap.size]? =some (.cells cur e (0,0)))
  (hver:B.fro=false→B.fz=0) (hfz:B.fz≤B.cells.length) {vs rest:List Value} (hc:cur.toList=vs++rest) (hp:B.pr=true→dD S B.cells vs) (d:bD g m S B.cells vs) (h1:∀ u ∈ vs,u.oneCell'=true) (hcap:0<B.esz→cur.size=c*B.esz∧c≤maxLen):
  cZ ap (dW g [(nid,B)]) (kQ m nid (w.heap.size,c)) S w'∧Fr g m S w (dW g [(nid,B)]) (kQ m nid (w.heap.size,c)) S w':=by
 refine h.put nid B w.heap.size c (.inl (Θ _)) ⟨a.os,a.tape,a.output,a.size,fun k i _=>a.block k i (by simp)⟩ ⟨⟨cur,e,vs,rest,jI.of j b,hc,hp,d,fun _=>h1,fun h0 _=>hcap h0⟩,hver,hfz⟩ (fun B0 h0=>by rw [f] at h0;cases h0) ?_;intro o v d;have:=h.seal_lt d;omega
theorem Gz (h:cZ ap g m S w) {nid:Nat} (c:g nid=none) {cells:List AV} {cv:Value} (a:bD g m S cells cv.cells.toList) (_hl:∀ x ∈ cells,nX x=true) (f:∀ u ∈ cv.cells,u.oneCell'=true) (t:TypeId):
  ∃ m' w',(newVar t cv).run P w= .ok ⟨w.heap.size,0,none⟩ w'∧cZ ap (dW g [jo nid cells 0]) m' S w'∧Fr g m S w (dW g [jo nid cells 0]) m' S w'∧(m' nid).1=w.heap.size:=by
 have b:=h.fresh (nid:=nid) c (jo nid cells 0).2 (by show 0 ≠ iU;decide) 0 (w':=w.alloc (.cells cv.cells t)) (cur:=cv.cells) (e:=t) (World.grownBy_alloc w _ none) (heap_alloc_new w _) (fun _=>rfl) (Xxq _) (vs:=cv.cells.toList) (rest:= []) (by simp)
  (fun hp=>gq _ a (qy hp)) a (fun u d=>f u (by simpa using d)) (fun h=>by simp [jo] at h)
 refine ⟨_,_, ?_,b.1,b.2,by simp [kQ]⟩;simp [newVar,newRow]
theorem Qi {b:a_} {nid:Nat} {cells:List AV} {a k:Nat} (c:(b nid).1=k):VR (dW g [jo nid cells a]) b S (.ptr nid 0 0) (.pointer (some ⟨k,0,none⟩)):=by
 simp only [VR];refine ⟨(jo nid cells a).2, ?_,Xxq _,⟨_,_,rfl⟩,fun _=>by rw [c]⟩;show dW g [(nid,(jo nid cells a).2)] nid=_;rw [mf,if_pos rfl]
theorem JE (h:cZ ap g m S w) {rd:dM} (J:∀ b B,rd b=some B→g b=some B) {t:Nat} {Q:TI} {i:TypeInfo} {d:TypeDesc} {z:Value} (R:BI P t Q i d z) {p x v:AV} {K c:Value} (hp:VR g m S p K) (hx:VR g m S x c)
  {ups:List (Nat × bi)} {bs:List Bool} (hs:OQ Q rd p x=some (v,ups,bs)) (hbs:∀ b ∈ bs,b=true):
  v= .dead∧∃ m' w',(Instr.storeAt t K c).run P w= .ok () w'∧cZ ap (dW g ups) m' S w'∧Fr g m S w (dW g ups) m' S w':=by
 unfold OQ at hs;split at hs
 ·rename_i b ver a;have hq:=bind_some hs;clear hs;obtain ⟨B,hB,hs⟩:=hq;simp only at hs;split at hs
  ·rename_i O;simp only [σ,Xqm] at O;obtain ⟨⟨⟨⟨V,X⟩,U⟩,c4⟩,T⟩:=O;have l:B.esz ≠ iU:=fun e=>by rw [e] at T;exact absurd T (by decide)
   cases hs;have j:=J b B hB;have D:=aO V;have N:=aO U;have M:=gG (hbs _ (List.mem_singleton.2 rfl));simp only [VR] at hp;obtain ⟨B',G,_,_,q⟩:=hp;rw [j] at G;cases G;have q:=q D;subst q;obtain ⟨r,C⟩:=CU hx (fun y hy=>List.all_eq_true.1 c4 y hy);obtain ⟨⟨cur,e,vs,rest,k1,k2,k3,k4,k5,k6⟩,k7,k8⟩:=h.blk b B j;have k1:=k1.cells l;have k5:=k5 l;have s:=dm r;have L:=dm k4;have H:c.cells.size=i.size:=by simp only [Array.length_toList] at s;rw [← R.size];omega
   have F:cur.toList.length=vs.length+rest.length:=by rw [k2];simp
   have I:=run_storeCells_at P (m b).1 a e c.cells.toList 0 cur w k1 (by simp only [Array.length_toList] at s F ⊢;omega) (fun u f=>C u (by simpa using f));simp only [Xq5] at I;have hnewl:(cur.toList.take a++c.cells.toList++cur.toList.drop (a+c.cells.toList.length))=(vs.take a++c.cells.toList++vs.drop (a+c.cells.toList.length))++rest:=by
    rw [k2,Xx3 (by omega),List.drop_append_of_le_length (by omega)];simp [Ψ]
   have n:=h.put b {B with cells:=ja B.cells a x.cells,pr:=B.pr && (cO x.cells).isEmpty} (m b).1 (m b).2 (w':=w.setRow (m b).1 (cur.toList.take a++c.cells.toList++cur.toList.drop (a+c.cells.toList.length)).toArray)
    (.inr ⟨B,j,rfl⟩) ⟨rfl,rfl,rfl,by simp,fun k _ hk=>setRow_other w _ k _ (fun e=>hk (by rw [e]))⟩
    ⟨⟨_,e,vs.take a++c.cells.toList++vs.drop (a+c.cells.toList.length),rest,jI.of l (setRow_heap w _ cur _ e _ k1),by rw [Xw4,hnewl],fun A=>by
      simp only [σ] at A;exact XL (k3 A.1) (gq _ r (qy A.2)),O7 k4 r,by
      intro _ u f;rcases List.mem_append.1 f with f|f
      ·rcases List.mem_append.1 f with f|f
       ·exact k5 u (Xjg f)
       ·exact C u (by simpa using f)
      ·exact k5 u (Xzh f),fun E _=>by
      obtain ⟨W,Z⟩:=k6 E l;refine ⟨?_,Z⟩;rw [← W,Xx8];simp only [θ,Xqq,Xx5,Array.length_toList] at s F ⊢;omega⟩,k7,by
     have:(ja B.cells a x.cells).length=B.cells.length:=by simp only [ja,θ,Xqq,Xx5];omega
     simp only [this];exact k8⟩
    (fun B0 h0=>by rw [j] at h0;cases h0;exact ⟨rfl,.inl ⟨rfl,rfl⟩⟩)
    (fun o v Y=>by
     have:=(h.own b B j o v Y).1;rw [X] at this;cases this)
   refine ⟨rfl,_,_, ?_,n.1,n.2⟩;have hn:¬ (c.cells.size ≠ i.size):=by simp [H]
   simp [Instr.storeAt,Instr.sureAddr,storeVar,Go.sizeOf,typeInfo,R.info,H,I]
  ·cases hs
 ·cases hs
end
end AM
namespace AM
open Go
section
variable {P:Program} {ap:AP} {g:dM} {m:a_} {S:aU} {w:World}
theorem nG (g:dM) (b:Nat) (B:bi):dW g [(b,B)] b=some B:=by rw [mf,if_pos rfl]
theorem DL {w w':World} (h:w.grownBy w' none) (r:Option Nat):w.grownBy w' r:=⟨h.os,h.tape,h.output,h.size,fun k a _=>h.block k a (by simp)⟩
theorem nP (w:World) (o:Obj):w.grownBy (w.drew.alloc o) none:=⟨rfl,rfl,rfl,by simp,fun k a _=>Go.RowKit.Below.heap_alloc w.drew o k a⟩
theorem wF {t tx ty e:TypeId} {i:TypeInfo} (c:P.underlying t=some (.slice e)) (d:P.info? e=some i) {x:Value} {a:List Value} (hs:Src P i.size tx x 0 a w):
  (Builtin.append_ #[t,tx] ty #[.slice none 0 0,x]).run P w= .ok (.slice none 0 0) w:=by
 rcases hs.kind with ⟨e',b⟩|b<;>simp [Builtin.append_,run_underlying c,run_underlying b,Go.sizeOf,typeInfo,d,hs.len,hs.cells]
theorem wG {t tx ty e:TypeId} {i:TypeInfo} (h:P.underlying t=some (.slice e)) (d:P.info? e=some i) {k o sLen sCap n:Nat} {x:Value} {a:List Value} (hs:Src P i.size tx x n a w) (hroom:sLen+n≤sCap)
  {cur:Array Value} {e':TypeId} (hk:w.heap[k]? =some (.cells cur e' (0,0))) (hfit:o+sLen*i.size+a.length≤cur.size):
  (Builtin.append_ #[t,tx] ty #[.slice (some ⟨k,o,none⟩) sLen sCap,x]).run P w= .ok (.slice (some ⟨k,o,none⟩) (sLen+n) sCap) (w.setRow k (cur.toList.take (o+sLen*i.size)++a++cur.toList.drop (o+sLen*i.size+a.length)).toArray):=by
 have c:=run_storeCells_at P k (o+sLen*i.size) e' a 0 cur w hk (by simpa using hfit) hs.one;simp only [Xq5] at c;rcases hs.kind with ⟨f,b⟩|b<;>simp [Builtin.append_,run_underlying h,run_underlying b,Go.sizeOf,typeInfo,d,hs.len,hroom,hs.cells,Addr.add_mid,c]
theorem Ag {n a bytes:Nat} (h:a<n) (b:n≤H7) (c:bytes≤128):Builtin.nextslicecap n a*bytes≤281474976710656:=by
 refine growslice_fits h ?_;have:n*bytes≤H7*128:=Nat.mul_le_mul b c;have e:H7*128=140737488355328:=by decide
 omega
theorem yR:H7=1099511627776:=by decide
theorem BC {t tx ty e:TypeId} {i:TypeInfo} (c:P.underlying t=some (.slice e)) (f:P.info? e=some i) {x:Value} {base:Option Addr} {sLen sCap:Nat} (hs:Src P i.size tx x 0 [] w) (d:sLen≤sCap):
  (Builtin.append_ #[t,tx] ty #[.slice base sLen sCap,x]).run P w= .ok (.slice base sLen sCap) w:=by
 cases base with
 |none=>rcases hs.kind with ⟨e',b⟩|b<;>simp [Builtin.append_,run_underlying c,run_underlying b,Go.sizeOf,typeInfo,f,hs.len,hs.cells,d]
 |some a=>rcases hs.kind with ⟨e',b⟩|b<;>simp [Builtin.append_,run_underlying c,run_underlying b,Go.sizeOf,typeInfo,f,hs.len,hs.cells,d,storeCells]
theorem wL (h:cZ ap g m S w) {rd:dM} (Q:∀ b B,rd b=some B→g b=some B) {nid:Nat} (hn:g nid=none) {t tx e:Nat} {ti l:TI} {i F:TypeInfo} {z O:Value} {de:TypeDesc} (ht:BI P t ti i (.slice e) z) (r:BI P e l F de O)
  {s x v:AV} {cs cx:Value} (hvs:VR g m S s cs) (hvx:VR g m S x cx)
  (hk:((∃ s,x= .str s)∧P.underlying tx=some .string∧l.size=1)∨((∀ s,x ≠ .str s)∧∃ e,P.underlying tx=some (.slice e)))
  {em:Bool} (M:s= .nilS→∃ n,xk x=some n∧Xqo n 0=em)
  {ups:List (Nat × bi)} {bs:List Bool} (E:yc nid l rd em s x=some (v,ups,bs)) (y:∀ b ∈ bs,b=true) (ty:Nat):
  ∃ cv m' w',(Builtin.append_ #[t,tx] ty #[cs,cx]).run P w= .ok cv w'∧cZ ap (dW g ups) m' S w'∧Fr g m S w (dW g ups) m' S w'∧VR (dW g ups) m' S v cv:=by
 have hcount:∀ L n pr,L8 l.size rd x=some (L,n,pr)→xk x=some n:=by
  intro L n pr a;unfold L8 at a;split at a
  ·cases a;rfl
  ·cases a;rfl
  ·cases a;rfl
  ·have hq:=bind_some a;clear a;obtain ⟨B,hB,a⟩:=hq;split at a
   ·cases a;rfl
   ·cases a
  ·cases a
 unfold yc at E;have hq:=bind_some E;clear E;obtain ⟨⟨L,n,pr⟩,a,E⟩:=hq;simp only at E;split at E
 ·cases E
 ·rename_i W;simp only [σ] at W;have hsz:=fU W.1;have hby:=gG W.2;have d:l.size=F.size:=r.size;have T:l.size ≠ iU:=fun e=>by have:=r.small;omega
  have hby':l.bytes=F.bytes:=r.bytes;have hzs:O.cells.size=F.size:=r.zsize;split at E
  ·
   obtain ⟨n',hc',M⟩:=M rfl;rw [hcount _ _ _ a] at hc';cases hc';simp only [VR,PR] at hvs;subst hvs;split at E
   ·
    obtain ⟨rfl,rfl,rfl⟩:=aT E;have N:n=0:=aO M;subst N;have hl:=aO (y _ (List.mem_singleton.2 rfl));obtain ⟨c,hs,hv,hp⟩:=su (P:=P) h Q hvx a hl hk;rw [d] at hs;exact ⟨_,m,w,wF ht.und r.info hs,by rw [fQ];exact h,by rw [fQ];exact Fr.refl _ _ _ _,by simp [VR,PR]⟩
   ·
    cases E;obtain ⟨b1,y⟩:=dB y;obtain ⟨b2,_⟩:=dB y;have hl:=aO b1;have hroom:=gG b2;have N:n ≠ 0:=by intro e;subst e;simp at M
    obtain ⟨c,hs,hv,hp⟩:=su (P:=P) h Q hvx a hl hk;rw [d] at hs;have f:=run_append_grow_src w t tx ty e F O ht.und r.info r.zero none 0 0 [] (run_firstCells_none w.drew _ _ _ _) cx n c hs (by omega) (by rw [yR] at hroom;omega) (Ag (by omega) (by simpa using hroom) (by omega));have U:n≤grownCap w n 0 e:=grownCap_ge _ _ _ _;have V:grownCap w n 0 e≤maxLen:=grownCap_le_maxLen _ _ _ _ (by rw [yR] at hroom;simp only [maxLen];omega);simp only [χ] at f;have hf:=h.fresh (nid:=nid) hn ⟨L,0,false,0,l.size,pr⟩ T (grownCap w n 0 e) (cur:=([]++c).toArray++Builtin.zeroCells O.cells (grownCap w n 0 e - n)) (e:=e) (nP w _) (heap_alloc_new w.drew _) (fun _=>rfl) (Xxq _)
     (vs:=c) (rest:=(Builtin.zeroCells O.cells (grownCap w n 0 e - n)).toList) (by simp) hp hv hs.one (fun _=> ⟨by
      simp only [Array.size_append,Xx8,Xqc,size_zeroCells,hs.newsLen,hzs,d];rw [← Xxp];congr 1;omega,V⟩)
    refine ⟨_,_,_,f,hf.1,hf.2, ?_⟩;simp only [VR];refine ⟨_,nG _ _ _,Θ _,⟨_,_,_,rfl⟩,fun _=> ⟨0, ?_, ?_, ?_,hsz,T⟩⟩
    ·simp [kQ]
    ·simpa [kQ] using U
    ·simp
  ·rename_i b ver mN;have hq:=bind_some E;clear E;obtain ⟨B,hB,E⟩:=hq;split at E
   ·rename_i G;simp only [σ,Xqm] at G;have hver:=aO G.1.1;have R:=aO G.1.2;have A:B.esz ≠ iU:=fun e=>by rw [e] at G;exact absurd G.2 (by decide)
    cases E;obtain ⟨b1,y⟩:=dB y;obtain ⟨b2,y⟩:=dB y;obtain ⟨b3,y⟩:=dB y;obtain ⟨b4,_⟩:=dB y;have hl:=aO b1;have hroom:=gG b2;have hfit:=gG b3;have D:=Q b B hB;simp only [VR] at hvs;obtain ⟨B',hB',_,_,q⟩:=hvs;rw [D] at hB';cases hB';obtain ⟨o,rfl,hcap,ho,H,hnz1⟩:=q hver;simp only [χ,Nat.sub_zero,Nat.zero_mul] at hcap ho ⊢;obtain ⟨c,hs,hv,hp⟩:=su (P:=P) h Q hvx a hl hk;rw [d] at hs;have hbk:=h.blk b B D;obtain ⟨⟨cur,e',vs,rest,k1,k2,k3,k4,k5,k6⟩,k7,k8⟩:=hbk;have k1:=k1.cells A;have k5:=k5 A;obtain ⟨s1,s2⟩:=k6 H A;have hvl:=dm k4;have hcl:cur.toList.length=vs.length+rest.length:=by rw [k2];simp
    simp only [Array.length_toList] at hcl;have hfz:B.fz≤mN*l.size:=by
     cases hf:B.fro with
     |false=>rw [k7 hf];exact Xxq _
     |true=>simp [hf] at b4;exact gG (by simpa using b4)
    have holds:dD S (B.cells.take (mN*l.size)) (vs.take (mN*l.size))∨B.pr=false:=by
     cases hp:B.pr with
     |false=>exact .inr rfl
     |true=>exact .inl (kR _ (k3 hp))
    have I:(vs.take (mN*l.size)).length=mN*F.size:=by rw [Xqq,d] at*;omega
    have Y:bD g m S (B.cells.take (mN*l.size)++L) (vs.take (mN*l.size)++c):=iy (ql _ k4) hv;have X:(B.pr && pr)=true→dD S (B.cells.take (mN*l.size)++L) (vs.take (mN*l.size)++c):=by
     intro hh;simp only [σ] at hh;exact lC (kR _ (k3 hh.1)) (hp hh.2)
    have h1:∀ u ∈ vs.take (mN*l.size)++c,u.oneCell'=true:=by
     intro u C;rcases List.mem_append.1 C with C|C
     ·exact k5 u (Xjg C)
     ·exact hs.one u C
    have K:B.fz≤(B.cells.take (mN*l.size)++L).length:=by
     rw [θ,Xqq];omega
    by_cases hrm:mN+n≤(m b).2
    ·
     by_cases hc0:(m b).2=0
     ·have hm0:mN=0:=by omega
      have N:n=0:=by omega
      subst hm0;subst N;have hnews:c= []:=by have:=hs.newsLen;simpa using this
      subst hnews;have f:=BC (P:=P) (w:=w) (ty:=ty) (base:=some ⟨(m b).1,o,none⟩) (sLen:=0) (sCap:=(m b).2) ht.und r.info hs (by omega);have p:=h.put b {B with cells:=B.cells.take (0*l.size)++L,ver:=ver+1,pr:=B.pr && pr} (m b).1 (m b).2 (w':=w) (.inr ⟨B,D,rfl⟩) ⟨rfl,rfl,rfl,Θ _,fun _ _ _=>rfl⟩
       ⟨⟨cur,e',_,vs.drop (0*l.size)++rest,jI.of A k1,by rw [k2];simp,X,Y,fun _=>h1,k6⟩,k7,K⟩ (fun B0 h0=>by rw [D] at h0;cases h0;exact ⟨rfl,.inr (by simp only;omega)⟩)
       (fun o' u C=> ⟨h.sealed _ _ _ C,(h.own b B D o' u C)⟩)
      refine ⟨_,_,_,f,p.1,p.2, ?_⟩;simp only [VR];refine ⟨_,nG _ _ _,Θ _,⟨_,_,_,rfl⟩,fun _=> ⟨o,by simp [kQ],by simp,by simp [kQ,hc0],H,A⟩⟩
     ·have Z:o=0:=ho (by omega);subst Z;have hnl:=hs.newsLen;have hbig:mN*F.size+n*F.size≤(m b).2*F.size:=by rw [← Xxp];exact Nat.mul_le_mul_right _ hrm
      have hcs:cur.size=(m b).2*F.size:=by rw [s1,R,d]
      have f:=wG (P:=P) (w:=w) (ty:=ty) (o:=0) ht.und r.info hs hrm k1 (by simp only [χ];omega);simp only [χ] at f;have hlist:cur.toList.take (mN*F.size)=vs.take (mN*l.size):=by rw [k2,d,Xx3 (by rw [d] at hfit;omega)]
      have p:=h.put b {B with cells:=B.cells.take (mN*l.size)++L,ver:=ver+1,pr:=B.pr && pr} (m b).1 (m b).2 (w':=w.setRow (m b).1 (cur.toList.take (mN*F.size)++c++cur.toList.drop (mN*F.size+c.length)).toArray)
       (.inr ⟨B,D,rfl⟩) ⟨rfl,rfl,rfl,by simp,fun k _ hk=>setRow_other w _ k _ (fun e=>hk (by rw [e]))⟩
       ⟨⟨_,e',_,cur.toList.drop (mN*F.size+c.length),jI.of A (setRow_heap w _ cur _ e' _ k1),by rw [hlist],X,Y,fun _=>h1,fun _ _=> ⟨by
        rw [← s1,Xx8];simp only [θ,Xqq,Xx5,Array.length_toList];omega,s2⟩⟩,k7,K⟩ (fun B0 h0=>by rw [D] at h0;cases h0;exact ⟨rfl,.inr (by simp only;omega)⟩)
       (fun o' u C=>by
        obtain ⟨f1,f2⟩:=h.own b B D o' u C;refine ⟨?_,f1,f2⟩;have:=h.sealed _ _ _ C;cases J:u.oneCell' with
        |false=>
         obtain ⟨_,_,hm,_⟩:=vF this J;rw [k1] at hm;cases hm
        |true=>
        have this:=vG this J;rw [ug k1] at this;refine (jI.of A (setRow_heap w _ cur _ e' _ k1)).get ?_ (fun _=>J);simp only [Ψ];rw [Xxf (by simp only [Xqq,Array.length_toList];rw [d] at hfz;omega),List.getElem?_take_of_lt (by rw [d] at hfz;omega)];exact this)
      refine ⟨_,_,_,f,p.1,p.2, ?_⟩;simp only [VR];refine ⟨_,nG _ _ _,Θ _,⟨_,_,_,rfl⟩,fun _=> ⟨0,by simp [kQ],by simpa [kQ] using hrm,by simp,H,A⟩⟩
    ·
     have hold:(Builtin.firstCells F.size mN (.slice (some ⟨(m b).1,o,none⟩) mN (m b).2)).run P w.drew= .ok (vs.take (mN*l.size)).toArray w.drew:=by
      refine run_firstCells_some w.drew F.size mN ⟨(m b).1,o,none⟩ mN _ _ I ?_;intro j u C;have hjl:=(List.getElem?_eq_some_iff.1 C).1;rw [I] at hjl;have hm0:0<mN:=by
       rcases Nat.eq_zero_or_pos mN with h0|h0
       ·subst h0;simp at hjl
       ·exact h0
      have Z:o=0:=ho (by omega);subst Z;rw [Addr.add_mid,χ,ug (w:=w.drew) (j:=j) k1,k2];rw [Xjp] at C;split at C
      ·rw [Xxf (List.getElem?_eq_some_iff.1 C).1];exact C
      ·cases C
     have f:=run_append_grow_src w t tx ty e F O ht.und r.info r.zero (some ⟨(m b).1,o,none⟩) mN (m b).2 _ hold cx n c hs (by omega) (by rw [yR] at hroom;omega) (Ag (by omega) hroom (by omega));have U:mN+n≤grownCap w (mN+n) (m b).2 e:=grownCap_ge _ _ _ _;have V:grownCap w (mN+n) (m b).2 e≤maxLen:=grownCap_le_maxLen _ _ _ _ (by rw [yR] at hroom;simp only [maxLen];omega);have p:=h.put b {B with cells:=B.cells.take (mN*l.size)++L,ver:=ver+1,pr:=B.pr && pr} w.heap.size (grownCap w (mN+n) (m b).2 e) (.inl (Θ _))
      (DL (nP w (.cells ((vs.take (mN*l.size)++c).toArray++Builtin.zeroCells O.cells (grownCap w (mN+n) (m b).2 e - (mN+n))) e)) _)
      ⟨⟨(vs.take (mN*l.size)++c).toArray++Builtin.zeroCells O.cells (grownCap w (mN+n) (m b).2 e - (mN+n)),e,_,(Builtin.zeroCells O.cells (grownCap w (mN+n) (m b).2 e - (mN+n))).toList,jI.of A (heap_alloc_new w.drew _),by simp,X,Y,fun _=>h1,fun _ _=> ⟨by
       simp only [Array.size_append,Xx8,θ,size_zeroCells,hs.newsLen,hzs];rw [I,R,d,← Xxp,← Xxp];congr 1;omega,V⟩⟩,k7,K⟩ (fun B0 h0=>by rw [D] at h0;cases h0;exact ⟨rfl,.inr (by simp only;omega)⟩)
      (fun o' u C=>absurd (h.seal_lt C) (Xvm _))
     refine ⟨_,_,_,f,p.1,p.2, ?_⟩;simp only [VR];refine ⟨_,nG _ _ _,Θ _,⟨_,_,_,rfl⟩,fun _=> ⟨0,by simp [kQ],by simpa [kQ] using U,by simp,H,A⟩⟩
   ·cases E
  ·cases E
end
end AM
namespace AM
open Go
theorem AZ (n:Nat) (z:List AV):(gp n z).length=n*z.length:=by simp [gp]
theorem SI (n:Nat) (z:List AV):gp (n+1) z=z++gp n z:=by simp [gp,Xxe]
theorem LJ:∀ (n:Nat) (z:List AV) (i:Nat),i<n*z.length→(gp n z)[i]? =z[i % z.length]?
 |0,z,i,h=>by simp at h
 | n+1,z,i,h=>by
  rw [SI];by_cases a:i<z.length
  ·rw [Xxf a,Nat.mod_eq_of_lt a]
  ·have a:z.length≤i:=by omega
   rw [List.getElem?_append_right a,LJ n z (i - z.length) (by rw [Xxp,Nat.one_mul] at h;omega)];congr 1;rw [← Nat.mod_eq_sub_mod a]
section
variable {P:Program} {ap:AP} {g:dM} {m:a_} {S:aU} {w:World}
theorem CS:∀ {l:List AV} {vs:List Value},l.length=vs.length→(∀ (i:Nat) x v,l[i]? =some x→vs[i]? =some v→VR g m S x v)→bD g m S l vs
 | [],[],_,_=>by simp [bD]
 |x::r,v::vs,hl,h=>by
  simp only [bD];exact ⟨h 0 x v rfl rfl,CS (by simpa using hl) fun i x v b a=>h (i+1) x v (by simpa using b) (by simpa using a)⟩
 | [],_::_,h,_=>by simp at h
 |_::_,[],h,_=>by simp at h
theorem zM (z:Array Value) (n:Nat):(madeCells z n).toList=(List.range n).map fun i=>z[i % z.size]! :=by simp [madeCells]
theorem wR {t:Nat} {f:TI} {i:TypeInfo} {d:TypeDesc} {z:Value} (c:BI P t f i d z) (n:Nat):bD g m S (gp n f.zero) (madeCells z.cells (n*i.size)).toList:=by
 have l:=qm (g:=g) (m:=m) (S:=S) c;have a:=dm l;simp only [Array.length_toList,c.zsize] at a;refine CS (by rw [AZ,a,Array.length_toList,size_madeCells]) ?_;intro j x v h e;have o:j<n*i.size:=by
  have:=(List.getElem?_eq_some_iff.1 h).1;rw [AZ,a] at this;exact this
 rw [LJ n f.zero j (by rw [a];exact o),a] at h;rw [zM,c.zsize,Xqz,List.getElem?_range o] at e;simp only [Xjf,Option.some.injEq] at e;obtain ⟨q,b,p⟩:=qU l _ h;have k:j % i.size<z.cells.size:=by rw [c.zsize];exact Nat.mod_lt _ c.pos
 simp only [Array.getElem?_toList] at b;rw [getElem!_pos z.cells _ k] at e;rw [Array.getElem?_eq_getElem k] at b;cases b;rw [← e];exact p
theorem H5 {n:Nat} {z:List AV} (h:∀ x ∈ z,nX x=true):∀ x ∈ gp n z,nX x=true:=by
 intro x a;simp only [gp,List.mem_flatten,List.mem_replicate] at a;obtain ⟨l,⟨_,rfl⟩,a⟩:=a;exact h x a
theorem BJ:∀ {l:List AV} {vs:List Value},bD g m S l vs→(∀ x ∈ l,nX x=true)→∀ u ∈ vs,u.oneCell'=true
 | [],[],_,_=>by simp
 |x::r,v::vs,h,hl=>by
  simp only [bD] at h;intro u a;rcases List.mem_cons.1 a with rfl|a
  ·exact MZ h.1 (hl x (by simp))
  ·exact BJ h.2 (fun y b=>hl y (by simp [b])) u a
 | [],_::_,h,_=>by simp [bD] at h
 |_::_,[],h,_=>by simp [bD] at h
theorem Je {b vs:List AV} {a:Nat} {x:AV} (h:x ∈ ja b a vs):x ∈ b∨x ∈ vs:=by
 simp only [ja,List.mem_append] at h;rcases h with (h|h)|h
 ·exact .inl (Xjg h)
 ·exact .inr h
 ·exact .inl (Xzh h)
theorem DC:∀ {ps:List (Nat × Nat × AV)} {cells cells':List AV},wP cells ps=some cells'→(∀ x ∈ cells,nX x=true)→∀ x ∈ cells',nX x=true
 | [],cells,cells',h,hl=>by simp [wP] at h;subst h;exact hl
 | (off,size,v)::r,cells,cells',h,hl=>by
  simp only [wP] at h;split at h
  ·rename_i b;simp only [σ] at b;refine DC h fun x a=> ?_
   rcases Je a with a|a
   ·exact hl x a
   ·exact List.all_eq_true.1 b.2 x a
  ·cases h
theorem Qq {nid:Nat} {cells:List AV} {a k c n:Nat} (b:n≤c) (hp:0<a) (d:a ≠ iU):VR (dW g [jo nid cells a]) (kQ m nid (k,c)) S (.ref nid 0 0 n) (.slice (some ⟨k,0,none⟩) n c):=by
 simp only [VR];refine ⟨_,nG _ _ _,Xxq _,⟨_,_,_,rfl⟩,fun _=> ⟨0,by simp [kQ],by simpa [kQ] using b,by simp,hp,d⟩⟩
theorem rX:∀ (a b:List AV),cO (a++b)=cO a++cO b
 | [],b=>by simp [cO]
 |x::r,b=>by simp [cO,rX r b]
theorem HY (z:List AV) (h:cO z= []):∀ n,cO (gp n z)= []
 |0=>by simp [gp,cO]
 |n+1=>by
  have a:=HY z h n;simp only [gp,Xxe,List.flatten_cons,rX,h,Xqc] at a ⊢;exact a
theorem Oi (nid n a:Nat) (z:List AV) (h:(cO z).isEmpty=true):(nid,(⟨gp n z,0,false,0,a,true⟩:bi))=jo nid (gp n z) a:=by
 have b:cO z= []:=by simpa using h
 simp [jo,HY z b n]
theorem zN (C:iM P ap) (h:cZ ap g m S w) {nid:Nat} (Q:g nid=none) {t:Nat} {M:TI} {i:TypeInfo} {d:TypeDesc} {z:Value} (N:BI P t M i d z) {l c:AV} {cl H:Value} (O:VR g m S l cl) (J:VR g m S c H)
  {v:AV} {ups:List (Nat × bi)} {bs:List Bool} (k:xE ap nid M l c=some (v,ups,bs)) (j:∀ b ∈ bs,b=true):
  ∃ cv m' w',(Instr.makeSlice t cl H).run P w= .ok cv w'∧cZ ap (dW g ups) m' S w'∧Fr g m S w (dW g ups) m' S w'∧VR (dW g ups) m' S v cv:=by
 unfold xE at k;split at k
 ·rename_i e U l V c hd;have T:=bind_some k;clear k;obtain ⟨o,a,k⟩:=T;obtain ⟨n,W,u,a⟩:=eQ C a;split at k
  ·rename_i f;simp only [σ] at f;have y:=f.2;have f:=f.1;have q:=fU f.1.1;have A:=gG f.2;rw [Oi _ _ _ _ y] at k;cases k;obtain ⟨s,j⟩:=dB j;obtain ⟨D,j⟩:=dB j;obtain ⟨L,_⟩:=dB j;have s:0≤l:=of_decide_eq_true s;have D:l=c:=of_decide_eq_true D;have L:l≤2^40:=of_decide_eq_true L;subst D;simp only [VR,PR] at O J;subst O;subst J;rw [N.d_eq] at hd;have hd:=ig hd;subst hd;have r:(n.bytes:Int)*l≤281474976710656:=by
    have G:(n.bytes:Int)≤128:=by rw [← a.bytes];exact_mod_cast A
    have K:(n.bytes:Int)*l≤128*l:=Int.mul_le_mul_of_nonneg_right G s;have R:(2:Int)^40=1099511627776:=by decide
    omega
   have B:l≤9223372036854775807:=by
    have R:(2:Int)^40=1099511627776:=by decide
    omega
   have p:=run_make (P:=P) w t e n u N.und a.info a.zero U V l l s (Int.le_refl _) r B;have F:bD g m S (gp l.toNat o.zero) (madeCells u.cells (l.toNat*n.size)).toList:=wR a _;have E:∀ x ∈ gp l.toNat o.zero,nX x=true:=H5 a.zleaf;have I:=h.fresh (nid:=nid) Q (jo nid (gp l.toNat o.zero) o.size).2 (by have G:=a.small;have K:=a.size;show o.size ≠ iU;omega) l.toNat (w':=w.alloc (.cells (madeCells u.cells (l.toNat*n.size)) e)) (World.grownBy_alloc w _ none) (heap_alloc_new w _) (fun _=>rfl) (Xxq _)
    (rest:= []) (by rw [Γ]) (fun hp=>gq _ F (qy hp)) F (BJ F E) (fun _=> ⟨by rw [size_madeCells];simp [jo,a.size],by simp only [maxLen];omega⟩)
   refine ⟨_,_,_,p,I.1,I.2, ?_⟩;exact Qq (Θ _) q (by have G:=a.small;have K:=a.size;omega)
  ·cases k
 ·cases k
theorem E8 {t e:TypeId} {i:TypeInfo} {z:Value} (h:P.underlying t=some (.slice e)) (j:P.info? e=some i) (c:i.zero=some z) {a:Nat} (d:a*i.size≤2^24) (h0:a*i.size ≠ 0) {parts:Array (Nat × Value)} {cells:Array Value}
  (hf:Instr.fill (fun f=>some (f*i.size,i.size)) (madeCells z.cells (a*i.size)) parts.toList=some cells):
  (Instr.buildSlice t a parts).run P w= .ok (.slice (some ⟨w.heap.size,0,none⟩) a a) (w.alloc (.cells cells e)):=by
 have b:¬ (a*i.size>2^24):=by omega
 unfold madeCells at hf;simp only [Instr.buildSlice,Sem.run_bind,run_underlying h,Result.andThen_ok];simp [Go.sizeOf,typeInfo,j,zeroValue,c,h0,newRow];rw [if_neg (by simpa using b)];simp [hf]
theorem BD {t e:TypeId} {i:TypeInfo} (c:P.underlying t=some (.slice e)) (d:P.info? e=some i) {a:Nat} (h0:a*i.size=0) {parts:Array (Nat × Value)} {cells:Array Value}
  (hf:Instr.fill (fun b=>some (b*i.size,i.size)) #[] parts.toList=some cells):
  (Instr.buildSlice t a parts).run P w= .ok (.slice (some ⟨w.heap.size,0,none⟩) a a) (w.alloc (.cells cells e)):=by
 simp [Instr.buildSlice,run_underlying c,Go.sizeOf,typeInfo,d,h0,newRow,Array.range_zero',hf]
theorem yh (u:iM P ap) (h:cZ ap g m S w) {nid:Nat} (H:g nid=none) {t:Nat} {G:TI} {i:TypeInfo} {d:TypeDesc} {z:Value} (C:BI P t G i d z) {b:Nat} {ps:List (Nat × AV)} {qs:Array (Nat × Value)} (K:xX g m S ps qs.toList)
  {v:AV} {ups:List (Nat × bi)} {bs:List Bool} (c:tZ ap nid G b ps=some (v,ups,bs)):
  ∃ cv m' w',(Instr.buildSlice t b qs).run P w= .ok cv w'∧cZ ap (dW g ups) m' S w'∧Fr g m S w (dW g ups) m' S w'∧VR (dW g ups) m' S v cv:=by
 unfold tZ at c;split at c
 ·rename_i e hd;have j:=bind_some c;clear c;obtain ⟨n,a,c⟩:=j;obtain ⟨r,N,I,a⟩:=eQ u a;split at c
  ·rename_i k;simp only [σ] at k;have f:=fU k.1.1;have A:=gG k.1.2;have j:=bind_some c;clear c;obtain ⟨cs,p,c⟩:=j;cases c;rw [C.d_eq] at hd;have hd:=ig hd;subst hd;have y:bD g m S (gp b n.zero) (madeCells I.cells (b*r.size)).toList:=wR a _;obtain ⟨l,q,s,L⟩:=oZ _ qs.toList _ cs _ (rP (size:=n.size) K) y p;rw [a.size] at q;have o:(Instr.buildSlice t b qs).run P w= .ok (.slice (some ⟨w.heap.size,0,none⟩) b b) (w.alloc (.cells l e)):=by
    by_cases h0:b*r.size=0
    ·exact BD C.und a.info h0 (by rw [h0] at q;simpa [madeCells,Array.range_zero'] using q)
    ·exact E8 C.und a.info a.zero (by rw [← a.size];exact A) h0 q
   have B:∀ x ∈ cs,nX x=true:=DC p (H5 a.zleaf);have D:l.size=b*r.size:=by rw [L,size_madeCells]
   have E:=h.fresh (nid:=nid) H (jo nid cs n.size).2 (by have F:=a.small;have J:=a.size;show n.size ≠ iU;omega) b (w':=w.alloc (.cells l e)) (World.grownBy_alloc w _ none) (heap_alloc_new w _) (fun _=>rfl) (Xxq _)
    (rest:= []) (by rw [Γ]) (fun hp=>gq _ s (qy hp)) s (BJ s B) (fun _=> ⟨by rw [D];simp [jo,a.size],by
     have F:b≤b*n.size:=Nat.le_mul_of_pos_right _ f;have M:(2:Nat)^24=16777216:=by decide
     simp only [maxLen];omega⟩)
   refine ⟨_,_,_,o,E.1,E.2, ?_⟩;exact Qq (Θ _) f (by have F:=a.small;have J:=a.size;omega)
  ·cases c
 ·cases c
theorem Xj {d:TypeDesc} {k e:Nat} (h:kw P (some d)= .map k e):d= .map k e:=by cases d<;>simp [kw] at h;obtain ⟨rfl,rfl⟩:=h;rfl
theorem RG {k:LK} {x y:AV} {u v:Value} (a:G9 k x=true) (b:G9 k y=true) (d:VR g m S x u) (c:VR g m S y v):
  sS k u v=some (IM x y)∧(IM x y=true→u=v)∧(∀ n,Instr.sameBits n u u=true)∧eX x= []:=by
 cases k<;>cases x<;>simp [G9] at a<;>cases y<;>simp [G9] at b<;>simp only [VR,PR] at d c<;>subst d<;>subst c
 ·refine ⟨by simp [sS,IM,a,b],fun h=> ?_,fun n=>by simp [Instr.sameBits],rfl⟩;simp only [IM,beq_iff_eq] at h;rw [← gy a,← gy b,h]
 ·refine ⟨by simp [sS,IM],fun h=> ?_,fun n=>by simp [Instr.sameBits],rfl⟩;simp only [IM,beq_iff_eq] at h;rw [h]
 ·refine ⟨by simp [sS,IM,xQ],fun h=> ?_,fun n=>by cases n<;>simp [Instr.sameBits,MapKept.bytes_beq],rfl⟩;simp only [IM,beq_iff_eq] at h;rw [h]
theorem nV:∀ {lks:List LK} {a b:List AV} {c d:List Value},mO lks a=true→mO lks b=true→bD g m S a c→bD g m S b d→
  d_ lks c d=some (NG a b)∧(NG a b=true→c=d)∧(∀ n,∀ x ∈ c,Instr.sameBits n x x=true)∧cO a= []
 | [],[],[],[],[],_,_,_,_=> ⟨rfl,fun _=>rfl,by simp,rfl⟩
 | k::lks,x::a,y::b,u::c,v::d,ha,hb,h1,h2=>by
  simp only [mO,σ] at ha hb;simp only [bD] at h1 h2;obtain ⟨r,p,j,i⟩:=RG ha.1 hb.1 h1.1 h2.1;obtain ⟨q,f,o,l⟩:=nV ha.2 hb.2 h1.2 h2.2;refine ⟨by simp [d_,r,q,NG],fun h=> ?_,fun n z e=> ?_,by simp [cO,i,l]⟩
  ·simp only [NG,σ] at h;rw [p h.1,f h.2]
  ·rcases List.mem_cons.1 e with rfl|e
   ·exact j n
   ·exact o n z e
 | [],_::_,_,_,_,ha,_,_,_=>by simp [mO] at ha
 |_::_,[],_,_,_,ha,_,_,_=>by simp [mO] at ha
 | [],[],_::_,_,_,_,hb,_,_=>by simp [mO] at hb
 |_::_,_::_,[],_,_,_,hb,_,_=>by simp [mO] at hb
 | [],[],[],_::_,_,_,_,h1,_=>by simp [bD] at h1
 | [],[],[],[],_::_,_,_,_,h2=>by simp [bD] at h2
 |_::_,_::_,_::_,[],_,_,_,h1,_=>by simp [bD] at h1
 |_::_,_::_,_::_,_::_,[],_,_,_,h2=>by simp [bD] at h2
def aa2 (P:Program) (n:Nat) (t:TypeId) (lks:List LK):Prop:=
 ∀ (em:Bool) (d:Nat) (w:World) (xs:List Value),n≤d→d_ lks xs xs=some true→(Instr.checkKey em d t (u_ P t xs)).run P w= .ok () w
theorem uk {lks:List LK} {a:List Value} {r:Bool} (h:d_ lks a a=some r):d_ lks a a=some true:=by
 induction lks generalizing a r with
 |nil=>cases a<;>simp [d_] at h ⊢
 | cons k lks ih=>
  cases a with
  |nil=>simp [d_] at h
  | cons x a=>
   simp only [d_] at h ⊢;obtain ⟨c,b,h⟩:=bind_some h;rw [Xqs] at h;obtain ⟨d,hd,rfl⟩:=h;have e:sS k x x=some true:=by
    cases k<;>cases x<;>simp [sS] at b ⊢
    split at b
    ·rename_i f;simp [f]
    ·cases b
   simp [e,ih hd]
theorem qN {n:Nat} (v:∀ t lks,jK P n t=some lks→aa2 P n t lks):∀ (fs:List Field) (off:Nat) (lks:List LK),yu P (jK P n) fs off=some lks→
  ∀ (em:Bool) (d:Nat) (w:World) (xs:List Value),n≤d→xs.length=off+lks.length→d_ lks (xs.drop off) (xs.drop off)=some true→
   (forIn (m:=Sem) fs PUnit.unit fun f _=>do
    if f.name ≠ "_" then Instr.checkKey em d f.type (← part f.type xs.toArray f.offset)
    pure (ForInStep.yield PUnit.unit)).run P w= .ok PUnit.unit w
 | [],off,lks,hc,em,d,w,xs,hd,hx,h=>by simp
 | f ::fs,off,lks,hc,em,d,w,xs,hd,hx,h=>by
  simp only [yu] at hc;cases j:jK P n f.type with
  |none=>simp [j] at hc
  | some l=>
   simp only [j] at hc;split at hc
   ·rename_i hcond;simp only [σ,Xqm] at hcond;obtain ⟨⟨u,k⟩,c⟩:=hcond;cases p:yu P (jK P n) fs (off+l.length) with
    |none=>simp [p] at hc
    | some l'=>
     simp only [p] at hc;cases hc;cases s:P.info? f.type with
     |none=>simp [s] at c
     |some i=>
      simp only [s] at c;have c:=aO c;have k:=aO k;have o:f.name ≠ "_" :=by intro e;rw [e] at u;exact absurd u (by decide)
      simp only [θ] at hx;obtain ⟨a,b,r,q,x⟩:=rf l l' _ _ true h;have r:=uk r;have q:=uk q;have z:=uS j s c xs off (by omega) w;have y:=v f.type l j em d w _ hd r;have A:=qN v fs (off+l.length) l' p em d w xs hd (by omega) (by simpa [Xjy,Nat.add_comm] using q);simp only [List.forIn_cons,Sem.run_bind,o,ne_eq,not_false_eq_true,if_true,Result.andThen_ok,k,z,y,Sem.run_pure];simpa using A
   ·cases hc
theorem Kq:∀ (n:Nat) (t:TypeId) (lks:List LK),jK P n t=some lks→aa2 P n t lks
 |0,_,_,h=>by simp [jK] at h
 | n +1,t,lks,h=>by
  intro f d w c hd b;obtain ⟨d,rfl⟩:∃ k,d=k+1:=⟨d - 1,by omega⟩
  have e:=pU _ _ _ _ b;unfold jK at h;cases a:P.underlying t with
  |none=>simp [a] at h
  | some ds=>
   unfold Instr.checkKey;simp only [Sem.run_bind,run_underlying a,Result.andThen_ok,u_,a];cases ds<;>simp only [a] at h<;>try cases h
   case struct fs=>
    split at h
    ·cases h
    ·have:=qN (Kq n) fs.toList 0 lks h f d w c (by omega) (by simp [e.1]) (by simpa using b);simp only [← Array.forIn_toList];simpa using this
   all_goals (cases c.headD undef<;>simp)
theorem D8 (d:iM P ap) {t:Nat} {i:TI} (h:ap.tyAt t=some i) {a b:List AV} {c o:List Value} (f:i.cmp=true) (e:mO i.lks a=true) (s:mO i.lks b=true) (u:bD g m S a c) (x:bD g m S b o) (k:∃ v,P.underlying t=some (.struct v)):
  (∀ p,(Instr.checkKey p 10000 t (.agg c.toArray)).run P w= .ok () w)∧(Op.equal t (.agg c.toArray) (.agg o.toArray)).run P w= .ok (NG a b) w:=by
 obtain ⟨v,k⟩:=k;rw [(yZ d h).1] at f;rw [(yZ d h).2] at e s;unfold Yc at f;cases j:jK P 8 t with
 |none=>simp [j] at f
 |some l=>
  simp only [j,σ,Xqm] at f;have n:=Ej f.1;rw [← n] at e s;have q:=Dk 8 t l j 10000 w c o _ (by omega) (nV e s u x).1;have r:=fun p=>Kq 8 t l j p 10000 w c (by omega) (uk (nV e e u u).1)
  simp only [u_,k] at q r;exact ⟨r,q⟩
theorem Au {a:TI} {d:TypeDesc} (hd:a.d=kw P (some d)) (hs:∀ fs,d ≠ .struct fs) {x:AV} {v:Value} (h:lu a x=true) (b:VR g m S x v):MapKept.IsKey d v:=by
 unfold lu at h;rw [hd] at h;cases d<;>simp only [kw] at h<;>cases x<;>simp at h<;>simp only [VR,PR] at b<;>first|(exact absurd rfl (hs _))|(subst b;simp only [MapKept.IsKey])
 exact (gy h).symm
theorem UT {f:TI} {d:TypeDesc} (hd:f.d=kw P (some d)) (hs:∀ fs,d ≠ .struct fs) {x y:AV} {u v:Value} (e:lu f x=true) (c:lu f y=true) (h:VR g m S x u) (i:VR g m S y v):Instr.sameNow d u v=some (PN x y):=by
 unfold lu at e c;rw [hd] at e c;cases d<;>simp only [kw] at e c<;>cases x<;>simp at e<;>cases y<;>simp at c<;>simp only [VR,PR] at h i<;>first|(exact absurd rfl (hs _))|(subst h;subst i;simp only [Instr.sameNow,PN])
 ·rw [if_pos ((gy e).symm.trans (gy c))]
 ·rename_i a b;congr 1;rw [Bool.eq_iff_iff,MapKept.bytes_beq];simp
theorem Ep (h:cZ ap g m S w) {rd:dM} (l:∀ b B,rd b=some B→g b=some B) {x:AV} {t:Value} (p:VR g m S x t) {q:List AV × List AV} (a:VI rd x=some q):
  ∃ d:Array MapEntry,((t= .map none∧d=#[])∨∃ b c,t= .map (some b)∧w.heap[b]? =some (.map d c))∧bD g m S q.1 (d.toList.map (·.key))∧bD g m S q.2 (d.toList.map (·.val)):=by
 unfold VI at a;split at a
 ·rename_i ks vs;cases a;simp only [VR,PR] at p;rcases p with ⟨rfl,rfl,rfl⟩|⟨b,v,y,rfl,h0,A,s,r⟩
  ·exact ⟨#[],.inl ⟨rfl,rfl⟩,by simp [bD],by simp [bD]⟩
  ·obtain ⟨d,c,o,i⟩:=vF (h.sealed _ _ _ h0) rfl;obtain ⟨C,clk',k,j⟩:=vF (h.sealed _ _ _ A) rfl;rw [o] at k;cases k;have i:Value.agg (d.map (·.key))= .agg v.toArray:=Option.some.inj i;have j:Value.agg (d.map (·.val))= .agg y.toArray:=Option.some.inj j;have i:=Value.agg.inj i;have j:=Value.agg.inj j;refine ⟨d,.inr ⟨b,c,rfl,o⟩, ?_, ?_⟩
   ·rw [← Array.toList_map,i];exact bY _ s
   ·rw [← Array.toList_map,j];exact bY _ r
 ·rename_i b ver;have D:=bind_some a;clear a;obtain ⟨B,u,a⟩:=D;split at a
  ·rename_i f;simp only [σ] at f;split at a
   ·rename_i ks vs hcells;cases a;simp only [VR] at p;obtain ⟨B',n,_,_,q⟩:=p;rw [l b B u] at n;cases n;have q:=q (aO f.1);obtain ⟨⟨cur,e,z,rest,k1,k2,_,k4,_,_⟩,_,_⟩:=h.blk b B (l b B u);obtain ⟨d,c,o,rfl⟩:=k1.map (aO f.2);rw [hcells] at k4
    match z,k4 with
    | [u0,u1],k4=>
     simp only [bD,VR,and_true] at k4;obtain ⟨⟨v,rfl,s⟩,y,rfl,r⟩:=k4;simp only [xF,Xq1,List.cons.injEq] at k2;have i:=Value.agg.inj k2.1;have j:=Value.agg.inj k2.2.1;refine ⟨d,.inr ⟨_,c,q,o⟩, ?_, ?_⟩
     ·rw [← Array.toList_map,i];exact s
     ·rw [← Array.toList_map,j];exact r
    | [],k4=>simp [bD] at k4
    | [_],k4=>simp [bD] at k4
    |_::_::_::_,k4=>simp [bD] at k4
   ·cases a
  ·cases a
 ·cases a
structure XK (P:Program) (g:dM) (m:a_) (S:aU) (w:World) (t:Nat) (ti:TI) (d:TypeDesc) (k:AV) (ck:Value):Prop where
 chk:∀ em,(Instr.checkKey em 10000 t ck).run P w= .ok () w
 stay:(Instr.keyThatStays ck ck).run P w= .ok ck w
 eqs:∀ {k' ck'},lu ti k'=true→VR g m S k' ck'→((match d with| .struct _=>(Op.equal t ck ck').run P w= .ok (PN k k') w|_=>Instr.sameNow d ck ck'=some (PN k k'))∧(PN k k'=true→ck=ck'))
theorem G_ (A:iM P ap) {t:Nat} {q:TI} {i:TypeInfo} {d:TypeDesc} {z:Value} (E:ap.tyAt t=some q) (u:BI P t q i d z) {k:AV} {ck:Value} (s:lu q k=true) (C:VR g m S k ck):XK P g m S w t q d k ck:=by
 by_cases hs:∃ o,d= .struct o
 ·obtain ⟨o,rfl⟩:=hs;have hd:=u.d_eq;have I:∀ {x:AV},lu q x=true→∃ l,x= .agg l∧q.cmp=true∧mO q.lks l=true:=by
   intro x n;unfold lu at n;rw [hd] at n;cases x<;>simp [kw] at n
   exact ⟨_,rfl,n⟩
  obtain ⟨l,rfl,J,y⟩:=I s;have Q:=C;simp only [VR] at C;obtain ⟨G,rfl,n⟩:=C;refine ⟨(D8 A E J y y n n ⟨o,u.und⟩).1, ?_, ?_⟩
  ·have W:Instr.sameBits 10000 (.agg G.toArray) (.agg G.toArray)=true:=by
    show Instr.sameBits (9999+1) _ _=true;have U:=(nV y y n n).2.2.1 9999;simp only [Instr.sameBits,beq_self_eq_true,Bool.true_and,List.all_eq_true];intro p hp;obtain ⟨a,b⟩:=p;have T:∀ l:List Value,(a,b) ∈ l.zip l→a=b∧a ∈ l:=by
     intro l
     induction l with
     |nil=>intro h;simp at h
     |cons c l ih=>
      intro h;simp only [List.zip_cons_cons,List.mem_cons,Prod.mk.injEq] at h;rcases h with ⟨rfl,rfl⟩|h
      ·exact ⟨rfl,by simp⟩
      ·exact ⟨(ih h).1,List.mem_cons_of_mem _ (ih h).2⟩
    obtain ⟨rfl,N⟩:=T G hp;exact U a N
   simp [Instr.keyThatStays,W]
  ·intro O F f j;obtain ⟨Y,rfl,_,B⟩:=I f;simp only [VR] at j;obtain ⟨X,rfl,L⟩:=j;refine ⟨(D8 A E J y B n L ⟨o,u.und⟩).2,fun H=> ?_⟩;rw [(nV y B n L).2.1 H]
 ·have hs:∀ o,d ≠ .struct o:=fun o e=>hs ⟨o,e⟩
  have v:=Au u.d_eq hs s C;refine ⟨fun V=>MapKept.run_checkKey u.und v V 9999,MapKept.run_keyThatStays v, ?_⟩;intro O F f j;have K:=UT u.d_eq hs s f C j;have R:=MapKept.sameNow_of_keys v (Au u.d_eq hs f j);refine ⟨?_,fun H=> ?_⟩
  ·cases d<;>first|exact K|exact absurd rfl (hs _)
  ·obtain ⟨r,M,D⟩:=R;rw [K] at M;cases M;exact D.1 H
def kz (P:Program) (w:World) (t:Nat) (d:TypeDesc) (ck:Value) (l:List MapEntry) (i:Nat) (r:Option (Nat × Value)):Prop:=
 match d with
 | .struct _=>(Instr.findAsking t ck l i).run P w= .ok r w
 |_=>Instr.findNow d ck l i=some r
theorem kz.nil {t:Nat} {d:TypeDesc} {ck:Value} {i:Nat}:kz P w t d ck [] i none:=by
 unfold kz;cases d<;>first|rfl|simp [Instr.findAsking]
theorem kz.hit {t:Nat} {c:TI} {d:TypeDesc} {k a:AV} {ck:Value} {e:MapEntry} {l:List MapEntry} {i:Nat} (h:XK P g m S w t c d k ck) (b:lu c a=true) (j:VR g m S a e.key) (f:PN k a=true):kz P w t d ck (e::l) i (some (i,e.val)):=by
 have q:=(h.eqs b j).1;rw [f] at q;unfold kz;cases d<;>simp only at q ⊢ <;>first|(simp [Instr.findAsking,q];done)|(simp [Instr.findNow,q];done)
theorem kz.miss {t:Nat} {f:TI} {d:TypeDesc} {k b:AV} {ck:Value} {e:MapEntry} {l:List MapEntry} {i:Nat} {r:Option (Nat × Value)} (h:XK P g m S w t f d k ck) (c:lu f b=true) (n:VR g m S b e.key) (j:PN k b=false) (a:kz P w t d ck l (i+1) r):kz P w t d ck (e::l) i r:=by
 have q:=(h.eqs c n).1;rw [j] at q;unfold kz at a ⊢;cases d<;>simp only at q a ⊢ <;>first|(simp [Instr.findAsking,q,a];done)|(simp [Instr.findNow,q,a];done)
theorem kz.run {t:Nat} {c:TI} {i:TypeInfo} {d:TypeDesc} {z:Value} (b:BI P t c i d z) {ck:Value} {l:List MapEntry} {r:Option (Nat × Value)} (h:kz P w t d ck l 0 r):(Instr.findKey t ck l).run P w= .ok r w:=by
 by_cases hs:∃ a,d= .struct a
 ·obtain ⟨a,rfl⟩:=hs;simp only [kz] at h;cases l with
  |nil=>
   simp [Instr.findAsking] at h;subst h;simp [Instr.findKey,run_underlying b.und,Result.andThen,Instr.findNow]
  |cons e l=>
   simp only [Instr.findKey,Sem.run_bind,run_underlying b.und,Result.andThen_ok,Instr.findNow,Instr.sameNow];exact h
 ·have hs:∀ a,d ≠ .struct a:=fun a e=>hs ⟨a,e⟩
  refine MapKept.run_findKey b.und ?_;unfold kz at h;cases d<;>first|exact h|exact absurd rfl (hs _)
theorem um {t:Nat} {p:TI} {d:TypeDesc} {k v:AV} {ck cv:Value} (c:XK P g m S w t p d k ck) (q:VR g m S v cv):∀ (l:List MapEntry) (ks vs:List AV) (i:Nat),bD g m S ks (l.map (·.key))→bD g m S vs (l.map (·.val))→ks.all (lu p)=true→
  (kz P w t d ck l i none∧yE ks vs k=none∧ks.any (PN k)=false∧wE ks vs k v=vs++ [v])∨
  ∃ j e x,kz P w t d ck l i (some (i+j,e.val))∧l[j]? =some e∧e.key=ck∧yE ks vs k=some x∧VR g m S x e.val∧ks.any (PN k)=true∧bD g m S (wE ks vs k v) ((l.set j {e with key:=ck,val:=cv}).map (·.val))
 | [],ks,vs,i,h1,h2,_=>by
  cases ks with
  |cons _ _=>simp [bD] at h1
  |nil=>
   cases vs with
   |cons _ _=>simp [bD] at h2
   |nil=>exact .inl ⟨kz.nil,rfl,rfl,rfl⟩
 | e ::l,ks,vs,i,h1,h2,ha=>by
  cases ks with
  |nil=>simp [bD] at h1
  | cons k0 ks=>
   cases vs with
   |nil=>simp [bD] at h2
   | cons v0 vs=>
    simp only [Xqf,bD] at h1 h2;simp only [Xx2,σ] at ha;cases a:PN k k0 with
    |true=>
     have b:e.key=ck:=((c.eqs ha.1 h1.1).2 a).symm;refine .inr ⟨0,e,v0,kz.hit c ha.1 h1.1 a,rfl,b, ?_,h2.1, ?_, ?_⟩
     ·simp [yE,a]
     ·simp [a]
     ·simp only [wE,a,List.set_cons_zero,Xqf,bD];exact ⟨q,h2.2⟩
    | false=>
     rcases um c q l ks vs (i+1) h1.2 h2.2 ha.2 with ⟨f,n,h,o⟩|⟨j,e',x,f,n,h,o,u,s,r⟩
     ·refine .inl ⟨kz.miss c ha.1 h1.1 a f, ?_, ?_, ?_⟩
      ·simp [yE,a,n]
      ·simp only [Xz1,a,h];rfl
      ·simp [wE,a,o]
     ·refine .inr ⟨j+1,e',x, ?_,by simpa using n,h, ?_,u, ?_, ?_⟩
      ·rw [show i+(j+1)=i+1+j by omega];exact kz.miss c ha.1 h1.1 a f
      ·simp [yE,a,o]
      ·simp only [Xz1,a,s];rfl
      ·simp only [wE,a,List.set_cons_succ,Xqf,bD];exact ⟨h2.1,r⟩
theorem Aw {ok:Bool} {o:Option AV} {z:AV} {u c:Value} {b:Bool} (h:(o=none∧u=c∧b=false)∨∃ x,o=some x∧VR g m S x u∧b=true) (d:VR g m S z c):VR g m S (KT ok o z) (if ok then .tuple #[u,.bool b] else u):=by
 have a:VR g m S (o.getD z) u∧o.isSome=b:=by
  rcases h with ⟨rfl,rfl,rfl⟩|⟨x,rfl,e,rfl⟩
  ·exact ⟨d,rfl⟩
  ·exact ⟨e,rfl⟩
 cases ok with
 |true=>
  simp only [KT,if_true,VR];refine ⟨[u,.bool b],rfl, ?_⟩;simp only [bD,VR,PR,and_true];exact ⟨a.1,by rw [a.2]⟩
 |false=>simpa [KT] using a.1
theorem Gf (o:iM P ap) (h:cZ ap g m S w) {rd:dM} (E:∀ b B,rd b=some B→g b=some B) {t:Nat} {I:TI} {i:TypeInfo} {d:TypeDesc} {z:Value} (A:BI P t I i d z) {x k v:AV} {K ck:Value} (W:VR g m S x K) (J:VR g m S k ck) {ok:Bool}
  {ups:List (Nat × bi)} {bs:List Bool} (c:Jc ap I rd x k ok=some (v,ups,bs)) (n:∀ b ∈ bs,b=true):
  ups= []∧∃ cv,(Instr.lookup t K ck ok).run P w= .ok cv w∧VR g m S v cv:=by
 unfold Jc at c;split at c
 ·rename_i kt et hd;have p:=bind_some c;clear c;obtain ⟨Z,a,c⟩:=p;have p:=bind_some c;clear c;obtain ⟨te,f,c⟩:=p;have p:=bind_some c;clear c;obtain ⟨q,p,c⟩:=p;have D:=bind_some c;clear c;obtain ⟨R,F,c⟩:=D;obtain ⟨rfl,rfl,rfl⟩:=aT c;have G:=a;obtain ⟨ik,dk,X,a⟩:=eQ o a;obtain ⟨Y,de,O,f⟩:=eQ o f;rw [A.d_eq] at hd;have hd:=Xj hd;subst hd;obtain ⟨M,n⟩:=dB n;obtain ⟨Q,_⟩:=dB n;obtain ⟨L,s,v1,N⟩:=Ep h E W p;have l:=G_ (w:=w) o G a M J;have u:VR g m S R O:=xG f F;refine ⟨rfl, ?_⟩;rcases um l J L.toList q.1 q.2 0 v1 N Q with ⟨r,U,_,_⟩|⟨j,e,y,r,_,_,V,T,_,_⟩
  ·refine ⟨_, ?_,Aw (.inl ⟨U,rfl,rfl⟩) u⟩;rcases s with ⟨rfl,rfl⟩|⟨b,C,rfl,H⟩
   ·simp [Instr.lookup,run_underlying A.und,l.chk,r.run a,zeroValue,typeInfo,f.info,f.zero,Result.andThen]
   ·simp [Instr.lookup,run_underlying A.und,MapKept.run_getObj_map H,l.chk,r.run a,zeroValue,typeInfo,f.info,f.zero,Result.andThen]
  ·refine ⟨_, ?_,Aw (.inr ⟨y,V,T,rfl⟩) u⟩;rcases s with ⟨rfl,rfl⟩|⟨b,C,rfl,H⟩
   ·have r:=r.run a;simp [Instr.findKey,run_underlying a.und,Result.andThen,Instr.findNow] at r
   ·simp [Instr.lookup,run_underlying A.und,MapKept.run_getObj_map H,l.chk,r.run a,Result.andThen]
 ·cases c
mutual
theorem O6 {S:aU}:∀ (x:AV) {v:Value},PR S x v→eX x= []
 | .int _ _,_,_=>rfl
 | .bool _,_,_=>rfl
 | .str _,_,_=>rfl
 | .nilS,_,_=>rfl
 | .nilP,_,_=>rfl
 | .nilF,_,_=>rfl
 | .nilI,_,_=>rfl
 | .sl _ _ _,_,_=>rfl
 | .pp _ _,_,_=>rfl
 | .mp _ _,_,_=>rfl
 | .dead,_,_=>rfl
 | .own _ _ _,_,p=>by simp only [PR] at p
 | .ref _ _ _ _,_,p=>by simp only [PR] at p
 | .ptr _ _ _,_,p=>by simp only [PR] at p
 | .mr _ _,_,p=>by simp only [PR] at p
 | .agg l,_,p=>by
  simp only [PR] at p;simp only [eX];obtain ⟨_,_,q⟩:=p;exact qj l q
 | .tup l,_,p=>by
  simp only [PR] at p;simp only [eX];obtain ⟨_,_,q⟩:=p;exact qj l q
 | .fn f a c,_,p=>by
  simp only [PR] at p;simp only [eX];obtain ⟨_,_,_,q,r⟩:=p;rw [qj a q,qj c r];rfl
 | .ifc t x,_,p=>by
  simp only [PR] at p;simp only [eX];obtain ⟨_,_,q⟩:=p;exact O6 x q
theorem qj {S:aU}:∀ (l:List AV) {vs:List Value},dD S l vs→cO l= []
 | [],_,_=>rfl
 |x::r,v::vs,p=>by simp only [dD] at p;simp only [cO,O6 x p.1,qj r p.2,Γ]
 |_::_,[],p=>by simp [dD] at p
end
theorem Hl (h:cZ ap g m S w) {b:Nat} {B:bi} {a:Array MapEntry} {clk':Nat} {k:Nat} {w':World} (q:w'.heap[k]? =some (.map a clk')) (f:B.esz=iU) {ks vs:List AV} (l:B.cells= [.agg ks,.agg vs]) (o:bD g m S ks (a.toList.map (·.key))) (n:bD g m S vs (a.toList.map (·.val))) (hp:B.pr=true→cO vs= []∧cO ks= []) (i:B.fro=false→B.fz=0) (e:B.fz≤2) (c:Nat):QP g m S w' B k c:=by
 refine ⟨⟨xF a,0,[.agg (a.map (·.key)),.agg (a.map (·.val))],[],.inr ⟨f,a,clk',q,rfl⟩,rfl, ?_, ?_,fun d=>absurd f d,fun _ d=>absurd f d⟩,i,by rw [l];exact e⟩
 ·intro j;obtain ⟨r,p⟩:=hp j;rw [l];simp only [dD,PR,and_true];exact ⟨⟨(a.map (·.key)).toList,by rw [Array.toArray_toList],by rw [Array.toList_map];exact gq _ o p⟩,(a.map (·.val)).toList,by rw [Array.toArray_toList],by rw [Array.toList_map];exact gq _ n r⟩
 ·rw [l];simp only [bD,VR,and_true];exact ⟨⟨(a.map (·.key)).toList,by rw [Array.toArray_toList],by rw [Array.toList_map];exact o⟩,(a.map (·.val)).toList,by rw [Array.toArray_toList],by rw [Array.toList_map];exact n⟩
theorem Gg (h:cZ ap g m S w) {nid:Nat} (c:g nid=none) (t:Nat):
  ∃ cv m' w',(Instr.makeMap t none).run P w= .ok cv w'∧cZ ap (dW g [(nid,⟨[.agg [],.agg []],0,false,0,iU,true⟩)]) m' S w'∧Fr g m S w (dW g [(nid,⟨[.agg [],.agg []],0,false,0,iU,true⟩)]) m' S w'∧VR (dW g [(nid,⟨[.agg [],.agg []],0,false,0,iU,true⟩)]) m' S (.mr nid 0) cv:=by
 have a:=h.put nid ⟨[.agg [],.agg []],0,false,0,iU,true⟩ w.heap.size 0 (w':=w.alloc (.map #[] 0)) (.inl (Θ _)) (World.grownBy_alloc w _ _)
  (Hl h (b:=nid) (heap_alloc_new w _) rfl rfl (by simp [bD]) (by simp [bD]) (fun _=> ⟨rfl,rfl⟩) (fun _=>rfl) (Xxq _) 0)
  (fun B0 h0=>by rw [c] at h0;cases h0) (fun o v d=>absurd (h.seal_lt d) (Xvm _))
 refine ⟨.map (some w.heap.size),_,_, ?_,a.1,a.2, ?_⟩
 ·simp [Instr.makeMap,Result.andThen]
 ·simp only [VR];exact ⟨_,nG _ _ _,Θ _,⟨_,rfl⟩,fun _=>by simp [kQ]⟩
theorem D7:∀ (lks:List LK) (l:List AV),mO lks l=true→cO l= []
 | [],[],_=>rfl
 |k::lks,x::l,h=>by
  simp only [mO,σ] at h;have a:eX x= []:=by cases k<;>cases x<;>first|rfl|(have:=h.1;simp [G9] at this)
  simp only [cO,a,D7 lks l h.2,Γ]
 | [],_::_,h=>by simp [mO] at h
 |_::_,[],h=>by simp [mO] at h
theorem zX:∀ (l:List AV) (b:TI),l.all (lu b)=true→cO l= []
 | [],_,_=>rfl
 | x::r,b,h=>by
  simp only [Xx2,σ] at h;have c:eX x= []:=by
   have a:=h.1;unfold lu at a;split at a<;>first|rfl|(cases a;done)|skip
   simp only [σ] at a;simp only [eX];exact D7 _ _ a.2
  simp only [cO,c,zX r b h.2,Γ]
theorem EU:∀ (ks vs:List AV) (k v:AV),cO vs= []→eX v= []→cO (wE ks vs k v)= []
 | [],_,k,v,_,h2=>by simp [wE,cO,h2]
 |_::_,[],k,v,_,h2=>by simp [wE,cO,h2]
 |k0::ks,v0::vs,k,v,h1,h2=>by
  simp only [cO,Xj6] at h1;simp only [wE];split
  ·simp [cO,h1.2,h2]
  ·simp [cO,h1.1,EU ks vs k v h1.2 h2]
theorem wX (K:iM P ap) (h:cZ ap g m S w) {rd:dM} (O:∀ b B,rd b=some B→g b=some B) {t:Nat} {ti:TI} {i:TypeInfo} {d:TypeDesc} {z:Value} (ht:BI P t ti i d z) {x k v r:AV} {cx ck cv:Value} (X:VR g m S x cx) (hk:VR g m S k ck) (hv:VR g m S v cv)
  {ups:List (Nat × bi)} {bs:List Bool} (f:Cf ap ti rd x k v=some (r,ups,bs)) (H:∀ b ∈ bs,b=true):
  r= .dead∧∃ E w',(Instr.mapUpdate t cx ck cv).run P w= .ok () w'∧cZ ap (dW g ups) E S w'∧Fr g m S w (dW g ups) E S w':=by
 unfold Cf at f;split at f
 ·rename_i kt et b ver hd;have hq:=bind_some f;clear f;obtain ⟨tk,p,f⟩:=hq;have hq:=bind_some f;clear f;obtain ⟨B,hB,f⟩:=hq;split at f
  ·rename_i l;simp only [σ,Xqm] at l;split at f
   ·rename_i ks vs hcells;cases f;have hkt:=p;obtain ⟨ik,dk,zk,p⟩:=eQ K p;rw [ht.d_eq] at hd;have hd:=Xj hd;subst hd;obtain ⟨b1,H⟩:=dB H;obtain ⟨b2,_⟩:=dB H;have a:=O b B hB;have hz:=aO l.1.2;have W:VI rd (.mr b ver)=some (ks,vs):=by
     unfold VI;simp only [hB,Option.bind_some,l.1.1,l.1.2,Bool.and_self,hcells]
    obtain ⟨s,Y,v1,v2⟩:=Ep h O X W;have C:=G_ (w:=w) K hkt p b1 hk;simp only [VR] at X;obtain ⟨B',N,_,_,q⟩:=X;rw [a] at N;cases N;have q:=q (aO l.1.1);subst q;rcases Y with ⟨e,_⟩|⟨b0,G,e,Q⟩
    ·cases e
    cases e;have Z:(m b).1<w.heap.size:=h.lt a;obtain ⟨_,k7,k8⟩:=h.blk b B a;have key:∀ (c:Array MapEntry) (clk':Nat),bD g m S (Jr ks k) (c.toList.map (·.key))→bD g m S (wE ks vs k v) (c.toList.map (·.val))→
      ∃ E,cZ ap (dW g [(b,{B with cells:= [.agg (Jr ks k),.agg (wE ks vs k v)],pr:=B.pr && (eX v).isEmpty})]) E S {w with heap:=w.heap.setIfInBounds (m b).1 (.map c clk')}∧Fr g m S w (dW g [(b,{B with cells:= [.agg (Jr ks k),.agg (wE ks vs k v)],pr:=B.pr && (eX v).isEmpty})]) E S {w with heap:=w.heap.setIfInBounds (m b).1 (.map c clk')}:=by
     intro c clk' w1 w2;have F:=h.put b {B with cells:= [.agg (Jr ks k),.agg (wE ks vs k v)],pr:=B.pr && (eX v).isEmpty} (m b).1 (m b).2 (w':={w with heap:=w.heap.setIfInBounds (m b).1 (.map c clk')})
      (.inr ⟨B,a,rfl⟩) ⟨rfl,rfl,rfl,by simp,fun k' _ hk'=>by simp [show (m b).1 ≠ k' from fun e=>hk' (by rw [e])]⟩
      (Hl h (b:=b) (B:={B with cells:= [.agg (Jr ks k),.agg (wE ks vs k v)],pr:=B.pr && (eX v).isEmpty}) (w':={w with heap:=w.heap.setIfInBounds (m b).1 (.map c clk')}) (k:=(m b).1) (clk':=clk') (by simp [Z]) hz rfl w1 w2 (fun A=>by
       have A:(B.pr && (eX v).isEmpty)=true:=A;simp only [σ] at A;obtain ⟨⟨cur,e,us,rest,k1,k2,k3,k4,_,_⟩,_,_⟩:=h.blk b B a;have hr:cO B.cells= []:=qj _ (k3 A.1);rw [hcells] at hr;simp only [cO,eX,Γ,Xj6] at hr;refine ⟨EU _ _ _ _ hr.2 (qy A.2), ?_⟩;have J:=zX ks _ b2;unfold Jr;split
       ·exact J
       ·rw [rX,J];exact zX [k] tk (by simp [b1])) k7 (by rw [hcells] at k8;exact k8) (m b).2)
      (fun B0 h0=>by rw [a] at h0;cases h0;exact ⟨rfl,.inl ⟨rfl,rfl⟩⟩)
      (fun o u hu=>by
       have:=(h.own b B a o u hu).1;rw [l.2] at this;cases this)
     exact ⟨_,F.1,F.2⟩
    refine ⟨rfl, ?_⟩;rcases um C hv s.toList ks vs 0 v1 v2 b2 with ⟨R,r2,r3,r4⟩|⟨j,e,y,R,V,rk,r4,r5,r6,r7⟩
    ·obtain ⟨E,U,s2⟩:=key (s.push {key:=ck,val:=cv,born:=G}) (G+1)
      (by unfold Jr;rw [r3,Array.toList_push,Xxt];exact iy v1 (by simp only [Xqf,Xxz,bD,and_true];exact hk))
      (by rw [r4,Array.toList_push,Xxt];exact iy v2 (by simp only [Xqf,Xxz,bD,and_true];exact hv))
     refine ⟨E,_, ?_,U,s2⟩;simp [Instr.mapUpdate,run_underlying ht.und,MapKept.run_getObj_map Q,C.chk,R.run p,MapKept.run_setObj_map _ Q,Result.andThen]
    ·have D:s[j]? =some e:=by simpa using V
     have L:(s.modify j fun e=> {e with key:=ck,val:=cv}).toList=s.toList.set j {e with key:=ck,val:=cv}:=by
      apply Xju;intro n;simp only [Array.getElem?_toList,Array.getElem?_modify,Xzi];by_cases hjn:j=n
      ·subst hjn;have I:j<s.toList.length:=(List.getElem?_eq_some_iff.1 V).1;rw [if_pos rfl,if_pos rfl,if_pos I,D];rfl
      ·rw [if_neg hjn,if_neg hjn]
     obtain ⟨E,U,s2⟩:=key (s.modify j fun e=> {e with key:=ck,val:=cv}) G
      (by
       unfold Jr;rw [r6,L];have:(s.toList.set j {e with key:=ck,val:=cv}).map (·.key)=s.toList.map (·.key):=by
        apply Xju;intro n;simp only [Xqz,Xzi];by_cases hjn:j=n
        ·subst hjn;have I:j<s.toList.length:=(List.getElem?_eq_some_iff.1 V).1;have M:j<s.size:=by simpa using I
         have T:s[j]=e:=by rw [Array.getElem?_eq_getElem M] at D;exact Option.some.inj D
         simp [M,T,rk]
        ·simp [hjn]
       rw [this];exact v1)
      (by rw [L];exact r7)
     refine ⟨E,_, ?_,U,s2⟩;rw [χ] at R;simp [Instr.mapUpdate,run_underlying ht.und,MapKept.run_getObj_map Q,C.chk,R.run p,D,rk,C.stay,MapKept.run_setObj_map _ Q,Result.andThen]
   ·cases f
  ·cases f
 ·cases f
end
end AM
namespace AM
open Go
section
variable {P:Program} {ap:AP} {g:dM} {m:a_} {S:aU} {w:World}
theorem vw {ρ:Operand→AV} {cρ:Operand→Value}:∀ (l:List Operand),(∀ o ∈ l,VR g m S (ρ o) (cρ o))→bD g m S (l.map ρ) (l.map cρ)
 | [],_=>by simp [bD]
 |o::r,h=>by simp only [Xqf,bD];exact ⟨h o (by simp),vw r fun o a=>h o (by simp [a])⟩
theorem CJ {ρ:Operand→AV} {cρ:Operand→Value}:∀ (l:List (Nat × Operand)),(∀ o ∈ l.map (·.2),VR g m S (ρ o) (cρ o))→xX g m S (l.map fun (i,x)=>(i,ρ x)) (l.map fun (i,x)=>(i,cρ x))
 | [],_=>by simp [xX]
 |(i,o)::r,h=>by simp only [Xqf,xX];exact ⟨trivial,h o (by simp),CJ r fun o a=>h o (by simp [a])⟩
def jc (P:Program) (ap:AP) (g:dM) (m:a_) (S:aU) (w:World) (s:Sem Next) (v:AV) (ups:List (Nat × bi)):Prop:=
 ∃ nx m' w',s.run P w= .ok nx w'∧cZ ap (dW g ups) m' S w'∧Fr g m S w (dW g ups) m' S w'∧((∃ cv,nx= .value cv∧VR (dW g ups) m' S v cv)∨(nx= .skip∧v= .dead))
theorem jc.pur (h:cZ ap g m S w) {s:Sem Value} {v:AV} {ups:List (Nat × bi)} (hs:ups= []∧∃ cv,s.run P w= .ok cv w∧VR g m S v cv):jc P ap g m S w (do pure (.value (← s))) v ups:=by
 obtain ⟨rfl,cv,b,a⟩:=hs;exact ⟨.value cv,m,w,by simp [b],by rw [fQ];exact h,by rw [fQ];exact Fr.refl _ _ _ _,.inl ⟨cv,rfl,by rw [fQ];exact a⟩⟩
theorem jc.full {s:Sem Value} {v:AV} {ups:List (Nat × bi)} (hs:∃ cv a w',s.run P w= .ok cv w'∧cZ ap (dW g ups) a S w'∧Fr g m S w (dW g ups) a S w'∧VR (dW g ups) a S v cv):jc P ap g m S w (do pure (.value (← s))) v ups:=by
 obtain ⟨cv,a,w',d,c,e,b⟩:=hs;exact ⟨.value cv,a,w',by simp [d],c,e,.inl ⟨cv,rfl,b⟩⟩
theorem jc.val (h:cZ ap g m S w) {s:Sem Next} {v:AV} {cv:Value} (hs:s.run P w= .ok (.value cv) w) (a:VR g m S v cv):jc P ap g m S w s v []:=
 ⟨.value cv,m,w,hs,by rw [fQ];exact h,by rw [fQ];exact Fr.refl _ _ _ _,.inl ⟨cv,rfl,by rw [fQ];exact a⟩⟩
theorem CB {ρ:Operand→AV} {cρ:Operand→Value} (x:Option Operand) (h:∀ o ∈ x.toArray,VR g m S (ρ o) (cρ o)):Cm g m S (x.map ρ) (x.map cρ):=by
 cases x with
 |none=>simp [Cm]
 |some o=>simp only [Xjf,Cm];exact h o (by simp)
theorem Ku (a:iM P ap) {t:Nat} {b:TI} (h:ap.tyAt t=some b) (hd:b.d ≠ .iface):P.concrete t=true:=by
 obtain ⟨i,d,z,c⟩:=eQ a h;have:=c.d_eq;simp only [Program.concrete,c.und];cases d<;>simp_all [kw]
set_option maxHeartbeats 1000000 in
theorem Sl (j:iM P ap) (D:cZ ap g m S w) {nid:Nat} (W:g nid=none) {ρ:Operand→AV} {cρ:Operand→Value} {rd:dM} (I:∀ b B,rd b=some B→g b=some B) (o:Oper) (hρ:∀ x ∈ o.op.operands,VR g m S (ρ x) (cρ x))
  {dec:Operand→Option Bool} (hdec:∀ x ∈ o.op.operands,∀ b,dec x=some b→cρ x= .bool b) {em:Bool} (hem:∀ n,yC ρ o.op=some n→Xqo n 0=em)
  {v:AV} {ups:List (Nat × bi)} {bs:List Bool} (h:opA ap nid ρ rd dec em o.op=some (v,ups,bs)) (hbs:∀ b ∈ bs,b=true):jc P ap g m S w (execOp cρ o) v ups:=by
 unfold opA at h;unfold execOp;split at h<;>rename_i heq<;>simp only [heq,Op.operands] at hρ hdec hem ⊢
 ·obtain ⟨rfl,rfl,rfl⟩:=aT h;exact jc.val D (by simp) (hρ _ (by simp))
 ·obtain ⟨rfl,rfl,rfl⟩:=aT h;exact jc.val D (by simp) (hρ _ (by simp))
 ·
  rename_i c a b;split at h
  ·rename_i hd;obtain ⟨rfl,rfl,rfl⟩:=aT h;have:=hdec c (by simp) _ hd;exact jc.val D (by simp [this,asBool]) (hρ _ (by simp))
  ·rename_i hd;obtain ⟨rfl,rfl,rfl⟩:=aT h;have:=hdec c (by simp) _ hd;exact jc.val D (by simp [this,asBool]) (hρ _ (by simp))
  ·split at h
   ·rename_i bc ba bb e1 e2 e3;obtain ⟨rfl,rfl,rfl⟩:=aT h;have F:=hρ c (by simp);have G:=hρ a (by simp);have M:=hρ b (by simp);rw [e1] at F;rw [e2] at G;rw [e3] at M;simp only [VR,PR] at F G M;refine jc.val D (cv:= .bool (cond bc ba bb)) ?_ (by simp only [VR,PR]);rw [F,G,M];cases bc<;>simp [asBool]
   ·cases h
 ·
  rename_i e;have A:=bind_some h;clear h;obtain ⟨te,K,h⟩:=A;obtain ⟨ie,de,ze,C⟩:=eQ j K;split at h
  ·rename_i Q;simp only [σ] at Q;cases h;obtain ⟨N,w',F,G,M,h4⟩:=Gz (P:=P) D W (cells:=te.zero) (cv:=ze) (qm C) C.zleaf (fun u hu=>BJ (g:=g) (m:=m) (S:=S) (qm C) C.zleaf u (by simpa using hu)) e;refine jc.full ⟨.pointer (some ⟨w.heap.size,0,none⟩),N,w', ?_,G,M,Qi h4⟩;simp [Instr.alloc,zeroValue,typeInfo,C.info,C.zero,F]
  ·cases h
 ·
  rename_i e x;have A:=bind_some h;clear h;obtain ⟨te,K,h⟩:=A;obtain ⟨ie,de,ze,C⟩:=eQ j K;simp only at h;split at h
  ·rename_i Q;simp only [σ] at Q;cases h;have E:=hρ x (by simp);have hl:∀ y ∈ (ρ x).cells,nX y=true:=fun y hy=>List.all_eq_true.1 Q.2 y hy
   obtain ⟨hv1,hv2⟩:=CU E hl;obtain ⟨N,w',F,G,M,h4⟩:=Gz (P:=P) D W (cells:=(ρ x).cells) (cv:=cρ x) hv1 hl hv2 e;refine jc.full ⟨.pointer (some ⟨w.heap.size,0,none⟩),N,w', ?_,G,M,Qi h4⟩;simp [Instr.box,F]
  ·cases h
 ·
  rename_i t parts;have A:=bind_some h;clear h;obtain ⟨L,q,h⟩:=A;obtain ⟨i,d,z,C⟩:=eQ j q;refine jc.pur D ?_;refine Iy j C (qs:=parts.map fun (i,x)=>(i,cρ x)) ?_ h;rw [Array.toList_map];exact CJ parts.toList fun x E=>hρ x (by simpa using E)
 ·
  rename_i t len parts;have A:=bind_some h;clear h;obtain ⟨L,q,h⟩:=A;obtain ⟨i,d,z,C⟩:=eQ j q;refine jc.full ?_;refine yh j D W C (qs:=parts.map fun (i,x)=>(i,cρ x)) ?_ h;rw [Array.toList_map];exact CJ parts.toList fun x E=>hρ x (by simpa using E)
 ·
  rename_i t a;have A:=bind_some h;clear h;obtain ⟨L,q,h⟩:=A;obtain ⟨i,d,z,C⟩:=eQ j q;exact jc.pur D (Az D I C (hρ a (by simp)) h hbs)
 ·
  rename_i t a x;have A:=bind_some h;clear h;obtain ⟨L,q,h⟩:=A;obtain ⟨i,d,z,C⟩:=eQ j q;have ha:=hρ a (by simp);have E:=hρ x (by simp);generalize cρ a=ca at ha ⊢;generalize cρ x=cx at E ⊢;obtain ⟨rfl,N,w',F,G,M⟩:=JE D I C ha E h hbs;exact ⟨.skip,N,w',by simp [F],G,M,.inr ⟨rfl,rfl⟩⟩
 ·
  rename_i t r;split at h
  ·cases h;obtain ⟨cv,N,w',F,G,M,h4⟩:=Gg (P:=P) D W t;exact ⟨.value cv,N,w',by simp [F],G,M,.inl ⟨cv,rfl,h4⟩⟩
  ·cases h
 ·
  rename_i t x k ok;have A:=bind_some h;clear h;obtain ⟨L,q,h⟩:=A;obtain ⟨i,d,z,C⟩:=eQ j q;exact jc.pur D (Gf j D I C (hρ x (by simp)) (hρ k (by simp)) h hbs)
 ·
  rename_i t x k v;have A:=bind_some h;clear h;obtain ⟨L,q,h⟩:=A;obtain ⟨i,d,z,C⟩:=eQ j q;obtain ⟨rfl,N,w',F,G,M⟩:=wX j D I C (hρ x (by simp)) (hρ k (by simp)) (hρ v (by simp)) h hbs;exact ⟨.skip,N,w',by simp [F],G,M,.inr ⟨rfl,rfl⟩⟩
 ·
  rename_i t x k v;have A:=bind_some h;clear h;obtain ⟨L,q,h⟩:=A;obtain ⟨i,d,z,C⟩:=eQ j q;obtain ⟨rfl,N,w',F,G,M⟩:=wX j D I C (hρ x (by simp)) (hρ k (by simp)) (hρ v (by simp)) h hbs;exact ⟨.skip,N,w',by simp [F],G,M,.inr ⟨rfl,rfl⟩⟩
 ·
  rename_i x;have E:=hρ x (by simp);split at h
  ·rename_i b ver off e;rw [e] at E;obtain ⟨rfl,rfl,rfl⟩:=aT h;have H:=E;simp only [VR] at H;obtain ⟨_,_,_,⟨k,o,Y⟩,_⟩:=H;exact jc.val D (cv:=cρ x) (by rw [Y];simp) E
  ·rename_i xs off e;rw [e] at E;obtain ⟨rfl,rfl,rfl⟩:=aT h;have H:=E;simp only [VR,PR] at H;obtain ⟨_,_,_,Y,_⟩:=H;exact jc.val D (cv:=cρ x) (by rw [Y];simp) E
  ·rename_i f a c e;rw [e] at E;obtain ⟨rfl,rfl,rfl⟩:=aT h;have H:=E;simp only [VR] at H;obtain ⟨_,_,Y,_⟩:=H;exact jc.val D (cv:=cρ x) (by rw [Y];simp) E
  ·cases h
 ·
  rename_i op t x y _;have A:=bind_some h;clear h;obtain ⟨L,q,h⟩:=A;exact jc.pur D (Nl j q (hρ x (by simp)) (hρ y (by simp)) h hbs x y)
 ·
  exact jc.pur D (TC (hρ _ (by simp)) h)
 ·
  rename_i s d x;have A:=bind_some h;clear h;obtain ⟨ts,hts,h⟩:=A;have A:=bind_some h;clear h;obtain ⟨td,htd,h⟩:=A;exact jc.pur D (Dp j D I hts htd (hρ x (by simp)) h hbs)
 ·
  rename_i t x;have A:=bind_some h;clear h;obtain ⟨L,q,h⟩:=A;split at h
  ·cases h
  ·rename_i hd;obtain ⟨rfl,rfl,rfl⟩:=aT h;refine jc.pur D ⟨rfl,.iface t (cρ x),run_makeInterface w t _ (Ku j q hd), ?_⟩;simp only [VR];exact ⟨_,rfl,hρ x (by simp)⟩
 ·
  rename_i f first cap
  obtain ⟨rfl,rfl,rfl⟩:=aT h;refine jc.pur D ⟨rfl,.func (.func f) (first.map cρ) (cap.map cρ),by simp [Instr.makeFunc], ?_⟩;simp only [VR];refine ⟨(first.map cρ).toList,(cap.map cρ).toList,by rw [Array.toArray_toList,Array.toArray_toList], ?_, ?_⟩
  ·rw [Array.toList_map];exact vw _ fun x E=>hρ x (by simp at E ⊢;exact .inl E)
  ·rw [Array.toList_map];exact vw _ fun x E=>hρ x (by simp at E ⊢;exact .inr E)
 ·
  rename_i t l c;have A:=bind_some h;clear h;obtain ⟨L,q,h⟩:=A;obtain ⟨i,d,z,C⟩:=eQ j q;exact jc.full (zN j D W C (hρ l (by simp)) (hρ c (by simp)) h hbs)
 ·
  rename_i t x lo hi mx;have A:=bind_some h;clear h;obtain ⟨L,q,h⟩:=A;obtain ⟨i,d,z,C⟩:=eQ j q;exact jc.pur D (JB j I C (hρ x (by simp)) (CB lo fun o U=>hρ o (by simp at U;simp [U])) (CB hi fun o U=>hρ o (by simp at U;simp [U])) (CB mx fun o U=>hρ o (by simp at U;simp [U])) h hbs)
 ·
  rename_i s x f;have A:=bind_some h;clear h;obtain ⟨L,q,h⟩:=A;obtain ⟨i,d,z,C⟩:=eQ j q;split at h
  ·rename_i fs hd;have A:=bind_some h;clear h;obtain ⟨⟨o,ft,sz⟩,hf,h⟩:=A;simp only at h;split at h
   ·rename_i hsz;have A:=bind_some h;clear h;obtain ⟨p,hp,h⟩:=A;obtain ⟨rfl,rfl,rfl⟩:=aT h;exact jc.pur D ⟨rfl,Bv C hd hf hsz (hρ x (by simp)) hp⟩
   ·cases h
  ·cases h
 ·
  rename_i t x f;have A:=bind_some h;clear h;obtain ⟨L,q,h⟩:=A;obtain ⟨i,d,z,C⟩:=eQ j q;exact jc.pur D (IQ j C (hρ x (by simp)) h hbs)
 ·
  rename_i t x ix;have A:=bind_some h;clear h;obtain ⟨L,q,h⟩:=A;obtain ⟨i,d,z,C⟩:=eQ j q;exact jc.pur D (zG j I C (hρ x (by simp)) (hρ ix (by simp)) h hbs)
 ·
  rename_i t x ix;have A:=bind_some h;clear h;obtain ⟨L,q,h⟩:=A;obtain ⟨i,d,z,C⟩:=eQ j q;exact jc.pur D (I5 j C (hρ x (by simp)) (hρ ix (by simp)) h hbs)
 ·
  exact jc.pur D (F8 j (hρ _ (by simp)) h _)
 ·
  rename_i t i;have C:=hρ t (by simp);split at h
  ·rename_i l e;rw [e] at C;have A:=bind_some h;clear h;obtain ⟨x,E,h⟩:=A;obtain ⟨rfl,rfl,rfl⟩:=aT h;simp only [VR] at C;obtain ⟨vs,Y,hl⟩:=C;obtain ⟨cv,F,G⟩:=qU hl i E;refine jc.pur D ⟨rfl,cv, ?_,G⟩;rw [Y];simp [Instr.extract,F]
  ·cases h
 ·
  rename_i b args R;simp only [Call.operands] at hρ;have hargs:∀ x ∈ args,VR g m S (ρ x) (cρ x):=fun x E=>hρ x (by simp [E])
  split at h
  ·have A:=bind_some h;clear h;obtain ⟨x,E,h⟩:=A;have A:=bind_some h;clear h;obtain ⟨t,X,h⟩:=A;have A:=bind_some h;clear h;obtain ⟨L,q,h⟩:=A;obtain ⟨i,d,z,C⟩:=eQ j q;obtain ⟨hu,cv,F,G⟩:=Oa (P:=P) (w:=w) (hargs x (Array.mem_of_getElem? E)) C h R X (args.map cρ) (by simp [E]) o.type;subst hu;exact jc.val D (cv:=cv) (by simp [resolve,invoke,builtin,F]) G
  ·split at h
   ·rename_i s x t t1 ha X;have hargs':args=#[s,x]:=by apply Array.ext';simpa using ha
    have hats':R=#[t,t1]:=by apply Array.ext';simpa using X
    subst hargs';subst hats';have A:=bind_some h;clear h;obtain ⟨L,q,h⟩:=A;have A:=bind_some h;clear h;obtain ⟨ti1,Z,h⟩:=A;obtain ⟨i,d,z,C⟩:=eQ j q;obtain ⟨i1,d1,z1,T⟩:=eQ j Z;have hs:=hargs s (by simp);have E:=hargs x (by simp);have V:ρ s= .nilS→∃ n,xk (ρ x)=some n∧Xqo n 0=em:=by
     intro e;cases hc:xk (ρ x) with
     | none=>
      exfalso;split at h
      ·rename_i H;rw [H] at hc;simp [xk] at hc
      ·cases h
      ·rename_i y hy1 _ hy2 hy3;have A:=bind_some h;clear h;obtain ⟨te,K,h⟩:=A;unfold yc at h;have A:=bind_some h;clear h;obtain ⟨⟨xs,n,pr⟩,hsrc,h⟩:=A;cases hxx:ρ x<;>simp [hxx,xk] at hc<;>simp [hxx,L8] at hsrc
      ·cases h
     |some n=>exact ⟨n,rfl,hem n (by simp [yC,e,hc])⟩
    split at h
    ·rename_i e y hd J hy;have A:=bind_some h;clear h;obtain ⟨te,K,h⟩:=A;obtain ⟨ie,de,ze,O⟩:=eQ j K;split at h
     ·rename_i F;rw [C.d_eq] at hd;rw [T.d_eq] at J;have hd:=ig hd;have J:=xP J;subst hd;subst J;obtain ⟨cv,N,w',r1,r2,r3,r4⟩:=wL (P:=P) D I W C O hs E (tx:=t1) (.inl ⟨⟨y,hy⟩,T.und,aO F⟩) V (by rw [hy];exact h) hbs o.type;exact ⟨.value cv,N,w',by simp [resolve,invoke,builtin,r1],r2,r3,.inl ⟨cv,rfl,r4⟩⟩
     ·cases h
    ·cases h
    ·rename_i e e1 hd J hns;have A:=bind_some h;clear h;obtain ⟨te,K,h⟩:=A;obtain ⟨ie,de,ze,O⟩:=eQ j K;rw [C.d_eq] at hd;rw [T.d_eq] at J;have hd:=ig hd;have J:=ig J;subst hd;subst J;obtain ⟨cv,N,w',r1,r2,r3,r4⟩:=wL (P:=P) D I W C O hs E (tx:=t1) (.inr ⟨fun s e=>hns s e,_,T.und⟩) V h hbs o.type;exact ⟨.value cv,N,w',by simp [resolve,invoke,builtin,r1],r2,r3,.inl ⟨cv,rfl,r4⟩⟩
    ·cases h
   ·cases h
  ·have A:=bind_some h;clear h;obtain ⟨r,hr,h⟩:=A;obtain ⟨rfl,rfl,rfl⟩:=aT h;obtain ⟨cv,F,G⟩:=RU (P:=P) (w:=w) (vw args.toList fun x E=>hargs x (Array.mem_toList_iff.1 E)) hr R o.type;refine jc.val D (cv:=cv) ?_ G;have:(Xjh cρ args.toList).toArray=args.map cρ:=by apply Array.ext';rw [Xw4,Array.toList_map]
   rw [this] at F;simp [resolve,invoke,builtin,F]
  ·have A:=bind_some h;clear h;obtain ⟨r,hr,h⟩:=A;obtain ⟨rfl,rfl,rfl⟩:=aT h;obtain ⟨cv,F,G⟩:=RN (P:=P) (w:=w) (vw args.toList fun x E=>hargs x (Array.mem_toList_iff.1 E)) hr R o.type;refine jc.val D (cv:=cv) ?_ G;have:(Xjh cρ args.toList).toArray=args.map cρ:=by apply Array.ext';rw [Xw4,Array.toList_map]
   rw [this] at F;simp [resolve,invoke,builtin,F]
  ·cases h
 ·cases h
end
end AM
namespace AM
open Go
structure Cx.Ok (c:Cx):Prop where
 bs:∀ b ∈ c.bs,b=true
 ps:∀ p ∈ c.ps,p
theorem R.bind_ok {α β:Type} {r:R α} {f:α→Cx→R β} {b:β} {c:Cx} (h:r.bind f= .ok b c):∃ a c1,r= .ok a c1∧f a c1= .ok b c:=by
 cases r with
 |ok a c1=>exact ⟨a,c1,rfl,h⟩
 |need=>simp [R.bind] at h
 |bad n=>simp [R.bind] at h
theorem IK {c f:Cx} {bs:List Bool} {u:Unit} (h:Yz c bs= .ok u f) (d:f.Ok):c.Ok∧∀ b ∈ bs,b=true:=by
 unfold Yz at h;split at h
 ·split at h
  ·rename_i a;cases h;exact ⟨d,fun b e=>by simpa using List.all_eq_true.1 a b e⟩
  ·cases h
 ·cases h;exact ⟨⟨fun b a=>d.bs b (by simp [a]),d.ps⟩,fun b a=>d.bs b (by simp [a])⟩
theorem lG {c e:Cx} {b a:Bool} (h:zu c b= .ok a e) (d:e.Ok):c.Ok∧a=b:=by
 unfold zu at h;split at h
 ·cases h;exact ⟨d,rfl⟩
 ·split at h
  ·cases h
  ·rename_i o r _;cases h;have f:=d.bs (lit a b) (by simp);refine ⟨⟨fun x i=>d.bs x (by simp [i]),d.ps⟩, ?_⟩;cases a<;>cases b<;>simp [lit] at f ⊢
theorem iV {l:List Nat} {a:Nat}:pY l a=true↔a ∈ l:=by
 simp only [pY,List.any_eq_true];constructor
 ·rintro ⟨x,hx,h⟩;exact aO h ▸ hx
 ·intro h;exact ⟨a,h,Nat.beq_refl a⟩
theorem jl {α β:Type} {f:α→Option β}:∀ {l:List α} {l':List β},kP f l=some l'→l'.length=l.length∧∀ (i:Nat) x,l[i]? =some x→∃ y,l'[i]? =some y∧f x=some y
 | [],l',h=>by simp [kP] at h;subst h;simp
 | a::r,l',h=>by
  simp only [kP] at h;split at h
  ·rename_i y d;split at h
   ·rename_i q c;cases h;obtain ⟨e,j⟩:=jl c;refine ⟨by simp [e], ?_⟩;intro i x b;cases i with
    |zero=>simp at b;subst b;exact ⟨y,by simp,d⟩
    |succ i=>simpa using j i x (by simpa using b)
   ·cases h
  ·cases h
section
variable {P:Program} {ap:AP} {g:dM} {m:a_} {S:aU} {w:World}
noncomputable def dR (S:aU) (m:a_) (rd:dM) (w:World):aU:=fun k o=>
 match S k o with
 |some v=>some v
 |none=>open Classical in if ∃ b B,rd b=some B∧(m b).1=k∧o<B.cells.length then dU w k o else none
theorem nC (S:aU) (m:a_) (rd:dM) (w:World):mY S (dR S m rd w):=by
 intro k o v h;simp [dR,h]
theorem f_ {rd:dM} {k o:Nat} {v:Value} (h:dR S m rd w k o=some v):S k o=some v∨(dU w k o=some v∧∃ b B,rd b=some B∧(m b).1=k∧o<B.cells.length):=by
 unfold dR at h;split at h
 ·rename_i e c;cases h;exact .inl c
 ·rename_i d;split at h
  ·rename_i a;exact .inr ⟨h,a⟩
  ·cases h
theorem pF (a:cZ ap g m S w) {rd:dM} {k o:Nat} {v:Value} (h:dR S m rd w k o=some v):dU w k o=some v:=by
 rcases f_ h with h|h
 ·exact a.sealed _ _ _ h
 ·exact h.1
theorem SX (c:cZ ap g m S w) {rd:dM} {b:Nat} {B:bi} (f:rd b=some B) {o:Nat} (d:o<B.cells.length) {v:Value} (a:dU w (m b).1 o=some v):dR S m rd w (m b).1 o=some v:=by
 unfold dR;split
 ·rename_i h e;have:=c.sealed _ _ _ e;rw [a] at this;cases this;rfl
 ·rw [if_pos ⟨b,B,f,rfl,d⟩];exact a
theorem Fe (h:cZ ap g m S w) {rd:dM} (d:∀ b B,rd b=some B→g b=some B) {b:Nat} {B:bi} (k:rd b=some B):
  ∃ vs,bD g m S B.cells vs∧(B.pr=true→dD S B.cells vs)∧(∀ j u,vs[j]? =some u→dR S m rd w (m b).1 j=some u)∧vs.length=B.cells.length∧(B.esz ≠ iU→∀ u ∈ vs,u.oneCell'=true):=by
 obtain ⟨⟨cur,e,vs,rest,o,n,p,c,i,q⟩,_,_⟩:=h.blk b B (d b B k);refine ⟨vs,c,p, ?_,(dm c).symm,i⟩;intro j u f;have a:=(List.getElem?_eq_some_iff.1 f).1;refine SX h k (by rw [dm c];exact a) ?_;exact o.get (by rw [n,Xxf a];exact f) (fun l=>i l u (Xqr f))
theorem yU (h:cZ ap g m S w) {rd:dM} (a:∀ b B,rd b=some B→g b=some B) {b:Nat} {B:bi} (i:rd b=some B) (d:B.esz ≠ iU):
  ∃ vs,bD g m S B.cells vs∧(B.pr=true→dD S B.cells vs)∧kT (dR S m rd w) (m b).1 0 vs∧vs.length=B.cells.length:=by
 obtain ⟨vs,l,k,n,e,f⟩:=Fe h a i;refine ⟨vs,l,k,fun j u c=> ?_,e⟩;rw [χ];exact ⟨n j u c,f d u (Xqr c)⟩
theorem Hm {S':aU} {l:List AV} {y:AV} {vs:List Value} {k:Nat} (h:Za l=some y) (a:dD S' l vs) (hs:∀ j u,vs[j]? =some u→S' k j=some u):PR S' y (.map (some k)):=by
 unfold Za at h;split at h
 ·rename_i ks f;cases h
  match vs,a with
  | [v0,v1],a=>
   simp only [dD,PR,and_true] at a;obtain ⟨⟨b,rfl,e⟩,c,rfl,d⟩:=a;simp only [PR];exact .inr ⟨k,b,c,rfl,hs 0 _ rfl,hs 1 _ rfl,e,d⟩
  | [],a=>simp [dD] at a
  | [_],a=>simp [dD] at a
  |_::_::_::_,a=>simp [dD] at a
 ·cases h
theorem tV {S':aU} {f:AV→Option AV} (a:∀ x v y,f x=some y→VR g m S x v→PR S' y v):∀ {l l':List AV} {vs:List Value},kP f l=some l'→bD g m S l vs→dD S' l' vs
 | [],l',[],h,_=>by simp [kP] at h;subst h;simp [dD]
 | x::r,l',v::vs,h,hv=>by
  simp only [kP] at h;simp only [bD] at hv;split at h
  ·rename_i y c;split at h
   ·rename_i q b;cases h;simp only [dD];exact ⟨a x v y c hv.1,tV a b hv.2⟩
   ·cases h
  ·cases h
 | [],_,_::_,_,h=>by simp [bD] at h
 |_::_,_,[],_,h=>by simp [bD] at h
theorem lH (K:cZ ap g m S w) {rd:dM} (t:∀ b B,rd b=some B→g b=some B):∀ (p:Nat) (x:AV) (v:Value) (y:AV),frz rd p x=some y→VR g m S x v→PR (dR S m rd w) y v:=by
 intro p
 induction p with
 |zero=>intro x v y h;simp [frz] at h
 | succ p ih=>
  intro x v y h f;have C:=nC S m rd w;have hlist:∀ {l l':List AV} {vs:List Value},kP (frz rd p) l=some l'→bD g m S l vs→dD (dR S m rd w) l' vs:=fun H G=>tV (fun x v y hx f=>ih x v y hx f) H G
  unfold frz at h;simp only at h;split at h
  ·
   rename_i b ver i n;have D:=bind_some h;clear h;obtain ⟨B,E,h⟩:=D;split at h
   ·rename_i d;simp only [VR] at f;obtain ⟨B',s,_,_,q⟩:=f;rw [t b B E] at s;cases s;obtain ⟨o,rfl,L,ho,M,F⟩:=q (aO d);obtain ⟨vs,H,G,I,N⟩:=yU K t E F;have hpart:kT (dR S m rd w) (m b).1 o ((vs.drop (i*B.esz)).take (n*B.esz)):=by
     by_cases hi:i<(m b).2
     ·rw [ho hi];have:=(I.drop (i*B.esz)).take (n*B.esz);rwa [χ] at this
     ·have O:n=0:=by omega
      subst O;intro j u Z;simp at Z
    have k:∀ l,dD (dR S m rd w) l ((vs.drop (i*B.esz)).take (n*B.esz))→PR (dR S m rd w) (.sl l n true) (.slice (some ⟨(m b).1,o,none⟩) n ((m b).2 - i)):=by
     intro l z;simp only [PR];exact ⟨_,_,rfl,by omega,.inr ⟨_,_,_,rfl,z,hpart⟩⟩
    split at h
    ·rename_i A;cases h;exact k _ (kR _ (qi _ (bM C _ (G A))))
    ·simp only [Xqs] at h;obtain ⟨l,z,rfl⟩:=h;exact k _ (hlist z (ql _ (tX _ H)))
   ·cases h
  ·
   rename_i b ver J;have D:=bind_some h;clear h;obtain ⟨B,E,h⟩:=D;split at h
   ·rename_i d;simp only [σ,Xqm] at d;have F:B.esz ≠ iU:=fun e=>by rw [e] at d;exact absurd d.2 (by decide)
    simp only [VR] at f;obtain ⟨B',s,_,_,q⟩:=f;rw [t b B E] at s;cases s;have q:=q (aO d.1);subst q;obtain ⟨vs,H,G,I,N⟩:=yU K t E F;have k:∀ l,dD (dR S m rd w) l vs→PR (dR S m rd w) (.pp l J) (.pointer (some ⟨(m b).1,J,none⟩)):=by
     intro l z;simp only [PR];exact ⟨_,0,_,by rw [χ],z,I⟩
    split at h
    ·rename_i A;cases h;exact k _ (bM C _ (G A))
    ·simp only [Xqs] at h;obtain ⟨l,z,rfl⟩:=h;exact k _ (hlist z H)
   ·cases h
  ·
   rename_i b ver;have D:=bind_some h;clear h;obtain ⟨B,E,h⟩:=D;split at h
   ·rename_i d;simp only [σ] at d;simp only [VR] at f;obtain ⟨B',s,_,_,q⟩:=f;rw [t b B E] at s;cases s;have q:=q (aO d.1);subst q;obtain ⟨vs,H,G,I,N,_⟩:=Fe K t E;split at h
    ·rename_i A;exact Hm h (bM C _ (G A)) I
    ·have D:=bind_some h;clear h;obtain ⟨l,z,h⟩:=D;exact Hm h (hlist z H) I
   ·cases h
  ·simp only [Xqs] at h;obtain ⟨l,z,rfl⟩:=h;simp only [VR] at f;obtain ⟨vs,e,q⟩:=f;simp only [PR];exact ⟨vs,e,hlist z q⟩
  ·simp only [Xqs] at h;obtain ⟨l,z,rfl⟩:=h;simp only [VR] at f;obtain ⟨vs,e,q⟩:=f;simp only [PR];exact ⟨vs,e,hlist z q⟩
  ·have D:=bind_some h;clear h;obtain ⟨a,X,h⟩:=D;simp only [Xqs] at h;obtain ⟨c,hc,rfl⟩:=h;simp only [VR] at f;obtain ⟨Y,vc,e,q,r⟩:=f;simp only [PR];exact ⟨Y,vc,e,hlist X q,hlist hc r⟩
  ·simp only [Xqs] at h;obtain ⟨u,Q,rfl⟩:=h;simp only [VR] at f;obtain ⟨T,e,q⟩:=f;simp only [PR];exact ⟨T,e,ih _ _ _ Q q⟩
  ·cases h
  ·rename_i n1 R W U V n5 n6 n7;cases h;refine dH C _ ?_;cases x<;>first
    |exact absurd rfl (n1 _ _ _ _)
    |exact absurd rfl (R _ _ _)
    |exact absurd rfl (W _ _)
    |exact absurd rfl (U _)
    |exact absurd rfl (V _)
    |exact absurd rfl (n5 _ _ _)
    |exact absurd rfl (n6 _ _)
    |exact absurd rfl (n7 _ _ _)
    |(simp only [VR] at f;exact f)
    |(simp only [PR])
end
end AM
