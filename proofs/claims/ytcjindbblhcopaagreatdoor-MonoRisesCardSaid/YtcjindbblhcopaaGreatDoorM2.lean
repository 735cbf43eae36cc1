/- The abstract machine over the code of the model, and the proof that it is sound. No conditions. -/
import Derived.Test.YtcjindbblhcopaaGreatDoorM1
import Derived.Laws.BytesString
import Derived.Laws.MakeOwn
import Derived.Laws.OwnMore
set_option linter.unusedSimpArgs false
set_option linter.unusedVariables false
namespace AM
open Go
section
variable {P:Program} {ap:AP} {g:dU} {m:bf} {S:aX} {w:World}
theorem BU {x:AV} {v:Value} (h:VR g m S x v) (f:∀ y ∈ x.cells,nK y=true):bF g m S x.cells v.cells.toList∧∀ u ∈ v.cells,u.oneCell'=true:=by
 cases x
 case agg l=>
  simp only [VR] at h
  obtain ⟨vs,rfl,h⟩:=h
  refine ⟨by simpa [Value.cells,AV.cells] using h, ?_⟩
  intro u c
  simp only [Value.cells] at c
  simp only [AV.cells] at f
  have:∀ (l:List AV) (vs:List Value),bF g m S l vs→(∀ y ∈ l,nK y=true)→∀ u ∈ vs,u.oneCell'=true:=by
   intro l
   induction l with
   |nil=>intro vs e _ u c;cases vs<;>simp [bF] at e c
   | cons a r ih=>
    intro vs e f u c
    cases vs with
    |nil=>simp [bF] at e
    |cons b q=>
     simp only [bF] at e
     rcases List.mem_cons.1 c with rfl|c
     ·exact MH e.1 (f a (by simp))
     ·exact ih q e.2 (fun y j=>f y (by simp [j])) u c
  exact this l vs h f u (by simpa using c)
 all_goals
  have d:=MH h (f _ (by simp [AV.cells]))
  have i:v.cells=#[v]:=by cases v<;>simp [Value.cells,Value.oneCell'] at d ⊢
  rw [i]
  refine ⟨by simp only [AV.cells,bF];exact ⟨h,trivial⟩,by simpa using d⟩
theorem Gw:∀ (vs:List Value) (i a:Nat) (b:Array Value),a+i+vs.length≤b.size→
  ((vs.zipIdx i).foldl (fun (b:Array Value) (p:Value × Nat)=>b.setIfInBounds (a+p.2) p.1) b).toList=b.toList.take (a+i)++vs++b.toList.drop (a+i+vs.length)
 | [],i,a,b,_=>by simp
 | v::vs,i,a,b,h=>by
  simp only [List.length_cons] at h
  simp only [List.zipIdx_cons,List.foldl_cons]
  rw [Gw vs (i+1) a (b.setIfInBounds (a+i) v) (by simp;omega)]
  have c:a+i<b.toList.length:=by simp;omega
  simp only [Array.toList_setIfInBounds]
  rw [show a+(i+1)=a+i+1 from by omega,List.set_eq_take_append_cons_drop,if_pos c]
  have e:(b.toList.take (a+i)++v::b.toList.drop (a+i+1)).take (a+i+1)=b.toList.take (a+i)++ [v]:=by
   rw [List.take_append]
   have f:a+i+1 - (b.toList.take (a+i)).length=1:=by simp [List.length_take];omega
   rw [f]
   simp [List.take_take]
  have d:(b.toList.take (a+i)++v::b.toList.drop (a+i+1)).drop (a+i+1+vs.length)=b.toList.drop (a+i+(v::vs).length):=by
   rw [List.drop_append]
   have:(b.toList.take (a+i)).length=a+i:=by simp [List.length_take];omega
   rw [this,List.drop_eq_nil_of_le (by rw [this];omega),List.nil_append,show a+i+1+vs.length - (a+i)=vs.length+1 from by omega,List.drop_succ_cons,List.drop_drop]
   congr 1
   simp;omega
  rw [e,d]
  simp
theorem OL {d vs:List AV} {c b:List Value} {a:Nat} (h:bF g m S d c) (e:bF g m S vs b):bF g m S (jh d a vs) (c.take a++b++c.drop (a+b.length)):=by
 unfold jh
 rw [← cZ e]
 exact iI (iI (qf _ h) e) (tC _ h)
theorem WS {d vs:List AV} {c b:List Value} {a:Nat} (h:dL S d c) (e:dL S vs b):dL S (jh d a vs) (c.take a++b++c.drop (a+b.length)):=by
 unfold jh
 rw [← wL e]
 exact mZ (mZ (kR _ h) e) (p_ _ h)
def ng (g:dU) (m:bf) (S:aX) (place:Nat→Option (Nat × Nat)):List (Nat × Nat × AV)→List (Nat × Value)→Prop
 | [],[]=>True
 |(off,size,v)::r,(i,c)::q=>place i=some (off,size)∧VR g m S v c∧ng g m S place r q
 |_,_=>False
theorem oO {place:Nat→Option (Nat × Nat)}:∀ (ps:List (Nat × Nat × AV)) (qs:List (Nat × Value)) (cells cells':List AV) (cs:Array Value),ng g m S place ps qs→bF g m S cells cs.toList→wo cells ps=some cells'→
  ∃ a,Instr.fill place cs qs=some a∧bF g m S cells' a.toList∧a.size=cs.size
 | [],[],cells,cells',cs,_,hv,h=>by simp [wo] at h;subst h;exact ⟨cs,rfl,hv,rfl⟩
 | (off,size,v)::r,(i,c)::q,cells,cells',cs,hp,hv,h=>by
  simp only [ng] at hp
  simp only [wo] at h
  split at h
  ·rename_i k
   simp only [Bool.and_eq_true] at k
   obtain ⟨⟨n,l⟩,x⟩:=k
   obtain ⟨o,B⟩:=BU hp.2.1 (fun y s=>List.all_eq_true.1 x y s)
   have t:=cZ o
   have f:=cZ hv
   have n:=aO n
   have l:=gU l
   have u:c.cells.size=size:=by simp only [Array.length_toList] at t;omega
   have b:off+c.cells.size≤cs.size:=by simp only [Array.length_toList] at f;omega
   have j:=Gw c.cells.toList 0 off cs (by simpa using b)
   have d:bF g m S (jh cells off v.cells) ((c.cells.zipIdx.foldl (fun (cs:Array Value) (p:Value × Nat)=>cs.setIfInBounds (off+p.2) p.1) cs)).toList:=by
    rw [← Array.foldl_toList,Array.toList_zipIdx,j]
    simp only [Nat.add_zero]
    exact OL hv o
   obtain ⟨a,e,A,z⟩:=oO r q _ cells' _ hp.2.2 d h
   refine ⟨a, ?_,A, ?_⟩
   ·simp only [Instr.fill,hp.1]
    rw [if_neg (by simp;omega)]
    exact e
   ·rw [z,← Array.length_toList,← Array.foldl_toList,Array.toList_zipIdx,j]
    simp
    omega
  ·cases h
 | [],_::_,_,_,_,hp,_,_=>by simp [ng] at hp
 |_::_,[],_,_,_,hp,_,_=>by simp [ng] at hp
theorem qg {t:Nat} {a:TI} {i:TypeInfo} {d:TypeDesc} {z:Value} (b:E8 P t a i d z):bF g m S a.zero z.cells.toList:=by
 rw [b.zcells];exact bW _ (vT S _)
def xy (g:dU) (m:bf) (S:aX):List (Nat × AV)→List (Nat × Value)→Prop
 | [],[]=>True
 |(i,v)::r,(j,c)::q=>i=j∧VR g m S v c∧xy g m S r q
 |_,_=>False
theorem ry {size:Nat}:∀ {ps:List (Nat × AV)} {qs:List (Nat × Value)},xy g m S ps qs→ng g m S (fun i=>some (i*size,size)) (ps.map fun (i,v)=>(i*size,size,v)) qs
 | [],[],_=>by simp [ng]
 |(i,v)::r,(j,c)::q,h=>by
  simp only [xy] at h
  obtain ⟨rfl,b,a⟩:=h
  simp only [List.map_cons,ng]
  exact ⟨trivial,b,ry a⟩
 | [],_::_,h=>by simp [xy] at h
 |_::_,[],h=>by simp [xy] at h
theorem Ac {b:List (Nat × Nat × Nat)} {place:Nat→Option (Nat × Nat)} (hp:∀ i x,b[i]? =some x→place i=some (x.1,x.2.2)):∀ {ps:List (Nat × AV)} {qs:List (Nat × Value)} {rs:List (Nat × Nat × AV)},xy g m S ps qs→
  kN (fun (q:Nat × AV)=>(b[q.1]?).map fun (x:Nat × Nat × Nat)=>(x.1,x.2.2,q.2)) ps=some rs→ng g m S place rs qs
 | [],[],rs,_,h=>by simp [kN] at h;subst h;simp [ng]
 | (i,v)::r,(j,c)::q,rs,hn,h=>by
  simp only [xy] at hn
  obtain ⟨rfl,f,e⟩:=hn
  simp only [kN] at h
  cases a:b[i]? with
  |none=>simp [a] at h
  | some x=>
   simp only [a,Option.map_some] at h
   split at h
   ·rename_i l d
    cases h
    simp only [ng]
    exact ⟨hp i x a,f,Ac hp e d⟩
   ·cases h
 | [],_::_,_,h,_=>by simp [xy] at h
 |_::_,[],_,h,_=>by simp [xy] at h
theorem Aa:∀ (fields:List Field),(∀ f ∈ fields,(P.info? f.type).isSome)→fields.mapM (fun f=>(P.info? f.type).map fun i=>(f.offset,i.size))=some (fields.map fun f=>(f.offset,match P.info? f.type with|some i=>i.size|none=>0))
 | [],_=>rfl
 | f::r,h=>by
  cases a:P.info? f.type with
  |none=>have:=h f (by simp);simp [a] at this
  |some i=>
   simp [List.mapM_cons,a,Aa r (fun f b=>h f (by simp [b]))]
theorem Ih (y:je P ap) {t:Nat} {o:TI} {i:TypeInfo} {d:TypeDesc} {z:Value} (b:E8 P t o i d z) {ps:List (Nat × AV)} {qs:Array (Nat × Value)} (C:xy g m S ps qs.toList) {v:AV} {ups:List (Nat × bi)} {bs:List Bool}
  (h:MQ ap o ps=some (v,ups,bs)):ups= []∧∃ cv,(Instr.build t qs).run P w= .ok cv w∧VR g m S v cv:=by
 unfold MQ at h
 split at h
 ·rename_i H k
  have l:=bind_some h;clear h;obtain ⟨F,p,h⟩:=l
  have l:=bind_some h;clear h;obtain ⟨A,j,h⟩:=l
  obtain ⟨rfl,rfl,rfl⟩:=aU h
  rw [b.d_eq] at k
  obtain ⟨fields,rfl,rfl⟩:=vF k
  by_cases hall:∀ f ∈ fields.toList,(P.info? f.type).isSome
  ·have r:=Aa fields.toList hall
   have q:=Ac (place:=((fields.toList.map fun f=>(f.offset,match P.info? f.type with|some i=>i.size|none=>0)).toArray[·]?)) (by
    intro i x D
    simp only [List.getElem?_map,Option.map_eq_some_iff] at D
    obtain ⟨f,u,rfl⟩:=D
    simp [u]
    rfl) C p
   obtain ⟨a,s,B,_⟩:=oO F qs.toList o.zero A z.cells q (qg b) j
   refine ⟨rfl,.agg a,run_build w t qs a ?_, ?_⟩
   ·simp only [Program.built,b.info,b.und,b.zero]
    rw [r]
    exact s
   ·simp only [VR];exact ⟨a.toList,by simp,B⟩
  ·exfalso
   apply hall
   intro f u
   have:=b.fld
   simp only [Uj] at this
   exact List.all_eq_true.1 this f u
 ·rename_i n e k
  have l:=bind_some h;clear h;obtain ⟨E,c,h⟩:=l
  have l:=bind_some h;clear h;obtain ⟨A,j,h⟩:=l
  obtain ⟨rfl,rfl,rfl⟩:=aU h
  obtain ⟨G,I,J,c⟩:=fA y c
  rw [b.d_eq] at k
  have k:=yK k
  subst k
  obtain ⟨a,s,B,_⟩:=oO _ qs.toList o.zero A z.cells (ry (size:=E.size) C) (qg b) j
  refine ⟨rfl,.agg a,run_build w t qs a ?_, ?_⟩
  ·simp only [Program.built,b.info,b.und,b.zero,c.info]
   rw [← c.size]
   exact s
  ·simp only [VR];exact ⟨a.toList,by simp,B⟩
 ·cases h
end
end AM
namespace AM
open Go
section
variable {P:Program} {ap:AP} {g:dU} {m:bf} {S:aX} {w:World}
theorem w_ {t:Nat} {k:TI} {i:TypeInfo} {d:TypeDesc} {z:Value} (b:E8 P t k i d z) {v:AV} (h:qF k k.zero=some v):VR g m S v z:=by
 have e:=qg (g:=g) (m:=m) (S:=S) b
 have f:=b.zagg
 unfold qF at h
 rw [b.d_eq,EN] at h
 unfold adG at f
 rw [b.zero] at f
 split at h
 ·rename_i a
  cases h
  cases d<;>simp [TypeDesc.isRow] at a<;>cases z<;>simp at f
  all_goals
   simp only [VR]
   exact ⟨_,rfl,by simpa [Value.cells] using e⟩
 ·rename_i a
  split at h
  ·rename_i c l
   cases h
   have j:z.cells=#[z]:=by
    cases z<;>first|rfl|skip
    cases d<;>simp [TypeDesc.isRow] at a f
   rw [l,j] at e
   simp only [bF] at e
   exact e.1
  ·cases h
theorem FB (s:je P ap) {x v:AV} {D:Value} (o:VR g m S x D) {asserted:Nat} {ok:Bool} {ups:List (Nat × bi)} {bs:List Bool} (h:Ib ap x asserted ok=some (v,ups,bs)) (A:Nat):
  ups= []∧∃ cv,(Instr.typeAssert D A asserted ok).run P w= .ok cv w∧VR g m S v cv:=by
 unfold Ib at h
 have n:=bind_some h;clear h;obtain ⟨F,r,h⟩:=n
 obtain ⟨i,d,z,f⟩:=fA s r
 have a:∀ B,d ≠ .interface B:=by
  intro B e;subst e;rw [f.d_eq] at h;simp [jK] at h
 have key:∀ (c:Value),(∃ t u,c= .iface t u∧t ≠ asserted)∨c= .nilIface→∀ l,VR g m S l z→ok=true→(Instr.typeAssert c A asserted ok).run P w= .ok (.tuple #[z,.bool false]) w:=by
  intro c E l _ y
  subst y
  rcases E with ⟨t,u,rfl,k⟩|rfl
  ·cases d<;>first|exact absurd rfl (a _)|simp [Instr.typeAssert,run_underlying f.und,k,zeroValue,typeInfo,f.info,f.zero]
  ·cases d<;>first|exact absurd rfl (a _)|simp [Instr.typeAssert,run_underlying f.und,zeroValue,typeInfo,f.info,f.zero]
 split at h
 ·cases h
 ·split at h
  ·rename_i t u
   simp only [VR] at o
   obtain ⟨p,rfl,C⟩:=o
   split at h
   ·rename_i j
    have j:=aO j
    subst j
    obtain ⟨rfl,rfl,rfl⟩:=aU h
    cases ok
    ·refine ⟨rfl,p, ?_,C⟩
     cases d<;>first|exact absurd rfl (a _)|simp [Instr.typeAssert,run_underlying f.und]
    ·refine ⟨rfl,.tuple #[p,.bool true], ?_, ?_⟩
     ·cases d<;>first|exact absurd rfl (a _)|simp [Instr.typeAssert,run_underlying f.und]
     ·simp only [VR];exact ⟨[p,.bool true],rfl,by simp only [bF,VR,PR];exact ⟨C,trivial,trivial⟩⟩
   ·rename_i j
    have k:t ≠ asserted:=by intro e;subst e;simp at j
    cases ok
    ·cases h
    ·simp only at h
     have n:=bind_some h;clear h;obtain ⟨l,q,h⟩:=n
     obtain ⟨rfl,rfl,rfl⟩:=aU h
     have b:=w_ (g:=g) (m:=m) (S:=S) f q
     refine ⟨rfl,_,key _ (.inl ⟨_,_,rfl,k⟩) l b rfl, ?_⟩
     simp only [VR];exact ⟨[z,.bool false],rfl,by simp only [bF,VR,PR];exact ⟨b,trivial,trivial⟩⟩
  ·simp only [VR,PR] at o
   subst o
   cases ok
   ·cases h
   ·simp only at h
    have n:=bind_some h;clear h;obtain ⟨l,q,h⟩:=n
    obtain ⟨rfl,rfl,rfl⟩:=aU h
    have b:=w_ (g:=g) (m:=m) (S:=S) f q
    refine ⟨rfl,_,key _ (.inr rfl) l b rfl, ?_⟩
    simp only [VR];exact ⟨[z,.bool false],rfl,by simp only [bF,VR,PR];exact ⟨b,trivial,trivial⟩⟩
  ·cases h
theorem rU (Q:b_ ap g m S w) {rd:dU} (D:∀ b B,rd b=some B→g b=some B) {size:Nat} {x:AV} {O:Value} (f:VR g m S x O) {C:List AV} {n:Nat} {pr:Bool} (h:Lt size rd x=some (C,n,pr)) (M:C.length=n*size)
  {tx:Nat} (hk:((∃ s,x= .str s)∧P.underlying tx=some .string∧size=1)∨((∀ s,x ≠ .str s)∧∃ e,P.underlying tx=some (.slice e))):
  ∃ news,Src P size tx O n news w∧bF g m S C news∧(pr=true→dL S C news):=by
 unfold Lt at h
 split at h
 ·rename_i U T nn
  cases h
  obtain ⟨_,e,d⟩:=hk.resolve_left (by rintro ⟨⟨s,hs⟩,_⟩;cases hs)
  simp only [VR,PR] at f
  obtain ⟨a,K,rfl,Z,q⟩:=f
  rcases q with ⟨rfl,_,rfl,rfl,rfl⟩|⟨b,o,vs,rfl,hp,hs⟩
  ·exact ⟨[],Src.ofNil w d 0,by simp [bF],fun _=>by simp [dL]⟩
  ·refine ⟨vs,Src.ofSlice w d ⟨b,o,none⟩ n K vs (by rw [← wL hp,M]) (fun j u c=>by rw [Addr.add_mid];exact Q.one (hs j u c).1 (hs j u c).2) ?_,bW _ hp,fun _=>hp⟩
   intro u J
   obtain ⟨j,c⟩:=List.getElem?_of_mem J
   exact (hs j u c).2
 ·cases h
  obtain ⟨_,e,d⟩:=hk.resolve_left (by rintro ⟨⟨s,hs⟩,_⟩;cases hs)
  simp only [VR,PR] at f
  subst f
  exact ⟨[],Src.ofNil w d 0,by simp [bF],fun _=>by simp [dL]⟩
 ·rename_i s
  cases h
  obtain ⟨_,d,E⟩:=hk.resolve_right (by rintro ⟨hs,_⟩;exact hs s rfl)
  simp only [VR,PR] at f
  subst f
  subst E
  have hp:∀ s:List UInt8,dL S (s.map fun b=>AV.int .u8 b.toNat) (s.map fun b=>Value.int .u8 b.toNat):=by
   intro s
   induction s with
   |nil=>simp [dL]
   |cons a r ih=>simp only [List.map_cons,dL,PR];exact ⟨trivial,ih⟩
  have i:=Src.ofString (P:=P) w d ⟨s.toArray⟩
  have W:byteCells ⟨s.toArray⟩=s.map fun b=>Value.int .u8 b.toNat:=by simp [byteCells]
  rw [W,yH] at i
  exact ⟨_,i,bW _ (hp s),fun _=>hp s⟩
 ·rename_i b ver j T
  have X:=bind_some h;clear h;obtain ⟨B,V,h⟩:=X
  split at h
  ·rename_i z
   cases h
   simp only [Bool.and_eq_true,Bool.not_eq_true'] at z
   obtain ⟨z,v⟩:=z
   have A:B.esz ≠ jf:=fun e=>by rw [e] at v;exact absurd v (by decide)
   obtain ⟨_,e,d⟩:=hk.resolve_left (by rintro ⟨⟨s,hs⟩,_⟩;cases hs)
   simp only [VR] at f
   obtain ⟨B',p,_,_,q⟩:=f
   have t:=D b B V
   rw [t] at p;cases p
   obtain ⟨o,rfl,q1,Y,q3⟩:=q (aO z.1)
   have I:=aO z.2
   obtain ⟨cur,e',vs,rest,k,l,hp,F,H,R⟩:=(Q.blk b B t).lies
   have k:=k.cells A
   have H:=H A
   have L:=cZ F
   have G:((vs.drop (j*size)).take (n*size)).length=n*size:=by
    rw [← cZ (qf _ (tC _ F))];exact M
   by_cases hn:n=0
   ·subst hn
    have N:(vs.drop (j*size)).take (0*size)= []:=by simp
    refine ⟨[], ?_, ?_, ?_⟩
    ·exact Src.ofSlice w d _ 0 _ [] (by simp) (fun _ _ h=>by simp at h) (fun _ h=>by simp at h)
    ·simp [bF]
    ·intro _;simp [dL]
   ·have y:=Y (by omega)
    refine ⟨(vs.drop (j*size)).take (n*size),Src.ofSlice w d _ n _ _ G ?_ ?_,qf _ (tC _ F),fun pr=>kR _ (p_ _ (hp pr))⟩
    ·intro jj u c
     rw [y,Addr.add_mid,I,tV k,l]
     rw [List.getElem?_take] at c
     split at c
     ·rw [List.getElem?_drop] at c
      rw [List.getElem?_append_left (List.getElem?_eq_some_iff.1 c).1]
      exact c
     ·cases c
    ·intro u J
     exact H u (List.mem_of_mem_drop (List.mem_of_mem_take J))
  ·cases h
 ·cases h
theorem G5:∀ (a:List Int) (s:List UInt8),a.foldl (fun (r:ByteArray) n=>r.push (UInt8.ofNat n.toNat)) ⟨s.toArray⟩=⟨(s++a.map fun n=>UInt8.ofNat n.toNat).toArray⟩
 | [],s=>by simp
 |n::a,s=>by
  simp only [List.foldl_cons]
  have e:(⟨s.toArray⟩:ByteArray).push (UInt8.ofNat n.toNat)=⟨(s++ [UInt8.ofNat n.toNat]).toArray⟩:=by simp [ByteArray.push]
  rw [e,G5 a]
  simp
theorem CS (E:je P ap) (hS:b_ ap g m S w) {rd:dU} (J:∀ b B,rd b=some B→g b=some B) {s d:Nat} {X W:TI} (K:ap.tyAt s=some X) (L:ap.tyAt d=some W) {x v:AV} {N:Value} (G:VR g m S x N) {ups:List (Nat × bi)} {bs:List Bool}
  (h:CQ ap X W rd x=some (v,ups,bs)) (hbs:∀ b ∈ bs,b=true):ups= []∧∃ cv,(convert s d N).run P w= .ok cv w∧VR g m S v cv:=by
 obtain ⟨i1,d1,z1,C⟩:=fA E K
 obtain ⟨i2,d2,z2,F⟩:=fA E L
 unfold CQ at h
 split at h
 ·rename_i k k' n H
  obtain ⟨rfl,rfl,rfl⟩:=aU h
  rw [F.d_eq] at H
  have H:=Wi H
  subst H
  simp only [VR,PR] at G
  subst G
  exact ⟨rfl,_,by simp [convert,run_underlying C.und,run_underlying F.und,Conv.intToInt];rfl,by simp only [VR,PR]⟩
 ·rename_i s' j i
  obtain ⟨rfl,rfl,rfl⟩:=aU h
  rw [C.d_eq] at j
  rw [F.d_eq] at i
  have j:=xq j
  have i:=xq i
  subst j;subst i
  simp only [VR,PR] at G
  subst G
  exact ⟨rfl,_,by simp [convert,run_underlying C.und,run_underlying F.und];rfl,by simp only [VR,PR]⟩
 ·rename_i x0 e j i
  have O:=bind_some h;clear h;obtain ⟨te,t,h⟩:=O
  obtain ⟨ie,de,ze,t⟩:=fA E t
  split at h
  ·cases h
  ·rename_i xa xt xb u z
   have O:=bind_some h;clear h;obtain ⟨⟨p,n,pr⟩,A,h⟩:=O
   obtain ⟨rfl,rfl,rfl⟩:=aU h
   obtain ⟨U,Q⟩:=dA hbs
   obtain ⟨Q,_⟩:=dA Q
   rw [C.d_eq] at j
   rw [F.d_eq] at i
   have j:=iF j
   have i:=xq i
   subst j;subst i
   rw [t.d_eq] at u
   have u:=Wi u
   subst u
   have U:=aO U
   obtain ⟨f,hs,Y,_⟩:=rU (P:=P) hS J G A (by omega) (tx:=s) (.inr ⟨fun s e=>z s e,e,C.und⟩)
   have D:f=(p.map AV.toInt).map (Value.int .u8):=by
    have:∀ (p:List AV) (f:List Value),bF g m S p f→p.all (gW (.int .u8))=true→f=(p.map AV.toInt).map (Value.int .u8):=by
     intro p
     induction p with
     |nil=>intro f h _;cases f<;>simp [bF] at h ⊢
     | cons a r ih=>
      intro f h I
      cases f with
      |nil=>simp [bF] at h
      |cons c q=>
       simp only [bF] at h
       simp only [List.all_cons,Bool.and_eq_true] at I
       rw [List.map_cons,List.map_cons,ih q h.2 I.2]
       congr 1
       cases a<;>simp [gW] at I
       simp only [VR,PR] at h
       rw [h.1,jc I.1]
       rfl
    exact this p f Y Q
   refine ⟨rfl,.string ⟨((p.map AV.toInt).map fun n=>UInt8.ofNat n.toNat).toArray⟩, ?_, ?_⟩
   ·have hcells:=hs.cells
    have y:=hs.len w
    have o:=G
    cases N
    case slice a l c=>
     have Z:l=n:=by simpa [Builtin.lenOf] using y
     subst Z
     cases a with
     | none=>
      have M:f= []:=by simpa [Builtin.firstCells] using hcells.symm
      rw [M] at D
      have R:p= []:=by
       have:(p.map AV.toInt).map (Value.int .u8)= []:=D.symm
       simpa using this
      subst R
      simp [convert,run_underlying C.und,run_underlying F.und,run_underlying t.und,Conv.bytesToString]
      rfl
     | some a=>
      have T:(loadCells a l).run P w= .ok ((p.map AV.toInt).map (Value.int .u8)).toArray w:=by
       rw [← D];simpa [Builtin.firstCells] using hcells
      have V:=run_bytesToString (P:=P) w a l c _ T
      rw [show ByteArray.empty=⟨([]:List UInt8).toArray⟩ from rfl,G5,List.nil_append] at V
      simp only [convert,Sem.run_bind,run_underlying C.und,run_underlying F.und,run_underlying t.und,Result.andThen_ok]
      exact V
    all_goals (simp [Builtin.lenOf] at y)
    case string s0=>
     exfalso
     cases xa<;>simp [Lt] at A
     case str s1=>exact z s1 rfl
     case nilS=>simp only [VR,PR] at o;cases o
     case sl a b c=>simp only [VR,PR] at o;obtain ⟨_,_,h,_⟩:=o;cases h
     case ref a b c d=>simp only [VR] at o;obtain ⟨_,_,_,⟨_,_,_,h⟩,_⟩:=o;cases h
   ·simp only [VR,PR]
    simp [List.map_map,Function.comp_def]
  ·cases h
 ·cases h
end
end AM
namespace AM
open Go
def d_ (g:dU) (ups:List (Nat × bi)):dU:=fun b=>match aG ups b with|some B=>some B|none=>g b
def kP (m:bf) (b:Nat) (x:Nat × Nat):bf:=fun c=>if c=b then x else m c
theorem iy {α:Type}:∀ (a b:List (Nat × α)) (t:Nat),aG (a++b) t=match aG a t with|some x=>some x|none=>aG b t
 | [],b,t=>rfl
 |(u,x)::r,b,t=>by
  simp only [List.cons_append,aG]
  split
  ·rfl
  ·exact iy r b t
theorem kM (ups:List (Nat × bi)) (hp:Hp):d_ (aG hp) ups=aG (ups++hp):=by
 funext b;rw [iy];unfold d_;cases aG ups b<;>rfl
theorem gm (g:dU):d_ g []=g:=rfl
theorem lQ (g:dU) (b:Nat) (B:bi) (c:Nat):d_ g [(b,B)] c=if c=b then some B else g c:=by
 simp only [d_,aG]
 by_cases h:c=b
 ·subst h;simp
 ·have:Nat.beq b c=false:=by
   cases a:Nat.beq b c with
   |false=>rfl
   |true=>exact absurd (aO a).symm h
  rw [this,if_neg h]
section
variable {P:Program} {ap:AP} {g:dU} {m:bf} {S:aX} {w:World}
theorem Qc.mono {g g':dU} {m a:bf} {S S':aX} {w w':World} {B:bi} {k c:Nat} (h:Qc g m S w B k c) (b:mD S S') (l:Ge g m g' a) (j:w'.heap[k]? =w.heap[k]?):Qc g' a S' w' B k c:=by
 obtain ⟨⟨cur,e,vs,rest,q,o,r,i,f,d⟩,s,n⟩:=h
 exact ⟨⟨cur,e,vs,rest,q.same j,o,fun p=>bP b _ (r p),lK b l _ i,f,d⟩,s,n⟩
theorem b_.seal_lt (h:b_ ap g m S w) {k o:Nat} {v:Value} (a:S k o=some v):k<w.heap.size:=JK (h.sealed k o v a)
theorem b_.put (h:b_ ap g m S w) (b:Nat) (B:bi) (k c:Nat) {w':World}
  (i:w.heap.size≤k∨∃ B0,g b=some B0∧k=(m b).1) (hw:w.grownBy w' (some k)) (hblk:Qc g m S w' B k c)
  (hge:∀ B0,g b=some B0→B.esz=B0.esz∧((B.ver=B0.ver∧(k,c)=m b)∨B0.ver<B.ver))
  (hseal:∀ o v,S k o=some v→dX w' k o=some v∧B.fro=true∧o<B.fz):
  b_ ap (d_ g [(b,B)]) (kP m b (k,c)) S w'∧Fr g m S w (d_ g [(b,B)]) (kP m b (k,c)) S w':=by
 have t:Ge g m (d_ g [(b,B)]) (kP m b (k,c)):=by
  intro f B1 l
  by_cases e:f=b
  ·subst e
   obtain ⟨a,j⟩:=hge B1 l
   refine ⟨B,by rw [lQ,if_pos rfl],a, ?_⟩
   rcases j with ⟨j,D⟩|j
   ·exact .inl ⟨j,by simp [kP,D]⟩
   ·exact .inr j
  ·exact ⟨B1,by rw [lQ,if_neg e];exact l,rfl,.inl ⟨rfl,by simp [kP,e]⟩⟩
 have s:∀ f B1,g f=some B1→f ≠ b→(m f).1 ≠ k:=by
  intro f B1 l A e
  have r:=h.lt l
  rcases i with i|⟨B0,n,i⟩
  ·omega
  ·exact A (h.inj f b B1 B0 l n (e.trans i))
 have p:∀ k0,k0<w.heap.size→k0 ≠ k→w'.heap[k0]? =w.heap[k0]? :=fun k0 r y=>hw.block k0 r (by simpa using y)
 constructor
 ·refine ⟨?_, ?_, ?_, ?_,h.glob⟩
  ·intro f z B1 B2 d x u
   rw [lQ] at d x
   by_cases a:f=b<;>by_cases j:z=b
   ·rw [a,j]
   ·rw [if_neg j] at x
    simp only [kP,a,if_true,if_neg j] at u
    exact absurd u.symm (s z B2 x j)
   ·rw [if_neg a] at d
    simp only [kP,j,if_true,if_neg a] at u
    exact absurd u (s f B1 d a)
   ·rw [if_neg a] at d
    rw [if_neg j] at x
    simp only [kP,if_neg a,if_neg j] at u
    exact h.inj f z B1 B2 d x u
  ·intro f B1 d
   rw [lQ] at d
   by_cases a:f=b
   ·rw [if_pos a] at d
    cases d
    simp only [kP,if_pos a]
    exact hblk.mono (mD.refl S) t rfl
   ·rw [if_neg a] at d
    simp only [kP,if_neg a]
    exact (h.blk f B1 d).mono (mD.refl S) t (p _ (h.lt d) (s f B1 d a))
  ·intro k0 o v q
   by_cases e:k0=k
   ·subst e;exact (hseal o v q).1
   ·rw [MR (p k0 (h.seal_lt q) e)]
    exact h.sealed k0 o v q
  ·intro f B1 d o v q
   rw [lQ] at d
   by_cases a:f=b
   ·rw [if_pos a] at d
    cases d
    simp only [kP,if_pos a] at q
    exact (hseal o v q).2
   ·rw [if_neg a] at d
    simp only [kP,if_neg a] at q
    exact h.own f B1 d o v q
 ·refine ⟨t,mD.refl S,hw.os,hw.tape,hw.output,hw.size, ?_, ?_,fun _ _ _ q=> .inl q⟩
  ·intro k0 r C
   refine p k0 r (fun e=> ?_)
   subst e
   rcases i with i|⟨B0,n,i⟩
   ·omega
   ·exact C b B0 n i.symm
  ·intro f B1 d
   rw [lQ] at d
   by_cases a:f=b
   ·subst a
    rcases i with i|⟨B0,n,i⟩
    ·exact .inl (by simpa [kP] using i)
    ·exact .inr ⟨B0,n,by simp [kP,i]⟩
   ·rw [if_neg a] at d
    exact .inr ⟨B1,d,by simp [kP,a]⟩
end
mutual
theorem JB {g:dU} {m:bf} {S:aX}:∀ (x:AV) {v:Value},VR g m S x v→fD x= []→PR S x v
 | .int _ _,_,p,_=>by simpa only [VR] using p
 | .bool _,_,p,_=>by simpa only [VR] using p
 | .str _,_,p,_=>by simpa only [VR] using p
 | .nilS,_,p,_=>by simpa only [VR] using p
 | .nilP,_,p,_=>by simpa only [VR] using p
 | .nilF,_,p,_=>by simpa only [VR] using p
 | .nilI,_,p,_=>by simpa only [VR] using p
 | .sl _ _ _,_,p,_=>by simpa only [VR] using p
 | .pp _ _,_,p,_=>by simpa only [VR] using p
 | .mp _ _,_,p,_=>by simpa only [VR] using p
 | .dead,_,_,_=>by simp only [PR]
 | .own _ _ _,_,p,_=>by simp only [VR] at p
 | .ref _ _ _ _,_,_,h=>by simp [fD] at h
 | .ptr _ _ _,_,_,h=>by simp [fD] at h
 | .mr _ _,_,_,h=>by simp [fD] at h
 | .agg l,_,p,h=>by
  simp only [VR] at p;simp only [PR];simp only [fD] at h
  obtain ⟨vs,e,q⟩:=p
  exact ⟨vs,e,gJ l q h⟩
 | .tup l,_,p,h=>by
  simp only [VR] at p;simp only [PR];simp only [fD] at h
  obtain ⟨vs,e,q⟩:=p
  exact ⟨vs,e,gJ l q h⟩
 | .fn f a c,_,p,h=>by
  simp only [VR] at p;simp only [PR];simp only [fD,List.append_eq_nil_iff] at h
  obtain ⟨d,b,e,q,r⟩:=p
  exact ⟨d,b,e,gJ a q h.1,gJ c r h.2⟩
 | .ifc t x,_,p,h=>by
  simp only [VR] at p;simp only [PR];simp only [fD] at h
  obtain ⟨u,e,q⟩:=p
  exact ⟨u,e,JB x q h⟩
theorem gJ {g:dU} {m:bf} {S:aX}:∀ (l:List AV) {vs:List Value},bF g m S l vs→dw l= []→dL S l vs
 | [],[],_,_=>by simp only [dL]
 |x::r,v::vs,p,h=>by simp only [bF] at p;simp only [dw,List.append_eq_nil_iff] at h;simp only [dL];exact ⟨JB x p.1 h.1,gJ r p.2 h.2⟩
 | [],_::_,p,_=>by simp [bF] at p
 |_::_,[],p,_=>by simp [bF] at p
end
section
variable {P:Program} {ap:AP} {g:dU} {m:bf} {S:aX} {w:World}
theorem qp {α:Type} {l:List α} (h:l.isEmpty=true):l= []:=by cases l<;>simp at h ⊢
theorem b_.fresh (h:b_ ap g m S w) {nid:Nat} (f:g nid=none) (B:bi) (i:B.esz ≠ jf) (c:Nat) {w':World} {cur:Array Value} {e:TypeId} (a:w.grownBy w' none) (b:w'.heap[w.heap.size]? =some (.cells cur e (0,0)))
  (hver:B.fro=false→B.fz=0) (hfz:B.fz≤B.cells.length) {vs rest:List Value} (hc:cur.toList=vs++rest) (hp:B.pr=true→dL S B.cells vs) (d:bF g m S B.cells vs) (h1:∀ u ∈ vs,u.oneCell'=true) (hcap:0<B.esz→cur.size=c*B.esz∧c≤maxLen):
  b_ ap (d_ g [(nid,B)]) (kP m nid (w.heap.size,c)) S w'∧Fr g m S w (d_ g [(nid,B)]) (kP m nid (w.heap.size,c)) S w':=by
 refine h.put nid B w.heap.size c (.inl (Nat.le_refl _)) ⟨a.os,a.tape,a.output,a.size,fun k j _=>a.block k j (by simp)⟩ ⟨⟨cur,e,vs,rest,jR.of i b,hc,hp,d,fun _=>h1,fun h0 _=>hcap h0⟩,hver,hfz⟩ (fun B0 h0=>by rw [f] at h0;cases h0) ?_
 intro o v d
 have:=h.seal_lt d
 omega
theorem F7 (h:b_ ap g m S w) {nid:Nat} (d:g nid=none) {cells:List AV} {cv:Value} (b:bF g m S cells cv.cells.toList) (_hl:∀ x ∈ cells,nK x=true) (f:∀ u ∈ cv.cells,u.oneCell'=true) (t:TypeId):
  ∃ m' w',(newVar t cv).run P w= .ok ⟨w.heap.size,0,none⟩ w'∧b_ ap (d_ g [jA nid cells 0]) m' S w'∧Fr g m S w (d_ g [jA nid cells 0]) m' S w'∧(m' nid).1=w.heap.size:=by
 have a:=h.fresh (nid:=nid) d (jA nid cells 0).2 (by show 0 ≠ jf;decide) 0 (w':=w.alloc (.cells cv.cells t)) (cur:=cv.cells) (e:=t) (World.grownBy_alloc w _ none) (heap_alloc_new w _) (fun _=>rfl) (Nat.zero_le _) (vs:=cv.cells.toList) (rest:= []) (by simp)
  (fun hp=>gJ _ b (qp hp)) b (fun u c=>f u (by simpa using c)) (fun h=>by simp [jA] at h)
 refine ⟨_,_, ?_,a.1,a.2,by simp [kP]⟩
 simp [newVar,newRow]
theorem PD {b:bf} {nid:Nat} {cells:List AV} {a k:Nat} (c:(b nid).1=k):VR (d_ g [jA nid cells a]) b S (.ptr nid 0 0) (.pointer (some ⟨k,0,none⟩)):=by
 simp only [VR]
 refine ⟨(jA nid cells a).2, ?_,Nat.zero_le _,⟨_,_,rfl⟩,fun _=>by rw [c]⟩
 show d_ g [(nid,(jA nid cells a).2)] nid=_
 rw [lQ,if_pos rfl]
theorem Jj (h:b_ ap g m S w) {rd:dU} (J:∀ b B,rd b=some B→g b=some B) {t:Nat} {M:TI} {i:TypeInfo} {d:TypeDesc} {z:Value} (O:E8 P t M i d z) {p x v:AV} {Q c:Value} (hp:VR g m S p Q) (hx:VR g m S x c)
  {ups:List (Nat × bi)} {bs:List Bool} (hs:Ou M rd p x=some (v,ups,bs)) (hbs:∀ b ∈ bs,b=true):
  v= .dead∧∃ m' w',(Instr.storeAt t Q c).run P w= .ok () w'∧b_ ap (d_ g ups) m' S w'∧Fr g m S w (d_ g ups) m' S w':=by
 unfold Ou at hs
 split at hs
 ·rename_i b ver a
  have hq:=bind_some hs;clear hs;obtain ⟨B,X,hs⟩:=hq
  simp only at hs
  split at hs
  ·rename_i R
   simp only [Bool.and_eq_true,Bool.not_eq_true'] at R
   obtain ⟨⟨⟨⟨c1,Y⟩,c3⟩,c4⟩,L⟩:=R
   have l:B.esz ≠ jf:=fun e=>by rw [e] at L;exact absurd L (by decide)
   cases hs
   have j:=J b B X
   have F:=aO c1
   have N:=aO c3
   have K:=gU (hbs _ (List.mem_singleton.2 rfl))
   simp only [VR] at hp
   obtain ⟨B',G,_,_,q⟩:=hp
   rw [j] at G;cases G
   have q:=q F
   subst q
   obtain ⟨A,H⟩:=BU hx (fun y U=>List.all_eq_true.1 c4 y U)
   obtain ⟨⟨cur,e,vs,rest,k1,k2,k3,k4,k5,k6⟩,k7,k8⟩:=h.blk b B j
   have k1:=k1.cells l
   have k5:=k5 l
   have s:=cZ A
   have T:=cZ k4
   have D:c.cells.size=i.size:=by simp only [Array.length_toList] at s;rw [← O.size];omega
   have C:cur.toList.length=vs.length+rest.length:=by rw [k2];simp
   have E:=run_storeCells_at P (m b).1 a e c.cells.toList 0 cur w k1 (by simp only [Array.length_toList] at s C ⊢;omega) (fun u f=>H u (by simpa using f))
   simp only [Nat.add_zero] at E
   have hnewl:(cur.toList.take a++c.cells.toList++cur.toList.drop (a+c.cells.toList.length))=(vs.take a++c.cells.toList++vs.drop (a+c.cells.toList.length))++rest:=by
    rw [k2,List.take_append_of_le_length (by omega),List.drop_append_of_le_length (by omega)]
    simp [List.append_assoc]
   have n:=h.put b {B with cells:=jh B.cells a x.cells,pr:=B.pr && (dw x.cells).isEmpty} (m b).1 (m b).2 (w':=w.setRow (m b).1 (cur.toList.take a++c.cells.toList++cur.toList.drop (a+c.cells.toList.length)).toArray)
    (.inr ⟨B,j,rfl⟩) ⟨rfl,rfl,rfl,by simp,fun k _ hk=>setRow_other w _ k _ (fun e=>hk (by rw [e]))⟩
    ⟨⟨_,e,vs.take a++c.cells.toList++vs.drop (a+c.cells.toList.length),rest,jR.of l (setRow_heap w _ cur _ e _ k1),by rw [List.toList_toArray,hnewl],fun r=>by
      simp only [Bool.and_eq_true] at r
      exact WS (k3 r.1) (gJ _ A (qp r.2)),OL k4 A,by
      intro _ u f
      rcases List.mem_append.1 f with f|f
      ·rcases List.mem_append.1 f with f|f
       ·exact k5 u (List.mem_of_mem_take f)
       ·exact H u (by simpa using f)
      ·exact k5 u (List.mem_of_mem_drop f),fun I _=>by
      obtain ⟨Z,V⟩:=k6 I l
      refine ⟨?_,V⟩
      rw [← Z,List.size_toArray]
      simp only [List.length_append,List.length_take,List.length_drop,Array.length_toList] at s C ⊢
      omega⟩,k7,by
     have:(jh B.cells a x.cells).length=B.cells.length:=by simp only [jh,List.length_append,List.length_take,List.length_drop];omega
     simp only [this];exact k8⟩
    (fun B0 h0=>by rw [j] at h0;cases h0;exact ⟨rfl,.inl ⟨rfl,rfl⟩⟩)
    (fun o v W=>by
     have:=(h.own b B j o v W).1
     rw [Y] at this;cases this)
   refine ⟨rfl,_,_, ?_,n.1,n.2⟩
   have hn:¬ (c.cells.size ≠ i.size):=by simp [D]
   simp [Instr.storeAt,Instr.sureAddr,storeVar,Go.sizeOf,typeInfo,O.info,D,E]
  ·cases hs
 ·cases hs
end
end AM
namespace AM
open Go
section
variable {P:Program} {ap:AP} {g:dU} {m:bf} {S:aX} {w:World}
theorem mW (g:dU) (b:Nat) (B:bi):d_ g [(b,B)] b=some B:=by rw [lQ,if_pos rfl]
theorem Dj {w w':World} (h:w.grownBy w' none) (r:Option Nat):w.grownBy w' r:=⟨h.os,h.tape,h.output,h.size,fun k a _=>h.block k a (by simp)⟩
theorem nG (w:World) (o:Obj):w.grownBy (w.drew.alloc o) none:=⟨rfl,rfl,rfl,by simp,fun k a _=>Go.RowKit.Below.heap_alloc w.drew o k a⟩
theorem vO {t tx ty e:TypeId} {i:TypeInfo} (d:P.underlying t=some (.slice e)) (c:P.info? e=some i) {x:Value} {a:List Value} (hs:Src P i.size tx x 0 a w):
  (Builtin.append_ #[t,tx] ty #[.slice none 0 0,x]).run P w= .ok (.slice none 0 0) w:=by
 rcases hs.kind with ⟨f,b⟩|b<;>simp [Builtin.append_,run_underlying d,run_underlying b,Go.sizeOf,typeInfo,c,hs.len,hs.cells]
theorem vP {t tx ty e:TypeId} {i:TypeInfo} (d:P.underlying t=some (.slice e)) (f:P.info? e=some i) {k o sLen sCap n:Nat} {x:Value} {a:List Value} (hs:Src P i.size tx x n a w) (hroom:sLen+n≤sCap)
  {cur:Array Value} {e':TypeId} (hk:w.heap[k]? =some (.cells cur e' (0,0))) (hfit:o+sLen*i.size+a.length≤cur.size):
  (Builtin.append_ #[t,tx] ty #[.slice (some ⟨k,o,none⟩) sLen sCap,x]).run P w= .ok (.slice (some ⟨k,o,none⟩) (sLen+n) sCap) (w.setRow k (cur.toList.take (o+sLen*i.size)++a++cur.toList.drop (o+sLen*i.size+a.length)).toArray):=by
 have b:=run_storeCells_at P k (o+sLen*i.size) e' a 0 cur w hk (by simpa using hfit) hs.one
 simp only [Nat.add_zero] at b
 rcases hs.kind with ⟨h,c⟩|c<;>simp [Builtin.append_,run_underlying d,run_underlying c,Go.sizeOf,typeInfo,f,hs.len,hroom,hs.cells,Addr.add_mid,b]
theorem zN {n a bytes:Nat} (h:a<n) (c:n≤Hf) (b:bytes≤128):Builtin.nextslicecap n a*bytes≤281474976710656:=by
 refine growslice_fits h ?_
 have:n*bytes≤Hf*128:=Nat.mul_le_mul c b
 have e:Hf*128=140737488355328:=by decide
 omega
theorem yE:Hf=1099511627776:=by decide
theorem AO {t tx ty e:TypeId} {i:TypeInfo} (d:P.underlying t=some (.slice e)) (c:P.info? e=some i) {x:Value} {base:Option Addr} {sLen sCap:Nat} (hs:Src P i.size tx x 0 [] w) (f:sLen≤sCap):
  (Builtin.append_ #[t,tx] ty #[.slice base sLen sCap,x]).run P w= .ok (.slice base sLen sCap) w:=by
 cases base with
 |none=>rcases hs.kind with ⟨h,b⟩|b<;>simp [Builtin.append_,run_underlying d,run_underlying b,Go.sizeOf,typeInfo,c,hs.len,hs.cells,f]
 |some a=>rcases hs.kind with ⟨h,b⟩|b<;>simp [Builtin.append_,run_underlying d,run_underlying b,Go.sizeOf,typeInfo,c,hs.len,hs.cells,f,storeCells]
theorem vV (h:b_ ap g m S w) {rd:dU} (M:∀ b B,rd b=some B→g b=some B) {nid:Nat} (hn:g nid=none) {t tx e:Nat} {ti p:TI} {i F:TypeInfo} {z N:Value} {de:TypeDesc} (ht:E8 P t ti i (.slice e) z) (y:E8 P e p F de N)
  {s x v:AV} {cs cx:Value} (hvs:VR g m S s cs) (hvx:VR g m S x cx)
  (hk:((∃ s,x= .str s)∧P.underlying tx=some .string∧p.size=1)∨((∀ s,x ≠ .str s)∧∃ e,P.underlying tx=some (.slice e)))
  {em:Bool} (O:s= .nilS→∃ n,wQ x=some n∧Nat.beq n 0=em)
  {ups:List (Nat × bi)} {bs:List Bool} (E:xE nid p rd em s x=some (v,ups,bs)) (r:∀ b ∈ bs,b=true) (ty:Nat):
  ∃ cv m' w',(Builtin.append_ #[t,tx] ty #[cs,cx]).run P w= .ok cv w'∧b_ ap (d_ g ups) m' S w'∧Fr g m S w (d_ g ups) m' S w'∧VR (d_ g ups) m' S v cv:=by
 have hcount:∀ L n pr,Lt p.size rd x=some (L,n,pr)→wQ x=some n:=by
  intro L n pr a
  unfold Lt at a
  split at a
  ·cases a;rfl
  ·cases a;rfl
  ·cases a;rfl
  ·have hq:=bind_some a;clear a;obtain ⟨B,hB,a⟩:=hq
   split at a
   ·cases a;rfl
   ·cases a
  ·cases a
 unfold xE at E
 have hq:=bind_some E;clear E;obtain ⟨⟨L,n,pr⟩,a,E⟩:=hq
 simp only at E
 split at E
 ·cases E
 ·rename_i W
  simp only [Bool.and_eq_true] at W
  have hsz:=gp W.1
  have hby:=gU W.2
  have d:p.size=F.size:=y.size
  have R:p.size ≠ jf:=fun e=>by have:=y.small;omega
  have hby':p.bytes=F.bytes:=y.bytes
  have hzs:N.cells.size=F.size:=y.zsize
  split at E
  ·
   obtain ⟨n',hc',O⟩:=O rfl
   rw [hcount _ _ _ a] at hc'
   cases hc'
   simp only [VR,PR] at hvs
   subst hvs
   split at E
   ·
    obtain ⟨rfl,rfl,rfl⟩:=aU E
    have Q:n=0:=aO O
    subst Q
    have hl:=aO (r _ (List.mem_singleton.2 rfl))
    obtain ⟨c,hs,hv,hp⟩:=rU (P:=P) h M hvx a hl hk
    rw [d] at hs
    exact ⟨_,m,w,vO ht.und y.info hs,by rw [gm];exact h,by rw [gm];exact Fr.refl _ _ _ _,by simp [VR,PR]⟩
   ·
    cases E
    obtain ⟨b1,r⟩:=dA r
    obtain ⟨b2,_⟩:=dA r
    have hl:=aO b1
    have hroom:=gU b2
    have Q:n ≠ 0:=by intro e;subst e;simp at O
    obtain ⟨c,hs,hv,hp⟩:=rU (P:=P) h M hvx a hl hk
    rw [d] at hs
    have f:=run_append_grow_src w t tx ty e F N ht.und y.info y.zero none 0 0 [] (run_firstCells_none w.drew _ _ _ _) cx n c hs (by omega) (by rw [yE] at hroom;omega) (zN (by omega) (by simpa using hroom) (by omega))
    have X:n≤grownCap w n 0 e:=grownCap_ge _ _ _ _
    have Y:grownCap w n 0 e≤maxLen:=grownCap_le_maxLen _ _ _ _ (by rw [yE] at hroom;simp only [maxLen];omega)
    simp only [Nat.zero_add] at f
    have hf:=h.fresh (nid:=nid) hn ⟨L,0,false,0,p.size,pr⟩ R (grownCap w n 0 e) (cur:=([]++c).toArray++Builtin.zeroCells N.cells (grownCap w n 0 e - n)) (e:=e) (nG w _) (heap_alloc_new w.drew _) (fun _=>rfl) (Nat.zero_le _)
     (vs:=c) (rest:=(Builtin.zeroCells N.cells (grownCap w n 0 e - n)).toList) (by simp) hp hv hs.one (fun _=> ⟨by
      simp only [Array.size_append,List.size_toArray,List.nil_append,size_zeroCells,hs.newsLen,hzs,d]
      rw [← Nat.add_mul];congr 1;omega,Y⟩)
    refine ⟨_,_,_,f,hf.1,hf.2, ?_⟩
    simp only [VR]
    refine ⟨_,mW _ _ _,Nat.le_refl _,⟨_,_,_,rfl⟩,fun _=> ⟨0, ?_, ?_, ?_,hsz,R⟩⟩
    ·simp [kP]
    ·simpa [kP] using X
    ·simp
  ·rename_i b ver mN
   have hq:=bind_some E;clear E;obtain ⟨B,hB,E⟩:=hq
   split at E
   ·rename_i G
    simp only [Bool.and_eq_true,Bool.not_eq_true'] at G
    have hver:=aO G.1.1
    have T:=aO G.1.2
    have A:B.esz ≠ jf:=fun e=>by rw [e] at G;exact absurd G.2 (by decide)
    cases E
    obtain ⟨b1,r⟩:=dA r
    obtain ⟨b2,r⟩:=dA r
    obtain ⟨b3,r⟩:=dA r
    obtain ⟨b4,_⟩:=dA r
    have hl:=aO b1
    have hroom:=gU b2
    have hfit:=gU b3
    have D:=M b B hB
    simp only [VR] at hvs
    obtain ⟨B',hB',_,_,q⟩:=hvs
    rw [D] at hB';cases hB'
    obtain ⟨o,rfl,hcap,ho,H,hnz1⟩:=q hver
    simp only [Nat.zero_add,Nat.sub_zero,Nat.zero_mul] at hcap ho ⊢
    obtain ⟨c,hs,hv,hp⟩:=rU (P:=P) h M hvx a hl hk
    rw [d] at hs
    have hbk:=h.blk b B D
    obtain ⟨⟨cur,e',vs,rest,k1,k2,k3,k4,k5,k6⟩,k7,k8⟩:=hbk
    have k1:=k1.cells A
    have k5:=k5 A
    obtain ⟨s1,s2⟩:=k6 H A
    have hvl:=cZ k4
    have hcl:cur.toList.length=vs.length+rest.length:=by rw [k2];simp
    simp only [Array.length_toList] at hcl
    have hfz:B.fz≤mN*p.size:=by
     cases hf:B.fro with
     |false=>rw [k7 hf];exact Nat.zero_le _
     |true=>simp [hf] at b4;exact gU (by simpa using b4)
    have holds:dL S (B.cells.take (mN*p.size)) (vs.take (mN*p.size))∨B.pr=false:=by
     cases hp:B.pr with
     |false=>exact .inr rfl
     |true=>exact .inl (kR _ (k3 hp))
    have K:(vs.take (mN*p.size)).length=mN*F.size:=by rw [List.length_take,d] at*;omega
    have U:bF g m S (B.cells.take (mN*p.size)++L) (vs.take (mN*p.size)++c):=iI (qf _ k4) hv
    have V:(B.pr && pr)=true→dL S (B.cells.take (mN*p.size)++L) (vs.take (mN*p.size)++c):=by
     intro hh
     simp only [Bool.and_eq_true] at hh
     exact mZ (kR _ (k3 hh.1)) (hp hh.2)
    have h1:∀ u ∈ vs.take (mN*p.size)++c,u.oneCell'=true:=by
     intro u C
     rcases List.mem_append.1 C with C|C
     ·exact k5 u (List.mem_of_mem_take C)
     ·exact hs.one u C
    have I:B.fz≤(B.cells.take (mN*p.size)++L).length:=by
     rw [List.length_append,List.length_take];omega
    by_cases hrm:mN+n≤(m b).2
    ·
     by_cases hc0:(m b).2=0
     ·have hm0:mN=0:=by omega
      have Q:n=0:=by omega
      subst hm0;subst Q
      have hnews:c= []:=by have:=hs.newsLen;simpa using this
      subst hnews
      have f:=AO (P:=P) (w:=w) (ty:=ty) (base:=some ⟨(m b).1,o,none⟩) (sLen:=0) (sCap:=(m b).2) ht.und y.info hs (by omega)
      have l:=h.put b {B with cells:=B.cells.take (0*p.size)++L,ver:=ver+1,pr:=B.pr && pr} (m b).1 (m b).2 (w':=w) (.inr ⟨B,D,rfl⟩) ⟨rfl,rfl,rfl,Nat.le_refl _,fun _ _ _=>rfl⟩
       ⟨⟨cur,e',_,vs.drop (0*p.size)++rest,jR.of A k1,by rw [k2];simp,V,U,fun _=>h1,k6⟩,k7,I⟩ (fun B0 h0=>by rw [D] at h0;cases h0;exact ⟨rfl,.inr (by simp only;omega)⟩)
       (fun o' u C=> ⟨h.sealed _ _ _ C,(h.own b B D o' u C)⟩)
      refine ⟨_,_,_,f,l.1,l.2, ?_⟩
      simp only [VR]
      refine ⟨_,mW _ _ _,Nat.le_refl _,⟨_,_,_,rfl⟩,fun _=> ⟨o,by simp [kP],by simp,by simp [kP,hc0],H,A⟩⟩
     ·have Z:o=0:=ho (by omega)
      subst Z
      have hnl:=hs.newsLen
      have hbig:mN*F.size+n*F.size≤(m b).2*F.size:=by rw [← Nat.add_mul];exact Nat.mul_le_mul_right _ hrm
      have hcs:cur.size=(m b).2*F.size:=by rw [s1,T,d]
      have f:=vP (P:=P) (w:=w) (ty:=ty) (o:=0) ht.und y.info hs hrm k1 (by simp only [Nat.zero_add];omega)
      simp only [Nat.zero_add] at f
      have hlist:cur.toList.take (mN*F.size)=vs.take (mN*p.size):=by rw [k2,d,List.take_append_of_le_length (by rw [d] at hfit;omega)]
      have l:=h.put b {B with cells:=B.cells.take (mN*p.size)++L,ver:=ver+1,pr:=B.pr && pr} (m b).1 (m b).2 (w':=w.setRow (m b).1 (cur.toList.take (mN*F.size)++c++cur.toList.drop (mN*F.size+c.length)).toArray)
       (.inr ⟨B,D,rfl⟩) ⟨rfl,rfl,rfl,by simp,fun k _ hk=>setRow_other w _ k _ (fun e=>hk (by rw [e]))⟩
       ⟨⟨_,e',_,cur.toList.drop (mN*F.size+c.length),jR.of A (setRow_heap w _ cur _ e' _ k1),by rw [hlist],V,U,fun _=>h1,fun _ _=> ⟨by
        rw [← s1,List.size_toArray]
        simp only [List.length_append,List.length_take,List.length_drop,Array.length_toList]
        omega,s2⟩⟩,k7,I⟩ (fun B0 h0=>by rw [D] at h0;cases h0;exact ⟨rfl,.inr (by simp only;omega)⟩)
       (fun o' u C=>by
        obtain ⟨f1,f2⟩:=h.own b B D o' u C
        refine ⟨?_,f1,f2⟩
        have:=h.sealed _ _ _ C
        cases J:u.oneCell' with
        |false=>
         obtain ⟨_,_,hm,_⟩:=uP this J
         rw [k1] at hm;cases hm
        |true=>
        have this:=uQ this J
        rw [tV k1] at this
        refine (jR.of A (setRow_heap w _ cur _ e' _ k1)).get ?_ (fun _=>J)
        simp only [List.append_assoc]
        rw [List.getElem?_append_left (by simp only [List.length_take,Array.length_toList];rw [d] at hfz;omega),List.getElem?_take_of_lt (by rw [d] at hfz;omega)]
        exact this)
      refine ⟨_,_,_,f,l.1,l.2, ?_⟩
      simp only [VR]
      refine ⟨_,mW _ _ _,Nat.le_refl _,⟨_,_,_,rfl⟩,fun _=> ⟨0,by simp [kP],by simpa [kP] using hrm,by simp,H,A⟩⟩
    ·
     have hold:(Builtin.firstCells F.size mN (.slice (some ⟨(m b).1,o,none⟩) mN (m b).2)).run P w.drew= .ok (vs.take (mN*p.size)).toArray w.drew:=by
      refine run_firstCells_some w.drew F.size mN ⟨(m b).1,o,none⟩ mN _ _ K ?_
      intro j u C
      have hjl:=(List.getElem?_eq_some_iff.1 C).1
      rw [K] at hjl
      have hm0:0<mN:=by
       rcases Nat.eq_zero_or_pos mN with h0|h0
       ·subst h0;simp at hjl
       ·exact h0
      have Z:o=0:=ho (by omega)
      subst Z
      rw [Addr.add_mid,Nat.zero_add,tV (w:=w.drew) (j:=j) k1,k2]
      rw [List.getElem?_take] at C
      split at C
      ·rw [List.getElem?_append_left (List.getElem?_eq_some_iff.1 C).1];exact C
      ·cases C
     have f:=run_append_grow_src w t tx ty e F N ht.und y.info y.zero (some ⟨(m b).1,o,none⟩) mN (m b).2 _ hold cx n c hs (by omega) (by rw [yE] at hroom;omega) (zN (by omega) hroom (by omega))
     have X:mN+n≤grownCap w (mN+n) (m b).2 e:=grownCap_ge _ _ _ _
     have Y:grownCap w (mN+n) (m b).2 e≤maxLen:=grownCap_le_maxLen _ _ _ _ (by rw [yE] at hroom;simp only [maxLen];omega)
     have l:=h.put b {B with cells:=B.cells.take (mN*p.size)++L,ver:=ver+1,pr:=B.pr && pr} w.heap.size (grownCap w (mN+n) (m b).2 e) (.inl (Nat.le_refl _))
      (Dj (nG w (.cells ((vs.take (mN*p.size)++c).toArray++Builtin.zeroCells N.cells (grownCap w (mN+n) (m b).2 e - (mN+n))) e)) _)
      ⟨⟨(vs.take (mN*p.size)++c).toArray++Builtin.zeroCells N.cells (grownCap w (mN+n) (m b).2 e - (mN+n)),e,_,(Builtin.zeroCells N.cells (grownCap w (mN+n) (m b).2 e - (mN+n))).toList,jR.of A (heap_alloc_new w.drew _),by simp,V,U,fun _=>h1,fun _ _=> ⟨by
       simp only [Array.size_append,List.size_toArray,List.length_append,size_zeroCells,hs.newsLen,hzs]
       rw [K,T,d,← Nat.add_mul,← Nat.add_mul];congr 1;omega,Y⟩⟩,k7,I⟩ (fun B0 h0=>by rw [D] at h0;cases h0;exact ⟨rfl,.inr (by simp only;omega)⟩)
      (fun o' u C=>absurd (h.seal_lt C) (Nat.lt_irrefl _))
     refine ⟨_,_,_,f,l.1,l.2, ?_⟩
     simp only [VR]
     refine ⟨_,mW _ _ _,Nat.le_refl _,⟨_,_,_,rfl⟩,fun _=> ⟨0,by simp [kP],by simpa [kP] using X,by simp,H,A⟩⟩
   ·cases E
  ·cases E
end
end AM
namespace AM
open Go
theorem Ai (n:Nat) (z:List AV):(iV n z).length=n*z.length:=by simp [iV]
theorem Q_ (n:Nat) (z:List AV):iV (n+1) z=z++iV n z:=by simp [iV,List.replicate_succ]
theorem Le:∀ (n:Nat) (z:List AV) (i:Nat),i<n*z.length→(iV n z)[i]? =z[i % z.length]?
 |0,z,i,h=>by simp at h
 | n+1,z,i,h=>by
  rw [Q_]
  by_cases a:i<z.length
  ·rw [List.getElem?_append_left a,Nat.mod_eq_of_lt a]
  ·have a:z.length≤i:=by omega
   rw [List.getElem?_append_right a,Le n z (i - z.length) (by rw [Nat.add_mul,Nat.one_mul] at h;omega)]
   congr 1
   rw [← Nat.mod_eq_sub_mod a]
section
variable {P:Program} {ap:AP} {g:dU} {m:bf} {S:aX} {w:World}
theorem BR:∀ {l:List AV} {vs:List Value},l.length=vs.length→(∀ (i:Nat) x v,l[i]? =some x→vs[i]? =some v→VR g m S x v)→bF g m S l vs
 | [],[],_,_=>by simp [bF]
 |x::r,v::vs,hl,h=>by
  simp only [bF]
  exact ⟨h 0 x v rfl rfl,BR (by simpa using hl) fun i x v b a=>h (i+1) x v (by simpa using b) (by simpa using a)⟩
 | [],_::_,h,_=>by simp at h
 |_::_,[],h,_=>by simp at h
theorem zl (z:Array Value) (n:Nat):(madeCells z n).toList=(List.range n).map fun i=>z[i % z.size]! :=by simp [madeCells]
theorem ww {t:Nat} {h:TI} {i:TypeInfo} {d:TypeDesc} {z:Value} (c:E8 P t h i d z) (n:Nat):bF g m S (iV n h.zero) (madeCells z.cells (n*i.size)).toList:=by
 have k:=qg (g:=g) (m:=m) (S:=S) c
 have a:=cZ k
 simp only [Array.length_toList,c.zsize] at a
 refine BR (by rw [Ai,a,Array.length_toList,size_madeCells]) ?_
 intro j x v f e
 have l:j<n*i.size:=by
  have:=(List.getElem?_eq_some_iff.1 f).1
  rw [Ai,a] at this;exact this
 rw [Le n h.zero j (by rw [a];exact l),a] at f
 rw [zl,c.zsize,List.getElem?_map,List.getElem?_range l] at e
 simp only [Option.map_some,Option.some.injEq] at e
 obtain ⟨q,b,p⟩:=qQ k _ f
 have o:j % i.size<z.cells.size:=by rw [c.zsize];exact Nat.mod_lt _ c.pos
 simp only [Array.getElem?_toList] at b
 rw [getElem!_pos z.cells _ o] at e
 rw [Array.getElem?_eq_getElem o] at b
 cases b
 rw [← e];exact p
theorem Ha {n:Nat} {z:List AV} (h:∀ x ∈ z,nK x=true):∀ x ∈ iV n z,nK x=true:=by
 intro x a
 simp only [iV,List.mem_flatten,List.mem_replicate] at a
 obtain ⟨l,⟨_,rfl⟩,a⟩:=a
 exact h x a
theorem AY:∀ {l:List AV} {vs:List Value},bF g m S l vs→(∀ x ∈ l,nK x=true)→∀ u ∈ vs,u.oneCell'=true
 | [],[],_,_=>by simp
 |x::r,v::vs,h,hl=>by
  simp only [bF] at h
  intro u a
  rcases List.mem_cons.1 a with rfl|a
  ·exact MH h.1 (hl x (by simp))
  ·exact AY h.2 (fun y b=>hl y (by simp [b])) u a
 | [],_::_,h,_=>by simp [bF] at h
 |_::_,[],h,_=>by simp [bF] at h
theorem IR {b vs:List AV} {a:Nat} {x:AV} (h:x ∈ jh b a vs):x ∈ b∨x ∈ vs:=by
 simp only [jh,List.mem_append] at h
 rcases h with (h|h)|h
 ·exact .inl (List.mem_of_mem_take h)
 ·exact .inr h
 ·exact .inl (List.mem_of_mem_drop h)
theorem C9:∀ {ps:List (Nat × Nat × AV)} {cells cells':List AV},wo cells ps=some cells'→(∀ x ∈ cells,nK x=true)→∀ x ∈ cells',nK x=true
 | [],cells,cells',h,hl=>by simp [wo] at h;subst h;exact hl
 | (off,size,v)::r,cells,cells',h,hl=>by
  simp only [wo] at h
  split at h
  ·rename_i b
   simp only [Bool.and_eq_true] at b
   refine C9 h fun x a=> ?_
   rcases IR a with a|a
   ·exact hl x a
   ·exact List.all_eq_true.1 b.2 x a
  ·cases h
theorem PI {nid:Nat} {cells:List AV} {a k c n:Nat} (b:n≤c) (hp:0<a) (d:a ≠ jf):VR (d_ g [jA nid cells a]) (kP m nid (k,c)) S (.ref nid 0 0 n) (.slice (some ⟨k,0,none⟩) n c):=by
 simp only [VR]
 refine ⟨_,mW _ _ _,Nat.zero_le _,⟨_,_,_,rfl⟩,fun _=> ⟨0,by simp [kP],by simpa [kP] using b,by simp,hp,d⟩⟩
theorem rM:∀ (a b:List AV),dw (a++b)=dw a++dw b
 | [],b=>by simp [dw]
 |x::r,b=>by simp [dw,rM r b]
theorem G_ (z:List AV) (h:dw z= []):∀ n,dw (iV n z)= []
 |0=>by simp [iV,dw]
 |n+1=>by
  have a:=G_ z h n
  simp only [iV,List.replicate_succ,List.flatten_cons,rM,h,List.nil_append] at a ⊢
  exact a
theorem NU (nid n a:Nat) (z:List AV) (h:(dw z).isEmpty=true):(nid,(⟨iV n z,0,false,0,a,true⟩:bi))=jA nid (iV n z) a:=by
 have b:dw z= []:=by simpa using h
 simp [jA,G_ z b n]
theorem zn (D:je P ap) (h:b_ ap g m S w) {nid:Nat} (R:g nid=none) {t:Nat} {J:TI} {i:TypeInfo} {d:TypeDesc} {z:Value} (M:E8 P t J i d z) {l c:AV} {cl I:Value} (N:VR g m S l cl) (O:VR g m S c I)
  {v:AV} {ups:List (Nat × bi)} {bs:List Bool} (k:wY ap nid J l c=some (v,ups,bs)) (j:∀ b ∈ bs,b=true):
  ∃ cv m' w',(Instr.makeSlice t cl I).run P w= .ok cv w'∧b_ ap (d_ g ups) m' S w'∧Fr g m S w (d_ g ups) m' S w'∧VR (d_ g ups) m' S v cv:=by
 unfold wY at k
 split at k
 ·rename_i e W l T c u
  have V:=bind_some k;clear k;obtain ⟨r,a,k⟩:=V
  obtain ⟨n,X,E,a⟩:=fA D a
  split at k
  ·rename_i f
   simp only [Bool.and_eq_true] at f
   have y:=f.2
   have f:=f.1
   have o:=gp f.1.1
   have G:=gU f.2
   rw [NU _ _ _ _ y] at k
   cases k
   obtain ⟨s,j⟩:=dA j
   obtain ⟨F,j⟩:=dA j
   obtain ⟨K,_⟩:=dA j
   have s:0≤l:=of_decide_eq_true s
   have F:l=c:=of_decide_eq_true F
   have K:l≤2^40:=of_decide_eq_true K
   subst F
   simp only [VR,PR] at N O
   subst N;subst O
   rw [M.d_eq] at u
   have u:=iF u
   subst u
   have p:(n.bytes:Int)*l≤281474976710656:=by
    have B:(n.bytes:Int)≤128:=by rw [← a.bytes];exact_mod_cast G
    have Q:(n.bytes:Int)*l≤128*l:=Int.mul_le_mul_of_nonneg_right B s
    have U:(2:Int)^40=1099511627776:=by decide
    omega
   have C:l≤9223372036854775807:=by
    have U:(2:Int)^40=1099511627776:=by decide
    omega
   have q:=run_make (P:=P) w t e n E M.und a.info a.zero W T l l s (Int.le_refl _) p C
   have A:bF g m S (iV l.toNat r.zero) (madeCells E.cells (l.toNat*n.size)).toList:=ww a _
   have H:∀ x ∈ iV l.toNat r.zero,nK x=true:=Ha a.zleaf
   have L:=h.fresh (nid:=nid) R (jA nid (iV l.toNat r.zero) r.size).2 (by have B:=a.small;have Q:=a.size;show r.size ≠ jf;omega) l.toNat (w':=w.alloc (.cells (madeCells E.cells (l.toNat*n.size)) e)) (World.grownBy_alloc w _ none) (heap_alloc_new w _) (fun _=>rfl) (Nat.zero_le _)
    (rest:= []) (by rw [List.append_nil]) (fun hp=>gJ _ A (qp hp)) A (AY A H) (fun _=> ⟨by rw [size_madeCells];simp [jA,a.size],by simp only [maxLen];omega⟩)
   refine ⟨_,_,_,q,L.1,L.2, ?_⟩
   exact PI (Nat.le_refl _) o (by have B:=a.small;have Q:=a.size;omega)
  ·cases k
 ·cases k
theorem EC {t e:TypeId} {i:TypeInfo} {z:Value} (f:P.underlying t=some (.slice e)) (c:P.info? e=some i) (h:i.zero=some z) {a:Nat} (d:a*i.size≤2^24) (h0:a*i.size ≠ 0) {parts:Array (Nat × Value)} {cells:Array Value}
  (hf:Instr.fill (fun j=>some (j*i.size,i.size)) (madeCells z.cells (a*i.size)) parts.toList=some cells):
  (Instr.buildSlice t a parts).run P w= .ok (.slice (some ⟨w.heap.size,0,none⟩) a a) (w.alloc (.cells cells e)):=by
 have b:¬ (a*i.size>2^24):=by omega
 unfold madeCells at hf
 simp only [Instr.buildSlice,Sem.run_bind,run_underlying f,Result.andThen_ok]
 simp [Go.sizeOf,typeInfo,c,zeroValue,h,h0,newRow]
 rw [if_neg (by simpa using b)]
 simp [hf]
theorem AQ {t e:TypeId} {i:TypeInfo} (c:P.underlying t=some (.slice e)) (b:P.info? e=some i) {a:Nat} (h0:a*i.size=0) {parts:Array (Nat × Value)} {cells:Array Value}
  (hf:Instr.fill (fun d=>some (d*i.size,i.size)) #[] parts.toList=some cells):
  (Instr.buildSlice t a parts).run P w= .ok (.slice (some ⟨w.heap.size,0,none⟩) a a) (w.alloc (.cells cells e)):=by
 simp [Instr.buildSlice,run_underlying c,Go.sizeOf,typeInfo,b,h0,newRow,Array.range_zero',hf]
theorem xH (C:je P ap) (h:b_ ap g m S w) {nid:Nat} (J:g nid=none) {t:Nat} {G:TI} {i:TypeInfo} {d:TypeDesc} {z:Value} (B:E8 P t G i d z) {b:Nat} {ps:List (Nat × AV)} {qs:Array (Nat × Value)} (K:xy g m S ps qs.toList)
  {v:AV} {ups:List (Nat × bi)} {bs:List Bool} (c:tH ap nid G b ps=some (v,ups,bs)):
  ∃ cv m' w',(Instr.buildSlice t b qs).run P w= .ok cv w'∧b_ ap (d_ g ups) m' S w'∧Fr g m S w (d_ g ups) m' S w'∧VR (d_ g ups) m' S v cv:=by
 unfold tH at c
 split at c
 ·rename_i e r
  have k:=bind_some c;clear c;obtain ⟨p,a,c⟩:=k
  obtain ⟨y,Q,L,a⟩:=fA C a
  split at c
  ·rename_i l
   simp only [Bool.and_eq_true] at l
   have f:=gp l.1.1
   have D:=gU l.1.2
   have k:=bind_some c;clear c;obtain ⟨s,n,c⟩:=k
   cases c
   rw [B.d_eq] at r
   have r:=iF r
   subst r
   have A:bF g m S (iV b p.zero) (madeCells L.cells (b*y.size)).toList:=ww a _
   obtain ⟨j,q,F,N⟩:=oO _ qs.toList _ s _ (ry (size:=p.size) K) A n
   rw [a.size] at q
   have o:(Instr.buildSlice t b qs).run P w= .ok (.slice (some ⟨w.heap.size,0,none⟩) b b) (w.alloc (.cells j e)):=by
    by_cases h0:b*y.size=0
    ·exact AQ B.und a.info h0 (by rw [h0] at q;simpa [madeCells,Array.range_zero'] using q)
    ·exact EC B.und a.info a.zero (by rw [← a.size];exact D) h0 q
   have E:∀ x ∈ s,nK x=true:=C9 n (Ha a.zleaf)
   have u:j.size=b*y.size:=by rw [N,size_madeCells]
   have I:=h.fresh (nid:=nid) J (jA nid s p.size).2 (by have H:=a.small;have M:=a.size;show p.size ≠ jf;omega) b (w':=w.alloc (.cells j e)) (World.grownBy_alloc w _ none) (heap_alloc_new w _) (fun _=>rfl) (Nat.zero_le _)
    (rest:= []) (by rw [List.append_nil]) (fun hp=>gJ _ F (qp hp)) F (AY F E) (fun _=> ⟨by rw [u];simp [jA,a.size],by
     have H:b≤b*p.size:=Nat.le_mul_of_pos_right _ f
     have O:(2:Nat)^24=16777216:=by decide
     simp only [maxLen];omega⟩)
   refine ⟨_,_,_,o,I.1,I.2, ?_⟩
   exact PI (Nat.le_refl _) f (by have H:=a.small;have M:=a.size;omega)
  ·cases c
 ·cases c
theorem Wj {d:TypeDesc} {k e:Nat} (h:jK P (some d)= .map k e):d= .map k e:=by cases d<;>simp [jK] at h;obtain ⟨rfl,rfl⟩:=h;rfl
theorem oV {d:TypeDesc} {x:AV} {v:Value} (h:oU (jK P (some d)) x=true) (a:VR g m S x v):MapKept.IsKey d v:=by
 cases d<;>simp only [jK] at h<;>cases x<;>simp [oU] at h<;>simp only [VR,PR] at a<;>subst a<;>simp only [MapKept.IsKey]
 exact (jc h).symm
theorem Uf {d:TypeDesc} {x y:AV} {u v:Value} (e:oU (jK P (some d)) x=true) (c:oU (jK P (some d)) y=true) (h:VR g m S x u) (f:VR g m S y v):Instr.sameNow d u v=some (XK x y):=by
 cases d<;>simp only [jK] at e c<;>cases x<;>simp [oU] at e<;>cases y<;>simp [oU] at c<;>simp only [VR,PR] at h f<;>subst h<;>subst f<;>simp only [Instr.sameNow,XK]
 ·rw [if_pos ((jc e).symm.trans (jc c))]
 ·rename_i a b
  congr 1
  rw [Bool.eq_iff_iff,MapKept.bytes_beq]
  simp
theorem DR (h:b_ ap g m S w) {rd:dU} (k:∀ b B,rd b=some B→g b=some B) {x:AV} {t:Value} (p:VR g m S x t) {q:List AV × List AV} (a:UU rd x=some q):
  ∃ d:Array MapEntry,((t= .map none∧d=#[])∨∃ b c,t= .map (some b)∧w.heap[b]? =some (.map d c))∧bF g m S q.1 (d.toList.map (·.key))∧bF g m S q.2 (d.toList.map (·.val)):=by
 unfold UU at a
 split at a
 ·rename_i ks vs
  cases a
  simp only [VR,PR] at p
  rcases p with ⟨rfl,rfl,rfl⟩|⟨b,u,v,rfl,h0,z,s,r⟩
  ·exact ⟨#[],.inl ⟨rfl,rfl⟩,by simp [bF],by simp [bF]⟩
  ·obtain ⟨d,c,o,i⟩:=uP (h.sealed _ _ _ h0) rfl
   obtain ⟨C,clk',n,f⟩:=uP (h.sealed _ _ _ z) rfl
   rw [o] at n;cases n
   have i:Value.agg (d.map (·.key))= .agg u.toArray:=Option.some.inj i
   have f:Value.agg (d.map (·.val))= .agg v.toArray:=Option.some.inj f
   have i:=Value.agg.inj i
   have f:=Value.agg.inj f
   refine ⟨d,.inr ⟨b,c,rfl,o⟩, ?_, ?_⟩
   ·rw [← Array.toList_map,i];exact bW _ s
   ·rw [← Array.toList_map,f];exact bW _ r
 ·rename_i b ver
  have A:=bind_some a;clear a;obtain ⟨B,y,a⟩:=A
  split at a
  ·rename_i j
   simp only [Bool.and_eq_true] at j
   split at a
   ·rename_i ks vs hcells
    cases a
    simp only [VR] at p
    obtain ⟨B',l,_,_,q⟩:=p
    rw [k b B y] at l;cases l
    have q:=q (aO j.1)
    obtain ⟨⟨cur,e,D,rest,k1,k2,_,k4,_,_⟩,_,_⟩:=h.blk b B (k b B y)
    obtain ⟨d,c,o,rfl⟩:=k1.map (aO j.2)
    rw [hcells] at k4
    match D,k4 with
    | [u0,u1],k4=>
     simp only [bF,VR,and_true] at k4
     obtain ⟨⟨u,rfl,s⟩,v,rfl,r⟩:=k4
     simp only [wZ,List.cons_append,List.cons.injEq] at k2
     have i:=Value.agg.inj k2.1
     have f:=Value.agg.inj k2.2.1
     refine ⟨d,.inr ⟨_,c,q,o⟩, ?_, ?_⟩
     ·rw [← Array.toList_map,i];exact s
     ·rw [← Array.toList_map,f];exact r
    | [],k4=>simp [bF] at k4
    | [_],k4=>simp [bF] at k4
    |_::_::_::_,k4=>simp [bF] at k4
   ·cases a
  ·cases a
 ·cases a
theorem uf {d:TypeDesc} {k v:AV} {ck cv:Value} (h:VR g m S k ck) (b:oU (jK P (some d)) k=true) (t:VR g m S v cv):∀ (l:List MapEntry) (ks vs:List AV) (i:Nat),bF g m S ks (l.map (·.key))→bF g m S vs (l.map (·.val))→ks.all (oU (jK P (some d)))=true→
  (Instr.findNow d ck l i=some none∧xZ ks vs k=none∧ks.any (XK k)=false∧vN ks vs k v=vs++ [v])∨
  ∃ j e x,Instr.findNow d ck l i=some (some (i+j,e.val))∧l[j]? =some e∧e.key=ck∧xZ ks vs k=some x∧VR g m S x e.val∧ks.any (XK k)=true∧bF g m S (vN ks vs k v) ((l.set j {e with key:=ck,val:=cv}).map (·.val))
 | [],ks,vs,i,h1,h2,_=>by
  cases ks with
  |cons _ _=>simp [bF] at h1
  |nil=>
   cases vs with
   |cons _ _=>simp [bF] at h2
   |nil=>exact .inl ⟨rfl,rfl,rfl,rfl⟩
 | e ::l,ks,vs,i,h1,h2,ha=>by
  cases ks with
  |nil=>simp [bF] at h1
  | cons k0 ks=>
   cases vs with
   |nil=>simp [bF] at h2
   | cons v0 vs=>
    simp only [List.map_cons,bF] at h1 h2
    simp only [List.all_cons,Bool.and_eq_true] at ha
    have hs:=Uf b ha.1 h h1.1
    cases a:XK k k0 with
    | true=>
     rw [a] at hs
     have f:e.key=ck:=by
      obtain ⟨r,s,c⟩:=MapKept.sameNow_of_keys (oV b h) (oV ha.1 h1.1)
      rw [hs] at s;cases s
      exact (c.1 rfl).symm
     refine .inr ⟨0,e,v0, ?_,rfl,f, ?_,h2.1, ?_, ?_⟩
     ·simp [Instr.findNow,hs]
     ·simp [xZ,a]
     ·simp [a]
     ·simp only [vN,a,List.set_cons_zero,List.map_cons,bF];exact ⟨t,h2.2⟩
    | false=>
     rw [a] at hs
     rcases uf h b t l ks vs (i+1) h1.2 h2.2 ha.2 with ⟨o,n,p,q⟩|⟨j,A,x,o,n,p,q,z,u,y⟩
     ·refine .inl ⟨?_, ?_, ?_, ?_⟩
      ·simp [Instr.findNow,hs,o]
      ·simp [xZ,a,n]
      ·simp only [List.any_cons,a,p];rfl
      ·simp [vN,a,q]
     ·refine .inr ⟨j+1,A,x, ?_,by simpa using n,p, ?_,z, ?_, ?_⟩
      ·simp [Instr.findNow,hs,o];omega
      ·simp [xZ,a,q]
      ·simp only [List.any_cons,a,u];rfl
      ·simp only [vN,a,List.set_cons_succ,List.map_cons,bF];exact ⟨h2.1,y⟩
theorem zY {ok:Bool} {o:Option AV} {z:AV} {u c:Value} {b:Bool} (h:(o=none∧u=c∧b=false)∨∃ x,o=some x∧VR g m S x u∧b=true) (d:VR g m S z c):VR g m S (KF ok o z) (if ok then .tuple #[u,.bool b] else u):=by
 have a:VR g m S (o.getD z) u∧o.isSome=b:=by
  rcases h with ⟨rfl,rfl,rfl⟩|⟨x,rfl,e,rfl⟩
  ·exact ⟨d,rfl⟩
  ·exact ⟨e,rfl⟩
 cases ok with
 |true=>
  simp only [KF,if_true,VR]
  refine ⟨[u,.bool b],rfl, ?_⟩
  simp only [bF,VR,PR,and_true]
  exact ⟨a.1,by rw [a.2]⟩
 |false=>simpa [KF] using a.1
theorem FH (s:je P ap) (h:b_ ap g m S w) {rd:dU} (D:∀ b B,rd b=some B→g b=some B) {t:Nat} {K:TI} {i:TypeInfo} {d:TypeDesc} {z:Value} (A:E8 P t K i d z) {x k v:AV} {L ck:Value} (T:VR g m S x L) (H:VR g m S k ck) {ok:Bool}
  {ups:List (Nat × bi)} {bs:List Bool} (c:IQ ap K rd x k ok=some (v,ups,bs)) (l:∀ b ∈ bs,b=true):
  ups= []∧∃ cv,(Instr.lookup t L ck ok).run P w= .ok cv w∧VR g m S v cv:=by
 unfold IQ at c
 split at c
 ·rename_i X et C
  have o:=bind_some c;clear c;obtain ⟨tk,a,c⟩:=o
  have o:=bind_some c;clear c;obtain ⟨te,f,c⟩:=o
  have o:=bind_some c;clear c;obtain ⟨q,o,c⟩:=o
  have I:=bind_some c;clear c;obtain ⟨V,F,c⟩:=I
  obtain ⟨rfl,rfl,rfl⟩:=aU c
  obtain ⟨Y,dk,zk,a⟩:=fA s a
  obtain ⟨Z,de,R,f⟩:=fA s f
  rw [A.d_eq] at C
  have C:=Wj C
  subst C
  obtain ⟨E,l⟩:=dA l
  obtain ⟨M,_⟩:=dA l
  rw [a.d_eq] at E M
  obtain ⟨Q,r,v1,N⟩:=DR h D T o
  have n:=oV E H
  have p:VR g m S V R:=w_ f F
  refine ⟨rfl, ?_⟩
  rcases uf H E H Q.toList q.1 q.2 0 v1 N M with ⟨u,U,_,_⟩|⟨j,e,y,u,_,_,W,O,_,_⟩
  ·refine ⟨_, ?_,zY (.inl ⟨U,rfl,rfl⟩) p⟩
   rcases r with ⟨rfl,rfl⟩|⟨b,J,rfl,G⟩
   ·simp [Instr.lookup,run_underlying A.und,MapKept.run_checkKey a.und n,MapKept.run_findKey a.und u,zeroValue,typeInfo,f.info,f.zero,Result.andThen]
   ·simp [Instr.lookup,run_underlying A.und,MapKept.run_getObj_map G,MapKept.run_checkKey a.und n,MapKept.run_findKey a.und u,zeroValue,typeInfo,f.info,f.zero,Result.andThen]
  ·refine ⟨_, ?_,zY (.inr ⟨y,W,O,rfl⟩) p⟩
   rcases r with ⟨rfl,rfl⟩|⟨b,J,rfl,G⟩
   ·simp [Instr.findNow] at u
   ·simp [Instr.lookup,run_underlying A.und,MapKept.run_getObj_map G,MapKept.run_checkKey a.und n,MapKept.run_findKey a.und u,Result.andThen]
 ·cases c
mutual
theorem OJ {S:aX}:∀ (x:AV) {v:Value},PR S x v→fD x= []
 | .int _ _,_,_=>rfl
 | .bool _,_,_=>rfl
 | .str _,_,_=>rfl
 | .nilS,_,_=>rfl
 | .nilP,_,_=>rfl
 | .nilF,_,_=>rfl
 | .nilI,_,_=>rfl
 | .sl _ _ _,_,_=>rfl
 | .pp _ _,_,_=>rfl
 | .mp _ _,_,_=>rfl
 | .dead,_,_=>rfl
 | .own _ _ _,_,p=>by simp only [PR] at p
 | .ref _ _ _ _,_,p=>by simp only [PR] at p
 | .ptr _ _ _,_,p=>by simp only [PR] at p
 | .mr _ _,_,p=>by simp only [PR] at p
 | .agg l,_,p=>by
  simp only [PR] at p;simp only [fD]
  obtain ⟨_,_,q⟩:=p
  exact qc l q
 | .tup l,_,p=>by
  simp only [PR] at p;simp only [fD]
  obtain ⟨_,_,q⟩:=p
  exact qc l q
 | .fn f a c,_,p=>by
  simp only [PR] at p;simp only [fD]
  obtain ⟨_,_,_,q,r⟩:=p
  rw [qc a q,qc c r];rfl
 | .ifc t x,_,p=>by
  simp only [PR] at p;simp only [fD]
  obtain ⟨_,_,q⟩:=p
  exact OJ x q
theorem qc {S:aX}:∀ (l:List AV) {vs:List Value},dL S l vs→dw l= []
 | [],_,_=>rfl
 |x::r,v::vs,p=>by simp only [dL] at p;simp only [dw,OJ x p.1,qc r p.2,List.append_nil]
 |_::_,[],p=>by simp [dL] at p
end
theorem GR (h:b_ ap g m S w) {b:Nat} {B:bi} {a:Array MapEntry} {clk':Nat} {k:Nat} {w':World} (p:w'.heap[k]? =some (.map a clk')) (d:B.esz=jf) {ks vs:List AV} (l:B.cells= [.agg ks,.agg vs]) (o:bF g m S ks (a.toList.map (·.key))) (n:bF g m S vs (a.toList.map (·.val))) (hp:B.pr=true→dw vs= []∧dw ks= []) (f:B.fro=false→B.fz=0) (j:B.fz≤2) (c:Nat):Qc g m S w' B k c:=by
 refine ⟨⟨wZ a,0,[.agg (a.map (·.key)),.agg (a.map (·.val))],[],.inr ⟨d,a,clk',p,rfl⟩,rfl, ?_, ?_,fun i=>absurd d i,fun _ i=>absurd d i⟩,f,by rw [l];exact j⟩
 ·intro e
  obtain ⟨r,q⟩:=hp e
  rw [l]
  simp only [dL,PR,and_true]
  exact ⟨⟨(a.map (·.key)).toList,by rw [Array.toArray_toList],by rw [Array.toList_map];exact gJ _ o q⟩,(a.map (·.val)).toList,by rw [Array.toArray_toList],by rw [Array.toList_map];exact gJ _ n r⟩
 ·rw [l]
  simp only [bF,VR,and_true]
  exact ⟨⟨(a.map (·.key)).toList,by rw [Array.toArray_toList],by rw [Array.toList_map];exact o⟩,(a.map (·.val)).toList,by rw [Array.toArray_toList],by rw [Array.toList_map];exact n⟩
theorem FI (h:b_ ap g m S w) {nid:Nat} (d:g nid=none) (t:Nat):
  ∃ cv m' w',(Instr.makeMap t none).run P w= .ok cv w'∧b_ ap (d_ g [(nid,⟨[.agg [],.agg []],0,false,0,jf,true⟩)]) m' S w'∧Fr g m S w (d_ g [(nid,⟨[.agg [],.agg []],0,false,0,jf,true⟩)]) m' S w'∧VR (d_ g [(nid,⟨[.agg [],.agg []],0,false,0,jf,true⟩)]) m' S (.mr nid 0) cv:=by
 have a:=h.put nid ⟨[.agg [],.agg []],0,false,0,jf,true⟩ w.heap.size 0 (w':=w.alloc (.map #[] 0)) (.inl (Nat.le_refl _)) (World.grownBy_alloc w _ _)
  (GR h (b:=nid) (heap_alloc_new w _) rfl rfl (by simp [bF]) (by simp [bF]) (fun _=> ⟨rfl,rfl⟩) (fun _=>rfl) (Nat.zero_le _) 0)
  (fun B0 h0=>by rw [d] at h0;cases h0) (fun o v c=>absurd (h.seal_lt c) (Nat.lt_irrefl _))
 refine ⟨.map (some w.heap.size),_,_, ?_,a.1,a.2, ?_⟩
 ·simp [Instr.makeMap,Result.andThen]
 ·simp only [VR]
  exact ⟨_,mW _ _ _,Nat.le_refl _,⟨_,rfl⟩,fun _=>by simp [kP]⟩
theorem zC:∀ (l:List AV) (a:TD),l.all (oU a)=true→dw l= []
 | [],_,_=>rfl
 |x::r,a,h=>by
  simp only [List.all_cons,Bool.and_eq_true] at h
  have b:fD x= []:=by cases a<;>cases x<;>first|rfl|(simp [oU] at h)
  simp only [dw,b,zC r a h.2,List.append_nil]
theorem Es:∀ (ks vs:List AV) (k v:AV),dw vs= []→fD v= []→dw (vN ks vs k v)= []
 | [],_,k,v,_,h2=>by simp [vN,dw,h2]
 |_::_,[],k,v,_,h2=>by simp [vN,dw,h2]
 |k0::ks,v0::vs,k,v,h1,h2=>by
  simp only [dw,List.append_eq_nil_iff] at h1
  simp only [vN]
  split
  ·simp [dw,h1.2,h2]
  ·simp [dw,h1.1,Es ks vs k v h1.2 h2]
theorem wJ (hap:je P ap) (h:b_ ap g m S w) {rd:dU} (J:∀ b B,rd b=some B→g b=some B) {t:Nat} {ti:TI} {i:TypeInfo} {d:TypeDesc} {z:Value} (V:E8 P t ti i d z) {x k v r:AV} {cx ck cv:Value} (hx:VR g m S x cx) (W:VR g m S k ck) (hv:VR g m S v cv)
  {ups:List (Nat × bi)} {bs:List Bool} (l:BH ap ti rd x k v=some (r,ups,bs)) (F:∀ b ∈ bs,b=true):
  r= .dead∧∃ D w',(Instr.mapUpdate t cx ck cv).run P w= .ok () w'∧b_ ap (d_ g ups) D S w'∧Fr g m S w (d_ g ups) D S w':=by
 unfold BH at l
 split at l
 ·rename_i kt et b ver R
  have X:=bind_some l;clear l;obtain ⟨tk,c,l⟩:=X
  have X:=bind_some l;clear l;obtain ⟨B,hB,l⟩:=X
  split at l
  ·rename_i p
   simp only [Bool.and_eq_true,Bool.not_eq_true'] at p
   split at l
   ·rename_i ks vs hcells
    cases l
    obtain ⟨ik,dk,zk,c⟩:=fA hap c
    rw [V.d_eq] at R
    have R:=Wj R
    subst R
    obtain ⟨O,F⟩:=dA F
    obtain ⟨Z,_⟩:=dA F
    rw [c.d_eq] at O Z
    have a:=J b B hB
    have hz:=aO p.1.2
    have Y:UU rd (.mr b ver)=some (ks,vs):=by
     unfold UU
     simp only [hB,Option.bind_some,p.1.1,p.1.2,Bool.and_self,hcells]
    obtain ⟨s,hes,v1,v2⟩:=DR h J hx Y
    have I:=oV O W
    simp only [VR] at hx
    obtain ⟨B',L,_,_,q⟩:=hx
    rw [a] at L;cases L
    have q:=q (aO p.1.1)
    subst q
    rcases hes with ⟨e,_⟩|⟨b0,G,e,Q⟩
    ·cases e
    cases e
    have hlt:(m b).1<w.heap.size:=h.lt a
    obtain ⟨_,k7,k8⟩:=h.blk b B a
    have key:∀ (f:Array MapEntry) (clk':Nat),bF g m S (Ja ks k) (f.toList.map (·.key))→bF g m S (vN ks vs k v) (f.toList.map (·.val))→
      ∃ D,b_ ap (d_ g [(b,{B with cells:= [.agg (Ja ks k),.agg (vN ks vs k v)],pr:=B.pr && (fD v).isEmpty})]) D S {w with heap:=w.heap.setIfInBounds (m b).1 (.map f clk')}∧Fr g m S w (d_ g [(b,{B with cells:= [.agg (Ja ks k),.agg (vN ks vs k v)],pr:=B.pr && (fD v).isEmpty})]) D S {w with heap:=w.heap.setIfInBounds (m b).1 (.map f clk')}:=by
     intro f clk' w1 w2
     have E:=h.put b {B with cells:= [.agg (Ja ks k),.agg (vN ks vs k v)],pr:=B.pr && (fD v).isEmpty} (m b).1 (m b).2 (w':={w with heap:=w.heap.setIfInBounds (m b).1 (.map f clk')})
      (.inr ⟨B,a,rfl⟩) ⟨rfl,rfl,rfl,by simp,fun k' _ hk'=>by simp [show (m b).1 ≠ k' from fun e=>hk' (by rw [e])]⟩
      (GR h (b:=b) (B:={B with cells:= [.agg (Ja ks k),.agg (vN ks vs k v)],pr:=B.pr && (fD v).isEmpty}) (w':={w with heap:=w.heap.setIfInBounds (m b).1 (.map f clk')}) (k:=(m b).1) (clk':=clk') (by simp [hlt]) hz rfl w1 w2 (fun A=>by
       have A:(B.pr && (fD v).isEmpty)=true:=A
       simp only [Bool.and_eq_true] at A
       obtain ⟨⟨cur,e,us,rest,k1,k2,k3,k4,_,_⟩,_,_⟩:=h.blk b B a
       have hr:dw B.cells= []:=qc _ (k3 A.1)
       rw [hcells] at hr
       simp only [dw,fD,List.append_nil,List.append_eq_nil_iff] at hr
       refine ⟨Es _ _ _ _ hr.2 (qp A.2), ?_⟩
       have K:=zC ks _ Z
       unfold Ja
       split
       ·exact K
       ·rw [rM,K];exact zC [k] (jK P (some dk)) (by simp [O])) k7 (by rw [hcells] at k8;exact k8) (m b).2)
      (fun B0 h0=>by rw [a] at h0;cases h0;exact ⟨rfl,.inl ⟨rfl,rfl⟩⟩)
      (fun o u hu=>by
       have:=(h.own b B a o u hu).1
       rw [p.2] at this;cases this)
     exact ⟨_,E.1,E.2⟩
    refine ⟨rfl, ?_⟩
    rcases uf W O hv s.toList ks vs 0 v1 v2 Z with ⟨T,r2,r3,r4⟩|⟨j,e,y,T,rj,rk,r4,r5,r6,r7⟩
    ·obtain ⟨D,U,s2⟩:=key (s.push {key:=ck,val:=cv,born:=G}) (G+1)
      (by unfold Ja;rw [r3,Array.toList_push,List.map_append];exact iI v1 (by simp only [List.map_cons,List.map_nil,bF,and_true];exact W))
      (by rw [r4,Array.toList_push,List.map_append];exact iI v2 (by simp only [List.map_cons,List.map_nil,bF,and_true];exact hv))
     refine ⟨D,_, ?_,U,s2⟩
     simp [Instr.mapUpdate,run_underlying V.und,MapKept.run_getObj_map Q,MapKept.run_checkKey c.und I,MapKept.run_findKey c.und T,MapKept.run_setObj_map _ Q,Result.andThen]
    ·have C:s[j]? =some e:=by simpa using rj
     have N:(s.modify j fun e=> {e with key:=ck,val:=cv}).toList=s.toList.set j {e with key:=ck,val:=cv}:=by
      apply List.ext_getElem?
      intro n
      simp only [Array.getElem?_toList,Array.getElem?_modify,List.getElem?_set]
      by_cases hjn:j=n
      ·subst hjn
       have H:j<s.toList.length:=(List.getElem?_eq_some_iff.1 rj).1
       rw [if_pos rfl,if_pos rfl,if_pos H,C];rfl
      ·rw [if_neg hjn,if_neg hjn]
     obtain ⟨D,U,s2⟩:=key (s.modify j fun e=> {e with key:=ck,val:=cv}) G
      (by
       unfold Ja;rw [r6,N]
       have:(s.toList.set j {e with key:=ck,val:=cv}).map (·.key)=s.toList.map (·.key):=by
        apply List.ext_getElem?
        intro n
        simp only [List.getElem?_map,List.getElem?_set]
        by_cases hjn:j=n
        ·subst hjn
         have H:j<s.toList.length:=(List.getElem?_eq_some_iff.1 rj).1
         have M:j<s.size:=by simpa using H
         have hge:s[j]=e:=by rw [Array.getElem?_eq_getElem M] at C;exact Option.some.inj C
         simp [M,hge,rk]
        ·simp [hjn]
       rw [this];exact v1)
      (by rw [N];exact r7)
     refine ⟨D,_, ?_,U,s2⟩
     rw [Nat.zero_add] at T
     simp [Instr.mapUpdate,run_underlying V.und,MapKept.run_getObj_map Q,MapKept.run_checkKey c.und I,MapKept.run_findKey c.und T,C,rk,MapKept.run_keyThatStays I,MapKept.run_setObj_map _ Q,Result.andThen]
   ·cases l
  ·cases l
 ·cases l
end
end AM
namespace AM
open Go
section
variable {P:Program} {ap:AP} {g:dU} {m:bf} {S:aX} {w:World}
theorem uN {ρ:Operand→AV} {cρ:Operand→Value}:∀ (l:List Operand),(∀ o ∈ l,VR g m S (ρ o) (cρ o))→bF g m S (l.map ρ) (l.map cρ)
 | [],_=>by simp [bF]
 |o::r,h=>by simp only [List.map_cons,bF];exact ⟨h o (by simp),uN r fun o a=>h o (by simp [a])⟩
theorem BO {ρ:Operand→AV} {cρ:Operand→Value}:∀ (l:List (Nat × Operand)),(∀ o ∈ l.map (·.2),VR g m S (ρ o) (cρ o))→xy g m S (l.map fun (i,x)=>(i,ρ x)) (l.map fun (i,x)=>(i,cρ x))
 | [],_=>by simp [xy]
 |(i,o)::r,h=>by simp only [List.map_cons,xy];exact ⟨trivial,h o (by simp),BO r fun o a=>h o (by simp [a])⟩
def jk (P:Program) (ap:AP) (g:dU) (m:bf) (S:aX) (w:World) (s:Sem Next) (v:AV) (ups:List (Nat × bi)):Prop:=
 ∃ nx m' w',s.run P w= .ok nx w'∧b_ ap (d_ g ups) m' S w'∧Fr g m S w (d_ g ups) m' S w'∧((∃ cv,nx= .value cv∧VR (d_ g ups) m' S v cv)∨(nx= .skip∧v= .dead))
theorem jk.pur (h:b_ ap g m S w) {s:Sem Value} {v:AV} {ups:List (Nat × bi)} (hs:ups= []∧∃ cv,s.run P w= .ok cv w∧VR g m S v cv):jk P ap g m S w (do pure (.value (← s))) v ups:=by
 obtain ⟨rfl,cv,b,a⟩:=hs
 exact ⟨.value cv,m,w,by simp [b],by rw [gm];exact h,by rw [gm];exact Fr.refl _ _ _ _,.inl ⟨cv,rfl,by rw [gm];exact a⟩⟩
theorem jk.full {s:Sem Value} {v:AV} {ups:List (Nat × bi)} (hs:∃ cv a w',s.run P w= .ok cv w'∧b_ ap (d_ g ups) a S w'∧Fr g m S w (d_ g ups) a S w'∧VR (d_ g ups) a S v cv):jk P ap g m S w (do pure (.value (← s))) v ups:=by
 obtain ⟨cv,a,w',c,b,d,e⟩:=hs
 exact ⟨.value cv,a,w',by simp [c],b,d,.inl ⟨cv,rfl,e⟩⟩
theorem jk.val (h:b_ ap g m S w) {s:Sem Next} {v:AV} {cv:Value} (hs:s.run P w= .ok (.value cv) w) (a:VR g m S v cv):jk P ap g m S w s v []:=
 ⟨.value cv,m,w,hs,by rw [gm];exact h,by rw [gm];exact Fr.refl _ _ _ _,.inl ⟨cv,rfl,by rw [gm];exact a⟩⟩
theorem BM {ρ:Operand→AV} {cρ:Operand→Value} (x:Option Operand) (h:∀ o ∈ x.toArray,VR g m S (ρ o) (cρ o)):BL g m S (x.map ρ) (x.map cρ):=by
 cases x with
 |none=>simp [BL]
 |some o=>simp only [Option.map_some,BL];exact h o (by simp)
theorem J4 (a:je P ap) {t:Nat} {c:TI} (h:ap.tyAt t=some c) (e:c.d ≠ .iface):P.concrete t=true:=by
 obtain ⟨i,d,z,b⟩:=fA a h
 have:=b.d_eq
 simp only [Program.concrete,b.und]
 cases d<;>simp_all [jK]
set_option maxHeartbeats 1000000 in
theorem QX (j:je P ap) (D:b_ ap g m S w) {nid:Nat} (X:g nid=none) {ρ:Operand→AV} {cρ:Operand→Value} {rd:dU} (H:∀ b B,rd b=some B→g b=some B) (o:Oper) (hρ:∀ x ∈ o.op.operands,VR g m S (ρ x) (cρ x))
  {dec:Operand→Option Bool} (hdec:∀ x ∈ o.op.operands,∀ b,dec x=some b→cρ x= .bool b) {em:Bool} (hem:∀ n,xW ρ o.op=some n→Nat.beq n 0=em)
  {v:AV} {ups:List (Nat × bi)} {bs:List Bool} (h:opA ap nid ρ rd dec em o.op=some (v,ups,bs)) (hbs:∀ b ∈ bs,b=true):jk P ap g m S w (execOp cρ o) v ups:=by
 unfold opA at h
 unfold execOp
 split at h<;>rename_i heq<;>simp only [heq,Op.operands] at hρ hdec hem ⊢
 ·obtain ⟨rfl,rfl,rfl⟩:=aU h
  exact jk.val D (by simp) (hρ _ (by simp))
 ·obtain ⟨rfl,rfl,rfl⟩:=aU h
  exact jk.val D (by simp) (hρ _ (by simp))
 ·
  rename_i c a b
  split at h
  ·rename_i K
   obtain ⟨rfl,rfl,rfl⟩:=aU h
   have:=hdec c (by simp) _ K
   exact jk.val D (by simp [this,asBool]) (hρ _ (by simp))
  ·rename_i K
   obtain ⟨rfl,rfl,rfl⟩:=aU h
   have:=hdec c (by simp) _ K
   exact jk.val D (by simp [this,asBool]) (hρ _ (by simp))
  ·split at h
   ·rename_i bc ba bb e1 e2 e3
    obtain ⟨rfl,rfl,rfl⟩:=aU h
    have F:=hρ c (by simp)
    have G:=hρ a (by simp)
    have N:=hρ b (by simp)
    rw [e1] at F;rw [e2] at G;rw [e3] at N
    simp only [VR,PR] at F G N
    refine jk.val D (cv:= .bool (cond bc ba bb)) ?_ (by simp only [VR,PR])
    rw [F,G,N]
    cases bc<;>simp [asBool]
   ·cases h
 ·
  rename_i e
  have A:=bind_some h;clear h;obtain ⟨te,L,h⟩:=A
  obtain ⟨ie,de,ze,C⟩:=fA j L
  split at h
  ·rename_i T
   simp only [Bool.and_eq_true] at T
   cases h
   obtain ⟨O,w',F,G,N,h4⟩:=F7 (P:=P) D X (cells:=te.zero) (cv:=ze) (qg C) C.zleaf (fun u hu=>AY (g:=g) (m:=m) (S:=S) (qg C) C.zleaf u (by simpa using hu)) e
   refine jk.full ⟨.pointer (some ⟨w.heap.size,0,none⟩),O,w', ?_,G,N,PD h4⟩
   simp [Instr.alloc,zeroValue,typeInfo,C.info,C.zero,F]
  ·cases h
 ·
  rename_i e x
  have A:=bind_some h;clear h;obtain ⟨te,L,h⟩:=A
  obtain ⟨ie,de,ze,C⟩:=fA j L
  simp only at h
  split at h
  ·rename_i T
   simp only [Bool.and_eq_true] at T
   cases h
   have E:=hρ x (by simp)
   have hl:∀ y ∈ (ρ x).cells,nK y=true:=fun y hy=>List.all_eq_true.1 T.2 y hy
   obtain ⟨hv1,hv2⟩:=BU E hl
   obtain ⟨O,w',F,G,N,h4⟩:=F7 (P:=P) D X (cells:=(ρ x).cells) (cv:=cρ x) hv1 hl hv2 e
   refine jk.full ⟨.pointer (some ⟨w.heap.size,0,none⟩),O,w', ?_,G,N,PD h4⟩
   simp [Instr.box,F]
  ·cases h
 ·
  rename_i t parts
  have A:=bind_some h;clear h;obtain ⟨M,q,h⟩:=A
  obtain ⟨i,d,z,C⟩:=fA j q
  refine jk.pur D ?_
  refine Ih j C (qs:=parts.map fun (i,x)=>(i,cρ x)) ?_ h
  rw [Array.toList_map]
  exact BO parts.toList fun x E=>hρ x (by simpa using E)
 ·
  rename_i t len parts
  have A:=bind_some h;clear h;obtain ⟨M,q,h⟩:=A
  obtain ⟨i,d,z,C⟩:=fA j q
  refine jk.full ?_
  refine xH j D X C (qs:=parts.map fun (i,x)=>(i,cρ x)) ?_ h
  rw [Array.toList_map]
  exact BO parts.toList fun x E=>hρ x (by simpa using E)
 ·
  rename_i t a
  have A:=bind_some h;clear h;obtain ⟨M,q,h⟩:=A
  obtain ⟨i,d,z,C⟩:=fA j q
  exact jk.pur D (zZ D H C (hρ a (by simp)) h hbs)
 ·
  rename_i t a x
  have A:=bind_some h;clear h;obtain ⟨M,q,h⟩:=A
  obtain ⟨i,d,z,C⟩:=fA j q
  have ha:=hρ a (by simp)
  have E:=hρ x (by simp)
  generalize cρ a=ca at ha ⊢
  generalize cρ x=cx at E ⊢
  obtain ⟨rfl,O,w',F,G,N⟩:=Jj D H C ha E h hbs
  exact ⟨.skip,O,w',by simp [F],G,N,.inr ⟨rfl,rfl⟩⟩
 ·
  rename_i t r
  split at h
  ·cases h
   obtain ⟨cv,O,w',F,G,N,h4⟩:=FI (P:=P) D X t
   exact ⟨.value cv,O,w',by simp [F],G,N,.inl ⟨cv,rfl,h4⟩⟩
  ·cases h
 ·
  rename_i t x k ok
  have A:=bind_some h;clear h;obtain ⟨M,q,h⟩:=A
  obtain ⟨i,d,z,C⟩:=fA j q
  exact jk.pur D (FH j D H C (hρ x (by simp)) (hρ k (by simp)) h hbs)
 ·
  rename_i t x k v
  have A:=bind_some h;clear h;obtain ⟨M,q,h⟩:=A
  obtain ⟨i,d,z,C⟩:=fA j q
  obtain ⟨rfl,O,w',F,G,N⟩:=wJ j D H C (hρ x (by simp)) (hρ k (by simp)) (hρ v (by simp)) h hbs
  exact ⟨.skip,O,w',by simp [F],G,N,.inr ⟨rfl,rfl⟩⟩
 ·
  rename_i t x k v
  have A:=bind_some h;clear h;obtain ⟨M,q,h⟩:=A
  obtain ⟨i,d,z,C⟩:=fA j q
  obtain ⟨rfl,O,w',F,G,N⟩:=wJ j D H C (hρ x (by simp)) (hρ k (by simp)) (hρ v (by simp)) h hbs
  exact ⟨.skip,O,w',by simp [F],G,N,.inr ⟨rfl,rfl⟩⟩
 ·
  rename_i x
  have E:=hρ x (by simp)
  split at h
  ·rename_i b ver off e
   rw [e] at E
   obtain ⟨rfl,rfl,rfl⟩:=aU h
   have I:=E
   simp only [VR] at I
   obtain ⟨_,_,_,⟨k,o,Y⟩,_⟩:=I
   exact jk.val D (cv:=cρ x) (by rw [Y];simp) E
  ·rename_i xs off e
   rw [e] at E
   obtain ⟨rfl,rfl,rfl⟩:=aU h
   have I:=E
   simp only [VR,PR] at I
   obtain ⟨_,_,_,Y,_⟩:=I
   exact jk.val D (cv:=cρ x) (by rw [Y];simp) E
  ·rename_i f a c e
   rw [e] at E
   obtain ⟨rfl,rfl,rfl⟩:=aU h
   have I:=E
   simp only [VR] at I
   obtain ⟨_,_,Y,_⟩:=I
   exact jk.val D (cv:=cρ x) (by rw [Y];simp) E
  ·cases h
 ·
  rename_i op t x y _
  have A:=bind_some h;clear h;obtain ⟨M,q,h⟩:=A
  exact jk.pur D (MP j q (hρ x (by simp)) (hρ y (by simp)) h hbs x y)
 ·
  exact jk.pur D (RY (hρ _ (by simp)) h)
 ·
  rename_i s d x
  have A:=bind_some h;clear h;obtain ⟨ts,hts,h⟩:=A
  have A:=bind_some h;clear h;obtain ⟨td,htd,h⟩:=A
  exact jk.pur D (CS j D H hts htd (hρ x (by simp)) h hbs)
 ·
  rename_i t x
  have A:=bind_some h;clear h;obtain ⟨M,q,h⟩:=A
  split at h
  ·cases h
  ·rename_i K
   obtain ⟨rfl,rfl,rfl⟩:=aU h
   refine jk.pur D ⟨rfl,.iface t (cρ x),run_makeInterface w t _ (J4 j q K), ?_⟩
   simp only [VR]
   exact ⟨_,rfl,hρ x (by simp)⟩
 ·
  rename_i f first cap
  obtain ⟨rfl,rfl,rfl⟩:=aU h
  refine jk.pur D ⟨rfl,.func (.func f) (first.map cρ) (cap.map cρ),by simp [Instr.makeFunc], ?_⟩
  simp only [VR]
  refine ⟨(first.map cρ).toList,(cap.map cρ).toList,by rw [Array.toArray_toList,Array.toArray_toList], ?_, ?_⟩
  ·rw [Array.toList_map];exact uN _ fun x E=>hρ x (by simp at E ⊢;exact .inl E)
  ·rw [Array.toList_map];exact uN _ fun x E=>hρ x (by simp at E ⊢;exact .inr E)
 ·
  rename_i t l c
  have A:=bind_some h;clear h;obtain ⟨M,q,h⟩:=A
  obtain ⟨i,d,z,C⟩:=fA j q
  exact jk.full (zn j D X C (hρ l (by simp)) (hρ c (by simp)) h hbs)
 ·
  rename_i t x lo hi mx
  have A:=bind_some h;clear h;obtain ⟨M,q,h⟩:=A
  obtain ⟨i,d,z,C⟩:=fA j q
  exact jk.pur D (Jh j H C (hρ x (by simp)) (BM lo fun o V=>hρ o (by simp at V;simp [V])) (BM hi fun o V=>hρ o (by simp at V;simp [V])) (BM mx fun o V=>hρ o (by simp at V;simp [V])) h hbs)
 ·
  rename_i s x f
  have A:=bind_some h;clear h;obtain ⟨M,q,h⟩:=A
  obtain ⟨i,d,z,C⟩:=fA j q
  split at h
  ·rename_i fs K
   have A:=bind_some h;clear h;obtain ⟨⟨o,ft,sz⟩,hf,h⟩:=A
   simp only at h
   split at h
   ·rename_i hsz
    have A:=bind_some h;clear h;obtain ⟨p,hp,h⟩:=A
    obtain ⟨rfl,rfl,rfl⟩:=aU h
    exact jk.pur D ⟨rfl,AB C K hf hsz (hρ x (by simp)) hp⟩
   ·cases h
  ·cases h
 ·
  rename_i t x f
  have A:=bind_some h;clear h;obtain ⟨M,q,h⟩:=A
  obtain ⟨i,d,z,C⟩:=fA j q
  exact jk.pur D (IB j C (hρ x (by simp)) h hbs)
 ·
  rename_i t x ix
  have A:=bind_some h;clear h;obtain ⟨M,q,h⟩:=A
  obtain ⟨i,d,z,C⟩:=fA j q
  exact jk.pur D (yZ j H C (hρ x (by simp)) (hρ ix (by simp)) h hbs)
 ·
  rename_i t x ix
  have A:=bind_some h;clear h;obtain ⟨M,q,h⟩:=A
  obtain ⟨i,d,z,C⟩:=fA j q
  exact jk.pur D (IJ j C (hρ x (by simp)) (hρ ix (by simp)) h hbs)
 ·
  exact jk.pur D (FB j (hρ _ (by simp)) h _)
 ·
  rename_i t i
  have C:=hρ t (by simp)
  split at h
  ·rename_i l e
   rw [e] at C
   have A:=bind_some h;clear h;obtain ⟨x,E,h⟩:=A
   obtain ⟨rfl,rfl,rfl⟩:=aU h
   simp only [VR] at C
   obtain ⟨vs,Y,hl⟩:=C
   obtain ⟨cv,F,G⟩:=qQ hl i E
   refine jk.pur D ⟨rfl,cv, ?_,G⟩
   rw [Y]
   simp [Instr.extract,F]
  ·cases h
 ·
  rename_i b args R
  simp only [Call.operands] at hρ
  have hargs:∀ x ∈ args,VR g m S (ρ x) (cρ x):=fun x E=>hρ x (by simp [E])
  split at h
  ·have A:=bind_some h;clear h;obtain ⟨x,E,h⟩:=A
   have A:=bind_some h;clear h;obtain ⟨t,Z,h⟩:=A
   have A:=bind_some h;clear h;obtain ⟨M,q,h⟩:=A
   obtain ⟨i,d,z,C⟩:=fA j q
   obtain ⟨hu,cv,F,G⟩:=NK (P:=P) (w:=w) (hargs x (Array.mem_of_getElem? E)) C h R Z (args.map cρ) (by simp [E]) o.type
   subst hu
   exact jk.val D (cv:=cv) (by simp [resolve,invoke,builtin,F]) G
  ·split at h
   ·rename_i s x t t1 ha Z
    have hargs':args=#[s,x]:=by apply Array.ext';simpa using ha
    have hats':R=#[t,t1]:=by apply Array.ext';simpa using Z
    subst hargs';subst hats'
    have A:=bind_some h;clear h;obtain ⟨M,q,h⟩:=A
    have A:=bind_some h;clear h;obtain ⟨ti1,hti1,h⟩:=A
    obtain ⟨i,d,z,C⟩:=fA j q
    obtain ⟨i1,d1,z1,U⟩:=fA j hti1
    have hs:=hargs s (by simp)
    have E:=hargs x (by simp)
    have W:ρ s= .nilS→∃ n,wQ (ρ x)=some n∧Nat.beq n 0=em:=by
     intro e
     cases hc:wQ (ρ x) with
     | none=>
      exfalso
      split at h
      ·rename_i I;rw [I] at hc;simp [wQ] at hc
      ·cases h
      ·rename_i y hy1 _ hy2 hy3
       have A:=bind_some h;clear h;obtain ⟨te,L,h⟩:=A
       unfold xE at h
       have A:=bind_some h;clear h;obtain ⟨⟨xs,n,pr⟩,hsrc,h⟩:=A
       cases hxx:ρ x<;>simp [hxx,wQ] at hc<;>simp [hxx,Lt] at hsrc
      ·cases h
     |some n=>exact ⟨n,rfl,hem n (by simp [xW,e,hc])⟩
    split at h
    ·rename_i e y K J hy
     have A:=bind_some h;clear h;obtain ⟨te,L,h⟩:=A
     obtain ⟨ie,de,ze,Q⟩:=fA j L
     split at h
     ·rename_i F
      rw [C.d_eq] at K
      rw [U.d_eq] at J
      have K:=iF K
      have J:=xq J
      subst K;subst J
      obtain ⟨cv,O,w',r1,r2,r3,r4⟩:=vV (P:=P) D H X C Q hs E (tx:=t1) (.inl ⟨⟨y,hy⟩,U.und,aO F⟩) W (by rw [hy];exact h) hbs o.type
      exact ⟨.value cv,O,w',by simp [resolve,invoke,builtin,r1],r2,r3,.inl ⟨cv,rfl,r4⟩⟩
     ·cases h
    ·cases h
    ·rename_i e e1 K J hns
     have A:=bind_some h;clear h;obtain ⟨te,L,h⟩:=A
     obtain ⟨ie,de,ze,Q⟩:=fA j L
     rw [C.d_eq] at K
     rw [U.d_eq] at J
     have K:=iF K
     have J:=iF J
     subst K;subst J
     obtain ⟨cv,O,w',r1,r2,r3,r4⟩:=vV (P:=P) D H X C Q hs E (tx:=t1) (.inr ⟨fun s e=>hns s e,_,U.und⟩) W h hbs o.type
     exact ⟨.value cv,O,w',by simp [resolve,invoke,builtin,r1],r2,r3,.inl ⟨cv,rfl,r4⟩⟩
    ·cases h
   ·cases h
  ·have A:=bind_some h;clear h;obtain ⟨r,hr,h⟩:=A
   obtain ⟨rfl,rfl,rfl⟩:=aU h
   obtain ⟨cv,F,G⟩:=QP (P:=P) (w:=w) (uN args.toList fun x E=>hargs x (Array.mem_toList_iff.1 E)) hr R o.type
   refine jk.val D (cv:=cv) ?_ G
   have:(List.map cρ args.toList).toArray=args.map cρ:=by apply Array.ext';rw [List.toList_toArray,Array.toList_map]
   rw [this] at F
   simp [resolve,invoke,builtin,F]
  ·have A:=bind_some h;clear h;obtain ⟨r,hr,h⟩:=A
   obtain ⟨rfl,rfl,rfl⟩:=aU h
   obtain ⟨cv,F,G⟩:=QN (P:=P) (w:=w) (uN args.toList fun x E=>hargs x (Array.mem_toList_iff.1 E)) hr R o.type
   refine jk.val D (cv:=cv) ?_ G
   have:(List.map cρ args.toList).toArray=args.map cρ:=by apply Array.ext';rw [List.toList_toArray,Array.toList_map]
   rw [this] at F
   simp [resolve,invoke,builtin,F]
  ·cases h
 ·cases h
end
end AM
namespace AM
open Go
structure Cx.Ok (c:Cx):Prop where
 bs:∀ b ∈ c.bs,b=true
 ps:∀ p ∈ c.ps,p
theorem R.bind_ok {α β:Type} {r:R α} {f:α→Cx→R β} {b:β} {c:Cx} (h:r.bind f= .ok b c):∃ a c1,r= .ok a c1∧f a c1= .ok b c:=by
 cases r with
 |ok a c1=>exact ⟨a,c1,rfl,h⟩
 |need=>simp [R.bind] at h
 |bad n=>simp [R.bind] at h
theorem Iy {c f:Cx} {bs:List Bool} {u:Unit} (h:XJ c bs= .ok u f) (d:f.Ok):c.Ok∧∀ b ∈ bs,b=true:=by
 unfold XJ at h
 split at h
 ·split at h
  ·rename_i a
   cases h
   exact ⟨d,fun b e=>by simpa using List.all_eq_true.1 a b e⟩
  ·cases h
 ·cases h
  exact ⟨⟨fun b a=>d.bs b (by simp [a]),d.ps⟩,fun b a=>d.bs b (by simp [a])⟩
theorem lm {c e:Cx} {b d:Bool} (h:yS c b= .ok d e) (a:e.Ok):c.Ok∧d=b:=by
 unfold yS at h
 split at h
 ·cases h;exact ⟨a,rfl⟩
 ·split at h
  ·cases h
  ·rename_i o r _
   cases h
   have f:=a.bs (lit d b) (by simp)
   refine ⟨⟨fun x i=>a.bs x (by simp [i]),a.ps⟩, ?_⟩
   cases d<;>cases b<;>simp [lit] at f ⊢
theorem jg {l:List Nat} {a:Nat}:pM l a=true↔a ∈ l:=by
 simp only [pM,List.any_eq_true]
 constructor
 ·rintro ⟨x,hx,h⟩;exact aO h ▸ hx
 ·intro h;exact ⟨a,h,Nat.beq_refl a⟩
theorem jy {α β:Type} {f:α→Option β}:∀ {l:List α} {l':List β},kN f l=some l'→l'.length=l.length∧∀ (i:Nat) x,l[i]? =some x→∃ y,l'[i]? =some y∧f x=some y
 | [],l',h=>by simp [kN] at h;subst h;simp
 | a::r,l',h=>by
  simp only [kN] at h
  split at h
  ·rename_i y c
   split at h
   ·rename_i q j
    cases h
    obtain ⟨e,d⟩:=jy j
    refine ⟨by simp [e], ?_⟩
    intro i x b
    cases i with
    |zero=>simp at b;subst b;exact ⟨y,by simp,c⟩
    |succ i=>simpa using d i x (by simpa using b)
   ·cases h
  ·cases h
section
variable {P:Program} {ap:AP} {g:dU} {m:bf} {S:aX} {w:World}
noncomputable def dV (S:aX) (m:bf) (rd:dU) (w:World):aX:=fun k o=>
 match S k o with
 |some v=>some v
 |none=>open Classical in if ∃ b B,rd b=some B∧(m b).1=k∧o<B.cells.length then dX w k o else none
theorem mQ (S:aX) (m:bf) (rd:dU) (w:World):mD S (dV S m rd w):=by
 intro k o v h;simp [dV,h]
theorem gB {rd:dU} {k o:Nat} {v:Value} (h:dV S m rd w k o=some v):S k o=some v∨(dX w k o=some v∧∃ b B,rd b=some B∧(m b).1=k∧o<B.cells.length):=by
 unfold dV at h
 split at h
 ·rename_i e a;cases h;exact .inl a
 ·rename_i d
  split at h
  ·rename_i c;exact .inr ⟨h,c⟩
  ·cases h
theorem oZ (a:b_ ap g m S w) {rd:dU} {k o:Nat} {v:Value} (h:dV S m rd w k o=some v):dX w k o=some v:=by
 rcases gB h with h|h
 ·exact a.sealed _ _ _ h
 ·exact h.1
theorem Rn (f:b_ ap g m S w) {rd:dU} {b:Nat} {B:bi} (c:rd b=some B) {o:Nat} (d:o<B.cells.length) {v:Value} (a:dX w (m b).1 o=some v):dV S m rd w (m b).1 o=some v:=by
 unfold dV
 split
 ·rename_i h e
  have:=f.sealed _ _ _ e
  rw [a] at this;cases this;rfl
 ·rw [if_pos ⟨b,B,c,rfl,d⟩];exact a
theorem EI (k:b_ ap g m S w) {rd:dU} (c:∀ b B,rd b=some B→g b=some B) {b:Nat} {B:bi} (h:rd b=some B):
  ∃ vs,bF g m S B.cells vs∧(B.pr=true→dL S B.cells vs)∧(∀ j u,vs[j]? =some u→dV S m rd w (m b).1 j=some u)∧vs.length=B.cells.length∧(B.esz ≠ jf→∀ u ∈ vs,u.oneCell'=true):=by
 obtain ⟨⟨cur,e,vs,rest,o,n,p,f,i,q⟩,_,_⟩:=k.blk b B (c b B h)
 refine ⟨vs,f,p, ?_,(cZ f).symm,i⟩
 intro j u d
 have a:=(List.getElem?_eq_some_iff.1 d).1
 refine Rn k h (by rw [cZ f];exact a) ?_
 exact o.get (by rw [n,List.getElem?_append_left a];exact d) (fun l=>i l u (List.mem_of_getElem? d))
theorem yG (n:b_ ap g m S w) {rd:dU} (a:∀ b B,rd b=some B→g b=some B) {b:Nat} {B:bi} (d:rd b=some B) (e:B.esz ≠ jf):
  ∃ vs,bF g m S B.cells vs∧(B.pr=true→dL S B.cells vs)∧kS (dV S m rd w) (m b).1 0 vs∧vs.length=B.cells.length:=by
 obtain ⟨vs,h,f,i,l,k⟩:=EI n a d
 refine ⟨vs,h,f,fun j u c=> ?_,l⟩
 rw [Nat.zero_add]
 exact ⟨i j u c,k e u (List.mem_of_getElem? c)⟩
theorem GU {S':aX} {l:List AV} {y:AV} {vs:List Value} {k:Nat} (h:Yu l=some y) (a:dL S' l vs) (hs:∀ j u,vs[j]? =some u→S' k j=some u):PR S' y (.map (some k)):=by
 unfold Yu at h
 split at h
 ·rename_i ks f
  cases h
  match vs,a with
  | [v0,v1],a=>
   simp only [dL,PR,and_true] at a
   obtain ⟨⟨b,rfl,c⟩,d,rfl,e⟩:=a
   simp only [PR]
   exact .inr ⟨k,b,d,rfl,hs 0 _ rfl,hs 1 _ rfl,c,e⟩
  | [],a=>simp [dL] at a
  | [_],a=>simp [dL] at a
  |_::_::_::_,a=>simp [dL] at a
 ·cases h
theorem tu {S':aX} {f:AV→Option AV} (a:∀ x v y,f x=some y→VR g m S x v→PR S' y v):∀ {l l':List AV} {vs:List Value},kN f l=some l'→bF g m S l vs→dL S' l' vs
 | [],l',[],h,_=>by simp [kN] at h;subst h;simp [dL]
 | x::r,l',v::vs,h,hv=>by
  simp only [kN] at h
  simp only [bF] at hv
  split at h
  ·rename_i y c
   split at h
   ·rename_i q b
    cases h
    simp only [dL]
    exact ⟨a x v y c hv.1,tu a b hv.2⟩
   ·cases h
  ·cases h
 | [],_,_::_,_,h=>by simp [bF] at h
 |_::_,_,[],_,h=>by simp [bF] at h
theorem lq (K:b_ ap g m S w) {rd:dU} (t:∀ b B,rd b=some B→g b=some B):∀ (s:Nat) (x:AV) (v:Value) (y:AV),frz rd s x=some y→VR g m S x v→PR (dV S m rd w) y v:=by
 intro s
 induction s with
 |zero=>intro x v y h;simp [frz] at h
 | succ s ih=>
  intro x v y h f
  have D:=mQ S m rd w
  have hlist:∀ {l l':List AV} {vs:List Value},kN (frz rd s) l=some l'→bF g m S l vs→dL (dV S m rd w) l' vs:=fun F G=>tu (fun x v y hx f=>ih x v y hx f) F G
  unfold frz at h
  simp only at h
  split at h
  ·
   rename_i b ver i n
   have C:=bind_some h;clear h;obtain ⟨B,E,h⟩:=C
   split at h
   ·rename_i d
    simp only [VR] at f
    obtain ⟨B',k,_,_,q⟩:=f
    rw [t b B E] at k;cases k
    obtain ⟨o,rfl,N,W,L,H⟩:=q (aO d)
    obtain ⟨vs,F,G,I,M⟩:=yG K t E H
    have hpart:kS (dV S m rd w) (m b).1 o ((vs.drop (i*B.esz)).take (n*B.esz)):=by
     by_cases hi:i<(m b).2
     ·rw [W hi]
      have:=(I.drop (i*B.esz)).take (n*B.esz)
      rwa [Nat.zero_add] at this
     ·have R:n=0:=by omega
      subst R
      intro j u hj
      simp at hj
    have p:∀ l,dL (dV S m rd w) l ((vs.drop (i*B.esz)).take (n*B.esz))→PR (dV S m rd w) (.sl l n true) (.slice (some ⟨(m b).1,o,none⟩) n ((m b).2 - i)):=by
     intro l z
     simp only [PR]
     exact ⟨_,_,rfl,by omega,.inr ⟨_,_,_,rfl,z,hpart⟩⟩
    split at h
    ·rename_i A
     cases h
     exact p _ (kR _ (p_ _ (bP D _ (G A))))
    ·simp only [Option.map_eq_some_iff] at h
     obtain ⟨l,z,rfl⟩:=h
     exact p _ (hlist z (qf _ (tC _ F)))
   ·cases h
  ·
   rename_i b ver J
   have C:=bind_some h;clear h;obtain ⟨B,E,h⟩:=C
   split at h
   ·rename_i d
    simp only [Bool.and_eq_true,Bool.not_eq_true'] at d
    have H:B.esz ≠ jf:=fun e=>by rw [e] at d;exact absurd d.2 (by decide)
    simp only [VR] at f
    obtain ⟨B',k,_,_,q⟩:=f
    rw [t b B E] at k;cases k
    have q:=q (aO d.1)
    subst q
    obtain ⟨vs,F,G,I,M⟩:=yG K t E H
    have p:∀ l,dL (dV S m rd w) l vs→PR (dV S m rd w) (.pp l J) (.pointer (some ⟨(m b).1,J,none⟩)):=by
     intro l z
     simp only [PR]
     exact ⟨_,0,_,by rw [Nat.zero_add],z,I⟩
    split at h
    ·rename_i A
     cases h
     exact p _ (bP D _ (G A))
    ·simp only [Option.map_eq_some_iff] at h
     obtain ⟨l,z,rfl⟩:=h
     exact p _ (hlist z F)
   ·cases h
  ·
   rename_i b ver
   have C:=bind_some h;clear h;obtain ⟨B,E,h⟩:=C
   split at h
   ·rename_i d
    simp only [Bool.and_eq_true] at d
    simp only [VR] at f
    obtain ⟨B',k,_,_,q⟩:=f
    rw [t b B E] at k;cases k
    have q:=q (aO d.1)
    subst q
    obtain ⟨vs,F,G,I,M,_⟩:=EI K t E
    split at h
    ·rename_i A
     exact GU h (bP D _ (G A)) I
    ·have C:=bind_some h;clear h;obtain ⟨l,z,h⟩:=C
     exact GU h (hlist z F) I
   ·cases h
  ·simp only [Option.map_eq_some_iff] at h
   obtain ⟨l,z,rfl⟩:=h
   simp only [VR] at f
   obtain ⟨vs,e,q⟩:=f
   simp only [PR]
   exact ⟨vs,e,hlist z q⟩
  ·simp only [Option.map_eq_some_iff] at h
   obtain ⟨l,z,rfl⟩:=h
   simp only [VR] at f
   obtain ⟨vs,e,q⟩:=f
   simp only [PR]
   exact ⟨vs,e,hlist z q⟩
  ·have C:=bind_some h;clear h;obtain ⟨a,Y,h⟩:=C
   simp only [Option.map_eq_some_iff] at h
   obtain ⟨c,hc,rfl⟩:=h
   simp only [VR] at f
   obtain ⟨va,O,e,q,r⟩:=f
   simp only [PR]
   exact ⟨va,O,e,hlist Y q,hlist hc r⟩
  ·simp only [Option.map_eq_some_iff] at h
   obtain ⟨u,hu,rfl⟩:=h
   simp only [VR] at f
   obtain ⟨Q,e,q⟩:=f
   simp only [PR]
   exact ⟨Q,e,ih _ _ _ hu q⟩
  ·cases h
  ·rename_i U Z X V T n5 n6 n7
   cases h
   refine dD D _ ?_
   cases x<;>first
    |exact absurd rfl (U _ _ _ _)
    |exact absurd rfl (Z _ _ _)
    |exact absurd rfl (X _ _)
    |exact absurd rfl (V _)
    |exact absurd rfl (T _)
    |exact absurd rfl (n5 _ _ _)
    |exact absurd rfl (n6 _ _)
    |exact absurd rfl (n7 _ _ _)
    |(simp only [VR] at f;exact f)
    |(simp only [PR])
end
end AM
