/- The abstract machine over the code of the model, and the proof that it is sound. No conditions. -/
import Derived.Test.YtdmfgmmooalfnaaGreatDoorM1
import Derived.Laws.BytesString
import Derived.Laws.MakeOwn
import Derived.Laws.OwnMore
set_option linter.unusedSimpArgs false
set_option linter.unusedVariables false
namespace AM
open Go
section
variable {P:Program} {ap:AP} {g:dE} {m:aX} {S:aV} {w:World}
theorem DD {x:AV} {v:Value} (h:VR g m S x v) (e:∀ y ∈ x.cells,oh y=true):bi g m S x.cells v.cells.toList∧∀ u ∈ v.cells,u.oneCell'=true:=by
 cases x
 case agg l=>
  simp only [VR] at h
  obtain ⟨vs,rfl,h⟩:=h
  refine ⟨by simpa [Value.cells,AV.cells] using h, ?_⟩
  intro u d
  simp only [Value.cells] at d
  simp only [AV.cells] at e
  have:∀ (l:List AV) (vs:List Value),bi g m S l vs→(∀ y ∈ l,oh y=true)→∀ u ∈ vs,u.oneCell'=true:=by
   intro l
   induction l with
   |nil=>intro vs f _ u d;cases vs<;>simp [bi] at f d
   | cons a r ih=>
    intro vs f e u d
    cases vs with
    |nil=>simp [bi] at f
    |cons b q=>
     simp only [bi] at f
     rcases List.mem_cons.1 d with rfl|d
     ·exact Nz f.1 (e a (by simp))
     ·exact ih q f.2 (fun y j=>e y (by simp [j])) u d
  exact this l vs h e u (by simpa using d)
 all_goals
  have c:=Nz h (e _ (by simp [AV.cells]))
  have i:v.cells=#[v]:=by cases v<;>simp [Value.cells,Value.oneCell'] at c ⊢
  rw [i]
  refine ⟨by simp only [AV.cells,bi];exact ⟨h,trivial⟩,by simpa using c⟩
theorem Hg:∀ (vs:List Value) (i a:Nat) (b:Array Value),a+i+vs.length≤b.size→
  ((vs.zipIdx i).foldl (fun (b:Array Value) (p:Value × Nat)=>b.setIfInBounds (a+p.2) p.1) b).toList=b.toList.take (a+i)++vs++b.toList.drop (a+i+vs.length)
 | [],i,a,b,_=>by simp
 | v::vs,i,a,b,h=>by
  simp only [List.length_cons] at h
  simp only [List.zipIdx_cons,List.foldl_cons]
  rw [Hg vs (i+1) a (b.setIfInBounds (a+i) v) (by simp;omega)]
  have c:a+i<b.toList.length:=by simp;omega
  simp only [Array.toList_setIfInBounds]
  rw [show a+(i+1)=a+i+1 from by omega,List.set_eq_take_append_cons_drop,if_pos c]
  have e:(b.toList.take (a+i)++v::b.toList.drop (a+i+1)).take (a+i+1)=b.toList.take (a+i)++ [v]:=by
   rw [List.take_append]
   have f:a+i+1 - (b.toList.take (a+i)).length=1:=by simp [List.length_take];omega
   rw [f]
   simp [List.take_take]
  have d:(b.toList.take (a+i)++v::b.toList.drop (a+i+1)).drop (a+i+1+vs.length)=b.toList.drop (a+i+(v::vs).length):=by
   rw [List.drop_append]
   have:(b.toList.take (a+i)).length=a+i:=by simp [List.length_take];omega
   rw [this,List.drop_eq_nil_of_le (by rw [this];omega),List.nil_append,show a+i+1+vs.length - (a+i)=vs.length+1 from by omega,List.drop_succ_cons,List.drop_drop]
   congr 1
   simp;omega
  rw [e,d]
  simp
theorem PI {xs vs:List AV} {b c:List Value} {a:Nat} (h:bi g m S xs b) (d:bi g m S vs c):bi g m S (iE xs a vs) (b.take a++c++b.drop (a+c.length)):=by
 unfold iE
 rw [← bU d]
 exact gK (gK (qE _ h) d) (uk _ h)
theorem YJ {xs vs:List AV} {b c:List Value} {a:Nat} (h:dQ S xs b) (d:dQ S vs c):dQ S (iE xs a vs) (b.take a++c++b.drop (a+c.length)):=by
 unfold iE
 rw [← wW d]
 exact nS (nS (jY _ h) d) (qy _ h)
def nU (g:dE) (m:aX) (S:aV) (place:Nat→Option (Nat × Nat)):List (Nat × Nat × AV)→List (Nat × Value)→Prop
 | [],[]=>True
 |(off,size,v)::r,(i,c)::q=>place i=some (off,size)∧VR g m S v c∧nU g m S place r q
 |_,_=>False
theorem pO {place:Nat→Option (Nat × Nat)}:∀ (ps:List (Nat × Nat × AV)) (qs:List (Nat × Value)) (cells cells':List AV) (cs:Array Value),nU g m S place ps qs→bi g m S cells cs.toList→wM cells ps=some cells'→
  ∃ a,Instr.fill place cs qs=some a∧bi g m S cells' a.toList∧a.size=cs.size
 | [],[],cells,cells',cs,_,hv,h=>by simp [wM] at h;subst h;exact ⟨cs,rfl,hv,rfl⟩
 | (off,size,v)::r,(i,c)::q,cells,cells',cs,hp,hv,h=>by
  simp only [nU] at hp
  simp only [wM] at h
  split at h
  ·rename_i k
   simp only [Bool.and_eq_true] at k
   obtain ⟨⟨n,j⟩,z⟩:=k
   obtain ⟨l,B⟩:=DD hp.2.1 (fun y t=>List.all_eq_true.1 z y t)
   have x:=bU l
   have d:=bU hv
   have n:=aN n
   have j:=fP j
   have u:c.cells.size=size:=by simp only [Array.length_toList] at x;omega
   have b:off+c.cells.size≤cs.size:=by simp only [Array.length_toList] at d;omega
   have o:=Hg c.cells.toList 0 off cs (by simpa using b)
   have f:bi g m S (iE cells off v.cells) ((c.cells.zipIdx.foldl (fun (cs:Array Value) (p:Value × Nat)=>cs.setIfInBounds (off+p.2) p.1) cs)).toList:=by
    rw [← Array.foldl_toList,Array.toList_zipIdx,o]
    simp only [Nat.add_zero]
    exact PI hv l
   obtain ⟨a,e,A,s⟩:=pO r q _ cells' _ hp.2.2 f h
   refine ⟨a, ?_,A, ?_⟩
   ·simp only [Instr.fill,hp.1]
    rw [if_neg (by simp;omega)]
    exact e
   ·rw [s,← Array.length_toList,← Array.foldl_toList,Array.toList_zipIdx,o]
    simp
    omega
  ·cases h
 | [],_::_,_,_,_,hp,_,_=>by simp [nU] at hp
 |_::_,[],_,_,_,hp,_,_=>by simp [nU] at hp
theorem qF {t:Nat} {a:TI} {i:TypeInfo} {d:TypeDesc} {z:Value} (b:Cm P t a i d z):bi g m S a.zero z.cells.toList:=by
 rw [b.zcells];exact bV _ (wI S _)
def xY (g:dE) (m:aX) (S:aV):List (Nat × AV)→List (Nat × Value)→Prop
 | [],[]=>True
 |(i,v)::r,(j,c)::q=>i=j∧VR g m S v c∧xY g m S r q
 |_,_=>False
theorem sJ {size:Nat}:∀ {ps:List (Nat × AV)} {qs:List (Nat × Value)},xY g m S ps qs→nU g m S (fun i=>some (i*size,size)) (ps.map fun (i,v)=>(i*size,size,v)) qs
 | [],[],_=>by simp [nU]
 |(i,v)::r,(j,c)::q,h=>by
  simp only [xY] at h
  obtain ⟨rfl,b,a⟩:=h
  simp only [List.map_cons,nU]
  exact ⟨trivial,b,sJ a⟩
 | [],_::_,h=>by simp [xY] at h
 |_::_,[],h=>by simp [xY] at h
theorem BC {b:List (Nat × Nat × Nat)} {place:Nat→Option (Nat × Nat)} (hp:∀ i x,b[i]? =some x→place i=some (x.1,x.2.2)):∀ {ps:List (Nat × AV)} {qs:List (Nat × Value)} {rs:List (Nat × Nat × AV)},xY g m S ps qs→
  jW (fun (q:Nat × AV)=>(b[q.1]?).map fun (x:Nat × Nat × Nat)=>(x.1,x.2.2,q.2)) ps=some rs→nU g m S place rs qs
 | [],[],rs,_,h=>by simp [jW] at h;subst h;simp [nU]
 | (i,v)::r,(j,c)::q,rs,hn,h=>by
  simp only [xY] at hn
  obtain ⟨rfl,f,e⟩:=hn
  simp only [jW] at h
  cases a:b[i]? with
  |none=>simp [a] at h
  | some x=>
   simp only [a,Option.map_some] at h
   split at h
   ·rename_i l d
    cases h
    simp only [nU]
    exact ⟨hp i x a,f,BC hp e d⟩
   ·cases h
 | [],_::_,_,h,_=>by simp [xY] at h
 |_::_,[],_,h,_=>by simp [xY] at h
theorem BB:∀ (fields:List Field),(∀ f ∈ fields,(P.info? f.type).isSome)→fields.mapM (fun f=>(P.info? f.type).map fun i=>(f.offset,i.size))=some (fields.map fun f=>(f.offset,match P.info? f.type with|some i=>i.size|none=>0))
 | [],_=>rfl
 | f::r,h=>by
  cases a:P.info? f.type with
  |none=>have:=h f (by simp);simp [a] at this
  |some i=>
   simp [List.mapM_cons,a,BB r (fun f b=>h f (by simp [b]))]
theorem IE (u:iF P ap) {t:Nat} {l:TI} {i:TypeInfo} {d:TypeDesc} {z:Value} (b:Cm P t l i d z) {ps:List (Nat × AV)} {qs:Array (Nat × Value)} (C:xY g m S ps qs.toList) {v:AV} {ups:List (Nat × aZ)} {bs:List Bool}
  (h:NJ ap l ps=some (v,ups,bs)):ups= []∧∃ cv,(Instr.build t qs).run P w= .ok cv w∧VR g m S v cv:=by
 unfold NJ at h
 split at h
 ·rename_i I hd
  have j:=bind_some h;clear h;obtain ⟨D,p,h⟩:=j
  have j:=bind_some h;clear h;obtain ⟨o,k,h⟩:=j
  obtain ⟨rfl,rfl,rfl⟩:=aS h
  rw [b.d_eq] at hd
  obtain ⟨fields,rfl,rfl⟩:=v_ hd
  by_cases hall:∀ f ∈ fields.toList,(P.info? f.type).isSome
  ·have q:=BB fields.toList hall
   have A:=BC (place:=((fields.toList.map fun f=>(f.offset,match P.info? f.type with|some i=>i.size|none=>0)).toArray[·]?)) (by
    intro i x B
    simp only [List.getElem?_map,Option.map_eq_some_iff] at B
    obtain ⟨f,r,rfl⟩:=B
    simp [r]
    rfl) C p
   obtain ⟨a,s,y,_⟩:=pO D qs.toList l.zero o z.cells A (qF b) k
   refine ⟨rfl,.agg a,run_build w t qs a ?_, ?_⟩
   ·simp only [Program.built,b.info,b.und,b.zero]
    rw [q]
    exact s
   ·simp only [VR];exact ⟨a.toList,by simp,y⟩
  ·exfalso
   apply hall
   intro f r
   have:=b.fld
   simp only [V_] at this
   exact List.all_eq_true.1 this f r
 ·rename_i n e hd
  have j:=bind_some h;clear h;obtain ⟨E,c,h⟩:=j
  have j:=bind_some h;clear h;obtain ⟨o,k,h⟩:=j
  obtain ⟨rfl,rfl,rfl⟩:=aS h
  obtain ⟨H,G,F,c⟩:=dO u c
  rw [b.d_eq] at hd
  have hd:=zA hd
  subst hd
  obtain ⟨a,s,y,_⟩:=pO _ qs.toList l.zero o z.cells (sJ (size:=E.size) C) (qF b) k
  refine ⟨rfl,.agg a,run_build w t qs a ?_, ?_⟩
  ·simp only [Program.built,b.info,b.und,b.zero,c.info]
   rw [← c.size]
   exact s
  ·simp only [VR];exact ⟨a.toList,by simp,y⟩
 ·cases h
end
end AM
namespace AM
open Go
section
variable {P:Program} {ap:AP} {g:dE} {m:aX} {S:aV} {w:World}
theorem xC {t:Nat} {k:TI} {i:TypeInfo} {d:TypeDesc} {z:Value} (f:Cm P t k i d z) {v:AV} (h:qX k k.zero=some v):VR g m S v z:=by
 have b:=qF (g:=g) (m:=m) (S:=S) f
 have e:=f.zagg
 unfold qX at h
 rw [f.d_eq,FP] at h
 unfold af8 at e
 rw [f.zero] at e
 split at h
 ·rename_i a
  cases h
  cases d<;>simp [TypeDesc.isRow] at a<;>cases z<;>simp at e
  all_goals
   simp only [VR]
   exact ⟨_,rfl,by simpa [Value.cells] using b⟩
 ·rename_i a
  split at h
  ·rename_i c l
   cases h
   have j:z.cells=#[z]:=by
    cases z<;>first|rfl|skip
    cases d<;>simp [TypeDesc.isRow] at a e
   rw [l,j] at b
   simp only [bi] at b
   exact b.1
  ·cases h
theorem Gq (s:iF P ap) {x v:AV} {D:Value} (o:VR g m S x D) {asserted:Nat} {ok:Bool} {ups:List (Nat × aZ)} {bs:List Bool} (h:IB ap x asserted ok=some (v,ups,bs)) (B:Nat):
  ups= []∧∃ cv,(Instr.typeAssert D B asserted ok).run P w= .ok cv w∧VR g m S v cv:=by
 unfold IB at h
 have n:=bind_some h;clear h;obtain ⟨F,y,h⟩:=n
 obtain ⟨i,d,z,b⟩:=dO s y
 have a:∀ C,d ≠ .interface C:=by
  intro C e;subst e;rw [b.d_eq] at h;simp [jL] at h
 have key:∀ (c:Value),(∃ t u,c= .iface t u∧t ≠ asserted)∨c= .nilIface→∀ l,VR g m S l z→ok=true→(Instr.typeAssert c B asserted ok).run P w= .ok (.tuple #[z,.bool false]) w:=by
  intro c E l _ p
  subst p
  rcases E with ⟨t,u,rfl,k⟩|rfl
  ·cases d<;>first|exact absurd rfl (a _)|simp [Instr.typeAssert,run_underlying b.und,k,zeroValue,typeInfo,b.info,b.zero]
  ·cases d<;>first|exact absurd rfl (a _)|simp [Instr.typeAssert,run_underlying b.und,zeroValue,typeInfo,b.info,b.zero]
 split at h
 ·cases h
 ·split at h
  ·rename_i t u
   simp only [VR] at o
   obtain ⟨r,rfl,A⟩:=o
   split at h
   ·rename_i j
    have j:=aN j
    subst j
    obtain ⟨rfl,rfl,rfl⟩:=aS h
    cases ok
    ·refine ⟨rfl,r, ?_,A⟩
     cases d<;>first|exact absurd rfl (a _)|simp [Instr.typeAssert,run_underlying b.und]
    ·refine ⟨rfl,.tuple #[r,.bool true], ?_, ?_⟩
     ·cases d<;>first|exact absurd rfl (a _)|simp [Instr.typeAssert,run_underlying b.und]
     ·simp only [VR];exact ⟨[r,.bool true],rfl,by simp only [bi,VR,PR];exact ⟨A,trivial,trivial⟩⟩
   ·rename_i j
    have k:t ≠ asserted:=by intro e;subst e;simp at j
    cases ok
    ·cases h
    ·simp only at h
     have n:=bind_some h;clear h;obtain ⟨l,q,h⟩:=n
     obtain ⟨rfl,rfl,rfl⟩:=aS h
     have f:=xC (g:=g) (m:=m) (S:=S) b q
     refine ⟨rfl,_,key _ (.inl ⟨_,_,rfl,k⟩) l f rfl, ?_⟩
     simp only [VR];exact ⟨[z,.bool false],rfl,by simp only [bi,VR,PR];exact ⟨f,trivial,trivial⟩⟩
  ·simp only [VR,PR] at o
   subst o
   cases ok
   ·cases h
   ·simp only at h
    have n:=bind_some h;clear h;obtain ⟨l,q,h⟩:=n
    obtain ⟨rfl,rfl,rfl⟩:=aS h
    have f:=xC (g:=g) (m:=m) (S:=S) b q
    refine ⟨rfl,_,key _ (.inr rfl) l f rfl, ?_⟩
    simp only [VR];exact ⟨[z,.bool false],rfl,by simp only [bi,VR,PR];exact ⟨f,trivial,trivial⟩⟩
  ·cases h
theorem sZ (M:bT ap g m S w) {rd:dE} (C:∀ b B,rd b=some B→g b=some B) {size:Nat} {x:AV} {L:Value} (f:VR g m S x L) {xs:List AV} {n:Nat} {pr:Bool} (h:MO size rd x=some (xs,n,pr)) (O:xs.length=n*size)
  {tx:Nat} (hk:((∃ s,x= .str s)∧P.underlying tx=some .string∧size=1)∨((∀ s,x ≠ .str s)∧∃ e,P.underlying tx=some (.slice e))):
  ∃ news,Src P size tx L n news w∧bi g m S xs news∧(pr=true→dQ S xs news):=by
 unfold MO at h
 split at h
 ·rename_i U V nn
  cases h
  obtain ⟨_,e,d⟩:=hk.resolve_left (by rintro ⟨⟨s,hs⟩,_⟩;cases hs)
  simp only [VR,PR] at f
  obtain ⟨a,G,rfl,W,q⟩:=f
  rcases q with ⟨rfl,_,rfl,rfl,rfl⟩|⟨b,o,vs,rfl,hp,hs⟩
  ·exact ⟨[],Src.ofNil w d 0,by simp [bi],fun _=>by simp [dQ]⟩
  ·refine ⟨vs,Src.ofSlice w d ⟨b,o,none⟩ n G vs (by rw [← wW hp,O]) (fun j u c=>by rw [Addr.add_mid];exact M.one (hs j u c).1 (hs j u c).2) ?_,bV _ hp,fun _=>hp⟩
   intro u D
   obtain ⟨j,c⟩:=List.getElem?_of_mem D
   exact (hs j u c).2
 ·cases h
  obtain ⟨_,e,d⟩:=hk.resolve_left (by rintro ⟨⟨s,hs⟩,_⟩;cases hs)
  simp only [VR,PR] at f
  subst f
  exact ⟨[],Src.ofNil w d 0,by simp [bi],fun _=>by simp [dQ]⟩
 ·rename_i s
  cases h
  obtain ⟨_,d,E⟩:=hk.resolve_right (by rintro ⟨hs,_⟩;exact hs s rfl)
  simp only [VR,PR] at f
  subst f
  subst E
  have hp:∀ s:List UInt8,dQ S (s.map fun b=>AV.int .u8 b.toNat) (s.map fun b=>Value.int .u8 b.toNat):=by
   intro s
   induction s with
   |nil=>simp [dQ]
   |cons a r ih=>simp only [List.map_cons,dQ,PR];exact ⟨trivial,ih⟩
  have i:=Src.ofString (P:=P) w d ⟨s.toArray⟩
  have X:byteCells ⟨s.toArray⟩=s.map fun b=>Value.int .u8 b.toNat:=by simp [byteCells]
  rw [X,zu] at i
  exact ⟨_,i,bV _ (hp s),fun _=>hp s⟩
 ·rename_i b ver j V
  have T:=bind_some h;clear h;obtain ⟨B,Y,h⟩:=T
  split at h
  ·rename_i p
   cases h
   simp only [Bool.and_eq_true,Bool.not_eq_true'] at p
   obtain ⟨p,y⟩:=p
   have v:B.esz ≠ iC:=fun e=>by rw [e] at y;exact absurd y (by decide)
   obtain ⟨_,e,d⟩:=hk.resolve_left (by rintro ⟨⟨s,hs⟩,_⟩;cases hs)
   simp only [VR] at f
   obtain ⟨B',z,_,_,q⟩:=f
   have A:=C b B Y
   rw [A] at z;cases z
   obtain ⟨o,rfl,Z,R,q3⟩:=q (aN p.1)
   have F:=aN p.2
   obtain ⟨cur,e',vs,rest,k,l,hp,H,I,Q⟩:=(M.blk b B A).lies
   have k:=k.cells v
   have I:=I v
   have N:=bU H
   have J:((vs.drop (j*size)).take (n*size)).length=n*size:=by
    rw [← bU (qE _ (uk _ H))];exact O
   by_cases hn:n=0
   ·subst hn
    have K:(vs.drop (j*size)).take (0*size)= []:=by simp
    refine ⟨[], ?_, ?_, ?_⟩
    ·exact Src.ofSlice w d _ 0 _ [] (by simp) (fun _ _ h=>by simp at h) (fun _ h=>by simp at h)
    ·simp [bi]
    ·intro _;simp [dQ]
   ·have t:=R (by omega)
    refine ⟨(vs.drop (j*size)).take (n*size),Src.ofSlice w d _ n _ _ J ?_ ?_,qE _ (uk _ H),fun pr=>jY _ (qy _ (hp pr))⟩
    ·intro jj u c
     rw [t,Addr.add_mid,F,ut k,l]
     rw [List.getElem?_take] at c
     split at c
     ·rw [List.getElem?_drop] at c
      rw [List.getElem?_append_left (List.getElem?_eq_some_iff.1 c).1]
      exact c
     ·cases c
    ·intro u D
     exact I u (List.mem_of_mem_drop (List.mem_of_mem_take D))
  ·cases h
 ·cases h
theorem H8:∀ (a:List Int) (s:List UInt8),a.foldl (fun (r:ByteArray) n=>r.push (UInt8.ofNat n.toNat)) ⟨s.toArray⟩=⟨(s++a.map fun n=>UInt8.ofNat n.toNat).toArray⟩
 | [],s=>by simp
 |n::a,s=>by
  simp only [List.foldl_cons]
  have e:(⟨s.toArray⟩:ByteArray).push (UInt8.ofNat n.toNat)=⟨(s++ [UInt8.ofNat n.toNat]).toArray⟩:=by simp [ByteArray.push]
  rw [e,H8 a]
  simp
theorem DY (D:iF P ap) (V:bT ap g m S w) {rd:dE} (H:∀ b B,rd b=some B→g b=some B) {s d:Nat} {ts U:TI} (N:ap.tyAt s=some ts) (O:ap.tyAt d=some U) {x v:AV} {L:Value} (F:VR g m S x L) {ups:List (Nat × aZ)} {bs:List Bool}
  (h:DX ap ts U rd x=some (v,ups,bs)) (hbs:∀ b ∈ bs,b=true):ups= []∧∃ cv,(convert s d L).run P w= .ok cv w∧VR g m S v cv:=by
 obtain ⟨i1,d1,z1,A⟩:=dO D N
 obtain ⟨i2,d2,z2,C⟩:=dO D O
 unfold DX at h
 split at h
 ·rename_i k k' n hd
  obtain ⟨rfl,rfl,rfl⟩:=aS h
  rw [C.d_eq] at hd
  have hd:=Yf hd
  subst hd
  simp only [VR,PR] at F
  subst F
  exact ⟨rfl,_,by simp [convert,run_underlying A.und,run_underlying C.und,Conv.intToInt];rfl,by simp only [VR,PR]⟩
 ·rename_i s' j i
  obtain ⟨rfl,rfl,rfl⟩:=aS h
  rw [A.d_eq] at j
  rw [C.d_eq] at i
  have j:=xO j
  have i:=xO i
  subst j;subst i
  simp only [VR,PR] at F
  subst F
  exact ⟨rfl,_,by simp [convert,run_underlying A.und,run_underlying C.und];rfl,by simp only [VR,PR]⟩
 ·rename_i x0 e j i
  have I:=bind_some h;clear h;obtain ⟨te,p,h⟩:=I
  obtain ⟨ie,de,Z,p⟩:=dO D p
  split at h
  ·cases h
  ·rename_i W xt xb t z
   have I:=bind_some h;clear h;obtain ⟨⟨xs,n,pr⟩,y,h⟩:=I
   obtain ⟨rfl,rfl,rfl⟩:=aS h
   obtain ⟨R,J⟩:=dh hbs
   obtain ⟨J,_⟩:=dh J
   rw [A.d_eq] at j
   rw [C.d_eq] at i
   have j:=gI j
   have i:=xO i
   subst j;subst i
   rw [p.d_eq] at t
   have t:=Yf t
   subst t
   have R:=aN R
   obtain ⟨f,hs,X,_⟩:=sZ (P:=P) V H F y (by omega) (tx:=s) (.inr ⟨fun s e=>z s e,e,A.und⟩)
   have E:f=(xs.map AV.toInt).map (Value.int .u8):=by
    have:∀ (xs:List AV) (f:List Value),bi g m S xs f→xs.all (chk (.int .u8))=true→f=(xs.map AV.toInt).map (Value.int .u8):=by
     intro xs
     induction xs with
     |nil=>intro f h _;cases f<;>simp [bi] at h ⊢
     | cons a r ih=>
      intro f h G
      cases f with
      |nil=>simp [bi] at h
      |cons c q=>
       simp only [bi] at h
       simp only [List.all_cons,Bool.and_eq_true] at G
       rw [List.map_cons,List.map_cons,ih q h.2 G.2]
       congr 1
       cases a<;>simp [chk] at G
       simp only [VR,PR] at h
       rw [h.1,fM G.1]
       rfl
    exact this xs f X J
   refine ⟨rfl,.string ⟨((xs.map AV.toInt).map fun n=>UInt8.ofNat n.toNat).toArray⟩, ?_, ?_⟩
   ·have hcells:=hs.cells
    have u:=hs.len w
    have o:=F
    cases L
    case slice a l c=>
     have Y:l=n:=by simpa [Builtin.lenOf] using u
     subst Y
     cases a with
     | none=>
      have K:f= []:=by simpa [Builtin.firstCells] using hcells.symm
      rw [K] at E
      have M:xs= []:=by
       have:(xs.map AV.toInt).map (Value.int .u8)= []:=E.symm
       simpa using this
      subst M
      simp [convert,run_underlying A.und,run_underlying C.und,run_underlying p.und,Conv.bytesToString]
      rfl
     | some a=>
      have Q:(loadCells a l).run P w= .ok ((xs.map AV.toInt).map (Value.int .u8)).toArray w:=by
       rw [← E];simpa [Builtin.firstCells] using hcells
      have T:=run_bytesToString (P:=P) w a l c _ Q
      rw [show ByteArray.empty=⟨([]:List UInt8).toArray⟩ from rfl,H8,List.nil_append] at T
      simp only [convert,Sem.run_bind,run_underlying A.und,run_underlying C.und,run_underlying p.und,Result.andThen_ok]
      exact T
    all_goals (simp [Builtin.lenOf] at u)
    case string s0=>
     exfalso
     cases W<;>simp [MO] at y
     case str s1=>exact z s1 rfl
     case nilS=>simp only [VR,PR] at o;cases o
     case sl a b c=>simp only [VR,PR] at o;obtain ⟨_,_,h,_⟩:=o;cases h
     case ref a b c d=>simp only [VR] at o;obtain ⟨_,_,_,⟨_,_,_,h⟩,_⟩:=o;cases h
   ·simp only [VR,PR]
    simp [List.map_map,Function.comp_def]
  ·cases h
 ·cases h
end
end AM
namespace AM
open Go
def dJ (g:dE) (ups:List (Nat × aZ)):dE:=fun b=>match az ups b with|some B=>some B|none=>g b
def jX (m:aX) (b:Nat) (x:Nat × Nat):aX:=fun c=>if c=b then x else m c
theorem iw {α:Type}:∀ (a b:List (Nat × α)) (t:Nat),az (a++b) t=match az a t with|some x=>some x|none=>az b t
 | [],b,t=>rfl
 |(u,x)::r,b,t=>by
  simp only [List.cons_append,az]
  split
  ·rfl
  ·exact iw r b t
theorem jT (ups:List (Nat × aZ)) (hp:Hp):dJ (az hp) ups=az (ups++hp):=by
 funext b;rw [iw];unfold dJ;cases az ups b<;>rfl
theorem fA (g:dE):dJ g []=g:=rfl
theorem lX (g:dE) (b:Nat) (B:aZ) (c:Nat):dJ g [(b,B)] c=if c=b then some B else g c:=by
 simp only [dJ,az]
 by_cases h:c=b
 ·subst h;simp
 ·have:Nat.beq b c=false:=by
   cases a:Nat.beq b c with
   |false=>rfl
   |true=>exact absurd (aN a).symm h
  rw [this,if_neg h]
section
variable {P:Program} {ap:AP} {g:dE} {m:aX} {S:aV} {w:World}
theorem RN.mono {g g':dE} {m a:aX} {S S':aV} {w w':World} {B:aZ} {k c:Nat} (h:RN g m S w B k c) (b:oP S S') (f:Ge g m g' a) (d:w'.heap[k]? =w.heap[k]?):RN g' a S' w' B k c:=by
 obtain ⟨⟨cur,e,vs,rest,j,i,r,n,l,q⟩,o,s⟩:=h
 exact ⟨⟨cur,e,vs,rest,j.same d,i,fun p=>dm b _ (r p),lL b f _ n,l,q⟩,o,s⟩
theorem bT.seal_lt (h:bT ap g m S w) {k o:Nat} {v:Value} (a:S k o=some v):k<w.heap.size:=Ve (h.sealed k o v a)
theorem bT.put (h:bT ap g m S w) (b:Nat) (B:aZ) (k c:Nat) {w':World}
  (j:w.heap.size≤k∨∃ B0,g b=some B0∧k=(m b).1) (hw:w.grownBy w' (some k)) (hblk:RN g m S w' B k c)
  (hge:∀ B0,g b=some B0→B.esz=B0.esz∧((B.ver=B0.ver∧(k,c)=m b)∨B0.ver<B.ver))
  (hseal:∀ o v,S k o=some v→ku w' k o=some v∧B.fro=true∧o<B.fz):
  bT ap (dJ g [(b,B)]) (jX m b (k,c)) S w'∧Fr g m S w (dJ g [(b,B)]) (jX m b (k,c)) S w':=by
 have t:Ge g m (dJ g [(b,B)]) (jX m b (k,c)):=by
  intro f B1 p
  by_cases e:f=b
  ·subst e
   obtain ⟨a,i⟩:=hge B1 p
   refine ⟨B,by rw [lX,if_pos rfl],a, ?_⟩
   rcases i with ⟨i,C⟩|i
   ·exact .inl ⟨i,by simp [jX,C]⟩
   ·exact .inr i
  ·exact ⟨B1,by rw [lX,if_neg e];exact p,rfl,.inl ⟨rfl,by simp [jX,e]⟩⟩
 have s:∀ f B1,g f=some B1→f ≠ b→(m f).1 ≠ k:=by
  intro f B1 p y e
  have r:=h.lt p
  rcases j with j|⟨B0,n,j⟩
  ·omega
  ·exact y (h.inj f b B1 B0 p n (e.trans j))
 have l:∀ k0,k0<w.heap.size→k0 ≠ k→w'.heap[k0]? =w.heap[k0]? :=fun k0 r z=>hw.block k0 r (by simpa using z)
 constructor
 ·refine ⟨?_, ?_, ?_, ?_,h.glob⟩
  ·intro f A B1 B2 d x u
   rw [lX] at d x
   by_cases a:f=b<;>by_cases i:A=b
   ·rw [a,i]
   ·rw [if_neg i] at x
    simp only [jX,a,if_true,if_neg i] at u
    exact absurd u.symm (s A B2 x i)
   ·rw [if_neg a] at d
    simp only [jX,i,if_true,if_neg a] at u
    exact absurd u (s f B1 d a)
   ·rw [if_neg a] at d
    rw [if_neg i] at x
    simp only [jX,if_neg a,if_neg i] at u
    exact h.inj f A B1 B2 d x u
  ·intro f B1 d
   rw [lX] at d
   by_cases a:f=b
   ·rw [if_pos a] at d
    cases d
    simp only [jX,if_pos a]
    exact hblk.mono (oP.refl S) t rfl
   ·rw [if_neg a] at d
    simp only [jX,if_neg a]
    exact (h.blk f B1 d).mono (oP.refl S) t (l _ (h.lt d) (s f B1 d a))
  ·intro k0 o v q
   by_cases e:k0=k
   ·subst e;exact (hseal o v q).1
   ·rw [NK (l k0 (h.seal_lt q) e)]
    exact h.sealed k0 o v q
  ·intro f B1 d o v q
   rw [lX] at d
   by_cases a:f=b
   ·rw [if_pos a] at d
    cases d
    simp only [jX,if_pos a] at q
    exact (hseal o v q).2
   ·rw [if_neg a] at d
    simp only [jX,if_neg a] at q
    exact h.own f B1 d o v q
 ·refine ⟨t,oP.refl S,hw.os,hw.tape,hw.output,hw.size, ?_, ?_,fun _ _ _ q=> .inl q⟩
  ·intro k0 r D
   refine l k0 r (fun e=> ?_)
   subst e
   rcases j with j|⟨B0,n,j⟩
   ·omega
   ·exact D b B0 n j.symm
  ·intro f B1 d
   rw [lX] at d
   by_cases a:f=b
   ·subst a
    rcases j with j|⟨B0,n,j⟩
    ·exact .inl (by simpa [jX] using j)
    ·exact .inr ⟨B0,n,by simp [jX,j]⟩
   ·rw [if_neg a] at d
    exact .inr ⟨B1,d,by simp [jX,a]⟩
end
mutual
theorem J5 {g:dE} {m:aX} {S:aV}:∀ (x:AV) {v:Value},VR g m S x v→dP x= []→PR S x v
 | .int _ _,_,p,_=>by simpa only [VR] using p
 | .bool _,_,p,_=>by simpa only [VR] using p
 | .str _,_,p,_=>by simpa only [VR] using p
 | .nilS,_,p,_=>by simpa only [VR] using p
 | .nilP,_,p,_=>by simpa only [VR] using p
 | .nilF,_,p,_=>by simpa only [VR] using p
 | .nilI,_,p,_=>by simpa only [VR] using p
 | .sl _ _ _,_,p,_=>by simpa only [VR] using p
 | .pp _ _,_,p,_=>by simpa only [VR] using p
 | .mp _ _,_,p,_=>by simpa only [VR] using p
 | .dead,_,_,_=>by simp only [PR]
 | .own _ _ _,_,p,_=>by simp only [VR] at p
 | .ref _ _ _ _,_,_,h=>by simp [dP] at h
 | .ptr _ _ _,_,_,h=>by simp [dP] at h
 | .mr _ _,_,_,h=>by simp [dP] at h
 | .agg l,_,p,h=>by
  simp only [VR] at p;simp only [PR];simp only [dP] at h
  obtain ⟨vs,e,q⟩:=p
  exact ⟨vs,e,fJ l q h⟩
 | .tup l,_,p,h=>by
  simp only [VR] at p;simp only [PR];simp only [dP] at h
  obtain ⟨vs,e,q⟩:=p
  exact ⟨vs,e,fJ l q h⟩
 | .fn f a c,_,p,h=>by
  simp only [VR] at p;simp only [PR];simp only [dP,List.append_eq_nil_iff] at h
  obtain ⟨d,b,e,q,r⟩:=p
  exact ⟨d,b,e,fJ a q h.1,fJ c r h.2⟩
 | .ifc t x,_,p,h=>by
  simp only [VR] at p;simp only [PR];simp only [dP] at h
  obtain ⟨u,e,q⟩:=p
  exact ⟨u,e,J5 x q h⟩
theorem fJ {g:dE} {m:aX} {S:aV}:∀ (l:List AV) {vs:List Value},bi g m S l vs→bP l= []→dQ S l vs
 | [],[],_,_=>by simp only [dQ]
 |x::r,v::vs,p,h=>by simp only [bi] at p;simp only [bP,List.append_eq_nil_iff] at h;simp only [dQ];exact ⟨J5 x p.1 h.1,fJ r p.2 h.2⟩
 | [],_::_,p,_=>by simp [bi] at p
 |_::_,[],p,_=>by simp [bi] at p
end
section
variable {P:Program} {ap:AP} {g:dE} {m:aX} {S:aV} {w:World}
theorem qK {α:Type} {l:List α} (h:l.isEmpty=true):l= []:=by cases l<;>simp at h ⊢
theorem bT.fresh (h:bT ap g m S w) {nid:Nat} (i:g nid=none) (B:aZ) (j:B.esz ≠ iC) (c:Nat) {w':World} {cur:Array Value} {e:TypeId} (a:w.grownBy w' none) (b:w'.heap[w.heap.size]? =some (.cells cur e (0,0)))
  (hver:B.fro=false→B.fz=0) (hfz:B.fz≤B.cells.length) {vs rest:List Value} (hc:cur.toList=vs++rest) (hp:B.pr=true→dQ S B.cells vs) (f:bi g m S B.cells vs) (h1:∀ u ∈ vs,u.oneCell'=true) (hcap:0<B.esz→cur.size=c*B.esz∧c≤maxLen):
  bT ap (dJ g [(nid,B)]) (jX m nid (w.heap.size,c)) S w'∧Fr g m S w (dJ g [(nid,B)]) (jX m nid (w.heap.size,c)) S w':=by
 refine h.put nid B w.heap.size c (.inl (Nat.le_refl _)) ⟨a.os,a.tape,a.output,a.size,fun k l _=>a.block k l (by simp)⟩ ⟨⟨cur,e,vs,rest,jr.of j b,hc,hp,f,fun _=>h1,fun d _=>hcap d⟩,hver,hfz⟩ (fun B0 d=>by rw [i] at d;cases d) ?_
 intro o v f
 have:=h.seal_lt f
 omega
theorem GY (h:bT ap g m S w) {nid:Nat} (c:g nid=none) {cells:List AV} {cv:Value} (a:bi g m S cells cv.cells.toList) (_hl:∀ x ∈ cells,oh x=true) (d:∀ u ∈ cv.cells,u.oneCell'=true) (t:TypeId):
  ∃ m' w',(newVar t cv).run P w= .ok ⟨w.heap.size,0,none⟩ w'∧bT ap (dJ g [iU nid cells 0]) m' S w'∧Fr g m S w (dJ g [iU nid cells 0]) m' S w'∧(m' nid).1=w.heap.size:=by
 have b:=h.fresh (nid:=nid) c (iU nid cells 0).2 (by show 0 ≠ iC;decide) 0 (w':=w.alloc (.cells cv.cells t)) (cur:=cv.cells) (e:=t) (World.grownBy_alloc w _ none) (heap_alloc_new w _) (fun _=>rfl) (Nat.zero_le _) (vs:=cv.cells.toList) (rest:= []) (by simp)
  (fun hp=>fJ _ a (qK hp)) a (fun u f=>d u (by simpa using f)) (fun h=>by simp [iU] at h)
 refine ⟨_,_, ?_,b.1,b.2,by simp [jX]⟩
 simp [newVar,newRow]
theorem QN {b:aX} {nid:Nat} {cells:List AV} {a k:Nat} (c:(b nid).1=k):VR (dJ g [iU nid cells a]) b S (.ptr nid 0 0) (.pointer (some ⟨k,0,none⟩)):=by
 simp only [VR]
 refine ⟨(iU nid cells a).2, ?_,Nat.zero_le _,⟨_,_,rfl⟩,fun _=>by rw [c]⟩
 show dJ g [(nid,(iU nid cells a).2)] nid=_
 rw [lX,if_pos rfl]
theorem JL (h:bT ap g m S w) {rd:dE} (J:∀ b B,rd b=some B→g b=some B) {t:Nat} {L:TI} {i:TypeInfo} {d:TypeDesc} {z:Value} (M:Cm P t L i d z) {p x v:AV} {K c:Value} (hp:VR g m S p K) (V:VR g m S x c)
  {ups:List (Nat × aZ)} {bs:List Bool} (hs:Ph L rd p x=some (v,ups,bs)) (hbs:∀ b ∈ bs,b=true):
  v= .dead∧∃ m' w',(Instr.storeAt t K c).run P w= .ok () w'∧bT ap (dJ g ups) m' S w'∧Fr g m S w (dJ g ups) m' S w':=by
 unfold Ph at hs
 split at hs
 ·rename_i b ver a
  have X:=bind_some hs;clear hs;obtain ⟨B,hB,hs⟩:=X
  simp only at hs
  split at hs
  ·rename_i R
   simp only [Bool.and_eq_true,Bool.not_eq_true'] at R
   obtain ⟨⟨⟨⟨c1,W⟩,c3⟩,c4⟩,U⟩:=R
   have l:B.esz ≠ iC:=fun e=>by rw [e] at U;exact absurd U (by decide)
   cases hs
   have j:=J b B hB
   have G:=aN c1
   have O:=aN c3
   have N:=fP (hbs _ (List.mem_singleton.2 rfl))
   simp only [VR] at hp
   obtain ⟨B',I,_,_,q⟩:=hp
   rw [j] at I;cases I
   have q:=q G
   subst q
   obtain ⟨A,H⟩:=DD V (fun y Y=>List.all_eq_true.1 c4 y Y)
   obtain ⟨⟨cur,e,vs,rest,k1,k2,k3,k4,k5,k6⟩,k7,k8⟩:=h.blk b B j
   have k1:=k1.cells l
   have k5:=k5 l
   have r:=bU A
   have Q:=bU k4
   have C:c.cells.size=i.size:=by simp only [Array.length_toList] at r;rw [← M.size];omega
   have D:cur.toList.length=vs.length+rest.length:=by rw [k2];simp
   have E:=run_storeCells_at P (m b).1 a e c.cells.toList 0 cur w k1 (by simp only [Array.length_toList] at r D ⊢;omega) (fun u f=>H u (by simpa using f))
   simp only [Nat.add_zero] at E
   have hnewl:(cur.toList.take a++c.cells.toList++cur.toList.drop (a+c.cells.toList.length))=(vs.take a++c.cells.toList++vs.drop (a+c.cells.toList.length))++rest:=by
    rw [k2,List.take_append_of_le_length (by omega),List.drop_append_of_le_length (by omega)]
    simp [List.append_assoc]
   have n:=h.put b {B with cells:=iE B.cells a x.cells,pr:=B.pr && (bP x.cells).isEmpty} (m b).1 (m b).2 (w':=w.setRow (m b).1 (cur.toList.take a++c.cells.toList++cur.toList.drop (a+c.cells.toList.length)).toArray)
    (.inr ⟨B,j,rfl⟩) ⟨rfl,rfl,rfl,by simp,fun k _ hk=>setRow_other w _ k _ (fun e=>hk (by rw [e]))⟩
    ⟨⟨_,e,vs.take a++c.cells.toList++vs.drop (a+c.cells.toList.length),rest,jr.of l (setRow_heap w _ cur _ e _ k1),by rw [List.toList_toArray,hnewl],fun s=>by
      simp only [Bool.and_eq_true] at s
      exact YJ (k3 s.1) (fJ _ A (qK s.2)),PI k4 A,by
      intro _ u f
      rcases List.mem_append.1 f with f|f
      ·rcases List.mem_append.1 f with f|f
       ·exact k5 u (List.mem_of_mem_take f)
       ·exact H u (by simpa using f)
      ·exact k5 u (List.mem_of_mem_drop f),fun F _=>by
      obtain ⟨s1,Z⟩:=k6 F l
      refine ⟨?_,Z⟩
      rw [← s1,List.size_toArray]
      simp only [List.length_append,List.length_take,List.length_drop,Array.length_toList] at r D ⊢
      omega⟩,k7,by
     have:(iE B.cells a x.cells).length=B.cells.length:=by simp only [iE,List.length_append,List.length_take,List.length_drop];omega
     simp only [this];exact k8⟩
    (fun B0 T=>by rw [j] at T;cases T;exact ⟨rfl,.inl ⟨rfl,rfl⟩⟩)
    (fun o v hv=>by
     have:=(h.own b B j o v hv).1
     rw [W] at this;cases this)
   refine ⟨rfl,_,_, ?_,n.1,n.2⟩
   have hn:¬ (c.cells.size ≠ i.size):=by simp [C]
   simp [Instr.storeAt,Instr.sureAddr,storeVar,Go.sizeOf,typeInfo,M.info,C,E]
  ·cases hs
 ·cases hs
end
end AM
namespace AM
open Go
section
variable {P:Program} {ap:AP} {g:dE} {m:aX} {S:aV} {w:World}
theorem nO (g:dE) (b:Nat) (B:aZ):dJ g [(b,B)] b=some B:=by rw [lX,if_pos rfl]
theorem Ei {w w':World} (h:w.grownBy w' none) (r:Option Nat):w.grownBy w' r:=⟨h.os,h.tape,h.output,h.size,fun k a _=>h.block k a (by simp)⟩
theorem nY (w:World) (o:Obj):w.grownBy (w.drew.alloc o) none:=⟨rfl,rfl,rfl,by simp,fun k a _=>Go.RowKit.Below.heap_alloc w.drew o k a⟩
theorem wF {t tx ty e:TypeId} {i:TypeInfo} (d:P.underlying t=some (.slice e)) (c:P.info? e=some i) {x:Value} {a:List Value} (hs:Src P i.size tx x 0 a w):
  (Builtin.append_ #[t,tx] ty #[.slice none 0 0,x]).run P w= .ok (.slice none 0 0) w:=by
 rcases hs.kind with ⟨e',b⟩|b<;>simp [Builtin.append_,run_underlying d,run_underlying b,Go.sizeOf,typeInfo,c,hs.len,hs.cells]
theorem wG {t tx ty e:TypeId} {i:TypeInfo} (f:P.underlying t=some (.slice e)) (d:P.info? e=some i) {k o sLen sCap n:Nat} {x:Value} {a:List Value} (hs:Src P i.size tx x n a w) (hroom:sLen+n≤sCap)
  {cur:Array Value} {e':TypeId} (hk:w.heap[k]? =some (.cells cur e' (0,0))) (hfit:o+sLen*i.size+a.length≤cur.size):
  (Builtin.append_ #[t,tx] ty #[.slice (some ⟨k,o,none⟩) sLen sCap,x]).run P w= .ok (.slice (some ⟨k,o,none⟩) (sLen+n) sCap) (w.setRow k (cur.toList.take (o+sLen*i.size)++a++cur.toList.drop (o+sLen*i.size+a.length)).toArray):=by
 have b:=run_storeCells_at P k (o+sLen*i.size) e' a 0 cur w hk (by simpa using hfit) hs.one
 simp only [Nat.add_zero] at b
 rcases hs.kind with ⟨h,c⟩|c<;>simp [Builtin.append_,run_underlying f,run_underlying c,Go.sizeOf,typeInfo,d,hs.len,hroom,hs.cells,Addr.add_mid,b]
theorem A7 {n a bytes:Nat} (h:a<n) (c:n≤Ic) (b:bytes≤128):Builtin.nextslicecap n a*bytes≤281474976710656:=by
 refine growslice_fits h ?_
 have:n*bytes≤Ic*128:=Nat.mul_le_mul c b
 have e:Ic*128=140737488355328:=by decide
 omega
theorem zo:Ic=1099511627776:=by decide
theorem Ce {t tx ty e:TypeId} {i:TypeInfo} (f:P.underlying t=some (.slice e)) (c:P.info? e=some i) {x:Value} {base:Option Addr} {sLen sCap:Nat} (hs:Src P i.size tx x 0 [] w) (d:sLen≤sCap):
  (Builtin.append_ #[t,tx] ty #[.slice base sLen sCap,x]).run P w= .ok (.slice base sLen sCap) w:=by
 cases base with
 |none=>rcases hs.kind with ⟨e',b⟩|b<;>simp [Builtin.append_,run_underlying f,run_underlying b,Go.sizeOf,typeInfo,c,hs.len,hs.cells,d]
 |some a=>rcases hs.kind with ⟨e',b⟩|b<;>simp [Builtin.append_,run_underlying f,run_underlying b,Go.sizeOf,typeInfo,c,hs.len,hs.cells,d,storeCells]
theorem wK (h:bT ap g m S w) {rd:dE} (M:∀ b B,rd b=some B→g b=some B) {nid:Nat} (hn:g nid=none) {t tx e:Nat} {ti l:TI} {i G:TypeInfo} {z N:Value} {de:TypeDesc} (ht:Cm P t ti i (.slice e) z) (y:Cm P e l G de N)
  {s x v:AV} {cs cx:Value} (hvs:VR g m S s cs) (hvx:VR g m S x cx)
  (hk:((∃ s,x= .str s)∧P.underlying tx=some .string∧l.size=1)∨((∀ s,x ≠ .str s)∧∃ e,P.underlying tx=some (.slice e)))
  {em:Bool} (Q:s= .nilS→∃ n,xf x=some n∧Nat.beq n 0=em)
  {ups:List (Nat × aZ)} {bs:List Bool} (E:yc nid l rd em s x=some (v,ups,bs)) (r:∀ b ∈ bs,b=true) (ty:Nat):
  ∃ cv m' w',(Builtin.append_ #[t,tx] ty #[cs,cx]).run P w= .ok cv w'∧bT ap (dJ g ups) m' S w'∧Fr g m S w (dJ g ups) m' S w'∧VR (dJ g ups) m' S v cv:=by
 have hcount:∀ xs n pr,MO l.size rd x=some (xs,n,pr)→xf x=some n:=by
  intro xs n pr a
  unfold MO at a
  split at a
  ·cases a;rfl
  ·cases a;rfl
  ·cases a;rfl
  ·have hq:=bind_some a;clear a;obtain ⟨B,hB,a⟩:=hq
   split at a
   ·cases a;rfl
   ·cases a
  ·cases a
 unfold yc at E
 have hq:=bind_some E;clear E;obtain ⟨⟨xs,n,pr⟩,a,E⟩:=hq
 simp only at E
 split at E
 ·cases E
 ·rename_i U
  simp only [Bool.and_eq_true] at U
  have hsz:=fQ U.1
  have hby:=fP U.2
  have d:l.size=G.size:=y.size
  have T:l.size ≠ iC:=fun e=>by have:=y.small;omega
  have hby':l.bytes=G.bytes:=y.bytes
  have hzs:N.cells.size=G.size:=y.zsize
  split at E
  ·
   obtain ⟨n',hc',Q⟩:=Q rfl
   rw [hcount _ _ _ a] at hc'
   cases hc'
   simp only [VR,PR] at hvs
   subst hvs
   split at E
   ·
    obtain ⟨rfl,rfl,rfl⟩:=aS E
    have O:n=0:=aN Q
    subst O
    have hl:=aN (r _ (List.mem_singleton.2 rfl))
    obtain ⟨c,hs,hv,hp⟩:=sZ (P:=P) h M hvx a hl hk
    rw [d] at hs
    exact ⟨_,m,w,wF ht.und y.info hs,by rw [fA];exact h,by rw [fA];exact Fr.refl _ _ _ _,by simp [VR,PR]⟩
   ·
    cases E
    obtain ⟨b1,r⟩:=dh r
    obtain ⟨b2,_⟩:=dh r
    have hl:=aN b1
    have hroom:=fP b2
    have O:n ≠ 0:=by intro e;subst e;simp at Q
    obtain ⟨c,hs,hv,hp⟩:=sZ (P:=P) h M hvx a hl hk
    rw [d] at hs
    have f:=run_append_grow_src w t tx ty e G N ht.und y.info y.zero none 0 0 [] (run_firstCells_none w.drew _ _ _ _) cx n c hs (by omega) (by rw [zo] at hroom;omega) (A7 (by omega) (by simpa using hroom) (by omega))
    have W:n≤grownCap w n 0 e:=grownCap_ge _ _ _ _
    have Z:grownCap w n 0 e≤maxLen:=grownCap_le_maxLen _ _ _ _ (by rw [zo] at hroom;simp only [maxLen];omega)
    simp only [Nat.zero_add] at f
    have hf:=h.fresh (nid:=nid) hn ⟨xs,0,false,0,l.size,pr⟩ T (grownCap w n 0 e) (cur:=([]++c).toArray++Builtin.zeroCells N.cells (grownCap w n 0 e - n)) (e:=e) (nY w _) (heap_alloc_new w.drew _) (fun _=>rfl) (Nat.zero_le _)
     (vs:=c) (rest:=(Builtin.zeroCells N.cells (grownCap w n 0 e - n)).toList) (by simp) hp hv hs.one (fun _=> ⟨by
      simp only [Array.size_append,List.size_toArray,List.nil_append,size_zeroCells,hs.newsLen,hzs,d]
      rw [← Nat.add_mul];congr 1;omega,Z⟩)
    refine ⟨_,_,_,f,hf.1,hf.2, ?_⟩
    simp only [VR]
    refine ⟨_,nO _ _ _,Nat.le_refl _,⟨_,_,_,rfl⟩,fun _=> ⟨0, ?_, ?_, ?_,hsz,T⟩⟩
    ·simp [jX]
    ·simpa [jX] using W
    ·simp
  ·rename_i b ver mN
   have hq:=bind_some E;clear E;obtain ⟨B,hB,E⟩:=hq
   split at E
   ·rename_i F
    simp only [Bool.and_eq_true,Bool.not_eq_true'] at F
    have hver:=aN F.1.1
    have R:=aN F.1.2
    have A:B.esz ≠ iC:=fun e=>by rw [e] at F;exact absurd F.2 (by decide)
    cases E
    obtain ⟨b1,r⟩:=dh r
    obtain ⟨b2,r⟩:=dh r
    obtain ⟨b3,r⟩:=dh r
    obtain ⟨b4,_⟩:=dh r
    have hl:=aN b1
    have hroom:=fP b2
    have hfit:=fP b3
    have D:=M b B hB
    simp only [VR] at hvs
    obtain ⟨B',hB',_,_,q⟩:=hvs
    rw [D] at hB';cases hB'
    obtain ⟨o,rfl,hcap,ho,H,hnz1⟩:=q hver
    simp only [Nat.zero_add,Nat.sub_zero,Nat.zero_mul] at hcap ho ⊢
    obtain ⟨c,hs,hv,hp⟩:=sZ (P:=P) h M hvx a hl hk
    rw [d] at hs
    have hbk:=h.blk b B D
    obtain ⟨⟨cur,e',vs,rest,k1,k2,k3,k4,k5,k6⟩,k7,k8⟩:=hbk
    have k1:=k1.cells A
    have k5:=k5 A
    obtain ⟨s1,s2⟩:=k6 H A
    have hvl:=bU k4
    have hcl:cur.toList.length=vs.length+rest.length:=by rw [k2];simp
    simp only [Array.length_toList] at hcl
    have hfz:B.fz≤mN*l.size:=by
     cases hf:B.fro with
     |false=>rw [k7 hf];exact Nat.zero_le _
     |true=>simp [hf] at b4;exact fP (by simpa using b4)
    have holds:dQ S (B.cells.take (mN*l.size)) (vs.take (mN*l.size))∨B.pr=false:=by
     cases hp:B.pr with
     |false=>exact .inr rfl
     |true=>exact .inl (jY _ (k3 hp))
    have K:(vs.take (mN*l.size)).length=mN*G.size:=by rw [List.length_take,d] at*;omega
    have V:bi g m S (B.cells.take (mN*l.size)++xs) (vs.take (mN*l.size)++c):=gK (qE _ k4) hv
    have X:(B.pr && pr)=true→dQ S (B.cells.take (mN*l.size)++xs) (vs.take (mN*l.size)++c):=by
     intro hh
     simp only [Bool.and_eq_true] at hh
     exact nS (jY _ (k3 hh.1)) (hp hh.2)
    have h1:∀ u ∈ vs.take (mN*l.size)++c,u.oneCell'=true:=by
     intro u C
     rcases List.mem_append.1 C with C|C
     ·exact k5 u (List.mem_of_mem_take C)
     ·exact hs.one u C
    have L:B.fz≤(B.cells.take (mN*l.size)++xs).length:=by
     rw [List.length_append,List.length_take];omega
    by_cases hrm:mN+n≤(m b).2
    ·
     by_cases hc0:(m b).2=0
     ·have hm0:mN=0:=by omega
      have O:n=0:=by omega
      subst hm0;subst O
      have hnews:c= []:=by have:=hs.newsLen;simpa using this
      subst hnews
      have f:=Ce (P:=P) (w:=w) (ty:=ty) (base:=some ⟨(m b).1,o,none⟩) (sLen:=0) (sCap:=(m b).2) ht.und y.info hs (by omega)
      have p:=h.put b {B with cells:=B.cells.take (0*l.size)++xs,ver:=ver+1,pr:=B.pr && pr} (m b).1 (m b).2 (w':=w) (.inr ⟨B,D,rfl⟩) ⟨rfl,rfl,rfl,Nat.le_refl _,fun _ _ _=>rfl⟩
       ⟨⟨cur,e',_,vs.drop (0*l.size)++rest,jr.of A k1,by rw [k2];simp,X,V,fun _=>h1,k6⟩,k7,L⟩ (fun B0 I=>by rw [D] at I;cases I;exact ⟨rfl,.inr (by simp only;omega)⟩)
       (fun o' u C=> ⟨h.sealed _ _ _ C,(h.own b B D o' u C)⟩)
      refine ⟨_,_,_,f,p.1,p.2, ?_⟩
      simp only [VR]
      refine ⟨_,nO _ _ _,Nat.le_refl _,⟨_,_,_,rfl⟩,fun _=> ⟨o,by simp [jX],by simp,by simp [jX,hc0],H,A⟩⟩
     ·have Y:o=0:=ho (by omega)
      subst Y
      have hnl:=hs.newsLen
      have hbig:mN*G.size+n*G.size≤(m b).2*G.size:=by rw [← Nat.add_mul];exact Nat.mul_le_mul_right _ hrm
      have hcs:cur.size=(m b).2*G.size:=by rw [s1,R,d]
      have f:=wG (P:=P) (w:=w) (ty:=ty) (o:=0) ht.und y.info hs hrm k1 (by simp only [Nat.zero_add];omega)
      simp only [Nat.zero_add] at f
      have hlist:cur.toList.take (mN*G.size)=vs.take (mN*l.size):=by rw [k2,d,List.take_append_of_le_length (by rw [d] at hfit;omega)]
      have p:=h.put b {B with cells:=B.cells.take (mN*l.size)++xs,ver:=ver+1,pr:=B.pr && pr} (m b).1 (m b).2 (w':=w.setRow (m b).1 (cur.toList.take (mN*G.size)++c++cur.toList.drop (mN*G.size+c.length)).toArray)
       (.inr ⟨B,D,rfl⟩) ⟨rfl,rfl,rfl,by simp,fun k _ hk=>setRow_other w _ k _ (fun e=>hk (by rw [e]))⟩
       ⟨⟨_,e',_,cur.toList.drop (mN*G.size+c.length),jr.of A (setRow_heap w _ cur _ e' _ k1),by rw [hlist],X,V,fun _=>h1,fun _ _=> ⟨by
        rw [← s1,List.size_toArray]
        simp only [List.length_append,List.length_take,List.length_drop,Array.length_toList]
        omega,s2⟩⟩,k7,L⟩ (fun B0 I=>by rw [D] at I;cases I;exact ⟨rfl,.inr (by simp only;omega)⟩)
       (fun o' u C=>by
        obtain ⟨f1,f2⟩:=h.own b B D o' u C
        refine ⟨?_,f1,f2⟩
        have:=h.sealed _ _ _ C
        cases J:u.oneCell' with
        |false=>
         obtain ⟨_,_,hm,_⟩:=vJ this J
         rw [k1] at hm;cases hm
        |true=>
        have this:=zQ this J
        rw [ut k1] at this
        refine (jr.of A (setRow_heap w _ cur _ e' _ k1)).get ?_ (fun _=>J)
        simp only [List.append_assoc]
        rw [List.getElem?_append_left (by simp only [List.length_take,Array.length_toList];rw [d] at hfz;omega),List.getElem?_take_of_lt (by rw [d] at hfz;omega)]
        exact this)
      refine ⟨_,_,_,f,p.1,p.2, ?_⟩
      simp only [VR]
      refine ⟨_,nO _ _ _,Nat.le_refl _,⟨_,_,_,rfl⟩,fun _=> ⟨0,by simp [jX],by simpa [jX] using hrm,by simp,H,A⟩⟩
    ·
     have hold:(Builtin.firstCells G.size mN (.slice (some ⟨(m b).1,o,none⟩) mN (m b).2)).run P w.drew= .ok (vs.take (mN*l.size)).toArray w.drew:=by
      refine run_firstCells_some w.drew G.size mN ⟨(m b).1,o,none⟩ mN _ _ K ?_
      intro j u C
      have hjl:=(List.getElem?_eq_some_iff.1 C).1
      rw [K] at hjl
      have hm0:0<mN:=by
       rcases Nat.eq_zero_or_pos mN with I|I
       ·subst I;simp at hjl
       ·exact I
      have Y:o=0:=ho (by omega)
      subst Y
      rw [Addr.add_mid,Nat.zero_add,ut (w:=w.drew) (j:=j) k1,k2]
      rw [List.getElem?_take] at C
      split at C
      ·rw [List.getElem?_append_left (List.getElem?_eq_some_iff.1 C).1];exact C
      ·cases C
     have f:=run_append_grow_src w t tx ty e G N ht.und y.info y.zero (some ⟨(m b).1,o,none⟩) mN (m b).2 _ hold cx n c hs (by omega) (by rw [zo] at hroom;omega) (A7 (by omega) hroom (by omega))
     have W:mN+n≤grownCap w (mN+n) (m b).2 e:=grownCap_ge _ _ _ _
     have Z:grownCap w (mN+n) (m b).2 e≤maxLen:=grownCap_le_maxLen _ _ _ _ (by rw [zo] at hroom;simp only [maxLen];omega)
     have p:=h.put b {B with cells:=B.cells.take (mN*l.size)++xs,ver:=ver+1,pr:=B.pr && pr} w.heap.size (grownCap w (mN+n) (m b).2 e) (.inl (Nat.le_refl _))
      (Ei (nY w (.cells ((vs.take (mN*l.size)++c).toArray++Builtin.zeroCells N.cells (grownCap w (mN+n) (m b).2 e - (mN+n))) e)) _)
      ⟨⟨(vs.take (mN*l.size)++c).toArray++Builtin.zeroCells N.cells (grownCap w (mN+n) (m b).2 e - (mN+n)),e,_,(Builtin.zeroCells N.cells (grownCap w (mN+n) (m b).2 e - (mN+n))).toList,jr.of A (heap_alloc_new w.drew _),by simp,X,V,fun _=>h1,fun _ _=> ⟨by
       simp only [Array.size_append,List.size_toArray,List.length_append,size_zeroCells,hs.newsLen,hzs]
       rw [K,R,d,← Nat.add_mul,← Nat.add_mul];congr 1;omega,Z⟩⟩,k7,L⟩ (fun B0 I=>by rw [D] at I;cases I;exact ⟨rfl,.inr (by simp only;omega)⟩)
      (fun o' u C=>absurd (h.seal_lt C) (Nat.lt_irrefl _))
     refine ⟨_,_,_,f,p.1,p.2, ?_⟩
     simp only [VR]
     refine ⟨_,nO _ _ _,Nat.le_refl _,⟨_,_,_,rfl⟩,fun _=> ⟨0,by simp [jX],by simpa [jX] using W,by simp,H,A⟩⟩
   ·cases E
  ·cases E
end
end AM
namespace AM
open Go
theorem BK (n:Nat) (z:List AV):(f_ n z).length=n*z.length:=by simp [f_]
theorem Ub (n:Nat) (z:List AV):f_ (n+1) z=z++f_ n z:=by simp [f_,List.replicate_succ]
theorem Mc:∀ (n:Nat) (z:List AV) (i:Nat),i<n*z.length→(f_ n z)[i]? =z[i % z.length]?
 |0,z,i,h=>by simp at h
 | n+1,z,i,h=>by
  rw [Ub]
  by_cases a:i<z.length
  ·rw [List.getElem?_append_left a,Nat.mod_eq_of_lt a]
  ·have a:z.length≤i:=by omega
   rw [List.getElem?_append_right a,Mc n z (i - z.length) (by rw [Nat.add_mul,Nat.one_mul] at h;omega)]
   congr 1
   rw [← Nat.mod_eq_sub_mod a]
section
variable {P:Program} {ap:AP} {g:dE} {m:aX} {S:aV} {w:World}
theorem DC:∀ {l:List AV} {vs:List Value},l.length=vs.length→(∀ (i:Nat) x v,l[i]? =some x→vs[i]? =some v→VR g m S x v)→bi g m S l vs
 | [],[],_,_=>by simp [bi]
 |x::r,v::vs,hl,h=>by
  simp only [bi]
  exact ⟨h 0 x v rfl rfl,DC (by simpa using hl) fun i x v a b=>h (i+1) x v (by simpa using a) (by simpa using b)⟩
 | [],_::_,h,_=>by simp at h
 |_::_,[],h,_=>by simp at h
theorem Af (z:Array Value) (n:Nat):(madeCells z n).toList=(List.range n).map fun i=>z[i % z.size]! :=by simp [madeCells]
theorem wP {t:Nat} {h:TI} {i:TypeInfo} {d:TypeDesc} {z:Value} (c:Cm P t h i d z) (n:Nat):bi g m S (f_ n h.zero) (madeCells z.cells (n*i.size)).toList:=by
 have o:=qF (g:=g) (m:=m) (S:=S) c
 have a:=bU o
 simp only [Array.length_toList,c.zsize] at a
 refine DC (by rw [BK,a,Array.length_toList,size_madeCells]) ?_
 intro j x v f e
 have k:j<n*i.size:=by
  have:=(List.getElem?_eq_some_iff.1 f).1
  rw [BK,a] at this;exact this
 rw [Mc n h.zero j (by rw [a];exact k),a] at f
 rw [Af,c.zsize,List.getElem?_map,List.getElem?_range k] at e
 simp only [Option.map_some,Option.some.injEq] at e
 obtain ⟨q,b,p⟩:=rJ o _ f
 have l:j % i.size<z.cells.size:=by rw [c.zsize];exact Nat.mod_lt _ c.pos
 simp only [Array.getElem?_toList] at b
 rw [getElem!_pos z.cells _ l] at e
 rw [Array.getElem?_eq_getElem l] at b
 cases b
 rw [← e];exact p
theorem Ia {n:Nat} {z:List AV} (h:∀ x ∈ z,oh x=true):∀ x ∈ f_ n z,oh x=true:=by
 intro x a
 simp only [f_,List.mem_flatten,List.mem_replicate] at a
 obtain ⟨l,⟨_,rfl⟩,a⟩:=a
 exact h x a
theorem CB:∀ {l:List AV} {vs:List Value},bi g m S l vs→(∀ x ∈ l,oh x=true)→∀ u ∈ vs,u.oneCell'=true
 | [],[],_,_=>by simp
 |x::r,v::vs,h,hl=>by
  simp only [bi] at h
  intro u a
  rcases List.mem_cons.1 a with rfl|a
  ·exact Nz h.1 (hl x (by simp))
  ·exact CB h.2 (fun y b=>hl y (by simp [b])) u a
 | [],_::_,h,_=>by simp [bi] at h
 |_::_,[],h,_=>by simp [bi] at h
theorem Jg {xs vs:List AV} {a:Nat} {x:AV} (h:x ∈ iE xs a vs):x ∈ xs∨x ∈ vs:=by
 simp only [iE,List.mem_append] at h
 rcases h with (h|h)|h
 ·exact .inl (List.mem_of_mem_take h)
 ·exact .inr h
 ·exact .inl (List.mem_of_mem_drop h)
theorem Eb:∀ {ps:List (Nat × Nat × AV)} {cells cells':List AV},wM cells ps=some cells'→(∀ x ∈ cells,oh x=true)→∀ x ∈ cells',oh x=true
 | [],cells,cells',h,hl=>by simp [wM] at h;subst h;exact hl
 | (off,size,v)::r,cells,cells',h,hl=>by
  simp only [wM] at h
  split at h
  ·rename_i b
   simp only [Bool.and_eq_true] at b
   refine Eb h fun x a=> ?_
   rcases Jg a with a|a
   ·exact hl x a
   ·exact List.all_eq_true.1 b.2 x a
  ·cases h
theorem QV {nid:Nat} {cells:List AV} {a k c n:Nat} (b:n≤c) (hp:0<a) (d:a ≠ iC):VR (dJ g [iU nid cells a]) (jX m nid (k,c)) S (.ref nid 0 0 n) (.slice (some ⟨k,0,none⟩) n c):=by
 simp only [VR]
 refine ⟨_,nO _ _ _,Nat.zero_le _,⟨_,_,_,rfl⟩,fun _=> ⟨0,by simp [jX],by simpa [jX] using b,by simp,hp,d⟩⟩
theorem sU:∀ (a b:List AV),bP (a++b)=bP a++bP b
 | [],b=>by simp [bP]
 |x::r,b=>by simp [bP,sU r b]
theorem H_ (z:List AV) (h:bP z= []):∀ n,bP (f_ n z)= []
 |0=>by simp [f_,bP]
 |n+1=>by
  have a:=H_ z h n
  simp only [f_,List.replicate_succ,List.flatten_cons,sU,h,List.nil_append] at a ⊢
  exact a
theorem OI (nid n a:Nat) (z:List AV) (h:(bP z).isEmpty=true):(nid,(⟨f_ n z,0,false,0,a,true⟩:aZ))=iU nid (f_ n z) a:=by
 have b:bP z= []:=by simpa using h
 simp [iU,H_ z b n]
theorem Ag (E:iF P ap) (h:bT ap g m S w) {nid:Nat} (R:g nid=none) {t:Nat} {H:TI} {i:TypeInfo} {d:TypeDesc} {z:Value} (I:Cm P t H i d z) {l c:AV} {cl N:Value} (O:VR g m S l cl) (M:VR g m S c N)
  {v:AV} {ups:List (Nat × aZ)} {bs:List Bool} (k:xA ap nid H l c=some (v,ups,bs)) (j:∀ b ∈ bs,b=true):
  ∃ cv m' w',(Instr.makeSlice t cl N).run P w= .ok cv w'∧bT ap (dJ g ups) m' S w'∧Fr g m S w (dJ g ups) m' S w'∧VR (dJ g ups) m' S v cv:=by
 unfold xA at k
 split at k
 ·rename_i e U l V c hd
  have Q:=bind_some k;clear k;obtain ⟨r,a,k⟩:=Q
  obtain ⟨n,W,y,a⟩:=dO E a
  split at k
  ·rename_i f
   simp only [Bool.and_eq_true] at f
   have G:=f.2
   have f:=f.1
   have p:=fQ f.1.1
   have u:=fP f.2
   rw [OI _ _ _ _ G] at k
   cases k
   obtain ⟨s,j⟩:=dh j
   obtain ⟨B,j⟩:=dh j
   obtain ⟨J,_⟩:=dh j
   have s:0≤l:=of_decide_eq_true s
   have B:l=c:=of_decide_eq_true B
   have J:l≤2^40:=of_decide_eq_true J
   subst B
   simp only [VR,PR] at O M
   subst O;subst M
   rw [I.d_eq] at hd
   have hd:=gI hd
   subst hd
   have q:(n.bytes:Int)*l≤281474976710656:=by
    have A:(n.bytes:Int)≤128:=by rw [← a.bytes];exact_mod_cast u
    have L:(n.bytes:Int)*l≤128*l:=Int.mul_le_mul_of_nonneg_right A s
    have T:(2:Int)^40=1099511627776:=by decide
    omega
   have F:l≤9223372036854775807:=by
    have T:(2:Int)^40=1099511627776:=by decide
    omega
   have o:=run_make (P:=P) w t e n y I.und a.info a.zero U V l l s (Int.le_refl _) q F
   have D:bi g m S (f_ l.toNat r.zero) (madeCells y.cells (l.toNat*n.size)).toList:=wP a _
   have C:∀ x ∈ f_ l.toNat r.zero,oh x=true:=Ia a.zleaf
   have K:=h.fresh (nid:=nid) R (iU nid (f_ l.toNat r.zero) r.size).2 (by have A:=a.small;have L:=a.size;show r.size ≠ iC;omega) l.toNat (w':=w.alloc (.cells (madeCells y.cells (l.toNat*n.size)) e)) (World.grownBy_alloc w _ none) (heap_alloc_new w _) (fun _=>rfl) (Nat.zero_le _)
    (rest:= []) (by rw [List.append_nil]) (fun hp=>fJ _ D (qK hp)) D (CB D C) (fun _=> ⟨by rw [size_madeCells];simp [iU,a.size],by simp only [maxLen];omega⟩)
   refine ⟨_,_,_,o,K.1,K.2, ?_⟩
   exact QV (Nat.le_refl _) p (by have A:=a.small;have L:=a.size;omega)
  ·cases k
 ·cases k
theorem FH {t e:TypeId} {i:TypeInfo} {z:Value} (j:P.underlying t=some (.slice e)) (c:P.info? e=some i) (d:i.zero=some z) {len:Nat} (b:len*i.size≤2^24) (h:len*i.size ≠ 0) {parts:Array (Nat × Value)} {cells:Array Value}
  (hf:Instr.fill (fun f=>some (f*i.size,i.size)) (madeCells z.cells (len*i.size)) parts.toList=some cells):
  (Instr.buildSlice t len parts).run P w= .ok (.slice (some ⟨w.heap.size,0,none⟩) len len) (w.alloc (.cells cells e)):=by
 have a:¬ (len*i.size>2^24):=by omega
 unfold madeCells at hf
 simp only [Instr.buildSlice,Sem.run_bind,run_underlying j,Result.andThen_ok]
 simp [Go.sizeOf,typeInfo,c,zeroValue,d,h,newRow]
 rw [if_neg (by simpa using a)]
 simp [hf]
theorem Cf {t e:TypeId} {i:TypeInfo} (d:P.underlying t=some (.slice e)) (a:P.info? e=some i) {len:Nat} (c:len*i.size=0) {parts:Array (Nat × Value)} {cells:Array Value}
  (hf:Instr.fill (fun b=>some (b*i.size,i.size)) #[] parts.toList=some cells):
  (Instr.buildSlice t len parts).run P w= .ok (.slice (some ⟨w.heap.size,0,none⟩) len len) (w.alloc (.cells cells e)):=by
 simp [Instr.buildSlice,run_underlying d,Go.sizeOf,typeInfo,a,c,newRow,Array.range_zero',hf]
theorem yj (B:iF P ap) (h:bT ap g m S w) {nid:Nat} (J:g nid=none) {t:Nat} {F:TI} {i:TypeInfo} {d:TypeDesc} {z:Value} (r:Cm P t F i d z) {len:Nat} {ps:List (Nat × AV)} {qs:Array (Nat × Value)} (I:xY g m S ps qs.toList)
  {v:AV} {ups:List (Nat × aZ)} {bs:List Bool} (b:ul ap nid F len ps=some (v,ups,bs)):
  ∃ cv m' w',(Instr.buildSlice t len qs).run P w= .ok cv w'∧bT ap (dJ g ups) m' S w'∧Fr g m S w (dJ g ups) m' S w'∧VR (dJ g ups) m' S v cv:=by
 unfold ul at b
 split at b
 ·rename_i e hd
  have k:=bind_some b;clear b;obtain ⟨o,a,b⟩:=k
  obtain ⟨A,M,H,a⟩:=dO B a
  split at b
  ·rename_i f
   simp only [Bool.and_eq_true] at f
   have c:=fQ f.1.1
   have y:=fP f.1.2
   have k:=bind_some b;clear b;obtain ⟨q,l,b⟩:=k
   cases b
   rw [r.d_eq] at hd
   have hd:=gI hd
   subst hd
   have C:bi g m S (f_ len o.zero) (madeCells H.cells (len*A.size)).toList:=wP a _
   obtain ⟨j,p,D,L⟩:=pO _ qs.toList _ q _ (sJ (size:=o.size) I) C l
   rw [a.size] at p
   have n:(Instr.buildSlice t len qs).run P w= .ok (.slice (some ⟨w.heap.size,0,none⟩) len len) (w.alloc (.cells j e)):=by
    by_cases h0:len*A.size=0
    ·exact Cf r.und a.info h0 (by rw [h0] at p;simpa [madeCells,Array.range_zero'] using p)
    ·exact FH r.und a.info a.zero (by rw [← a.size];exact y) h0 p
   have u:∀ x ∈ q,oh x=true:=Eb l (Ia a.zleaf)
   have s:j.size=len*A.size:=by rw [L,size_madeCells]
   have G:=h.fresh (nid:=nid) J (iU nid q o.size).2 (by have E:=a.small;have K:=a.size;show o.size ≠ iC;omega) len (w':=w.alloc (.cells j e)) (World.grownBy_alloc w _ none) (heap_alloc_new w _) (fun _=>rfl) (Nat.zero_le _)
    (rest:= []) (by rw [List.append_nil]) (fun hp=>fJ _ D (qK hp)) D (CB D u) (fun _=> ⟨by rw [s];simp [iU,a.size],by
     have E:len≤len*o.size:=Nat.le_mul_of_pos_right _ c
     have N:(2:Nat)^24=16777216:=by decide
     simp only [maxLen];omega⟩)
   refine ⟨_,_,_,n,G.1,G.2, ?_⟩
   exact QV (Nat.le_refl _) c (by have E:=a.small;have K:=a.size;omega)
  ·cases b
 ·cases b
theorem Yg {d:TypeDesc} {k e:Nat} (h:jL P (some d)= .map k e):d= .map k e:=by cases d<;>simp [jL] at h;obtain ⟨rfl,rfl⟩:=h;rfl
theorem Tv {k:LK} {x y:AV} {u v:Value} (b:Hq k x=true) (a:Hq k y=true) (d:VR g m S x u) (c:VR g m S y v):
  tV k u v=some (D_ x y)∧(D_ x y=true→u=v)∧(∀ n,Instr.sameBits n u u=true)∧dP x= []:=by
 cases k<;>cases x<;>simp [Hq] at b<;>cases y<;>simp [Hq] at a<;>simp only [VR,PR] at d c<;>subst d<;>subst c
 ·refine ⟨by simp [tV,D_,b,a],fun h=> ?_,fun n=>by simp [Instr.sameBits],rfl⟩
  simp only [D_,beq_iff_eq] at h
  rw [← fM b,← fM a,h]
 ·refine ⟨by simp [tV,D_],fun h=> ?_,fun n=>by simp [Instr.sameBits],rfl⟩
  simp only [D_,beq_iff_eq] at h
  rw [h]
 ·refine ⟨by simp [tV,D_,xP],fun h=> ?_,fun n=>by cases n<;>simp [Instr.sameBits,MapKept.bytes_beq],rfl⟩
  simp only [D_,beq_iff_eq] at h
  rw [h]
theorem og:∀ {lks:List LK} {a b:List AV} {xs c:List Value},mO lks a=true→mO lks b=true→bi g m S a xs→bi g m S b c→
  dK lks xs c=some (IV a b)∧(IV a b=true→xs=c)∧(∀ n,∀ x ∈ xs,Instr.sameBits n x x=true)∧bP a= []
 | [],[],[],[],[],_,_,_,_=> ⟨rfl,fun _=>rfl,by simp,rfl⟩
 | k::lks,x::a,y::b,u::xs,v::c,ha,hb,h1,h2=>by
  simp only [mO,Bool.and_eq_true] at ha hb
  simp only [bi] at h1 h2
  obtain ⟨l,j,q,o⟩:=Tv ha.1 hb.1 h1.1 h2.1
  obtain ⟨p,i,f,e⟩:=og ha.2 hb.2 h1.2 h2.2
  refine ⟨by simp [dK,l,p,IV],fun h=> ?_,fun n z d=> ?_,by simp [bP,o,e]⟩
  ·simp only [IV,Bool.and_eq_true] at h
   rw [j h.1,i h.2]
  ·rcases List.mem_cons.1 d with rfl|d
   ·exact q n
   ·exact f n z d
 | [],_::_,_,_,_,ha,_,_,_=>by simp [mO] at ha
 |_::_,[],_,_,_,ha,_,_,_=>by simp [mO] at ha
 | [],[],_::_,_,_,_,hb,_,_=>by simp [mO] at hb
 |_::_,_::_,[],_,_,_,hb,_,_=>by simp [mO] at hb
 | [],[],[],_::_,_,_,_,h1,_=>by simp [bi] at h1
 | [],[],[],[],_::_,_,_,_,h2=>by simp [bi] at h2
 |_::_,_::_,_::_,[],_,_,_,h1,_=>by simp [bi] at h1
 |_::_,_::_,_::_,_::_,[],_,_,_,h2=>by simp [bi] at h2
def acn (P:Program) (n:Nat) (t:TypeId) (lks:List LK):Prop:=
 ∀ (em:Bool) (d:Nat) (w:World) (xs:List Value),n≤d→dK lks xs xs=some true→(Instr.checkKey em d t (vC P t xs)).run P w= .ok () w
theorem uz {lks:List LK} {xs:List Value} {r:Bool} (h:dK lks xs xs=some r):dK lks xs xs=some true:=by
 induction lks generalizing xs r with
 |nil=>cases xs<;>simp [dK] at h ⊢
 | cons k lks ih=>
  cases xs with
  |nil=>simp [dK] at h
  | cons x xs=>
   simp only [dK] at h ⊢
   obtain ⟨c,a,h⟩:=bind_some h
   rw [Option.map_eq_some_iff] at h
   obtain ⟨d,hd,rfl⟩:=h
   have b:tV k x x=some true:=by
    cases k<;>cases x<;>simp [tV] at a ⊢
    split at a
    ·rename_i e
     simp [e]
    ·cases a
   simp [b,ih hd]
theorem rq {n:Nat} (v:∀ t lks,jv P n t=some lks→acn P n t lks):∀ (fs:List Field) (off:Nat) (lks:List LK),yz P (jv P n) fs off=some lks→
  ∀ (em:Bool) (d:Nat) (w:World) (xs:List Value),n≤d→xs.length=off+lks.length→dK lks (xs.drop off) (xs.drop off)=some true→
   (forIn (m:=Sem) fs PUnit.unit fun f _=>do
    if f.name ≠ "_" then Instr.checkKey em d f.type (← part f.type xs.toArray f.offset)
    pure (ForInStep.yield PUnit.unit)).run P w= .ok PUnit.unit w
 | [],off,lks,hc,em,d,w,xs,hd,hx,h=>by simp
 | f ::fs,off,lks,hc,em,d,w,xs,hd,hx,h=>by
  simp only [yz] at hc
  cases j:jv P n f.type with
  |none=>simp [j] at hc
  | some l=>
   simp only [j] at hc
   split at hc
   ·rename_i hcond
    simp only [Bool.and_eq_true,Bool.not_eq_true'] at hcond
    obtain ⟨⟨u,k⟩,c⟩:=hcond
    cases r:yz P (jv P n) fs (off+l.length) with
    |none=>simp [r] at hc
    | some l'=>
     simp only [r] at hc
     cases hc
     cases p:P.info? f.type with
     |none=>simp [p] at c
     |some i=>
      simp only [p] at c
      have c:=aN c
      have k:=aN k
      have s:f.name ≠ "_" :=by intro e;rw [e] at u;exact absurd u (by decide)
      simp only [List.length_append] at hx
      obtain ⟨a,b,q,o,y⟩:=rX l l' _ _ true h
      have q:=uz q
      have o:=uz o
      have z:=uZ j p c xs off (by omega) w
      have A:=v f.type l j em d w _ hd q
      have x:=rq v fs (off+l.length) l' r em d w xs hd (by omega) (by simpa [List.drop_drop,Nat.add_comm] using o)
      simp only [List.forIn_cons,Sem.run_bind,s,ne_eq,not_false_eq_true,if_true,Result.andThen_ok,k,z,A,Sem.run_pure]
      simpa using x
   ·cases hc
theorem Kw:∀ (n:Nat) (t:TypeId) (lks:List LK),jv P n t=some lks→acn P n t lks
 |0,_,_,h=>by simp [jv] at h
 | n +1,t,lks,h=>by
  intro e d w xs hd b
  obtain ⟨d,rfl⟩:∃ k,d=k+1:=⟨d - 1,by omega⟩
  have c:=qg _ _ _ _ b
  unfold jv at h
  cases a:P.underlying t with
  |none=>simp [a] at h
  | some ds=>
   unfold Instr.checkKey
   simp only [Sem.run_bind,run_underlying a,Result.andThen_ok,vC,a]
   cases ds<;>simp only [a] at h<;>try cases h
   case struct fs=>
    split at h
    ·cases h
    ·have:=rq (Kw n) fs.toList 0 lks h e d w xs (by omega) (by simp [c.1]) (by simpa using b)
     simp only [← Array.forIn_toList]
     simpa using this
   all_goals (cases xs.headD undef<;>simp)
theorem Et (d:iF P ap) {t:Nat} {h:TI} (e:ap.tyAt t=some h) {a b:List AV} {xs p:List Value} (c:h.cmp=true) (f:mO h.lks a=true) (o:mO h.lks b=true) (j:bi g m S a xs) (v:bi g m S b p) (n:∃ u,P.underlying t=some (.struct u)):
  (∀ s,(Instr.checkKey s 10000 t (.agg xs.toArray)).run P w= .ok () w)∧(Op.equal t (.agg xs.toArray) (.agg p.toArray)).run P w= .ok (IV a b) w:=by
 obtain ⟨u,n⟩:=n
 rw [(zC d e).1] at c
 rw [(zC d e).2] at f o
 unfold Y9 at c
 cases i:jv P 8 t with
 |none=>simp [i] at c
 |some l=>
  simp only [i,Bool.and_eq_true,Bool.not_eq_true'] at c
  have k:=EE c.1
  rw [← k] at f o
  have q:=DV 8 t l i 10000 w xs p _ (by omega) (og f o j v).1
  have r:=fun s=>Kw 8 t l i s 10000 w xs (by omega) (uz (og f f j j).1)
  simp only [vC,n] at q r
  exact ⟨r,q⟩
theorem Bg {b:TI} {d:TypeDesc} (hd:b.d=jL P (some d)) (hs:∀ fs,d ≠ .struct fs) {x:AV} {v:Value} (h:kD b x=true) (a:VR g m S x v):MapKept.IsKey d v:=by
 unfold kD at h
 rw [hd] at h
 cases d<;>simp only [jL] at h<;>cases x<;>simp at h<;>simp only [VR,PR] at a<;>first|(exact absurd rfl (hs _))|(subst a;simp only [MapKept.IsKey])
 exact (fM h).symm
theorem V3 {f:TI} {d:TypeDesc} (hd:f.d=jL P (some d)) (hs:∀ fs,d ≠ .struct fs) {x y:AV} {u v:Value} (c:kD f x=true) (e:kD f y=true) (i:VR g m S x u) (h:VR g m S y v):Instr.sameNow d u v=some (xm x y):=by
 unfold kD at c e
 rw [hd] at c e
 cases d<;>simp only [jL] at c e<;>cases x<;>simp at c<;>cases y<;>simp at e<;>simp only [VR,PR] at i h<;>first|(exact absurd rfl (hs _))|(subst i;subst h;simp only [Instr.sameNow,xm])
 ·rw [if_pos ((fM c).symm.trans (fM e))]
 ·rename_i a b
  congr 1
  rw [Bool.eq_iff_iff,MapKept.bytes_beq]
  simp
theorem EI (h:bT ap g m S w) {rd:dE} (k:∀ b B,rd b=some B→g b=some B) {x:AV} {r:Value} (o:VR g m S x r) {q:List AV × List AV} (a:WS rd x=some q):
  ∃ d:Array MapEntry,((r= .map none∧d=#[])∨∃ b c,r= .map (some b)∧w.heap[b]? =some (.map d c))∧bi g m S q.1 (d.toList.map (·.key))∧bi g m S q.2 (d.toList.map (·.val)):=by
 unfold WS at a
 split at a
 ·rename_i ks vs
  cases a
  simp only [VR,PR] at o
  rcases o with ⟨rfl,rfl,rfl⟩|⟨b,u,v,rfl,D,z,s,t⟩
  ·exact ⟨#[],.inl ⟨rfl,rfl⟩,by simp [bi],by simp [bi]⟩
  ·obtain ⟨d,c,p,j⟩:=vJ (h.sealed _ _ _ D) rfl
   obtain ⟨E,clk',l,i⟩:=vJ (h.sealed _ _ _ z) rfl
   rw [p] at l;cases l
   have j:Value.agg (d.map (·.key))= .agg u.toArray:=Option.some.inj j
   have i:Value.agg (d.map (·.val))= .agg v.toArray:=Option.some.inj i
   have j:=Value.agg.inj j
   have i:=Value.agg.inj i
   refine ⟨d,.inr ⟨b,c,rfl,p⟩, ?_, ?_⟩
   ·rw [← Array.toList_map,j];exact bV _ s
   ·rw [← Array.toList_map,i];exact bV _ t
 ·rename_i b ver
  have A:=bind_some a;clear a;obtain ⟨B,y,a⟩:=A
  split at a
  ·rename_i f
   simp only [Bool.and_eq_true] at f
   split at a
   ·rename_i ks vs hcells
    cases a
    simp only [VR] at o
    obtain ⟨B',n,_,_,q⟩:=o
    rw [k b B y] at n;cases n
    have q:=q (aN f.1)
    obtain ⟨⟨cur,e,C,rest,k1,k2,_,k4,_,_⟩,_,_⟩:=h.blk b B (k b B y)
    obtain ⟨d,c,p,rfl⟩:=k1.map (aN f.2)
    rw [hcells] at k4
    match C,k4 with
    | [u0,u1],k4=>
     simp only [bi,VR,and_true] at k4
     obtain ⟨⟨u,rfl,s⟩,v,rfl,t⟩:=k4
     simp only [xB,List.cons_append,List.cons.injEq] at k2
     have j:=Value.agg.inj k2.1
     have i:=Value.agg.inj k2.2.1
     refine ⟨d,.inr ⟨_,c,q,p⟩, ?_, ?_⟩
     ·rw [← Array.toList_map,j];exact s
     ·rw [← Array.toList_map,i];exact t
    | [],k4=>simp [bi] at k4
    | [_],k4=>simp [bi] at k4
    |_::_::_::_,k4=>simp [bi] at k4
   ·cases a
  ·cases a
 ·cases a
structure YH (P:Program) (g:dE) (m:aX) (S:aV) (w:World) (t:Nat) (ti:TI) (d:TypeDesc) (k:AV) (ck:Value):Prop where
 chk:∀ em,(Instr.checkKey em 10000 t ck).run P w= .ok () w
 stay:(Instr.keyThatStays ck ck).run P w= .ok ck w
 eqs:∀ {k' ck'},kD ti k'=true→VR g m S k' ck'→((match d with| .struct _=>(Op.equal t ck ck').run P w= .ok (xm k k') w|_=>Instr.sameNow d ck ck'=some (xm k k'))∧(xm k k'=true→ck=ck'))
theorem Hr (B:iF P ap) {t:Nat} {u:TI} {i:TypeInfo} {d:TypeDesc} {z:Value} (C:ap.tyAt t=some u) (v:Cm P t u i d z) {k:AV} {ck:Value} (s:kD u k=true) (D:VR g m S k ck):YH P g m S w t u d k ck:=by
 by_cases hs:∃ o,d= .struct o
 ·obtain ⟨o,rfl⟩:=hs
  have hd:=v.d_eq
  have J:∀ {x:AV},kD u x=true→∃ l,x= .agg l∧u.cmp=true∧mO u.lks l=true:=by
   intro x j
   unfold kD at j
   rw [hd] at j
   cases x<;>simp [jL] at j
   exact ⟨_,rfl,j⟩
  obtain ⟨l,rfl,K,y⟩:=J s
  have M:=D
  simp only [VR] at D
  obtain ⟨xs,rfl,j⟩:=D
  refine ⟨(Et B C K y y j j ⟨o,v.und⟩).1, ?_, ?_⟩
  ·have U:Instr.sameBits 10000 (.agg xs.toArray) (.agg xs.toArray)=true:=by
    show Instr.sameBits (9999+1) _ _=true
    have O:=(og y y j j).2.2.1 9999
    simp only [Instr.sameBits,beq_self_eq_true,Bool.true_and,List.all_eq_true]
    intro p hp
    obtain ⟨a,b⟩:=p
    have N:∀ l:List Value,(a,b) ∈ l.zip l→a=b∧a ∈ l:=by
     intro l
     induction l with
     |nil=>intro h;simp at h
     |cons c l ih=>
      intro h
      simp only [List.zip_cons_cons,List.mem_cons,Prod.mk.injEq] at h
      rcases h with ⟨rfl,rfl⟩|h
      ·exact ⟨rfl,by simp⟩
      ·exact ⟨(ih h).1,List.mem_cons_of_mem _ (ih h).2⟩
    obtain ⟨rfl,T⟩:=N xs hp
    exact O a T
   simp [Instr.keyThatStays,U]
  ·intro R G f n
   obtain ⟨W,rfl,_,A⟩:=J f
   simp only [VR] at n
   obtain ⟨X,rfl,I⟩:=n
   refine ⟨(Et B C K y A j I ⟨o,v.und⟩).2,fun F=> ?_⟩
   rw [(og y A j I).2.1 F]
 ·have hs:∀ o,d ≠ .struct o:=fun o e=>hs ⟨o,e⟩
  have q:=Bg v.d_eq hs s D
  refine ⟨fun V=>MapKept.run_checkKey v.und q V 9999,MapKept.run_keyThatStays q, ?_⟩
  intro R G f n
  have H:=V3 v.d_eq hs s f D n
  have Q:=MapKept.sameNow_of_keys q (Bg v.d_eq hs f n)
  refine ⟨?_,fun F=> ?_⟩
  ·cases d<;>first|exact H|exact absurd rfl (hs _)
  ·obtain ⟨r,L,E⟩:=Q
   rw [H] at L;cases L
   exact E.1 F
def jM (P:Program) (w:World) (t:Nat) (d:TypeDesc) (ck:Value) (l:List MapEntry) (i:Nat) (r:Option (Nat × Value)):Prop:=
 match d with
 | .struct _=>(Instr.findAsking t ck l i).run P w= .ok r w
 |_=>Instr.findNow d ck l i=some r
theorem jM.nil {t:Nat} {d:TypeDesc} {ck:Value} {i:Nat}:jM P w t d ck [] i none:=by
 unfold jM;cases d<;>first|rfl|simp [Instr.findAsking]
theorem jM.hit {t:Nat} {c:TI} {d:TypeDesc} {k b:AV} {ck:Value} {e:MapEntry} {l:List MapEntry} {i:Nat} (h:YH P g m S w t c d k ck) (a:kD c b=true) (j:VR g m S b e.key) (f:xm k b=true):jM P w t d ck (e::l) i (some (i,e.val)):=by
 have q:=(h.eqs a j).1
 rw [f] at q
 unfold jM;cases d<;>simp only at q ⊢ <;>first|(simp [Instr.findAsking,q];done)|(simp [Instr.findNow,q];done)
theorem jM.miss {t:Nat} {f:TI} {d:TypeDesc} {k c:AV} {ck:Value} {e:MapEntry} {l:List MapEntry} {i:Nat} {r:Option (Nat × Value)} (h:YH P g m S w t f d k ck) (b:kD f c=true) (n:VR g m S c e.key) (j:xm k c=false) (a:jM P w t d ck l (i+1) r):jM P w t d ck (e::l) i r:=by
 have q:=(h.eqs b n).1
 rw [j] at q
 unfold jM at a ⊢;cases d<;>simp only at q a ⊢ <;>first|(simp [Instr.findAsking,q,a];done)|(simp [Instr.findNow,q,a];done)
theorem jM.run {t:Nat} {c:TI} {i:TypeInfo} {d:TypeDesc} {z:Value} (b:Cm P t c i d z) {ck:Value} {l:List MapEntry} {r:Option (Nat × Value)} (h:jM P w t d ck l 0 r):(Instr.findKey t ck l).run P w= .ok r w:=by
 by_cases hs:∃ a,d= .struct a
 ·obtain ⟨a,rfl⟩:=hs
  simp only [jM] at h
  cases l with
  |nil=>
   simp [Instr.findAsking] at h;subst h
   simp [Instr.findKey,run_underlying b.und,Result.andThen,Instr.findNow]
  |cons e l=>
   simp only [Instr.findKey,Sem.run_bind,run_underlying b.und,Result.andThen_ok,Instr.findNow,Instr.sameNow]
   exact h
 ·have hs:∀ a,d ≠ .struct a:=fun a e=>hs ⟨a,e⟩
  refine MapKept.run_findKey b.und ?_
  unfold jM at h
  cases d<;>first|exact h|exact absurd rfl (hs _)
theorem uC {t:Nat} {q:TI} {d:TypeDesc} {k v:AV} {ck cv:Value} (c:YH P g m S w t q d k ck) (p:VR g m S v cv):∀ (l:List MapEntry) (ks vs:List AV) (i:Nat),bi g m S ks (l.map (·.key))→bi g m S vs (l.map (·.val))→ks.all (kD q)=true→
  (jM P w t d ck l i none∧dM ks vs k=none∧ks.any (xm k)=false∧oZ ks vs k v=vs++ [v])∨
  ∃ j e x,jM P w t d ck l i (some (i+j,e.val))∧l[j]? =some e∧e.key=ck∧dM ks vs k=some x∧VR g m S x e.val∧ks.any (xm k)=true∧bi g m S (oZ ks vs k v) ((l.set j {e with key:=ck,val:=cv}).map (·.val))
 | [],ks,vs,i,h1,h2,_=>by
  cases ks with
  |cons _ _=>simp [bi] at h1
  |nil=>
   cases vs with
   |cons _ _=>simp [bi] at h2
   |nil=>exact .inl ⟨jM.nil,rfl,rfl,rfl⟩
 | e ::l,ks,vs,i,h1,h2,ha=>by
  cases ks with
  |nil=>simp [bi] at h1
  | cons k0 ks=>
   cases vs with
   |nil=>simp [bi] at h2
   | cons v0 vs=>
    simp only [List.map_cons,bi] at h1 h2
    simp only [List.all_cons,Bool.and_eq_true] at ha
    cases a:xm k k0 with
    |true=>
     have b:e.key=ck:=((c.eqs ha.1 h1.1).2 a).symm
     refine .inr ⟨0,e,v0,jM.hit c ha.1 h1.1 a,rfl,b, ?_,h2.1, ?_, ?_⟩
     ·simp [dM,a]
     ·simp [a]
     ·simp only [oZ,a,List.set_cons_zero,List.map_cons,bi];exact ⟨p,h2.2⟩
    | false=>
     rcases uC c p l ks vs (i+1) h1.2 h2.2 ha.2 with ⟨n,f,o,h⟩|⟨j,e',x,n,f,o,h,u,r,s⟩
     ·refine .inl ⟨jM.miss c ha.1 h1.1 a n, ?_, ?_, ?_⟩
      ·simp [dM,a,f]
      ·simp only [List.any_cons,a,o];rfl
      ·simp [oZ,a,h]
     ·refine .inr ⟨j+1,e',x, ?_,by simpa using f,o, ?_,u, ?_, ?_⟩
      ·rw [show i+(j+1)=i+1+j by omega];exact jM.miss c ha.1 h1.1 a n
      ·simp [dM,a,h]
      ·simp only [List.any_cons,a,r];rfl
      ·simp only [oZ,a,List.set_cons_succ,List.map_cons,bi];exact ⟨h2.1,s⟩
theorem Bh {ok:Bool} {o:Option AV} {z:AV} {u c:Value} {b:Bool} (h:(o=none∧u=c∧b=false)∨∃ x,o=some x∧VR g m S x u∧b=true) (e:VR g m S z c):VR g m S (Qz ok o z) (if ok then .tuple #[u,.bool b] else u):=by
 have a:VR g m S (o.getD z) u∧o.isSome=b:=by
  rcases h with ⟨rfl,rfl,rfl⟩|⟨x,rfl,d,rfl⟩
  ·exact ⟨e,rfl⟩
  ·exact ⟨d,rfl⟩
 cases ok with
 |true=>
  simp only [Qz,if_true,VR]
  refine ⟨[u,.bool b],rfl, ?_⟩
  simp only [bi,VR,PR,and_true]
  exact ⟨a.1,by rw [a.2]⟩
 |false=>simpa [Qz] using a.1
theorem Gu (p:iF P ap) (h:bT ap g m S w) {rd:dE} (C:∀ b B,rd b=some B→g b=some B) {t:Nat} {I:TI} {i:TypeInfo} {d:TypeDesc} {z:Value} (A:Cm P t I i d z) {x k v:AV} {J ck:Value} (M:VR g m S x J) (K:VR g m S k ck) {ok:Bool}
  {ups:List (Nat × aZ)} {bs:List Bool} (c:Je ap I rd x k ok=some (v,ups,bs)) (r:∀ b ∈ bs,b=true):
  ups= []∧∃ cv,(Instr.lookup t J ck ok).run P w= .ok cv w∧VR g m S v cv:=by
 unfold Je at c
 split at c
 ·rename_i Y X hd
  have n:=bind_some c;clear c;obtain ⟨Z,a,c⟩:=n
  have n:=bind_some c;clear c;obtain ⟨te,f,c⟩:=n
  have n:=bind_some c;clear c;obtain ⟨q,n,c⟩:=n
  have G:=bind_some c;clear c;obtain ⟨U,H,c⟩:=G
  obtain ⟨rfl,rfl,rfl⟩:=aS c
  have D:=a
  obtain ⟨ik,dk,zk,a⟩:=dO p a
  obtain ⟨ie,de,Q,f⟩:=dO p f
  rw [A.d_eq] at hd
  have hd:=Yg hd
  subst hd
  obtain ⟨V,r⟩:=dh r
  obtain ⟨T,_⟩:=dh r
  obtain ⟨R,u,v1,N⟩:=EI h C M n
  have l:=Hr (w:=w) p D a V K
  have s:VR g m S U Q:=xC f H
  refine ⟨rfl, ?_⟩
  rcases uC l K R.toList q.1 q.2 0 v1 N T with ⟨o,L,_,_⟩|⟨j,e,y,o,_,_,O,W,_,_⟩
  ·refine ⟨_, ?_,Bh (.inl ⟨L,rfl,rfl⟩) s⟩
   rcases u with ⟨rfl,rfl⟩|⟨b,E,rfl,F⟩
   ·simp [Instr.lookup,run_underlying A.und,l.chk,o.run a,zeroValue,typeInfo,f.info,f.zero,Result.andThen]
   ·simp [Instr.lookup,run_underlying A.und,MapKept.run_getObj_map F,l.chk,o.run a,zeroValue,typeInfo,f.info,f.zero,Result.andThen]
  ·refine ⟨_, ?_,Bh (.inr ⟨y,O,W,rfl⟩) s⟩
   rcases u with ⟨rfl,rfl⟩|⟨b,E,rfl,F⟩
   ·have o:=o.run a
    simp [Instr.findKey,run_underlying a.und,Result.andThen,Instr.findNow] at o
   ·simp [Instr.lookup,run_underlying A.und,MapKept.run_getObj_map F,l.chk,o.run a,Result.andThen]
 ·cases c
mutual
theorem PG {S:aV}:∀ (x:AV) {v:Value},PR S x v→dP x= []
 | .int _ _,_,_=>rfl
 | .bool _,_,_=>rfl
 | .str _,_,_=>rfl
 | .nilS,_,_=>rfl
 | .nilP,_,_=>rfl
 | .nilF,_,_=>rfl
 | .nilI,_,_=>rfl
 | .sl _ _ _,_,_=>rfl
 | .pp _ _,_,_=>rfl
 | .mp _ _,_,_=>rfl
 | .dead,_,_=>rfl
 | .own _ _ _,_,p=>by simp only [PR] at p
 | .ref _ _ _ _,_,p=>by simp only [PR] at p
 | .ptr _ _ _,_,p=>by simp only [PR] at p
 | .mr _ _,_,p=>by simp only [PR] at p
 | .agg l,_,p=>by
  simp only [PR] at p;simp only [dP]
  obtain ⟨_,_,q⟩:=p
  exact qB l q
 | .tup l,_,p=>by
  simp only [PR] at p;simp only [dP]
  obtain ⟨_,_,q⟩:=p
  exact qB l q
 | .fn f a c,_,p=>by
  simp only [PR] at p;simp only [dP]
  obtain ⟨_,_,_,q,r⟩:=p
  rw [qB a q,qB c r];rfl
 | .ifc t x,_,p=>by
  simp only [PR] at p;simp only [dP]
  obtain ⟨_,_,q⟩:=p
  exact PG x q
theorem qB {S:aV}:∀ (l:List AV) {vs:List Value},dQ S l vs→bP l= []
 | [],_,_=>rfl
 |x::r,v::vs,p=>by simp only [dQ] at p;simp only [bP,PG x p.1,qB r p.2,List.append_nil]
 |_::_,[],p=>by simp [dQ] at p
end
theorem H5 (h:bT ap g m S w) {b:Nat} {B:aZ} {a:Array MapEntry} {clk':Nat} {k:Nat} {w':World} (q:w'.heap[k]? =some (.map a clk')) (f:B.esz=iC) {ks vs:List AV} (d:B.cells= [.agg ks,.agg vs]) (o:bi g m S ks (a.toList.map (·.key))) (n:bi g m S vs (a.toList.map (·.val))) (hp:B.pr=true→bP vs= []∧bP ks= []) (j:B.fro=false→B.fz=0) (i:B.fz≤2) (c:Nat):RN g m S w' B k c:=by
 refine ⟨⟨xB a,0,[.agg (a.map (·.key)),.agg (a.map (·.val))],[],.inr ⟨f,a,clk',q,rfl⟩,rfl, ?_, ?_,fun e=>absurd f e,fun _ e=>absurd f e⟩,j,by rw [d];exact i⟩
 ·intro l
  obtain ⟨r,p⟩:=hp l
  rw [d]
  simp only [dQ,PR,and_true]
  exact ⟨⟨(a.map (·.key)).toList,by rw [Array.toArray_toList],by rw [Array.toList_map];exact fJ _ o p⟩,(a.map (·.val)).toList,by rw [Array.toArray_toList],by rw [Array.toList_map];exact fJ _ n r⟩
 ·rw [d]
  simp only [bi,VR,and_true]
  exact ⟨⟨(a.map (·.key)).toList,by rw [Array.toArray_toList],by rw [Array.toList_map];exact o⟩,(a.map (·.val)).toList,by rw [Array.toArray_toList],by rw [Array.toList_map];exact n⟩
theorem Gv (h:bT ap g m S w) {nid:Nat} (d:g nid=none) (t:Nat):
  ∃ cv m' w',(Instr.makeMap t none).run P w= .ok cv w'∧bT ap (dJ g [(nid,⟨[.agg [],.agg []],0,false,0,iC,true⟩)]) m' S w'∧Fr g m S w (dJ g [(nid,⟨[.agg [],.agg []],0,false,0,iC,true⟩)]) m' S w'∧VR (dJ g [(nid,⟨[.agg [],.agg []],0,false,0,iC,true⟩)]) m' S (.mr nid 0) cv:=by
 have a:=h.put nid ⟨[.agg [],.agg []],0,false,0,iC,true⟩ w.heap.size 0 (w':=w.alloc (.map #[] 0)) (.inl (Nat.le_refl _)) (World.grownBy_alloc w _ _)
  (H5 h (b:=nid) (heap_alloc_new w _) rfl rfl (by simp [bi]) (by simp [bi]) (fun _=> ⟨rfl,rfl⟩) (fun _=>rfl) (Nat.zero_le _) 0)
  (fun B0 c=>by rw [d] at c;cases c) (fun o v e=>absurd (h.seal_lt e) (Nat.lt_irrefl _))
 refine ⟨.map (some w.heap.size),_,_, ?_,a.1,a.2, ?_⟩
 ·simp [Instr.makeMap,Result.andThen]
 ·simp only [VR]
  exact ⟨_,nO _ _ _,Nat.le_refl _,⟨_,rfl⟩,fun _=>by simp [jX]⟩
theorem Es:∀ (lks:List LK) (l:List AV),mO lks l=true→bP l= []
 | [],[],_=>rfl
 |k::lks,x::l,h=>by
  simp only [mO,Bool.and_eq_true] at h
  have a:dP x= []:=by cases k<;>cases x<;>first|rfl|(have:=h.1;simp [Hq] at this)
  simp only [bP,a,Es lks l h.2,List.append_nil]
 | [],_::_,h=>by simp [mO] at h
 |_::_,[],h=>by simp [mO] at h
theorem Az:∀ (l:List AV) (b:TI),l.all (kD b)=true→bP l= []
 | [],_,_=>rfl
 | x::r,b,h=>by
  simp only [List.all_cons,Bool.and_eq_true] at h
  have c:dP x= []:=by
   have a:=h.1
   unfold kD at a
   split at a<;>first|rfl|(cases a;done)|skip
   simp only [Bool.and_eq_true] at a
   simp only [dP];exact Es _ _ a.2
  simp only [bP,c,Az r b h.2,List.append_nil]
theorem Fq:∀ (ks vs:List AV) (k v:AV),bP vs= []→dP v= []→bP (oZ ks vs k v)= []
 | [],_,k,v,_,h2=>by simp [oZ,bP,h2]
 |_::_,[],k,v,_,h2=>by simp [oZ,bP,h2]
 |k0::ks,v0::vs,k,v,h1,h2=>by
  simp only [bP,List.append_eq_nil_iff] at h1
  simp only [oZ]
  split
  ·simp [bP,h1.2,h2]
  ·simp [bP,h1.1,Fq ks vs k v h1.2 h2]
theorem wV (L:iF P ap) (h:bT ap g m S w) {rd:dE} (K:∀ b B,rd b=some B→g b=some B) {t:Nat} {ti:TI} {i:TypeInfo} {d:TypeDesc} {z:Value} (W:Cm P t ti i d z) {x k v r:AV} {cx ck cv:Value} (U:VR g m S x cx) (hk:VR g m S k ck) (hv:VR g m S v cv)
  {ups:List (Nat × aZ)} {bs:List Bool} (f:Dp ap ti rd x k v=some (r,ups,bs)) (H:∀ b ∈ bs,b=true):
  r= .dead∧∃ E w',(Instr.mapUpdate t cx ck cv).run P w= .ok () w'∧bT ap (dJ g ups) E S w'∧Fr g m S w (dJ g ups) E S w':=by
 unfold Dp at f
 split at f
 ·rename_i kt et b ver hd
  have hq:=bind_some f;clear f;obtain ⟨tk,p,f⟩:=hq
  have hq:=bind_some f;clear f;obtain ⟨B,hB,f⟩:=hq
  split at f
  ·rename_i l
   simp only [Bool.and_eq_true,Bool.not_eq_true'] at l
   split at f
   ·rename_i ks vs hcells
    cases f
    have X:=p
    obtain ⟨ik,dk,zk,p⟩:=dO L p
    rw [W.d_eq] at hd
    have hd:=Yg hd
    subst hd
    obtain ⟨b1,H⟩:=dh H
    obtain ⟨b2,_⟩:=dh H
    have a:=K b B hB
    have hz:=aN l.1.2
    have hmc:WS rd (.mr b ver)=some (ks,vs):=by
     unfold WS
     simp only [hB,Option.bind_some,l.1.1,l.1.2,Bool.and_self,hcells]
    obtain ⟨s,hes,v1,v2⟩:=EI h K U hmc
    have C:=Hr (w:=w) L X p b1 hk
    simp only [VR] at U
    obtain ⟨B',O,_,_,q⟩:=U
    rw [a] at O;cases O
    have q:=q (aN l.1.1)
    subst q
    rcases hes with ⟨e,_⟩|⟨b0,I,e,R⟩
    ·cases e
    cases e
    have Y:(m b).1<w.heap.size:=h.lt a
    obtain ⟨_,k7,k8⟩:=h.blk b B a
    have key:∀ (c:Array MapEntry) (clk':Nat),bi g m S (xE ks k) (c.toList.map (·.key))→bi g m S (oZ ks vs k v) (c.toList.map (·.val))→
      ∃ E,bT ap (dJ g [(b,{B with cells:= [.agg (xE ks k),.agg (oZ ks vs k v)],pr:=B.pr && (dP v).isEmpty})]) E S {w with heap:=w.heap.setIfInBounds (m b).1 (.map c clk')}∧Fr g m S w (dJ g [(b,{B with cells:= [.agg (xE ks k),.agg (oZ ks vs k v)],pr:=B.pr && (dP v).isEmpty})]) E S {w with heap:=w.heap.setIfInBounds (m b).1 (.map c clk')}:=by
     intro c clk' w1 w2
     have F:=h.put b {B with cells:= [.agg (xE ks k),.agg (oZ ks vs k v)],pr:=B.pr && (dP v).isEmpty} (m b).1 (m b).2 (w':={w with heap:=w.heap.setIfInBounds (m b).1 (.map c clk')})
      (.inr ⟨B,a,rfl⟩) ⟨rfl,rfl,rfl,by simp,fun k' _ hk'=>by simp [show (m b).1 ≠ k' from fun e=>hk' (by rw [e])]⟩
      (H5 h (b:=b) (B:={B with cells:= [.agg (xE ks k),.agg (oZ ks vs k v)],pr:=B.pr && (dP v).isEmpty}) (w':={w with heap:=w.heap.setIfInBounds (m b).1 (.map c clk')}) (k:=(m b).1) (clk':=clk') (by simp [Y]) hz rfl w1 w2 (fun A=>by
       have A:(B.pr && (dP v).isEmpty)=true:=A
       simp only [Bool.and_eq_true] at A
       obtain ⟨⟨cur,e,us,rest,k1,k2,k3,k4,_,_⟩,_,_⟩:=h.blk b B a
       have hr:bP B.cells= []:=qB _ (k3 A.1)
       rw [hcells] at hr
       simp only [bP,dP,List.append_nil,List.append_eq_nil_iff] at hr
       refine ⟨Fq _ _ _ _ hr.2 (qK A.2), ?_⟩
       have N:=Az ks _ b2
       unfold xE
       split
       ·exact N
       ·rw [sU,N];exact Az [k] tk (by simp [b1])) k7 (by rw [hcells] at k8;exact k8) (m b).2)
      (fun B0 h0=>by rw [a] at h0;cases h0;exact ⟨rfl,.inl ⟨rfl,rfl⟩⟩)
      (fun o u hu=>by
       have:=(h.own b B a o u hu).1
       rw [l.2] at this;cases this)
     exact ⟨_,F.1,F.2⟩
    refine ⟨rfl, ?_⟩
    rcases uC C hv s.toList ks vs 0 v1 v2 b2 with ⟨Q,r2,r3,r4⟩|⟨j,e,y,Q,T,rk,r4,r5,r6,r7⟩
    ·obtain ⟨E,s1,V⟩:=key (s.push {key:=ck,val:=cv,born:=I}) (I+1)
      (by unfold xE;rw [r3,Array.toList_push,List.map_append];exact gK v1 (by simp only [List.map_cons,List.map_nil,bi,and_true];exact hk))
      (by rw [r4,Array.toList_push,List.map_append];exact gK v2 (by simp only [List.map_cons,List.map_nil,bi,and_true];exact hv))
     refine ⟨E,_, ?_,s1,V⟩
     simp [Instr.mapUpdate,run_underlying W.und,MapKept.run_getObj_map R,C.chk,Q.run p,MapKept.run_setObj_map _ R,Result.andThen]
    ·have D:s[j]? =some e:=by simpa using T
     have M:(s.modify j fun e=> {e with key:=ck,val:=cv}).toList=s.toList.set j {e with key:=ck,val:=cv}:=by
      apply List.ext_getElem?
      intro n
      simp only [Array.getElem?_toList,Array.getElem?_modify,List.getElem?_set]
      by_cases hjn:j=n
      ·subst hjn
       have G:j<s.toList.length:=(List.getElem?_eq_some_iff.1 T).1
       rw [if_pos rfl,if_pos rfl,if_pos G,D];rfl
      ·rw [if_neg hjn,if_neg hjn]
     obtain ⟨E,s1,V⟩:=key (s.modify j fun e=> {e with key:=ck,val:=cv}) I
      (by
       unfold xE;rw [r6,M]
       have:(s.toList.set j {e with key:=ck,val:=cv}).map (·.key)=s.toList.map (·.key):=by
        apply List.ext_getElem?
        intro n
        simp only [List.getElem?_map,List.getElem?_set]
        by_cases hjn:j=n
        ·subst hjn
         have G:j<s.toList.length:=(List.getElem?_eq_some_iff.1 T).1
         have J:j<s.size:=by simpa using G
         have Z:s[j]=e:=by rw [Array.getElem?_eq_getElem J] at D;exact Option.some.inj D
         simp [J,Z,rk]
        ·simp [hjn]
       rw [this];exact v1)
      (by rw [M];exact r7)
     refine ⟨E,_, ?_,s1,V⟩
     rw [Nat.zero_add] at Q
     simp [Instr.mapUpdate,run_underlying W.und,MapKept.run_getObj_map R,C.chk,Q.run p,D,rk,C.stay,MapKept.run_setObj_map _ R,Result.andThen]
   ·cases f
  ·cases f
 ·cases f
end
end AM
namespace AM
open Go
section
variable {P:Program} {ap:AP} {g:dE} {m:aX} {S:aV} {w:World}
theorem vH {ρ:Operand→AV} {cρ:Operand→Value}:∀ (l:List Operand),(∀ o ∈ l,VR g m S (ρ o) (cρ o))→bi g m S (l.map ρ) (l.map cρ)
 | [],_=>by simp [bi]
 |o::r,h=>by simp only [List.map_cons,bi];exact ⟨h o (by simp),vH r fun o a=>h o (by simp [a])⟩
theorem Dy {ρ:Operand→AV} {cρ:Operand→Value}:∀ (l:List (Nat × Operand)),(∀ o ∈ l.map (·.2),VR g m S (ρ o) (cρ o))→xY g m S (l.map fun (i,x)=>(i,ρ x)) (l.map fun (i,x)=>(i,cρ x))
 | [],_=>by simp [xY]
 |(i,o)::r,h=>by simp only [List.map_cons,xY];exact ⟨trivial,h o (by simp),Dy r fun o a=>h o (by simp [a])⟩
def iG (P:Program) (ap:AP) (g:dE) (m:aX) (S:aV) (w:World) (s:Sem Next) (v:AV) (ups:List (Nat × aZ)):Prop:=
 ∃ nx m' w',s.run P w= .ok nx w'∧bT ap (dJ g ups) m' S w'∧Fr g m S w (dJ g ups) m' S w'∧((∃ cv,nx= .value cv∧VR (dJ g ups) m' S v cv)∨(nx= .skip∧v= .dead))
theorem iG.pur (h:bT ap g m S w) {s:Sem Value} {v:AV} {ups:List (Nat × aZ)} (hs:ups= []∧∃ cv,s.run P w= .ok cv w∧VR g m S v cv):iG P ap g m S w (do pure (.value (← s))) v ups:=by
 obtain ⟨rfl,cv,b,a⟩:=hs
 exact ⟨.value cv,m,w,by simp [b],by rw [fA];exact h,by rw [fA];exact Fr.refl _ _ _ _,.inl ⟨cv,rfl,by rw [fA];exact a⟩⟩
theorem iG.full {s:Sem Value} {v:AV} {ups:List (Nat × aZ)} (hs:∃ cv a w',s.run P w= .ok cv w'∧bT ap (dJ g ups) a S w'∧Fr g m S w (dJ g ups) a S w'∧VR (dJ g ups) a S v cv):iG P ap g m S w (do pure (.value (← s))) v ups:=by
 obtain ⟨cv,a,w',c,b,e,d⟩:=hs
 exact ⟨.value cv,a,w',by simp [c],b,e,.inl ⟨cv,rfl,d⟩⟩
theorem iG.val (h:bT ap g m S w) {s:Sem Next} {v:AV} {cv:Value} (hs:s.run P w= .ok (.value cv) w) (a:VR g m S v cv):iG P ap g m S w s v []:=
 ⟨.value cv,m,w,hs,by rw [fA];exact h,by rw [fA];exact Fr.refl _ _ _ _,.inl ⟨cv,rfl,by rw [fA];exact a⟩⟩
theorem Dt {ρ:Operand→AV} {cρ:Operand→Value} (x:Option Operand) (h:∀ o ∈ x.toArray,VR g m S (ρ o) (cρ o)):Dq g m S (x.map ρ) (x.map cρ):=by
 cases x with
 |none=>simp [Dq]
 |some o=>simp only [Option.map_some,Dq];exact h o (by simp)
theorem KA (a:iF P ap) {t:Nat} {b:TI} (h:ap.tyAt t=some b) (hd:b.d ≠ .iface):P.concrete t=true:=by
 obtain ⟨i,d,z,c⟩:=dO a h
 have:=c.d_eq
 simp only [Program.concrete,c.und]
 cases d<;>simp_all [jL]
set_option maxHeartbeats 1000000 in
theorem TS (j:iF P ap) (D:bT ap g m S w) {nid:Nat} (X:g nid=none) {ρ:Operand→AV} {cρ:Operand→Value} {rd:dE} (I:∀ b B,rd b=some B→g b=some B) (o:Oper) (hρ:∀ x ∈ o.op.operands,VR g m S (ρ x) (cρ x))
  {dec:Operand→Option Bool} (hdec:∀ x ∈ o.op.operands,∀ b,dec x=some b→cρ x= .bool b) {em:Bool} (hem:∀ n,yI ρ o.op=some n→Nat.beq n 0=em)
  {v:AV} {ups:List (Nat × aZ)} {bs:List Bool} (h:opA ap nid ρ rd dec em o.op=some (v,ups,bs)) (hbs:∀ b ∈ bs,b=true):iG P ap g m S w (execOp cρ o) v ups:=by
 unfold opA at h
 unfold execOp
 split at h<;>rename_i heq<;>simp only [heq,Op.operands] at hρ hdec hem ⊢
 ·obtain ⟨rfl,rfl,rfl⟩:=aS h
  exact iG.val D (by simp) (hρ _ (by simp))
 ·obtain ⟨rfl,rfl,rfl⟩:=aS h
  exact iG.val D (by simp) (hρ _ (by simp))
 ·
  rename_i c a b
  split at h
  ·rename_i hd
   obtain ⟨rfl,rfl,rfl⟩:=aS h
   have:=hdec c (by simp) _ hd
   exact iG.val D (by simp [this,asBool]) (hρ _ (by simp))
  ·rename_i hd
   obtain ⟨rfl,rfl,rfl⟩:=aS h
   have:=hdec c (by simp) _ hd
   exact iG.val D (by simp [this,asBool]) (hρ _ (by simp))
  ·split at h
   ·rename_i bc ba bb e1 e2 e3
    obtain ⟨rfl,rfl,rfl⟩:=aS h
    have F:=hρ c (by simp)
    have G:=hρ a (by simp)
    have M:=hρ b (by simp)
    rw [e1] at F;rw [e2] at G;rw [e3] at M
    simp only [VR,PR] at F G M
    refine iG.val D (cv:= .bool (cond bc ba bb)) ?_ (by simp only [VR,PR])
    rw [F,G,M]
    cases bc<;>simp [asBool]
   ·cases h
 ·
  rename_i e
  have A:=bind_some h;clear h;obtain ⟨te,K,h⟩:=A
  obtain ⟨ie,de,ze,C⟩:=dO j K
  split at h
  ·rename_i Q
   simp only [Bool.and_eq_true] at Q
   cases h
   obtain ⟨N,w',F,G,M,h4⟩:=GY (P:=P) D X (cells:=te.zero) (cv:=ze) (qF C) C.zleaf (fun u hu=>CB (g:=g) (m:=m) (S:=S) (qF C) C.zleaf u (by simpa using hu)) e
   refine iG.full ⟨.pointer (some ⟨w.heap.size,0,none⟩),N,w', ?_,G,M,QN h4⟩
   simp [Instr.alloc,zeroValue,typeInfo,C.info,C.zero,F]
  ·cases h
 ·
  rename_i e x
  have A:=bind_some h;clear h;obtain ⟨te,K,h⟩:=A
  obtain ⟨ie,de,ze,C⟩:=dO j K
  simp only at h
  split at h
  ·rename_i Q
   simp only [Bool.and_eq_true] at Q
   cases h
   have E:=hρ x (by simp)
   have hl:∀ y ∈ (ρ x).cells,oh y=true:=fun y hy=>List.all_eq_true.1 Q.2 y hy
   obtain ⟨hv1,hv2⟩:=DD E hl
   obtain ⟨N,w',F,G,M,h4⟩:=GY (P:=P) D X (cells:=(ρ x).cells) (cv:=cρ x) hv1 hl hv2 e
   refine iG.full ⟨.pointer (some ⟨w.heap.size,0,none⟩),N,w', ?_,G,M,QN h4⟩
   simp [Instr.box,F]
  ·cases h
 ·
  rename_i t parts
  have A:=bind_some h;clear h;obtain ⟨L,q,h⟩:=A
  obtain ⟨i,d,z,C⟩:=dO j q
  refine iG.pur D ?_
  refine IE j C (qs:=parts.map fun (i,x)=>(i,cρ x)) ?_ h
  rw [Array.toList_map]
  exact Dy parts.toList fun x E=>hρ x (by simpa using E)
 ·
  rename_i t len parts
  have A:=bind_some h;clear h;obtain ⟨L,q,h⟩:=A
  obtain ⟨i,d,z,C⟩:=dO j q
  refine iG.full ?_
  refine yj j D X C (qs:=parts.map fun (i,x)=>(i,cρ x)) ?_ h
  rw [Array.toList_map]
  exact Dy parts.toList fun x E=>hρ x (by simpa using E)
 ·
  rename_i t a
  have A:=bind_some h;clear h;obtain ⟨L,q,h⟩:=A
  obtain ⟨i,d,z,C⟩:=dO j q
  exact iG.pur D (Bl D I C (hρ a (by simp)) h hbs)
 ·
  rename_i t a x
  have A:=bind_some h;clear h;obtain ⟨L,q,h⟩:=A
  obtain ⟨i,d,z,C⟩:=dO j q
  have ha:=hρ a (by simp)
  have E:=hρ x (by simp)
  generalize cρ a=ca at ha ⊢
  generalize cρ x=cx at E ⊢
  obtain ⟨rfl,N,w',F,G,M⟩:=JL D I C ha E h hbs
  exact ⟨.skip,N,w',by simp [F],G,M,.inr ⟨rfl,rfl⟩⟩
 ·
  rename_i t r
  split at h
  ·cases h
   obtain ⟨cv,N,w',F,G,M,h4⟩:=Gv (P:=P) D X t
   exact ⟨.value cv,N,w',by simp [F],G,M,.inl ⟨cv,rfl,h4⟩⟩
  ·cases h
 ·
  rename_i t x k ok
  have A:=bind_some h;clear h;obtain ⟨L,q,h⟩:=A
  obtain ⟨i,d,z,C⟩:=dO j q
  exact iG.pur D (Gu j D I C (hρ x (by simp)) (hρ k (by simp)) h hbs)
 ·
  rename_i t x k v
  have A:=bind_some h;clear h;obtain ⟨L,q,h⟩:=A
  obtain ⟨i,d,z,C⟩:=dO j q
  obtain ⟨rfl,N,w',F,G,M⟩:=wV j D I C (hρ x (by simp)) (hρ k (by simp)) (hρ v (by simp)) h hbs
  exact ⟨.skip,N,w',by simp [F],G,M,.inr ⟨rfl,rfl⟩⟩
 ·
  rename_i t x k v
  have A:=bind_some h;clear h;obtain ⟨L,q,h⟩:=A
  obtain ⟨i,d,z,C⟩:=dO j q
  obtain ⟨rfl,N,w',F,G,M⟩:=wV j D I C (hρ x (by simp)) (hρ k (by simp)) (hρ v (by simp)) h hbs
  exact ⟨.skip,N,w',by simp [F],G,M,.inr ⟨rfl,rfl⟩⟩
 ·
  rename_i x
  have E:=hρ x (by simp)
  split at h
  ·rename_i b ver off e
   rw [e] at E
   obtain ⟨rfl,rfl,rfl⟩:=aS h
   have H:=E
   simp only [VR] at H
   obtain ⟨_,_,_,⟨k,o,Y⟩,_⟩:=H
   exact iG.val D (cv:=cρ x) (by rw [Y];simp) E
  ·rename_i xs off e
   rw [e] at E
   obtain ⟨rfl,rfl,rfl⟩:=aS h
   have H:=E
   simp only [VR,PR] at H
   obtain ⟨_,_,_,Y,_⟩:=H
   exact iG.val D (cv:=cρ x) (by rw [Y];simp) E
  ·rename_i f a c e
   rw [e] at E
   obtain ⟨rfl,rfl,rfl⟩:=aS h
   have H:=E
   simp only [VR] at H
   obtain ⟨_,_,Y,_⟩:=H
   exact iG.val D (cv:=cρ x) (by rw [Y];simp) E
  ·cases h
 ·
  rename_i op t x y _
  have A:=bind_some h;clear h;obtain ⟨L,q,h⟩:=A
  exact iG.pur D (NI j q (hρ x (by simp)) (hρ y (by simp)) h hbs x y)
 ·
  exact iG.pur D (UE (hρ _ (by simp)) h)
 ·
  rename_i s d x
  have A:=bind_some h;clear h;obtain ⟨ts,hts,h⟩:=A
  have A:=bind_some h;clear h;obtain ⟨td,htd,h⟩:=A
  exact iG.pur D (DY j D I hts htd (hρ x (by simp)) h hbs)
 ·
  rename_i t x
  have A:=bind_some h;clear h;obtain ⟨L,q,h⟩:=A
  split at h
  ·cases h
  ·rename_i hd
   obtain ⟨rfl,rfl,rfl⟩:=aS h
   refine iG.pur D ⟨rfl,.iface t (cρ x),run_makeInterface w t _ (KA j q hd), ?_⟩
   simp only [VR]
   exact ⟨_,rfl,hρ x (by simp)⟩
 ·
  rename_i f first cap
  obtain ⟨rfl,rfl,rfl⟩:=aS h
  refine iG.pur D ⟨rfl,.func (.func f) (first.map cρ) (cap.map cρ),by simp [Instr.makeFunc], ?_⟩
  simp only [VR]
  refine ⟨(first.map cρ).toList,(cap.map cρ).toList,by rw [Array.toArray_toList,Array.toArray_toList], ?_, ?_⟩
  ·rw [Array.toList_map];exact vH _ fun x E=>hρ x (by simp at E ⊢;exact .inl E)
  ·rw [Array.toList_map];exact vH _ fun x E=>hρ x (by simp at E ⊢;exact .inr E)
 ·
  rename_i t l c
  have A:=bind_some h;clear h;obtain ⟨L,q,h⟩:=A
  obtain ⟨i,d,z,C⟩:=dO j q
  exact iG.full (Ag j D X C (hρ l (by simp)) (hρ c (by simp)) h hbs)
 ·
  rename_i t x lo hi mx
  have A:=bind_some h;clear h;obtain ⟨L,q,h⟩:=A
  obtain ⟨i,d,z,C⟩:=dO j q
  exact iG.pur D (JK j I C (hρ x (by simp)) (Dt lo fun o V=>hρ o (by simp at V;simp [V])) (Dt hi fun o V=>hρ o (by simp at V;simp [V])) (Dt mx fun o V=>hρ o (by simp at V;simp [V])) h hbs)
 ·
  rename_i s x f
  have A:=bind_some h;clear h;obtain ⟨L,q,h⟩:=A
  obtain ⟨i,d,z,C⟩:=dO j q
  split at h
  ·rename_i fs hd
   have A:=bind_some h;clear h;obtain ⟨⟨o,ft,sz⟩,hf,h⟩:=A
   simp only at h
   split at h
   ·rename_i hsz
    have A:=bind_some h;clear h;obtain ⟨p,hp,h⟩:=A
    obtain ⟨rfl,rfl,rfl⟩:=aS h
    exact iG.pur D ⟨rfl,Cb C hd hf hsz (hρ x (by simp)) hp⟩
   ·cases h
  ·cases h
 ·
  rename_i t x f
  have A:=bind_some h;clear h;obtain ⟨L,q,h⟩:=A
  obtain ⟨i,d,z,C⟩:=dO j q
  exact iG.pur D (IX j C (hρ x (by simp)) h hbs)
 ·
  rename_i t x ix
  have A:=bind_some h;clear h;obtain ⟨L,q,h⟩:=A
  obtain ⟨i,d,z,C⟩:=dO j q
  exact iG.pur D (z_ j I C (hρ x (by simp)) (hρ ix (by simp)) h hbs)
 ·
  rename_i t x ix
  have A:=bind_some h;clear h;obtain ⟨L,q,h⟩:=A
  obtain ⟨i,d,z,C⟩:=dO j q
  exact iG.pur D (I9 j C (hρ x (by simp)) (hρ ix (by simp)) h hbs)
 ·
  exact iG.pur D (Gq j (hρ _ (by simp)) h _)
 ·
  rename_i t i
  have C:=hρ t (by simp)
  split at h
  ·rename_i l e
   rw [e] at C
   have A:=bind_some h;clear h;obtain ⟨x,E,h⟩:=A
   obtain ⟨rfl,rfl,rfl⟩:=aS h
   simp only [VR] at C
   obtain ⟨vs,Y,hl⟩:=C
   obtain ⟨cv,F,G⟩:=rJ hl i E
   refine iG.pur D ⟨rfl,cv, ?_,G⟩
   rw [Y]
   simp [Instr.extract,F]
  ·cases h
 ·
  rename_i b args T
  simp only [Call.operands] at hρ
  have hargs:∀ x ∈ args,VR g m S (ρ x) (cρ x):=fun x E=>hρ x (by simp [E])
  split at h
  ·have A:=bind_some h;clear h;obtain ⟨x,E,h⟩:=A
   have A:=bind_some h;clear h;obtain ⟨t,W,h⟩:=A
   have A:=bind_some h;clear h;obtain ⟨L,q,h⟩:=A
   obtain ⟨i,d,z,C⟩:=dO j q
   obtain ⟨hu,cv,F,G⟩:=Ov (P:=P) (w:=w) (hargs x (Array.mem_of_getElem? E)) C h T W (args.map cρ) (by simp [E]) o.type
   subst hu
   exact iG.val D (cv:=cv) (by simp [resolve,invoke,builtin,F]) G
  ·split at h
   ·rename_i s x t t1 ha W
    have hargs':args=#[s,x]:=by apply Array.ext';simpa using ha
    have hats':T=#[t,t1]:=by apply Array.ext';simpa using W
    subst hargs';subst hats'
    have A:=bind_some h;clear h;obtain ⟨L,q,h⟩:=A
    have A:=bind_some h;clear h;obtain ⟨ti1,hti1,h⟩:=A
    obtain ⟨i,d,z,C⟩:=dO j q
    obtain ⟨i1,d1,z1,R⟩:=dO j hti1
    have hs:=hargs s (by simp)
    have E:=hargs x (by simp)
    have U:ρ s= .nilS→∃ n,xf (ρ x)=some n∧Nat.beq n 0=em:=by
     intro e
     cases hc:xf (ρ x) with
     | none=>
      exfalso
      split at h
      ·rename_i H;rw [H] at hc;simp [xf] at hc
      ·cases h
      ·rename_i y hy1 _ hy2 hy3
       have A:=bind_some h;clear h;obtain ⟨te,K,h⟩:=A
       unfold yc at h
       have A:=bind_some h;clear h;obtain ⟨⟨xs,n,pr⟩,Z,h⟩:=A
       cases hxx:ρ x<;>simp [hxx,xf] at hc<;>simp [hxx,MO] at Z
      ·cases h
     |some n=>exact ⟨n,rfl,hem n (by simp [yI,e,hc])⟩
    split at h
    ·rename_i e y hd J hy
     have A:=bind_some h;clear h;obtain ⟨te,K,h⟩:=A
     obtain ⟨ie,de,ze,O⟩:=dO j K
     split at h
     ·rename_i F
      rw [C.d_eq] at hd
      rw [R.d_eq] at J
      have hd:=gI hd
      have J:=xO J
      subst hd;subst J
      obtain ⟨cv,N,w',r1,r2,r3,r4⟩:=wK (P:=P) D I X C O hs E (tx:=t1) (.inl ⟨⟨y,hy⟩,R.und,aN F⟩) U (by rw [hy];exact h) hbs o.type
      exact ⟨.value cv,N,w',by simp [resolve,invoke,builtin,r1],r2,r3,.inl ⟨cv,rfl,r4⟩⟩
     ·cases h
    ·cases h
    ·rename_i e e1 hd J hns
     have A:=bind_some h;clear h;obtain ⟨te,K,h⟩:=A
     obtain ⟨ie,de,ze,O⟩:=dO j K
     rw [C.d_eq] at hd
     rw [R.d_eq] at J
     have hd:=gI hd
     have J:=gI J
     subst hd;subst J
     obtain ⟨cv,N,w',r1,r2,r3,r4⟩:=wK (P:=P) D I X C O hs E (tx:=t1) (.inr ⟨fun s e=>hns s e,_,R.und⟩) U h hbs o.type
     exact ⟨.value cv,N,w',by simp [resolve,invoke,builtin,r1],r2,r3,.inl ⟨cv,rfl,r4⟩⟩
    ·cases h
   ·cases h
  ·have A:=bind_some h;clear h;obtain ⟨r,hr,h⟩:=A
   obtain ⟨rfl,rfl,rfl⟩:=aS h
   obtain ⟨cv,F,G⟩:=TF (P:=P) (w:=w) (vH args.toList fun x E=>hargs x (Array.mem_toList_iff.1 E)) hr T o.type
   refine iG.val D (cv:=cv) ?_ G
   have:(List.map cρ args.toList).toArray=args.map cρ:=by apply Array.ext';rw [List.toList_toArray,Array.toList_map]
   rw [this] at F
   simp [resolve,invoke,builtin,F]
  ·have A:=bind_some h;clear h;obtain ⟨r,hr,h⟩:=A
   obtain ⟨rfl,rfl,rfl⟩:=aS h
   obtain ⟨cv,F,G⟩:=TC (P:=P) (w:=w) (vH args.toList fun x E=>hargs x (Array.mem_toList_iff.1 E)) hr T o.type
   refine iG.val D (cv:=cv) ?_ G
   have:(List.map cρ args.toList).toArray=args.map cρ:=by apply Array.ext';rw [List.toList_toArray,Array.toList_map]
   rw [this] at F
   simp [resolve,invoke,builtin,F]
  ·cases h
 ·cases h
end
end AM
namespace AM
open Go
structure Cx.Ok (c:Cx):Prop where
 bs:∀ b ∈ c.bs,b=true
 ps:∀ p ∈ c.ps,p
theorem R.bind_ok {α β:Type} {r:R α} {f:α→Cx→R β} {b:β} {c:Cx} (h:r.bind f= .ok b c):∃ a c1,r= .ok a c1∧f a c1= .ok b c:=by
 cases r with
 |ok a c1=>exact ⟨a,c1,rfl,h⟩
 |need=>simp [R.bind] at h
 |bad n=>simp [R.bind] at h
theorem IQ {c f:Cx} {bs:List Bool} {u:Unit} (h:Zy c bs= .ok u f) (d:f.Ok):c.Ok∧∀ b ∈ bs,b=true:=by
 unfold Zy at h
 split at h
 ·split at h
  ·rename_i a
   cases h
   exact ⟨d,fun b e=>by simpa using List.all_eq_true.1 a b e⟩
  ·cases h
 ·cases h
  exact ⟨⟨fun b a=>d.bs b (by simp [a]),d.ps⟩,fun b a=>d.bs b (by simp [a])⟩
theorem kX {c e:Cx} {b a:Bool} (h:zN c b= .ok a e) (d:e.Ok):c.Ok∧a=b:=by
 unfold zN at h
 split at h
 ·cases h;exact ⟨d,rfl⟩
 ·split at h
  ·cases h
  ·rename_i o r _
   cases h
   have i:=d.bs (lit a b) (by simp)
   refine ⟨⟨fun x f=>d.bs x (by simp [f]),d.ps⟩, ?_⟩
   cases a<;>cases b<;>simp [lit] at i ⊢
theorem jA {l:List Nat} {a:Nat}:su l a=true↔a ∈ l:=by
 simp only [su,List.any_eq_true]
 constructor
 ·rintro ⟨x,hx,h⟩;exact aN h ▸ hx
 ·intro h;exact ⟨a,h,Nat.beq_refl a⟩
theorem iR {α β:Type} {f:α→Option β}:∀ {l:List α} {l':List β},jW f l=some l'→l'.length=l.length∧∀ (i:Nat) x,l[i]? =some x→∃ y,l'[i]? =some y∧f x=some y
 | [],l',h=>by simp [jW] at h;subst h;simp
 | a::r,l',h=>by
  simp only [jW] at h
  split at h
  ·rename_i y j
   split at h
   ·rename_i q e
    cases h
    obtain ⟨d,c⟩:=iR e
    refine ⟨by simp [d], ?_⟩
    intro i x b
    cases i with
    |zero=>simp at b;subst b;exact ⟨y,by simp,j⟩
    |succ i=>simpa using c i x (by simpa using b)
   ·cases h
  ·cases h
section
variable {P:Program} {ap:AP} {g:dE} {m:aX} {S:aV} {w:World}
noncomputable def dG (S:aV) (m:aX) (rd:dE) (w:World):aV:=fun k o=>
 match S k o with
 |some v=>some v
 |none=>open Classical in if ∃ b B,rd b=some B∧(m b).1=k∧o<B.cells.length then ku w k o else none
theorem nM (S:aV) (m:aX) (rd:dE) (w:World):oP S (dG S m rd w):=by
 intro k o v h;simp [dG,h]
theorem fE {rd:dE} {k o:Nat} {v:Value} (h:dG S m rd w k o=some v):S k o=some v∨(ku w k o=some v∧∃ b B,rd b=some B∧(m b).1=k∧o<B.cells.length):=by
 unfold dG at h
 split at h
 ·rename_i d c;cases h;exact .inl c
 ·rename_i e
  split at h
  ·rename_i a;exact .inr ⟨h,a⟩
  ·cases h
theorem pW (a:bT ap g m S w) {rd:dE} {k o:Nat} {v:Value} (h:dG S m rd w k o=some v):ku w k o=some v:=by
 rcases fE h with h|h
 ·exact a.sealed _ _ _ h
 ·exact h.1
theorem Ug (f:bT ap g m S w) {rd:dE} {b:Nat} {B:aZ} (c:rd b=some B) {o:Nat} (e:o<B.cells.length) {v:Value} (a:ku w (m b).1 o=some v):dG S m rd w (m b).1 o=some v:=by
 unfold dG
 split
 ·rename_i h d
  have:=f.sealed _ _ _ d
  rw [a] at this;cases this;rfl
 ·rw [if_pos ⟨b,B,c,rfl,e⟩];exact a
theorem FI (k:bT ap g m S w) {rd:dE} (c:∀ b B,rd b=some B→g b=some B) {b:Nat} {B:aZ} (i:rd b=some B):
  ∃ vs,bi g m S B.cells vs∧(B.pr=true→dQ S B.cells vs)∧(∀ j u,vs[j]? =some u→dG S m rd w (m b).1 j=some u)∧vs.length=B.cells.length∧(B.esz ≠ iC→∀ u ∈ vs,u.oneCell'=true):=by
 obtain ⟨⟨cur,e,vs,rest,n,l,p,f,h,q⟩,_,_⟩:=k.blk b B (c b B i)
 refine ⟨vs,f,p, ?_,(bU f).symm,h⟩
 intro j u d
 have a:=(List.getElem?_eq_some_iff.1 d).1
 refine Ug k i (by rw [bU f];exact a) ?_
 exact n.get (by rw [l,List.getElem?_append_left a];exact d) (fun o=>h o u (List.mem_of_getElem? d))
theorem zt (n:bT ap g m S w) {rd:dE} (a:∀ b B,rd b=some B→g b=some B) {b:Nat} {B:aZ} (d:rd b=some B) (f:B.esz ≠ iC):
  ∃ vs,bi g m S B.cells vs∧(B.pr=true→dQ S B.cells vs)∧jZ (dG S m rd w) (m b).1 0 vs∧vs.length=B.cells.length:=by
 obtain ⟨vs,h,e,k,i,l⟩:=FI n a d
 refine ⟨vs,h,e,fun j u c=> ?_,i⟩
 rw [Nat.zero_add]
 exact ⟨k j u c,l f u (List.mem_of_getElem? c)⟩
theorem H6 {S':aV} {l:List AV} {y:AV} {vs:List Value} {k:Nat} (h:aaC l=some y) (a:dQ S' l vs) (hs:∀ j u,vs[j]? =some u→S' k j=some u):PR S' y (.map (some k)):=by
 unfold aaC at h
 split at h
 ·rename_i ks ws
  cases h
  match vs,a with
  | [v0,v1],a=>
   simp only [dQ,PR,and_true] at a
   obtain ⟨⟨b,rfl,d⟩,e,rfl,c⟩:=a
   simp only [PR]
   exact .inr ⟨k,b,e,rfl,hs 0 _ rfl,hs 1 _ rfl,d,c⟩
  | [],a=>simp [dQ] at a
  | [_],a=>simp [dQ] at a
  |_::_::_::_,a=>simp [dQ] at a
 ·cases h
theorem uj {S':aV} {f:AV→Option AV} (a:∀ x v y,f x=some y→VR g m S x v→PR S' y v):∀ {l l':List AV} {vs:List Value},jW f l=some l'→bi g m S l vs→dQ S' l' vs
 | [],l',[],h,_=>by simp [jW] at h;subst h;simp [dQ]
 | x::r,l',v::vs,h,hv=>by
  simp only [jW] at h
  simp only [bi] at hv
  split at h
  ·rename_i y c
   split at h
   ·rename_i q b
    cases h
    simp only [dQ]
    exact ⟨a x v y c hv.1,uj a b hv.2⟩
   ·cases h
  ·cases h
 | [],_,_::_,_,h=>by simp [bi] at h
 |_::_,_,[],_,h=>by simp [bi] at h
theorem lh (K:bT ap g m S w) {rd:dE} (t:∀ b B,rd b=some B→g b=some B):∀ (p:Nat) (x:AV) (v:Value) (y:AV),frz rd p x=some y→VR g m S x v→PR (dG S m rd w) y v:=by
 intro p
 induction p with
 |zero=>intro x v y h;simp [frz] at h
 | succ p ih=>
  intro x v y h f
  have D:=nM S m rd w
  have hlist:∀ {l l':List AV} {vs:List Value},jW (frz rd p) l=some l'→bi g m S l vs→dQ (dG S m rd w) l' vs:=fun F G=>uj (fun x v y O f=>ih x v y O f) F G
  unfold frz at h
  simp only at h
  split at h
  ·
   rename_i b ver i n
   have C:=bind_some h;clear h;obtain ⟨B,E,h⟩:=C
   split at h
   ·rename_i d
    simp only [VR] at f
    obtain ⟨B',s,_,_,q⟩:=f
    rw [t b B E] at s;cases s
    obtain ⟨o,rfl,N,ho,L,H⟩:=q (aN d)
    obtain ⟨vs,F,G,I,M⟩:=zt K t E H
    have hpart:jZ (dG S m rd w) (m b).1 o ((vs.drop (i*B.esz)).take (n*B.esz)):=by
     by_cases hi:i<(m b).2
     ·rw [ho hi]
      have:=(I.drop (i*B.esz)).take (n*B.esz)
      rwa [Nat.zero_add] at this
     ·have Z:n=0:=by omega
      subst Z
      intro j u U
      simp at U
    have k:∀ l,dQ (dG S m rd w) l ((vs.drop (i*B.esz)).take (n*B.esz))→PR (dG S m rd w) (.sl l n true) (.slice (some ⟨(m b).1,o,none⟩) n ((m b).2 - i)):=by
     intro l z
     simp only [PR]
     exact ⟨_,_,rfl,by omega,.inr ⟨_,_,_,rfl,z,hpart⟩⟩
    split at h
    ·rename_i A
     cases h
     exact k _ (jY _ (qy _ (dm D _ (G A))))
    ·simp only [Option.map_eq_some_iff] at h
     obtain ⟨l,z,rfl⟩:=h
     exact k _ (hlist z (qE _ (uk _ F)))
   ·cases h
  ·
   rename_i b ver J
   have C:=bind_some h;clear h;obtain ⟨B,E,h⟩:=C
   split at h
   ·rename_i d
    simp only [Bool.and_eq_true,Bool.not_eq_true'] at d
    have H:B.esz ≠ iC:=fun e=>by rw [e] at d;exact absurd d.2 (by decide)
    simp only [VR] at f
    obtain ⟨B',s,_,_,q⟩:=f
    rw [t b B E] at s;cases s
    have q:=q (aN d.1)
    subst q
    obtain ⟨vs,F,G,I,M⟩:=zt K t E H
    have k:∀ l,dQ (dG S m rd w) l vs→PR (dG S m rd w) (.pp l J) (.pointer (some ⟨(m b).1,J,none⟩)):=by
     intro l z
     simp only [PR]
     exact ⟨_,0,_,by rw [Nat.zero_add],z,I⟩
    split at h
    ·rename_i A
     cases h
     exact k _ (dm D _ (G A))
    ·simp only [Option.map_eq_some_iff] at h
     obtain ⟨l,z,rfl⟩:=h
     exact k _ (hlist z F)
   ·cases h
  ·
   rename_i b ver
   have C:=bind_some h;clear h;obtain ⟨B,E,h⟩:=C
   split at h
   ·rename_i d
    simp only [Bool.and_eq_true] at d
    simp only [VR] at f
    obtain ⟨B',s,_,_,q⟩:=f
    rw [t b B E] at s;cases s
    have q:=q (aN d.1)
    subst q
    obtain ⟨vs,F,G,I,M,_⟩:=FI K t E
    split at h
    ·rename_i A
     exact H6 h (dm D _ (G A)) I
    ·have C:=bind_some h;clear h;obtain ⟨l,z,h⟩:=C
     exact H6 h (hlist z F) I
   ·cases h
  ·simp only [Option.map_eq_some_iff] at h
   obtain ⟨l,z,rfl⟩:=h
   simp only [VR] at f
   obtain ⟨vs,e,q⟩:=f
   simp only [PR]
   exact ⟨vs,e,hlist z q⟩
  ·simp only [Option.map_eq_some_iff] at h
   obtain ⟨l,z,rfl⟩:=h
   simp only [VR] at f
   obtain ⟨vs,e,q⟩:=f
   simp only [PR]
   exact ⟨vs,e,hlist z q⟩
  ·have C:=bind_some h;clear h;obtain ⟨a,ha,h⟩:=C
   simp only [Option.map_eq_some_iff] at h
   obtain ⟨c,hc,rfl⟩:=h
   simp only [VR] at f
   obtain ⟨va,Q,e,q,r⟩:=f
   simp only [PR]
   exact ⟨va,Q,e,hlist ha q,hlist hc r⟩
  ·simp only [Option.map_eq_some_iff] at h
   obtain ⟨u,X,rfl⟩:=h
   simp only [VR] at f
   obtain ⟨cu,e,q⟩:=f
   simp only [PR]
   exact ⟨cu,e,ih _ _ _ X q⟩
  ·cases h
  ·rename_i n1 Y V n3 n4 R W T
   cases h
   refine dn D _ ?_
   cases x<;>first
    |exact absurd rfl (n1 _ _ _ _)
    |exact absurd rfl (Y _ _ _)
    |exact absurd rfl (V _ _)
    |exact absurd rfl (n3 _)
    |exact absurd rfl (n4 _)
    |exact absurd rfl (R _ _ _)
    |exact absurd rfl (W _ _)
    |exact absurd rfl (T _ _ _)
    |(simp only [VR] at f;exact f)
    |(simp only [PR])
end
end AM
