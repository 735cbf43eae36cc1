/- The abstract machine over the code of the model, and the proof that it is sound. No conditions. -/
import Derived.Test.YtokiomlellclkaaGreatDoorM1
import Derived.Laws.BytesString
import Derived.Laws.MakeOwn
import Derived.Laws.OwnMore
set_option linter.unusedSimpArgs false
set_option linter.unusedVariables false
namespace AM
open Go
section
variable {P:Program} {ap:AP} {g:bD} {m:aF} {S:ay} {w:World}
theorem xG {x:AV} {v:Value} (h:VR g m S x v) (e:∀ y ∈ x.cells,jy y=true):aO g m S x.cells v.cells.toList∧∀ u ∈ v.cells,u.oneCell'=true:=by
 cases x
 case agg l=>
  simp only [VR] at h
  obtain ⟨vs,rfl,h⟩:=h
  refine ⟨by simpa [Value.cells,AV.cells] using h, ?_⟩
  intro u c
  simp only [Value.cells] at c
  simp only [AV.cells] at e
  have:∀ (l:List AV) (vs:List Value),aO g m S l vs→(∀ y ∈ l,jy y=true)→∀ u ∈ vs,u.oneCell'=true:=by
   intro l
   induction l with
   |nil=>intro vs f _ u c;cases vs<;>simp [aO] at f c
   | cons a r ih=>
    intro vs f e u c
    cases vs with
    |nil=>simp [aO] at f
    |cons b q=>
     simp only [aO] at f
     rcases List.mem_cons.1 c with rfl|c
     ·exact Fg f.1 (e a (by simp))
     ·exact ih q f.2 (fun y j=>e y (by simp [j])) u c
  exact this l vs h e u (by simpa using c)
 all_goals
  have d:=Fg h (e _ (by simp [AV.cells]))
  have i:v.cells=#[v]:=by cases v<;>simp [Value.cells,Value.oneCell'] at d ⊢
  rw [i]
  refine ⟨by simp only [AV.cells,aO];exact ⟨h,trivial⟩,by simpa using d⟩
theorem AO:∀ (vs:List Value) (i a:Nat) (cs:Array Value),a+i+vs.length≤cs.size→
  ((vs.zipIdx i).foldl (fun (cs:Array Value) (p:Value × Nat)=>cs.setIfInBounds (a+p.2) p.1) cs).toList=cs.toList.take (a+i)++vs++cs.toList.drop (a+i+vs.length)
 | [],i,a,cs,_=>by simp
 | v::vs,i,a,cs,h=>by
  simp only [List.length_cons] at h
  simp only [List.zipIdx_cons,List.foldl_cons]
  rw [AO vs (i+1) a (cs.setIfInBounds (a+i) v) (by simp;omega)]
  have b:a+i<cs.toList.length:=by simp;omega
  simp only [Array.toList_setIfInBounds]
  rw [show a+(i+1)=a+i+1 from by omega,List.set_eq_take_append_cons_drop,if_pos b]
  have c:(cs.toList.take (a+i)++v::cs.toList.drop (a+i+1)).take (a+i+1)=cs.toList.take (a+i)++ [v]:=by
   rw [List.take_append]
   have e:a+i+1 - (cs.toList.take (a+i)).length=1:=by simp [List.length_take];omega
   rw [e]
   simp [List.take_take]
  have d:(cs.toList.take (a+i)++v::cs.toList.drop (a+i+1)).drop (a+i+1+vs.length)=cs.toList.drop (a+i+(v::vs).length):=by
   rw [List.drop_append]
   have:(cs.toList.take (a+i)).length=a+i:=by simp [List.length_take];omega
   rw [this,List.drop_eq_nil_of_le (by rw [this];omega),List.nil_append,show a+i+1+vs.length - (a+i)=vs.length+1 from by omega,List.drop_succ_cons,List.drop_drop]
   congr 1
   simp;omega
  rw [c,d]
  simp
theorem BK {c vs:List AV} {cs us:List Value} {a:Nat} (h:aO g m S c cs) (b:aO g m S vs us):aO g m S (dI c a vs) (cs.take a++us++cs.drop (a+us.length)):=by
 unfold dI
 rw [← aW b]
 exact dZ (dZ (lF _ h) b) (nV _ h)
theorem Gx {c vs:List AV} {cs us:List Value} {a:Nat} (h:aZ S c cs) (b:aZ S vs us):aZ S (dI c a vs) (cs.take a++us++cs.drop (a+us.length)):=by
 unfold dI
 rw [← iP b]
 exact gu (gu (h_ _ h) b) (lC _ h)
def jG (g:bD) (m:aF) (S:ay) (place:Nat→Option (Nat × Nat)):List (Nat × Nat × AV)→List (Nat × Value)→Prop
 | [],[]=>True
 |(off,size,v)::r,(i,c)::q=>place i=some (off,size)∧VR g m S v c∧jG g m S place r q
 |_,_=>False
theorem kK {place:Nat→Option (Nat × Nat)}:∀ (ps:List (Nat × Nat × AV)) (qs:List (Nat × Value)) (cells cells':List AV) (cs:Array Value),jG g m S place ps qs→aO g m S cells cs.toList→qB cells ps=some cells'→
  ∃ a,Instr.fill place cs qs=some a∧aO g m S cells' a.toList∧a.size=cs.size
 | [],[],cells,cells',cs,_,hv,h=>by simp [qB] at h;subst h;exact ⟨cs,rfl,hv,rfl⟩
 | (off,size,v)::r,(i,c)::q,cells,cells',cs,hp,hv,h=>by
  simp only [jG] at hp
  simp only [qB] at h
  split at h
  ·rename_i j
   simp only [Bool.and_eq_true] at j
   obtain ⟨⟨l,n⟩,t⟩:=j
   obtain ⟨k,B⟩:=xG hp.2.1 (fun y s=>List.all_eq_true.1 t y s)
   have x:=aW k
   have b:=aW hv
   have l:=az l
   have n:=dK n
   have z:c.cells.size=size:=by simp only [Array.length_toList] at x;omega
   have f:off+c.cells.size≤cs.size:=by simp only [Array.length_toList] at b;omega
   have o:=AO c.cells.toList 0 off cs (by simpa using f)
   have d:aO g m S (dI cells off v.cells) ((c.cells.zipIdx.foldl (fun (cs:Array Value) (p:Value × Nat)=>cs.setIfInBounds (off+p.2) p.1) cs)).toList:=by
    rw [← Array.foldl_toList,Array.toList_zipIdx,o]
    simp only [Nat.add_zero]
    exact BK hv k
   obtain ⟨a,e,u,A⟩:=kK r q _ cells' _ hp.2.2 d h
   refine ⟨a, ?_,u, ?_⟩
   ·simp only [Instr.fill,hp.1]
    rw [if_neg (by simp;omega)]
    exact e
   ·rw [A,← Array.length_toList,← Array.foldl_toList,Array.toList_zipIdx,o]
    simp
    omega
  ·cases h
 | [],_::_,_,_,_,hp,_,_=>by simp [jG] at hp
 |_::_,[],_,_,_,hp,_,_=>by simp [jG] at hp
theorem lG {t:Nat} {a:TI} {i:TypeInfo} {d:TypeDesc} {z:Value} (b:rE P t a i d z):aO g m S a.zero z.cells.toList:=by
 rw [b.zcells];exact aX _ (ql S _)
def rG (g:bD) (m:aF) (S:ay):List (Nat × AV)→List (Nat × Value)→Prop
 | [],[]=>True
 |(i,v)::r,(j,c)::q=>i=j∧VR g m S v c∧rG g m S r q
 |_,_=>False
theorem mP {size:Nat}:∀ {ps:List (Nat × AV)} {qs:List (Nat × Value)},rG g m S ps qs→jG g m S (fun i=>some (i*size,size)) (ps.map fun (i,v)=>(i*size,size,v)) qs
 | [],[],_=>by simp [jG]
 |(i,v)::r,(j,c)::q,h=>by
  simp only [rG] at h
  obtain ⟨rfl,b,a⟩:=h
  simp only [List.map_cons,jG]
  exact ⟨trivial,b,mP a⟩
 | [],_::_,h=>by simp [rG] at h
 |_::_,[],h=>by simp [rG] at h
theorem vV {b:List (Nat × Nat × Nat)} {place:Nat→Option (Nat × Nat)} (hp:∀ i x,b[i]? =some x→place i=some (x.1,x.2.2)):∀ {ps:List (Nat × AV)} {qs:List (Nat × Value)} {rs:List (Nat × Nat × AV)},rG g m S ps qs→
  eH (fun (q:Nat × AV)=>(b[q.1]?).map fun (x:Nat × Nat × Nat)=>(x.1,x.2.2,q.2)) ps=some rs→jG g m S place rs qs
 | [],[],rs,_,h=>by simp [eH] at h;subst h;simp [jG]
 | (i,v)::r,(j,c)::q,rs,hn,h=>by
  simp only [rG] at hn
  obtain ⟨rfl,e,d⟩:=hn
  simp only [eH] at h
  cases a:b[i]? with
  |none=>simp [a] at h
  | some x=>
   simp only [a,Option.map_some] at h
   split at h
   ·rename_i l f
    cases h
    simp only [jG]
    exact ⟨hp i x a,e,vV hp d f⟩
   ·cases h
 | [],_::_,_,h,_=>by simp [rG] at h
 |_::_,[],_,h,_=>by simp [rG] at h
theorem vU:∀ (fields:List Field),(∀ f ∈ fields,(P.info? f.type).isSome)→fields.mapM (fun f=>(P.info? f.type).map fun i=>(f.offset,i.size))=some (fields.map fun f=>(f.offset,match P.info? f.type with|some i=>i.size|none=>0))
 | [],_=>rfl
 | f::r,h=>by
  cases a:P.info? f.type with
  |none=>have:=h f (by simp);simp [a] at this
  |some i=>
   simp [List.mapM_cons,a,vU r (fun f b=>h f (by simp [b]))]
theorem BM (A:dn P ap) {t:Nat} {o:TI} {i:TypeInfo} {d:TypeDesc} {z:Value} (b:rE P t o i d z) {ps:List (Nat × AV)} {qs:Array (Nat × Value)} (B:rG g m S ps qs.toList) {v:AV} {ups:List (Nat × aJ)} {bs:List Bool}
  (h:Fq ap o ps=some (v,ups,bs)):ups= []∧∃ cv,(Instr.build t qs).run P w= .ok cv w∧VR g m S v cv:=by
 unfold Fq at h
 split at h
 ·rename_i G k
  have l:=bind_some h;clear h;obtain ⟨D,s,h⟩:=l
  have l:=bind_some h;clear h;obtain ⟨cs,j,h⟩:=l
  obtain ⟨rfl,rfl,rfl⟩:=aH h
  rw [b.d_eq] at k
  obtain ⟨fields,rfl,rfl⟩:=pX k
  by_cases hall:∀ f ∈ fields.toList,(P.info? f.type).isSome
  ·have u:=vU fields.toList hall
   have p:=vV (place:=((fields.toList.map fun f=>(f.offset,match P.info? f.type with|some i=>i.size|none=>0)).toArray[·]?)) (by
    intro i x C
    simp only [List.getElem?_map,Option.map_eq_some_iff] at C
    obtain ⟨f,y,rfl⟩:=C
    simp [y]
    rfl) B s
   obtain ⟨a,r,q,_⟩:=kK D qs.toList o.zero cs z.cells p (lG b) j
   refine ⟨rfl,.agg a,run_build w t qs a ?_, ?_⟩
   ·simp only [Program.built,b.info,b.und,b.zero]
    rw [u]
    exact r
   ·simp only [VR];exact ⟨a.toList,by simp,q⟩
  ·exfalso
   apply hall
   intro f y
   have:=b.fld
   simp only [J7] at this
   exact List.all_eq_true.1 this f y
 ·rename_i n e k
  have l:=bind_some h;clear h;obtain ⟨E,c,h⟩:=l
  have l:=bind_some h;clear h;obtain ⟨cs,j,h⟩:=l
  obtain ⟨rfl,rfl,rfl⟩:=aH h
  obtain ⟨H,F,I,c⟩:=bJ A c
  rw [b.d_eq] at k
  have k:=tX k
  subst k
  obtain ⟨a,r,q,_⟩:=kK _ qs.toList o.zero cs z.cells (mP (size:=E.size) B) (lG b) j
  refine ⟨rfl,.agg a,run_build w t qs a ?_, ?_⟩
  ·simp only [Program.built,b.info,b.und,b.zero,c.info]
   rw [← c.size]
   exact r
  ·simp only [VR];exact ⟨a.toList,by simp,q⟩
 ·cases h
end
end AM
namespace AM
open Go
section
variable {P:Program} {ap:AP} {g:bD} {m:aF} {S:ay} {w:World}
theorem qZ {t:Nat} {k:TI} {i:TypeInfo} {d:TypeDesc} {z:Value} (e:rE P t k i d z) {v:AV} (h:lN k k.zero=some v):VR g m S v z:=by
 have f:=lG (g:=g) (m:=m) (S:=S) e
 have b:=e.zagg
 unfold lN at h
 rw [e.d_eq,zH] at h
 unfold Uf at b
 rw [e.zero] at b
 split at h
 ·rename_i a
  cases h
  cases d<;>simp [TypeDesc.isRow] at a<;>cases z<;>simp at b
  all_goals
   simp only [VR]
   exact ⟨_,rfl,by simpa [Value.cells] using f⟩
 ·rename_i a
  split at h
  ·rename_i c l
   cases h
   have j:z.cells=#[z]:=by
    cases z<;>first|rfl|skip
    cases d<;>simp [TypeDesc.isRow] at a b
   rw [l,j] at f
   simp only [aO] at f
   exact f.1
  ·cases h
theorem zU (y:dn P ap) {x v:AV} {C:Value} (o:VR g m S x C) {asserted:Nat} {ok:Bool} {ups:List (Nat × aJ)} {bs:List Bool} (h:BL ap x asserted ok=some (v,ups,bs)) (B:Nat):
  ups= []∧∃ cv,(Instr.typeAssert C B asserted ok).run P w= .ok cv w∧VR g m S v cv:=by
 unfold BL at h
 have n:=bind_some h;clear h;obtain ⟨F,q,h⟩:=n
 obtain ⟨i,d,z,f⟩:=bJ y q
 have a:∀ D,d ≠ .interface D:=by
  intro D e;subst e;rw [f.d_eq] at h;simp [gJ] at h
 have key:∀ (c:Value),(∃ t u,c= .iface t u∧t ≠ asserted)∨c= .nilIface→∀ l,VR g m S l z→ok=true→(Instr.typeAssert c B asserted ok).run P w= .ok (.tuple #[z,.bool false]) w:=by
  intro c E l _ r
  subst r
  rcases E with ⟨t,u,rfl,k⟩|rfl
  ·cases d<;>first|exact absurd rfl (a _)|simp [Instr.typeAssert,run_underlying f.und,k,zeroValue,typeInfo,f.info,f.zero]
  ·cases d<;>first|exact absurd rfl (a _)|simp [Instr.typeAssert,run_underlying f.und,zeroValue,typeInfo,f.info,f.zero]
 split at h
 ·cases h
 ·split at h
  ·rename_i t u
   simp only [VR] at o
   obtain ⟨p,rfl,A⟩:=o
   split at h
   ·rename_i b
    have b:=az b
    subst b
    obtain ⟨rfl,rfl,rfl⟩:=aH h
    cases ok
    ·refine ⟨rfl,p, ?_,A⟩
     cases d<;>first|exact absurd rfl (a _)|simp [Instr.typeAssert,run_underlying f.und]
    ·refine ⟨rfl,.tuple #[p,.bool true], ?_, ?_⟩
     ·cases d<;>first|exact absurd rfl (a _)|simp [Instr.typeAssert,run_underlying f.und]
     ·simp only [VR];exact ⟨[p,.bool true],rfl,by simp only [aO,VR,PR];exact ⟨A,trivial,trivial⟩⟩
   ·rename_i b
    have k:t ≠ asserted:=by intro e;subst e;simp at b
    cases ok
    ·cases h
    ·simp only at h
     have n:=bind_some h;clear h;obtain ⟨l,s,h⟩:=n
     obtain ⟨rfl,rfl,rfl⟩:=aH h
     have j:=qZ (g:=g) (m:=m) (S:=S) f s
     refine ⟨rfl,_,key _ (.inl ⟨_,_,rfl,k⟩) l j rfl, ?_⟩
     simp only [VR];exact ⟨[z,.bool false],rfl,by simp only [aO,VR,PR];exact ⟨j,trivial,trivial⟩⟩
  ·simp only [VR,PR] at o
   subst o
   cases ok
   ·cases h
   ·simp only at h
    have n:=bind_some h;clear h;obtain ⟨l,s,h⟩:=n
    obtain ⟨rfl,rfl,rfl⟩:=aH h
    have j:=qZ (g:=g) (m:=m) (S:=S) f s
    refine ⟨rfl,_,key _ (.inr rfl) l j rfl, ?_⟩
    simp only [VR];exact ⟨[z,.bool false],rfl,by simp only [aO,VR,PR];exact ⟨j,trivial,trivial⟩⟩
  ·cases h
theorem m_ (Q:aV ap g m S w) {rd:bD} (L:∀ b B,rd b=some B→g b=some B) {size:Nat} {x:AV} {R:Value} (i:VR g m S x R) {E:List AV} {n:Nat} {pr:Bool} (h:EY size rd x=some (E,n,pr)) (O:E.length=n*size)
  {tx:Nat} (hk:((∃ s,x= .str s)∧P.underlying tx=some .string∧size=1)∨((∀ s,x ≠ .str s)∧∃ e,P.underlying tx=some (.slice e))):
  ∃ news,Src P size tx R n news w∧aO g m S E news∧(pr=true→aZ S E news):=by
 unfold EY at h
 split at h
 ·rename_i xs' V nn
  cases h
  obtain ⟨_,e,d⟩:=hk.resolve_left (by rintro ⟨⟨s,hs⟩,_⟩;cases hs)
  simp only [VR,PR] at i
  obtain ⟨a,G,rfl,Y,q⟩:=i
  rcases q with ⟨_,rfl,rfl,rfl⟩|⟨b,o,vs,rfl,hp,hs⟩
  ·cases a with
   |none=>exact ⟨[],Src.ofNil w d 0,by simp [aO],fun _=>by simp [aZ]⟩
   |some p=>exact ⟨[],Src.ofSlice w d p 0 0 [] (by simp) (fun j u c=>by simp at c) (fun u t=>by simp at t),by simp [aO],fun _=>by simp [aZ]⟩
  ·refine ⟨vs,Src.ofSlice w d ⟨b,o,none⟩ n G vs (by rw [← iP hp,O]) (fun j u c=>by rw [Addr.add_mid];exact Q.one (hs j u c).1 (hs j u c).2) ?_,aX _ hp,fun _=>hp⟩
   intro u t
   obtain ⟨j,c⟩:=List.getElem?_of_mem t
   exact (hs j u c).2
 ·cases h
  obtain ⟨_,e,d⟩:=hk.resolve_left (by rintro ⟨⟨s,hs⟩,_⟩;cases hs)
  simp only [VR,PR] at i
  subst i
  exact ⟨[],Src.ofNil w d 0,by simp [aO],fun _=>by simp [aZ]⟩
 ·rename_i s
  cases h
  obtain ⟨_,d,F⟩:=hk.resolve_right (by rintro ⟨hs,_⟩;exact hs s rfl)
  simp only [VR,PR] at i
  subst i
  subst F
  have hp:∀ s:List UInt8,aZ S (s.map fun b=>AV.int .u8 b.toNat) (s.map fun b=>Value.int .u8 b.toNat):=by
   intro s
   induction s with
   |nil=>simp [aZ]
   |cons a r ih=>simp only [List.map_cons,aZ,PR];exact ⟨trivial,ih⟩
  have f:=Src.ofString (P:=P) w d ⟨s.toArray⟩
  have X:byteCells ⟨s.toArray⟩=s.map fun b=>Value.int .u8 b.toNat:=by simp [byteCells]
  rw [X,tV] at f
  exact ⟨_,f,aX _ (hp s),fun _=>hp s⟩
 ·rename_i b ver j V
  have Z:=bind_some h;clear h;obtain ⟨B,U,h⟩:=Z
  split at h
  ·rename_i y
   cases h
   simp only [Bool.and_eq_true,Bool.not_eq_true'] at y
   obtain ⟨y,D⟩:=y
   have C:B.esz ≠ dw:=fun e=>by rw [e] at D;exact absurd D (by decide)
   obtain ⟨_,e,d⟩:=hk.resolve_left (by rintro ⟨⟨s,hs⟩,_⟩;cases hs)
   simp only [VR] at i
   obtain ⟨B',z,_,_,q⟩:=i
   have l:=L b B U
   rw [l] at z;cases z
   obtain ⟨o,rfl,q1,W,q3⟩:=q (az y.1)
   have K:=az y.2
   obtain ⟨cur,e',vs,rest,k,A,hp,H,J,M⟩:=(Q.blk b B l).lies
   have k:=k.cells C
   have J:=J C
   have N:=aW H
   have I:((vs.drop (j*size)).take (n*size)).length=n*size:=by
    rw [← aW (lF _ (nV _ H))];exact O
   by_cases hn:n=0
   ·subst hn
    have T:(vs.drop (j*size)).take (0*size)= []:=by simp
    refine ⟨[], ?_, ?_, ?_⟩
    ·exact Src.ofSlice w d _ 0 _ [] (by simp) (fun _ _ h=>by simp at h) (fun _ h=>by simp at h)
    ·simp [aO]
    ·intro _;simp [aZ]
   ·have v:=W (by omega)
    refine ⟨(vs.drop (j*size)).take (n*size),Src.ofSlice w d _ n _ _ I ?_ ?_,lF _ (nV _ H),fun pr=>h_ _ (lC _ (hp pr))⟩
    ·intro jj u c
     rw [v,Addr.add_mid,K,iq k,A]
     rw [List.getElem?_take] at c
     split at c
     ·rw [List.getElem?_drop] at c
      rw [List.getElem?_append_left (List.getElem?_eq_some_iff.1 c).1]
      exact c
     ·cases c
    ·intro u t
     exact J u (List.mem_of_mem_drop (List.mem_of_mem_take t))
  ·cases h
 ·cases h
theorem Bh:∀ (a:List Int) (s:List UInt8),a.foldl (fun (r:ByteArray) n=>r.push (UInt8.ofNat n.toNat)) ⟨s.toArray⟩=⟨(s++a.map fun n=>UInt8.ofNat n.toNat).toArray⟩
 | [],s=>by simp
 |n::a,s=>by
  simp only [List.foldl_cons]
  have e:(⟨s.toArray⟩:ByteArray).push (UInt8.ofNat n.toNat)=⟨(s++ [UInt8.ofNat n.toNat]).toArray⟩:=by simp [ByteArray.push]
  rw [e,Bh a]
  simp
theorem xR (F:dn P ap) (hS:aV ap g m S w) {rd:bD} (R:∀ b B,rd b=some B→g b=some B) {s d:Nat} {U X:TI} (O:ap.tyAt s=some U) (K:ap.tyAt d=some X) {x v:AV} {N:Value} (G:VR g m S x N) {ups:List (Nat × aJ)} {bs:List Bool}
  (h:xQ ap U X rd x=some (v,ups,bs)) (hbs:∀ b ∈ bs,b=true):ups= []∧∃ cv,(convert s d N).run P w= .ok cv w∧VR g m S v cv:=by
 obtain ⟨i1,d1,z1,C⟩:=bJ F O
 obtain ⟨i2,d2,z2,E⟩:=bJ F K
 unfold xQ at h
 split at h
 ·rename_i k k' n I
  obtain ⟨rfl,rfl,rfl⟩:=aH h
  rw [E.d_eq] at I
  have I:=Nq I
  subst I
  simp only [VR,PR] at G
  subst G
  exact ⟨rfl,_,by simp [convert,run_underlying C.und,run_underlying E.und,Conv.intToInt];rfl,by simp only [VR,PR]⟩
 ·rename_i s' j i
  obtain ⟨rfl,rfl,rfl⟩:=aH h
  rw [C.d_eq] at j
  rw [E.d_eq] at i
  have j:=rC j
  have i:=rC i
  subst j;subst i
  simp only [VR,PR] at G
  subst G
  exact ⟨rfl,_,by simp [convert,run_underlying C.und,run_underlying E.und];rfl,by simp only [VR,PR]⟩
 ·rename_i x0 e j i
  have Q:=bind_some h;clear h;obtain ⟨te,t,h⟩:=Q
  obtain ⟨ie,de,ze,t⟩:=bJ F t
  split at h
  ·cases h
  ·rename_i Z xt xb u z
   have Q:=bind_some h;clear h;obtain ⟨⟨p,n,pr⟩,A,h⟩:=Q
   obtain ⟨rfl,rfl,rfl⟩:=aH h
   obtain ⟨W,M⟩:=bF hbs
   obtain ⟨M,_⟩:=bF M
   rw [C.d_eq] at j
   rw [E.d_eq] at i
   have j:=dU j
   have i:=rC i
   subst j;subst i
   rw [t.d_eq] at u
   have u:=Nq u
   subst u
   have W:=az W
   obtain ⟨f,hs,hv,_⟩:=m_ (P:=P) hS R G A (by omega) (tx:=s) (.inr ⟨fun s e=>z s e,e,C.und⟩)
   have D:f=(p.map AV.toInt).map (Value.int .u8):=by
    have:∀ (p:List AV) (f:List Value),aO g m S p f→p.all (chk (.int .u8))=true→f=(p.map AV.toInt).map (Value.int .u8):=by
     intro p
     induction p with
     |nil=>intro f h _;cases f<;>simp [aO] at h ⊢
     | cons a r ih=>
      intro f h H
      cases f with
      |nil=>simp [aO] at h
      |cons c q=>
       simp only [aO] at h
       simp only [List.all_cons,Bool.and_eq_true] at H
       rw [List.map_cons,List.map_cons,ih q h.2 H.2]
       congr 1
       cases a<;>simp [chk] at H
       simp only [VR,PR] at h
       rw [h.1,dP H.1]
       rfl
    exact this p f hv M
   refine ⟨rfl,.string ⟨((p.map AV.toInt).map fun n=>UInt8.ofNat n.toNat).toArray⟩, ?_, ?_⟩
   ·have hcells:=hs.cells
    have y:=hs.len w
    have o:=G
    cases N
    case slice a l c=>
     have Y:l=n:=by simpa [Builtin.lenOf] using y
     subst Y
     cases a with
     | none=>
      have T:f= []:=by simpa [Builtin.firstCells] using hcells.symm
      rw [T] at D
      have J:p= []:=by
       have:(p.map AV.toInt).map (Value.int .u8)= []:=D.symm
       simpa using this
      subst J
      simp [convert,run_underlying C.und,run_underlying E.und,run_underlying t.und,Conv.bytesToString]
      rfl
     | some a=>
      have L:(loadCells a l).run P w= .ok ((p.map AV.toInt).map (Value.int .u8)).toArray w:=by
       rw [← D];simpa [Builtin.firstCells] using hcells
      have V:=run_bytesToString (P:=P) w a l c _ L
      rw [show ByteArray.empty=⟨([]:List UInt8).toArray⟩ from rfl,Bh,List.nil_append] at V
      simp only [convert,Sem.run_bind,run_underlying C.und,run_underlying E.und,run_underlying t.und,Result.andThen_ok]
      exact V
    all_goals (simp [Builtin.lenOf] at y)
    case string s0=>
     exfalso
     cases Z<;>simp [EY] at A
     case str s1=>exact z s1 rfl
     case nilS=>simp only [VR,PR] at o;cases o
     case sl a b c=>simp only [VR,PR] at o;obtain ⟨_,_,h,_⟩:=o;cases h
     case ref a b c d=>simp only [VR] at o;obtain ⟨_,_,_,⟨_,_,_,h⟩,_⟩:=o;cases h
   ·simp only [VR,PR]
    simp [List.map_map,Function.comp_def]
  ·cases h
 ·cases h
end
end AM
namespace AM
open Go
def bi (g:bD) (ups:List (Nat × aJ)):bD:=fun b=>match ai ups b with|some B=>some B|none=>g b
def setM (m:aF) (b:Nat) (x:Nat × Nat):aF:=fun c=>if c=b then x else m c
theorem dX {α:Type}:∀ (a b:List (Nat × α)) (t:Nat),ai (a++b) t=match ai a t with|some x=>some x|none=>ai b t
 | [],b,t=>rfl
 |(u,x)::r,b,t=>by
  simp only [List.cons_append,ai]
  split
  ·rfl
  ·exact dX r b t
theorem g_ (ups:List (Nat × aJ)) (hp:Hp):bi (ai hp) ups=ai (ups++hp):=by
 funext b;rw [dX];unfold bi;cases ai ups b<;>rfl
theorem dh (g:bD):bi g []=g:=rfl
theorem jh (g:bD) (b:Nat) (B:aJ) (c:Nat):bi g [(b,B)] c=if c=b then some B else g c:=by
 simp only [bi,ai]
 by_cases h:c=b
 ·subst h;simp
 ·have:Nat.beq b c=false:=by
   cases a:Nat.beq b c with
   |false=>rfl
   |true=>exact absurd (az a).symm h
  rw [this,if_neg h]
section
variable {P:Program} {ap:AP} {g:bD} {m:aF} {S:ay} {w:World}
theorem IC.mono {g g':bD} {m a:aF} {S S':ay} {w w':World} {B:aJ} {k c:Nat} (h:IC g m S w B k c) (b:gy S S') (s:Ge g m g' a) (f:w'.heap[k]? =w.heap[k]?):IC g' a S' w' B k c:=by
 obtain ⟨⟨cur,e,vs,rest,j,d,r,l,o,q⟩,n,i⟩:=h
 exact ⟨⟨cur,e,vs,rest,j.same f,d,fun p=>aP b _ (r p),fU b s _ l,o,q⟩,n,i⟩
theorem aV.seal_lt (h:aV ap g m S w) {k o:Nat} {v:Value} (a:S k o=some v):k<w.heap.size:=DI (h.sealed k o v a)
theorem aV.put (h:aV ap g m S w) (b:Nat) (B:aJ) (k c:Nat) {w':World}
  (j:w.heap.size≤k∨∃ B0,g b=some B0∧k=(m b).1) (hw:w.grownBy w' (some k)) (hblk:IC g m S w' B k c)
  (hge:∀ B0,g b=some B0→B.esz=B0.esz∧((B.ver=B0.ver∧(k,c)=m b)∨B0.ver<B.ver))
  (hseal:∀ o v,S k o=some v→bK w' k o=some v∧B.fro=true∧o<B.fz)
  (hmw:MW w w':=by first|exact MW.refl _|exact MW.alloc _ _ _ _|exact MW.row _ _ _|exact MW.map0 _):
  aV ap (bi g [(b,B)]) (setM m b (k,c)) S w'∧Fr g m S w (bi g [(b,B)]) (setM m b (k,c)) S w':=by
 have t:Ge g m (bi g [(b,B)]) (setM m b (k,c)):=by
  intro f B1 l
  by_cases e:f=b
  ·subst e
   obtain ⟨a,i⟩:=hge B1 l
   refine ⟨B,by rw [jh,if_pos rfl],a, ?_⟩
   rcases i with ⟨i,D⟩|i
   ·exact .inl ⟨i,by simp [setM,D]⟩
   ·exact .inr i
  ·exact ⟨B1,by rw [jh,if_neg e];exact l,rfl,.inl ⟨rfl,by simp [setM,e]⟩⟩
 have s:∀ f B1,g f=some B1→f ≠ b→(m f).1 ≠ k:=by
  intro f B1 l A e
  have r:=h.lt l
  rcases j with j|⟨B0,n,j⟩
  ·omega
  ·exact A (h.inj f b B1 B0 l n (e.trans j))
 have p:∀ k0,k0<w.heap.size→k0 ≠ k→w'.heap[k0]? =w.heap[k0]? :=fun k0 r z=>hw.block k0 r (by simpa using z)
 constructor
 ·refine ⟨?_, ?_, ?_, ?_,h.glob⟩
  ·intro f y B1 B2 d x u
   rw [jh] at d x
   by_cases a:f=b<;>by_cases i:y=b
   ·rw [a,i]
   ·rw [if_neg i] at x
    simp only [setM,a,if_true,if_neg i] at u
    exact absurd u.symm (s y B2 x i)
   ·rw [if_neg a] at d
    simp only [setM,i,if_true,if_neg a] at u
    exact absurd u (s f B1 d a)
   ·rw [if_neg a] at d
    rw [if_neg i] at x
    simp only [setM,if_neg a,if_neg i] at u
    exact h.inj f y B1 B2 d x u
  ·intro f B1 d
   rw [jh] at d
   by_cases a:f=b
   ·rw [if_pos a] at d
    cases d
    simp only [setM,if_pos a]
    exact hblk.mono (gy.refl S) t rfl
   ·rw [if_neg a] at d
    simp only [setM,if_neg a]
    exact (h.blk f B1 d).mono (gy.refl S) t (p _ (h.lt d) (s f B1 d a))
  ·intro k0 o v q
   by_cases e:k0=k
   ·subst e;exact (hseal o v q).1
   ·rw [FB (p k0 (h.seal_lt q) e)]
    exact h.sealed k0 o v q
  ·intro f B1 d o v q
   rw [jh] at d
   by_cases a:f=b
   ·rw [if_pos a] at d
    cases d
    simp only [setM,if_pos a] at q
    exact (hseal o v q).2
   ·rw [if_neg a] at d
    simp only [setM,if_neg a] at q
    exact h.own f B1 d o v q
 ·refine ⟨t,gy.refl S,hw.os,hw.tape,hw.output,hw.size, ?_, ?_,fun _ _ _ q=> .inl q,hmw.mb _ _⟩
  ·intro k0 r C
   refine p k0 r (fun e=> ?_)
   subst e
   rcases j with j|⟨B0,n,j⟩
   ·omega
   ·exact C b B0 n j.symm
  ·intro f B1 d
   rw [jh] at d
   by_cases a:f=b
   ·subst a
    rcases j with j|⟨B0,n,j⟩
    ·exact .inl (by simpa [setM] using j)
    ·exact .inr ⟨B0,n,by simp [setM,j]⟩
   ·rw [if_neg a] at d
    exact .inr ⟨B1,d,by simp [setM,a]⟩
end
mutual
theorem xB {g:bD} {m:aF} {S:ay}:∀ (x:AV) {v:Value},VR g m S x v→bU x= []→PR S x v
 | .int _ _,_,p,_=>by simpa only [VR] using p
 | .bool _,_,p,_=>by simpa only [VR] using p
 | .str _,_,p,_=>by simpa only [VR] using p
 | .nilS,_,p,_=>by simpa only [VR] using p
 | .nilP,_,p,_=>by simpa only [VR] using p
 | .raw _,_,p,_=>by simpa only [VR] using p
 | .nilF,_,p,_=>by simpa only [VR] using p
 | .nilI,_,p,_=>by simpa only [VR] using p
 | .sl _ _ _,_,p,_=>by simpa only [VR] using p
 | .pp _ _,_,p,_=>by simpa only [VR] using p
 | .mp _ _,_,p,_=>by simpa only [VR] using p
 | .dead,_,_,_=>by simp only [PR]
 | .own _ _ _,_,p,_=>by simp only [VR] at p
 | .ref _ _ _ _,_,_,h=>by simp [bU] at h
 | .ptr _ _ _,_,_,h=>by simp [bU] at h
 | .mr _ _,_,_,h=>by simp [bU] at h
 | .agg l,_,p,h=>by
  simp only [VR] at p;simp only [PR];simp only [bU] at h
  obtain ⟨vs,e,q⟩:=p
  exact ⟨vs,e,dE l q h⟩
 | .tup l,_,p,h=>by
  simp only [VR] at p;simp only [PR];simp only [bU] at h
  obtain ⟨vs,e,q⟩:=p
  exact ⟨vs,e,dE l q h⟩
 | .fn f a c,_,p,h=>by
  simp only [VR] at p;simp only [PR];simp only [bU,List.append_eq_nil_iff] at h
  obtain ⟨d,b,e,q,r⟩:=p
  exact ⟨d,b,e,dE a q h.1,dE c r h.2⟩
 | .ifc t x,_,p,h=>by
  simp only [VR] at p;simp only [PR];simp only [bU] at h
  obtain ⟨u,e,q⟩:=p
  exact ⟨u,e,xB x q h⟩
theorem dE {g:bD} {m:aF} {S:ay}:∀ (l:List AV) {vs:List Value},aO g m S l vs→a_ l= []→aZ S l vs
 | [],[],_,_=>by simp only [aZ]
 |x::r,v::vs,p,h=>by simp only [aO] at p;simp only [a_,List.append_eq_nil_iff] at h;simp only [aZ];exact ⟨xB x p.1 h.1,dE r p.2 h.2⟩
 | [],_::_,p,_=>by simp [aO] at p
 |_::_,[],p,_=>by simp [aO] at p
end
section
variable {P:Program} {ap:AP} {g:bD} {m:aF} {S:ay} {w:World}
theorem pq {α:Type} {l:List α} (h:l.isEmpty=true):l= []:=by cases l<;>simp at h ⊢
theorem aV.fresh (h:aV ap g m S w) {nid:Nat} (f:g nid=none) (B:aJ) (j:B.esz ≠ dw) (c:Nat) {w':World} {cur:Array Value} {e:TypeId} (a:w.grownBy w' none) (b:w'.heap[w.heap.size]? =some (.cells cur e (0,0)))
  (hver:B.fro=false→B.fz=0) (hfz:B.fz≤B.cells.length) {vs rest:List Value} (hc:cur.toList=vs++rest) (hp:B.pr=true→aZ S B.cells vs) (d:aO g m S B.cells vs) (h1:∀ u ∈ vs,u.oneCell'=true) (hcap:0<B.esz→cur.size=c*B.esz∧c≤maxLen)
  (hmw:MW w w':=by first|exact MW.refl _|exact MW.alloc _ _ _ _|exact MW.row _ _ _|exact MW.map0 _):
  aV ap (bi g [(nid,B)]) (setM m nid (w.heap.size,c)) S w'∧Fr g m S w (bi g [(nid,B)]) (setM m nid (w.heap.size,c)) S w':=by
 refine h.put (hmw:=hmw) nid B w.heap.size c (.inl (Nat.le_refl _)) ⟨a.os,a.tape,a.output,a.size,fun k i _=>a.block k i (by simp)⟩ ⟨⟨cur,e,vs,rest,eP.of j b,hc,hp,d,fun _=>h1,fun h0 _=>hcap h0⟩,hver,hfz⟩ (fun B0 h0=>by rw [f] at h0;cases h0) ?_
 intro o v d
 have:=h.seal_lt d
 omega
theorem Au (h:aV ap g m S w) {nid:Nat} (f:g nid=none) {cells:List AV} {cv:Value} (b:aO g m S cells cv.cells.toList) (_hl:∀ x ∈ cells,jy x=true) (c:∀ u ∈ cv.cells,u.oneCell'=true) (t:TypeId):
  ∃ m' w',(newVar t cv).run P w= .ok ⟨w.heap.size,0,none⟩ w'∧aV ap (bi g [iT nid cells 0]) m' S w'∧Fr g m S w (bi g [iT nid cells 0]) m' S w'∧(m' nid).1=w.heap.size:=by
 have a:=h.fresh (nid:=nid) f (iT nid cells 0).2 (by show 0 ≠ dw;decide) 0 (w':=w.alloc (.cells cv.cells t)) (cur:=cv.cells) (e:=t) (World.grownBy_alloc w _ none) (heap_alloc_new w _) (fun _=>rfl) (Nat.zero_le _) (vs:=cv.cells.toList) (rest:= []) (by simp)
  (fun hp=>dE _ b (pq hp)) b (fun u d=>c u (by simpa using d)) (fun h=>by simp [iT] at h)
 refine ⟨_,_, ?_,a.1,a.2,by simp [setM]⟩
 simp [newVar,newRow]
theorem Ia {b:aF} {nid:Nat} {cells:List AV} {a k:Nat} (c:(b nid).1=k):VR (bi g [iT nid cells a]) b S (.ptr nid 0 0) (.pointer (some ⟨k,0,none⟩)):=by
 simp only [VR]
 refine ⟨(iT nid cells a).2, ?_,Nat.zero_le _,⟨_,_,rfl⟩,fun _=>by rw [c]⟩
 show bi g [(nid,(iT nid cells a).2)] nid=_
 rw [jh,if_pos rfl]
theorem Dn (h:aV ap g m S w) {rd:bD} (J:∀ b B,rd b=some B→g b=some B) {t:Nat} {T:TI} {i:TypeInfo} {d:TypeDesc} {z:Value} (O:rE P t T i d z) {p x v:AV} {L c:Value} (hp:VR g m S p L) (hx:VR g m S x c)
  {ups:List (Nat × aJ)} {bs:List Bool} (hs:Gv T rd p x=some (v,ups,bs)) (hbs:∀ b ∈ bs,b=true):
  v= .dead∧∃ m' w',(Instr.storeAt t L c).run P w= .ok () w'∧aV ap (bi g ups) m' S w'∧Fr g m S w (bi g ups) m' S w':=by
 unfold Gv at hs
 split at hs
 ·rename_i b ver a
  have hq:=bind_some hs;clear hs;obtain ⟨B,X,hs⟩:=hq
  simp only at hs
  split at hs
  ·rename_i Q
   simp only [Bool.and_eq_true,Bool.not_eq_true'] at Q
   obtain ⟨⟨⟨⟨c1,c2⟩,V⟩,U⟩,N⟩:=Q
   have l:B.esz ≠ dw:=fun e=>by rw [e] at N;exact absurd N (by decide)
   cases hs
   have f:=J b B X
   have C:=az c1
   have K:=az V
   have R:=dK (hbs _ (List.mem_singleton.2 rfl))
   simp only [VR] at hp
   obtain ⟨B',I,_,_,q⟩:=hp
   rw [f] at I;cases I
   have q:=q C
   subst q
   obtain ⟨A,E⟩:=xG hx (fun y Z=>List.all_eq_true.1 U y Z)
   obtain ⟨⟨cur,e,vs,rest,k1,k2,k3,k4,k5,k6⟩,k7,k8⟩:=h.blk b B f
   have k1:=k1.cells l
   have k5:=k5 l
   have s:=aW A
   have M:=aW k4
   have D:c.cells.size=i.size:=by simp only [Array.length_toList] at s;rw [← O.size];omega
   have H:cur.toList.length=vs.length+rest.length:=by rw [k2];simp
   have F:=run_storeCells_at P (m b).1 a e c.cells.toList 0 cur w k1 (by simp only [Array.length_toList] at s H ⊢;omega) (fun u j=>E u (by simpa using j))
   simp only [Nat.add_zero] at F
   have hnewl:(cur.toList.take a++c.cells.toList++cur.toList.drop (a+c.cells.toList.length))=(vs.take a++c.cells.toList++vs.drop (a+c.cells.toList.length))++rest:=by
    rw [k2,List.take_append_of_le_length (by omega),List.drop_append_of_le_length (by omega)]
    simp [List.append_assoc]
   have n:=h.put b {B with cells:=dI B.cells a x.cells,pr:=B.pr && (a_ x.cells).isEmpty} (m b).1 (m b).2 (w':=w.setRow (m b).1 (cur.toList.take a++c.cells.toList++cur.toList.drop (a+c.cells.toList.length)).toArray)
    (.inr ⟨B,f,rfl⟩) ⟨rfl,rfl,rfl,by simp,fun k _ hk=>setRow_other w _ k _ (fun e=>hk (by rw [e]))⟩
    ⟨⟨_,e,vs.take a++c.cells.toList++vs.drop (a+c.cells.toList.length),rest,eP.of l (setRow_heap w _ cur _ e _ k1),by rw [List.toList_toArray,hnewl],fun r=>by
      simp only [Bool.and_eq_true] at r
      exact Gx (k3 r.1) (dE _ A (pq r.2)),BK k4 A,by
      intro _ u j
      rcases List.mem_append.1 j with j|j
      ·rcases List.mem_append.1 j with j|j
       ·exact k5 u (List.mem_of_mem_take j)
       ·exact E u (by simpa using j)
      ·exact k5 u (List.mem_of_mem_drop j),fun G _=>by
      obtain ⟨W,s2⟩:=k6 G l
      refine ⟨?_,s2⟩
      rw [← W,List.size_toArray]
      simp only [List.length_append,List.length_take,List.length_drop,Array.length_toList] at s H ⊢
      omega⟩,k7,by
     have:(dI B.cells a x.cells).length=B.cells.length:=by simp only [dI,List.length_append,List.length_take,List.length_drop];omega
     simp only [this];exact k8⟩
    (fun B0 h0=>by rw [f] at h0;cases h0;exact ⟨rfl,.inl ⟨rfl,rfl⟩⟩)
    (fun o v Y=>by
     have:=(h.own b B f o v Y).1
     rw [c2] at this;cases this)
   refine ⟨rfl,_,_, ?_,n.1,n.2⟩
   have hn:¬ (c.cells.size ≠ i.size):=by simp [D]
   simp [Instr.storeAt,Instr.sureAddr,storeVar,Go.sizeOf,typeInfo,O.info,D,F]
  ·cases hs
 ·cases hs
end
end AM
namespace AM
open Go
section
variable {P:Program} {ap:AP} {g:bD} {m:aF} {S:ay} {w:World}
theorem iZ (g:bD) (b:Nat) (B:aJ):bi g [(b,B)] b=some B:=by rw [jh,if_pos rfl]
theorem yt {w w':World} (h:w.grownBy w' none) (r:Option Nat):w.grownBy w' r:=⟨h.os,h.tape,h.output,h.size,fun k a _=>h.block k a (by simp)⟩
theorem jL (w:World) (o:Obj):w.grownBy (w.drew.alloc o) none:=⟨rfl,rfl,rfl,by simp,fun k a _=>Go.RowKit.Below.heap_alloc w.drew o k a⟩
theorem qg {t tx ty e:TypeId} {i:TypeInfo} (c:P.underlying t=some (.slice e)) (d:P.info? e=some i) {x:Value} {a:List Value} (hs:Src P i.size tx x 0 a w):
  (Builtin.append_ #[t,tx] ty #[.slice none 0 0,x]).run P w= .ok (.slice none 0 0) w:=by
 rcases hs.kind with ⟨e',b⟩|b<;>simp [Builtin.append_,run_underlying c,run_underlying b,Go.sizeOf,typeInfo,d,hs.len,hs.cells]
theorem qh {t tx ty e:TypeId} {i:TypeInfo} (f:P.underlying t=some (.slice e)) (h:P.info? e=some i) {k o sLen sCap n:Nat} {x:Value} {a:List Value} (hs:Src P i.size tx x n a w) (hroom:sLen+n≤sCap)
  {cur:Array Value} {e':TypeId} (hk:w.heap[k]? =some (.cells cur e' (0,0))) (hfit:o+sLen*i.size+a.length≤cur.size):
  (Builtin.append_ #[t,tx] ty #[.slice (some ⟨k,o,none⟩) sLen sCap,x]).run P w= .ok (.slice (some ⟨k,o,none⟩) (sLen+n) sCap) (w.setRow k (cur.toList.take (o+sLen*i.size)++a++cur.toList.drop (o+sLen*i.size+a.length)).toArray):=by
 have c:=run_storeCells_at P k (o+sLen*i.size) e' a 0 cur w hk (by simpa using hfit) hs.one
 simp only [Nat.add_zero] at c
 rcases hs.kind with ⟨d,b⟩|b<;>simp [Builtin.append_,run_underlying f,run_underlying b,Go.sizeOf,typeInfo,h,hs.len,hroom,hs.cells,Addr.add_mid,c]
theorem EH (b:Nat):Bv b≤EI:=by
 unfold Bv
 split
 ·exact Nat.le_refl _
 ·decide
theorem vC {n a bytes tb:Nat} (h:a<n) (b:n≤Bv tb) (f:bytes=tb) (i:bytes≤256):Builtin.nextslicecap n a*bytes≤281474976710656:=by
 refine growslice_fits h ?_
 subst f
 unfold Bv at b
 split at b
 ·rename_i d
  have c:=Nat.le_of_ble_eq_true d
  have:n*bytes≤EI*128:=Nat.mul_le_mul b c
  have e:EI*128=140737488355328:=by decide
  omega
 ·have:n*bytes≤549755813888*256:=Nat.mul_le_mul b i
  omega
theorem tC:EI=1099511627776:=by decide
theorem wM {t tx ty e:TypeId} {i:TypeInfo} (d:P.underlying t=some (.slice e)) (f:P.info? e=some i) {x:Value} {base:Option Addr} {sLen sCap:Nat} (hs:Src P i.size tx x 0 [] w) (c:sLen≤sCap):
  (Builtin.append_ #[t,tx] ty #[.slice base sLen sCap,x]).run P w= .ok (.slice base sLen sCap) w:=by
 cases base with
 |none=>rcases hs.kind with ⟨e',b⟩|b<;>simp [Builtin.append_,run_underlying d,run_underlying b,Go.sizeOf,typeInfo,f,hs.len,hs.cells,c]
 |some a=>rcases hs.kind with ⟨e',b⟩|b<;>simp [Builtin.append_,run_underlying d,run_underlying b,Go.sizeOf,typeInfo,f,hs.len,hs.cells,c,storeCells]
theorem qp (h:aV ap g m S w) {rd:bD} (M:∀ b B,rd b=some B→g b=some B) {nid:Nat} (hn:g nid=none) {t tx e:Nat} {ti p:TI} {i F:TypeInfo} {z Q:Value} {de:TypeDesc} (ht:rE P t ti i (.slice e) z) (r:rE P e p F de Q)
  {s x v:AV} {cs cx:Value} (hvs:VR g m S s cs) (hvx:VR g m S x cx)
  (hk:((∃ s,x= .str s)∧P.underlying tx=some .string∧p.size=1)∨((∀ s,x ≠ .str s)∧∃ e,P.underlying tx=some (.slice e)))
  {em:Bool} (O:s= .nilS→∃ n,qO x=some n∧Nat.beq n 0=em)
  {ups:List (Nat × aJ)} {bs:List Bool} (E:rM nid p rd em s x=some (v,ups,bs)) (y:∀ b ∈ bs,b=true) (ty:Nat):
  ∃ cv m' w',(Builtin.append_ #[t,tx] ty #[cs,cx]).run P w= .ok cv w'∧aV ap (bi g ups) m' S w'∧Fr g m S w (bi g ups) m' S w'∧VR (bi g ups) m' S v cv:=by
 have hcount:∀ L n pr,EY p.size rd x=some (L,n,pr)→qO x=some n:=by
  intro L n pr a
  unfold EY at a
  split at a
  ·cases a;rfl
  ·cases a;rfl
  ·cases a;rfl
  ·have hq:=bind_some a;clear a;obtain ⟨B,hB,a⟩:=hq
   split at a
   ·cases a;rfl
   ·cases a
  ·cases a
 unfold rM at E
 have hq:=bind_some E;clear E;obtain ⟨⟨L,n,pr⟩,a,E⟩:=hq
 simp only at E
 split at E
 ·cases E
 ·rename_i V
  simp only [Bool.and_eq_true] at V
  have hsz:=dL V.1
  have hby:=dK V.2
  have d:p.size=F.size:=r.size
  have T:p.size ≠ dw:=fun e=>by have:=r.small;omega
  have hby':p.bytes=F.bytes:=r.bytes
  have hzs:Q.cells.size=F.size:=r.zsize
  split at E
  ·
   obtain ⟨n',hc',O⟩:=O rfl
   rw [hcount _ _ _ a] at hc'
   cases hc'
   simp only [VR,PR] at hvs
   subst hvs
   split at E
   ·
    obtain ⟨rfl,rfl,rfl⟩:=aH E
    have N:n=0:=az O
    subst N
    have hl:=az (y _ (List.mem_singleton.2 rfl))
    obtain ⟨c,hs,hv,hp⟩:=m_ (P:=P) h M hvx a hl hk
    rw [d] at hs
    exact ⟨_,m,w,qg ht.und r.info hs,by rw [dh];exact h,by rw [dh];exact Fr.refl _ _ _ _,by simp [VR,PR]⟩
   ·
    cases E
    obtain ⟨b1,y⟩:=bF y
    obtain ⟨b2,_⟩:=bF y
    have hl:=az b1
    have hroomB:=dK b2
    have hroom:=Nat.le_trans hroomB (EH _)
    have N:n ≠ 0:=by intro e;subst e;simp at O
    obtain ⟨c,hs,hv,hp⟩:=m_ (P:=P) h M hvx a hl hk
    rw [d] at hs
    have f:=run_append_grow_src w t tx ty e F Q ht.und r.info r.zero none 0 0 [] (run_firstCells_none w.drew _ _ _ _) cx n c hs (by omega) (by rw [tC] at hroom;omega) (vC (by omega) (by simpa using hroomB) (by omega) (by omega))
    have Z:n≤grownCap w n 0 e:=grownCap_ge _ _ _ _
    have U:grownCap w n 0 e≤maxLen:=grownCap_le_maxLen _ _ _ _ (by rw [tC] at hroom;simp only [maxLen];omega)
    simp only [Nat.zero_add] at f
    have hf:=h.fresh (nid:=nid) hn ⟨L,0,false,0,p.size,pr⟩ T (grownCap w n 0 e) (cur:=([]++c).toArray++Builtin.zeroCells Q.cells (grownCap w n 0 e - n)) (e:=e) (jL w _) (heap_alloc_new w.drew _) (fun _=>rfl) (Nat.zero_le _)
     (vs:=c) (rest:=(Builtin.zeroCells Q.cells (grownCap w n 0 e - n)).toList) (by simp) hp hv hs.one (fun _=> ⟨by
      simp only [Array.size_append,List.size_toArray,List.nil_append,size_zeroCells,hs.newsLen,hzs,d]
      rw [← Nat.add_mul];congr 1;omega,U⟩)
    refine ⟨_,_,_,f,hf.1,hf.2, ?_⟩
    simp only [VR]
    refine ⟨_,iZ _ _ _,Nat.le_refl _,⟨_,_,_,rfl⟩,fun _=> ⟨0, ?_, ?_, ?_,hsz,T⟩⟩
    ·simp [setM]
    ·simpa [setM] using Z
    ·simp
  ·rename_i b ver mN
   have hq:=bind_some E;clear E;obtain ⟨B,hB,E⟩:=hq
   split at E
   ·rename_i G
    simp only [Bool.and_eq_true,Bool.not_eq_true'] at G
    have hver:=az G.1.1
    have R:=az G.1.2
    have A:B.esz ≠ dw:=fun e=>by rw [e] at G;exact absurd G.2 (by decide)
    cases E
    obtain ⟨b1,y⟩:=bF y
    obtain ⟨b2,y⟩:=bF y
    obtain ⟨b3,y⟩:=bF y
    obtain ⟨b4,_⟩:=bF y
    have hl:=az b1
    have hroomB:=dK b2
    have hroom:=Nat.le_trans hroomB (EH _)
    have hfit:=dK b3
    have D:=M b B hB
    simp only [VR] at hvs
    obtain ⟨B',hB',_,_,q⟩:=hvs
    rw [D] at hB';cases hB'
    obtain ⟨o,rfl,hcap,ho,H,hnz1⟩:=q hver
    simp only [Nat.zero_add,Nat.sub_zero,Nat.zero_mul] at hcap ho ⊢
    obtain ⟨c,hs,hv,hp⟩:=m_ (P:=P) h M hvx a hl hk
    rw [d] at hs
    have hbk:=h.blk b B D
    obtain ⟨⟨cur,e',vs,rest,k1,k2,k3,k4,k5,k6⟩,k7,k8⟩:=hbk
    have k1:=k1.cells A
    have k5:=k5 A
    obtain ⟨s1,s2⟩:=k6 H A
    have hvl:=aW k4
    have hcl:cur.toList.length=vs.length+rest.length:=by rw [k2];simp
    simp only [Array.length_toList] at hcl
    have hfz:B.fz≤mN*p.size:=by
     cases hf:B.fro with
     |false=>rw [k7 hf];exact Nat.zero_le _
     |true=>simp [hf] at b4;exact dK (by simpa using b4)
    have holds:aZ S (B.cells.take (mN*p.size)) (vs.take (mN*p.size))∨B.pr=false:=by
     cases hp:B.pr with
     |false=>exact .inr rfl
     |true=>exact .inl (h_ _ (k3 hp))
    have I:(vs.take (mN*p.size)).length=mN*F.size:=by rw [List.length_take,d] at*;omega
    have W:aO g m S (B.cells.take (mN*p.size)++L) (vs.take (mN*p.size)++c):=dZ (lF _ k4) hv
    have X:(B.pr && pr)=true→aZ S (B.cells.take (mN*p.size)++L) (vs.take (mN*p.size)++c):=by
     intro hh
     simp only [Bool.and_eq_true] at hh
     exact gu (h_ _ (k3 hh.1)) (hp hh.2)
    have h1:∀ u ∈ vs.take (mN*p.size)++c,u.oneCell'=true:=by
     intro u C
     rcases List.mem_append.1 C with C|C
     ·exact k5 u (List.mem_of_mem_take C)
     ·exact hs.one u C
    have K:B.fz≤(B.cells.take (mN*p.size)++L).length:=by
     rw [List.length_append,List.length_take];omega
    by_cases hrm:mN+n≤(m b).2
    ·
     by_cases hc0:(m b).2=0
     ·have hm0:mN=0:=by omega
      have N:n=0:=by omega
      subst hm0;subst N
      have hnews:c= []:=by have:=hs.newsLen;simpa using this
      subst hnews
      have f:=wM (P:=P) (w:=w) (ty:=ty) (base:=some ⟨(m b).1,o,none⟩) (sLen:=0) (sCap:=(m b).2) ht.und r.info hs (by omega)
      have l:=h.put b {B with cells:=B.cells.take (0*p.size)++L,ver:=ver+1,pr:=B.pr && pr} (m b).1 (m b).2 (w':=w) (.inr ⟨B,D,rfl⟩) ⟨rfl,rfl,rfl,Nat.le_refl _,fun _ _ _=>rfl⟩
       ⟨⟨cur,e',_,vs.drop (0*p.size)++rest,eP.of A k1,by rw [k2];simp,X,W,fun _=>h1,k6⟩,k7,K⟩ (fun B0 h0=>by rw [D] at h0;cases h0;exact ⟨rfl,.inr (by simp only;omega)⟩)
       (fun o' u C=> ⟨h.sealed _ _ _ C,(h.own b B D o' u C)⟩)
      refine ⟨_,_,_,f,l.1,l.2, ?_⟩
      simp only [VR]
      refine ⟨_,iZ _ _ _,Nat.le_refl _,⟨_,_,_,rfl⟩,fun _=> ⟨o,by simp [setM],by simp,by simp [setM,hc0],H,A⟩⟩
     ·have Y:o=0:=ho (by omega)
      subst Y
      have hnl:=hs.newsLen
      have hbig:mN*F.size+n*F.size≤(m b).2*F.size:=by rw [← Nat.add_mul];exact Nat.mul_le_mul_right _ hrm
      have hcs:cur.size=(m b).2*F.size:=by rw [s1,R,d]
      have f:=qh (P:=P) (w:=w) (ty:=ty) (o:=0) ht.und r.info hs hrm k1 (by simp only [Nat.zero_add];omega)
      simp only [Nat.zero_add] at f
      have hlist:cur.toList.take (mN*F.size)=vs.take (mN*p.size):=by rw [k2,d,List.take_append_of_le_length (by rw [d] at hfit;omega)]
      have l:=h.put b {B with cells:=B.cells.take (mN*p.size)++L,ver:=ver+1,pr:=B.pr && pr} (m b).1 (m b).2 (w':=w.setRow (m b).1 (cur.toList.take (mN*F.size)++c++cur.toList.drop (mN*F.size+c.length)).toArray)
       (.inr ⟨B,D,rfl⟩) ⟨rfl,rfl,rfl,by simp,fun k _ hk=>setRow_other w _ k _ (fun e=>hk (by rw [e]))⟩
       ⟨⟨_,e',_,cur.toList.drop (mN*F.size+c.length),eP.of A (setRow_heap w _ cur _ e' _ k1),by rw [hlist],X,W,fun _=>h1,fun _ _=> ⟨by
        rw [← s1,List.size_toArray]
        simp only [List.length_append,List.length_take,List.length_drop,Array.length_toList]
        omega,s2⟩⟩,k7,K⟩ (fun B0 h0=>by rw [D] at h0;cases h0;exact ⟨rfl,.inr (by simp only;omega)⟩)
       (fun o' u C=>by
        obtain ⟨f1,f2⟩:=h.own b B D o' u C
        refine ⟨?_,f1,f2⟩
        have:=h.sealed _ _ _ C
        cases J:u.oneCell' with
        |false=>
         obtain ⟨_,_,hm,_⟩:=oZ this J
         rw [k1] at hm;cases hm
        |true=>
        have this:=o_ this J
        rw [iq k1] at this
        refine (eP.of A (setRow_heap w _ cur _ e' _ k1)).get ?_ (fun _=>J)
        simp only [List.append_assoc]
        rw [List.getElem?_append_left (by simp only [List.length_take,Array.length_toList];rw [d] at hfz;omega),List.getElem?_take_of_lt (by rw [d] at hfz;omega)]
        exact this)
      refine ⟨_,_,_,f,l.1,l.2, ?_⟩
      simp only [VR]
      refine ⟨_,iZ _ _ _,Nat.le_refl _,⟨_,_,_,rfl⟩,fun _=> ⟨0,by simp [setM],by simpa [setM] using hrm,by simp,H,A⟩⟩
    ·
     have hold:(Builtin.firstCells F.size mN (.slice (some ⟨(m b).1,o,none⟩) mN (m b).2)).run P w.drew= .ok (vs.take (mN*p.size)).toArray w.drew:=by
      refine run_firstCells_some w.drew F.size mN ⟨(m b).1,o,none⟩ mN _ _ I ?_
      intro j u C
      have hjl:=(List.getElem?_eq_some_iff.1 C).1
      rw [I] at hjl
      have hm0:0<mN:=by
       rcases Nat.eq_zero_or_pos mN with h0|h0
       ·subst h0;simp at hjl
       ·exact h0
      have Y:o=0:=ho (by omega)
      subst Y
      rw [Addr.add_mid,Nat.zero_add,iq (w:=w.drew) (j:=j) k1,k2]
      rw [List.getElem?_take] at C
      split at C
      ·rw [List.getElem?_append_left (List.getElem?_eq_some_iff.1 C).1];exact C
      ·cases C
     have f:=run_append_grow_src w t tx ty e F Q ht.und r.info r.zero (some ⟨(m b).1,o,none⟩) mN (m b).2 _ hold cx n c hs (by omega) (by rw [tC] at hroom;omega) (vC (by omega) hroomB (by omega) (by omega))
     have Z:mN+n≤grownCap w (mN+n) (m b).2 e:=grownCap_ge _ _ _ _
     have U:grownCap w (mN+n) (m b).2 e≤maxLen:=grownCap_le_maxLen _ _ _ _ (by rw [tC] at hroom;simp only [maxLen];omega)
     have l:=h.put b {B with cells:=B.cells.take (mN*p.size)++L,ver:=ver+1,pr:=B.pr && pr} w.heap.size (grownCap w (mN+n) (m b).2 e) (.inl (Nat.le_refl _))
      (yt (jL w (.cells ((vs.take (mN*p.size)++c).toArray++Builtin.zeroCells Q.cells (grownCap w (mN+n) (m b).2 e - (mN+n))) e)) _)
      ⟨⟨(vs.take (mN*p.size)++c).toArray++Builtin.zeroCells Q.cells (grownCap w (mN+n) (m b).2 e - (mN+n)),e,_,(Builtin.zeroCells Q.cells (grownCap w (mN+n) (m b).2 e - (mN+n))).toList,eP.of A (heap_alloc_new w.drew _),by simp,X,W,fun _=>h1,fun _ _=> ⟨by
       simp only [Array.size_append,List.size_toArray,List.length_append,size_zeroCells,hs.newsLen,hzs]
       rw [I,R,d,← Nat.add_mul,← Nat.add_mul];congr 1;omega,U⟩⟩,k7,K⟩ (fun B0 h0=>by rw [D] at h0;cases h0;exact ⟨rfl,.inr (by simp only;omega)⟩)
      (fun o' u C=>absurd (h.seal_lt C) (Nat.lt_irrefl _))
     refine ⟨_,_,_,f,l.1,l.2, ?_⟩
     simp only [VR]
     refine ⟨_,iZ _ _ _,Nat.le_refl _,⟨_,_,_,rfl⟩,fun _=> ⟨0,by simp [setM],by simpa [setM] using Z,by simp,H,A⟩⟩
   ·cases E
  ·cases E
end
end AM
namespace AM
open Go
theorem v_ (n:Nat) (z:List AV):(fK n z).length=n*z.length:=by simp [fK]
theorem Jm (n:Nat) (z:List AV):fK (n+1) z=z++fK n z:=by simp [fK,List.replicate_succ]
theorem EG:∀ (n:Nat) (z:List AV) (i:Nat),i<n*z.length→(fK n z)[i]? =z[i % z.length]?
 |0,z,i,h=>by simp at h
 | n+1,z,i,h=>by
  rw [Jm]
  by_cases a:i<z.length
  ·rw [List.getElem?_append_left a,Nat.mod_eq_of_lt a]
  ·have a:z.length≤i:=by omega
   rw [List.getElem?_append_right a,EG n z (i - z.length) (by rw [Nat.add_mul,Nat.one_mul] at h;omega)]
   congr 1
   rw [← Nat.mod_eq_sub_mod a]
section
variable {P:Program} {ap:AP} {g:bD} {m:aF} {S:ay} {w:World}
theorem xF:∀ {l:List AV} {vs:List Value},l.length=vs.length→(∀ (i:Nat) x v,l[i]? =some x→vs[i]? =some v→VR g m S x v)→aO g m S l vs
 | [],[],_,_=>by simp [aO]
 |x::r,v::vs,hl,h=>by
  simp only [aO]
  exact ⟨h 0 x v rfl rfl,xF (by simpa using hl) fun i x v a b=>h (i+1) x v (by simpa using a) (by simpa using b)⟩
 | [],_::_,h,_=>by simp at h
 |_::_,[],h,_=>by simp at h
theorem uG (z:Array Value) (n:Nat):(madeCells z n).toList=(List.range n).map fun i=>z[i % z.size]! :=by simp [madeCells]
theorem lg {t:Nat} {l:TI} {i:TypeInfo} {d:TypeDesc} {z:Value} (e:rE P t l i d z) (n:Nat):aO g m S (fK n l.zero) (madeCells z.cells (n*i.size)).toList:=by
 have o:=lG (g:=g) (m:=m) (S:=S) e
 have a:=aW o
 simp only [Array.length_toList,e.zsize] at a
 refine xF (by rw [v_,a,Array.length_toList,size_madeCells]) ?_
 intro j x v k f
 have c:j<n*i.size:=by
  have:=(List.getElem?_eq_some_iff.1 k).1
  rw [v_,a] at this;exact this
 rw [EG n l.zero j (by rw [a];exact c),a] at k
 rw [uG,e.zsize,List.getElem?_map,List.getElem?_range c] at f
 simp only [Option.map_some,Option.some.injEq] at f
 obtain ⟨q,b,p⟩:=mf o _ k
 have hm:j % i.size<z.cells.size:=by rw [e.zsize];exact Nat.mod_lt _ (by
  rcases Nat.eq_zero_or_pos i.size with h|h
  ·rw [h,Nat.mul_zero] at c;exact absurd c (Nat.not_lt_zero _)
  ·exact h)
 simp only [Array.getElem?_toList] at b
 rw [getElem!_pos z.cells _ hm] at f
 rw [Array.getElem?_eq_getElem hm] at b
 cases b
 rw [← f];exact p
theorem uX {n:Nat} {z:List AV} (h:∀ x ∈ z,jy x=true):∀ x ∈ fK n z,jy x=true:=by
 intro x a
 simp only [fK,List.mem_flatten,List.mem_replicate] at a
 obtain ⟨l,⟨_,rfl⟩,a⟩:=a
 exact h x a
theorem rJ:∀ {l:List AV} {vs:List Value},aO g m S l vs→(∀ x ∈ l,jy x=true)→∀ u ∈ vs,u.oneCell'=true
 | [],[],_,_=>by simp
 |x::r,v::vs,h,hl=>by
  simp only [aO] at h
  intro u a
  rcases List.mem_cons.1 a with rfl|a
  ·exact Fg h.1 (hl x (by simp))
  ·exact rJ h.2 (fun y b=>hl y (by simp [b])) u a
 | [],_::_,h,_=>by simp [aO] at h
 |_::_,[],h,_=>by simp [aO] at h
theorem CP {b vs:List AV} {a:Nat} {x:AV} (h:x ∈ dI b a vs):x ∈ b∨x ∈ vs:=by
 simp only [dI,List.mem_append] at h
 rcases h with (h|h)|h
 ·exact .inl (List.mem_of_mem_take h)
 ·exact .inr h
 ·exact .inl (List.mem_of_mem_drop h)
theorem yc:∀ {ps:List (Nat × Nat × AV)} {cells cells':List AV},qB cells ps=some cells'→(∀ x ∈ cells,jy x=true)→∀ x ∈ cells',jy x=true
 | [],cells,cells',h,hl=>by simp [qB] at h;subst h;exact hl
 | (off,size,v)::r,cells,cells',h,hl=>by
  simp only [qB] at h
  split at h
  ·rename_i b
   simp only [Bool.and_eq_true] at b
   refine yc h fun x a=> ?_
   rcases CP a with a|a
   ·exact hl x a
   ·exact List.all_eq_true.1 b.2 x a
  ·cases h
theorem OO {nid:Nat} {cells:List AV} {a k c n:Nat} (d:n≤c) (hp:0<a) (b:a ≠ dw):VR (bi g [iT nid cells a]) (setM m nid (k,c)) S (.ref nid 0 0 n) (.slice (some ⟨k,0,none⟩) n c):=by
 simp only [VR]
 refine ⟨_,iZ _ _ _,Nat.zero_le _,⟨_,_,_,rfl⟩,fun _=> ⟨0,by simp [setM],by simpa [setM] using d,by simp,hp,b⟩⟩
theorem LV {nid:Nat} {cells:List AV} {a k c n:Nat} {p:Bool} (d:n≤c) (hp:0<a) (b:a ≠ dw):VR (bi g [(nid,⟨cells,0,false,0,a,p⟩)]) (setM m nid (k,c)) S (.ref nid 0 0 n) (.slice (some ⟨k,0,none⟩) n c):=by
 simp only [VR]
 refine ⟨_,iZ _ _ _,Nat.zero_le _,⟨_,_,_,rfl⟩,fun _=> ⟨0,by simp [setM],by simpa [setM] using d,by simp,hp,b⟩⟩
theorem mX:∀ (a b:List AV),a_ (a++b)=a_ a++a_ b
 | [],b=>by simp [a_]
 |x::r,b=>by simp [a_,mX r b]
theorem uV (z:List AV) (h:a_ z= []):∀ n,a_ (fK n z)= []
 |0=>by simp [fK,a_]
 |n+1=>by
  have a:=uV z h n
  simp only [fK,List.replicate_succ,List.flatten_cons,mX,h,List.nil_append] at a ⊢
  exact a
theorem BU (h:aV ap g m S w) {rd:bD} (V:∀ b B,rd b=some B→g b=some B) {t e:Nat} {ti a:TI} {i O:TypeInfo} {z L:Value} {de:TypeDesc} (W:rE P t ti i (.slice e) z) (c:rE P e a O de L) {x v:AV} {cx:Value} (J:VR g m S x cx)
  {ups:List (Nat × aJ)} {bs:List Bool} (l:FD a rd x=some (v,ups,bs)) (hbs:∀ b ∈ bs,b=true) (ats:Array TypeId) (hat:ats[0]? =some t) (args:Array Value) (harg:args[0]? =some cx) (ty:TypeId):
  ∃ m' w',(Builtin.clear_ ats ty args).run P w= .ok (.tuple #[]) w'∧aV ap (bi g ups) m' S w'∧Fr g m S w (bi g ups) m' S w'∧v= .tup []:=by
 unfold FD at l
 split at l
 ·obtain ⟨rfl,rfl,rfl⟩:=aH l
  simp only [VR,PR] at J
  subst J
  exact ⟨m,w,by simp [Builtin.clear_,hat,harg,run_underlying W.und],by rw [dh];exact h,by rw [dh];exact Fr.refl _ _ _ _,rfl⟩
 ·rename_i b ver j n
  have hq:=bind_some l;clear l;obtain ⟨B,hB,l⟩:=hq
  split at l
  ·rename_i H
   simp only [Bool.and_eq_true,Bool.not_eq_true'] at H
   obtain ⟨⟨⟨⟨c1,c2⟩,c3⟩,c4⟩,c5⟩:=H
   cases l
   have f:=V b B hB
   have D:=az c1
   have d:=az c3
   have hfit:=dK (hbs _ (List.mem_singleton.2 rfl))
   have s:B.esz ≠ dw:=by have h1:=c.small;have h2:=c.size;omega
   simp only [VR] at J
   obtain ⟨B',G,_,_,q⟩:=J
   rw [f] at G;cases G
   obtain ⟨o,rfl,hjn,Y,hpos,_⟩:=q D
   have A:aO g m S (fK n a.zero) (madeCells L.cells (n*O.size)).toList:=lg c n
   have R:∀ x ∈ fK n a.zero,jy x=true:=uX c.zleaf
   have C:=rJ A R
   have X:a_ (fK n a.zero)= []:=uV _ (by simpa using c5) _
   have r:=aW A
   have I:(fK n a.zero).length=n*a.size:=by rw [r,Array.length_toList,size_madeCells,c.size]
   obtain ⟨⟨cur,K,vs,rest,k1,k2,k3,k4,k5,k6⟩,k7,k8⟩:=h.blk b B f
   have k1:=k1.cells s
   have k5:=k5 s
   have Z:=aW k4
   have F:cur.toList.length=vs.length+rest.length:=by rw [k2];simp
   generalize N:(madeCells L.cells (n*O.size)).toList=zs at A C r
   have Q:zs.length=n*a.size:=by rw [← r,I]
   have U:(Builtin.zeroCells L.cells n).toList=zs:=by rw [← N,← c.zsize];rfl
   have E:=run_storeCells_at P (m b).1 (j*a.size) K zs 0 cur w k1 (by simp only [Array.length_toList] at F;omega) C
   simp only [Nat.add_zero] at E
   have hnewl:(cur.toList.take (j*a.size)++zs++cur.toList.drop (j*a.size+zs.length))=(vs.take (j*a.size)++zs++vs.drop (j*a.size+zs.length))++rest:=by
    rw [k2,List.take_append_of_le_length (by omega),List.drop_append_of_le_length (by omega)]
    simp [List.append_assoc]
   have y:=h.put b {B with cells:=dI B.cells (j*a.size) (fK n a.zero)} (m b).1 (m b).2 (w':=w.setRow (m b).1 (cur.toList.take (j*a.size)++zs++cur.toList.drop (j*a.size+zs.length)).toArray)
    (.inr ⟨B,f,rfl⟩) ⟨rfl,rfl,rfl,by simp,fun k _ hk=>setRow_other w _ k _ (fun e=>hk (by rw [e]))⟩
    ⟨⟨_,K,vs.take (j*a.size)++zs++vs.drop (j*a.size+zs.length),rest,eP.of s (setRow_heap w _ cur _ K _ k1),by rw [List.toList_toArray,hnewl],fun M=>Gx (k3 M) (dE _ A X),BK k4 A,by
      intro _ u p
      rcases List.mem_append.1 p with p|p
      ·rcases List.mem_append.1 p with p|p
       ·exact k5 u (List.mem_of_mem_take p)
       ·exact C u p
      ·exact k5 u (List.mem_of_mem_drop p),fun d _=>by
      obtain ⟨s1,s2⟩:=k6 d s
      refine ⟨?_,s2⟩
      rw [← s1,List.size_toArray]
      simp only [List.length_append,List.length_take,List.length_drop,Array.length_toList] at r F ⊢
      omega⟩,k7,by
     have:(dI B.cells (j*a.size) (fK n a.zero)).length=B.cells.length:=by simp only [dI,List.length_append,List.length_take,List.length_drop];omega
     simp only [this];exact k8⟩
    (fun B0 h0=>by rw [f] at h0;cases h0;exact ⟨rfl,.inl ⟨rfl,rfl⟩⟩)
    (fun o v A=>by
     have:=(h.own b B f o v A).1
     rw [c2] at this;cases this)
   refine ⟨_,_, ?_,y.1,y.2,rfl⟩
   by_cases hn:n=0
   ·subst hn
    have T:zs= []:=List.eq_nil_of_length_eq_zero (by simpa using Q)
    subst T
    have hsame:w.setRow (m b).1 (cur.toList.take (j*a.size)++ []++cur.toList.drop (j*a.size+([]:List Value).length)).toArray=w:=by
     simp only [List.append_nil,List.length_nil,Nat.add_zero,List.take_append_drop,Array.toArray_toList]
     exact setRow_self w _ cur K (0,0) k1
    rw [hsame]
    simp [Builtin.clear_,hat,harg,run_underlying W.und]
   ·have Y:=Y (by omega)
    subst Y
    rw [d] at harg
    cases n with
    |zero=>exact absurd rfl hn
    |succ n=>simp [Builtin.clear_,hat,harg,run_underlying W.und,zeroValue,typeInfo,c.info,c.zero,U,E,Result.andThen]
  ·cases l
 ·cases l
theorem uH (I:dn P ap) (h:aV ap g m S w) {nid:Nat} (U:g nid=none) {t:Nat} {R:TI} {i:TypeInfo} {d:TypeDesc} {z:Value} (L:rE P t R i d z) {l c:AV} {cl K:Value} (J:VR g m S l cl) (N:VR g m S c K)
  {v:AV} {ups:List (Nat × aJ)} {bs:List Bool} (hm:qX ap nid R l c=some (v,ups,bs)) (j:∀ b ∈ bs,b=true):
  ∃ cv m' w',(Instr.makeSlice t cl K).run P w= .ok cv w'∧aV ap (bi g ups) m' S w'∧Fr g m S w (bi g ups) m' S w'∧VR (bi g ups) m' S v cv:=by
 unfold qX at hm
 split at hm
 ·rename_i e kl l T c u
  have W:=bind_some hm;clear hm;obtain ⟨k,a,hm⟩:=W
  obtain ⟨n,X,E,a⟩:=bJ I a
  split at hm
  ·rename_i f
   simp only [Bool.and_eq_true] at f
   have A:=f.2
   have f:=f.1
   have r:=dL f.1.1
   have D:=dK f.2
   have C:a_ (fK l.toNat k.zero)= []:=uV _ (by simpa using A) _
   generalize k.zero.all LJ=p at hm
   cases hm
   obtain ⟨s,j⟩:=bF j
   obtain ⟨F,j⟩:=bF j
   obtain ⟨M,_⟩:=bF j
   have s:0≤l:=of_decide_eq_true s
   have F:l=c:=of_decide_eq_true F
   have M:l≤2^40:=of_decide_eq_true M
   subst F
   simp only [VR,PR] at J N
   subst J;subst N
   rw [L.d_eq] at u
   have u:=dU u
   subst u
   have o:(n.bytes:Int)*l≤281474976710656:=by
    have y:(n.bytes:Int)≤128:=by rw [← a.bytes];exact_mod_cast D
    have O:(n.bytes:Int)*l≤128*l:=Int.mul_le_mul_of_nonneg_right y s
    have V:(2:Int)^40=1099511627776:=by decide
    omega
   have H:l≤9223372036854775807:=by
    have V:(2:Int)^40=1099511627776:=by decide
    omega
   have q:=run_make (P:=P) w t e n E L.und a.info a.zero kl T l l s (Int.le_refl _) o H
   have B:aO g m S (fK l.toNat k.zero) (madeCells E.cells (l.toNat*n.size)).toList:=lg a _
   have G:∀ x ∈ fK l.toNat k.zero,jy x=true:=uX a.zleaf
   have Q:=h.fresh (nid:=nid) U ⟨fK l.toNat k.zero,0,false,0,k.size,p⟩ (by have y:=a.small;have O:=a.size;show k.size ≠ dw;omega) l.toNat (w':=w.alloc (.cells (madeCells E.cells (l.toNat*n.size)) e)) (World.grownBy_alloc w _ none) (heap_alloc_new w _) (fun _=>rfl) (Nat.zero_le _)
    (rest:= []) (by rw [List.append_nil]) (fun hp=>dE _ B C) B (rJ B G) (fun _=> ⟨by rw [size_madeCells];simp [a.size],by simp only [maxLen];omega⟩)
   refine ⟨_,_,_,q,Q.1,Q.2, ?_⟩
   exact LV (Nat.le_refl _) r (by have y:=a.small;have O:=a.size;omega)
  ·cases hm
 ·cases hm
theorem oL {t e:TypeId} {i:TypeInfo} {z:Value} (c:P.underlying t=some (.slice e)) (h:P.info? e=some i) (f:i.zero=some z) {a:Nat} (j:a*i.size≤2^24) (h0:a*i.size ≠ 0) {parts:Array (Nat × Value)} {cells:Array Value}
  (hf:Instr.fill (fun d=>some (d*i.size,i.size)) (madeCells z.cells (a*i.size)) parts.toList=some cells):
  (Instr.buildSlice t a parts).run P w= .ok (.slice (some ⟨w.heap.size,0,none⟩) a a) (w.alloc (.cells cells e)):=by
 have b:¬ (a*i.size>2^24):=by omega
 unfold madeCells at hf
 simp only [Instr.buildSlice,Sem.run_bind,run_underlying c,Result.andThen_ok]
 simp [Go.sizeOf,typeInfo,h,zeroValue,f,h0,newRow]
 rw [if_neg (by simpa using b)]
 simp [hf]
theorem wO {t e:TypeId} {i:TypeInfo} (b:P.underlying t=some (.slice e)) (d:P.info? e=some i) {a:Nat} (h0:a*i.size=0) {parts:Array (Nat × Value)} {cells:Array Value}
  (hf:Instr.fill (fun c=>some (c*i.size,i.size)) #[] parts.toList=some cells):
  (Instr.buildSlice t a parts).run P w= .ok (.slice (some ⟨w.heap.size,0,none⟩) a a) (w.alloc (.cells cells e)):=by
 simp [Instr.buildSlice,run_underlying b,Go.sizeOf,typeInfo,d,h0,newRow,Array.range_zero',hf]
theorem rP (D:dn P ap) (h:aV ap g m S w) {nid:Nat} (J:g nid=none) {t:Nat} {F:TI} {i:TypeInfo} {d:TypeDesc} {z:Value} (u:rE P t F i d z) {b:Nat} {ps:List (Nat × AV)} {qs:Array (Nat × Value)} (L:rG g m S ps qs.toList)
  {v:AV} {ups:List (Nat × aJ)} {bs:List Bool} (hm:nY ap nid F b ps=some (v,ups,bs)):
  ∃ cv m' w',(Instr.buildSlice t b qs).run P w= .ok cv w'∧aV ap (bi g ups) m' S w'∧Fr g m S w (bi g ups) m' S w'∧VR (bi g ups) m' S v cv:=by
 unfold nY at hm
 split at hm
 ·rename_i e q
  have j:=bind_some hm;clear hm;obtain ⟨o,a,hm⟩:=j
  obtain ⟨y,M,K,a⟩:=bJ D a
  split at hm
  ·rename_i f
   simp only [Bool.and_eq_true] at f
   have c:=dL f.1.1
   have A:=dK f.1.2
   have j:=bind_some hm;clear hm;obtain ⟨cs,n,hm⟩:=j
   cases hm
   rw [u.d_eq] at q
   have q:=dU q
   subst q
   have B:aO g m S (fK b o.zero) (madeCells K.cells (b*y.size)).toList:=lg a _
   obtain ⟨k,p,r,H⟩:=kK _ qs.toList _ cs _ (mP (size:=o.size) L) B n
   rw [a.size] at p
   have l:(Instr.buildSlice t b qs).run P w= .ok (.slice (some ⟨w.heap.size,0,none⟩) b b) (w.alloc (.cells k e)):=by
    by_cases h0:b*y.size=0
    ·exact wO u.und a.info h0 (by rw [h0] at p;simpa [madeCells,Array.range_zero'] using p)
    ·exact oL u.und a.info a.zero (by rw [← a.size];exact A) h0 p
   have C:∀ x ∈ cs,jy x=true:=yc n (uX a.zleaf)
   have s:k.size=b*y.size:=by rw [H,size_madeCells]
   have G:=h.fresh (nid:=nid) J (iT nid cs o.size).2 (by have E:=a.small;have I:=a.size;show o.size ≠ dw;omega) b (w':=w.alloc (.cells k e)) (World.grownBy_alloc w _ none) (heap_alloc_new w _) (fun _=>rfl) (Nat.zero_le _)
    (rest:= []) (by rw [List.append_nil]) (fun hp=>dE _ r (pq hp)) r (rJ r C) (fun _=> ⟨by rw [s];simp [iT,a.size],by
     have E:b≤b*o.size:=Nat.le_mul_of_pos_right _ c
     have N:(2:Nat)^24=16777216:=by decide
     simp only [maxLen];omega⟩)
   refine ⟨_,_,_,l,G.1,G.2, ?_⟩
   exact OO (Nat.le_refl _) c (by have E:=a.small;have I:=a.size;omega)
  ·cases hm
 ·cases hm
theorem Dp {d:TypeDesc} {k e:Nat} (h:gJ P (some d)= .map k e):d= .map k e:=by cases d<;>simp [gJ] at h;obtain ⟨rfl,rfl⟩:=h;rfl
theorem I4 {k:LK} {x y:AV} {u v:Value} (a:AZ k x=true) (b:AZ k y=true) (d:VR g m S x u) (c:VR g m S y v):
  nJ k u v=some (x_ x y)∧(x_ x y=true→u=v)∧(∀ n,Instr.sameBits n u u=true)∧bU x= []:=by
 cases k<;>cases x<;>simp [AZ] at a<;>cases y<;>simp [AZ] at b<;>simp only [VR,PR] at d c<;>subst d<;>subst c
 ·refine ⟨by simp [nJ,x_,a,b],fun h=> ?_,fun n=>by simp [Instr.sameBits],rfl⟩
  simp only [x_,beq_iff_eq] at h
  rw [← dP a,← dP b,h]
 ·refine ⟨by simp [nJ,x_],fun h=> ?_,fun n=>by simp [Instr.sameBits],rfl⟩
  simp only [x_,beq_iff_eq] at h
  rw [h]
 ·refine ⟨by simp [nJ,x_,rD],fun h=> ?_,fun n=>by cases n<;>simp [Instr.sameBits,MapKept.bytes_beq],rfl⟩
  simp only [x_,beq_iff_eq] at h
  rw [h]
theorem jP:∀ {lks:List LK} {a b:List AV} {c d:List Value},jk lks a=true→jk lks b=true→aO g m S a c→aO g m S b d→
  bY lks c d=some (Cb a b)∧(Cb a b=true→c=d)∧(∀ n,∀ x ∈ c,Instr.sameBits n x x=true)∧a_ a= []
 | [],[],[],[],[],_,_,_,_=> ⟨rfl,fun _=>rfl,by simp,rfl⟩
 | k::lks,x::a,y::b,u::c,v::d,ha,hb,h1,h2=>by
  simp only [jk,Bool.and_eq_true] at ha hb
  simp only [aO] at h1 h2
  obtain ⟨p,q,f,i⟩:=I4 ha.1 hb.1 h1.1 h2.1
  obtain ⟨r,l,o,j⟩:=jP ha.2 hb.2 h1.2 h2.2
  refine ⟨by simp [bY,p,r,Cb],fun h=> ?_,fun n z e=> ?_,by simp [a_,i,j]⟩
  ·simp only [Cb,Bool.and_eq_true] at h
   rw [q h.1,l h.2]
  ·rcases List.mem_cons.1 e with rfl|e
   ·exact f n
   ·exact o n z e
 | [],_::_,_,_,_,ha,_,_,_=>by simp [jk] at ha
 |_::_,[],_,_,_,ha,_,_,_=>by simp [jk] at ha
 | [],[],_::_,_,_,_,hb,_,_=>by simp [jk] at hb
 |_::_,_::_,[],_,_,_,hb,_,_=>by simp [jk] at hb
 | [],[],[],_::_,_,_,_,h1,_=>by simp [aO] at h1
 | [],[],[],[],_::_,_,_,_,h2=>by simp [aO] at h2
 |_::_,_::_,_::_,[],_,_,_,h1,_=>by simp [aO] at h1
 |_::_,_::_,_::_,_::_,[],_,_,_,h2=>by simp [aO] at h2
def Pj (P:Program) (n:Nat) (t:TypeId) (lks:List LK):Prop:=
 ∀ (em:Bool) (d:Nat) (w:World) (xs:List Value),n≤d→bY lks xs xs=some true→(Instr.checkKey em d t (oP P t xs)).run P w= .ok () w
theorem oh {lks:List LK} {a:List Value} {r:Bool} (h:bY lks a a=some r):bY lks a a=some true:=by
 induction lks generalizing a r with
 |nil=>cases a<;>simp [bY] at h ⊢
 | cons k lks ih=>
  cases a with
  |nil=>simp [bY] at h
  | cons x a=>
   simp only [bY] at h ⊢
   obtain ⟨c,b,h⟩:=bind_some h
   rw [Option.map_eq_some_iff] at h
   obtain ⟨d,i,rfl⟩:=h
   have e:nJ k x x=some true:=by
    cases k<;>cases x<;>simp [nJ] at b ⊢
    split at b
    ·rename_i f
     simp [f]
    ·cases b
   simp [e,ih i]
theorem lT {n:Nat} (v:∀ t lks,fV P n t=some lks→Pj P n t lks):∀ (fs:List Field) (off:Nat) (lks:List LK),rY P (fV P n) fs off=some lks→
  ∀ (em:Bool) (d:Nat) (w:World) (xs:List Value),n≤d→xs.length=off+lks.length→bY lks (xs.drop off) (xs.drop off)=some true→
   (forIn (m:=Sem) fs PUnit.unit fun f _=>do
    if f.name ≠ "_" then Instr.checkKey em d f.type (← part f.type xs.toArray f.offset)
    pure (ForInStep.yield PUnit.unit)).run P w= .ok PUnit.unit w
 | [],off,lks,hc,em,d,w,xs,hd,hx,h=>by simp
 | f ::fs,off,lks,hc,em,d,w,xs,hd,hx,h=>by
  simp only [rY] at hc
  cases j:fV P n f.type with
  |none=>simp [j] at hc
  | some l=>
   simp only [j] at hc
   split at hc
   ·rename_i hcond
    simp only [Bool.and_eq_true,Bool.not_eq_true'] at hcond
    obtain ⟨⟨u,q⟩,c⟩:=hcond
    cases r:rY P (fV P n) fs (off+l.length) with
    |none=>simp [r] at hc
    | some l'=>
     simp only [r] at hc
     cases hc
     cases s:P.info? f.type with
     |none=>simp [s] at c
     |some i=>
      simp only [s] at c
      have c:=az c
      have q:=az q
      have p:f.name ≠ "_" :=by intro e;rw [e] at u;exact absurd u (by decide)
      simp only [List.length_append] at hx
      obtain ⟨a,b,o,k,z⟩:=mF l l' _ _ true h
      have o:=oh o
      have k:=oh k
      have y:=oM j s c xs off (by omega) w
      have x:=v f.type l j em d w _ hd o
      have A:=lT v fs (off+l.length) l' r em d w xs hd (by omega) (by simpa [List.drop_drop,Nat.add_comm] using k)
      simp only [List.forIn_cons,Sem.run_bind,p,ne_eq,not_false_eq_true,if_true,Result.andThen_ok,q,y,x,Sem.run_pure]
      simpa using A
   ·cases hc
theorem DJ:∀ (n:Nat) (t:TypeId) (lks:List LK),fV P n t=some lks→Pj P n t lks
 |0,_,_,h=>by simp [fV] at h
 | n +1,t,lks,h=>by
  intro f d w c i b
  obtain ⟨d,rfl⟩:∃ k,d=k+1:=⟨d - 1,by omega⟩
  have e:=kW _ _ _ _ b
  unfold fV at h
  cases a:P.underlying t with
  |none=>simp [a] at h
  | some ds=>
   unfold Instr.checkKey
   simp only [Sem.run_bind,run_underlying a,Result.andThen_ok,oP,a]
   cases ds<;>simp only [a] at h<;>try cases h
   case struct fs=>
    split at h
    ·cases h
    ·have:=lT (DJ n) fs.toList 0 lks h f d w c (by omega) (by simp [e.1]) (by simpa using b)
     simp only [← Array.forIn_toList]
     simpa using this
   all_goals (cases c.headD undef<;>simp)
theorem yH (h:dn P ap) {t:Nat} {j:TI} (e:ap.tyAt t=some j) {a b:List AV} {d o:List Value} (c:j.cmp=true) (f:jk j.lks a=true) (u:jk j.lks b=true) (n:aO g m S a d) (x:aO g m S b o) (p:∃ v,P.underlying t=some (.struct v)):
  (∀ s,(Instr.checkKey s 10000 t (.agg d.toArray)).run P w= .ok () w)∧(Op.equal t (.agg d.toArray) (.agg o.toArray)).run P w= .ok (Cb a b) w:=by
 obtain ⟨v,p⟩:=p
 rw [(tY h e).1] at c
 rw [(tY h e).2] at f u
 unfold NZ at c
 cases i:fV P 8 t with
 |none=>simp [i] at c
 |some l=>
  simp only [i,Bool.and_eq_true,Bool.not_eq_true'] at c
  have k:=yM c.1
  rw [← k] at f u
  have q:=xM 8 t l i 10000 w d o _ (by omega) (jP f u n x).1
  have r:=fun s=>DJ 8 t l i s 10000 w d (by omega) (oh (jP f f n n).1)
  simp only [oP,p] at q r
  exact ⟨r,q⟩
theorem vO {b:TI} {d:TypeDesc} (c:b.d=gJ P (some d)) (hs:∀ fs,d ≠ .struct fs) {x:AV} {v:Value} (h:fE b x=true) (a:VR g m S x v):MapKept.IsKey d v:=by
 unfold fE at h
 rw [c] at h
 cases d<;>simp only [gJ] at h<;>cases x<;>simp at h<;>simp only [VR,PR] at a<;>first|(exact absurd rfl (hs _))|(subst a;simp only [MapKept.IsKey])
 exact (dP h).symm
theorem JZ {f:TI} {d:TypeDesc} (j:f.d=gJ P (some d)) (hs:∀ fs,d ≠ .struct fs) {x y:AV} {u v:Value} (e:fE f x=true) (c:fE f y=true) (i:VR g m S x u) (h:VR g m S y v):Instr.sameNow d u v=some (xZ x y):=by
 unfold fE at e c
 rw [j] at e c
 cases d<;>simp only [gJ] at e c<;>cases x<;>simp at e<;>cases y<;>simp at c<;>simp only [VR,PR] at i h<;>first|(exact absurd rfl (hs _))|(subst i;subst h;simp only [Instr.sameNow,xZ])
 ·rw [if_pos ((dP e).symm.trans (dP c))]
 ·rename_i a b
  congr 1
  rw [Bool.eq_iff_iff,MapKept.bytes_beq]
  simp
theorem qY (h:aV ap g m S w) {rd:bD} (k:∀ b B,rd b=some B→g b=some B) {x:AV} {p:Value} (n:VR g m S x p) {q:List AV × List AV} (a:I5 rd x=some q):
  ∃ es:Array MapEntry,((p= .map none∧es=#[])∨∃ b clk,p= .map (some b)∧w.heap[b]? =some (.map es clk))∧aO g m S q.1 (es.toList.map (·.key))∧aO g m S q.2 (es.toList.map (·.val)):=by
 unfold I5 at a
 split at a
 ·rename_i ks vs
  cases a
  simp only [VR,PR] at n
  rcases n with ⟨rfl,rfl,rfl⟩|⟨b,u,s,rfl,h0,v,r,o⟩
  ·exact ⟨#[],.inl ⟨rfl,rfl⟩,by simp [aO],by simp [aO]⟩
  ·obtain ⟨es,clk,l,d⟩:=oZ (h.sealed _ _ _ h0) rfl
   obtain ⟨y,clk',j,c⟩:=oZ (h.sealed _ _ _ v) rfl
   rw [l] at j;cases j
   have d:Value.agg (es.map (·.key))= .agg u.toArray:=Option.some.inj d
   have c:Value.agg (es.map (·.val))= .agg s.toArray:=Option.some.inj c
   have d:=Value.agg.inj d
   have c:=Value.agg.inj c
   refine ⟨es,.inr ⟨b,clk,rfl,l⟩, ?_, ?_⟩
   ·rw [← Array.toList_map,d];exact aX _ r
   ·rw [← Array.toList_map,c];exact aX _ o
 ·rename_i b ver
  have z:=bind_some a;clear a;obtain ⟨B,t,a⟩:=z
  split at a
  ·rename_i f
   simp only [Bool.and_eq_true] at f
   split at a
   ·rename_i ks vs hcells
    cases a
    simp only [VR] at n
    obtain ⟨B',i,_,_,q⟩:=n
    rw [k b B t] at i;cases i
    have q:=q (az f.1)
    obtain ⟨⟨cur,e,us,rest,k1,k2,_,k4,_,_⟩,_,_⟩:=h.blk b B (k b B t)
    obtain ⟨es,clk,l,rfl⟩:=k1.map (az f.2)
    rw [hcells] at k4
    match us,k4 with
    | [u0,u1],k4=>
     simp only [aO,VR,and_true] at k4
     obtain ⟨⟨u,rfl,r⟩,s,rfl,o⟩:=k4
     simp only [iC,List.cons_append,List.cons.injEq] at k2
     have d:=Value.agg.inj k2.1
     have c:=Value.agg.inj k2.2.1
     refine ⟨es,.inr ⟨_,clk,q,l⟩, ?_, ?_⟩
     ·rw [← Array.toList_map,d];exact r
     ·rw [← Array.toList_map,c];exact o
    | [],k4=>simp [aO] at k4
    | [_],k4=>simp [aO] at k4
    |_::_::_::_,k4=>simp [aO] at k4
   ·cases a
  ·cases a
 ·cases a
structure NK (P:Program) (g:bD) (m:aF) (S:ay) (w:World) (t:Nat) (ti:TI) (d:TypeDesc) (k:AV) (ck:Value):Prop where
 chk:∀ em,(Instr.checkKey em 10000 t ck).run P w= .ok () w
 stay:(Instr.keyThatStays ck ck).run P w= .ok ck w
 eqs:∀ {k' ck'},fE ti k'=true→VR g m S k' ck'→((match d with| .struct _=>(Op.equal t ck ck').run P w= .ok (xZ k k') w|_=>Instr.sameNow d ck ck'=some (xZ k k'))∧(xZ k k'=true→ck=ck'))
theorem uB (E:dn P ap) {t:Nat} {s:TI} {i:TypeInfo} {d:TypeDesc} {z:Value} (B:ap.tyAt t=some s) (q:rE P t s i d z) {k:AV} {ck:Value} (u:fE s k=true) (C:VR g m S k ck):NK P g m S w t s d k ck:=by
 by_cases hs:∃ o,d= .struct o
 ·obtain ⟨o,rfl⟩:=hs
  have W:=q.d_eq
  have M:∀ {x:AV},fE s x=true→∃ l,x= .agg l∧s.cmp=true∧jk s.lks l=true:=by
   intro x n
   unfold fE at n
   rw [W] at n
   cases x<;>simp [gJ] at n
   exact ⟨_,rfl,n⟩
  obtain ⟨l,rfl,K,y⟩:=M u
  have U:=C
  simp only [VR] at C
  obtain ⟨F,rfl,n⟩:=C
  refine ⟨(yH E B K y y n n ⟨o,q.und⟩).1, ?_, ?_⟩
  ·have O:Instr.sameBits 10000 (.agg F.toArray) (.agg F.toArray)=true:=by
    show Instr.sameBits (9999+1) _ _=true
    have V:=(jP y y n n).2.2.1 9999
    simp only [Instr.sameBits,beq_self_eq_true,Bool.true_and,List.all_eq_true]
    intro p hp
    obtain ⟨a,b⟩:=p
    have T:∀ l:List Value,(a,b) ∈ l.zip l→a=b∧a ∈ l:=by
     intro l
     induction l with
     |nil=>intro h;simp at h
     |cons c l ih=>
      intro h
      simp only [List.zip_cons_cons,List.mem_cons,Prod.mk.injEq] at h
      rcases h with ⟨rfl,rfl⟩|h
      ·exact ⟨rfl,by simp⟩
      ·exact ⟨(ih h).1,List.mem_cons_of_mem _ (ih h).2⟩
    obtain ⟨rfl,hm⟩:=T F hp
    exact V a hm
   simp [Instr.keyThatStays,O]
  ·intro R G f j
   obtain ⟨X,rfl,_,A⟩:=M f
   simp only [VR] at j
   obtain ⟨Y,rfl,L⟩:=j
   refine ⟨(yH E B K y A n L ⟨o,q.und⟩).2,fun H=> ?_⟩
   rw [(jP y A n L).2.1 H]
 ·have hs:∀ o,d ≠ .struct o:=fun o e=>hs ⟨o,e⟩
  have v:=vO q.d_eq hs u C
  refine ⟨fun N=>MapKept.run_checkKey q.und v N 9999,MapKept.run_keyThatStays v, ?_⟩
  intro R G f j
  have I:=JZ q.d_eq hs u f C j
  have Q:=MapKept.sameNow_of_keys v (vO q.d_eq hs f j)
  refine ⟨?_,fun H=> ?_⟩
  ·cases d<;>first|exact I|exact absurd rfl (hs _)
  ·obtain ⟨r,J,D⟩:=Q
   rw [I] at J;cases J
   exact D.1 H
def gK (P:Program) (w:World) (t:Nat) (d:TypeDesc) (ck:Value) (l:List MapEntry) (i:Nat) (r:Option (Nat × Value)):Prop:=
 match d with
 | .struct _=>(Instr.findAsking t ck l i).run P w= .ok r w
 |_=>Instr.findNow d ck l i=some r
theorem gK.nil {t:Nat} {d:TypeDesc} {ck:Value} {i:Nat}:gK P w t d ck [] i none:=by
 unfold gK;cases d<;>first|rfl|simp [Instr.findAsking]
theorem gK.hit {t:Nat} {c:TI} {d:TypeDesc} {k b:AV} {ck:Value} {e:MapEntry} {l:List MapEntry} {i:Nat} (h:NK P g m S w t c d k ck) (a:fE c b=true) (j:VR g m S b e.key) (f:xZ k b=true):gK P w t d ck (e::l) i (some (i,e.val)):=by
 have q:=(h.eqs a j).1
 rw [f] at q
 unfold gK;cases d<;>simp only at q ⊢ <;>first|(simp [Instr.findAsking,q];done)|(simp [Instr.findNow,q];done)
theorem gK.miss {t:Nat} {f:TI} {d:TypeDesc} {k c:AV} {ck:Value} {e:MapEntry} {l:List MapEntry} {i:Nat} {r:Option (Nat × Value)} (h:NK P g m S w t f d k ck) (b:fE f c=true) (n:VR g m S c e.key) (j:xZ k c=false) (a:gK P w t d ck l (i+1) r):gK P w t d ck (e::l) i r:=by
 have q:=(h.eqs b n).1
 rw [j] at q
 unfold gK at a ⊢;cases d<;>simp only at q a ⊢ <;>first|(simp [Instr.findAsking,q,a];done)|(simp [Instr.findNow,q,a];done)
theorem gK.run {t:Nat} {c:TI} {i:TypeInfo} {d:TypeDesc} {z:Value} (b:rE P t c i d z) {ck:Value} {l:List MapEntry} {r:Option (Nat × Value)} (h:gK P w t d ck l 0 r):(Instr.findKey t ck l).run P w= .ok r w:=by
 by_cases hs:∃ a,d= .struct a
 ·obtain ⟨a,rfl⟩:=hs
  simp only [gK] at h
  cases l with
  |nil=>
   simp [Instr.findAsking] at h;subst h
   simp [Instr.findKey,run_underlying b.und,Result.andThen,Instr.findNow]
  |cons e l=>
   simp only [Instr.findKey,Sem.run_bind,run_underlying b.und,Result.andThen_ok,Instr.findNow,Instr.sameNow]
   exact h
 ·have hs:∀ a,d ≠ .struct a:=fun a e=>hs ⟨a,e⟩
  refine MapKept.run_findKey b.und ?_
  unfold gK at h
  cases d<;>first|exact h|exact absurd rfl (hs _)
theorem kL {t:Nat} {q:TI} {d:TypeDesc} {k v:AV} {ck cv:Value} (b:NK P g m S w t q d k ck) (p:VR g m S v cv):∀ (l:List MapEntry) (ks vs:List AV) (i:Nat),aO g m S ks (l.map (·.key))→aO g m S vs (l.map (·.val))→ks.all (fE q)=true→
  (gK P w t d ck l i none∧fZ ks vs k=none∧ks.any (xZ k)=false∧lq ks vs k v=vs++ [v])∨
  ∃ j e x,gK P w t d ck l i (some (i+j,e.val))∧l[j]? =some e∧e.key=ck∧fZ ks vs k=some x∧VR g m S x e.val∧ks.any (xZ k)=true∧aO g m S (lq ks vs k v) ((l.set j {e with key:=ck,val:=cv}).map (·.val))
 | [],ks,vs,i,h1,h2,_=>by
  cases ks with
  |cons _ _=>simp [aO] at h1
  |nil=>
   cases vs with
   |cons _ _=>simp [aO] at h2
   |nil=>exact .inl ⟨gK.nil,rfl,rfl,rfl⟩
 | e ::l,ks,vs,i,h1,h2,ha=>by
  cases ks with
  |nil=>simp [aO] at h1
  | cons k0 ks=>
   cases vs with
   |nil=>simp [aO] at h2
   | cons v0 vs=>
    simp only [List.map_cons,aO] at h1 h2
    simp only [List.all_cons,Bool.and_eq_true] at ha
    cases a:xZ k k0 with
    |true=>
     have c:e.key=ck:=((b.eqs ha.1 h1.1).2 a).symm
     refine .inr ⟨0,e,v0,gK.hit b ha.1 h1.1 a,rfl,c, ?_,h2.1, ?_, ?_⟩
     ·simp [fZ,a]
     ·simp [a]
     ·simp only [lq,a,List.set_cons_zero,List.map_cons,aO];exact ⟨p,h2.2⟩
    | false=>
     rcases kL b p l ks vs (i+1) h1.2 h2.2 ha.2 with ⟨n,o,f,h⟩|⟨j,e',x,n,o,f,h,r,u,s⟩
     ·refine .inl ⟨gK.miss b ha.1 h1.1 a n, ?_, ?_, ?_⟩
      ·simp [fZ,a,o]
      ·simp only [List.any_cons,a,f];rfl
      ·simp [lq,a,h]
     ·refine .inr ⟨j+1,e',x, ?_,by simpa using o,f, ?_,r, ?_, ?_⟩
      ·rw [show i+(j+1)=i+1+j by omega];exact gK.miss b ha.1 h1.1 a n
      ·simp [fZ,a,h]
      ·simp only [List.any_cons,a,u];rfl
      ·simp only [lq,a,List.set_cons_succ,List.map_cons,aO];exact ⟨h2.1,s⟩
theorem vP {ok:Bool} {o:Option AV} {z:AV} {u c:Value} {b:Bool} (h:(o=none∧u=c∧b=false)∨∃ x,o=some x∧VR g m S x u∧b=true) (d:VR g m S z c):VR g m S (Hu ok o z) (if ok then .tuple #[u,.bool b] else u):=by
 have a:VR g m S (o.getD z) u∧o.isSome=b:=by
  rcases h with ⟨rfl,rfl,rfl⟩|⟨x,rfl,e,rfl⟩
  ·exact ⟨d,rfl⟩
  ·exact ⟨e,rfl⟩
 cases ok with
 |true=>
  simp only [Hu,if_true,VR]
  refine ⟨[u,.bool b],rfl, ?_⟩
  simp only [aO,VR,PR,and_true]
  exact ⟨a.1,by rw [a.2]⟩
 |false=>simpa [Hu] using a.1
theorem zZ (p:dn P ap) (h:aV ap g m S w) {rd:bD} (H:∀ b B,rd b=some B→g b=some B) {t:Nat} {I:TI} {i:TypeInfo} {d:TypeDesc} {z:Value} (A:rE P t I i d z) {x k v:AV} {K ck:Value} (W:VR g m S x K) (J:VR g m S k ck) {ok:Bool}
  {ups:List (Nat × aJ)} {bs:List Bool} (c:CJ ap I rd x k ok=some (v,ups,bs)) (r:∀ b ∈ bs,b=true):
  ups= []∧∃ cv,(Instr.lookup t K ck ok).run P w= .ok cv w∧VR g m S v cv:=by
 unfold CJ at c
 split at c
 ·rename_i Y et C
  have o:=bind_some c;clear c;obtain ⟨X,a,c⟩:=o
  have o:=bind_some c;clear c;obtain ⟨te,f,c⟩:=o
  have o:=bind_some c;clear c;obtain ⟨q,o,c⟩:=o
  have F:=bind_some c;clear c;obtain ⟨O,G,c⟩:=F
  obtain ⟨rfl,rfl,rfl⟩:=aH c
  have E:=a
  obtain ⟨ik,dk,zk,a⟩:=bJ p a
  obtain ⟨ie,Z,Q,f⟩:=bJ p f
  rw [A.d_eq] at C
  have C:=Dp C
  subst C
  obtain ⟨N,r⟩:=bF r
  obtain ⟨R,_⟩:=bF r
  obtain ⟨es,u,T,L⟩:=qY h H W o
  have l:=uB (w:=w) p E a N J
  have s:VR g m S O Q:=qZ f G
  refine ⟨rfl, ?_⟩
  rcases kL l J es.toList q.1 q.2 0 T L R with ⟨n,M,_,_⟩|⟨j,e,y,n,_,_,V,U,_,_⟩
  ·refine ⟨_, ?_,vP (.inl ⟨M,rfl,rfl⟩) s⟩
   rcases u with ⟨rfl,rfl⟩|⟨b,clk,rfl,D⟩
   ·simp [Instr.lookup,run_underlying A.und,l.chk,n.run a,zeroValue,typeInfo,f.info,f.zero,Result.andThen]
   ·simp [Instr.lookup,run_underlying A.und,MapKept.run_getObj_map D,l.chk,n.run a,zeroValue,typeInfo,f.info,f.zero,Result.andThen]
  ·refine ⟨_, ?_,vP (.inr ⟨y,V,U,rfl⟩) s⟩
   rcases u with ⟨rfl,rfl⟩|⟨b,clk,rfl,D⟩
   ·have n:=n.run a
    simp [Instr.findKey,run_underlying a.und,Result.andThen,Instr.findNow] at n
   ·simp [Instr.lookup,run_underlying A.und,MapKept.run_getObj_map D,l.chk,n.run a,Result.andThen]
 ·cases c
mutual
theorem Gy {S:ay}:∀ (x:AV) {v:Value},PR S x v→bU x= []
 | .int _ _,_,_=>rfl
 | .bool _,_,_=>rfl
 | .str _,_,_=>rfl
 | .nilS,_,_=>rfl
 | .nilP,_,_=>rfl
 | .raw _,_,_=>rfl
 | .nilF,_,_=>rfl
 | .nilI,_,_=>rfl
 | .sl _ _ _,_,_=>rfl
 | .pp _ _,_,_=>rfl
 | .mp _ _,_,_=>rfl
 | .dead,_,_=>rfl
 | .own _ _ _,_,p=>by simp only [PR] at p
 | .ref _ _ _ _,_,p=>by simp only [PR] at p
 | .ptr _ _ _,_,p=>by simp only [PR] at p
 | .mr _ _,_,p=>by simp only [PR] at p
 | .agg l,_,p=>by
  simp only [PR] at p;simp only [bU]
  obtain ⟨_,_,q⟩:=p
  exact lD l q
 | .tup l,_,p=>by
  simp only [PR] at p;simp only [bU]
  obtain ⟨_,_,q⟩:=p
  exact lD l q
 | .fn f a c,_,p=>by
  simp only [PR] at p;simp only [bU]
  obtain ⟨_,_,_,q,r⟩:=p
  rw [lD a q,lD c r];rfl
 | .ifc t x,_,p=>by
  simp only [PR] at p;simp only [bU]
  obtain ⟨_,_,q⟩:=p
  exact Gy x q
theorem lD {S:ay}:∀ (l:List AV) {vs:List Value},aZ S l vs→a_ l= []
 | [],_,_=>rfl
 |x::r,v::vs,p=>by simp only [aZ] at p;simp only [a_,Gy x p.1,lD r p.2,List.append_nil]
 |_::_,[],p=>by simp [aZ] at p
end
theorem Be (h:aV ap g m S w) {b:Nat} {B:aJ} {a:Array MapEntry} {clk':Nat} {k:Nat} {w':World} (q:w'.heap[k]? =some (.map a clk')) (l:B.esz=dw) {ks vs:List AV} (d:B.cells= [.agg ks,.agg vs]) (o:aO g m S ks (a.toList.map (·.key))) (n:aO g m S vs (a.toList.map (·.val))) (hp:B.pr=true→a_ vs= []∧a_ ks= []) (j:B.fro=false→B.fz=0) (e:B.fz≤2) (c:Nat):IC g m S w' B k c:=by
 refine ⟨⟨iC a,0,[.agg (a.map (·.key)),.agg (a.map (·.val))],[],.inr ⟨l,a,clk',q,rfl⟩,rfl, ?_, ?_,fun i=>absurd l i,fun _ i=>absurd l i⟩,j,by rw [d];exact e⟩
 ·intro f
  obtain ⟨p,r⟩:=hp f
  rw [d]
  simp only [aZ,PR,and_true]
  exact ⟨⟨(a.map (·.key)).toList,by rw [Array.toArray_toList],by rw [Array.toList_map];exact dE _ o r⟩,(a.map (·.val)).toList,by rw [Array.toArray_toList],by rw [Array.toList_map];exact dE _ n p⟩
 ·rw [d]
  simp only [aO,VR,and_true]
  exact ⟨⟨(a.map (·.key)).toList,by rw [Array.toArray_toList],by rw [Array.toList_map];exact o⟩,(a.map (·.val)).toList,by rw [Array.toArray_toList],by rw [Array.toList_map];exact n⟩
theorem z_ (h:aV ap g m S w) {nid:Nat} (d:g nid=none) (t:Nat):
  ∃ cv m' w',(Instr.makeMap t none).run P w= .ok cv w'∧aV ap (bi g [(nid,⟨[.agg [],.agg []],0,false,0,dw,true⟩)]) m' S w'∧Fr g m S w (bi g [(nid,⟨[.agg [],.agg []],0,false,0,dw,true⟩)]) m' S w'∧VR (bi g [(nid,⟨[.agg [],.agg []],0,false,0,dw,true⟩)]) m' S (.mr nid 0) cv:=by
 have a:=h.put nid ⟨[.agg [],.agg []],0,false,0,dw,true⟩ w.heap.size 0 (w':=w.alloc (.map #[] 0)) (.inl (Nat.le_refl _)) (World.grownBy_alloc w _ _)
  (Be h (b:=nid) (heap_alloc_new w _) rfl rfl (by simp [aO]) (by simp [aO]) (fun _=> ⟨rfl,rfl⟩) (fun _=>rfl) (Nat.zero_le _) 0)
  (fun B0 h0=>by rw [d] at h0;cases h0) (fun o v c=>absurd (h.seal_lt c) (Nat.lt_irrefl _))
 refine ⟨.map (some w.heap.size),_,_, ?_,a.1,a.2, ?_⟩
 ·simp [Instr.makeMap,Result.andThen]
 ·simp only [VR]
  exact ⟨_,iZ _ _ _,Nat.le_refl _,⟨_,rfl⟩,fun _=>by simp [setM]⟩
theorem yG:∀ (lks:List LK) (l:List AV),jk lks l=true→a_ l= []
 | [],[],_=>rfl
 |k::lks,x::l,h=>by
  simp only [jk,Bool.and_eq_true] at h
  have a:bU x= []:=by cases k<;>cases x<;>first|rfl|(have:=h.1;simp [AZ] at this)
  simp only [a_,a,yG lks l h.2,List.append_nil]
 | [],_::_,h=>by simp [jk] at h
 |_::_,[],h=>by simp [jk] at h
theorem uU:∀ (l:List AV) (b:TI),l.all (fE b)=true→a_ l= []
 | [],_,_=>rfl
 | x::r,b,h=>by
  simp only [List.all_cons,Bool.and_eq_true] at h
  have c:bU x= []:=by
   have a:=h.1
   unfold fE at a
   split at a<;>first|rfl|(cases a;done)|skip
   simp only [Bool.and_eq_true] at a
   simp only [bU];exact yG _ _ a.2
  simp only [a_,c,uU r b h.2,List.append_nil]
theorem zq:∀ (ks vs:List AV) (k v:AV),a_ vs= []→bU v= []→a_ (lq ks vs k v)= []
 | [],_,k,v,_,h2=>by simp [lq,a_,h2]
 |_::_,[],k,v,_,h2=>by simp [lq,a_,h2]
 |k0::ks,v0::vs,k,v,h1,h2=>by
  simp only [a_,List.append_eq_nil_iff] at h1
  simp only [lq]
  split
  ·simp [a_,h1.2,h2]
  ·simp [a_,h1.1,zq ks vs k v h1.2 h2]
theorem qI (N:dn P ap) (h:aV ap g m S w) {rd:bD} (O:∀ b B,rd b=some B→g b=some B) {t:Nat} {ti:TI} {i:TypeInfo} {d:TypeDesc} {z:Value} (Z:rE P t ti i d z) {x k v r:AV} {cx ck cv:Value} (W:VR g m S x cx) (hk:VR g m S k ck) (hv:VR g m S v cv)
  {ups:List (Nat × aJ)} {bs:List Bool} (f:xk ap ti rd x k v=some (r,ups,bs)) (J:∀ b ∈ bs,b=true):
  r= .dead∧∃ E w',(Instr.mapUpdate t cx ck cv).run P w= .ok () w'∧aV ap (bi g ups) E S w'∧Fr g m S w (bi g ups) E S w':=by
 unfold xk at f
 split at f
 ·rename_i kt et b ver T
  have hq:=bind_some f;clear f;obtain ⟨tk,s,f⟩:=hq
  have hq:=bind_some f;clear f;obtain ⟨B,hB,f⟩:=hq
  split at f
  ·rename_i p
   simp only [Bool.and_eq_true,Bool.not_eq_true'] at p
   split at f
   ·rename_i ks vs hcells
    cases f
    have hkt:=s
    obtain ⟨ik,dk,zk,s⟩:=bJ N s
    rw [Z.d_eq] at T
    have T:=Dp T
    subst T
    obtain ⟨b1,J⟩:=bF J
    obtain ⟨b2,_⟩:=bF J
    have c:=O b B hB
    have hz:=az p.1.2
    have hmc:I5 rd (.mr b ver)=some (ks,vs):=by
     unfold I5
     simp only [hB,Option.bind_some,p.1.1,p.1.2,Bool.and_self,hcells]
    obtain ⟨es,hes,v1,v2⟩:=qY h O W hmc
    have F:=uB (w:=w) N hkt s b1 hk
    simp only [VR] at W
    obtain ⟨B',L,_,_,q⟩:=W
    rw [c] at L;cases L
    have q:=q (az p.1.1)
    subst q
    rcases hes with ⟨e,_⟩|⟨b0,clk,e,K⟩
    ·cases e
    cases e
    have U:(m b).1<w.heap.size:=h.lt c
    obtain ⟨_,k7,k8⟩:=h.blk b B c
    have key:∀ (a:Array MapEntry) (clk':Nat),(qo es clk→qo a clk')→aO g m S (uS ks k) (a.toList.map (·.key))→aO g m S (lq ks vs k v) (a.toList.map (·.val))→
      ∃ E,aV ap (bi g [(b,{B with cells:= [.agg (uS ks k),.agg (lq ks vs k v)],pr:=B.pr && (bU v).isEmpty})]) E S {w with heap:=w.heap.setIfInBounds (m b).1 (.map a clk')}∧Fr g m S w (bi g [(b,{B with cells:= [.agg (uS ks k),.agg (lq ks vs k v)],pr:=B.pr && (bU v).isEmpty})]) E S {w with heap:=w.heap.setIfInBounds (m b).1 (.map a clk')}:=by
     intro a clk' X w1 w2
     have G:=h.put (hmw:=MW.setM K X) b {B with cells:= [.agg (uS ks k),.agg (lq ks vs k v)],pr:=B.pr && (bU v).isEmpty} (m b).1 (m b).2 (w':={w with heap:=w.heap.setIfInBounds (m b).1 (.map a clk')})
      (.inr ⟨B,c,rfl⟩) ⟨rfl,rfl,rfl,by simp,fun k' _ V=>by simp [show (m b).1 ≠ k' from fun e=>V (by rw [e])]⟩
      (Be h (b:=b) (B:={B with cells:= [.agg (uS ks k),.agg (lq ks vs k v)],pr:=B.pr && (bU v).isEmpty}) (w':={w with heap:=w.heap.setIfInBounds (m b).1 (.map a clk')}) (k:=(m b).1) (clk':=clk') (by simp [U]) hz rfl w1 w2 (fun A=>by
       have A:(B.pr && (bU v).isEmpty)=true:=A
       simp only [Bool.and_eq_true] at A
       obtain ⟨⟨cur,e,us,rest,k1,k2,k3,k4,_,_⟩,_,_⟩:=h.blk b B c
       have hr:a_ B.cells= []:=lD _ (k3 A.1)
       rw [hcells] at hr
       simp only [a_,bU,List.append_nil,List.append_eq_nil_iff] at hr
       refine ⟨zq _ _ _ _ hr.2 (pq A.2), ?_⟩
       have M:=uU ks _ b2
       unfold uS
       split
       ·exact M
       ·rw [mX,M];exact uU [k] tk (by simp [b1])) k7 (by rw [hcells] at k8;exact k8) (m b).2)
      (fun B0 h0=>by rw [c] at h0;cases h0;exact ⟨rfl,.inl ⟨rfl,rfl⟩⟩)
      (fun o u hu=>by
       have:=(h.own b B c o u hu).1
       rw [p.2] at this;cases this)
     exact ⟨_,G.1,G.2⟩
    refine ⟨rfl, ?_⟩
    rcases kL F hv es.toList ks vs 0 v1 v2 b2 with ⟨Q,r2,r3,r4⟩|⟨j,e,y,Q,R,rk,r4,r5,r6,r7⟩
    ·obtain ⟨E,Y,s2⟩:=key (es.push {key:=ck,val:=cv,born:=clk}) (clk+1) (qo.push ck cv)
      (by unfold uS;rw [r3,Array.toList_push,List.map_append];exact dZ v1 (by simp only [List.map_cons,List.map_nil,aO,and_true];exact hk))
      (by rw [r4,Array.toList_push,List.map_append];exact dZ v2 (by simp only [List.map_cons,List.map_nil,aO,and_true];exact hv))
     refine ⟨E,_, ?_,Y,s2⟩
     simp [Instr.mapUpdate,run_underlying Z.und,MapKept.run_getObj_map K,F.chk,Q.run s,MapKept.run_setObj_map _ K,Result.andThen]
    ·have l:es[j]? =some e:=by simpa using R
     have H:(es.modify j fun e=> {e with key:=ck,val:=cv}).toList=es.toList.set j {e with key:=ck,val:=cv}:=by
      apply List.ext_getElem?
      intro n
      simp only [Array.getElem?_toList,Array.getElem?_modify,List.getElem?_set]
      by_cases hjn:j=n
      ·subst hjn
       have C:j<es.toList.length:=(List.getElem?_eq_some_iff.1 R).1
       rw [if_pos rfl,if_pos rfl,if_pos C,l];rfl
      ·rw [if_neg hjn,if_neg hjn]
     obtain ⟨E,Y,s2⟩:=key (es.modify j fun e=> {e with key:=ck,val:=cv}) clk
      (qo.same (by
       rw [H]
       apply List.ext_getElem?
       intro n
       simp only [List.getElem?_map,List.getElem?_set]
       by_cases hjn:j=n
       ·subst hjn
        have C:j<es.toList.length:=(List.getElem?_eq_some_iff.1 R).1
        have D:j<es.size:=by simpa using C
        have I:es[j]=e:=by rw [Array.getElem?_eq_getElem D] at l;exact Option.some.inj l
        simp [D,I]
       ·simp [hjn]))
      (by
       unfold uS;rw [r6,H]
       have:(es.toList.set j {e with key:=ck,val:=cv}).map (·.key)=es.toList.map (·.key):=by
        apply List.ext_getElem?
        intro n
        simp only [List.getElem?_map,List.getElem?_set]
        by_cases hjn:j=n
        ·subst hjn
         have C:j<es.toList.length:=(List.getElem?_eq_some_iff.1 R).1
         have D:j<es.size:=by simpa using C
         have I:es[j]=e:=by rw [Array.getElem?_eq_getElem D] at l;exact Option.some.inj l
         simp [D,I,rk]
        ·simp [hjn]
       rw [this];exact v1)
      (by rw [H];exact r7)
     refine ⟨E,_, ?_,Y,s2⟩
     rw [Nat.zero_add] at Q
     simp [Instr.mapUpdate,run_underlying Z.und,MapKept.run_getObj_map K,F.chk,Q.run s,l,rk,F.stay,MapKept.run_setObj_map _ K,Result.andThen]
   ·cases f
  ·cases f
 ·cases f
end
end AM
namespace AM
open Go
section
variable {P:Program} {ap:AP} {g:bD} {m:aF} {S:ay} {w:World}
theorem oU {ρ:Operand→AV} {cρ:Operand→Value}:∀ (l:List Operand),(∀ o ∈ l,VR g m S (ρ o) (cρ o))→aO g m S (l.map ρ) (l.map cρ)
 | [],_=>by simp [aO]
 |o::r,h=>by simp only [List.map_cons,aO];exact ⟨h o (by simp),oU r fun o a=>h o (by simp [a])⟩
theorem xw {ρ:Operand→AV} {cρ:Operand→Value}:∀ (l:List (Nat × Operand)),(∀ o ∈ l.map (·.2),VR g m S (ρ o) (cρ o))→rG g m S (l.map fun (i,x)=>(i,ρ x)) (l.map fun (i,x)=>(i,cρ x))
 | [],_=>by simp [rG]
 |(i,o)::r,h=>by simp only [List.map_cons,rG];exact ⟨trivial,h o (by simp),xw r fun o a=>h o (by simp [a])⟩
def d_ (P:Program) (ap:AP) (g:bD) (m:aF) (S:ay) (w:World) (s:Sem Next) (v:AV) (ups:List (Nat × aJ)):Prop:=
 ∃ nx m' w',s.run P w= .ok nx w'∧aV ap (bi g ups) m' S w'∧Fr g m S w (bi g ups) m' S w'∧((∃ cv,nx= .value cv∧VR (bi g ups) m' S v cv)∨(nx= .skip∧v= .dead))
theorem d_.pur (h:aV ap g m S w) {s:Sem Value} {v:AV} {ups:List (Nat × aJ)} (hs:ups= []∧∃ cv,s.run P w= .ok cv w∧VR g m S v cv):d_ P ap g m S w (do pure (.value (← s))) v ups:=by
 obtain ⟨rfl,cv,b,a⟩:=hs
 exact ⟨.value cv,m,w,by simp [b],by rw [dh];exact h,by rw [dh];exact Fr.refl _ _ _ _,.inl ⟨cv,rfl,by rw [dh];exact a⟩⟩
theorem d_.full {s:Sem Value} {v:AV} {ups:List (Nat × aJ)} (hs:∃ cv a w',s.run P w= .ok cv w'∧aV ap (bi g ups) a S w'∧Fr g m S w (bi g ups) a S w'∧VR (bi g ups) a S v cv):d_ P ap g m S w (do pure (.value (← s))) v ups:=by
 obtain ⟨cv,a,w',d,b,c,e⟩:=hs
 exact ⟨.value cv,a,w',by simp [d],b,c,.inl ⟨cv,rfl,e⟩⟩
theorem d_.val (h:aV ap g m S w) {s:Sem Next} {v:AV} {cv:Value} (hs:s.run P w= .ok (.value cv) w) (a:VR g m S v cv):d_ P ap g m S w s v []:=
 ⟨.value cv,m,w,hs,by rw [dh];exact h,by rw [dh];exact Fr.refl _ _ _ _,.inl ⟨cv,rfl,by rw [dh];exact a⟩⟩
theorem xn {ρ:Operand→AV} {cρ:Operand→Value} (x:Option Operand) (h:∀ o ∈ x.toArray,VR g m S (ρ o) (cρ o)):xm g m S (x.map ρ) (x.map cρ):=by
 cases x with
 |none=>simp [xm]
 |some o=>simp only [Option.map_some,xm];exact h o (by simp)
theorem DR (a:dn P ap) {t:Nat} {c:TI} (h:ap.tyAt t=some c) (e:c.d ≠ .iface):P.concrete t=true:=by
 obtain ⟨i,d,z,b⟩:=bJ a h
 have:=b.d_eq
 simp only [Program.concrete,b.und]
 cases d<;>simp_all [gJ]
set_option maxHeartbeats 1000000 in
theorem Ji (A:dn P ap) (F:aV ap g m S w) {nid:Nat} (hn:g nid=none) {ρ:Operand→AV} {cρ:Operand→Value} {rd:bD} (K:∀ b B,rd b=some B→g b=some B) (o:Oper) (hρ:∀ x ∈ o.op.operands,VR g m S (ρ x) (cρ x))
  {dec:Operand→Option Bool} (hdec:∀ x ∈ o.op.operands,∀ b,dec x=some b→cρ x= .bool b) {em:Bool} (hem:∀ n,su ρ o.op=some n→Nat.beq n 0=em)
  {v:AV} {ups:List (Nat × aJ)} {bs:List Bool} (h:opA ap nid ρ rd dec em o.op=some (v,ups,bs)) (hbs:∀ b ∈ bs,b=true):d_ P ap g m S w (execOp cρ o) v ups:=by
 unfold opA at h
 unfold execOp
 split at h<;>rename_i heq<;>simp only [heq,Op.operands] at hρ hdec hem ⊢
 ·obtain ⟨rfl,rfl,rfl⟩:=aH h
  exact d_.val F (by simp) (hρ _ (by simp))
 ·obtain ⟨rfl,rfl,rfl⟩:=aH h
  exact d_.val F (by simp) (hρ _ (by simp))
 ·
  rename_i c a b
  split at h
  ·rename_i J
   obtain ⟨rfl,rfl,rfl⟩:=aH h
   have:=hdec c (by simp) _ J
   exact d_.val F (by simp [this,asBool]) (hρ _ (by simp))
  ·rename_i J
   obtain ⟨rfl,rfl,rfl⟩:=aH h
   have:=hdec c (by simp) _ J
   exact d_.val F (by simp [this,asBool]) (hρ _ (by simp))
  ·split at h
   ·rename_i bc ba bb e1 e2 e3
    obtain ⟨rfl,rfl,rfl⟩:=aH h
    have G:=hρ c (by simp)
    have I:=hρ a (by simp)
    have T:=hρ b (by simp)
    rw [e1] at G;rw [e2] at I;rw [e3] at T
    simp only [VR,PR] at G I T
    refine d_.val F (cv:= .bool (cond bc ba bb)) ?_ (by simp only [VR,PR])
    rw [G,I,T]
    cases bc<;>simp [asBool]
   ·cases h
 ·
  rename_i e
  have j:=bind_some h;clear h;obtain ⟨te,L,h⟩:=j
  obtain ⟨ie,de,ze,D⟩:=bJ A L
  split at h
  ·rename_i hok
   simp only [Bool.and_eq_true] at hok
   cases h
   obtain ⟨Q,w',G,I,T,h4⟩:=Au (P:=P) F hn (cells:=te.zero) (cv:=ze) (lG D) D.zleaf (fun u hu=>rJ (g:=g) (m:=m) (S:=S) (lG D) D.zleaf u (by simpa using hu)) e
   refine d_.full ⟨.pointer (some ⟨w.heap.size,0,none⟩),Q,w', ?_,I,T,Ia h4⟩
   simp [Instr.alloc,zeroValue,typeInfo,D.info,D.zero,G]
  ·cases h
 ·
  rename_i e x
  have j:=bind_some h;clear h;obtain ⟨te,L,h⟩:=j
  obtain ⟨ie,de,ze,D⟩:=bJ A L
  simp only at h
  split at h
  ·rename_i hok
   cases h
   have E:=hρ x (by simp)
   have hl:∀ y ∈ (ρ x).cells,jy y=true:=fun y hy=>List.all_eq_true.1 hok y hy
   obtain ⟨hv1,hv2⟩:=xG E hl
   obtain ⟨Q,w',G,I,T,h4⟩:=Au (P:=P) F hn (cells:=(ρ x).cells) (cv:=cρ x) hv1 hl hv2 e
   refine d_.full ⟨.pointer (some ⟨w.heap.size,0,none⟩),Q,w', ?_,I,T,Ia h4⟩
   simp [Instr.box,G]
  ·cases h
 ·
  rename_i t parts
  have j:=bind_some h;clear h;obtain ⟨O,C,h⟩:=j
  obtain ⟨i,d,z,D⟩:=bJ A C
  refine d_.pur F ?_
  refine BM A D (qs:=parts.map fun (i,x)=>(i,cρ x)) ?_ h
  rw [Array.toList_map]
  exact xw parts.toList fun x E=>hρ x (by simpa using E)
 ·
  rename_i t len parts
  have j:=bind_some h;clear h;obtain ⟨O,C,h⟩:=j
  obtain ⟨i,d,z,D⟩:=bJ A C
  refine d_.full ?_
  refine rP A F hn D (qs:=parts.map fun (i,x)=>(i,cρ x)) ?_ h
  rw [Array.toList_map]
  exact xw parts.toList fun x E=>hρ x (by simpa using E)
 ·
  rename_i t a
  have j:=bind_some h;clear h;obtain ⟨O,C,h⟩:=j
  obtain ⟨i,d,z,D⟩:=bJ A C
  exact d_.pur F (vS F K D (hρ a (by simp)) h hbs)
 ·
  rename_i t a x
  have j:=bind_some h;clear h;obtain ⟨O,C,h⟩:=j
  obtain ⟨i,d,z,D⟩:=bJ A C
  have ha:=hρ a (by simp)
  have E:=hρ x (by simp)
  generalize cρ a=ca at ha ⊢
  generalize cρ x=cx at E ⊢
  obtain ⟨rfl,Q,w',G,I,T⟩:=Dn F K D ha E h hbs
  exact ⟨.skip,Q,w',by simp [G],I,T,.inr ⟨rfl,rfl⟩⟩
 ·
  rename_i t r
  split at h
  ·cases h
   obtain ⟨cv,Q,w',G,I,T,h4⟩:=z_ (P:=P) F hn t
   exact ⟨.value cv,Q,w',by simp [G],I,T,.inl ⟨cv,rfl,h4⟩⟩
  ·cases h
 ·
  rename_i t x k ok
  have j:=bind_some h;clear h;obtain ⟨O,C,h⟩:=j
  obtain ⟨i,d,z,D⟩:=bJ A C
  exact d_.pur F (zZ A F K D (hρ x (by simp)) (hρ k (by simp)) h hbs)
 ·
  rename_i t x k v
  have j:=bind_some h;clear h;obtain ⟨O,C,h⟩:=j
  obtain ⟨i,d,z,D⟩:=bJ A C
  obtain ⟨rfl,Q,w',G,I,T⟩:=qI A F K D (hρ x (by simp)) (hρ k (by simp)) (hρ v (by simp)) h hbs
  exact ⟨.skip,Q,w',by simp [G],I,T,.inr ⟨rfl,rfl⟩⟩
 ·
  rename_i t x k v
  have j:=bind_some h;clear h;obtain ⟨O,C,h⟩:=j
  obtain ⟨i,d,z,D⟩:=bJ A C
  obtain ⟨rfl,Q,w',G,I,T⟩:=qI A F K D (hρ x (by simp)) (hρ k (by simp)) (hρ v (by simp)) h hbs
  exact ⟨.skip,Q,w',by simp [G],I,T,.inr ⟨rfl,rfl⟩⟩
 ·
  rename_i x
  have E:=hρ x (by simp)
  split at h
  ·rename_i b ver off e
   rw [e] at E
   obtain ⟨rfl,rfl,rfl⟩:=aH h
   have H:=E
   simp only [VR] at H
   obtain ⟨_,_,_,⟨k,o,V⟩,_⟩:=H
   exact d_.val F (cv:=cρ x) (by rw [V];simp) E
  ·rename_i xs off e
   rw [e] at E
   obtain ⟨rfl,rfl,rfl⟩:=aH h
   have H:=E
   simp only [VR,PR] at H
   obtain ⟨_,_,_,V,_⟩:=H
   exact d_.val F (cv:=cρ x) (by rw [V];simp) E
  ·rename_i f a c e
   rw [e] at E
   obtain ⟨rfl,rfl,rfl⟩:=aH h
   have H:=E
   simp only [VR] at H
   obtain ⟨_,_,V,_⟩:=H
   exact d_.val F (cv:=cρ x) (by rw [V];simp) E
  ·rename_i ty vv e
   rw [e] at E
   obtain ⟨rfl,rfl,rfl⟩:=aH h
   have H:=E
   simp only [VR] at H
   obtain ⟨u,V,_⟩:=H
   exact d_.val F (cv:=cρ x) (by rw [V];simp) E
  ·cases h
 ·
  rename_i op t x y _
  have j:=bind_some h;clear h;obtain ⟨O,C,h⟩:=j
  exact d_.pur F (Fp A C (hρ x (by simp)) (hρ y (by simp)) h hbs x y)
 ·
  exact d_.pur F (Ju (hρ _ (by simp)) h)
 ·
  rename_i s d x
  have j:=bind_some h;clear h;obtain ⟨ts,hts,h⟩:=j
  have j:=bind_some h;clear h;obtain ⟨td,htd,h⟩:=j
  exact d_.pur F (xR A F K hts htd (hρ x (by simp)) h hbs)
 ·
  rename_i t x
  have j:=bind_some h;clear h;obtain ⟨O,C,h⟩:=j
  split at h
  ·cases h
  ·rename_i J
   obtain ⟨rfl,rfl,rfl⟩:=aH h
   refine d_.pur F ⟨rfl,.iface t (cρ x),run_makeInterface w t _ (DR A C J), ?_⟩
   simp only [VR]
   exact ⟨_,rfl,hρ x (by simp)⟩
 ·
  rename_i f first cap
  obtain ⟨rfl,rfl,rfl⟩:=aH h
  refine d_.pur F ⟨rfl,.func (.func f) (first.map cρ) (cap.map cρ),by simp [Instr.makeFunc], ?_⟩
  simp only [VR]
  refine ⟨(first.map cρ).toList,(cap.map cρ).toList,by rw [Array.toArray_toList,Array.toArray_toList], ?_, ?_⟩
  ·rw [Array.toList_map];exact oU _ fun x E=>hρ x (by simp at E ⊢;exact .inl E)
  ·rw [Array.toList_map];exact oU _ fun x E=>hρ x (by simp at E ⊢;exact .inr E)
 ·
  rename_i t l c
  have j:=bind_some h;clear h;obtain ⟨O,C,h⟩:=j
  obtain ⟨i,d,z,D⟩:=bJ A C
  exact d_.full (uH A F hn D (hρ l (by simp)) (hρ c (by simp)) h hbs)
 ·
  rename_i t x lo hi mx
  have j:=bind_some h;clear h;obtain ⟨O,C,h⟩:=j
  obtain ⟨i,d,z,D⟩:=bJ A C
  exact d_.pur F (Dk A K D (hρ x (by simp)) (xn lo fun o Z=>hρ o (by simp at Z;simp [Z])) (xn hi fun o Z=>hρ o (by simp at Z;simp [Z])) (xn mx fun o Z=>hρ o (by simp at Z;simp [Z])) h hbs)
 ·
  rename_i s x f
  have j:=bind_some h;clear h;obtain ⟨O,C,h⟩:=j
  obtain ⟨i,d,z,D⟩:=bJ A C
  split at h
  ·rename_i fs J
   have j:=bind_some h;clear h;obtain ⟨⟨o,ft,sz⟩,hf,h⟩:=j
   simp only at h
   split at h
   ·rename_i hsz
    have j:=bind_some h;clear h;obtain ⟨p,hp,h⟩:=j
    obtain ⟨rfl,rfl,rfl⟩:=aH h
    exact d_.pur F ⟨rfl,wL D J hf hsz (hρ x (by simp)) hp⟩
   ·cases h
  ·cases h
 ·
  rename_i t x f
  have j:=bind_some h;clear h;obtain ⟨O,C,h⟩:=j
  obtain ⟨i,d,z,D⟩:=bJ A C
  exact d_.pur F (Cc A D (hρ x (by simp)) h hbs)
 ·
  rename_i t x ix
  have j:=bind_some h;clear h;obtain ⟨O,C,h⟩:=j
  obtain ⟨i,d,z,D⟩:=bJ A C
  exact d_.pur F (uw A K D (hρ x (by simp)) (hρ ix (by simp)) h hbs)
 ·
  rename_i t x ix
  have j:=bind_some h;clear h;obtain ⟨O,C,h⟩:=j
  obtain ⟨i,d,z,D⟩:=bJ A C
  exact d_.pur F (CB A D (hρ x (by simp)) (hρ ix (by simp)) h hbs)
 ·
  exact d_.pur F (zU A (hρ _ (by simp)) h _)
 ·
  rename_i t i
  have D:=hρ t (by simp)
  split at h
  ·rename_i l e
   rw [e] at D
   have j:=bind_some h;clear h;obtain ⟨x,E,h⟩:=j
   obtain ⟨rfl,rfl,rfl⟩:=aH h
   simp only [VR] at D
   obtain ⟨vs,V,hl⟩:=D
   obtain ⟨cv,G,I⟩:=mf hl i E
   refine d_.pur F ⟨rfl,cv, ?_,I⟩
   rw [V]
   simp [Instr.extract,G]
  ·cases h
 ·
  rename_i b args U
  simp only [Call.operands] at hρ
  have hargs:∀ x ∈ args,VR g m S (ρ x) (cρ x):=fun x E=>hρ x (by simp [E])
  split at h
  ·have j:=bind_some h;clear h;obtain ⟨x,E,h⟩:=j
   have j:=bind_some h;clear h;obtain ⟨t,R,h⟩:=j
   have j:=bind_some h;clear h;obtain ⟨O,C,h⟩:=j
   obtain ⟨i,d,z,D⟩:=bJ A C
   split at h
   ·rename_i kt et J
    have j:=bind_some h;clear h;obtain ⟨q,hqc,h⟩:=j
    obtain ⟨rfl,rfl,rfl⟩:=aH h
    rw [D.d_eq] at J
    have J:=Dp J
    subst J
    obtain ⟨es,he,hk,_⟩:=qY F K (hargs x (Array.mem_of_getElem? E)) hqc
    have Y:es.size=q.1.length:=by
     have:=aW hk
     simpa using this.symm
    refine d_.val F (cv:= .int .i64 q.1.length) ?_ (by simp only [VR,PR])
    rcases he with ⟨G,I⟩|⟨b,clk,G,I⟩
    ·subst I
     simp [resolve,invoke,builtin,Builtin.len_,R,E,run_underlying D.und,G,goInt,← Y]
    ·simp [resolve,invoke,builtin,Builtin.len_,R,E,run_underlying D.und,G,goInt,MapKept.run_getObj_map I,← Y,Result.andThen]
   ·rename_i d hnm
    obtain ⟨hu,cv,G,I⟩:=FX (P:=P) (w:=w) (hargs x (Array.mem_of_getElem? E)) D h U R (args.map cρ) (by simp [E]) o.type
    subst hu
    exact d_.val F (cv:=cv) (by simp [resolve,invoke,builtin,G]) I
  ·split at h
   ·rename_i s x t t1 ha R
    have hargs':args=#[s,x]:=by apply Array.ext';simpa using ha
    have hats':U=#[t,t1]:=by apply Array.ext';simpa using R
    subst hargs';subst hats'
    have j:=bind_some h;clear h;obtain ⟨O,C,h⟩:=j
    have j:=bind_some h;clear h;obtain ⟨ti1,hti1,h⟩:=j
    obtain ⟨i,d,z,D⟩:=bJ A C
    obtain ⟨i1,d1,z1,W⟩:=bJ A hti1
    have hs:=hargs s (by simp)
    have E:=hargs x (by simp)
    have X:ρ s= .nilS→∃ n,qO (ρ x)=some n∧Nat.beq n 0=em:=by
     intro e
     cases hc:qO (ρ x) with
     | none=>
      exfalso
      split at h
      ·rename_i H;rw [H] at hc;simp [qO] at hc
      ·cases h
      ·rename_i y hy1 _ hy2 hy3
       have j:=bind_some h;clear h;obtain ⟨te,L,h⟩:=j
       unfold rM at h
       have j:=bind_some h;clear h;obtain ⟨⟨xs,n,pr⟩,hsrc,h⟩:=j
       cases hxx:ρ x<;>simp [hxx,qO] at hc<;>simp [hxx,EY] at hsrc
      ·cases h
     |some n=>exact ⟨n,rfl,hem n (by simp [su,e,hc])⟩
    split at h
    ·rename_i e y J M hy
     have j:=bind_some h;clear h;obtain ⟨te,L,h⟩:=j
     obtain ⟨ie,de,ze,N⟩:=bJ A L
     split at h
     ·rename_i G
      rw [D.d_eq] at J
      rw [W.d_eq] at M
      have J:=dU J
      have M:=rC M
      subst J;subst M
      obtain ⟨cv,Q,w',r1,r2,r3,r4⟩:=qp (P:=P) F K hn D N hs E (tx:=t1) (.inl ⟨⟨y,hy⟩,W.und,az G⟩) X (by rw [hy];exact h) hbs o.type
      exact ⟨.value cv,Q,w',by simp [resolve,invoke,builtin,r1],r2,r3,.inl ⟨cv,rfl,r4⟩⟩
     ·cases h
    ·cases h
    ·rename_i e e1 J M hns
     have j:=bind_some h;clear h;obtain ⟨te,L,h⟩:=j
     obtain ⟨ie,de,ze,N⟩:=bJ A L
     rw [D.d_eq] at J
     rw [W.d_eq] at M
     have J:=dU J
     have M:=dU M
     subst J;subst M
     obtain ⟨cv,Q,w',r1,r2,r3,r4⟩:=qp (P:=P) F K hn D N hs E (tx:=t1) (.inr ⟨fun s e=>hns s e,_,W.und⟩) X h hbs o.type
     exact ⟨.value cv,Q,w',by simp [resolve,invoke,builtin,r1],r2,r3,.inl ⟨cv,rfl,r4⟩⟩
    ·cases h
   ·cases h
  ·
   have j:=bind_some h;clear h;obtain ⟨x,E,h⟩:=j
   have j:=bind_some h;clear h;obtain ⟨t,R,h⟩:=j
   have j:=bind_some h;clear h;obtain ⟨O,C,h⟩:=j
   obtain ⟨i,d,z,D⟩:=bJ A C
   split at h
   ·rename_i e J
    have j:=bind_some h;clear h;obtain ⟨te,L,h⟩:=j
    obtain ⟨ie,de,ze,N⟩:=bJ A L
    rw [D.d_eq] at J
    have J:=dU J
    subst J
    obtain ⟨Q,w',r1,r2,r3,rfl⟩:=BU (P:=P) F K D N (hargs x (Array.mem_of_getElem? E)) h hbs U R (args.map cρ) (by simp [E]) o.type
    exact ⟨.value (.tuple #[]),Q,w',by simp [resolve,invoke,builtin,r1],r2,r3,.inl ⟨_,rfl,by simp only [VR];exact ⟨[],rfl,by simp only [aO]⟩⟩⟩
   ·cases h
  ·have j:=bind_some h;clear h;obtain ⟨r,hr,h⟩:=j
   obtain ⟨rfl,rfl,rfl⟩:=aH h
   obtain ⟨cv,G,I⟩:=Jf (P:=P) (w:=w) (oU args.toList fun x E=>hargs x (Array.mem_toList_iff.1 E)) hr U o.type
   refine d_.val F (cv:=cv) ?_ I
   have:(List.map cρ args.toList).toArray=args.map cρ:=by apply Array.ext';rw [List.toList_toArray,Array.toList_map]
   rw [this] at G
   simp [resolve,invoke,builtin,G]
  ·have j:=bind_some h;clear h;obtain ⟨r,hr,h⟩:=j
   obtain ⟨rfl,rfl,rfl⟩:=aH h
   obtain ⟨cv,G,I⟩:=I7 (P:=P) (w:=w) (oU args.toList fun x E=>hargs x (Array.mem_toList_iff.1 E)) hr U o.type
   refine d_.val F (cv:=cv) ?_ I
   have:(List.map cρ args.toList).toArray=args.map cρ:=by apply Array.ext';rw [List.toList_toArray,Array.toList_map]
   rw [this] at G
   simp [resolve,invoke,builtin,G]
  ·cases h
 ·cases h
end
end AM
namespace AM
open Go
structure Cx.Ok (c:Cx):Prop where
 bs:∀ b ∈ c.bs,b=true
 ps:∀ p ∈ c.ps,p
theorem R.bind_ok {α β:Type} {r:R α} {f:α→Cx→R β} {b:β} {c:Cx} (h:r.bind f= .ok b c):∃ a c1,r= .ok a c1∧f a c1= .ok b c:=by
 cases r with
 |ok a c1=>exact ⟨a,c1,rfl,h⟩
 |need=>simp [R.bind] at h
 |bad n=>simp [R.bind] at h
theorem B_ {c c':Cx} {bs:List Bool} {u:Unit} (h:N_ c bs= .ok u c') (d:c'.Ok):c.Ok∧∀ b ∈ bs,b=true:=by
 unfold N_ at h
 split at h
 ·split at h
  ·rename_i a
   cases h
   exact ⟨d,fun b e=>by simpa using List.all_eq_true.1 a b e⟩
  ·cases h
 ·cases h
  exact ⟨⟨fun b a=>d.bs b (by simp [a]),d.ps⟩,fun b a=>d.bs b (by simp [a])⟩
theorem iR {c c':Cx} {b d:Bool} (h:ui c b= .ok d c') (a:c'.Ok):c.Ok∧d=b:=by
 unfold ui at h
 split at h
 ·cases h;exact ⟨a,rfl⟩
 ·split at h
  ·cases h
  ·rename_i o r _
   cases h
   have e:=a.bs (lit d b) (by simp)
   refine ⟨⟨fun x f=>a.bs x (by simp [f]),a.ps⟩, ?_⟩
   cases d<;>cases b<;>simp [lit] at e ⊢
theorem eX {l:List Nat} {a:Nat}:j_ l a=true↔a ∈ l:=by
 simp only [j_,List.any_eq_true]
 constructor
 ·rintro ⟨x,hx,h⟩;exact az h ▸ hx
 ·intro h;exact ⟨a,h,Nat.beq_refl a⟩
theorem dQ {α β:Type} {f:α→Option β}:∀ {l:List α} {l':List β},eH f l=some l'→l'.length=l.length∧∀ (i:Nat) x,l[i]? =some x→∃ y,l'[i]? =some y∧f x=some y
 | [],l',h=>by simp [eH] at h;subst h;simp
 | a::r,l',h=>by
  simp only [eH] at h
  split at h
  ·rename_i y d
   split at h
   ·rename_i q j
    cases h
    obtain ⟨e,c⟩:=dQ j
    refine ⟨by simp [e], ?_⟩
    intro i x b
    cases i with
    |zero=>simp at b;subst b;exact ⟨y,by simp,d⟩
    |succ i=>simpa using c i x (by simpa using b)
   ·cases h
  ·cases h
section
variable {P:Program} {ap:AP} {g:bD} {m:aF} {S:ay} {w:World}
noncomputable def bI (S:ay) (m:aF) (rd:bD) (w:World):ay:=fun k o=>
 match S k o with
 |some v=>some v
 |none=>open Classical in if ∃ b B,rd b=some B∧(m b).1=k∧o<B.cells.length then bK w k o else none
theorem iW (S:ay) (m:aF) (rd:bD) (w:World):gy S (bI S m rd w):=by
 intro k o v h;simp [bI,h]
theorem dM {rd:bD} {k o:Nat} {v:Value} (h:bI S m rd w k o=some v):S k o=some v∨(bK w k o=some v∧∃ b B,rd b=some B∧(m b).1=k∧o<B.cells.length):=by
 unfold bI at h
 split at h
 ·rename_i e c;cases h;exact .inl c
 ·rename_i d
  split at h
  ·rename_i a;exact .inr ⟨h,a⟩
  ·cases h
theorem jg (a:aV ap g m S w) {rd:bD} {k o:Nat} {v:Value} (h:bI S m rd w k o=some v):bK w k o=some v:=by
 rcases dM h with h|h
 ·exact a.sealed _ _ _ h
 ·exact h.1
theorem Jp (d:aV ap g m S w) {rd:bD} {b:Nat} {B:aJ} (e:rd b=some B) {o:Nat} (f:o<B.cells.length) {v:Value} (a:bK w (m b).1 o=some v):bI S m rd w (m b).1 o=some v:=by
 unfold bI
 split
 ·rename_i h c
  have:=d.sealed _ _ _ c
  rw [a] at this;cases this;rfl
 ·rw [if_pos ⟨b,B,e,rfl,f⟩];exact a
theorem zD (h:aV ap g m S w) {rd:bD} (f:∀ b B,rd b=some B→g b=some B) {b:Nat} {B:aJ} (k:rd b=some B):
  ∃ vs,aO g m S B.cells vs∧(B.pr=true→aZ S B.cells vs)∧(∀ j u,vs[j]? =some u→bI S m rd w (m b).1 j=some u)∧vs.length=B.cells.length∧(B.esz ≠ dw→∀ u ∈ vs,u.oneCell'=true):=by
 obtain ⟨⟨cur,e,vs,rest,n,l,o,c,i,q⟩,_,_⟩:=h.blk b B (f b B k)
 refine ⟨vs,c,o, ?_,(aW c).symm,i⟩
 intro j u d
 have a:=(List.getElem?_eq_some_iff.1 d).1
 refine Jp h k (by rw [aW c];exact a) ?_
 exact n.get (by rw [l,List.getElem?_append_left a];exact d) (fun p=>i p u (List.mem_of_getElem? d))
theorem tN (f:aV ap g m S w) {rd:bD} (a:∀ b B,rd b=some B→g b=some B) {b:Nat} {B:aJ} (l:rd b=some B) (k:B.esz ≠ dw):
  ∃ vs,aO g m S B.cells vs∧(B.pr=true→aZ S B.cells vs)∧gz (bI S m rd w) (m b).1 0 vs∧vs.length=B.cells.length:=by
 obtain ⟨vs,i,e,h,n,d⟩:=zD f a l
 refine ⟨vs,i,e,fun j u c=> ?_,n⟩
 rw [Nat.zero_add]
 exact ⟨h j u c,d k u (List.mem_of_getElem? c)⟩
theorem Bf {S':ay} {l:List AV} {y:AV} {vs:List Value} {k:Nat} (h:OG l=some y) (a:aZ S' l vs) (hs:∀ j u,vs[j]? =some u→S' k j=some u):PR S' y (.map (some k)):=by
 unfold OG at h
 split at h
 ·rename_i ks f
  cases h
  match vs,a with
  | [v0,v1],a=>
   simp only [aZ,PR,and_true] at a
   obtain ⟨⟨b,rfl,d⟩,c,rfl,e⟩:=a
   simp only [PR]
   exact .inr ⟨k,b,c,rfl,hs 0 _ rfl,hs 1 _ rfl,d,e⟩
  | [],a=>simp [aZ] at a
  | [_],a=>simp [aZ] at a
  |_::_::_::_,a=>simp [aZ] at a
 ·cases h
theorem nU {S':ay} {f:AV→Option AV} (a:∀ x v y,f x=some y→VR g m S x v→PR S' y v):∀ {l l':List AV} {vs:List Value},eH f l=some l'→aO g m S l vs→aZ S' l' vs
 | [],l',[],h,_=>by simp [eH] at h;subst h;simp [aZ]
 | x::r,l',v::vs,h,hv=>by
  simp only [eH] at h
  simp only [aO] at hv
  split at h
  ·rename_i y b
   split at h
   ·rename_i q c
    cases h
    simp only [aZ]
    exact ⟨a x v y b hv.1,nU a c hv.2⟩
   ·cases h
  ·cases h
 | [],_,_::_,_,h=>by simp [aO] at h
 |_::_,_,[],_,h=>by simp [aO] at h
theorem gW (K:aV ap g m S w) {rd:bD} (z:∀ b B,rd b=some B→g b=some B):∀ (p:Nat) (x:AV) (v:Value) (y:AV),frz rd p x=some y→VR g m S x v→PR (bI S m rd w) y v:=by
 intro p
 induction p with
 |zero=>intro x v y h;simp [frz] at h
 | succ p ih=>
  intro x v y h f
  have C:=iW S m rd w
  have hlist:∀ {l l':List AV} {vs:List Value},eH (frz rd p) l=some l'→aO g m S l vs→aZ (bI S m rd w) l' vs:=fun F G=>nU (fun x v y hx f=>ih x v y hx f) F G
  unfold frz at h
  simp only at h
  split at h
  ·
   rename_i b ver i n
   have D:=bind_some h;clear h;obtain ⟨B,E,h⟩:=D
   split at h
   ·rename_i d
    simp only [VR] at f
    obtain ⟨B',s,_,_,q⟩:=f
    rw [z b B E] at s;cases s
    obtain ⟨o,rfl,L,ho,N,H⟩:=q (az d)
    obtain ⟨vs,F,G,I,M⟩:=tN K z E H
    have hpart:gz (bI S m rd w) (m b).1 o ((vs.drop (i*B.esz)).take (n*B.esz)):=by
     by_cases hi:i<(m b).2
     ·rw [ho hi]
      have:=(I.drop (i*B.esz)).take (n*B.esz)
      rwa [Nat.zero_add] at this
     ·have hn:n=0:=by omega
      subst hn
      intro j u hj
      simp at hj
    have k:∀ l,aZ (bI S m rd w) l ((vs.drop (i*B.esz)).take (n*B.esz))→PR (bI S m rd w) (.sl l n true) (.slice (some ⟨(m b).1,o,none⟩) n ((m b).2 - i)):=by
     intro l t
     simp only [PR]
     exact ⟨_,_,rfl,by omega,.inr ⟨_,_,_,rfl,t,hpart⟩⟩
    split at h
    ·rename_i A
     cases h
     exact k _ (h_ _ (lC _ (aP C _ (G A))))
    ·simp only [Option.map_eq_some_iff] at h
     obtain ⟨l,t,rfl⟩:=h
     exact k _ (hlist t (lF _ (nV _ F)))
   ·cases h
  ·
   rename_i b ver J
   have D:=bind_some h;clear h;obtain ⟨B,E,h⟩:=D
   split at h
   ·rename_i d
    simp only [Bool.and_eq_true,Bool.not_eq_true'] at d
    have H:B.esz ≠ dw:=fun e=>by rw [e] at d;exact absurd d.2 (by decide)
    simp only [VR] at f
    obtain ⟨B',s,_,_,q⟩:=f
    rw [z b B E] at s;cases s
    have q:=q (az d.1)
    subst q
    obtain ⟨vs,F,G,I,M⟩:=tN K z E H
    have k:∀ l,aZ (bI S m rd w) l vs→PR (bI S m rd w) (.pp l J) (.pointer (some ⟨(m b).1,J,none⟩)):=by
     intro l t
     simp only [PR]
     exact ⟨_,0,_,by rw [Nat.zero_add],t,I⟩
    split at h
    ·rename_i A
     cases h
     exact k _ (aP C _ (G A))
    ·simp only [Option.map_eq_some_iff] at h
     obtain ⟨l,t,rfl⟩:=h
     exact k _ (hlist t F)
   ·cases h
  ·
   rename_i b ver
   have D:=bind_some h;clear h;obtain ⟨B,E,h⟩:=D
   split at h
   ·rename_i d
    simp only [Bool.and_eq_true] at d
    simp only [VR] at f
    obtain ⟨B',s,_,_,q⟩:=f
    rw [z b B E] at s;cases s
    have q:=q (az d.1)
    subst q
    obtain ⟨vs,F,G,I,M,_⟩:=zD K z E
    split at h
    ·rename_i A
     exact Bf h (aP C _ (G A)) I
    ·have D:=bind_some h;clear h;obtain ⟨l,t,h⟩:=D
     exact Bf h (hlist t F) I
   ·cases h
  ·simp only [Option.map_eq_some_iff] at h
   obtain ⟨l,t,rfl⟩:=h
   simp only [VR] at f
   obtain ⟨vs,e,q⟩:=f
   simp only [PR]
   exact ⟨vs,e,hlist t q⟩
  ·simp only [Option.map_eq_some_iff] at h
   obtain ⟨l,t,rfl⟩:=h
   simp only [VR] at f
   obtain ⟨vs,e,q⟩:=f
   simp only [PR]
   exact ⟨vs,e,hlist t q⟩
  ·have D:=bind_some h;clear h;obtain ⟨a,ha,h⟩:=D
   simp only [Option.map_eq_some_iff] at h
   obtain ⟨c,Z,rfl⟩:=h
   simp only [VR] at f
   obtain ⟨Y,U,e,q,r⟩:=f
   simp only [PR]
   exact ⟨Y,U,e,hlist ha q,hlist Z r⟩
  ·simp only [Option.map_eq_some_iff] at h
   obtain ⟨u,W,rfl⟩:=h
   simp only [VR] at f
   obtain ⟨Q,e,q⟩:=f
   simp only [PR]
   exact ⟨Q,e,ih _ _ _ W q⟩
  ·cases h
  ·rename_i n1 n2 T V n4 R X O
   cases h
   refine bn C _ ?_
   cases x<;>first
    |exact absurd rfl (n1 _ _ _ _)
    |exact absurd rfl (n2 _ _ _)
    |exact absurd rfl (T _ _)
    |exact absurd rfl (V _)
    |exact absurd rfl (n4 _)
    |exact absurd rfl (R _ _ _)
    |exact absurd rfl (X _ _)
    |exact absurd rfl (O _ _ _)
    |(simp only [VR] at f;exact f)
    |(simp only [PR])
end
end AM
