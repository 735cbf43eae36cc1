/- The abstract machine over the code of the model, and the proof that it is sound. No conditions. -/
import Derived.Test.YtdmfgmmooalfnaaGreatDoorM1
import Derived.Laws.BytesString
import Derived.Laws.MakeOwn
import Derived.Laws.OwnMore
set_option linter.unusedSimpArgs false
set_option linter.unusedVariables false
namespace AM
open Go
section
variable {P:Program} {ap:AP} {g:dF} {m:aX} {S:aU} {w:World}
theorem DR {x:AV} {v:Value} (h:VR g m S x v) (e:∀ y ∈ x.cells,oH y=true):aY g m S x.cells v.cells.toList∧∀ u ∈ v.cells,u.oneCell'=true:=by
 cases x
 case agg l=>
  simp only [VR] at h
  obtain ⟨vs,rfl,h⟩:=h
  refine ⟨by simpa [Value.cells,AV.cells] using h, ?_⟩
  intro u c
  simp only [Value.cells] at c
  simp only [AV.cells] at e
  have:∀ (l:List AV) (vs:List Value),aY g m S l vs→(∀ y ∈ l,oH y=true)→∀ u ∈ vs,u.oneCell'=true:=by
   intro l
   induction l with
   |nil=>intro vs f _ u c;cases vs<;>simp [aY] at f c
   | cons a r ih=>
    intro vs f e u c
    cases vs with
    |nil=>simp [aY] at f
    |cons b q=>
     simp only [aY] at f
     rcases List.mem_cons.1 c with rfl|c
     ·exact NI f.1 (e a (by simp))
     ·exact ih q f.2 (fun y i=>e y (by simp [i])) u c
  exact this l vs h e u (by simpa using c)
 all_goals
  have d:=NI h (e _ (by simp [AV.cells]))
  have j:v.cells=#[v]:=by cases v<;>simp [Value.cells,Value.oneCell'] at d ⊢
  rw [j]
  refine ⟨by simp only [AV.cells,aY];exact ⟨h,trivial⟩,by simpa using d⟩
theorem Hz:∀ (vs:List Value) (i a:Nat) (b:Array Value),a+i+vs.length≤b.size→
  ((vs.zipIdx i).foldl (fun (b:Array Value) (p:Value × Nat)=>b.setIfInBounds (a+p.2) p.1) b).toList=b.toList.take (a+i)++vs++b.toList.drop (a+i+vs.length)
 | [],i,a,b,_=>by simp
 | v::vs,i,a,b,h=>by
  simp only [List.length_cons] at h
  simp only [List.zipIdx_cons,List.foldl_cons]
  rw [Hz vs (i+1) a (b.setIfInBounds (a+i) v) (by simp;omega)]
  have c:a+i<b.toList.length:=by simp;omega
  simp only [Array.toList_setIfInBounds]
  rw [show a+(i+1)=a+i+1 from by omega,List.set_eq_take_append_cons_drop,if_pos c]
  have e:(b.toList.take (a+i)++v::b.toList.drop (a+i+1)).take (a+i+1)=b.toList.take (a+i)++ [v]:=by
   rw [List.take_append]
   have f:a+i+1 - (b.toList.take (a+i)).length=1:=by simp [List.length_take];omega
   rw [f]
   simp [List.take_take]
  have d:(b.toList.take (a+i)++v::b.toList.drop (a+i+1)).drop (a+i+1+vs.length)=b.toList.drop (a+i+(v::vs).length):=by
   rw [List.drop_append]
   have:(b.toList.take (a+i)).length=a+i:=by simp [List.length_take];omega
   rw [this,List.drop_eq_nil_of_le (by rw [this];omega),List.nil_append,show a+i+1+vs.length - (a+i)=vs.length+1 from by omega,List.drop_succ_cons,List.drop_drop]
   congr 1
   simp;omega
  rw [e,d]
  simp
theorem PW {xs vs:List AV} {c b:List Value} {a:Nat} (h:aY g m S xs c) (d:aY g m S vs b):aY g m S (iI xs a vs) (c.take a++b++c.drop (a+b.length)):=by
 unfold iI
 rw [← bK d]
 exact fQ (fQ (qL _ h) d) (uq _ h)
theorem YW {xs vs:List AV} {c b:List Value} {a:Nat} (h:dV S xs c) (d:dV S vs b):dV S (iI xs a vs) (c.take a++b++c.drop (a+b.length)):=by
 unfold iI
 rw [← xh d]
 exact nY (nY (kD _ h) d) (qJ _ h)
def nZ (g:dF) (m:aX) (S:aU) (place:Nat→Option (Nat × Nat)):List (Nat × Nat × AV)→List (Nat × Value)→Prop
 | [],[]=>True
 |(off,size,v)::r,(i,c)::q=>place i=some (off,size)∧VR g m S v c∧nZ g m S place r q
 |_,_=>False
theorem p_ {place:Nat→Option (Nat × Nat)}:∀ (ps:List (Nat × Nat × AV)) (qs:List (Nat × Value)) (cells cells':List AV) (cs:Array Value),nZ g m S place ps qs→aY g m S cells cs.toList→wV cells ps=some cells'→
  ∃ a,Instr.fill place cs qs=some a∧aY g m S cells' a.toList∧a.size=cs.size
 | [],[],cells,cells',cs,_,hv,h=>by simp [wV] at h;subst h;exact ⟨cs,rfl,hv,rfl⟩
 | (off,size,v)::r,(i,c)::q,cells,cells',cs,hp,hv,h=>by
  simp only [nZ] at hp
  simp only [wV] at h
  split at h
  ·rename_i l
   simp only [Bool.and_eq_true] at l
   obtain ⟨⟨o,n⟩,u⟩:=l
   obtain ⟨k,B⟩:=DR hp.2.1 (fun y s=>List.all_eq_true.1 u y s)
   have z:=bK k
   have f:=bK hv
   have o:=aP o
   have n:=fH n
   have x:c.cells.size=size:=by simp only [Array.length_toList] at z;omega
   have d:off+c.cells.size≤cs.size:=by simp only [Array.length_toList] at f;omega
   have j:=Hz c.cells.toList 0 off cs (by simpa using d)
   have b:aY g m S (iI cells off v.cells) ((c.cells.zipIdx.foldl (fun (cs:Array Value) (p:Value × Nat)=>cs.setIfInBounds (off+p.2) p.1) cs)).toList:=by
    rw [← Array.foldl_toList,Array.toList_zipIdx,j]
    simp only [Nat.add_zero]
    exact PW hv k
   obtain ⟨a,e,t,A⟩:=p_ r q _ cells' _ hp.2.2 b h
   refine ⟨a, ?_,t, ?_⟩
   ·simp only [Instr.fill,hp.1]
    rw [if_neg (by simp;omega)]
    exact e
   ·rw [A,← Array.length_toList,← Array.foldl_toList,Array.toList_zipIdx,j]
    simp
    omega
  ·cases h
 | [],_::_,_,_,_,hp,_,_=>by simp [nZ] at hp
 |_::_,[],_,_,_,hp,_,_=>by simp [nZ] at hp
theorem qM {t:Nat} {a:TI} {i:TypeInfo} {d:TypeDesc} {z:Value} (b:CP P t a i d z):aY g m S a.zero z.cells.toList:=by
 rw [b.zcells];exact bW _ (wP S _)
def yf (g:dF) (m:aX) (S:aU):List (Nat × AV)→List (Nat × Value)→Prop
 | [],[]=>True
 |(i,v)::r,(j,c)::q=>i=j∧VR g m S v c∧yf g m S r q
 |_,_=>False
theorem sW {size:Nat}:∀ {ps:List (Nat × AV)} {qs:List (Nat × Value)},yf g m S ps qs→nZ g m S (fun i=>some (i*size,size)) (ps.map fun (i,v)=>(i*size,size,v)) qs
 | [],[],_=>by simp [nZ]
 |(i,v)::r,(j,c)::q,h=>by
  simp only [yf] at h
  obtain ⟨rfl,b,a⟩:=h
  simp only [List.map_cons,nZ]
  exact ⟨trivial,b,sW a⟩
 | [],_::_,h=>by simp [yf] at h
 |_::_,[],h=>by simp [yf] at h
theorem BI {b:List (Nat × Nat × Nat)} {place:Nat→Option (Nat × Nat)} (hp:∀ i x,b[i]? =some x→place i=some (x.1,x.2.2)):∀ {ps:List (Nat × AV)} {qs:List (Nat × Value)} {rs:List (Nat × Nat × AV)},yf g m S ps qs→
  jP (fun (q:Nat × AV)=>(b[q.1]?).map fun (x:Nat × Nat × Nat)=>(x.1,x.2.2,q.2)) ps=some rs→nZ g m S place rs qs
 | [],[],rs,_,h=>by simp [jP] at h;subst h;simp [nZ]
 | (i,v)::r,(j,c)::q,rs,hn,h=>by
  simp only [yf] at hn
  obtain ⟨rfl,f,e⟩:=hn
  simp only [jP] at h
  cases a:b[i]? with
  |none=>simp [a] at h
  | some x=>
   simp only [a,Option.map_some] at h
   split at h
   ·rename_i l d
    cases h
    simp only [nZ]
    exact ⟨hp i x a,f,BI hp e d⟩
   ·cases h
 | [],_::_,_,h,_=>by simp [yf] at h
 |_::_,[],_,h,_=>by simp [yf] at h
theorem BH:∀ (fields:List Field),(∀ f ∈ fields,(P.info? f.type).isSome)→fields.mapM (fun f=>(P.info? f.type).map fun i=>(f.offset,i.size))=some (fields.map fun f=>(f.offset,match P.info? f.type with|some i=>i.size|none=>0))
 | [],_=>rfl
 | f::r,h=>by
  cases a:P.info? f.type with
  |none=>have:=h f (by simp);simp [a] at this
  |some i=>
   simp [List.mapM_cons,a,BH r (fun f b=>h f (by simp [b]))]
theorem IU (q:iJ P ap) {t:Nat} {l:TI} {i:TypeInfo} {d:TypeDesc} {z:Value} (b:CP P t l i d z) {ps:List (Nat × AV)} {qs:Array (Nat × Value)} (B:yf g m S ps qs.toList) {v:AV} {ups:List (Nat × bi)} {bs:List Bool}
  (h:NS ap l ps=some (v,ups,bs)):ups= []∧∃ cv,(Instr.build t qs).run P w= .ok cv w∧VR g m S v cv:=by
 unfold NS at h
 split at h
 ·rename_i H hd
  have j:=bind_some h;clear h;obtain ⟨E,s,h⟩:=j
  have j:=bind_some h;clear h;obtain ⟨A,k,h⟩:=j
  obtain ⟨rfl,rfl,rfl⟩:=aT h
  rw [b.d_eq] at hd
  obtain ⟨fields,rfl,rfl⟩:=wF hd
  by_cases hall:∀ f ∈ fields.toList,(P.info? f.type).isSome
  ·have p:=BH fields.toList hall
   have r:=BI (place:=((fields.toList.map fun f=>(f.offset,match P.info? f.type with|some i=>i.size|none=>0)).toArray[·]?)) (by
    intro i x C
    simp only [List.getElem?_map,Option.map_eq_some_iff] at C
    obtain ⟨f,o,rfl⟩:=C
    simp [o]
    rfl) B s
   obtain ⟨a,y,u,_⟩:=p_ E qs.toList l.zero A z.cells r (qM b) k
   refine ⟨rfl,.agg a,run_build w t qs a ?_, ?_⟩
   ·simp only [Program.built,b.info,b.und,b.zero]
    rw [p]
    exact y
   ·simp only [VR];exact ⟨a.toList,by simp,u⟩
  ·exfalso
   apply hall
   intro f o
   have:=b.fld
   simp only [Wx] at this
   exact List.all_eq_true.1 this f o
 ·rename_i n e hd
  have j:=bind_some h;clear h;obtain ⟨D,c,h⟩:=j
  have j:=bind_some h;clear h;obtain ⟨A,k,h⟩:=j
  obtain ⟨rfl,rfl,rfl⟩:=aT h
  obtain ⟨G,F,I,c⟩:=dQ q c
  rw [b.d_eq] at hd
  have hd:=zC hd
  subst hd
  obtain ⟨a,y,u,_⟩:=p_ _ qs.toList l.zero A z.cells (sW (size:=D.size) B) (qM b) k
  refine ⟨rfl,.agg a,run_build w t qs a ?_, ?_⟩
  ·simp only [Program.built,b.info,b.und,b.zero,c.info]
   rw [← c.size]
   exact y
  ·simp only [VR];exact ⟨a.toList,by simp,u⟩
 ·cases h
end
end AM
namespace AM
open Go
section
variable {P:Program} {ap:AP} {g:dF} {m:aX} {S:aU} {w:World}
theorem xI {t:Nat} {k:TI} {i:TypeInfo} {d:TypeDesc} {z:Value} (f:CP P t k i d z) {v:AV} (h:rG k k.zero=some v):VR g m S v z:=by
 have b:=qM (g:=g) (m:=m) (S:=S) f
 have e:=f.zagg
 unfold rG at h
 rw [f.d_eq,FY] at h
 unfold ag9 at e
 rw [f.zero] at e
 split at h
 ·rename_i a
  cases h
  cases d<;>simp [TypeDesc.isRow] at a<;>cases z<;>simp at e
  all_goals
   simp only [VR]
   exact ⟨_,rfl,by simpa [Value.cells] using b⟩
 ·rename_i a
  split at h
  ·rename_i c l
   cases h
   have j:z.cells=#[z]:=by
    cases z<;>first|rfl|skip
    cases d<;>simp [TypeDesc.isRow] at a e
   rw [l,j] at b
   simp only [aY] at b
   exact b.1
  ·cases h
theorem Gz (s:iJ P ap) {x v:AV} {C:Value} (o:VR g m S x C) {asserted:Nat} {ok:Bool} {ups:List (Nat × bi)} {bs:List Bool} (h:IQ ap x asserted ok=some (v,ups,bs)) (D:Nat):
  ups= []∧∃ cv,(Instr.typeAssert C D asserted ok).run P w= .ok cv w∧VR g m S v cv:=by
 unfold IQ at h
 have n:=bind_some h;clear h;obtain ⟨F,y,h⟩:=n
 obtain ⟨i,d,z,f⟩:=dQ s y
 have a:∀ A,d ≠ .interface A:=by
  intro A e;subst e;rw [f.d_eq] at h;simp [jR] at h
 have key:∀ (c:Value),(∃ t u,c= .iface t u∧t ≠ asserted)∨c= .nilIface→∀ l,VR g m S l z→ok=true→(Instr.typeAssert c D asserted ok).run P w= .ok (.tuple #[z,.bool false]) w:=by
  intro c E l _ r
  subst r
  rcases E with ⟨t,u,rfl,k⟩|rfl
  ·cases d<;>first|exact absurd rfl (a _)|simp [Instr.typeAssert,run_underlying f.und,k,zeroValue,typeInfo,f.info,f.zero]
  ·cases d<;>first|exact absurd rfl (a _)|simp [Instr.typeAssert,run_underlying f.und,zeroValue,typeInfo,f.info,f.zero]
 split at h
 ·cases h
 ·split at h
  ·rename_i t u
   simp only [VR] at o
   obtain ⟨q,rfl,B⟩:=o
   split at h
   ·rename_i j
    have j:=aP j
    subst j
    obtain ⟨rfl,rfl,rfl⟩:=aT h
    cases ok
    ·refine ⟨rfl,q, ?_,B⟩
     cases d<;>first|exact absurd rfl (a _)|simp [Instr.typeAssert,run_underlying f.und]
    ·refine ⟨rfl,.tuple #[q,.bool true], ?_, ?_⟩
     ·cases d<;>first|exact absurd rfl (a _)|simp [Instr.typeAssert,run_underlying f.und]
     ·simp only [VR];exact ⟨[q,.bool true],rfl,by simp only [aY,VR,PR];exact ⟨B,trivial,trivial⟩⟩
   ·rename_i j
    have k:t ≠ asserted:=by intro e;subst e;simp at j
    cases ok
    ·cases h
    ·simp only at h
     have n:=bind_some h;clear h;obtain ⟨l,p,h⟩:=n
     obtain ⟨rfl,rfl,rfl⟩:=aT h
     have b:=xI (g:=g) (m:=m) (S:=S) f p
     refine ⟨rfl,_,key _ (.inl ⟨_,_,rfl,k⟩) l b rfl, ?_⟩
     simp only [VR];exact ⟨[z,.bool false],rfl,by simp only [aY,VR,PR];exact ⟨b,trivial,trivial⟩⟩
  ·simp only [VR,PR] at o
   subst o
   cases ok
   ·cases h
   ·simp only at h
    have n:=bind_some h;clear h;obtain ⟨l,p,h⟩:=n
    obtain ⟨rfl,rfl,rfl⟩:=aT h
    have b:=xI (g:=g) (m:=m) (S:=S) f p
    refine ⟨rfl,_,key _ (.inr rfl) l b rfl, ?_⟩
    simp only [VR];exact ⟨[z,.bool false],rfl,by simp only [aY,VR,PR];exact ⟨b,trivial,trivial⟩⟩
  ·cases h
theorem tJ (R:bV ap g m S w) {rd:dF} (K:∀ b B,rd b=some B→g b=some B) {size:Nat} {x:AV} {O:Value} (f:VR g m S x O) {xs:List AV} {n:Nat} {pr:Bool} (h:MZ size rd x=some (xs,n,pr)) (M:xs.length=n*size)
  {tx:Nat} (hk:((∃ s,x= .str s)∧P.underlying tx=some .string∧size=1)∨((∀ s,x ≠ .str s)∧∃ e,P.underlying tx=some (.slice e))):
  ∃ news,Src P size tx O n news w∧aY g m S xs news∧(pr=true→dV S xs news):=by
 unfold MZ at h
 split at h
 ·rename_i T U nn
  cases h
  obtain ⟨_,e,d⟩:=hk.resolve_left (by rintro ⟨⟨s,hs⟩,_⟩;cases hs)
  simp only [VR,PR] at f
  obtain ⟨a,J,rfl,W,q⟩:=f
  rcases q with ⟨_,rfl,rfl,rfl⟩|⟨b,o,vs,rfl,hp,hs⟩
  ·cases a with
   |none=>exact ⟨[],Src.ofNil w d 0,by simp [aY],fun _=>by simp [dV]⟩
   |some p=>exact ⟨[],Src.ofSlice w d p 0 0 [] (by simp) (fun j u c=>by simp at c) (fun u y=>by simp at y),by simp [aY],fun _=>by simp [dV]⟩
  ·refine ⟨vs,Src.ofSlice w d ⟨b,o,none⟩ n J vs (by rw [← xh hp,M]) (fun j u c=>by rw [Addr.add_mid];exact R.one (hs j u c).1 (hs j u c).2) ?_,bW _ hp,fun _=>hp⟩
   intro u y
   obtain ⟨j,c⟩:=List.getElem?_of_mem y
   exact (hs j u c).2
 ·cases h
  obtain ⟨_,e,d⟩:=hk.resolve_left (by rintro ⟨⟨s,hs⟩,_⟩;cases hs)
  simp only [VR,PR] at f
  subst f
  exact ⟨[],Src.ofNil w d 0,by simp [aY],fun _=>by simp [dV]⟩
 ·rename_i s
  cases h
  obtain ⟨_,d,H⟩:=hk.resolve_right (by rintro ⟨hs,_⟩;exact hs s rfl)
  simp only [VR,PR] at f
  subst f
  subst H
  have hp:∀ s:List UInt8,dV S (s.map fun b=>AV.int .u8 b.toNat) (s.map fun b=>Value.int .u8 b.toNat):=by
   intro s
   induction s with
   |nil=>simp [dV]
   |cons a r ih=>simp only [List.map_cons,dV,PR];exact ⟨trivial,ih⟩
  have i:=Src.ofString (P:=P) w d ⟨s.toArray⟩
  have V:byteCells ⟨s.toArray⟩=s.map fun b=>Value.int .u8 b.toNat:=by simp [byteCells]
  rw [V,zB] at i
  exact ⟨_,i,bW _ (hp s),fun _=>hp s⟩
 ·rename_i b ver j U
  have X:=bind_some h;clear h;obtain ⟨B,Y,h⟩:=X
  split at h
  ·rename_i z
   cases h
   simp only [Bool.and_eq_true,Bool.not_eq_true'] at z
   obtain ⟨z,l⟩:=z
   have D:B.esz ≠ iG:=fun e=>by rw [e] at l;exact absurd l (by decide)
   obtain ⟨_,e,d⟩:=hk.resolve_left (by rintro ⟨⟨s,hs⟩,_⟩;cases hs)
   simp only [VR] at f
   obtain ⟨B',v,_,_,q⟩:=f
   have C:=K b B Y
   rw [C] at v;cases v
   obtain ⟨o,rfl,q1,Z,q3⟩:=q (aP z.1)
   have G:=aP z.2
   obtain ⟨cur,e',vs,rest,k,A,hp,F,I,N⟩:=(R.blk b B C).lies
   have k:=k.cells D
   have I:=I D
   have L:=bK F
   have E:((vs.drop (j*size)).take (n*size)).length=n*size:=by
    rw [← bK (qL _ (uq _ F))];exact M
   by_cases hn:n=0
   ·subst hn
    have Q:(vs.drop (j*size)).take (0*size)= []:=by simp
    refine ⟨[], ?_, ?_, ?_⟩
    ·exact Src.ofSlice w d _ 0 _ [] (by simp) (fun _ _ h=>by simp at h) (fun _ h=>by simp at h)
    ·simp [aY]
    ·intro _;simp [dV]
   ·have t:=Z (by omega)
    refine ⟨(vs.drop (j*size)).take (n*size),Src.ofSlice w d _ n _ _ E ?_ ?_,qL _ (uq _ F),fun pr=>kD _ (qJ _ (hp pr))⟩
    ·intro jj u c
     rw [t,Addr.add_mid,G,uA k,A]
     rw [List.getElem?_take] at c
     split at c
     ·rw [List.getElem?_drop] at c
      rw [List.getElem?_append_left (List.getElem?_eq_some_iff.1 c).1]
      exact c
     ·cases c
    ·intro u y
     exact I u (List.mem_of_mem_drop (List.mem_of_mem_take y))
  ·cases h
 ·cases h
theorem Ij:∀ (a:List Int) (s:List UInt8),a.foldl (fun (r:ByteArray) n=>r.push (UInt8.ofNat n.toNat)) ⟨s.toArray⟩=⟨(s++a.map fun n=>UInt8.ofNat n.toNat).toArray⟩
 | [],s=>by simp
 |n::a,s=>by
  simp only [List.foldl_cons]
  have e:(⟨s.toArray⟩:ByteArray).push (UInt8.ofNat n.toNat)=⟨(s++ [UInt8.ofNat n.toNat]).toArray⟩:=by simp [ByteArray.push]
  rw [e,Ij a]
  simp
theorem D_ (A:iJ P ap) (Y:bV ap g m S w) {rd:dF} (Q:∀ b B,rd b=some B→g b=some B) {s d:Nat} {ts U:TI} (I:ap.tyAt s=some ts) (M:ap.tyAt d=some U) {x v:AV} {L:Value} (F:VR g m S x L) {ups:List (Nat × bi)} {bs:List Bool}
  (h:D9 ap ts U rd x=some (v,ups,bs)) (hbs:∀ b ∈ bs,b=true):ups= []∧∃ cv,(convert s d L).run P w= .ok cv w∧VR g m S v cv:=by
 obtain ⟨i1,Z,z1,C⟩:=dQ A I
 obtain ⟨i2,d2,z2,D⟩:=dQ A M
 unfold D9 at h
 split at h
 ·rename_i k k' n hd
  obtain ⟨rfl,rfl,rfl⟩:=aT h
  rw [D.d_eq] at hd
  have hd:=Yu hd
  subst hd
  simp only [VR,PR] at F
  subst F
  exact ⟨rfl,_,by simp [convert,run_underlying C.und,run_underlying D.und,Conv.intToInt];rfl,by simp only [VR,PR]⟩
 ·rename_i s' j i
  obtain ⟨rfl,rfl,rfl⟩:=aT h
  rw [C.d_eq] at j
  rw [D.d_eq] at i
  have j:=xU j
  have i:=xU i
  subst j;subst i
  simp only [VR,PR] at F
  subst F
  exact ⟨rfl,_,by simp [convert,run_underlying C.und,run_underlying D.und];rfl,by simp only [VR,PR]⟩
 ·rename_i x0 e j i
  have O:=bind_some h;clear h;obtain ⟨te,p,h⟩:=O
  obtain ⟨ie,de,ze,p⟩:=dQ A p
  split at h
  ·cases h
  ·rename_i X xt xb t y
   have O:=bind_some h;clear h;obtain ⟨⟨xs,n,pr⟩,z,h⟩:=O
   obtain ⟨rfl,rfl,rfl⟩:=aT h
   obtain ⟨R,K⟩:=cZ hbs
   obtain ⟨K,_⟩:=cZ K
   rw [C.d_eq] at j
   rw [D.d_eq] at i
   have j:=gV j
   have i:=xU i
   subst j;subst i
   rw [p.d_eq] at t
   have t:=Yu t
   subst t
   have R:=aP R
   obtain ⟨f,hs,V,_⟩:=tJ (P:=P) Y Q F z (by omega) (tx:=s) (.inr ⟨fun s e=>y s e,e,C.und⟩)
   have E:f=(xs.map AV.toInt).map (Value.int .u8):=by
    have:∀ (xs:List AV) (f:List Value),aY g m S xs f→xs.all (chk (.int .u8))=true→f=(xs.map AV.toInt).map (Value.int .u8):=by
     intro xs
     induction xs with
     |nil=>intro f h _;cases f<;>simp [aY] at h ⊢
     | cons a r ih=>
      intro f h G
      cases f with
      |nil=>simp [aY] at h
      |cons c q=>
       simp only [aY] at h
       simp only [List.all_cons,Bool.and_eq_true] at G
       rw [List.map_cons,List.map_cons,ih q h.2 G.2]
       congr 1
       cases a<;>simp [chk] at G
       simp only [VR,PR] at h
       rw [h.1,fV G.1]
       rfl
    exact this xs f V K
   refine ⟨rfl,.string ⟨((xs.map AV.toInt).map fun n=>UInt8.ofNat n.toNat).toArray⟩, ?_, ?_⟩
   ·have hcells:=hs.cells
    have u:=hs.len w
    have o:=F
    cases L
    case slice a l c=>
     have W:l=n:=by simpa [Builtin.lenOf] using u
     subst W
     cases a with
     | none=>
      have N:f= []:=by simpa [Builtin.firstCells] using hcells.symm
      rw [N] at E
      have J:xs= []:=by
       have:(xs.map AV.toInt).map (Value.int .u8)= []:=E.symm
       simpa using this
      subst J
      simp [convert,run_underlying C.und,run_underlying D.und,run_underlying p.und,Conv.bytesToString]
      rfl
     | some a=>
      have H:(loadCells a l).run P w= .ok ((xs.map AV.toInt).map (Value.int .u8)).toArray w:=by
       rw [← E];simpa [Builtin.firstCells] using hcells
      have T:=run_bytesToString (P:=P) w a l c _ H
      rw [show ByteArray.empty=⟨([]:List UInt8).toArray⟩ from rfl,Ij,List.nil_append] at T
      simp only [convert,Sem.run_bind,run_underlying C.und,run_underlying D.und,run_underlying p.und,Result.andThen_ok]
      exact T
    all_goals (simp [Builtin.lenOf] at u)
    case string s0=>
     exfalso
     cases X<;>simp [MZ] at z
     case str s1=>exact y s1 rfl
     case nilS=>simp only [VR,PR] at o;cases o
     case sl a b c=>simp only [VR,PR] at o;obtain ⟨_,_,h,_⟩:=o;cases h
     case ref a b c d=>simp only [VR] at o;obtain ⟨_,_,_,⟨_,_,_,h⟩,_⟩:=o;cases h
   ·simp only [VR,PR]
    simp [List.map_map,Function.comp_def]
  ·cases h
 ·cases h
end
end AM
namespace AM
open Go
def dL (g:dF) (ups:List (Nat × bi)):dF:=fun b=>match aA ups b with|some B=>some B|none=>g b
def kz (m:aX) (b:Nat) (x:Nat × Nat):aX:=fun c=>if c=b then x else m c
theorem iC {α:Type}:∀ (a b:List (Nat × α)) (t:Nat),aA (a++b) t=match aA a t with|some x=>some x|none=>aA b t
 | [],b,t=>rfl
 |(u,x)::r,b,t=>by
  simp only [List.cons_append,aA]
  split
  ·rfl
  ·exact iC r b t
theorem kw (ups:List (Nat × bi)) (hp:Hp):dL (aA hp) ups=aA (ups++hp):=by
 funext b;rw [iC];unfold dL;cases aA ups b<;>rfl
theorem fF (g:dF):dL g []=g:=rfl
theorem mJ (g:dF) (b:Nat) (B:bi) (c:Nat):dL g [(b,B)] c=if c=b then some B else g c:=by
 simp only [dL,aA]
 by_cases h:c=b
 ·subst h;simp
 ·have:Nat.beq b c=false:=by
   cases a:Nat.beq b c with
   |false=>rfl
   |true=>exact absurd (aP a).symm h
  rw [this,if_neg h]
section
variable {P:Program} {ap:AP} {g:dF} {m:aX} {S:aU} {w:World}
theorem Sz.mono {g g':dF} {m b:aX} {S S':aU} {w w':World} {B:bi} {k c:Nat} (h:Sz g m S w B k c) (a:oW S S') (j:Ge g m g' b) (q:w'.heap[k]? =w.heap[k]?):Sz g' b S' w' B k c:=by
 obtain ⟨⟨cur,e,vs,rest,f,n,o,d,s,l⟩,i,r⟩:=h
 exact ⟨⟨cur,e,vs,rest,f.same q,n,fun p=>dm a _ (o p),lX a j _ d,s,l⟩,i,r⟩
theorem bV.seal_lt (h:bV ap g m S w) {k o:Nat} {v:Value} (a:S k o=some v):k<w.heap.size:=Vr (h.sealed k o v a)
theorem bV.put (h:bV ap g m S w) (b:Nat) (B:bi) (k c:Nat) {w':World}
  (j:w.heap.size≤k∨∃ B0,g b=some B0∧k=(m b).1) (hw:w.grownBy w' (some k)) (hblk:Sz g m S w' B k c)
  (hge:∀ B0,g b=some B0→B.esz=B0.esz∧((B.ver=B0.ver∧(k,c)=m b)∨B0.ver<B.ver))
  (hseal:∀ o v,S k o=some v→kG w' k o=some v∧B.fro=true∧o<B.fz):
  bV ap (dL g [(b,B)]) (kz m b (k,c)) S w'∧Fr g m S w (dL g [(b,B)]) (kz m b (k,c)) S w':=by
 have t:Ge g m (dL g [(b,B)]) (kz m b (k,c)):=by
  intro f B1 p
  by_cases e:f=b
  ·subst e
   obtain ⟨a,i⟩:=hge B1 p
   refine ⟨B,by rw [mJ,if_pos rfl],a, ?_⟩
   rcases i with ⟨i,D⟩|i
   ·exact .inl ⟨i,by simp [kz,D]⟩
   ·exact .inr i
  ·exact ⟨B1,by rw [mJ,if_neg e];exact p,rfl,.inl ⟨rfl,by simp [kz,e]⟩⟩
 have s:∀ f B1,g f=some B1→f ≠ b→(m f).1 ≠ k:=by
  intro f B1 p y e
  have r:=h.lt p
  rcases j with j|⟨B0,n,j⟩
  ·omega
  ·exact y (h.inj f b B1 B0 p n (e.trans j))
 have l:∀ k0,k0<w.heap.size→k0 ≠ k→w'.heap[k0]? =w.heap[k0]? :=fun k0 r z=>hw.block k0 r (by simpa using z)
 constructor
 ·refine ⟨?_, ?_, ?_, ?_,h.glob⟩
  ·intro f A B1 B2 d x u
   rw [mJ] at d x
   by_cases a:f=b<;>by_cases i:A=b
   ·rw [a,i]
   ·rw [if_neg i] at x
    simp only [kz,a,if_true,if_neg i] at u
    exact absurd u.symm (s A B2 x i)
   ·rw [if_neg a] at d
    simp only [kz,i,if_true,if_neg a] at u
    exact absurd u (s f B1 d a)
   ·rw [if_neg a] at d
    rw [if_neg i] at x
    simp only [kz,if_neg a,if_neg i] at u
    exact h.inj f A B1 B2 d x u
  ·intro f B1 d
   rw [mJ] at d
   by_cases a:f=b
   ·rw [if_pos a] at d
    cases d
    simp only [kz,if_pos a]
    exact hblk.mono (oW.refl S) t rfl
   ·rw [if_neg a] at d
    simp only [kz,if_neg a]
    exact (h.blk f B1 d).mono (oW.refl S) t (l _ (h.lt d) (s f B1 d a))
  ·intro k0 o v q
   by_cases e:k0=k
   ·subst e;exact (hseal o v q).1
   ·rw [NT (l k0 (h.seal_lt q) e)]
    exact h.sealed k0 o v q
  ·intro f B1 d o v q
   rw [mJ] at d
   by_cases a:f=b
   ·rw [if_pos a] at d
    cases d
    simp only [kz,if_pos a] at q
    exact (hseal o v q).2
   ·rw [if_neg a] at d
    simp only [kz,if_neg a] at q
    exact h.own f B1 d o v q
 ·refine ⟨t,oW.refl S,hw.os,hw.tape,hw.output,hw.size, ?_, ?_,fun _ _ _ q=> .inl q⟩
  ·intro k0 r C
   refine l k0 r (fun e=> ?_)
   subst e
   rcases j with j|⟨B0,n,j⟩
   ·omega
   ·exact C b B0 n j.symm
  ·intro f B1 d
   rw [mJ] at d
   by_cases a:f=b
   ·subst a
    rcases j with j|⟨B0,n,j⟩
    ·exact .inl (by simpa [kz] using j)
    ·exact .inr ⟨B0,n,by simp [kz,j]⟩
   ·rw [if_neg a] at d
    exact .inr ⟨B1,d,by simp [kz,a]⟩
end
mutual
theorem J9 {g:dF} {m:aX} {S:aU}:∀ (x:AV) {v:Value},VR g m S x v→dO x= []→PR S x v
 | .int _ _,_,p,_=>by simpa only [VR] using p
 | .bool _,_,p,_=>by simpa only [VR] using p
 | .str _,_,p,_=>by simpa only [VR] using p
 | .nilS,_,p,_=>by simpa only [VR] using p
 | .nilP,_,p,_=>by simpa only [VR] using p
 | .nilF,_,p,_=>by simpa only [VR] using p
 | .nilI,_,p,_=>by simpa only [VR] using p
 | .sl _ _ _,_,p,_=>by simpa only [VR] using p
 | .pp _ _,_,p,_=>by simpa only [VR] using p
 | .mp _ _,_,p,_=>by simpa only [VR] using p
 | .dead,_,_,_=>by simp only [PR]
 | .own _ _ _,_,p,_=>by simp only [VR] at p
 | .ref _ _ _ _,_,_,h=>by simp [dO] at h
 | .ptr _ _ _,_,_,h=>by simp [dO] at h
 | .mr _ _,_,_,h=>by simp [dO] at h
 | .agg l,_,p,h=>by
  simp only [VR] at p;simp only [PR];simp only [dO] at h
  obtain ⟨vs,e,q⟩:=p
  exact ⟨vs,e,fP l q h⟩
 | .tup l,_,p,h=>by
  simp only [VR] at p;simp only [PR];simp only [dO] at h
  obtain ⟨vs,e,q⟩:=p
  exact ⟨vs,e,fP l q h⟩
 | .fn f a c,_,p,h=>by
  simp only [VR] at p;simp only [PR];simp only [dO,List.append_eq_nil_iff] at h
  obtain ⟨b,d,e,q,r⟩:=p
  exact ⟨b,d,e,fP a q h.1,fP c r h.2⟩
 | .ifc t x,_,p,h=>by
  simp only [VR] at p;simp only [PR];simp only [dO] at h
  obtain ⟨u,e,q⟩:=p
  exact ⟨u,e,J9 x q h⟩
theorem fP {g:dF} {m:aX} {S:aU}:∀ (l:List AV) {vs:List Value},aY g m S l vs→bT l= []→dV S l vs
 | [],[],_,_=>by simp only [dV]
 |x::r,v::vs,p,h=>by simp only [aY] at p;simp only [bT,List.append_eq_nil_iff] at h;simp only [dV];exact ⟨J9 x p.1 h.1,fP r p.2 h.2⟩
 | [],_::_,p,_=>by simp [aY] at p
 |_::_,[],p,_=>by simp [aY] at p
end
section
variable {P:Program} {ap:AP} {g:dF} {m:aX} {S:aU} {w:World}
theorem qU {α:Type} {l:List α} (h:l.isEmpty=true):l= []:=by cases l<;>simp at h ⊢
theorem bV.fresh (h:bV ap g m S w) {nid:Nat} (j:g nid=none) (B:bi) (i:B.esz ≠ iG) (c:Nat) {w':World} {cur:Array Value} {e:TypeId} (a:w.grownBy w' none) (b:w'.heap[w.heap.size]? =some (.cells cur e (0,0)))
  (hver:B.fro=false→B.fz=0) (hfz:B.fz≤B.cells.length) {vs rest:List Value} (hc:cur.toList=vs++rest) (hp:B.pr=true→dV S B.cells vs) (f:aY g m S B.cells vs) (h1:∀ u ∈ vs,u.oneCell'=true) (hcap:0<B.esz→cur.size=c*B.esz∧c≤maxLen):
  bV ap (dL g [(nid,B)]) (kz m nid (w.heap.size,c)) S w'∧Fr g m S w (dL g [(nid,B)]) (kz m nid (w.heap.size,c)) S w':=by
 refine h.put nid B w.heap.size c (.inl (Nat.le_refl _)) ⟨a.os,a.tape,a.output,a.size,fun k l _=>a.block k l (by simp)⟩ ⟨⟨cur,e,vs,rest,jr.of i b,hc,hp,f,fun _=>h1,fun d _=>hcap d⟩,hver,hfz⟩ (fun B0 d=>by rw [j] at d;cases d) ?_
 intro o v f
 have:=h.seal_lt f
 omega
theorem Hf (h:bV ap g m S w) {nid:Nat} (f:g nid=none) {cells:List AV} {cv:Value} (a:aY g m S cells cv.cells.toList) (_hl:∀ x ∈ cells,oH x=true) (c:∀ u ∈ cv.cells,u.oneCell'=true) (t:TypeId):
  ∃ m' w',(newVar t cv).run P w= .ok ⟨w.heap.size,0,none⟩ w'∧bV ap (dL g [iY nid cells 0]) m' S w'∧Fr g m S w (dL g [iY nid cells 0]) m' S w'∧(m' nid).1=w.heap.size:=by
 have b:=h.fresh (nid:=nid) f (iY nid cells 0).2 (by show 0 ≠ iG;decide) 0 (w':=w.alloc (.cells cv.cells t)) (cur:=cv.cells) (e:=t) (World.grownBy_alloc w _ none) (heap_alloc_new w _) (fun _=>rfl) (Nat.zero_le _) (vs:=cv.cells.toList) (rest:= []) (by simp)
  (fun hp=>fP _ a (qU hp)) a (fun u d=>c u (by simpa using d)) (fun h=>by simp [iY] at h)
 refine ⟨_,_, ?_,b.1,b.2,by simp [kz]⟩
 simp [newVar,newRow]
theorem Q5 {b:aX} {nid:Nat} {cells:List AV} {a k:Nat} (c:(b nid).1=k):VR (dL g [iY nid cells a]) b S (.ptr nid 0 0) (.pointer (some ⟨k,0,none⟩)):=by
 simp only [VR]
 refine ⟨(iY nid cells a).2, ?_,Nat.zero_le _,⟨_,_,rfl⟩,fun _=>by rw [c]⟩
 show dL g [(nid,(iY nid cells a).2)] nid=_
 rw [mJ,if_pos rfl]
theorem JR (h:bV ap g m S w) {rd:dF} (J:∀ b B,rd b=some B→g b=some B) {t:Nat} {N:TI} {i:TypeInfo} {d:TypeDesc} {z:Value} (Q:CP P t N i d z) {p x v:AV} {T c:Value} (hp:VR g m S p T) (Z:VR g m S x c)
  {ups:List (Nat × bi)} {bs:List Bool} (hs:Px N rd p x=some (v,ups,bs)) (hbs:∀ b ∈ bs,b=true):
  v= .dead∧∃ m' w',(Instr.storeAt t T c).run P w= .ok () w'∧bV ap (dL g ups) m' S w'∧Fr g m S w (dL g ups) m' S w':=by
 unfold Px at hs
 split at hs
 ·rename_i b ver a
  have hq:=bind_some hs;clear hs;obtain ⟨B,hB,hs⟩:=hq
  simp only at hs
  split at hs
  ·rename_i R
   simp only [Bool.and_eq_true,Bool.not_eq_true'] at R
   obtain ⟨⟨⟨⟨c1,c2⟩,c3⟩,W⟩,M⟩:=R
   have l:B.esz ≠ iG:=fun e=>by rw [e] at M;exact absurd M (by decide)
   cases hs
   have j:=J b B hB
   have G:=aP c1
   have L:=aP c3
   have O:=fH (hbs _ (List.mem_singleton.2 rfl))
   simp only [VR] at hp
   obtain ⟨B',F,_,_,q⟩:=hp
   rw [j] at F;cases F
   have q:=q G
   subst q
   obtain ⟨r,E⟩:=DR Z (fun y V=>List.all_eq_true.1 W y V)
   obtain ⟨⟨cur,e,vs,rest,k1,k2,k3,k4,k5,k6⟩,k7,k8⟩:=h.blk b B j
   have k1:=k1.cells l
   have k5:=k5 l
   have A:=bK r
   have K:=bK k4
   have H:c.cells.size=i.size:=by simp only [Array.length_toList] at A;rw [← Q.size];omega
   have C:cur.toList.length=vs.length+rest.length:=by rw [k2];simp
   have D:=run_storeCells_at P (m b).1 a e c.cells.toList 0 cur w k1 (by simp only [Array.length_toList] at A C ⊢;omega) (fun u f=>E u (by simpa using f))
   simp only [Nat.add_zero] at D
   have hnewl:(cur.toList.take a++c.cells.toList++cur.toList.drop (a+c.cells.toList.length))=(vs.take a++c.cells.toList++vs.drop (a+c.cells.toList.length))++rest:=by
    rw [k2,List.take_append_of_le_length (by omega),List.drop_append_of_le_length (by omega)]
    simp [List.append_assoc]
   have n:=h.put b {B with cells:=iI B.cells a x.cells,pr:=B.pr && (bT x.cells).isEmpty} (m b).1 (m b).2 (w':=w.setRow (m b).1 (cur.toList.take a++c.cells.toList++cur.toList.drop (a+c.cells.toList.length)).toArray)
    (.inr ⟨B,j,rfl⟩) ⟨rfl,rfl,rfl,by simp,fun k _ hk=>setRow_other w _ k _ (fun e=>hk (by rw [e]))⟩
    ⟨⟨_,e,vs.take a++c.cells.toList++vs.drop (a+c.cells.toList.length),rest,jr.of l (setRow_heap w _ cur _ e _ k1),by rw [List.toList_toArray,hnewl],fun s=>by
      simp only [Bool.and_eq_true] at s
      exact YW (k3 s.1) (fP _ r (qU s.2)),PW k4 r,by
      intro _ u f
      rcases List.mem_append.1 f with f|f
      ·rcases List.mem_append.1 f with f|f
       ·exact k5 u (List.mem_of_mem_take f)
       ·exact E u (by simpa using f)
      ·exact k5 u (List.mem_of_mem_drop f),fun I _=>by
      obtain ⟨s1,X⟩:=k6 I l
      refine ⟨?_,X⟩
      rw [← s1,List.size_toArray]
      simp only [List.length_append,List.length_take,List.length_drop,Array.length_toList] at A C ⊢
      omega⟩,k7,by
     have:(iI B.cells a x.cells).length=B.cells.length:=by simp only [iI,List.length_append,List.length_take,List.length_drop];omega
     simp only [this];exact k8⟩
    (fun B0 U=>by rw [j] at U;cases U;exact ⟨rfl,.inl ⟨rfl,rfl⟩⟩)
    (fun o v Y=>by
     have:=(h.own b B j o v Y).1
     rw [c2] at this;cases this)
   refine ⟨rfl,_,_, ?_,n.1,n.2⟩
   have hn:¬ (c.cells.size ≠ i.size):=by simp [H]
   simp [Instr.storeAt,Instr.sureAddr,storeVar,Go.sizeOf,typeInfo,Q.info,H,D]
  ·cases hs
 ·cases hs
end
end AM
namespace AM
open Go
section
variable {P:Program} {ap:AP} {g:dF} {m:aX} {S:aU} {w:World}
theorem nV (g:dF) (b:Nat) (B:bi):dL g [(b,B)] b=some B:=by rw [mJ,if_pos rfl]
theorem Es {w w':World} (h:w.grownBy w' none) (r:Option Nat):w.grownBy w' r:=⟨h.os,h.tape,h.output,h.size,fun k a _=>h.block k a (by simp)⟩
theorem oq (w:World) (o:Obj):w.grownBy (w.drew.alloc o) none:=⟨rfl,rfl,rfl,by simp,fun k a _=>Go.RowKit.Below.heap_alloc w.drew o k a⟩
theorem wL {t tx ty e:TypeId} {i:TypeInfo} (d:P.underlying t=some (.slice e)) (c:P.info? e=some i) {x:Value} {a:List Value} (hs:Src P i.size tx x 0 a w):
  (Builtin.append_ #[t,tx] ty #[.slice none 0 0,x]).run P w= .ok (.slice none 0 0) w:=by
 rcases hs.kind with ⟨e',b⟩|b<;>simp [Builtin.append_,run_underlying d,run_underlying b,Go.sizeOf,typeInfo,c,hs.len,hs.cells]
theorem wM {t tx ty e:TypeId} {i:TypeInfo} (h:P.underlying t=some (.slice e)) (d:P.info? e=some i) {k o sLen sCap n:Nat} {x:Value} {a:List Value} (hs:Src P i.size tx x n a w) (hroom:sLen+n≤sCap)
  {cur:Array Value} {e':TypeId} (hk:w.heap[k]? =some (.cells cur e' (0,0))) (hfit:o+sLen*i.size+a.length≤cur.size):
  (Builtin.append_ #[t,tx] ty #[.slice (some ⟨k,o,none⟩) sLen sCap,x]).run P w= .ok (.slice (some ⟨k,o,none⟩) (sLen+n) sCap) (w.setRow k (cur.toList.take (o+sLen*i.size)++a++cur.toList.drop (o+sLen*i.size+a.length)).toArray):=by
 have b:=run_storeCells_at P k (o+sLen*i.size) e' a 0 cur w hk (by simpa using hfit) hs.one
 simp only [Nat.add_zero] at b
 rcases hs.kind with ⟨f,c⟩|c<;>simp [Builtin.append_,run_underlying h,run_underlying c,Go.sizeOf,typeInfo,d,hs.len,hroom,hs.cells,Addr.add_mid,b]
theorem Be {n a bytes:Nat} (h:a<n) (b:n≤Ir) (c:bytes≤128):Builtin.nextslicecap n a*bytes≤281474976710656:=by
 refine growslice_fits h ?_
 have:n*bytes≤Ir*128:=Nat.mul_le_mul b c
 have e:Ir*128=140737488355328:=by decide
 omega
theorem zt:Ir=1099511627776:=by decide
theorem Cm {t tx ty e:TypeId} {i:TypeInfo} (f:P.underlying t=some (.slice e)) (d:P.info? e=some i) {x:Value} {base:Option Addr} {sLen sCap:Nat} (hs:Src P i.size tx x 0 [] w) (c:sLen≤sCap):
  (Builtin.append_ #[t,tx] ty #[.slice base sLen sCap,x]).run P w= .ok (.slice base sLen sCap) w:=by
 cases base with
 |none=>rcases hs.kind with ⟨e',b⟩|b<;>simp [Builtin.append_,run_underlying f,run_underlying b,Go.sizeOf,typeInfo,d,hs.len,hs.cells,c]
 |some a=>rcases hs.kind with ⟨e',b⟩|b<;>simp [Builtin.append_,run_underlying f,run_underlying b,Go.sizeOf,typeInfo,d,hs.len,hs.cells,c,storeCells]
theorem wS (h:bV ap g m S w) {rd:dF} (Q:∀ b B,rd b=some B→g b=some B) {nid:Nat} (hn:g nid=none) {t tx e:Nat} {ti l:TI} {i F:TypeInfo} {z O:Value} {de:TypeDesc} (ht:CP P t ti i (.slice e) z) (y:CP P e l F de O)
  {s x v:AV} {cs cx:Value} (hvs:VR g m S s cs) (hvx:VR g m S x cx)
  (hk:((∃ s,x= .str s)∧P.underlying tx=some .string∧l.size=1)∨((∀ s,x ≠ .str s)∧∃ e,P.underlying tx=some (.slice e)))
  {em:Bool} (M:s= .nilS→∃ n,xu x=some n∧Nat.beq n 0=em)
  {ups:List (Nat × bi)} {bs:List Bool} (E:yj nid l rd em s x=some (v,ups,bs)) (r:∀ b ∈ bs,b=true) (ty:Nat):
  ∃ cv m' w',(Builtin.append_ #[t,tx] ty #[cs,cx]).run P w= .ok cv w'∧bV ap (dL g ups) m' S w'∧Fr g m S w (dL g ups) m' S w'∧VR (dL g ups) m' S v cv:=by
 have hcount:∀ xs n pr,MZ l.size rd x=some (xs,n,pr)→xu x=some n:=by
  intro xs n pr a
  unfold MZ at a
  split at a
  ·cases a;rfl
  ·cases a;rfl
  ·cases a;rfl
  ·have hq:=bind_some a;clear a;obtain ⟨B,hB,a⟩:=hq
   split at a
   ·cases a;rfl
   ·cases a
  ·cases a
 unfold yj at E
 have hq:=bind_some E;clear E;obtain ⟨⟨xs,n,pr⟩,a,E⟩:=hq
 simp only at E
 split at E
 ·cases E
 ·rename_i W
  simp only [Bool.and_eq_true] at W
  have hsz:=f_ W.1
  have hby:=fH W.2
  have d:l.size=F.size:=y.size
  have R:l.size ≠ iG:=fun e=>by have:=y.small;omega
  have hby':l.bytes=F.bytes:=y.bytes
  have hzs:O.cells.size=F.size:=y.zsize
  split at E
  ·
   obtain ⟨n',hc',M⟩:=M rfl
   rw [hcount _ _ _ a] at hc'
   cases hc'
   simp only [VR,PR] at hvs
   subst hvs
   split at E
   ·
    obtain ⟨rfl,rfl,rfl⟩:=aT E
    have N:n=0:=aP M
    subst N
    have hl:=aP (r _ (List.mem_singleton.2 rfl))
    obtain ⟨c,hs,hv,hp⟩:=tJ (P:=P) h Q hvx a hl hk
    rw [d] at hs
    exact ⟨_,m,w,wL ht.und y.info hs,by rw [fF];exact h,by rw [fF];exact Fr.refl _ _ _ _,by simp [VR,PR]⟩
   ·
    cases E
    obtain ⟨b1,r⟩:=cZ r
    obtain ⟨b2,_⟩:=cZ r
    have hl:=aP b1
    have hroom:=fH b2
    have N:n ≠ 0:=by intro e;subst e;simp at M
    obtain ⟨c,hs,hv,hp⟩:=tJ (P:=P) h Q hvx a hl hk
    rw [d] at hs
    have f:=run_append_grow_src w t tx ty e F O ht.und y.info y.zero none 0 0 [] (run_firstCells_none w.drew _ _ _ _) cx n c hs (by omega) (by rw [zt] at hroom;omega) (Be (by omega) (by simpa using hroom) (by omega))
    have Z:n≤grownCap w n 0 e:=grownCap_ge _ _ _ _
    have X:grownCap w n 0 e≤maxLen:=grownCap_le_maxLen _ _ _ _ (by rw [zt] at hroom;simp only [maxLen];omega)
    simp only [Nat.zero_add] at f
    have hf:=h.fresh (nid:=nid) hn ⟨xs,0,false,0,l.size,pr⟩ R (grownCap w n 0 e) (cur:=([]++c).toArray++Builtin.zeroCells O.cells (grownCap w n 0 e - n)) (e:=e) (oq w _) (heap_alloc_new w.drew _) (fun _=>rfl) (Nat.zero_le _)
     (vs:=c) (rest:=(Builtin.zeroCells O.cells (grownCap w n 0 e - n)).toList) (by simp) hp hv hs.one (fun _=> ⟨by
      simp only [Array.size_append,List.size_toArray,List.nil_append,size_zeroCells,hs.newsLen,hzs,d]
      rw [← Nat.add_mul];congr 1;omega,X⟩)
    refine ⟨_,_,_,f,hf.1,hf.2, ?_⟩
    simp only [VR]
    refine ⟨_,nV _ _ _,Nat.le_refl _,⟨_,_,_,rfl⟩,fun _=> ⟨0, ?_, ?_, ?_,hsz,R⟩⟩
    ·simp [kz]
    ·simpa [kz] using Z
    ·simp
  ·rename_i b ver mN
   have hq:=bind_some E;clear E;obtain ⟨B,hB,E⟩:=hq
   split at E
   ·rename_i G
    simp only [Bool.and_eq_true,Bool.not_eq_true'] at G
    have hver:=aP G.1.1
    have T:=aP G.1.2
    have A:B.esz ≠ iG:=fun e=>by rw [e] at G;exact absurd G.2 (by decide)
    cases E
    obtain ⟨b1,r⟩:=cZ r
    obtain ⟨b2,r⟩:=cZ r
    obtain ⟨b3,r⟩:=cZ r
    obtain ⟨b4,_⟩:=cZ r
    have hl:=aP b1
    have hroom:=fH b2
    have hfit:=fH b3
    have D:=Q b B hB
    simp only [VR] at hvs
    obtain ⟨B',hB',_,_,q⟩:=hvs
    rw [D] at hB';cases hB'
    obtain ⟨o,rfl,hcap,ho,H,hnz1⟩:=q hver
    simp only [Nat.zero_add,Nat.sub_zero,Nat.zero_mul] at hcap ho ⊢
    obtain ⟨c,hs,hv,hp⟩:=tJ (P:=P) h Q hvx a hl hk
    rw [d] at hs
    have hbk:=h.blk b B D
    obtain ⟨⟨cur,e',vs,rest,k1,k2,k3,k4,k5,k6⟩,k7,k8⟩:=hbk
    have k1:=k1.cells A
    have k5:=k5 A
    obtain ⟨s1,s2⟩:=k6 H A
    have hvl:=bK k4
    have hcl:cur.toList.length=vs.length+rest.length:=by rw [k2];simp
    simp only [Array.length_toList] at hcl
    have hfz:B.fz≤mN*l.size:=by
     cases hf:B.fro with
     |false=>rw [k7 hf];exact Nat.zero_le _
     |true=>simp [hf] at b4;exact fH (by simpa using b4)
    have holds:dV S (B.cells.take (mN*l.size)) (vs.take (mN*l.size))∨B.pr=false:=by
     cases hp:B.pr with
     |false=>exact .inr rfl
     |true=>exact .inl (kD _ (k3 hp))
    have L:(vs.take (mN*l.size)).length=mN*F.size:=by rw [List.length_take,d] at*;omega
    have V:aY g m S (B.cells.take (mN*l.size)++xs) (vs.take (mN*l.size)++c):=fQ (qL _ k4) hv
    have Y:(B.pr && pr)=true→dV S (B.cells.take (mN*l.size)++xs) (vs.take (mN*l.size)++c):=by
     intro hh
     simp only [Bool.and_eq_true] at hh
     exact nY (kD _ (k3 hh.1)) (hp hh.2)
    have h1:∀ u ∈ vs.take (mN*l.size)++c,u.oneCell'=true:=by
     intro u C
     rcases List.mem_append.1 C with C|C
     ·exact k5 u (List.mem_of_mem_take C)
     ·exact hs.one u C
    have K:B.fz≤(B.cells.take (mN*l.size)++xs).length:=by
     rw [List.length_append,List.length_take];omega
    by_cases hrm:mN+n≤(m b).2
    ·
     by_cases hc0:(m b).2=0
     ·have hm0:mN=0:=by omega
      have N:n=0:=by omega
      subst hm0;subst N
      have hnews:c= []:=by have:=hs.newsLen;simpa using this
      subst hnews
      have f:=Cm (P:=P) (w:=w) (ty:=ty) (base:=some ⟨(m b).1,o,none⟩) (sLen:=0) (sCap:=(m b).2) ht.und y.info hs (by omega)
      have p:=h.put b {B with cells:=B.cells.take (0*l.size)++xs,ver:=ver+1,pr:=B.pr && pr} (m b).1 (m b).2 (w':=w) (.inr ⟨B,D,rfl⟩) ⟨rfl,rfl,rfl,Nat.le_refl _,fun _ _ _=>rfl⟩
       ⟨⟨cur,e',_,vs.drop (0*l.size)++rest,jr.of A k1,by rw [k2];simp,Y,V,fun _=>h1,k6⟩,k7,K⟩ (fun B0 I=>by rw [D] at I;cases I;exact ⟨rfl,.inr (by simp only;omega)⟩)
       (fun o' u C=> ⟨h.sealed _ _ _ C,(h.own b B D o' u C)⟩)
      refine ⟨_,_,_,f,p.1,p.2, ?_⟩
      simp only [VR]
      refine ⟨_,nV _ _ _,Nat.le_refl _,⟨_,_,_,rfl⟩,fun _=> ⟨o,by simp [kz],by simp,by simp [kz,hc0],H,A⟩⟩
     ·have U:o=0:=ho (by omega)
      subst U
      have hnl:=hs.newsLen
      have hbig:mN*F.size+n*F.size≤(m b).2*F.size:=by rw [← Nat.add_mul];exact Nat.mul_le_mul_right _ hrm
      have hcs:cur.size=(m b).2*F.size:=by rw [s1,T,d]
      have f:=wM (P:=P) (w:=w) (ty:=ty) (o:=0) ht.und y.info hs hrm k1 (by simp only [Nat.zero_add];omega)
      simp only [Nat.zero_add] at f
      have hlist:cur.toList.take (mN*F.size)=vs.take (mN*l.size):=by rw [k2,d,List.take_append_of_le_length (by rw [d] at hfit;omega)]
      have p:=h.put b {B with cells:=B.cells.take (mN*l.size)++xs,ver:=ver+1,pr:=B.pr && pr} (m b).1 (m b).2 (w':=w.setRow (m b).1 (cur.toList.take (mN*F.size)++c++cur.toList.drop (mN*F.size+c.length)).toArray)
       (.inr ⟨B,D,rfl⟩) ⟨rfl,rfl,rfl,by simp,fun k _ hk=>setRow_other w _ k _ (fun e=>hk (by rw [e]))⟩
       ⟨⟨_,e',_,cur.toList.drop (mN*F.size+c.length),jr.of A (setRow_heap w _ cur _ e' _ k1),by rw [hlist],Y,V,fun _=>h1,fun _ _=> ⟨by
        rw [← s1,List.size_toArray]
        simp only [List.length_append,List.length_take,List.length_drop,Array.length_toList]
        omega,s2⟩⟩,k7,K⟩ (fun B0 I=>by rw [D] at I;cases I;exact ⟨rfl,.inr (by simp only;omega)⟩)
       (fun o' u C=>by
        obtain ⟨f1,f2⟩:=h.own b B D o' u C
        refine ⟨?_,f1,f2⟩
        have:=h.sealed _ _ _ C
        cases J:u.oneCell' with
        |false=>
         obtain ⟨_,_,hm,_⟩:=vO this J
         rw [k1] at hm;cases hm
        |true=>
        have this:=zX this J
        rw [uA k1] at this
        refine (jr.of A (setRow_heap w _ cur _ e' _ k1)).get ?_ (fun _=>J)
        simp only [List.append_assoc]
        rw [List.getElem?_append_left (by simp only [List.length_take,Array.length_toList];rw [d] at hfz;omega),List.getElem?_take_of_lt (by rw [d] at hfz;omega)]
        exact this)
      refine ⟨_,_,_,f,p.1,p.2, ?_⟩
      simp only [VR]
      refine ⟨_,nV _ _ _,Nat.le_refl _,⟨_,_,_,rfl⟩,fun _=> ⟨0,by simp [kz],by simpa [kz] using hrm,by simp,H,A⟩⟩
    ·
     have hold:(Builtin.firstCells F.size mN (.slice (some ⟨(m b).1,o,none⟩) mN (m b).2)).run P w.drew= .ok (vs.take (mN*l.size)).toArray w.drew:=by
      refine run_firstCells_some w.drew F.size mN ⟨(m b).1,o,none⟩ mN _ _ L ?_
      intro j u C
      have hjl:=(List.getElem?_eq_some_iff.1 C).1
      rw [L] at hjl
      have hm0:0<mN:=by
       rcases Nat.eq_zero_or_pos mN with I|I
       ·subst I;simp at hjl
       ·exact I
      have U:o=0:=ho (by omega)
      subst U
      rw [Addr.add_mid,Nat.zero_add,uA (w:=w.drew) (j:=j) k1,k2]
      rw [List.getElem?_take] at C
      split at C
      ·rw [List.getElem?_append_left (List.getElem?_eq_some_iff.1 C).1];exact C
      ·cases C
     have f:=run_append_grow_src w t tx ty e F O ht.und y.info y.zero (some ⟨(m b).1,o,none⟩) mN (m b).2 _ hold cx n c hs (by omega) (by rw [zt] at hroom;omega) (Be (by omega) hroom (by omega))
     have Z:mN+n≤grownCap w (mN+n) (m b).2 e:=grownCap_ge _ _ _ _
     have X:grownCap w (mN+n) (m b).2 e≤maxLen:=grownCap_le_maxLen _ _ _ _ (by rw [zt] at hroom;simp only [maxLen];omega)
     have p:=h.put b {B with cells:=B.cells.take (mN*l.size)++xs,ver:=ver+1,pr:=B.pr && pr} w.heap.size (grownCap w (mN+n) (m b).2 e) (.inl (Nat.le_refl _))
      (Es (oq w (.cells ((vs.take (mN*l.size)++c).toArray++Builtin.zeroCells O.cells (grownCap w (mN+n) (m b).2 e - (mN+n))) e)) _)
      ⟨⟨(vs.take (mN*l.size)++c).toArray++Builtin.zeroCells O.cells (grownCap w (mN+n) (m b).2 e - (mN+n)),e,_,(Builtin.zeroCells O.cells (grownCap w (mN+n) (m b).2 e - (mN+n))).toList,jr.of A (heap_alloc_new w.drew _),by simp,Y,V,fun _=>h1,fun _ _=> ⟨by
       simp only [Array.size_append,List.size_toArray,List.length_append,size_zeroCells,hs.newsLen,hzs]
       rw [L,T,d,← Nat.add_mul,← Nat.add_mul];congr 1;omega,X⟩⟩,k7,K⟩ (fun B0 I=>by rw [D] at I;cases I;exact ⟨rfl,.inr (by simp only;omega)⟩)
      (fun o' u C=>absurd (h.seal_lt C) (Nat.lt_irrefl _))
     refine ⟨_,_,_,f,p.1,p.2, ?_⟩
     simp only [VR]
     refine ⟨_,nV _ _ _,Nat.le_refl _,⟨_,_,_,rfl⟩,fun _=> ⟨0,by simp [kz],by simpa [kz] using Z,by simp,H,A⟩⟩
   ·cases E
  ·cases E
end
end AM
namespace AM
open Go
theorem BO (n:Nat) (z:List AV):(gu n z).length=n*z.length:=by simp [gu]
theorem Ur (n:Nat) (z:List AV):gu (n+1) z=z++gu n z:=by simp [gu,List.replicate_succ]
theorem MI:∀ (n:Nat) (z:List AV) (i:Nat),i<n*z.length→(gu n z)[i]? =z[i % z.length]?
 |0,z,i,h=>by simp at h
 | n+1,z,i,h=>by
  rw [Ur]
  by_cases a:i<z.length
  ·rw [List.getElem?_append_left a,Nat.mod_eq_of_lt a]
  ·have a:z.length≤i:=by omega
   rw [List.getElem?_append_right a,MI n z (i - z.length) (by rw [Nat.add_mul,Nat.one_mul] at h;omega)]
   congr 1
   rw [← Nat.mod_eq_sub_mod a]
section
variable {P:Program} {ap:AP} {g:dF} {m:aX} {S:aU} {w:World}
theorem DN:∀ {l:List AV} {vs:List Value},l.length=vs.length→(∀ (i:Nat) x v,l[i]? =some x→vs[i]? =some v→VR g m S x v)→aY g m S l vs
 | [],[],_,_=>by simp [aY]
 |x::r,v::vs,hl,h=>by
  simp only [aY]
  exact ⟨h 0 x v rfl rfl,DN (by simpa using hl) fun i x v b a=>h (i+1) x v (by simpa using b) (by simpa using a)⟩
 | [],_::_,h,_=>by simp at h
 |_::_,[],h,_=>by simp at h
theorem Am (z:Array Value) (n:Nat):(madeCells z n).toList=(List.range n).map fun i=>z[i % z.size]! :=by simp [madeCells]
theorem wY {t:Nat} {f:TI} {i:TypeInfo} {d:TypeDesc} {z:Value} (c:CP P t f i d z) (n:Nat):aY g m S (gu n f.zero) (madeCells z.cells (n*i.size)).toList:=by
 have k:=qM (g:=g) (m:=m) (S:=S) c
 have a:=bK k
 simp only [Array.length_toList,c.zsize] at a
 refine DN (by rw [BO,a,Array.length_toList,size_madeCells]) ?_
 intro j x v h e
 have o:j<n*i.size:=by
  have:=(List.getElem?_eq_some_iff.1 h).1
  rw [BO,a] at this;exact this
 rw [MI n f.zero j (by rw [a];exact o),a] at h
 rw [Am,c.zsize,List.getElem?_map,List.getElem?_range o] at e
 simp only [Option.map_some,Option.some.injEq] at e
 obtain ⟨q,b,p⟩:=rY k _ h
 have l:j % i.size<z.cells.size:=by rw [c.zsize];exact Nat.mod_lt _ c.pos
 simp only [Array.getElem?_toList] at b
 rw [getElem!_pos z.cells _ l] at e
 rw [Array.getElem?_eq_getElem l] at b
 cases b
 rw [← e];exact p
theorem Ip {n:Nat} {z:List AV} (h:∀ x ∈ z,oH x=true):∀ x ∈ gu n z,oH x=true:=by
 intro x a
 simp only [gu,List.mem_flatten,List.mem_replicate] at a
 obtain ⟨l,⟨_,rfl⟩,a⟩:=a
 exact h x a
theorem CQ:∀ {l:List AV} {vs:List Value},aY g m S l vs→(∀ x ∈ l,oH x=true)→∀ u ∈ vs,u.oneCell'=true
 | [],[],_,_=>by simp
 |x::r,v::vs,h,hl=>by
  simp only [aY] at h
  intro u a
  rcases List.mem_cons.1 a with rfl|a
  ·exact NI h.1 (hl x (by simp))
  ·exact CQ h.2 (fun y b=>hl y (by simp [b])) u a
 | [],_::_,h,_=>by simp [aY] at h
 |_::_,[],h,_=>by simp [aY] at h
theorem Jq {xs vs:List AV} {a:Nat} {x:AV} (h:x ∈ iI xs a vs):x ∈ xs∨x ∈ vs:=by
 simp only [iI,List.mem_append] at h
 rcases h with (h|h)|h
 ·exact .inl (List.mem_of_mem_take h)
 ·exact .inr h
 ·exact .inl (List.mem_of_mem_drop h)
theorem Ei:∀ {ps:List (Nat × Nat × AV)} {cells cells':List AV},wV cells ps=some cells'→(∀ x ∈ cells,oH x=true)→∀ x ∈ cells',oH x=true
 | [],cells,cells',h,hl=>by simp [wV] at h;subst h;exact hl
 | (off,size,v)::r,cells,cells',h,hl=>by
  simp only [wV] at h
  split at h
  ·rename_i b
   simp only [Bool.and_eq_true] at b
   refine Ei h fun x a=> ?_
   rcases Jq a with a|a
   ·exact hl x a
   ·exact List.all_eq_true.1 b.2 x a
  ·cases h
theorem Rk {nid:Nat} {cells:List AV} {a k c n:Nat} (d:n≤c) (hp:0<a) (b:a ≠ iG):VR (dL g [iY nid cells a]) (kz m nid (k,c)) S (.ref nid 0 0 n) (.slice (some ⟨k,0,none⟩) n c):=by
 simp only [VR]
 refine ⟨_,nV _ _ _,Nat.zero_le _,⟨_,_,_,rfl⟩,fun _=> ⟨0,by simp [kz],by simpa [kz] using d,by simp,hp,b⟩⟩
theorem tu:∀ (a b:List AV),bT (a++b)=bT a++bT b
 | [],b=>by simp [bT]
 |x::r,b=>by simp [bT,tu r b]
theorem Io (z:List AV) (h:bT z= []):∀ n,bT (gu n z)= []
 |0=>by simp [gu,bT]
 |n+1=>by
  have a:=Io z h n
  simp only [gu,List.replicate_succ,List.flatten_cons,tu,h,List.nil_append] at a ⊢
  exact a
theorem OW (nid n a:Nat) (z:List AV) (h:(bT z).isEmpty=true):(nid,(⟨gu n z,0,false,0,a,true⟩:bi))=iY nid (gu n z) a:=by
 have b:bT z= []:=by simpa using h
 simp [iY,Io z b n]
theorem Ap (B:iJ P ap) (h:bV ap g m S w) {nid:Nat} (R:g nid=none) {t:Nat} {J:TI} {i:TypeInfo} {d:TypeDesc} {z:Value} (M:CP P t J i d z) {l c:AV} {cl L:Value} (K:VR g m S l cl) (N:VR g m S c L)
  {v:AV} {ups:List (Nat × bi)} {bs:List Bool} (k:xG ap nid J l c=some (v,ups,bs)) (j:∀ b ∈ bs,b=true):
  ∃ cv m' w',(Instr.makeSlice t cl L).run P w= .ok cv w'∧bV ap (dL g ups) m' S w'∧Fr g m S w (dL g ups) m' S w'∧VR (dL g ups) m' S v cv:=by
 unfold xG at k
 split at k
 ·rename_i e Q l T c hd
  have U:=bind_some k;clear k;obtain ⟨q,a,k⟩:=U
  obtain ⟨n,W,G,a⟩:=dQ B a
  split at k
  ·rename_i f
   simp only [Bool.and_eq_true] at f
   have D:=f.2
   have f:=f.1
   have o:=f_ f.1.1
   have u:=fH f.2
   rw [OW _ _ _ _ D] at k
   cases k
   obtain ⟨s,j⟩:=cZ j
   obtain ⟨C,j⟩:=cZ j
   obtain ⟨I,_⟩:=cZ j
   have s:0≤l:=of_decide_eq_true s
   have C:l=c:=of_decide_eq_true C
   have I:l≤2^40:=of_decide_eq_true I
   subst C
   simp only [VR,PR] at K N
   subst K;subst N
   rw [M.d_eq] at hd
   have hd:=gV hd
   subst hd
   have p:(n.bytes:Int)*l≤281474976710656:=by
    have F:(n.bytes:Int)≤128:=by rw [← a.bytes];exact_mod_cast u
    have O:(n.bytes:Int)*l≤128*l:=Int.mul_le_mul_of_nonneg_right F s
    have V:(2:Int)^40=1099511627776:=by decide
    omega
   have E:l≤9223372036854775807:=by
    have V:(2:Int)^40=1099511627776:=by decide
    omega
   have r:=run_make (P:=P) w t e n G M.und a.info a.zero Q T l l s (Int.le_refl _) p E
   have A:aY g m S (gu l.toNat q.zero) (madeCells G.cells (l.toNat*n.size)).toList:=wY a _
   have y:∀ x ∈ gu l.toNat q.zero,oH x=true:=Ip a.zleaf
   have H:=h.fresh (nid:=nid) R (iY nid (gu l.toNat q.zero) q.size).2 (by have F:=a.small;have O:=a.size;show q.size ≠ iG;omega) l.toNat (w':=w.alloc (.cells (madeCells G.cells (l.toNat*n.size)) e)) (World.grownBy_alloc w _ none) (heap_alloc_new w _) (fun _=>rfl) (Nat.zero_le _)
    (rest:= []) (by rw [List.append_nil]) (fun hp=>fP _ A (qU hp)) A (CQ A y) (fun _=> ⟨by rw [size_madeCells];simp [iY,a.size],by simp only [maxLen];omega⟩)
   refine ⟨_,_,_,r,H.1,H.2, ?_⟩
   exact Rk (Nat.le_refl _) o (by have F:=a.small;have O:=a.size;omega)
  ·cases k
 ·cases k
theorem FQ {t e:TypeId} {i:TypeInfo} {z:Value} (j:P.underlying t=some (.slice e)) (c:P.info? e=some i) (b:i.zero=some z) {len:Nat} (d:len*i.size≤2^24) (h:len*i.size ≠ 0) {parts:Array (Nat × Value)} {cells:Array Value}
  (hf:Instr.fill (fun f=>some (f*i.size,i.size)) (madeCells z.cells (len*i.size)) parts.toList=some cells):
  (Instr.buildSlice t len parts).run P w= .ok (.slice (some ⟨w.heap.size,0,none⟩) len len) (w.alloc (.cells cells e)):=by
 have a:¬ (len*i.size>2^24):=by omega
 unfold madeCells at hf
 simp only [Instr.buildSlice,Sem.run_bind,run_underlying j,Result.andThen_ok]
 simp [Go.sizeOf,typeInfo,c,zeroValue,b,h,newRow]
 rw [if_neg (by simpa using a)]
 simp [hf]
theorem CB {t e:TypeId} {i:TypeInfo} (d:P.underlying t=some (.slice e)) (a:P.info? e=some i) {len:Nat} (c:len*i.size=0) {parts:Array (Nat × Value)} {cells:Array Value}
  (hf:Instr.fill (fun b=>some (b*i.size,i.size)) #[] parts.toList=some cells):
  (Instr.buildSlice t len parts).run P w= .ok (.slice (some ⟨w.heap.size,0,none⟩) len len) (w.alloc (.cells cells e)):=by
 simp [Instr.buildSlice,run_underlying d,Go.sizeOf,typeInfo,a,c,newRow,Array.range_zero',hf]
theorem yw (u:iJ P ap) (h:bV ap g m S w) {nid:Nat} (H:g nid=none) {t:Nat} {F:TI} {i:TypeInfo} {d:TypeDesc} {z:Value} (B:CP P t F i d z) {len:Nat} {ps:List (Nat × AV)} {qs:Array (Nat × Value)} (K:yf g m S ps qs.toList)
  {v:AV} {ups:List (Nat × bi)} {bs:List Bool} (b:ut ap nid F len ps=some (v,ups,bs)):
  ∃ cv m' w',(Instr.buildSlice t len qs).run P w= .ok cv w'∧bV ap (dL g ups) m' S w'∧Fr g m S w (dL g ups) m' S w'∧VR (dL g ups) m' S v cv:=by
 unfold ut at b
 split at b
 ·rename_i e hd
  have f:=bind_some b;clear b;obtain ⟨l,a,b⟩:=f
  obtain ⟨s,M,J,a⟩:=dQ u a
  split at b
  ·rename_i j
   simp only [Bool.and_eq_true] at j
   have c:=f_ j.1.1
   have C:=fH j.1.2
   have f:=bind_some b;clear b;obtain ⟨D,o,b⟩:=f
   cases b
   rw [B.d_eq] at hd
   have hd:=gV hd
   subst hd
   have r:aY g m S (gu len l.zero) (madeCells J.cells (len*s.size)).toList:=wY a _
   obtain ⟨k,p,A,I⟩:=p_ _ qs.toList _ D _ (sW (size:=l.size) K) r o
   rw [a.size] at p
   have n:(Instr.buildSlice t len qs).run P w= .ok (.slice (some ⟨w.heap.size,0,none⟩) len len) (w.alloc (.cells k e)):=by
    by_cases h0:len*s.size=0
    ·exact CB B.und a.info h0 (by rw [h0] at p;simpa [madeCells,Array.range_zero'] using p)
    ·exact FQ B.und a.info a.zero (by rw [← a.size];exact C) h0 p
   have q:∀ x ∈ D,oH x=true:=Ei o (Ip a.zleaf)
   have y:k.size=len*s.size:=by rw [I,size_madeCells]
   have E:=h.fresh (nid:=nid) H (iY nid D l.size).2 (by have G:=a.small;have L:=a.size;show l.size ≠ iG;omega) len (w':=w.alloc (.cells k e)) (World.grownBy_alloc w _ none) (heap_alloc_new w _) (fun _=>rfl) (Nat.zero_le _)
    (rest:= []) (by rw [List.append_nil]) (fun hp=>fP _ A (qU hp)) A (CQ A q) (fun _=> ⟨by rw [y];simp [iY,a.size],by
     have G:len≤len*l.size:=Nat.le_mul_of_pos_right _ c
     have N:(2:Nat)^24=16777216:=by decide
     simp only [maxLen];omega⟩)
   refine ⟨_,_,_,n,E.1,E.2, ?_⟩
   exact Rk (Nat.le_refl _) c (by have G:=a.small;have L:=a.size;omega)
  ·cases b
 ·cases b
theorem Yv {d:TypeDesc} {k e:Nat} (h:jR P (some d)= .map k e):d= .map k e:=by cases d<;>simp [jR] at h;obtain ⟨rfl,rfl⟩:=h;rfl
theorem TS {k:LK} {x y:AV} {u v:Value} (a:H7 k x=true) (b:H7 k y=true) (d:VR g m S x u) (c:VR g m S y v):
  t_ k u v=some (Eg x y)∧(Eg x y=true→u=v)∧(∀ n,Instr.sameBits n u u=true)∧dO x= []:=by
 cases k<;>cases x<;>simp [H7] at a<;>cases y<;>simp [H7] at b<;>simp only [VR,PR] at d c<;>subst d<;>subst c
 ·refine ⟨by simp [t_,Eg,a,b],fun h=> ?_,fun n=>by simp [Instr.sameBits],rfl⟩
  simp only [Eg,beq_iff_eq] at h
  rw [← fV a,← fV b,h]
 ·refine ⟨by simp [t_,Eg],fun h=> ?_,fun n=>by simp [Instr.sameBits],rfl⟩
  simp only [Eg,beq_iff_eq] at h
  rw [h]
 ·refine ⟨by simp [t_,Eg,xW],fun h=> ?_,fun n=>by cases n<;>simp [Instr.sameBits,MapKept.bytes_beq],rfl⟩
  simp only [Eg,beq_iff_eq] at h
  rw [h]
theorem oG:∀ {lks:List LK} {a b:List AV} {xs c:List Value},mX lks a=true→mX lks b=true→aY g m S a xs→aY g m S b c→
  dM lks xs c=some (Ja a b)∧(Ja a b=true→xs=c)∧(∀ n,∀ x ∈ xs,Instr.sameBits n x x=true)∧bT a= []
 | [],[],[],[],[],_,_,_,_=> ⟨rfl,fun _=>rfl,by simp,rfl⟩
 | k::lks,x::a,y::b,u::xs,v::c,ha,hb,h1,h2=>by
  simp only [mX,Bool.and_eq_true] at ha hb
  simp only [aY] at h1 h2
  obtain ⟨e,l,o,p⟩:=TS ha.1 hb.1 h1.1 h2.1
  obtain ⟨i,q,j,f⟩:=oG ha.2 hb.2 h1.2 h2.2
  refine ⟨by simp [dM,e,i,Ja],fun h=> ?_,fun n z d=> ?_,by simp [bT,p,f]⟩
  ·simp only [Ja,Bool.and_eq_true] at h
   rw [l h.1,q h.2]
  ·rcases List.mem_cons.1 d with rfl|d
   ·exact o n
   ·exact j n z d
 | [],_::_,_,_,_,ha,_,_,_=>by simp [mX] at ha
 |_::_,[],_,_,_,ha,_,_,_=>by simp [mX] at ha
 | [],[],_::_,_,_,_,hb,_,_=>by simp [mX] at hb
 |_::_,_::_,[],_,_,_,hb,_,_=>by simp [mX] at hb
 | [],[],[],_::_,_,_,_,h1,_=>by simp [aY] at h1
 | [],[],[],[],_::_,_,_,_,h2=>by simp [aY] at h2
 |_::_,_::_,_::_,[],_,_,_,h1,_=>by simp [aY] at h1
 |_::_,_::_,_::_,_::_,[],_,_,_,h2=>by simp [aY] at h2
def acV (P:Program) (n:Nat) (t:TypeId) (lks:List LK):Prop:=
 ∀ (em:Bool) (d:Nat) (w:World) (xs:List Value),n≤d→dM lks xs xs=some true→(Instr.checkKey em d t (vH P t xs)).run P w= .ok () w
theorem uG {lks:List LK} {xs:List Value} {r:Bool} (h:dM lks xs xs=some r):dM lks xs xs=some true:=by
 induction lks generalizing xs r with
 |nil=>cases xs<;>simp [dM] at h ⊢
 | cons k lks ih=>
  cases xs with
  |nil=>simp [dM] at h
  | cons x xs=>
   simp only [dM] at h ⊢
   obtain ⟨c,b,h⟩:=bind_some h
   rw [Option.map_eq_some_iff] at h
   obtain ⟨d,hd,rfl⟩:=h
   have a:t_ k x x=some true:=by
    cases k<;>cases x<;>simp [t_] at b ⊢
    split at b
    ·rename_i e
     simp [e]
    ·cases b
   simp [a,ih hd]
theorem rQ {n:Nat} (u:∀ t lks,jy P n t=some lks→acV P n t lks):∀ (fs:List Field) (off:Nat) (lks:List LK),yB P (jy P n) fs off=some lks→
  ∀ (em:Bool) (d:Nat) (w:World) (xs:List Value),n≤d→xs.length=off+lks.length→dM lks (xs.drop off) (xs.drop off)=some true→
   (forIn (m:=Sem) fs PUnit.unit fun f _=>do
    if f.name ≠ "_" then Instr.checkKey em d f.type (← part f.type xs.toArray f.offset)
    pure (ForInStep.yield PUnit.unit)).run P w= .ok PUnit.unit w
 | [],off,lks,hc,em,d,w,xs,hd,hx,h=>by simp
 | f ::fs,off,lks,hc,em,d,w,xs,hd,hx,h=>by
  simp only [yB] at hc
  cases j:jy P n f.type with
  |none=>simp [j] at hc
  | some l=>
   simp only [j] at hc
   split at hc
   ·rename_i hcond
    simp only [Bool.and_eq_true,Bool.not_eq_true'] at hcond
    obtain ⟨⟨v,s⟩,c⟩:=hcond
    cases q:yB P (jy P n) fs (off+l.length) with
    |none=>simp [q] at hc
    | some l'=>
     simp only [q] at hc
     cases hc
     cases o:P.info? f.type with
     |none=>simp [o] at c
     |some i=>
      simp only [o] at c
      have c:=aP c
      have s:=aP s
      have k:f.name ≠ "_" :=by intro e;rw [e] at v;exact absurd v (by decide)
      simp only [List.length_append] at hx
      obtain ⟨a,b,p,r,x⟩:=sK l l' _ _ true h
      have p:=uG p
      have r:=uG r
      have z:=vw j o c xs off (by omega) w
      have A:=u f.type l j em d w _ hd p
      have y:=rQ u fs (off+l.length) l' q em d w xs hd (by omega) (by simpa [List.drop_drop,Nat.add_comm] using r)
      simp only [List.forIn_cons,Sem.run_bind,k,ne_eq,not_false_eq_true,if_true,Result.andThen_ok,s,z,A,Sem.run_pure]
      simpa using y
   ·cases hc
theorem KD:∀ (n:Nat) (t:TypeId) (lks:List LK),jy P n t=some lks→acV P n t lks
 |0,_,_,h=>by simp [jy] at h
 | n +1,t,lks,h=>by
  intro e d w xs hd b
  obtain ⟨d,rfl⟩:∃ k,d=k+1:=⟨d - 1,by omega⟩
  have c:=qx _ _ _ _ b
  unfold jy at h
  cases a:P.underlying t with
  |none=>simp [a] at h
  | some ds=>
   unfold Instr.checkKey
   simp only [Sem.run_bind,run_underlying a,Result.andThen_ok,vH,a]
   cases ds<;>simp only [a] at h<;>try cases h
   case struct fs=>
    split at h
    ·cases h
    ·have:=rQ (KD n) fs.toList 0 lks h e d w xs (by omega) (by simp [c.1]) (by simpa using b)
     simp only [← Array.forIn_toList]
     simpa using this
   all_goals (cases xs.headD undef<;>simp)
theorem ED (d:iJ P ap) {t:Nat} {h:TI} (f:ap.tyAt t=some h) {a b:List AV} {xs j:List Value} (c:h.cmp=true) (e:mX h.lks a=true) (o:mX h.lks b=true) (k:aY g m S a xs) (v:aY g m S b j) (n:∃ u,P.underlying t=some (.struct u)):
  (∀ s,(Instr.checkKey s 10000 t (.agg xs.toArray)).run P w= .ok () w)∧(Op.equal t (.agg xs.toArray) (.agg j.toArray)).run P w= .ok (Ja a b) w:=by
 obtain ⟨u,n⟩:=n
 rw [(zG d f).1] at c
 rw [(zG d f).2] at e o
 unfold Zk at c
 cases i:jy P 8 t with
 |none=>simp [i] at c
 |some l=>
  simp only [i,Bool.and_eq_true,Bool.not_eq_true'] at c
  have p:=EL c.1
  rw [← p] at e o
  have q:=D7 8 t l i 10000 w xs j _ (by omega) (oG e o k v).1
  have r:=fun s=>KD 8 t l i s 10000 w xs (by omega) (uG (oG e e k k).1)
  simp only [vH,n] at q r
  exact ⟨r,q⟩
theorem BA {b:TI} {d:TypeDesc} (hd:b.d=jR P (some d)) (hs:∀ fs,d ≠ .struct fs) {x:AV} {v:Value} (h:kL b x=true) (a:VR g m S x v):MapKept.IsKey d v:=by
 unfold kL at h
 rw [hd] at h
 cases d<;>simp only [jR] at h<;>cases x<;>simp at h<;>simp only [VR,PR] at a<;>first|(exact absurd rfl (hs _))|(subst a;simp only [MapKept.IsKey])
 exact (fV h).symm
theorem Wj {f:TI} {d:TypeDesc} (hd:f.d=jR P (some d)) (hs:∀ fs,d ≠ .struct fs) {x y:AV} {u v:Value} (e:kL f x=true) (c:kL f y=true) (i:VR g m S x u) (h:VR g m S y v):Instr.sameNow d u v=some (xA x y):=by
 unfold kL at e c
 rw [hd] at e c
 cases d<;>simp only [jR] at e c<;>cases x<;>simp at e<;>cases y<;>simp at c<;>simp only [VR,PR] at i h<;>first|(exact absurd rfl (hs _))|(subst i;subst h;simp only [Instr.sameNow,xA])
 ·rw [if_pos ((fV e).symm.trans (fV c))]
 ·rename_i a b
  congr 1
  rw [Bool.eq_iff_iff,MapKept.bytes_beq]
  simp
theorem EP (h:bV ap g m S w) {rd:dF} (n:∀ b B,rd b=some B→g b=some B) {x:AV} {t:Value} (o:VR g m S x t) {q:List AV × List AV} (a:Xd rd x=some q):
  ∃ d:Array MapEntry,((t= .map none∧d=#[])∨∃ b c,t= .map (some b)∧w.heap[b]? =some (.map d c))∧aY g m S q.1 (d.toList.map (·.key))∧aY g m S q.2 (d.toList.map (·.val)):=by
 unfold Xd at a
 split at a
 ·rename_i ks vs
  cases a
  simp only [VR,PR] at o
  rcases o with ⟨rfl,rfl,rfl⟩|⟨b,v,u,rfl,E,A,r,s⟩
  ·exact ⟨#[],.inl ⟨rfl,rfl⟩,by simp [aY],by simp [aY]⟩
  ·obtain ⟨d,c,p,i⟩:=vO (h.sealed _ _ _ E) rfl
   obtain ⟨z,clk',l,j⟩:=vO (h.sealed _ _ _ A) rfl
   rw [p] at l;cases l
   have i:Value.agg (d.map (·.key))= .agg v.toArray:=Option.some.inj i
   have j:Value.agg (d.map (·.val))= .agg u.toArray:=Option.some.inj j
   have i:=Value.agg.inj i
   have j:=Value.agg.inj j
   refine ⟨d,.inr ⟨b,c,rfl,p⟩, ?_, ?_⟩
   ·rw [← Array.toList_map,i];exact bW _ r
   ·rw [← Array.toList_map,j];exact bW _ s
 ·rename_i b ver
  have D:=bind_some a;clear a;obtain ⟨B,y,a⟩:=D
  split at a
  ·rename_i f
   simp only [Bool.and_eq_true] at f
   split at a
   ·rename_i ks vs hcells
    cases a
    simp only [VR] at o
    obtain ⟨B',k,_,_,q⟩:=o
    rw [n b B y] at k;cases k
    have q:=q (aP f.1)
    obtain ⟨⟨cur,e,C,rest,k1,k2,_,k4,_,_⟩,_,_⟩:=h.blk b B (n b B y)
    obtain ⟨d,c,p,rfl⟩:=k1.map (aP f.2)
    rw [hcells] at k4
    match C,k4 with
    | [u0,u1],k4=>
     simp only [aY,VR,and_true] at k4
     obtain ⟨⟨v,rfl,r⟩,u,rfl,s⟩:=k4
     simp only [xH,List.cons_append,List.cons.injEq] at k2
     have i:=Value.agg.inj k2.1
     have j:=Value.agg.inj k2.2.1
     refine ⟨d,.inr ⟨_,c,q,p⟩, ?_, ?_⟩
     ·rw [← Array.toList_map,i];exact r
     ·rw [← Array.toList_map,j];exact s
    | [],k4=>simp [aY] at k4
    | [_],k4=>simp [aY] at k4
    |_::_::_::_,k4=>simp [aY] at k4
   ·cases a
  ·cases a
 ·cases a
structure YU (P:Program) (g:dF) (m:aX) (S:aU) (w:World) (t:Nat) (ti:TI) (d:TypeDesc) (k:AV) (ck:Value):Prop where
 chk:∀ em,(Instr.checkKey em 10000 t ck).run P w= .ok () w
 stay:(Instr.keyThatStays ck ck).run P w= .ok ck w
 eqs:∀ {k' ck'},kL ti k'=true→VR g m S k' ck'→((match d with| .struct _=>(Op.equal t ck ck').run P w= .ok (xA k k') w|_=>Instr.sameNow d ck ck'=some (xA k k'))∧(xA k k'=true→ck=ck'))
theorem H8 (A:iJ P ap) {t:Nat} {s:TI} {i:TypeInfo} {d:TypeDesc} {z:Value} (B:ap.tyAt t=some s) (v:CP P t s i d z) {k:AV} {ck:Value} (q:kL s k=true) (C:VR g m S k ck):YU P g m S w t s d k ck:=by
 by_cases hs:∃ o,d= .struct o
 ·obtain ⟨o,rfl⟩:=hs
  have hd:=v.d_eq
  have L:∀ {x:AV},kL s x=true→∃ l,x= .agg l∧s.cmp=true∧mX s.lks l=true:=by
   intro x j
   unfold kL at j
   rw [hd] at j
   cases x<;>simp [jR] at j
   exact ⟨_,rfl,j⟩
  obtain ⟨l,rfl,K,y⟩:=L q
  have N:=C
  simp only [VR] at C
  obtain ⟨xs,rfl,j⟩:=C
  refine ⟨(ED A B K y y j j ⟨o,v.und⟩).1, ?_, ?_⟩
  ·have T:Instr.sameBits 10000 (.agg xs.toArray) (.agg xs.toArray)=true:=by
    show Instr.sameBits (9999+1) _ _=true
    have V:=(oG y y j j).2.2.1 9999
    simp only [Instr.sameBits,beq_self_eq_true,Bool.true_and,List.all_eq_true]
    intro p hp
    obtain ⟨a,b⟩:=p
    have O:∀ l:List Value,(a,b) ∈ l.zip l→a=b∧a ∈ l:=by
     intro l
     induction l with
     |nil=>intro h;simp at h
     |cons c l ih=>
      intro h
      simp only [List.zip_cons_cons,List.mem_cons,Prod.mk.injEq] at h
      rcases h with ⟨rfl,rfl⟩|h
      ·exact ⟨rfl,by simp⟩
      ·exact ⟨(ih h).1,List.mem_cons_of_mem _ (ih h).2⟩
    obtain ⟨rfl,R⟩:=O xs hp
    exact V a R
   simp [Instr.keyThatStays,T]
  ·intro M F f n
   obtain ⟨X,rfl,_,D⟩:=L f
   simp only [VR] at n
   obtain ⟨W,rfl,H⟩:=n
   refine ⟨(ED A B K y D j H ⟨o,v.und⟩).2,fun G=> ?_⟩
   rw [(oG y D j H).2.1 G]
 ·have hs:∀ o,d ≠ .struct o:=fun o e=>hs ⟨o,e⟩
  have u:=BA v.d_eq hs q C
  refine ⟨fun Q=>MapKept.run_checkKey v.und u Q 9999,MapKept.run_keyThatStays u, ?_⟩
  intro M F f n
  have I:=Wj v.d_eq hs q f C n
  have U:=MapKept.sameNow_of_keys u (BA v.d_eq hs f n)
  refine ⟨?_,fun G=> ?_⟩
  ·cases d<;>first|exact I|exact absurd rfl (hs _)
  ·obtain ⟨r,J,E⟩:=U
   rw [I] at J;cases J
   exact E.1 G
def jS (P:Program) (w:World) (t:Nat) (d:TypeDesc) (ck:Value) (l:List MapEntry) (i:Nat) (r:Option (Nat × Value)):Prop:=
 match d with
 | .struct _=>(Instr.findAsking t ck l i).run P w= .ok r w
 |_=>Instr.findNow d ck l i=some r
theorem jS.nil {t:Nat} {d:TypeDesc} {ck:Value} {i:Nat}:jS P w t d ck [] i none:=by
 unfold jS;cases d<;>first|rfl|simp [Instr.findAsking]
theorem jS.hit {t:Nat} {c:TI} {d:TypeDesc} {k b:AV} {ck:Value} {e:MapEntry} {l:List MapEntry} {i:Nat} (h:YU P g m S w t c d k ck) (a:kL c b=true) (j:VR g m S b e.key) (f:xA k b=true):jS P w t d ck (e::l) i (some (i,e.val)):=by
 have q:=(h.eqs a j).1
 rw [f] at q
 unfold jS;cases d<;>simp only at q ⊢ <;>first|(simp [Instr.findAsking,q];done)|(simp [Instr.findNow,q];done)
theorem jS.miss {t:Nat} {f:TI} {d:TypeDesc} {k c:AV} {ck:Value} {e:MapEntry} {l:List MapEntry} {i:Nat} {r:Option (Nat × Value)} (h:YU P g m S w t f d k ck) (b:kL f c=true) (n:VR g m S c e.key) (j:xA k c=false) (a:jS P w t d ck l (i+1) r):jS P w t d ck (e::l) i r:=by
 have q:=(h.eqs b n).1
 rw [j] at q
 unfold jS at a ⊢;cases d<;>simp only at q a ⊢ <;>first|(simp [Instr.findAsking,q,a];done)|(simp [Instr.findNow,q,a];done)
theorem jS.run {t:Nat} {c:TI} {i:TypeInfo} {d:TypeDesc} {z:Value} (b:CP P t c i d z) {ck:Value} {l:List MapEntry} {r:Option (Nat × Value)} (h:jS P w t d ck l 0 r):(Instr.findKey t ck l).run P w= .ok r w:=by
 by_cases hs:∃ a,d= .struct a
 ·obtain ⟨a,rfl⟩:=hs
  simp only [jS] at h
  cases l with
  |nil=>
   simp [Instr.findAsking] at h;subst h
   simp [Instr.findKey,run_underlying b.und,Result.andThen,Instr.findNow]
  |cons e l=>
   simp only [Instr.findKey,Sem.run_bind,run_underlying b.und,Result.andThen_ok,Instr.findNow,Instr.sameNow]
   exact h
 ·have hs:∀ a,d ≠ .struct a:=fun a e=>hs ⟨a,e⟩
  refine MapKept.run_findKey b.und ?_
  unfold jS at h
  cases d<;>first|exact h|exact absurd rfl (hs _)
theorem uI {t:Nat} {p:TI} {d:TypeDesc} {k v:AV} {ck cv:Value} (b:YU P g m S w t p d k ck) (q:VR g m S v cv):∀ (l:List MapEntry) (ks vs:List AV) (i:Nat),aY g m S ks (l.map (·.key))→aY g m S vs (l.map (·.val))→ks.all (kL p)=true→
  (jS P w t d ck l i none∧dP ks vs k=none∧ks.any (xA k)=false∧pI ks vs k v=vs++ [v])∨
  ∃ j e x,jS P w t d ck l i (some (i+j,e.val))∧l[j]? =some e∧e.key=ck∧dP ks vs k=some x∧VR g m S x e.val∧ks.any (xA k)=true∧aY g m S (pI ks vs k v) ((l.set j {e with key:=ck,val:=cv}).map (·.val))
 | [],ks,vs,i,h1,h2,_=>by
  cases ks with
  |cons _ _=>simp [aY] at h1
  |nil=>
   cases vs with
   |cons _ _=>simp [aY] at h2
   |nil=>exact .inl ⟨jS.nil,rfl,rfl,rfl⟩
 | e ::l,ks,vs,i,h1,h2,ha=>by
  cases ks with
  |nil=>simp [aY] at h1
  | cons k0 ks=>
   cases vs with
   |nil=>simp [aY] at h2
   | cons v0 vs=>
    simp only [List.map_cons,aY] at h1 h2
    simp only [List.all_cons,Bool.and_eq_true] at ha
    cases a:xA k k0 with
    |true=>
     have c:e.key=ck:=((b.eqs ha.1 h1.1).2 a).symm
     refine .inr ⟨0,e,v0,jS.hit b ha.1 h1.1 a,rfl,c, ?_,h2.1, ?_, ?_⟩
     ·simp [dP,a]
     ·simp [a]
     ·simp only [pI,a,List.set_cons_zero,List.map_cons,aY];exact ⟨q,h2.2⟩
    | false=>
     rcases uI b q l ks vs (i+1) h1.2 h2.2 ha.2 with ⟨f,h,n,o⟩|⟨j,e',x,f,h,n,o,u,r,s⟩
     ·refine .inl ⟨jS.miss b ha.1 h1.1 a f, ?_, ?_, ?_⟩
      ·simp [dP,a,h]
      ·simp only [List.any_cons,a,n];rfl
      ·simp [pI,a,o]
     ·refine .inr ⟨j+1,e',x, ?_,by simpa using h,n, ?_,u, ?_, ?_⟩
      ·rw [show i+(j+1)=i+1+j by omega];exact jS.miss b ha.1 h1.1 a f
      ·simp [dP,a,o]
      ·simp only [List.any_cons,a,r];rfl
      ·simp only [pI,a,List.set_cons_succ,List.map_cons,aY];exact ⟨h2.1,s⟩
theorem BB {ok:Bool} {o:Option AV} {z:AV} {u c:Value} {b:Bool} (h:(o=none∧u=c∧b=false)∨∃ x,o=some x∧VR g m S x u∧b=true) (d:VR g m S z c):VR g m S (QJ ok o z) (if ok then .tuple #[u,.bool b] else u):=by
 have a:VR g m S (o.getD z) u∧o.isSome=b:=by
  rcases h with ⟨rfl,rfl,rfl⟩|⟨x,rfl,e,rfl⟩
  ·exact ⟨d,rfl⟩
  ·exact ⟨e,rfl⟩
 cases ok with
 |true=>
  simp only [QJ,if_true,VR]
  refine ⟨[u,.bool b],rfl, ?_⟩
  simp only [aY,VR,PR,and_true]
  exact ⟨a.1,by rw [a.2]⟩
 |false=>simpa [QJ] using a.1
theorem GI (o:iJ P ap) (h:bV ap g m S w) {rd:dF} (H:∀ b B,rd b=some B→g b=some B) {t:Nat} {I:TI} {i:TypeInfo} {d:TypeDesc} {z:Value} (A:CP P t I i d z) {x k v:AV} {K ck:Value} (N:VR g m S x K) (J:VR g m S k ck) {ok:Bool}
  {ups:List (Nat × bi)} {bs:List Bool} (c:Jo ap I rd x k ok=some (v,ups,bs)) (r:∀ b ∈ bs,b=true):
  ups= []∧∃ cv,(Instr.lookup t K ck ok).run P w= .ok cv w∧VR g m S v cv:=by
 unfold Jo at c
 split at c
 ·rename_i kt et hd
  have p:=bind_some c;clear c;obtain ⟨X,a,c⟩:=p
  have p:=bind_some c;clear c;obtain ⟨te,f,c⟩:=p
  have p:=bind_some c;clear c;obtain ⟨q,p,c⟩:=p
  have C:=bind_some c;clear c;obtain ⟨O,D,c⟩:=C
  obtain ⟨rfl,rfl,rfl⟩:=aT c
  have F:=a
  obtain ⟨ik,dk,zk,a⟩:=dQ o a
  obtain ⟨Z,Y,R,f⟩:=dQ o f
  rw [A.d_eq] at hd
  have hd:=Yv hd
  subst hd
  obtain ⟨L,r⟩:=cZ r
  obtain ⟨M,_⟩:=cZ r
  obtain ⟨W,u,v1,T⟩:=EP h H N p
  have l:=H8 (w:=w) o F a L J
  have s:VR g m S O R:=xI f D
  refine ⟨rfl, ?_⟩
  rcases uI l J W.toList q.1 q.2 0 v1 T M with ⟨n,Q,_,_⟩|⟨j,e,y,n,_,_,U,V,_,_⟩
  ·refine ⟨_, ?_,BB (.inl ⟨Q,rfl,rfl⟩) s⟩
   rcases u with ⟨rfl,rfl⟩|⟨b,E,rfl,G⟩
   ·simp [Instr.lookup,run_underlying A.und,l.chk,n.run a,zeroValue,typeInfo,f.info,f.zero,Result.andThen]
   ·simp [Instr.lookup,run_underlying A.und,MapKept.run_getObj_map G,l.chk,n.run a,zeroValue,typeInfo,f.info,f.zero,Result.andThen]
  ·refine ⟨_, ?_,BB (.inr ⟨y,U,V,rfl⟩) s⟩
   rcases u with ⟨rfl,rfl⟩|⟨b,E,rfl,G⟩
   ·have n:=n.run a
    simp [Instr.findKey,run_underlying a.und,Result.andThen,Instr.findNow] at n
   ·simp [Instr.lookup,run_underlying A.und,MapKept.run_getObj_map G,l.chk,n.run a,Result.andThen]
 ·cases c
mutual
theorem PU {S:aU}:∀ (x:AV) {v:Value},PR S x v→dO x= []
 | .int _ _,_,_=>rfl
 | .bool _,_,_=>rfl
 | .str _,_,_=>rfl
 | .nilS,_,_=>rfl
 | .nilP,_,_=>rfl
 | .nilF,_,_=>rfl
 | .nilI,_,_=>rfl
 | .sl _ _ _,_,_=>rfl
 | .pp _ _,_,_=>rfl
 | .mp _ _,_,_=>rfl
 | .dead,_,_=>rfl
 | .own _ _ _,_,p=>by simp only [PR] at p
 | .ref _ _ _ _,_,p=>by simp only [PR] at p
 | .ptr _ _ _,_,p=>by simp only [PR] at p
 | .mr _ _,_,p=>by simp only [PR] at p
 | .agg l,_,p=>by
  simp only [PR] at p;simp only [dO]
  obtain ⟨_,_,q⟩:=p
  exact qK l q
 | .tup l,_,p=>by
  simp only [PR] at p;simp only [dO]
  obtain ⟨_,_,q⟩:=p
  exact qK l q
 | .fn f a c,_,p=>by
  simp only [PR] at p;simp only [dO]
  obtain ⟨_,_,_,q,r⟩:=p
  rw [qK a q,qK c r];rfl
 | .ifc t x,_,p=>by
  simp only [PR] at p;simp only [dO]
  obtain ⟨_,_,q⟩:=p
  exact PU x q
theorem qK {S:aU}:∀ (l:List AV) {vs:List Value},dV S l vs→bT l= []
 | [],_,_=>rfl
 |x::r,v::vs,p=>by simp only [dV] at p;simp only [bT,PU x p.1,qK r p.2,List.append_nil]
 |_::_,[],p=>by simp [dV] at p
end
theorem Ig (h:bV ap g m S w) {b:Nat} {B:bi} {a:Array MapEntry} {clk':Nat} {k:Nat} {w':World} (q:w'.heap[k]? =some (.map a clk')) (d:B.esz=iG) {ks vs:List AV} (f:B.cells= [.agg ks,.agg vs]) (n:aY g m S ks (a.toList.map (·.key))) (o:aY g m S vs (a.toList.map (·.val))) (hp:B.pr=true→bT vs= []∧bT ks= []) (i:B.fro=false→B.fz=0) (l:B.fz≤2) (c:Nat):Sz g m S w' B k c:=by
 refine ⟨⟨xH a,0,[.agg (a.map (·.key)),.agg (a.map (·.val))],[],.inr ⟨d,a,clk',q,rfl⟩,rfl, ?_, ?_,fun e=>absurd d e,fun _ e=>absurd d e⟩,i,by rw [f];exact l⟩
 ·intro j
  obtain ⟨r,p⟩:=hp j
  rw [f]
  simp only [dV,PR,and_true]
  exact ⟨⟨(a.map (·.key)).toList,by rw [Array.toArray_toList],by rw [Array.toList_map];exact fP _ n p⟩,(a.map (·.val)).toList,by rw [Array.toArray_toList],by rw [Array.toList_map];exact fP _ o r⟩
 ·rw [f]
  simp only [aY,VR,and_true]
  exact ⟨⟨(a.map (·.key)).toList,by rw [Array.toArray_toList],by rw [Array.toList_map];exact n⟩,(a.map (·.val)).toList,by rw [Array.toArray_toList],by rw [Array.toList_map];exact o⟩
theorem GK (h:bV ap g m S w) {nid:Nat} (e:g nid=none) (t:Nat):
  ∃ cv m' w',(Instr.makeMap t none).run P w= .ok cv w'∧bV ap (dL g [(nid,⟨[.agg [],.agg []],0,false,0,iG,true⟩)]) m' S w'∧Fr g m S w (dL g [(nid,⟨[.agg [],.agg []],0,false,0,iG,true⟩)]) m' S w'∧VR (dL g [(nid,⟨[.agg [],.agg []],0,false,0,iG,true⟩)]) m' S (.mr nid 0) cv:=by
 have a:=h.put nid ⟨[.agg [],.agg []],0,false,0,iG,true⟩ w.heap.size 0 (w':=w.alloc (.map #[] 0)) (.inl (Nat.le_refl _)) (World.grownBy_alloc w _ _)
  (Ig h (b:=nid) (heap_alloc_new w _) rfl rfl (by simp [aY]) (by simp [aY]) (fun _=> ⟨rfl,rfl⟩) (fun _=>rfl) (Nat.zero_le _) 0)
  (fun B0 c=>by rw [e] at c;cases c) (fun o v d=>absurd (h.seal_lt d) (Nat.lt_irrefl _))
 refine ⟨.map (some w.heap.size),_,_, ?_,a.1,a.2, ?_⟩
 ·simp [Instr.makeMap,Result.andThen]
 ·simp only [VR]
  exact ⟨_,nV _ _ _,Nat.le_refl _,⟨_,rfl⟩,fun _=>by simp [kz]⟩
theorem EC:∀ (lks:List LK) (l:List AV),mX lks l=true→bT l= []
 | [],[],_=>rfl
 |k::lks,x::l,h=>by
  simp only [mX,Bool.and_eq_true] at h
  have a:dO x= []:=by cases k<;>cases x<;>first|rfl|(have:=h.1;simp [H7] at this)
  simp only [bT,a,EC lks l h.2,List.append_nil]
 | [],_::_,h=>by simp [mX] at h
 |_::_,[],h=>by simp [mX] at h
theorem AQ:∀ (l:List AV) (b:TI),l.all (kL b)=true→bT l= []
 | [],_,_=>rfl
 | x::r,b,h=>by
  simp only [List.all_cons,Bool.and_eq_true] at h
  have c:dO x= []:=by
   have a:=h.1
   unfold kL at a
   split at a<;>first|rfl|(cases a;done)|skip
   simp only [Bool.and_eq_true] at a
   simp only [dO];exact EC _ _ a.2
  simp only [bT,c,AQ r b h.2,List.append_nil]
theorem FK:∀ (ks vs:List AV) (k v:AV),bT vs= []→dO v= []→bT (pI ks vs k v)= []
 | [],_,k,v,_,h2=>by simp [pI,bT,h2]
 |_::_,[],k,v,_,h2=>by simp [pI,bT,h2]
 |k0::ks,v0::vs,k,v,h1,h2=>by
  simp only [bT,List.append_eq_nil_iff] at h1
  simp only [pI]
  split
  ·simp [bT,h1.2,h2]
  ·simp [bT,h1.1,FK ks vs k v h1.2 h2]
theorem xg (M:iJ P ap) (h:bV ap g m S w) {rd:dF} (N:∀ b B,rd b=some B→g b=some B) {t:Nat} {ti:TI} {i:TypeInfo} {d:TypeDesc} {z:Value} (ht:CP P t ti i d z) {x k v r:AV} {cx ck cv:Value} (hx:VR g m S x cx) (hk:VR g m S k ck) (hv:VR g m S v cv)
  {ups:List (Nat × bi)} {bs:List Bool} (f:Dy ap ti rd x k v=some (r,ups,bs)) (I:∀ b ∈ bs,b=true):
  r= .dead∧∃ D w',(Instr.mapUpdate t cx ck cv).run P w= .ok () w'∧bV ap (dL g ups) D S w'∧Fr g m S w (dL g ups) D S w':=by
 unfold Dy at f
 split at f
 ·rename_i kt et b ver hd
  have hq:=bind_some f;clear f;obtain ⟨tk,p,f⟩:=hq
  have hq:=bind_some f;clear f;obtain ⟨B,hB,f⟩:=hq
  split at f
  ·rename_i l
   simp only [Bool.and_eq_true,Bool.not_eq_true'] at l
   split at f
   ·rename_i ks vs hcells
    cases f
    have T:=p
    obtain ⟨ik,dk,zk,p⟩:=dQ M p
    rw [ht.d_eq] at hd
    have hd:=Yv hd
    subst hd
    obtain ⟨b1,I⟩:=cZ I
    obtain ⟨b2,_⟩:=cZ I
    have c:=N b B hB
    have hz:=aP l.1.2
    have Y:Xd rd (.mr b ver)=some (ks,vs):=by
     unfold Xd
     simp only [hB,Option.bind_some,l.1.1,l.1.2,Bool.and_self,hcells]
    obtain ⟨s,U,v1,v2⟩:=EP h N hx Y
    have C:=H8 (w:=w) M T p b1 hk
    simp only [VR] at hx
    obtain ⟨B',K,_,_,q⟩:=hx
    rw [c] at K;cases K
    have q:=q (aP l.1.1)
    subst q
    rcases U with ⟨e,_⟩|⟨b0,G,e,Q⟩
    ·cases e
    cases e
    have Z:(m b).1<w.heap.size:=h.lt c
    obtain ⟨_,k7,k8⟩:=h.blk b B c
    have key:∀ (a:Array MapEntry) (clk':Nat),aY g m S (xJ ks k) (a.toList.map (·.key))→aY g m S (pI ks vs k v) (a.toList.map (·.val))→
      ∃ D,bV ap (dL g [(b,{B with cells:= [.agg (xJ ks k),.agg (pI ks vs k v)],pr:=B.pr && (dO v).isEmpty})]) D S {w with heap:=w.heap.setIfInBounds (m b).1 (.map a clk')}∧Fr g m S w (dL g [(b,{B with cells:= [.agg (xJ ks k),.agg (pI ks vs k v)],pr:=B.pr && (dO v).isEmpty})]) D S {w with heap:=w.heap.setIfInBounds (m b).1 (.map a clk')}:=by
     intro a clk' w1 w2
     have F:=h.put b {B with cells:= [.agg (xJ ks k),.agg (pI ks vs k v)],pr:=B.pr && (dO v).isEmpty} (m b).1 (m b).2 (w':={w with heap:=w.heap.setIfInBounds (m b).1 (.map a clk')})
      (.inr ⟨B,c,rfl⟩) ⟨rfl,rfl,rfl,by simp,fun k' _ X=>by simp [show (m b).1 ≠ k' from fun e=>X (by rw [e])]⟩
      (Ig h (b:=b) (B:={B with cells:= [.agg (xJ ks k),.agg (pI ks vs k v)],pr:=B.pr && (dO v).isEmpty}) (w':={w with heap:=w.heap.setIfInBounds (m b).1 (.map a clk')}) (k:=(m b).1) (clk':=clk') (by simp [Z]) hz rfl w1 w2 (fun A=>by
       have A:(B.pr && (dO v).isEmpty)=true:=A
       simp only [Bool.and_eq_true] at A
       obtain ⟨⟨cur,e,us,rest,k1,k2,k3,k4,_,_⟩,_,_⟩:=h.blk b B c
       have V:bT B.cells= []:=qK _ (k3 A.1)
       rw [hcells] at V
       simp only [bT,dO,List.append_nil,List.append_eq_nil_iff] at V
       refine ⟨FK _ _ _ _ V.2 (qU A.2), ?_⟩
       have O:=AQ ks _ b2
       unfold xJ
       split
       ·exact O
       ·rw [tu,O];exact AQ [k] tk (by simp [b1])) k7 (by rw [hcells] at k8;exact k8) (m b).2)
      (fun B0 h0=>by rw [c] at h0;cases h0;exact ⟨rfl,.inl ⟨rfl,rfl⟩⟩)
      (fun o u hu=>by
       have:=(h.own b B c o u hu).1
       rw [l.2] at this;cases this)
     exact ⟨_,F.1,F.2⟩
    refine ⟨rfl, ?_⟩
    rcases uI C hv s.toList ks vs 0 v1 v2 b2 with ⟨R,r2,r3,r4⟩|⟨j,e,y,R,W,rk,r4,r5,r6,r7⟩
    ·obtain ⟨D,s1,s2⟩:=key (s.push {key:=ck,val:=cv,born:=G}) (G+1)
      (by unfold xJ;rw [r3,Array.toList_push,List.map_append];exact fQ v1 (by simp only [List.map_cons,List.map_nil,aY,and_true];exact hk))
      (by rw [r4,Array.toList_push,List.map_append];exact fQ v2 (by simp only [List.map_cons,List.map_nil,aY,and_true];exact hv))
     refine ⟨D,_, ?_,s1,s2⟩
     simp [Instr.mapUpdate,run_underlying ht.und,MapKept.run_getObj_map Q,C.chk,R.run p,MapKept.run_setObj_map _ Q,Result.andThen]
    ·have E:s[j]? =some e:=by simpa using W
     have J:(s.modify j fun e=> {e with key:=ck,val:=cv}).toList=s.toList.set j {e with key:=ck,val:=cv}:=by
      apply List.ext_getElem?
      intro n
      simp only [Array.getElem?_toList,Array.getElem?_modify,List.getElem?_set]
      by_cases hjn:j=n
      ·subst hjn
       have H:j<s.toList.length:=(List.getElem?_eq_some_iff.1 W).1
       rw [if_pos rfl,if_pos rfl,if_pos H,E];rfl
      ·rw [if_neg hjn,if_neg hjn]
     obtain ⟨D,s1,s2⟩:=key (s.modify j fun e=> {e with key:=ck,val:=cv}) G
      (by
       unfold xJ;rw [r6,J]
       have:(s.toList.set j {e with key:=ck,val:=cv}).map (·.key)=s.toList.map (·.key):=by
        apply List.ext_getElem?
        intro n
        simp only [List.getElem?_map,List.getElem?_set]
        by_cases hjn:j=n
        ·subst hjn
         have H:j<s.toList.length:=(List.getElem?_eq_some_iff.1 W).1
         have L:j<s.size:=by simpa using H
         have hge:s[j]=e:=by rw [Array.getElem?_eq_getElem L] at E;exact Option.some.inj E
         simp [L,hge,rk]
        ·simp [hjn]
       rw [this];exact v1)
      (by rw [J];exact r7)
     refine ⟨D,_, ?_,s1,s2⟩
     rw [Nat.zero_add] at R
     simp [Instr.mapUpdate,run_underlying ht.und,MapKept.run_getObj_map Q,C.chk,R.run p,E,rk,C.stay,MapKept.run_setObj_map _ Q,Result.andThen]
   ·cases f
  ·cases f
 ·cases f
end
end AM
namespace AM
open Go
section
variable {P:Program} {ap:AP} {g:dF} {m:aX} {S:aU} {w:World}
theorem vM {ρ:Operand→AV} {cρ:Operand→Value}:∀ (l:List Operand),(∀ o ∈ l,VR g m S (ρ o) (cρ o))→aY g m S (l.map ρ) (l.map cρ)
 | [],_=>by simp [aY]
 |o::r,h=>by simp only [List.map_cons,aY];exact ⟨h o (by simp),vM r fun o a=>h o (by simp [a])⟩
theorem DK {ρ:Operand→AV} {cρ:Operand→Value}:∀ (l:List (Nat × Operand)),(∀ o ∈ l.map (·.2),VR g m S (ρ o) (cρ o))→yf g m S (l.map fun (i,x)=>(i,ρ x)) (l.map fun (i,x)=>(i,cρ x))
 | [],_=>by simp [yf]
 |(i,o)::r,h=>by simp only [List.map_cons,yf];exact ⟨trivial,h o (by simp),DK r fun o a=>h o (by simp [a])⟩
def iK (P:Program) (ap:AP) (g:dF) (m:aX) (S:aU) (w:World) (s:Sem Next) (v:AV) (ups:List (Nat × bi)):Prop:=
 ∃ nx m' w',s.run P w= .ok nx w'∧bV ap (dL g ups) m' S w'∧Fr g m S w (dL g ups) m' S w'∧((∃ cv,nx= .value cv∧VR (dL g ups) m' S v cv)∨(nx= .skip∧v= .dead))
theorem iK.pur (h:bV ap g m S w) {s:Sem Value} {v:AV} {ups:List (Nat × bi)} (hs:ups= []∧∃ cv,s.run P w= .ok cv w∧VR g m S v cv):iK P ap g m S w (do pure (.value (← s))) v ups:=by
 obtain ⟨rfl,cv,b,a⟩:=hs
 exact ⟨.value cv,m,w,by simp [b],by rw [fF];exact h,by rw [fF];exact Fr.refl _ _ _ _,.inl ⟨cv,rfl,by rw [fF];exact a⟩⟩
theorem iK.full {s:Sem Value} {v:AV} {ups:List (Nat × bi)} (hs:∃ cv a w',s.run P w= .ok cv w'∧bV ap (dL g ups) a S w'∧Fr g m S w (dL g ups) a S w'∧VR (dL g ups) a S v cv):iK P ap g m S w (do pure (.value (← s))) v ups:=by
 obtain ⟨cv,a,w',e,b,c,d⟩:=hs
 exact ⟨.value cv,a,w',by simp [e],b,c,.inl ⟨cv,rfl,d⟩⟩
theorem iK.val (h:bV ap g m S w) {s:Sem Next} {v:AV} {cv:Value} (hs:s.run P w= .ok (.value cv) w) (a:VR g m S v cv):iK P ap g m S w s v []:=
 ⟨.value cv,m,w,hs,by rw [fF];exact h,by rw [fF];exact Fr.refl _ _ _ _,.inl ⟨cv,rfl,by rw [fF];exact a⟩⟩
theorem DD {ρ:Operand→AV} {cρ:Operand→Value} (x:Option Operand) (h:∀ o ∈ x.toArray,VR g m S (ρ o) (cρ o)):DC g m S (x.map ρ) (x.map cρ):=by
 cases x with
 |none=>simp [DC]
 |some o=>simp only [Option.map_some,DC];exact h o (by simp)
theorem KH (a:iJ P ap) {t:Nat} {c:TI} (h:ap.tyAt t=some c) (hd:c.d ≠ .iface):P.concrete t=true:=by
 obtain ⟨i,d,z,b⟩:=dQ a h
 have:=b.d_eq
 simp only [Program.concrete,b.und]
 cases d<;>simp_all [jR]
set_option maxHeartbeats 1000000 in
theorem Ui (j:iJ P ap) (D:bV ap g m S w) {nid:Nat} (W:g nid=none) {ρ:Operand→AV} {cρ:Operand→Value} {rd:dF} (I:∀ b B,rd b=some B→g b=some B) (o:Oper) (hρ:∀ x ∈ o.op.operands,VR g m S (ρ x) (cρ x))
  {dec:Operand→Option Bool} (hdec:∀ x ∈ o.op.operands,∀ b,dec x=some b→cρ x= .bool b) {em:Bool} (hem:∀ n,yK ρ o.op=some n→Nat.beq n 0=em)
  {v:AV} {ups:List (Nat × bi)} {bs:List Bool} (h:opA ap nid ρ rd dec em o.op=some (v,ups,bs)) (hbs:∀ b ∈ bs,b=true):iK P ap g m S w (execOp cρ o) v ups:=by
 unfold opA at h
 unfold execOp
 split at h<;>rename_i heq<;>simp only [heq,Op.operands] at hρ hdec hem ⊢
 ·obtain ⟨rfl,rfl,rfl⟩:=aT h
  exact iK.val D (by simp) (hρ _ (by simp))
 ·obtain ⟨rfl,rfl,rfl⟩:=aT h
  exact iK.val D (by simp) (hρ _ (by simp))
 ·
  rename_i c a b
  split at h
  ·rename_i hd
   obtain ⟨rfl,rfl,rfl⟩:=aT h
   have:=hdec c (by simp) _ hd
   exact iK.val D (by simp [this,asBool]) (hρ _ (by simp))
  ·rename_i hd
   obtain ⟨rfl,rfl,rfl⟩:=aT h
   have:=hdec c (by simp) _ hd
   exact iK.val D (by simp [this,asBool]) (hρ _ (by simp))
  ·split at h
   ·rename_i bc ba bb e1 e2 e3
    obtain ⟨rfl,rfl,rfl⟩:=aT h
    have F:=hρ c (by simp)
    have G:=hρ a (by simp)
    have N:=hρ b (by simp)
    rw [e1] at F;rw [e2] at G;rw [e3] at N
    simp only [VR,PR] at F G N
    refine iK.val D (cv:= .bool (cond bc ba bb)) ?_ (by simp only [VR,PR])
    rw [F,G,N]
    cases bc<;>simp [asBool]
   ·cases h
 ·
  rename_i e
  have A:=bind_some h;clear h;obtain ⟨te,K,h⟩:=A
  obtain ⟨ie,de,ze,C⟩:=dQ j K
  split at h
  ·rename_i Q
   simp only [Bool.and_eq_true] at Q
   cases h
   obtain ⟨M,w',F,G,N,h4⟩:=Hf (P:=P) D W (cells:=te.zero) (cv:=ze) (qM C) C.zleaf (fun u hu=>CQ (g:=g) (m:=m) (S:=S) (qM C) C.zleaf u (by simpa using hu)) e
   refine iK.full ⟨.pointer (some ⟨w.heap.size,0,none⟩),M,w', ?_,G,N,Q5 h4⟩
   simp [Instr.alloc,zeroValue,typeInfo,C.info,C.zero,F]
  ·cases h
 ·
  rename_i e x
  have A:=bind_some h;clear h;obtain ⟨te,K,h⟩:=A
  obtain ⟨ie,de,ze,C⟩:=dQ j K
  simp only at h
  split at h
  ·rename_i Q
   simp only [Bool.and_eq_true] at Q
   cases h
   have E:=hρ x (by simp)
   have hl:∀ y ∈ (ρ x).cells,oH y=true:=fun y hy=>List.all_eq_true.1 Q.2 y hy
   obtain ⟨hv1,hv2⟩:=DR E hl
   obtain ⟨M,w',F,G,N,h4⟩:=Hf (P:=P) D W (cells:=(ρ x).cells) (cv:=cρ x) hv1 hl hv2 e
   refine iK.full ⟨.pointer (some ⟨w.heap.size,0,none⟩),M,w', ?_,G,N,Q5 h4⟩
   simp [Instr.box,F]
  ·cases h
 ·
  rename_i t parts
  have A:=bind_some h;clear h;obtain ⟨L,q,h⟩:=A
  obtain ⟨i,d,z,C⟩:=dQ j q
  refine iK.pur D ?_
  refine IU j C (qs:=parts.map fun (i,x)=>(i,cρ x)) ?_ h
  rw [Array.toList_map]
  exact DK parts.toList fun x E=>hρ x (by simpa using E)
 ·
  rename_i t len parts
  have A:=bind_some h;clear h;obtain ⟨L,q,h⟩:=A
  obtain ⟨i,d,z,C⟩:=dQ j q
  refine iK.full ?_
  refine yw j D W C (qs:=parts.map fun (i,x)=>(i,cρ x)) ?_ h
  rw [Array.toList_map]
  exact DK parts.toList fun x E=>hρ x (by simpa using E)
 ·
  rename_i t a
  have A:=bind_some h;clear h;obtain ⟨L,q,h⟩:=A
  obtain ⟨i,d,z,C⟩:=dQ j q
  exact iK.pur D (BC D I C (hρ a (by simp)) h hbs)
 ·
  rename_i t a x
  have A:=bind_some h;clear h;obtain ⟨L,q,h⟩:=A
  obtain ⟨i,d,z,C⟩:=dQ j q
  have ha:=hρ a (by simp)
  have E:=hρ x (by simp)
  generalize cρ a=ca at ha ⊢
  generalize cρ x=cx at E ⊢
  obtain ⟨rfl,M,w',F,G,N⟩:=JR D I C ha E h hbs
  exact ⟨.skip,M,w',by simp [F],G,N,.inr ⟨rfl,rfl⟩⟩
 ·
  rename_i t r
  split at h
  ·cases h
   obtain ⟨cv,M,w',F,G,N,h4⟩:=GK (P:=P) D W t
   exact ⟨.value cv,M,w',by simp [F],G,N,.inl ⟨cv,rfl,h4⟩⟩
  ·cases h
 ·
  rename_i t x k ok
  have A:=bind_some h;clear h;obtain ⟨L,q,h⟩:=A
  obtain ⟨i,d,z,C⟩:=dQ j q
  exact iK.pur D (GI j D I C (hρ x (by simp)) (hρ k (by simp)) h hbs)
 ·
  rename_i t x k v
  have A:=bind_some h;clear h;obtain ⟨L,q,h⟩:=A
  obtain ⟨i,d,z,C⟩:=dQ j q
  obtain ⟨rfl,M,w',F,G,N⟩:=xg j D I C (hρ x (by simp)) (hρ k (by simp)) (hρ v (by simp)) h hbs
  exact ⟨.skip,M,w',by simp [F],G,N,.inr ⟨rfl,rfl⟩⟩
 ·
  rename_i t x k v
  have A:=bind_some h;clear h;obtain ⟨L,q,h⟩:=A
  obtain ⟨i,d,z,C⟩:=dQ j q
  obtain ⟨rfl,M,w',F,G,N⟩:=xg j D I C (hρ x (by simp)) (hρ k (by simp)) (hρ v (by simp)) h hbs
  exact ⟨.skip,M,w',by simp [F],G,N,.inr ⟨rfl,rfl⟩⟩
 ·
  rename_i x
  have E:=hρ x (by simp)
  split at h
  ·rename_i b ver off e
   rw [e] at E
   obtain ⟨rfl,rfl,rfl⟩:=aT h
   have H:=E
   simp only [VR] at H
   obtain ⟨_,_,_,⟨k,o,X⟩,_⟩:=H
   exact iK.val D (cv:=cρ x) (by rw [X];simp) E
  ·rename_i xs off e
   rw [e] at E
   obtain ⟨rfl,rfl,rfl⟩:=aT h
   have H:=E
   simp only [VR,PR] at H
   obtain ⟨_,_,_,X,_⟩:=H
   exact iK.val D (cv:=cρ x) (by rw [X];simp) E
  ·rename_i f a c e
   rw [e] at E
   obtain ⟨rfl,rfl,rfl⟩:=aT h
   have H:=E
   simp only [VR] at H
   obtain ⟨_,_,X,_⟩:=H
   exact iK.val D (cv:=cρ x) (by rw [X];simp) E
  ·cases h
 ·
  rename_i op t x y _
  have A:=bind_some h;clear h;obtain ⟨L,q,h⟩:=A
  exact iK.pur D (NR j q (hρ x (by simp)) (hρ y (by simp)) h hbs x y)
 ·
  exact iK.pur D (UQ (hρ _ (by simp)) h)
 ·
  rename_i s d x
  have A:=bind_some h;clear h;obtain ⟨ts,hts,h⟩:=A
  have A:=bind_some h;clear h;obtain ⟨td,htd,h⟩:=A
  exact iK.pur D (D_ j D I hts htd (hρ x (by simp)) h hbs)
 ·
  rename_i t x
  have A:=bind_some h;clear h;obtain ⟨L,q,h⟩:=A
  split at h
  ·cases h
  ·rename_i hd
   obtain ⟨rfl,rfl,rfl⟩:=aT h
   refine iK.pur D ⟨rfl,.iface t (cρ x),run_makeInterface w t _ (KH j q hd), ?_⟩
   simp only [VR]
   exact ⟨_,rfl,hρ x (by simp)⟩
 ·
  rename_i f first cap
  obtain ⟨rfl,rfl,rfl⟩:=aT h
  refine iK.pur D ⟨rfl,.func (.func f) (first.map cρ) (cap.map cρ),by simp [Instr.makeFunc], ?_⟩
  simp only [VR]
  refine ⟨(first.map cρ).toList,(cap.map cρ).toList,by rw [Array.toArray_toList,Array.toArray_toList], ?_, ?_⟩
  ·rw [Array.toList_map];exact vM _ fun x E=>hρ x (by simp at E ⊢;exact .inl E)
  ·rw [Array.toList_map];exact vM _ fun x E=>hρ x (by simp at E ⊢;exact .inr E)
 ·
  rename_i t l c
  have A:=bind_some h;clear h;obtain ⟨L,q,h⟩:=A
  obtain ⟨i,d,z,C⟩:=dQ j q
  exact iK.full (Ap j D W C (hρ l (by simp)) (hρ c (by simp)) h hbs)
 ·
  rename_i t x lo hi mx
  have A:=bind_some h;clear h;obtain ⟨L,q,h⟩:=A
  obtain ⟨i,d,z,C⟩:=dQ j q
  exact iK.pur D (JQ j I C (hρ x (by simp)) (DD lo fun o U=>hρ o (by simp at U;simp [U])) (DD hi fun o U=>hρ o (by simp at U;simp [U])) (DD mx fun o U=>hρ o (by simp at U;simp [U])) h hbs)
 ·
  rename_i s x f
  have A:=bind_some h;clear h;obtain ⟨L,q,h⟩:=A
  obtain ⟨i,d,z,C⟩:=dQ j q
  split at h
  ·rename_i fs hd
   have A:=bind_some h;clear h;obtain ⟨⟨o,ft,sz⟩,hf,h⟩:=A
   simp only at h
   split at h
   ·rename_i hsz
    have A:=bind_some h;clear h;obtain ⟨p,hp,h⟩:=A
    obtain ⟨rfl,rfl,rfl⟩:=aT h
    exact iK.pur D ⟨rfl,Cf C hd hf hsz (hρ x (by simp)) hp⟩
   ·cases h
  ·cases h
 ·
  rename_i t x f
  have A:=bind_some h;clear h;obtain ⟨L,q,h⟩:=A
  obtain ⟨i,d,z,C⟩:=dQ j q
  exact iK.pur D (Jc j C (hρ x (by simp)) h hbs)
 ·
  rename_i t x ix
  have A:=bind_some h;clear h;obtain ⟨L,q,h⟩:=A
  obtain ⟨i,d,z,C⟩:=dQ j q
  exact iK.pur D (Af j I C (hρ x (by simp)) (hρ ix (by simp)) h hbs)
 ·
  rename_i t x ix
  have A:=bind_some h;clear h;obtain ⟨L,q,h⟩:=A
  obtain ⟨i,d,z,C⟩:=dQ j q
  exact iK.pur D (Jj j C (hρ x (by simp)) (hρ ix (by simp)) h hbs)
 ·
  exact iK.pur D (Gz j (hρ _ (by simp)) h _)
 ·
  rename_i t i
  have C:=hρ t (by simp)
  split at h
  ·rename_i l e
   rw [e] at C
   have A:=bind_some h;clear h;obtain ⟨x,E,h⟩:=A
   obtain ⟨rfl,rfl,rfl⟩:=aT h
   simp only [VR] at C
   obtain ⟨vs,X,hl⟩:=C
   obtain ⟨cv,F,G⟩:=rY hl i E
   refine iK.pur D ⟨rfl,cv, ?_,G⟩
   rw [X]
   simp [Instr.extract,F]
  ·cases h
 ·
  rename_i b args R
  simp only [Call.operands] at hρ
  have hargs:∀ x ∈ args,VR g m S (ρ x) (cρ x):=fun x E=>hρ x (by simp [E])
  split at h
  ·have A:=bind_some h;clear h;obtain ⟨x,E,h⟩:=A
   have A:=bind_some h;clear h;obtain ⟨t,Y,h⟩:=A
   have A:=bind_some h;clear h;obtain ⟨L,q,h⟩:=A
   obtain ⟨i,d,z,C⟩:=dQ j q
   obtain ⟨hu,cv,F,G⟩:=OG (P:=P) (w:=w) (hargs x (Array.mem_of_getElem? E)) C h R Y (args.map cρ) (by simp [E]) o.type
   subst hu
   exact iK.val D (cv:=cv) (by simp [resolve,invoke,builtin,F]) G
  ·split at h
   ·rename_i s x t t1 ha Y
    have hargs':args=#[s,x]:=by apply Array.ext';simpa using ha
    have hats':R=#[t,t1]:=by apply Array.ext';simpa using Y
    subst hargs';subst hats'
    have A:=bind_some h;clear h;obtain ⟨L,q,h⟩:=A
    have A:=bind_some h;clear h;obtain ⟨ti1,hti1,h⟩:=A
    obtain ⟨i,d,z,C⟩:=dQ j q
    obtain ⟨i1,d1,z1,T⟩:=dQ j hti1
    have hs:=hargs s (by simp)
    have E:=hargs x (by simp)
    have V:ρ s= .nilS→∃ n,xu (ρ x)=some n∧Nat.beq n 0=em:=by
     intro e
     cases hc:xu (ρ x) with
     | none=>
      exfalso
      split at h
      ·rename_i H;rw [H] at hc;simp [xu] at hc
      ·cases h
      ·rename_i y hy1 _ hy2 hy3
       have A:=bind_some h;clear h;obtain ⟨te,K,h⟩:=A
       unfold yj at h
       have A:=bind_some h;clear h;obtain ⟨⟨xs,n,pr⟩,hsrc,h⟩:=A
       cases Z:ρ x<;>simp [Z,xu] at hc<;>simp [Z,MZ] at hsrc
      ·cases h
     |some n=>exact ⟨n,rfl,hem n (by simp [yK,e,hc])⟩
    split at h
    ·rename_i e y hd J hy
     have A:=bind_some h;clear h;obtain ⟨te,K,h⟩:=A
     obtain ⟨ie,de,ze,O⟩:=dQ j K
     split at h
     ·rename_i F
      rw [C.d_eq] at hd
      rw [T.d_eq] at J
      have hd:=gV hd
      have J:=xU J
      subst hd;subst J
      obtain ⟨cv,M,w',r1,r2,r3,r4⟩:=wS (P:=P) D I W C O hs E (tx:=t1) (.inl ⟨⟨y,hy⟩,T.und,aP F⟩) V (by rw [hy];exact h) hbs o.type
      exact ⟨.value cv,M,w',by simp [resolve,invoke,builtin,r1],r2,r3,.inl ⟨cv,rfl,r4⟩⟩
     ·cases h
    ·cases h
    ·rename_i e e1 hd J hns
     have A:=bind_some h;clear h;obtain ⟨te,K,h⟩:=A
     obtain ⟨ie,de,ze,O⟩:=dQ j K
     rw [C.d_eq] at hd
     rw [T.d_eq] at J
     have hd:=gV hd
     have J:=gV J
     subst hd;subst J
     obtain ⟨cv,M,w',r1,r2,r3,r4⟩:=wS (P:=P) D I W C O hs E (tx:=t1) (.inr ⟨fun s e=>hns s e,_,T.und⟩) V h hbs o.type
     exact ⟨.value cv,M,w',by simp [resolve,invoke,builtin,r1],r2,r3,.inl ⟨cv,rfl,r4⟩⟩
    ·cases h
   ·cases h
  ·have A:=bind_some h;clear h;obtain ⟨r,hr,h⟩:=A
   obtain ⟨rfl,rfl,rfl⟩:=aT h
   obtain ⟨cv,F,G⟩:=TZ (P:=P) (w:=w) (vM args.toList fun x E=>hargs x (Array.mem_toList_iff.1 E)) hr R o.type
   refine iK.val D (cv:=cv) ?_ G
   have:(List.map cρ args.toList).toArray=args.map cρ:=by apply Array.ext';rw [List.toList_toArray,Array.toList_map]
   rw [this] at F
   simp [resolve,invoke,builtin,F]
  ·have A:=bind_some h;clear h;obtain ⟨r,hr,h⟩:=A
   obtain ⟨rfl,rfl,rfl⟩:=aT h
   obtain ⟨cv,F,G⟩:=TW (P:=P) (w:=w) (vM args.toList fun x E=>hargs x (Array.mem_toList_iff.1 E)) hr R o.type
   refine iK.val D (cv:=cv) ?_ G
   have:(List.map cρ args.toList).toArray=args.map cρ:=by apply Array.ext';rw [List.toList_toArray,Array.toList_map]
   rw [this] at F
   simp [resolve,invoke,builtin,F]
  ·cases h
 ·cases h
end
end AM
namespace AM
open Go
structure Cx.Ok (c:Cx):Prop where
 bs:∀ b ∈ c.bs,b=true
 ps:∀ p ∈ c.ps,p
theorem R.bind_ok {α β:Type} {r:R α} {f:α→Cx→R β} {b:β} {c:Cx} (h:r.bind f= .ok b c):∃ a c1,r= .ok a c1∧f a c1= .ok b c:=by
 cases r with
 |ok a c1=>exact ⟨a,c1,rfl,h⟩
 |need=>simp [R.bind] at h
 |bad n=>simp [R.bind] at h
theorem C_ {c f:Cx} {bs:List Bool} {u:Unit} (h:ZL c bs= .ok u f) (d:f.Ok):c.Ok∧∀ b ∈ bs,b=true:=by
 unfold ZL at h
 split at h
 ·split at h
  ·rename_i a
   cases h
   exact ⟨d,fun b e=>by simpa using List.all_eq_true.1 a b e⟩
  ·cases h
 ·cases h
  exact ⟨⟨fun b a=>d.bs b (by simp [a]),d.ps⟩,fun b a=>d.bs b (by simp [a])⟩
theorem lu {c e:Cx} {b a:Bool} (h:zV c b= .ok a e) (d:e.Ok):c.Ok∧a=b:=by
 unfold zV at h
 split at h
 ·cases h;exact ⟨d,rfl⟩
 ·split at h
  ·cases h
  ·rename_i o r _
   cases h
   have f:=d.bs (lit a b) (by simp)
   refine ⟨⟨fun x i=>d.bs x (by simp [i]),d.ps⟩, ?_⟩
   cases a<;>cases b<;>simp [lit] at f ⊢
theorem jB {l:List Nat} {a:Nat}:rE l a=true↔a ∈ l:=by
 simp only [rE,List.any_eq_true]
 constructor
 ·rintro ⟨x,hx,h⟩;exact aP h ▸ hx
 ·intro h;exact ⟨a,h,Nat.beq_refl a⟩
theorem iF {α β:Type} {f:α→Option β}:∀ {l:List α} {l':List β},jP f l=some l'→l'.length=l.length∧∀ (i:Nat) x,l[i]? =some x→∃ y,l'[i]? =some y∧f x=some y
 | [],l',h=>by simp [jP] at h;subst h;simp
 | a::r,l',h=>by
  simp only [jP] at h
  split at h
  ·rename_i y c
   split at h
   ·rename_i q d
    cases h
    obtain ⟨j,e⟩:=iF d
    refine ⟨by simp [j], ?_⟩
    intro i x b
    cases i with
    |zero=>simp at b;subst b;exact ⟨y,by simp,c⟩
    |succ i=>simpa using e i x (by simpa using b)
   ·cases h
  ·cases h
section
variable {P:Program} {ap:AP} {g:dF} {m:aX} {S:aU} {w:World}
noncomputable def dH (S:aU) (m:aX) (rd:dF) (w:World):aU:=fun k o=>
 match S k o with
 |some v=>some v
 |none=>open Classical in if ∃ b B,rd b=some B∧(m b).1=k∧o<B.cells.length then kG w k o else none
theorem nT (S:aU) (m:aX) (rd:dF) (w:World):oW S (dH S m rd w):=by
 intro k o v h;simp [dH,h]
theorem fJ {rd:dF} {k o:Nat} {v:Value} (h:dH S m rd w k o=some v):S k o=some v∨(kG w k o=some v∧∃ b B,rd b=some B∧(m b).1=k∧o<B.cells.length):=by
 unfold dH at h
 split at h
 ·rename_i e a;cases h;exact .inl a
 ·rename_i d
  split at h
  ·rename_i c;exact .inr ⟨h,c⟩
  ·cases h
theorem qi (a:bV ap g m S w) {rd:dF} {k o:Nat} {v:Value} (h:dH S m rd w k o=some v):kG w k o=some v:=by
 rcases fJ h with h|h
 ·exact a.sealed _ _ _ h
 ·exact h.1
theorem Ux (c:bV ap g m S w) {rd:dF} {b:Nat} {B:bi} (f:rd b=some B) {o:Nat} (d:o<B.cells.length) {v:Value} (a:kG w (m b).1 o=some v):dH S m rd w (m b).1 o=some v:=by
 unfold dH
 split
 ·rename_i h e
  have:=c.sealed _ _ _ e
  rw [a] at this;cases this;rfl
 ·rw [if_pos ⟨b,B,f,rfl,d⟩];exact a
theorem FT (i:bV ap g m S w) {rd:dF} (f:∀ b B,rd b=some B→g b=some B) {b:Nat} {B:bi} (h:rd b=some B):
  ∃ vs,aY g m S B.cells vs∧(B.pr=true→dV S B.cells vs)∧(∀ j u,vs[j]? =some u→dH S m rd w (m b).1 j=some u)∧vs.length=B.cells.length∧(B.esz ≠ iG→∀ u ∈ vs,u.oneCell'=true):=by
 obtain ⟨⟨cur,e,vs,rest,n,o,p,c,k,q⟩,_,_⟩:=i.blk b B (f b B h)
 refine ⟨vs,c,p, ?_,(bK c).symm,k⟩
 intro j u d
 have a:=(List.getElem?_eq_some_iff.1 d).1
 refine Ux i h (by rw [bK c];exact a) ?_
 exact n.get (by rw [o,List.getElem?_append_left a];exact d) (fun l=>k l u (List.mem_of_getElem? d))
theorem zx (e:bV ap g m S w) {rd:dF} (a:∀ b B,rd b=some B→g b=some B) {b:Nat} {B:bi} (n:rd b=some B) (d:B.esz ≠ iG):
  ∃ vs,aY g m S B.cells vs∧(B.pr=true→dV S B.cells vs)∧kE (dH S m rd w) (m b).1 0 vs∧vs.length=B.cells.length:=by
 obtain ⟨vs,k,f,h,i,l⟩:=FT e a n
 refine ⟨vs,k,f,fun j u c=> ?_,i⟩
 rw [Nat.zero_add]
 exact ⟨h j u c,l d u (List.mem_of_getElem? c)⟩
theorem Ih {S':aU} {l:List AV} {y:AV} {vs:List Value} {k:Nat} (h:aaP l=some y) (a:dV S' l vs) (hs:∀ j u,vs[j]? =some u→S' k j=some u):PR S' y (.map (some k)):=by
 unfold aaP at h
 split at h
 ·rename_i ks ws
  cases h
  match vs,a with
  | [v0,v1],a=>
   simp only [dV,PR,and_true] at a
   obtain ⟨⟨c,rfl,b⟩,e,rfl,d⟩:=a
   simp only [PR]
   exact .inr ⟨k,c,e,rfl,hs 0 _ rfl,hs 1 _ rfl,b,d⟩
  | [],a=>simp [dV] at a
  | [_],a=>simp [dV] at a
  |_::_::_::_,a=>simp [dV] at a
 ·cases h
theorem uo {S':aU} {f:AV→Option AV} (a:∀ x v y,f x=some y→VR g m S x v→PR S' y v):∀ {l l':List AV} {vs:List Value},jP f l=some l'→aY g m S l vs→dV S' l' vs
 | [],l',[],h,_=>by simp [jP] at h;subst h;simp [dV]
 | x::r,l',v::vs,h,hv=>by
  simp only [jP] at h
  simp only [aY] at hv
  split at h
  ·rename_i y b
   split at h
   ·rename_i q c
    cases h
    simp only [dV]
    exact ⟨a x v y b hv.1,uo a c hv.2⟩
   ·cases h
  ·cases h
 | [],_,_::_,_,h=>by simp [aY] at h
 |_::_,_,[],_,h=>by simp [aY] at h
theorem lG (K:bV ap g m S w) {rd:dF} (z:∀ b B,rd b=some B→g b=some B):∀ (s:Nat) (x:AV) (v:Value) (y:AV),frz rd s x=some y→VR g m S x v→PR (dH S m rd w) y v:=by
 intro s
 induction s with
 |zero=>intro x v y h;simp [frz] at h
 | succ s ih=>
  intro x v y h f
  have C:=nT S m rd w
  have hlist:∀ {l l':List AV} {vs:List Value},jP (frz rd s) l=some l'→aY g m S l vs→dV (dH S m rd w) l' vs:=fun F G=>uo (fun x v y Z f=>ih x v y Z f) F G
  unfold frz at h
  simp only at h
  split at h
  ·
   rename_i b ver i n
   have D:=bind_some h;clear h;obtain ⟨B,E,h⟩:=D
   split at h
   ·rename_i d
    simp only [VR] at f
    obtain ⟨B',p,_,_,q⟩:=f
    rw [z b B E] at p;cases p
    obtain ⟨o,rfl,M,ho,L,H⟩:=q (aP d)
    obtain ⟨vs,F,G,I,N⟩:=zx K z E H
    have hpart:kE (dH S m rd w) (m b).1 o ((vs.drop (i*B.esz)).take (n*B.esz)):=by
     by_cases hi:i<(m b).2
     ·rw [ho hi]
      have:=(I.drop (i*B.esz)).take (n*B.esz)
      rwa [Nat.zero_add] at this
     ·have V:n=0:=by omega
      subst V
      intro j u R
      simp at R
    have k:∀ l,dV (dH S m rd w) l ((vs.drop (i*B.esz)).take (n*B.esz))→PR (dH S m rd w) (.sl l n true) (.slice (some ⟨(m b).1,o,none⟩) n ((m b).2 - i)):=by
     intro l t
     simp only [PR]
     exact ⟨_,_,rfl,by omega,.inr ⟨_,_,_,rfl,t,hpart⟩⟩
    split at h
    ·rename_i A
     cases h
     exact k _ (kD _ (qJ _ (dm C _ (G A))))
    ·simp only [Option.map_eq_some_iff] at h
     obtain ⟨l,t,rfl⟩:=h
     exact k _ (hlist t (qL _ (uq _ F)))
   ·cases h
  ·
   rename_i b ver J
   have D:=bind_some h;clear h;obtain ⟨B,E,h⟩:=D
   split at h
   ·rename_i d
    simp only [Bool.and_eq_true,Bool.not_eq_true'] at d
    have H:B.esz ≠ iG:=fun e=>by rw [e] at d;exact absurd d.2 (by decide)
    simp only [VR] at f
    obtain ⟨B',p,_,_,q⟩:=f
    rw [z b B E] at p;cases p
    have q:=q (aP d.1)
    subst q
    obtain ⟨vs,F,G,I,N⟩:=zx K z E H
    have k:∀ l,dV (dH S m rd w) l vs→PR (dH S m rd w) (.pp l J) (.pointer (some ⟨(m b).1,J,none⟩)):=by
     intro l t
     simp only [PR]
     exact ⟨_,0,_,by rw [Nat.zero_add],t,I⟩
    split at h
    ·rename_i A
     cases h
     exact k _ (dm C _ (G A))
    ·simp only [Option.map_eq_some_iff] at h
     obtain ⟨l,t,rfl⟩:=h
     exact k _ (hlist t F)
   ·cases h
  ·
   rename_i b ver
   have D:=bind_some h;clear h;obtain ⟨B,E,h⟩:=D
   split at h
   ·rename_i d
    simp only [Bool.and_eq_true] at d
    simp only [VR] at f
    obtain ⟨B',p,_,_,q⟩:=f
    rw [z b B E] at p;cases p
    have q:=q (aP d.1)
    subst q
    obtain ⟨vs,F,G,I,N,_⟩:=FT K z E
    split at h
    ·rename_i A
     exact Ih h (dm C _ (G A)) I
    ·have D:=bind_some h;clear h;obtain ⟨l,t,h⟩:=D
     exact Ih h (hlist t F) I
   ·cases h
  ·simp only [Option.map_eq_some_iff] at h
   obtain ⟨l,t,rfl⟩:=h
   simp only [VR] at f
   obtain ⟨vs,e,q⟩:=f
   simp only [PR]
   exact ⟨vs,e,hlist t q⟩
  ·simp only [Option.map_eq_some_iff] at h
   obtain ⟨l,t,rfl⟩:=h
   simp only [VR] at f
   obtain ⟨vs,e,q⟩:=f
   simp only [PR]
   exact ⟨vs,e,hlist t q⟩
  ·have D:=bind_some h;clear h;obtain ⟨a,Y,h⟩:=D
   simp only [Option.map_eq_some_iff] at h
   obtain ⟨c,hc,rfl⟩:=h
   simp only [VR] at f
   obtain ⟨va,W,e,q,r⟩:=f
   simp only [PR]
   exact ⟨va,W,e,hlist Y q,hlist hc r⟩
  ·simp only [Option.map_eq_some_iff] at h
   obtain ⟨u,hu,rfl⟩:=h
   simp only [VR] at f
   obtain ⟨Q,e,q⟩:=f
   simp only [PR]
   exact ⟨Q,e,ih _ _ _ hu q⟩
  ·cases h
  ·rename_i n1 n2 X U n4 O T n7
   cases h
   refine dn C _ ?_
   cases x<;>first
    |exact absurd rfl (n1 _ _ _ _)
    |exact absurd rfl (n2 _ _ _)
    |exact absurd rfl (X _ _)
    |exact absurd rfl (U _)
    |exact absurd rfl (n4 _)
    |exact absurd rfl (O _ _ _)
    |exact absurd rfl (T _ _)
    |exact absurd rfl (n7 _ _ _)
    |(simp only [VR] at f;exact f)
    |(simp only [PR])
end
end AM
