/- The abstract machine over the code of the model, and the proof that it is sound. No conditions. -/
import Derived.Test.YtcjindbblhcopaaGreatDoorM1
import Derived.Laws.BytesString
import Derived.Laws.MakeOwn
import Derived.Laws.OwnMore
set_option linter.unusedSimpArgs false
set_option linter.unusedVariables false
namespace AM
open Go
section
variable {P:Program} {ap:AP} {g:dR} {m:bf} {S:aW} {w:World}
theorem BK {x:AV} {v:Value} (h:VR g m S x v) (e:∀ y ∈ x.cells,nI y=true):bF g m S x.cells v.cells.toList∧∀ u ∈ v.cells,u.oneCell'=true:=by
 cases x
 case agg l=>
  simp only [VR] at h
  obtain ⟨vs,rfl,h⟩:=h
  refine ⟨by simpa [Value.cells,AV.cells] using h, ?_⟩
  intro u d
  simp only [Value.cells] at d
  simp only [AV.cells] at e
  have:∀ (l:List AV) (vs:List Value),bF g m S l vs→(∀ y ∈ l,nI y=true)→∀ u ∈ vs,u.oneCell'=true:=by
   intro l
   induction l with
   |nil=>intro vs f _ u d;cases vs<;>simp [bF] at f d
   | cons a r ih=>
    intro vs f e u d
    cases vs with
    |nil=>simp [bF] at f
    |cons b q=>
     simp only [bF] at f
     rcases List.mem_cons.1 d with rfl|d
     ·exact L_ f.1 (e a (by simp))
     ·exact ih q f.2 (fun y j=>e y (by simp [j])) u d
  exact this l vs h e u (by simpa using d)
 all_goals
  have c:=L_ h (e _ (by simp [AV.cells]))
  have i:v.cells=#[v]:=by cases v<;>simp [Value.cells,Value.oneCell'] at c ⊢
  rw [i]
  refine ⟨by simp only [AV.cells,bF];exact ⟨h,trivial⟩,by simpa using c⟩
theorem Gj:∀ (vs:List Value) (i a:Nat) (b:Array Value),a+i+vs.length≤b.size→
  ((vs.zipIdx i).foldl (fun (b:Array Value) (p:Value × Nat)=>b.setIfInBounds (a+p.2) p.1) b).toList=b.toList.take (a+i)++vs++b.toList.drop (a+i+vs.length)
 | [],i,a,b,_=>by simp
 | v::vs,i,a,b,h=>by
  simp only [List.length_cons] at h
  simp only [List.zipIdx_cons,List.foldl_cons]
  rw [Gj vs (i+1) a (b.setIfInBounds (a+i) v) (by simp;omega)]
  have c:a+i<b.toList.length:=by simp;omega
  simp only [Array.toList_setIfInBounds]
  rw [show a+(i+1)=a+i+1 from by omega,List.set_eq_take_append_cons_drop,if_pos c]
  have d:(b.toList.take (a+i)++v::b.toList.drop (a+i+1)).take (a+i+1)=b.toList.take (a+i)++ [v]:=by
   rw [List.take_append]
   have e:a+i+1 - (b.toList.take (a+i)).length=1:=by simp [List.length_take];omega
   rw [e]
   simp [List.take_take]
  have f:(b.toList.take (a+i)++v::b.toList.drop (a+i+1)).drop (a+i+1+vs.length)=b.toList.drop (a+i+(v::vs).length):=by
   rw [List.drop_append]
   have:(b.toList.take (a+i)).length=a+i:=by simp [List.length_take];omega
   rw [this,List.drop_eq_nil_of_le (by rw [this];omega),List.nil_append,show a+i+1+vs.length - (a+i)=vs.length+1 from by omega,List.drop_succ_cons,List.drop_drop]
   congr 1
   simp;omega
  rw [d,f]
  simp
theorem OB {d vs:List AV} {c b:List Value} {a:Nat} (h:bF g m S d c) (e:bF g m S vs b):bF g m S (jg d a vs) (c.take a++b++c.drop (a+b.length)):=by
 unfold jg
 rw [← cO e]
 exact iH (iH (p_ _ h) e) (sW _ h)
theorem Wy {d vs:List AV} {c b:List Value} {a:Nat} (h:dK S d c) (e:dK S vs b):dK S (jg d a vs) (c.take a++b++c.drop (a+b.length)):=by
 unfold jg
 rw [← wE e]
 exact mX (mX (kN _ h) e) (pX _ h)
def mZ (g:dR) (m:bf) (S:aW) (place:Nat→Option (Nat × Nat)):List (Nat × Nat × AV)→List (Nat × Value)→Prop
 | [],[]=>True
 |(off,size,v)::r,(i,c)::q=>place i=some (off,size)∧VR g m S v c∧mZ g m S place r q
 |_,_=>False
theorem oM {place:Nat→Option (Nat × Nat)}:∀ (ps:List (Nat × Nat × AV)) (qs:List (Nat × Value)) (cells cells':List AV) (cs:Array Value),mZ g m S place ps qs→bF g m S cells cs.toList→vV cells ps=some cells'→
  ∃ a,Instr.fill place cs qs=some a∧bF g m S cells' a.toList∧a.size=cs.size
 | [],[],cells,cells',cs,_,hv,h=>by simp [vV] at h;subst h;exact ⟨cs,rfl,hv,rfl⟩
 | (off,size,v)::r,(i,c)::q,cells,cells',cs,hp,hv,h=>by
  simp only [mZ] at hp
  simp only [vV] at h
  split at h
  ·rename_i l
   simp only [Bool.and_eq_true] at l
   obtain ⟨⟨o,k⟩,z⟩:=l
   obtain ⟨n,B⟩:=BK hp.2.1 (fun y t=>List.all_eq_true.1 z y t)
   have x:=cO n
   have f:=cO hv
   have o:=aO o
   have k:=gQ k
   have u:c.cells.size=size:=by simp only [Array.length_toList] at x;omega
   have d:off+c.cells.size≤cs.size:=by simp only [Array.length_toList] at f;omega
   have j:=Gj c.cells.toList 0 off cs (by simpa using d)
   have b:bF g m S (jg cells off v.cells) ((c.cells.zipIdx.foldl (fun (cs:Array Value) (p:Value × Nat)=>cs.setIfInBounds (off+p.2) p.1) cs)).toList:=by
    rw [← Array.foldl_toList,Array.toList_zipIdx,j]
    simp only [Nat.add_zero]
    exact OB hv n
   obtain ⟨a,e,A,s⟩:=oM r q _ cells' _ hp.2.2 b h
   refine ⟨a, ?_,A, ?_⟩
   ·simp only [Instr.fill,hp.1]
    rw [if_neg (by simp;omega)]
    exact e
   ·rw [s,← Array.length_toList,← Array.foldl_toList,Array.toList_zipIdx,j]
    simp
    omega
  ·cases h
 | [],_::_,_,_,_,hp,_,_=>by simp [mZ] at hp
 |_::_,[],_,_,_,hp,_,_=>by simp [mZ] at hp
theorem qc {t:Nat} {a:TI} {i:TypeInfo} {d:TypeDesc} {z:Value} (b:EP P t a i d z):bF g m S a.zero z.cells.toList:=by
 rw [b.zcells];exact bV _ (vM S _)
def xh (g:dR) (m:bf) (S:aW):List (Nat × AV)→List (Nat × Value)→Prop
 | [],[]=>True
 |(i,v)::r,(j,c)::q=>i=j∧VR g m S v c∧xh g m S r q
 |_,_=>False
theorem rq {size:Nat}:∀ {ps:List (Nat × AV)} {qs:List (Nat × Value)},xh g m S ps qs→mZ g m S (fun i=>some (i*size,size)) (ps.map fun (i,v)=>(i*size,size,v)) qs
 | [],[],_=>by simp [mZ]
 |(i,v)::r,(j,c)::q,h=>by
  simp only [xh] at h
  obtain ⟨rfl,b,a⟩:=h
  simp only [List.map_cons,mZ]
  exact ⟨trivial,b,rq a⟩
 | [],_::_,h=>by simp [xh] at h
 |_::_,[],h=>by simp [xh] at h
theorem zV {a:List (Nat × Nat × Nat)} {place:Nat→Option (Nat × Nat)} (hp:∀ i x,a[i]? =some x→place i=some (x.1,x.2.2)):∀ {ps:List (Nat × AV)} {qs:List (Nat × Value)} {rs:List (Nat × Nat × AV)},xh g m S ps qs→
  kK (fun (q:Nat × AV)=>(a[q.1]?).map fun (x:Nat × Nat × Nat)=>(x.1,x.2.2,q.2)) ps=some rs→mZ g m S place rs qs
 | [],[],rs,_,h=>by simp [kK] at h;subst h;simp [mZ]
 | (i,v)::r,(j,c)::q,rs,hn,h=>by
  simp only [xh] at hn
  obtain ⟨rfl,f,d⟩:=hn
  simp only [kK] at h
  cases b:a[i]? with
  |none=>simp [b] at h
  | some x=>
   simp only [b,Option.map_some] at h
   split at h
   ·rename_i l e
    cases h
    simp only [mZ]
    exact ⟨hp i x b,f,zV hp d e⟩
   ·cases h
 | [],_::_,_,h,_=>by simp [xh] at h
 |_::_,[],_,h,_=>by simp [xh] at h
theorem zU:∀ (fields:List Field),(∀ f ∈ fields,(P.info? f.type).isSome)→fields.mapM (fun f=>(P.info? f.type).map fun i=>(f.offset,i.size))=some (fields.map fun f=>(f.offset,match P.info? f.type with|some i=>i.size|none=>0))
 | [],_=>rfl
 | f::r,h=>by
  cases a:P.info? f.type with
  |none=>have:=h f (by simp);simp [a] at this
  |some i=>
   simp [List.mapM_cons,a,zU r (fun f b=>h f (by simp [b]))]
theorem H6 (r:jd P ap) {t:Nat} {o:TI} {i:TypeInfo} {d:TypeDesc} {z:Value} (b:EP P t o i d z) {ps:List (Nat × AV)} {qs:Array (Nat × Value)} (D:xh g m S ps qs.toList) {v:AV} {ups:List (Nat × bi)} {bs:List Bool}
  (h:MI ap o ps=some (v,ups,bs)):ups= []∧∃ cv,(Instr.build t qs).run P w= .ok cv w∧VR g m S v cv:=by
 unfold MI at h
 split at h
 ·rename_i G l
  have j:=bind_some h;clear h;obtain ⟨F,u,h⟩:=j
  have j:=bind_some h;clear h;obtain ⟨A,k,h⟩:=j
  obtain ⟨rfl,rfl,rfl⟩:=aT h
  rw [b.d_eq] at l
  obtain ⟨fields,rfl,rfl⟩:=vg l
  by_cases hall:∀ f ∈ fields.toList,(P.info? f.type).isSome
  ·have q:=zU fields.toList hall
   have s:=zV (place:=((fields.toList.map fun f=>(f.offset,match P.info? f.type with|some i=>i.size|none=>0)).toArray[·]?)) (by
    intro i x C
    simp only [List.getElem?_map,Option.map_eq_some_iff] at C
    obtain ⟨f,y,rfl⟩:=C
    simp [y]
    rfl) D u
   obtain ⟨a,p,B,_⟩:=oM F qs.toList o.zero A z.cells s (qc b) k
   refine ⟨rfl,.agg a,run_build w t qs a ?_, ?_⟩
   ·simp only [Program.built,b.info,b.und,b.zero]
    rw [q]
    exact p
   ·simp only [VR];exact ⟨a.toList,by simp,B⟩
  ·exfalso
   apply hall
   intro f y
   have:=b.fld
   simp only [TY] at this
   exact List.all_eq_true.1 this f y
 ·rename_i n e l
  have j:=bind_some h;clear h;obtain ⟨E,c,h⟩:=j
  have j:=bind_some h;clear h;obtain ⟨A,k,h⟩:=j
  obtain ⟨rfl,rfl,rfl⟩:=aT h
  obtain ⟨I,H,J,c⟩:=fA r c
  rw [b.d_eq] at l
  have l:=yE l
  subst l
  obtain ⟨a,p,B,_⟩:=oM _ qs.toList o.zero A z.cells (rq (size:=E.size) D) (qc b) k
  refine ⟨rfl,.agg a,run_build w t qs a ?_, ?_⟩
  ·simp only [Program.built,b.info,b.und,b.zero,c.info]
   rw [← c.size]
   exact p
  ·simp only [VR];exact ⟨a.toList,by simp,B⟩
 ·cases h
end
end AM
namespace AM
open Go
section
variable {P:Program} {ap:AP} {g:dR} {m:bf} {S:aW} {w:World}
theorem wU {t:Nat} {j:TI} {i:TypeInfo} {d:TypeDesc} {z:Value} (f:EP P t j i d z) {v:AV} (h:qC j j.zero=some v):VR g m S v z:=by
 have e:=qc (g:=g) (m:=m) (S:=S) f
 have b:=f.zagg
 unfold qC at h
 rw [f.d_eq,ED] at h
 unfold ado at b
 rw [f.zero] at b
 split at h
 ·rename_i a
  cases h
  cases d<;>simp [TypeDesc.isRow] at a<;>cases z<;>simp at b
  all_goals
   simp only [VR]
   exact ⟨_,rfl,by simpa [Value.cells] using e⟩
 ·rename_i a
  split at h
  ·rename_i c l
   cases h
   have k:z.cells=#[z]:=by
    cases z<;>first|rfl|skip
    cases d<;>simp [TypeDesc.isRow] at a b
   rw [l,k] at e
   simp only [bF] at e
   exact e.1
  ·cases h
theorem E_ (q:jd P ap) {x v:AV} {D:Value} (o:VR g m S x D) {asserted:Nat} {ok:Bool} {ups:List (Nat × bi)} {bs:List Bool} (h:Hy ap x asserted ok=some (v,ups,bs)) (A:Nat):
  ups= []∧∃ cv,(Instr.typeAssert D A asserted ok).run P w= .ok cv w∧VR g m S v cv:=by
 unfold Hy at h
 have n:=bind_some h;clear h;obtain ⟨F,y,h⟩:=n
 obtain ⟨i,d,z,f⟩:=fA q y
 have a:∀ B,d ≠ .interface B:=by
  intro B e;subst e;rw [f.d_eq] at h;simp [jI] at h
 have key:∀ (c:Value),(∃ t u,c= .iface t u∧t ≠ asserted)∨c= .nilIface→∀ l,VR g m S l z→ok=true→(Instr.typeAssert c A asserted ok).run P w= .ok (.tuple #[z,.bool false]) w:=by
  intro c E l _ r
  subst r
  rcases E with ⟨t,u,rfl,k⟩|rfl
  ·cases d<;>first|exact absurd rfl (a _)|simp [Instr.typeAssert,run_underlying f.und,k,zeroValue,typeInfo,f.info,f.zero]
  ·cases d<;>first|exact absurd rfl (a _)|simp [Instr.typeAssert,run_underlying f.und,zeroValue,typeInfo,f.info,f.zero]
 split at h
 ·cases h
 ·split at h
  ·rename_i t u
   simp only [VR] at o
   obtain ⟨p,rfl,C⟩:=o
   split at h
   ·rename_i b
    have b:=aO b
    subst b
    obtain ⟨rfl,rfl,rfl⟩:=aT h
    cases ok
    ·refine ⟨rfl,p, ?_,C⟩
     cases d<;>first|exact absurd rfl (a _)|simp [Instr.typeAssert,run_underlying f.und]
    ·refine ⟨rfl,.tuple #[p,.bool true], ?_, ?_⟩
     ·cases d<;>first|exact absurd rfl (a _)|simp [Instr.typeAssert,run_underlying f.und]
     ·simp only [VR];exact ⟨[p,.bool true],rfl,by simp only [bF,VR,PR];exact ⟨C,trivial,trivial⟩⟩
   ·rename_i b
    have k:t ≠ asserted:=by intro e;subst e;simp at b
    cases ok
    ·cases h
    ·simp only at h
     have n:=bind_some h;clear h;obtain ⟨l,s,h⟩:=n
     obtain ⟨rfl,rfl,rfl⟩:=aT h
     have j:=wU (g:=g) (m:=m) (S:=S) f s
     refine ⟨rfl,_,key _ (.inl ⟨_,_,rfl,k⟩) l j rfl, ?_⟩
     simp only [VR];exact ⟨[z,.bool false],rfl,by simp only [bF,VR,PR];exact ⟨j,trivial,trivial⟩⟩
  ·simp only [VR,PR] at o
   subst o
   cases ok
   ·cases h
   ·simp only at h
    have n:=bind_some h;clear h;obtain ⟨l,s,h⟩:=n
    obtain ⟨rfl,rfl,rfl⟩:=aT h
    have j:=wU (g:=g) (m:=m) (S:=S) f s
    refine ⟨rfl,_,key _ (.inr rfl) l j rfl, ?_⟩
    simp only [VR];exact ⟨[z,.bool false],rfl,by simp only [bF,VR,PR];exact ⟨j,trivial,trivial⟩⟩
  ·cases h
theorem rO (O:bY ap g m S w) {rd:dR} (D:∀ b B,rd b=some B→g b=some B) {size:Nat} {x:AV} {M:Value} (f:VR g m S x M) {C:List AV} {n:Nat} {pr:Bool} (h:Le size rd x=some (C,n,pr)) (R:C.length=n*size)
  {tx:Nat} (hk:((∃ s,x= .str s)∧P.underlying tx=some .string∧size=1)∨((∀ s,x ≠ .str s)∧∃ e,P.underlying tx=some (.slice e))):
  ∃ news,Src P size tx M n news w∧bF g m S C news∧(pr=true→dK S C news):=by
 unfold Le at h
 split at h
 ·rename_i W U nn
  cases h
  obtain ⟨_,e,d⟩:=hk.resolve_left (by rintro ⟨⟨s,hs⟩,_⟩;cases hs)
  simp only [VR,PR] at f
  obtain ⟨a,J,rfl,V,q⟩:=f
  rcases q with ⟨rfl,_,rfl,rfl,rfl⟩|⟨b,o,vs,rfl,hp,hs⟩
  ·exact ⟨[],Src.ofNil w d 0,by simp [bF],fun _=>by simp [dK]⟩
  ·refine ⟨vs,Src.ofSlice w d ⟨b,o,none⟩ n J vs (by rw [← wE hp,R]) (fun j u c=>by rw [Addr.add_mid];exact O.one (hs j u c).1 (hs j u c).2) ?_,bV _ hp,fun _=>hp⟩
   intro u E
   obtain ⟨j,c⟩:=List.getElem?_of_mem E
   exact (hs j u c).2
 ·cases h
  obtain ⟨_,e,d⟩:=hk.resolve_left (by rintro ⟨⟨s,hs⟩,_⟩;cases hs)
  simp only [VR,PR] at f
  subst f
  exact ⟨[],Src.ofNil w d 0,by simp [bF],fun _=>by simp [dK]⟩
 ·rename_i s
  cases h
  obtain ⟨_,d,I⟩:=hk.resolve_right (by rintro ⟨hs,_⟩;exact hs s rfl)
  simp only [VR,PR] at f
  subst f
  subst I
  have hp:∀ s:List UInt8,dK S (s.map fun b=>AV.int .u8 b.toNat) (s.map fun b=>Value.int .u8 b.toNat):=by
   intro s
   induction s with
   |nil=>simp [dK]
   |cons a r ih=>simp only [List.map_cons,dK,PR];exact ⟨trivial,ih⟩
  have i:=Src.ofString (P:=P) w d ⟨s.toArray⟩
  have Z:byteCells ⟨s.toArray⟩=s.map fun b=>Value.int .u8 b.toNat:=by simp [byteCells]
  rw [Z,yB] at i
  exact ⟨_,i,bV _ (hp s),fun _=>hp s⟩
 ·rename_i b ver j U
  have T:=bind_some h;clear h;obtain ⟨B,X,h⟩:=T
  split at h
  ·rename_i v
   cases h
   simp only [Bool.and_eq_true,Bool.not_eq_true'] at v
   obtain ⟨v,t⟩:=v
   have p:B.esz ≠ je:=fun e=>by rw [e] at t;exact absurd t (by decide)
   obtain ⟨_,e,d⟩:=hk.resolve_left (by rintro ⟨⟨s,hs⟩,_⟩;cases hs)
   simp only [VR] at f
   obtain ⟨B',z,_,_,q⟩:=f
   have A:=D b B X
   rw [A] at z;cases z
   obtain ⟨o,rfl,q1,Y,q3⟩:=q (aO v.1)
   have K:=aO v.2
   obtain ⟨cur,e',vs,rest,k,l,hp,G,H,Q⟩:=(O.blk b B A).lies
   have k:=k.cells p
   have H:=H p
   have L:=cO G
   have F:((vs.drop (j*size)).take (n*size)).length=n*size:=by
    rw [← cO (p_ _ (sW _ G))];exact R
   by_cases hn:n=0
   ·subst hn
    have N:(vs.drop (j*size)).take (0*size)= []:=by simp
    refine ⟨[], ?_, ?_, ?_⟩
    ·exact Src.ofSlice w d _ 0 _ [] (by simp) (fun _ _ h=>by simp at h) (fun _ h=>by simp at h)
    ·simp [bF]
    ·intro _;simp [dK]
   ·have y:=Y (by omega)
    refine ⟨(vs.drop (j*size)).take (n*size),Src.ofSlice w d _ n _ _ F ?_ ?_,p_ _ (sW _ G),fun pr=>kN _ (pX _ (hp pr))⟩
    ·intro jj u c
     rw [y,Addr.add_mid,K,tH k,l]
     rw [List.getElem?_take] at c
     split at c
     ·rw [List.getElem?_drop] at c
      rw [List.getElem?_append_left (List.getElem?_eq_some_iff.1 c).1]
      exact c
     ·cases c
    ·intro u E
     exact H u (List.mem_of_mem_drop (List.mem_of_mem_take E))
  ·cases h
 ·cases h
theorem GI:∀ (a:List Int) (s:List UInt8),a.foldl (fun (r:ByteArray) n=>r.push (UInt8.ofNat n.toNat)) ⟨s.toArray⟩=⟨(s++a.map fun n=>UInt8.ofNat n.toNat).toArray⟩
 | [],s=>by simp
 |n::a,s=>by
  simp only [List.foldl_cons]
  have e:(⟨s.toArray⟩:ByteArray).push (UInt8.ofNat n.toNat)=⟨(s++ [UInt8.ofNat n.toNat]).toArray⟩:=by simp [ByteArray.push]
  rw [e,GI a]
  simp
theorem Ci (D:jd P ap) (Z:bY ap g m S w) {rd:dR} (K:∀ b B,rd b=some B→g b=some B) {s d:Nat} {U W:TI} (J:ap.tyAt s=some U) (N:ap.tyAt d=some W) {x v:AV} {M:Value} (G:VR g m S x M) {ups:List (Nat × bi)} {bs:List Bool}
  (h:Cf ap U W rd x=some (v,ups,bs)) (hbs:∀ b ∈ bs,b=true):ups= []∧∃ cv,(convert s d M).run P w= .ok cv w∧VR g m S v cv:=by
 obtain ⟨i1,d1,z1,F⟩:=fA D J
 obtain ⟨i2,d2,z2,C⟩:=fA D N
 unfold Cf at h
 split at h
 ·rename_i k k' n I
  obtain ⟨rfl,rfl,rfl⟩:=aT h
  rw [C.d_eq] at I
  have I:=VS I
  subst I
  simp only [VR,PR] at G
  subst G
  exact ⟨rfl,_,by simp [convert,run_underlying F.und,run_underlying C.und,Conv.intToInt];rfl,by simp only [VR,PR]⟩
 ·rename_i s' j i
  obtain ⟨rfl,rfl,rfl⟩:=aT h
  rw [F.d_eq] at j
  rw [C.d_eq] at i
  have j:=w_ j
  have i:=w_ i
  subst j;subst i
  simp only [VR,PR] at G
  subst G
  exact ⟨rfl,_,by simp [convert,run_underlying F.und,run_underlying C.und];rfl,by simp only [VR,PR]⟩
 ·rename_i x0 e j i
  have L:=bind_some h;clear h;obtain ⟨te,t,h⟩:=L
  obtain ⟨ie,de,ze,t⟩:=fA D t
  split at h
  ·cases h
  ·rename_i xa xt xb u A
   have L:=bind_some h;clear h;obtain ⟨⟨p,n,pr⟩,z,h⟩:=L
   obtain ⟨rfl,rfl,rfl⟩:=aT h
   obtain ⟨V,O⟩:=dw hbs
   obtain ⟨O,_⟩:=dw O
   rw [F.d_eq] at j
   rw [C.d_eq] at i
   have j:=iE j
   have i:=w_ i
   subst j;subst i
   rw [t.d_eq] at u
   have u:=VS u
   subst u
   have V:=aO V
   obtain ⟨f,hs,Y,_⟩:=rO (P:=P) Z K G z (by omega) (tx:=s) (.inr ⟨fun s e=>A s e,e,F.und⟩)
   have E:f=(p.map AV.toInt).map (Value.int .u8):=by
    have:∀ (p:List AV) (f:List Value),bF g m S p f→p.all (gV (.int .u8))=true→f=(p.map AV.toInt).map (Value.int .u8):=by
     intro p
     induction p with
     |nil=>intro f h _;cases f<;>simp [bF] at h ⊢
     | cons a r ih=>
      intro f h H
      cases f with
      |nil=>simp [bF] at h
      |cons c q=>
       simp only [bF] at h
       simp only [List.all_cons,Bool.and_eq_true] at H
       rw [List.map_cons,List.map_cons,ih q h.2 H.2]
       congr 1
       cases a<;>simp [gV] at H
       simp only [VR,PR] at h
       rw [h.1,jb H.1]
       rfl
    exact this p f Y O
   refine ⟨rfl,.string ⟨((p.map AV.toInt).map fun n=>UInt8.ofNat n.toNat).toArray⟩, ?_, ?_⟩
   ·have hcells:=hs.cells
    have y:=hs.len w
    have o:=G
    cases M
    case slice a l c=>
     have hl:l=n:=by simpa [Builtin.lenOf] using y
     subst hl
     cases a with
     | none=>
      have Q:f= []:=by simpa [Builtin.firstCells] using hcells.symm
      rw [Q] at E
      have R:p= []:=by
       have:(p.map AV.toInt).map (Value.int .u8)= []:=E.symm
       simpa using this
      subst R
      simp [convert,run_underlying F.und,run_underlying C.und,run_underlying t.und,Conv.bytesToString]
      rfl
     | some a=>
      have T:(loadCells a l).run P w= .ok ((p.map AV.toInt).map (Value.int .u8)).toArray w:=by
       rw [← E];simpa [Builtin.firstCells] using hcells
      have X:=run_bytesToString (P:=P) w a l c _ T
      rw [show ByteArray.empty=⟨([]:List UInt8).toArray⟩ from rfl,GI,List.nil_append] at X
      simp only [convert,Sem.run_bind,run_underlying F.und,run_underlying C.und,run_underlying t.und,Result.andThen_ok]
      exact X
    all_goals (simp [Builtin.lenOf] at y)
    case string s0=>
     exfalso
     cases xa<;>simp [Le] at z
     case str s1=>exact A s1 rfl
     case nilS=>simp only [VR,PR] at o;cases o
     case sl a b c=>simp only [VR,PR] at o;obtain ⟨_,_,h,_⟩:=o;cases h
     case ref a b c d=>simp only [VR] at o;obtain ⟨_,_,_,⟨_,_,_,h⟩,_⟩:=o;cases h
   ·simp only [VR,PR]
    simp [List.map_map,Function.comp_def]
  ·cases h
 ·cases h
end
end AM
namespace AM
open Go
def dZ (g:dR) (ups:List (Nat × bi)):dR:=fun b=>match aG ups b with|some B=>some B|none=>g b
def kL (m:bf) (b:Nat) (x:Nat × Nat):bf:=fun c=>if c=b then x else m c
theorem iw {α:Type}:∀ (a b:List (Nat × α)) (t:Nat),aG (a++b) t=match aG a t with|some x=>some x|none=>aG b t
 | [],b,t=>rfl
 |(u,x)::r,b,t=>by
  simp only [List.cons_append,aG]
  split
  ·rfl
  ·exact iw r b t
theorem kJ (ups:List (Nat × bi)) (hp:Hp):dZ (aG hp) ups=aG (ups++hp):=by
 funext b;rw [iw];unfold dZ;cases aG ups b<;>rfl
theorem f_ (g:dR):dZ g []=g:=rfl
theorem lN (g:dR) (b:Nat) (B:bi) (c:Nat):dZ g [(b,B)] c=if c=b then some B else g c:=by
 simp only [dZ,aG]
 by_cases h:c=b
 ·subst h;simp
 ·have:Nat.beq b c=false:=by
   cases a:Nat.beq b c with
   |false=>rfl
   |true=>exact absurd (aO a).symm h
  rw [this,if_neg h]
section
variable {P:Program} {ap:AP} {g:dR} {m:bf} {S:aW} {w:World}
theorem PX.mono {g g':dR} {m b:bf} {S S':aW} {w w':World} {B:bi} {k c:Nat} (h:PX g m S w B k c) (a:mi S S') (j:Ge g m g' b) (s:w'.heap[k]? =w.heap[k]?):PX g' b S' w' B k c:=by
 obtain ⟨⟨cur,e,vs,rest,o,d,f,n,r,l⟩,q,i⟩:=h
 exact ⟨⟨cur,e,vs,rest,o.same s,d,fun p=>bP a _ (f p),lJ a j _ n,r,l⟩,q,i⟩
theorem bY.seal_lt (h:bY ap g m S w) {k o:Nat} {v:Value} (a:S k o=some v):k<w.heap.size:=JC (h.sealed k o v a)
theorem bY.put (h:bY ap g m S w) (b:Nat) (B:bi) (k c:Nat) {w':World}
  (j:w.heap.size≤k∨∃ B0,g b=some B0∧k=(m b).1) (hw:w.grownBy w' (some k)) (hblk:PX g m S w' B k c)
  (hge:∀ B0,g b=some B0→B.esz=B0.esz∧((B.ver=B0.ver∧(k,c)=m b)∨B0.ver<B.ver))
  (hseal:∀ o v,S k o=some v→dW w' k o=some v∧B.fro=true∧o<B.fz):
  bY ap (dZ g [(b,B)]) (kL m b (k,c)) S w'∧Fr g m S w (dZ g [(b,B)]) (kL m b (k,c)) S w':=by
 have t:Ge g m (dZ g [(b,B)]) (kL m b (k,c)):=by
  intro f B1 p
  by_cases e:f=b
  ·subst e
   obtain ⟨a,i⟩:=hge B1 p
   refine ⟨B,by rw [lN,if_pos rfl],a, ?_⟩
   rcases i with ⟨i,C⟩|i
   ·exact .inl ⟨i,by simp [kL,C]⟩
   ·exact .inr i
  ·exact ⟨B1,by rw [lN,if_neg e];exact p,rfl,.inl ⟨rfl,by simp [kL,e]⟩⟩
 have s:∀ f B1,g f=some B1→f ≠ b→(m f).1 ≠ k:=by
  intro f B1 p z e
  have r:=h.lt p
  rcases j with j|⟨B0,n,j⟩
  ·omega
  ·exact z (h.inj f b B1 B0 p n (e.trans j))
 have l:∀ k0,k0<w.heap.size→k0 ≠ k→w'.heap[k0]? =w.heap[k0]? :=fun k0 r y=>hw.block k0 r (by simpa using y)
 constructor
 ·refine ⟨?_, ?_, ?_, ?_,h.glob⟩
  ·intro f A B1 B2 d x u
   rw [lN] at d x
   by_cases a:f=b<;>by_cases i:A=b
   ·rw [a,i]
   ·rw [if_neg i] at x
    simp only [kL,a,if_true,if_neg i] at u
    exact absurd u.symm (s A B2 x i)
   ·rw [if_neg a] at d
    simp only [kL,i,if_true,if_neg a] at u
    exact absurd u (s f B1 d a)
   ·rw [if_neg a] at d
    rw [if_neg i] at x
    simp only [kL,if_neg a,if_neg i] at u
    exact h.inj f A B1 B2 d x u
  ·intro f B1 d
   rw [lN] at d
   by_cases a:f=b
   ·rw [if_pos a] at d
    cases d
    simp only [kL,if_pos a]
    exact hblk.mono (mi.refl S) t rfl
   ·rw [if_neg a] at d
    simp only [kL,if_neg a]
    exact (h.blk f B1 d).mono (mi.refl S) t (l _ (h.lt d) (s f B1 d a))
  ·intro k0 o v q
   by_cases e:k0=k
   ·subst e;exact (hseal o v q).1
   ·rw [MJ (l k0 (h.seal_lt q) e)]
    exact h.sealed k0 o v q
  ·intro f B1 d o v q
   rw [lN] at d
   by_cases a:f=b
   ·rw [if_pos a] at d
    cases d
    simp only [kL,if_pos a] at q
    exact (hseal o v q).2
   ·rw [if_neg a] at d
    simp only [kL,if_neg a] at q
    exact h.own f B1 d o v q
 ·refine ⟨t,mi.refl S,hw.os,hw.tape,hw.output,hw.size, ?_, ?_,fun _ _ _ q=> .inl q⟩
  ·intro k0 r D
   refine l k0 r (fun e=> ?_)
   subst e
   rcases j with j|⟨B0,n,j⟩
   ·omega
   ·exact D b B0 n j.symm
  ·intro f B1 d
   rw [lN] at d
   by_cases a:f=b
   ·subst a
    rcases j with j|⟨B0,n,j⟩
    ·exact .inl (by simpa [kL] using j)
    ·exact .inr ⟨B0,n,by simp [kL,j]⟩
   ·rw [if_neg a] at d
    exact .inr ⟨B1,d,by simp [kL,a]⟩
end
mutual
theorem Jt {g:dR} {m:bf} {S:aW}:∀ (x:AV) {v:Value},VR g m S x v→fD x= []→PR S x v
 | .int _ _,_,p,_=>by simpa only [VR] using p
 | .bool _,_,p,_=>by simpa only [VR] using p
 | .str _,_,p,_=>by simpa only [VR] using p
 | .nilS,_,p,_=>by simpa only [VR] using p
 | .nilP,_,p,_=>by simpa only [VR] using p
 | .nilF,_,p,_=>by simpa only [VR] using p
 | .nilI,_,p,_=>by simpa only [VR] using p
 | .sl _ _ _,_,p,_=>by simpa only [VR] using p
 | .pp _ _,_,p,_=>by simpa only [VR] using p
 | .mp _ _,_,p,_=>by simpa only [VR] using p
 | .dead,_,_,_=>by simp only [PR]
 | .own _ _ _,_,p,_=>by simp only [VR] at p
 | .ref _ _ _ _,_,_,h=>by simp [fD] at h
 | .ptr _ _ _,_,_,h=>by simp [fD] at h
 | .mr _ _,_,_,h=>by simp [fD] at h
 | .agg l,_,p,h=>by
  simp only [VR] at p;simp only [PR];simp only [fD] at h
  obtain ⟨vs,e,q⟩:=p
  exact ⟨vs,e,gI l q h⟩
 | .tup l,_,p,h=>by
  simp only [VR] at p;simp only [PR];simp only [fD] at h
  obtain ⟨vs,e,q⟩:=p
  exact ⟨vs,e,gI l q h⟩
 | .fn f a c,_,p,h=>by
  simp only [VR] at p;simp only [PR];simp only [fD,List.append_eq_nil_iff] at h
  obtain ⟨b,d,e,q,r⟩:=p
  exact ⟨b,d,e,gI a q h.1,gI c r h.2⟩
 | .ifc t x,_,p,h=>by
  simp only [VR] at p;simp only [PR];simp only [fD] at h
  obtain ⟨u,e,q⟩:=p
  exact ⟨u,e,Jt x q h⟩
theorem gI {g:dR} {m:bf} {S:aW}:∀ (l:List AV) {vs:List Value},bF g m S l vs→dn l= []→dK S l vs
 | [],[],_,_=>by simp only [dK]
 |x::r,v::vs,p,h=>by simp only [bF] at p;simp only [dn,List.append_eq_nil_iff] at h;simp only [dK];exact ⟨Jt x p.1 h.1,gI r p.2 h.2⟩
 | [],_::_,p,_=>by simp [bF] at p
 |_::_,[],p,_=>by simp [bF] at p
end
section
variable {P:Program} {ap:AP} {g:dR} {m:bf} {S:aW} {w:World}
theorem qm {α:Type} {l:List α} (h:l.isEmpty=true):l= []:=by cases l<;>simp at h ⊢
theorem bY.fresh (h:bY ap g m S w) {nid:Nat} (j:g nid=none) (B:bi) (i:B.esz ≠ je) (c:Nat) {w':World} {cur:Array Value} {e:TypeId} (b:w.grownBy w' none) (a:w'.heap[w.heap.size]? =some (.cells cur e (0,0)))
  (hver:B.fro=false→B.fz=0) (hfz:B.fz≤B.cells.length) {vs rest:List Value} (hc:cur.toList=vs++rest) (hp:B.pr=true→dK S B.cells vs) (d:bF g m S B.cells vs) (h1:∀ u ∈ vs,u.oneCell'=true) (hcap:0<B.esz→cur.size=c*B.esz∧c≤maxLen):
  bY ap (dZ g [(nid,B)]) (kL m nid (w.heap.size,c)) S w'∧Fr g m S w (dZ g [(nid,B)]) (kL m nid (w.heap.size,c)) S w':=by
 refine h.put nid B w.heap.size c (.inl (Nat.le_refl _)) ⟨b.os,b.tape,b.output,b.size,fun k f _=>b.block k f (by simp)⟩ ⟨⟨cur,e,vs,rest,jP.of i a,hc,hp,d,fun _=>h1,fun h0 _=>hcap h0⟩,hver,hfz⟩ (fun B0 h0=>by rw [j] at h0;cases h0) ?_
 intro o v d
 have:=h.seal_lt d
 omega
theorem FQ (h:bY ap g m S w) {nid:Nat} (d:g nid=none) {cells:List AV} {cv:Value} (a:bF g m S cells cv.cells.toList) (_hl:∀ x ∈ cells,nI x=true) (f:∀ u ∈ cv.cells,u.oneCell'=true) (t:TypeId):
  ∃ m' w',(newVar t cv).run P w= .ok ⟨w.heap.size,0,none⟩ w'∧bY ap (dZ g [jw nid cells 0]) m' S w'∧Fr g m S w (dZ g [jw nid cells 0]) m' S w'∧(m' nid).1=w.heap.size:=by
 have b:=h.fresh (nid:=nid) d (jw nid cells 0).2 (by show 0 ≠ je;decide) 0 (w':=w.alloc (.cells cv.cells t)) (cur:=cv.cells) (e:=t) (World.grownBy_alloc w _ none) (heap_alloc_new w _) (fun _=>rfl) (Nat.zero_le _) (vs:=cv.cells.toList) (rest:= []) (by simp)
  (fun hp=>gI _ a (qm hp)) a (fun u c=>f u (by simpa using c)) (fun h=>by simp [jw] at h)
 refine ⟨_,_, ?_,b.1,b.2,by simp [kL]⟩
 simp [newVar,newRow]
theorem Pm {b:bf} {nid:Nat} {cells:List AV} {a k:Nat} (c:(b nid).1=k):VR (dZ g [jw nid cells a]) b S (.ptr nid 0 0) (.pointer (some ⟨k,0,none⟩)):=by
 simp only [VR]
 refine ⟨(jw nid cells a).2, ?_,Nat.zero_le _,⟨_,_,rfl⟩,fun _=>by rw [c]⟩
 show dZ g [(nid,(jw nid cells a).2)] nid=_
 rw [lN,if_pos rfl]
theorem Jb (h:bY ap g m S w) {rd:dR} (J:∀ b B,rd b=some B→g b=some B) {t:Nat} {K:TI} {i:TypeInfo} {d:TypeDesc} {z:Value} (O:EP P t K i d z) {p x v:AV} {T c:Value} (hp:VR g m S p T) (U:VR g m S x c)
  {ups:List (Nat × bi)} {bs:List Bool} (hs:Oh K rd p x=some (v,ups,bs)) (hbs:∀ b ∈ bs,b=true):
  v= .dead∧∃ m' w',(Instr.storeAt t T c).run P w= .ok () w'∧bY ap (dZ g ups) m' S w'∧Fr g m S w (dZ g ups) m' S w':=by
 unfold Oh at hs
 split at hs
 ·rename_i b ver a
  have W:=bind_some hs;clear hs;obtain ⟨B,hB,hs⟩:=W
  simp only at hs
  split at hs
  ·rename_i N
   simp only [Bool.and_eq_true,Bool.not_eq_true'] at N
   obtain ⟨⟨⟨⟨Z,c2⟩,Y⟩,c4⟩,R⟩:=N
   have l:B.esz ≠ je:=fun e=>by rw [e] at R;exact absurd R (by decide)
   cases hs
   have j:=J b B hB
   have G:=aO Z
   have L:=aO Y
   have M:=gQ (hbs _ (List.mem_singleton.2 rfl))
   simp only [VR] at hp
   obtain ⟨B',H,_,_,q⟩:=hp
   rw [j] at H;cases H
   have q:=q G
   subst q
   obtain ⟨A,I⟩:=BK U (fun y hy=>List.all_eq_true.1 c4 y hy)
   obtain ⟨⟨cur,e,vs,rest,k1,k2,k3,k4,k5,k6⟩,k7,k8⟩:=h.blk b B j
   have k1:=k1.cells l
   have k5:=k5 l
   have s:=cO A
   have Q:=cO k4
   have F:c.cells.size=i.size:=by simp only [Array.length_toList] at s;rw [← O.size];omega
   have C:cur.toList.length=vs.length+rest.length:=by rw [k2];simp
   have D:=run_storeCells_at P (m b).1 a e c.cells.toList 0 cur w k1 (by simp only [Array.length_toList] at s C ⊢;omega) (fun u f=>I u (by simpa using f))
   simp only [Nat.add_zero] at D
   have hnewl:(cur.toList.take a++c.cells.toList++cur.toList.drop (a+c.cells.toList.length))=(vs.take a++c.cells.toList++vs.drop (a+c.cells.toList.length))++rest:=by
    rw [k2,List.take_append_of_le_length (by omega),List.drop_append_of_le_length (by omega)]
    simp [List.append_assoc]
   have n:=h.put b {B with cells:=jg B.cells a x.cells,pr:=B.pr && (dn x.cells).isEmpty} (m b).1 (m b).2 (w':=w.setRow (m b).1 (cur.toList.take a++c.cells.toList++cur.toList.drop (a+c.cells.toList.length)).toArray)
    (.inr ⟨B,j,rfl⟩) ⟨rfl,rfl,rfl,by simp,fun k _ hk=>setRow_other w _ k _ (fun e=>hk (by rw [e]))⟩
    ⟨⟨_,e,vs.take a++c.cells.toList++vs.drop (a+c.cells.toList.length),rest,jP.of l (setRow_heap w _ cur _ e _ k1),by rw [List.toList_toArray,hnewl],fun r=>by
      simp only [Bool.and_eq_true] at r
      exact Wy (k3 r.1) (gI _ A (qm r.2)),OB k4 A,by
      intro _ u f
      rcases List.mem_append.1 f with f|f
      ·rcases List.mem_append.1 f with f|f
       ·exact k5 u (List.mem_of_mem_take f)
       ·exact I u (by simpa using f)
      ·exact k5 u (List.mem_of_mem_drop f),fun E _=>by
      obtain ⟨s1,V⟩:=k6 E l
      refine ⟨?_,V⟩
      rw [← s1,List.size_toArray]
      simp only [List.length_append,List.length_take,List.length_drop,Array.length_toList] at s C ⊢
      omega⟩,k7,by
     have:(jg B.cells a x.cells).length=B.cells.length:=by simp only [jg,List.length_append,List.length_take,List.length_drop];omega
     simp only [this];exact k8⟩
    (fun B0 h0=>by rw [j] at h0;cases h0;exact ⟨rfl,.inl ⟨rfl,rfl⟩⟩)
    (fun o v X=>by
     have:=(h.own b B j o v X).1
     rw [c2] at this;cases this)
   refine ⟨rfl,_,_, ?_,n.1,n.2⟩
   have hn:¬ (c.cells.size ≠ i.size):=by simp [F]
   simp [Instr.storeAt,Instr.sureAddr,storeVar,Go.sizeOf,typeInfo,O.info,F,D]
  ·cases hs
 ·cases hs
end
end AM
namespace AM
open Go
section
variable {P:Program} {ap:AP} {g:dR} {m:bf} {S:aW} {w:World}
theorem mQ (g:dR) (b:Nat) (B:bi):dZ g [(b,B)] b=some B:=by rw [lN,if_pos rfl]
theorem CW {w w':World} (h:w.grownBy w' none) (r:Option Nat):w.grownBy w' r:=⟨h.os,h.tape,h.output,h.size,fun k a _=>h.block k a (by simp)⟩
theorem nC (w:World) (o:Obj):w.grownBy (w.drew.alloc o) none:=⟨rfl,rfl,rfl,by simp,fun k a _=>Go.RowKit.Below.heap_alloc w.drew o k a⟩
theorem vI {t tx ty e:TypeId} {i:TypeInfo} (d:P.underlying t=some (.slice e)) (c:P.info? e=some i) {x:Value} {a:List Value} (hs:Src P i.size tx x 0 a w):
  (Builtin.append_ #[t,tx] ty #[.slice none 0 0,x]).run P w= .ok (.slice none 0 0) w:=by
 rcases hs.kind with ⟨f,b⟩|b<;>simp [Builtin.append_,run_underlying d,run_underlying b,Go.sizeOf,typeInfo,c,hs.len,hs.cells]
theorem vJ {t tx ty e:TypeId} {i:TypeInfo} (h:P.underlying t=some (.slice e)) (f:P.info? e=some i) {k o sLen sCap n:Nat} {x:Value} {a:List Value} (hs:Src P i.size tx x n a w) (hroom:sLen+n≤sCap)
  {cur:Array Value} {e':TypeId} (hk:w.heap[k]? =some (.cells cur e' (0,0))) (hfit:o+sLen*i.size+a.length≤cur.size):
  (Builtin.append_ #[t,tx] ty #[.slice (some ⟨k,o,none⟩) sLen sCap,x]).run P w= .ok (.slice (some ⟨k,o,none⟩) (sLen+n) sCap) (w.setRow k (cur.toList.take (o+sLen*i.size)++a++cur.toList.drop (o+sLen*i.size+a.length)).toArray):=by
 have c:=run_storeCells_at P k (o+sLen*i.size) e' a 0 cur w hk (by simpa using hfit) hs.one
 simp only [Nat.add_zero] at c
 rcases hs.kind with ⟨d,b⟩|b<;>simp [Builtin.append_,run_underlying h,run_underlying b,Go.sizeOf,typeInfo,f,hs.len,hroom,hs.cells,Addr.add_mid,c]
theorem zG {n a bytes:Nat} (h:a<n) (c:n≤GX) (b:bytes≤128):Builtin.nextslicecap n a*bytes≤281474976710656:=by
 refine growslice_fits h ?_
 have:n*bytes≤GX*128:=Nat.mul_le_mul c b
 have e:GX*128=140737488355328:=by decide
 omega
theorem yx:GX=1099511627776:=by decide
theorem Ar {t tx ty e:TypeId} {i:TypeInfo} (f:P.underlying t=some (.slice e)) (d:P.info? e=some i) {x:Value} {base:Option Addr} {sLen sCap:Nat} (hs:Src P i.size tx x 0 [] w) (c:sLen≤sCap):
  (Builtin.append_ #[t,tx] ty #[.slice base sLen sCap,x]).run P w= .ok (.slice base sLen sCap) w:=by
 cases base with
 |none=>rcases hs.kind with ⟨h,b⟩|b<;>simp [Builtin.append_,run_underlying f,run_underlying b,Go.sizeOf,typeInfo,d,hs.len,hs.cells,c]
 |some a=>rcases hs.kind with ⟨h,b⟩|b<;>simp [Builtin.append_,run_underlying f,run_underlying b,Go.sizeOf,typeInfo,d,hs.len,hs.cells,c,storeCells]
theorem vO (h:bY ap g m S w) {rd:dR} (M:∀ b B,rd b=some B→g b=some B) {nid:Nat} (hn:g nid=none) {t tx e:Nat} {ti p:TI} {i F:TypeInfo} {z O:Value} {de:TypeDesc} (ht:EP P t ti i (.slice e) z) (r:EP P e p F de O)
  {s x v:AV} {cs cx:Value} (hvs:VR g m S s cs) (hvx:VR g m S x cx)
  (hk:((∃ s,x= .str s)∧P.underlying tx=some .string∧p.size=1)∨((∀ s,x ≠ .str s)∧∃ e,P.underlying tx=some (.slice e)))
  {em:Bool} (N:s= .nilS→∃ n,wJ x=some n∧Nat.beq n 0=em)
  {ups:List (Nat × bi)} {bs:List Bool} (E:xw nid p rd em s x=some (v,ups,bs)) (y:∀ b ∈ bs,b=true) (ty:Nat):
  ∃ cv m' w',(Builtin.append_ #[t,tx] ty #[cs,cx]).run P w= .ok cv w'∧bY ap (dZ g ups) m' S w'∧Fr g m S w (dZ g ups) m' S w'∧VR (dZ g ups) m' S v cv:=by
 have hcount:∀ L n pr,Le p.size rd x=some (L,n,pr)→wJ x=some n:=by
  intro L n pr a
  unfold Le at a
  split at a
  ·cases a;rfl
  ·cases a;rfl
  ·cases a;rfl
  ·have hq:=bind_some a;clear a;obtain ⟨B,hB,a⟩:=hq
   split at a
   ·cases a;rfl
   ·cases a
  ·cases a
 unfold xw at E
 have hq:=bind_some E;clear E;obtain ⟨⟨L,n,pr⟩,a,E⟩:=hq
 simp only at E
 split at E
 ·cases E
 ·rename_i W
  simp only [Bool.and_eq_true] at W
  have hsz:=gm W.1
  have hby:=gQ W.2
  have d:p.size=F.size:=r.size
  have R:p.size ≠ je:=fun e=>by have:=r.small;omega
  have hby':p.bytes=F.bytes:=r.bytes
  have hzs:O.cells.size=F.size:=r.zsize
  split at E
  ·
   obtain ⟨n',hc',N⟩:=N rfl
   rw [hcount _ _ _ a] at hc'
   cases hc'
   simp only [VR,PR] at hvs
   subst hvs
   split at E
   ·
    obtain ⟨rfl,rfl,rfl⟩:=aT E
    have Q:n=0:=aO N
    subst Q
    have hl:=aO (y _ (List.mem_singleton.2 rfl))
    obtain ⟨c,hs,hv,hp⟩:=rO (P:=P) h M hvx a hl hk
    rw [d] at hs
    exact ⟨_,m,w,vI ht.und r.info hs,by rw [f_];exact h,by rw [f_];exact Fr.refl _ _ _ _,by simp [VR,PR]⟩
   ·
    cases E
    obtain ⟨b1,y⟩:=dw y
    obtain ⟨b2,_⟩:=dw y
    have hl:=aO b1
    have hroom:=gQ b2
    have Q:n ≠ 0:=by intro e;subst e;simp at N
    obtain ⟨c,hs,hv,hp⟩:=rO (P:=P) h M hvx a hl hk
    rw [d] at hs
    have f:=run_append_grow_src w t tx ty e F O ht.und r.info r.zero none 0 0 [] (run_firstCells_none w.drew _ _ _ _) cx n c hs (by omega) (by rw [yx] at hroom;omega) (zG (by omega) (by simpa using hroom) (by omega))
    have V:n≤grownCap w n 0 e:=grownCap_ge _ _ _ _
    have X:grownCap w n 0 e≤maxLen:=grownCap_le_maxLen _ _ _ _ (by rw [yx] at hroom;simp only [maxLen];omega)
    simp only [Nat.zero_add] at f
    have hf:=h.fresh (nid:=nid) hn ⟨L,0,false,0,p.size,pr⟩ R (grownCap w n 0 e) (cur:=([]++c).toArray++Builtin.zeroCells O.cells (grownCap w n 0 e - n)) (e:=e) (nC w _) (heap_alloc_new w.drew _) (fun _=>rfl) (Nat.zero_le _)
     (vs:=c) (rest:=(Builtin.zeroCells O.cells (grownCap w n 0 e - n)).toList) (by simp) hp hv hs.one (fun _=> ⟨by
      simp only [Array.size_append,List.size_toArray,List.nil_append,size_zeroCells,hs.newsLen,hzs,d]
      rw [← Nat.add_mul];congr 1;omega,X⟩)
    refine ⟨_,_,_,f,hf.1,hf.2, ?_⟩
    simp only [VR]
    refine ⟨_,mQ _ _ _,Nat.le_refl _,⟨_,_,_,rfl⟩,fun _=> ⟨0, ?_, ?_, ?_,hsz,R⟩⟩
    ·simp [kL]
    ·simpa [kL] using V
    ·simp
  ·rename_i b ver mN
   have hq:=bind_some E;clear E;obtain ⟨B,hB,E⟩:=hq
   split at E
   ·rename_i G
    simp only [Bool.and_eq_true,Bool.not_eq_true'] at G
    have hver:=aO G.1.1
    have T:=aO G.1.2
    have A:B.esz ≠ je:=fun e=>by rw [e] at G;exact absurd G.2 (by decide)
    cases E
    obtain ⟨b1,y⟩:=dw y
    obtain ⟨b2,y⟩:=dw y
    obtain ⟨b3,y⟩:=dw y
    obtain ⟨b4,_⟩:=dw y
    have hl:=aO b1
    have hroom:=gQ b2
    have hfit:=gQ b3
    have D:=M b B hB
    simp only [VR] at hvs
    obtain ⟨B',hB',_,_,q⟩:=hvs
    rw [D] at hB';cases hB'
    obtain ⟨o,rfl,hcap,ho,H,hnz1⟩:=q hver
    simp only [Nat.zero_add,Nat.sub_zero,Nat.zero_mul] at hcap ho ⊢
    obtain ⟨c,hs,hv,hp⟩:=rO (P:=P) h M hvx a hl hk
    rw [d] at hs
    have hbk:=h.blk b B D
    obtain ⟨⟨cur,e',vs,rest,k1,k2,k3,k4,k5,k6⟩,k7,k8⟩:=hbk
    have k1:=k1.cells A
    have k5:=k5 A
    obtain ⟨s1,s2⟩:=k6 H A
    have hvl:=cO k4
    have hcl:cur.toList.length=vs.length+rest.length:=by rw [k2];simp
    simp only [Array.length_toList] at hcl
    have hfz:B.fz≤mN*p.size:=by
     cases hf:B.fro with
     |false=>rw [k7 hf];exact Nat.zero_le _
     |true=>simp [hf] at b4;exact gQ (by simpa using b4)
    have holds:dK S (B.cells.take (mN*p.size)) (vs.take (mN*p.size))∨B.pr=false:=by
     cases hp:B.pr with
     |false=>exact .inr rfl
     |true=>exact .inl (kN _ (k3 hp))
    have J:(vs.take (mN*p.size)).length=mN*F.size:=by rw [List.length_take,d] at*;omega
    have U:bF g m S (B.cells.take (mN*p.size)++L) (vs.take (mN*p.size)++c):=iH (p_ _ k4) hv
    have Y:(B.pr && pr)=true→dK S (B.cells.take (mN*p.size)++L) (vs.take (mN*p.size)++c):=by
     intro hh
     simp only [Bool.and_eq_true] at hh
     exact mX (kN _ (k3 hh.1)) (hp hh.2)
    have h1:∀ u ∈ vs.take (mN*p.size)++c,u.oneCell'=true:=by
     intro u C
     rcases List.mem_append.1 C with C|C
     ·exact k5 u (List.mem_of_mem_take C)
     ·exact hs.one u C
    have I:B.fz≤(B.cells.take (mN*p.size)++L).length:=by
     rw [List.length_append,List.length_take];omega
    by_cases hrm:mN+n≤(m b).2
    ·
     by_cases hc0:(m b).2=0
     ·have hm0:mN=0:=by omega
      have Q:n=0:=by omega
      subst hm0;subst Q
      have hnews:c= []:=by have:=hs.newsLen;simpa using this
      subst hnews
      have f:=Ar (P:=P) (w:=w) (ty:=ty) (base:=some ⟨(m b).1,o,none⟩) (sLen:=0) (sCap:=(m b).2) ht.und r.info hs (by omega)
      have l:=h.put b {B with cells:=B.cells.take (0*p.size)++L,ver:=ver+1,pr:=B.pr && pr} (m b).1 (m b).2 (w':=w) (.inr ⟨B,D,rfl⟩) ⟨rfl,rfl,rfl,Nat.le_refl _,fun _ _ _=>rfl⟩
       ⟨⟨cur,e',_,vs.drop (0*p.size)++rest,jP.of A k1,by rw [k2];simp,Y,U,fun _=>h1,k6⟩,k7,I⟩ (fun B0 h0=>by rw [D] at h0;cases h0;exact ⟨rfl,.inr (by simp only;omega)⟩)
       (fun o' u C=> ⟨h.sealed _ _ _ C,(h.own b B D o' u C)⟩)
      refine ⟨_,_,_,f,l.1,l.2, ?_⟩
      simp only [VR]
      refine ⟨_,mQ _ _ _,Nat.le_refl _,⟨_,_,_,rfl⟩,fun _=> ⟨o,by simp [kL],by simp,by simp [kL,hc0],H,A⟩⟩
     ·have Z:o=0:=ho (by omega)
      subst Z
      have hnl:=hs.newsLen
      have hbig:mN*F.size+n*F.size≤(m b).2*F.size:=by rw [← Nat.add_mul];exact Nat.mul_le_mul_right _ hrm
      have hcs:cur.size=(m b).2*F.size:=by rw [s1,T,d]
      have f:=vJ (P:=P) (w:=w) (ty:=ty) (o:=0) ht.und r.info hs hrm k1 (by simp only [Nat.zero_add];omega)
      simp only [Nat.zero_add] at f
      have hlist:cur.toList.take (mN*F.size)=vs.take (mN*p.size):=by rw [k2,d,List.take_append_of_le_length (by rw [d] at hfit;omega)]
      have l:=h.put b {B with cells:=B.cells.take (mN*p.size)++L,ver:=ver+1,pr:=B.pr && pr} (m b).1 (m b).2 (w':=w.setRow (m b).1 (cur.toList.take (mN*F.size)++c++cur.toList.drop (mN*F.size+c.length)).toArray)
       (.inr ⟨B,D,rfl⟩) ⟨rfl,rfl,rfl,by simp,fun k _ hk=>setRow_other w _ k _ (fun e=>hk (by rw [e]))⟩
       ⟨⟨_,e',_,cur.toList.drop (mN*F.size+c.length),jP.of A (setRow_heap w _ cur _ e' _ k1),by rw [hlist],Y,U,fun _=>h1,fun _ _=> ⟨by
        rw [← s1,List.size_toArray]
        simp only [List.length_append,List.length_take,List.length_drop,Array.length_toList]
        omega,s2⟩⟩,k7,I⟩ (fun B0 h0=>by rw [D] at h0;cases h0;exact ⟨rfl,.inr (by simp only;omega)⟩)
       (fun o' u C=>by
        obtain ⟨f1,f2⟩:=h.own b B D o' u C
        refine ⟨?_,f1,f2⟩
        have:=h.sealed _ _ _ C
        cases K:u.oneCell' with
        |false=>
         obtain ⟨_,_,hm,_⟩:=uJ this K
         rw [k1] at hm;cases hm
        |true=>
        have this:=uK this K
        rw [tH k1] at this
        refine (jP.of A (setRow_heap w _ cur _ e' _ k1)).get ?_ (fun _=>K)
        simp only [List.append_assoc]
        rw [List.getElem?_append_left (by simp only [List.length_take,Array.length_toList];rw [d] at hfz;omega),List.getElem?_take_of_lt (by rw [d] at hfz;omega)]
        exact this)
      refine ⟨_,_,_,f,l.1,l.2, ?_⟩
      simp only [VR]
      refine ⟨_,mQ _ _ _,Nat.le_refl _,⟨_,_,_,rfl⟩,fun _=> ⟨0,by simp [kL],by simpa [kL] using hrm,by simp,H,A⟩⟩
    ·
     have hold:(Builtin.firstCells F.size mN (.slice (some ⟨(m b).1,o,none⟩) mN (m b).2)).run P w.drew= .ok (vs.take (mN*p.size)).toArray w.drew:=by
      refine run_firstCells_some w.drew F.size mN ⟨(m b).1,o,none⟩ mN _ _ J ?_
      intro j u C
      have hjl:=(List.getElem?_eq_some_iff.1 C).1
      rw [J] at hjl
      have hm0:0<mN:=by
       rcases Nat.eq_zero_or_pos mN with h0|h0
       ·subst h0;simp at hjl
       ·exact h0
      have Z:o=0:=ho (by omega)
      subst Z
      rw [Addr.add_mid,Nat.zero_add,tH (w:=w.drew) (j:=j) k1,k2]
      rw [List.getElem?_take] at C
      split at C
      ·rw [List.getElem?_append_left (List.getElem?_eq_some_iff.1 C).1];exact C
      ·cases C
     have f:=run_append_grow_src w t tx ty e F O ht.und r.info r.zero (some ⟨(m b).1,o,none⟩) mN (m b).2 _ hold cx n c hs (by omega) (by rw [yx] at hroom;omega) (zG (by omega) hroom (by omega))
     have V:mN+n≤grownCap w (mN+n) (m b).2 e:=grownCap_ge _ _ _ _
     have X:grownCap w (mN+n) (m b).2 e≤maxLen:=grownCap_le_maxLen _ _ _ _ (by rw [yx] at hroom;simp only [maxLen];omega)
     have l:=h.put b {B with cells:=B.cells.take (mN*p.size)++L,ver:=ver+1,pr:=B.pr && pr} w.heap.size (grownCap w (mN+n) (m b).2 e) (.inl (Nat.le_refl _))
      (CW (nC w (.cells ((vs.take (mN*p.size)++c).toArray++Builtin.zeroCells O.cells (grownCap w (mN+n) (m b).2 e - (mN+n))) e)) _)
      ⟨⟨(vs.take (mN*p.size)++c).toArray++Builtin.zeroCells O.cells (grownCap w (mN+n) (m b).2 e - (mN+n)),e,_,(Builtin.zeroCells O.cells (grownCap w (mN+n) (m b).2 e - (mN+n))).toList,jP.of A (heap_alloc_new w.drew _),by simp,Y,U,fun _=>h1,fun _ _=> ⟨by
       simp only [Array.size_append,List.size_toArray,List.length_append,size_zeroCells,hs.newsLen,hzs]
       rw [J,T,d,← Nat.add_mul,← Nat.add_mul];congr 1;omega,X⟩⟩,k7,I⟩ (fun B0 h0=>by rw [D] at h0;cases h0;exact ⟨rfl,.inr (by simp only;omega)⟩)
      (fun o' u C=>absurd (h.seal_lt C) (Nat.lt_irrefl _))
     refine ⟨_,_,_,f,l.1,l.2, ?_⟩
     simp only [VR]
     refine ⟨_,mQ _ _ _,Nat.le_refl _,⟨_,_,_,rfl⟩,fun _=> ⟨0,by simp [kL],by simpa [kL] using V,by simp,H,A⟩⟩
   ·cases E
  ·cases E
end
end AM
namespace AM
open Go
theorem Aa (n:Nat) (z:List AV):(iU n z).length=n*z.length:=by simp [iU]
theorem QV (n:Nat) (z:List AV):iU (n+1) z=z++iU n z:=by simp [iU,List.replicate_succ]
theorem KW:∀ (n:Nat) (z:List AV) (i:Nat),i<n*z.length→(iU n z)[i]? =z[i % z.length]?
 |0,z,i,h=>by simp at h
 | n+1,z,i,h=>by
  rw [QV]
  by_cases a:i<z.length
  ·rw [List.getElem?_append_left a,Nat.mod_eq_of_lt a]
  ·have a:z.length≤i:=by omega
   rw [List.getElem?_append_right a,KW n z (i - z.length) (by rw [Nat.add_mul,Nat.one_mul] at h;omega)]
   congr 1
   rw [← Nat.mod_eq_sub_mod a]
section
variable {P:Program} {ap:AP} {g:dR} {m:bf} {S:aW} {w:World}
theorem BJ:∀ {l:List AV} {vs:List Value},l.length=vs.length→(∀ (i:Nat) x v,l[i]? =some x→vs[i]? =some v→VR g m S x v)→bF g m S l vs
 | [],[],_,_=>by simp [bF]
 |x::r,v::vs,hl,h=>by
  simp only [bF]
  exact ⟨h 0 x v rfl rfl,BJ (by simpa using hl) fun i x v b a=>h (i+1) x v (by simpa using b) (by simpa using a)⟩
 | [],_::_,h,_=>by simp at h
 |_::_,[],h,_=>by simp at h
theorem yZ (z:Array Value) (n:Nat):(madeCells z n).toList=(List.range n).map fun i=>z[i % z.size]! :=by simp [madeCells]
theorem vX {t:Nat} {f:TI} {i:TypeInfo} {d:TypeDesc} {z:Value} (c:EP P t f i d z) (n:Nat):bF g m S (iU n f.zero) (madeCells z.cells (n*i.size)).toList:=by
 have k:=qc (g:=g) (m:=m) (S:=S) c
 have a:=cO k
 simp only [Array.length_toList,c.zsize] at a
 refine BJ (by rw [Aa,a,Array.length_toList,size_madeCells]) ?_
 intro j x v h e
 have l:j<n*i.size:=by
  have:=(List.getElem?_eq_some_iff.1 h).1
  rw [Aa,a] at this;exact this
 rw [KW n f.zero j (by rw [a];exact l),a] at h
 rw [yZ,c.zsize,List.getElem?_map,List.getElem?_range l] at e
 simp only [Option.map_some,Option.some.injEq] at e
 obtain ⟨q,b,p⟩:=qO k _ h
 have o:j % i.size<z.cells.size:=by rw [c.zsize];exact Nat.mod_lt _ c.pos
 simp only [Array.getElem?_toList] at b
 rw [getElem!_pos z.cells _ o] at e
 rw [Array.getElem?_eq_getElem o] at b
 cases b
 rw [← e];exact p
theorem GU {n:Nat} {z:List AV} (h:∀ x ∈ z,nI x=true):∀ x ∈ iU n z,nI x=true:=by
 intro x a
 simp only [iU,List.mem_flatten,List.mem_replicate] at a
 obtain ⟨l,⟨_,rfl⟩,a⟩:=a
 exact h x a
theorem AA:∀ {l:List AV} {vs:List Value},bF g m S l vs→(∀ x ∈ l,nI x=true)→∀ u ∈ vs,u.oneCell'=true
 | [],[],_,_=>by simp
 |x::r,v::vs,h,hl=>by
  simp only [bF] at h
  intro u a
  rcases List.mem_cons.1 a with rfl|a
  ·exact L_ h.1 (hl x (by simp))
  ·exact AA h.2 (fun y b=>hl y (by simp [b])) u a
 | [],_::_,h,_=>by simp [bF] at h
 |_::_,[],h,_=>by simp [bF] at h
theorem IC {b vs:List AV} {a:Nat} {x:AV} (h:x ∈ jg b a vs):x ∈ b∨x ∈ vs:=by
 simp only [jg,List.mem_append] at h
 rcases h with (h|h)|h
 ·exact .inl (List.mem_of_mem_take h)
 ·exact .inr h
 ·exact .inl (List.mem_of_mem_drop h)
theorem CJ:∀ {ps:List (Nat × Nat × AV)} {cells cells':List AV},vV cells ps=some cells'→(∀ x ∈ cells,nI x=true)→∀ x ∈ cells',nI x=true
 | [],cells,cells',h,hl=>by simp [vV] at h;subst h;exact hl
 | (off,size,v)::r,cells,cells',h,hl=>by
  simp only [vV] at h
  split at h
  ·rename_i b
   simp only [Bool.and_eq_true] at b
   refine CJ h fun x a=> ?_
   rcases IC a with a|a
   ·exact hl x a
   ·exact List.all_eq_true.1 b.2 x a
  ·cases h
theorem Pv {nid:Nat} {cells:List AV} {a k c n:Nat} (b:n≤c) (hp:0<a) (d:a ≠ je):VR (dZ g [jw nid cells a]) (kL m nid (k,c)) S (.ref nid 0 0 n) (.slice (some ⟨k,0,none⟩) n c):=by
 simp only [VR]
 refine ⟨_,mQ _ _ _,Nat.zero_le _,⟨_,_,_,rfl⟩,fun _=> ⟨0,by simp [kL],by simpa [kL] using b,by simp,hp,d⟩⟩
theorem rG:∀ (a b:List AV),dn (a++b)=dn a++dn b
 | [],b=>by simp [dn]
 |x::r,b=>by simp [dn,rG r b]
theorem GR (z:List AV) (h:dn z= []):∀ n,dn (iU n z)= []
 |0=>by simp [iU,dn]
 |n+1=>by
  have a:=GR z h n
  simp only [iU,List.replicate_succ,List.flatten_cons,rG,h,List.nil_append] at a ⊢
  exact a
theorem NJ (nid n a:Nat) (z:List AV) (h:(dn z).isEmpty=true):(nid,(⟨iU n z,0,false,0,a,true⟩:bi))=jw nid (iU n z) a:=by
 have b:dn z= []:=by simpa using h
 simp [jw,GR z b n]
theorem y_ (A:jd P ap) (h:bY ap g m S w) {nid:Nat} (V:g nid=none) {t:Nat} {I:TI} {i:TypeInfo} {d:TypeDesc} {z:Value} (N:EP P t I i d z) {l c:AV} {cl L:Value} (Q:VR g m S l cl) (M:VR g m S c L)
  {v:AV} {ups:List (Nat × bi)} {bs:List Bool} (k:wR ap nid I l c=some (v,ups,bs)) (j:∀ b ∈ bs,b=true):
  ∃ cv m' w',(Instr.makeSlice t cl L).run P w= .ok cv w'∧bY ap (dZ g ups) m' S w'∧Fr g m S w (dZ g ups) m' S w'∧VR (dZ g ups) m' S v cv:=by
 unfold wR at k
 split at k
 ·rename_i e W l U c u
  have T:=bind_some k;clear k;obtain ⟨o,a,k⟩:=T
  obtain ⟨n,X,G,a⟩:=fA A a
  split at k
  ·rename_i f
   simp only [Bool.and_eq_true] at f
   have y:=f.2
   have f:=f.1
   have p:=gm f.1.1
   have B:=gQ f.2
   rw [NJ _ _ _ _ y] at k
   cases k
   obtain ⟨s,j⟩:=dw j
   obtain ⟨F,j⟩:=dw j
   obtain ⟨K,_⟩:=dw j
   have s:0≤l:=of_decide_eq_true s
   have F:l=c:=of_decide_eq_true F
   have K:l≤2^40:=of_decide_eq_true K
   subst F
   simp only [VR,PR] at Q M
   subst Q;subst M
   rw [N.d_eq] at u
   have u:=iE u
   subst u
   have r:(n.bytes:Int)*l≤281474976710656:=by
    have H:(n.bytes:Int)≤128:=by rw [← a.bytes];exact_mod_cast B
    have J:(n.bytes:Int)*l≤128*l:=Int.mul_le_mul_of_nonneg_right H s
    have R:(2:Int)^40=1099511627776:=by decide
    omega
   have E:l≤9223372036854775807:=by
    have R:(2:Int)^40=1099511627776:=by decide
    omega
   have q:=run_make (P:=P) w t e n G N.und a.info a.zero W U l l s (Int.le_refl _) r E
   have C:bF g m S (iU l.toNat o.zero) (madeCells G.cells (l.toNat*n.size)).toList:=vX a _
   have D:∀ x ∈ iU l.toNat o.zero,nI x=true:=GU a.zleaf
   have O:=h.fresh (nid:=nid) V (jw nid (iU l.toNat o.zero) o.size).2 (by have H:=a.small;have J:=a.size;show o.size ≠ je;omega) l.toNat (w':=w.alloc (.cells (madeCells G.cells (l.toNat*n.size)) e)) (World.grownBy_alloc w _ none) (heap_alloc_new w _) (fun _=>rfl) (Nat.zero_le _)
    (rest:= []) (by rw [List.append_nil]) (fun hp=>gI _ C (qm hp)) C (AA C D) (fun _=> ⟨by rw [size_madeCells];simp [jw,a.size],by simp only [maxLen];omega⟩)
   refine ⟨_,_,_,q,O.1,O.2, ?_⟩
   exact Pv (Nat.le_refl _) p (by have H:=a.small;have J:=a.size;omega)
  ·cases k
 ·cases k
theorem Ej {t e:TypeId} {i:TypeInfo} {z:Value} (j:P.underlying t=some (.slice e)) (h:P.info? e=some i) (c:i.zero=some z) {a:Nat} (f:a*i.size≤2^24) (h0:a*i.size ≠ 0) {parts:Array (Nat × Value)} {cells:Array Value}
  (hf:Instr.fill (fun d=>some (d*i.size,i.size)) (madeCells z.cells (a*i.size)) parts.toList=some cells):
  (Instr.buildSlice t a parts).run P w= .ok (.slice (some ⟨w.heap.size,0,none⟩) a a) (w.alloc (.cells cells e)):=by
 have b:¬ (a*i.size>2^24):=by omega
 unfold madeCells at hf
 simp only [Instr.buildSlice,Sem.run_bind,run_underlying j,Result.andThen_ok]
 simp [Go.sizeOf,typeInfo,h,zeroValue,c,h0,newRow]
 rw [if_neg (by simpa using b)]
 simp [hf]
theorem Au {t e:TypeId} {i:TypeInfo} (d:P.underlying t=some (.slice e)) (c:P.info? e=some i) {a:Nat} (h0:a*i.size=0) {parts:Array (Nat × Value)} {cells:Array Value}
  (hf:Instr.fill (fun b=>some (b*i.size,i.size)) #[] parts.toList=some cells):
  (Instr.buildSlice t a parts).run P w= .ok (.slice (some ⟨w.heap.size,0,none⟩) a a) (w.alloc (.cells cells e)):=by
 simp [Instr.buildSlice,run_underlying d,Go.sizeOf,typeInfo,c,h0,newRow,Array.range_zero',hf]
theorem xA (s:jd P ap) (h:bY ap g m S w) {nid:Nat} (L:g nid=none) {t:Nat} {G:TI} {i:TypeInfo} {d:TypeDesc} {z:Value} (A:EP P t G i d z) {b:Nat} {ps:List (Nat × AV)} {qs:Array (Nat × Value)} (K:xh g m S ps qs.toList)
  {v:AV} {ups:List (Nat × bi)} {bs:List Bool} (c:sZ ap nid G b ps=some (v,ups,bs)):
  ∃ cv m' w',(Instr.buildSlice t b qs).run P w= .ok cv w'∧bY ap (dZ g ups) m' S w'∧Fr g m S w (dZ g ups) m' S w'∧VR (dZ g ups) m' S v cv:=by
 unfold sZ at c
 split at c
 ·rename_i e r
  have l:=bind_some c;clear c;obtain ⟨n,a,c⟩:=l
  obtain ⟨B,Q,N,a⟩:=fA s a
  split at c
  ·rename_i j
   simp only [Bool.and_eq_true] at j
   have f:=gm j.1.1
   have y:=gQ j.1.2
   have l:=bind_some c;clear c;obtain ⟨E,o,c⟩:=l
   cases c
   rw [A.d_eq] at r
   have r:=iE r
   subst r
   have D:bF g m S (iU b n.zero) (madeCells N.cells (b*B.size)).toList:=vX a _
   obtain ⟨k,q,F,M⟩:=oM _ qs.toList _ E _ (rq (size:=n.size) K) D o
   rw [a.size] at q
   have p:(Instr.buildSlice t b qs).run P w= .ok (.slice (some ⟨w.heap.size,0,none⟩) b b) (w.alloc (.cells k e)):=by
    by_cases h0:b*B.size=0
    ·exact Au A.und a.info h0 (by rw [h0] at q;simpa [madeCells,Array.range_zero'] using q)
    ·exact Ej A.und a.info a.zero (by rw [← a.size];exact y) h0 q
   have u:∀ x ∈ E,nI x=true:=CJ o (GU a.zleaf)
   have C:k.size=b*B.size:=by rw [M,size_madeCells]
   have H:=h.fresh (nid:=nid) L (jw nid E n.size).2 (by have I:=a.small;have J:=a.size;show n.size ≠ je;omega) b (w':=w.alloc (.cells k e)) (World.grownBy_alloc w _ none) (heap_alloc_new w _) (fun _=>rfl) (Nat.zero_le _)
    (rest:= []) (by rw [List.append_nil]) (fun hp=>gI _ F (qm hp)) F (AA F u) (fun _=> ⟨by rw [C];simp [jw,a.size],by
     have I:b≤b*n.size:=Nat.le_mul_of_pos_right _ f
     have O:(2:Nat)^24=16777216:=by decide
     simp only [maxLen];omega⟩)
   refine ⟨_,_,_,p,H.1,H.2, ?_⟩
   exact Pv (Nat.le_refl _) f (by have I:=a.small;have J:=a.size;omega)
  ·cases c
 ·cases c
theorem VT {d:TypeDesc} {k e:Nat} (h:jI P (some d)= .map k e):d= .map k e:=by cases d<;>simp [jI] at h;obtain ⟨rfl,rfl⟩:=h;rfl
theorem oQ {d:TypeDesc} {x:AV} {v:Value} (h:oP (jI P (some d)) x=true) (a:VR g m S x v):MapKept.IsKey d v:=by
 cases d<;>simp only [jI] at h<;>cases x<;>simp [oP] at h<;>simp only [VR,PR] at a<;>subst a<;>simp only [MapKept.IsKey]
 exact (jb h).symm
theorem TT {d:TypeDesc} {x y:AV} {u v:Value} (c:oP (jI P (some d)) x=true) (e:oP (jI P (some d)) y=true) (h:VR g m S x u) (f:VR g m S y v):Instr.sameNow d u v=some (Xr x y):=by
 cases d<;>simp only [jI] at c e<;>cases x<;>simp [oP] at c<;>cases y<;>simp [oP] at e<;>simp only [VR,PR] at h f<;>subst h<;>subst f<;>simp only [Instr.sameNow,Xr]
 ·rw [if_pos ((jb c).symm.trans (jb e))]
 ·rename_i a b
  congr 1
  rw [Bool.eq_iff_iff,MapKept.bytes_beq]
  simp
theorem Dy (h:bY ap g m S w) {rd:dR} (k:∀ b B,rd b=some B→g b=some B) {x:AV} {s:Value} (o:VR g m S x s) {q:List AV × List AV} (a:UG rd x=some q):
  ∃ d:Array MapEntry,((s= .map none∧d=#[])∨∃ b c,s= .map (some b)∧w.heap[b]? =some (.map d c))∧bF g m S q.1 (d.toList.map (·.key))∧bF g m S q.2 (d.toList.map (·.val)):=by
 unfold UG at a
 split at a
 ·rename_i ks vs
  cases a
  simp only [VR,PR] at o
  rcases o with ⟨rfl,rfl,rfl⟩|⟨b,v,u,rfl,h0,D,r,t⟩
  ·exact ⟨#[],.inl ⟨rfl,rfl⟩,by simp [bF],by simp [bF]⟩
  ·obtain ⟨d,c,p,i⟩:=uJ (h.sealed _ _ _ h0) rfl
   obtain ⟨C,clk',l,f⟩:=uJ (h.sealed _ _ _ D) rfl
   rw [p] at l;cases l
   have i:Value.agg (d.map (·.key))= .agg v.toArray:=Option.some.inj i
   have f:Value.agg (d.map (·.val))= .agg u.toArray:=Option.some.inj f
   have i:=Value.agg.inj i
   have f:=Value.agg.inj f
   refine ⟨d,.inr ⟨b,c,rfl,p⟩, ?_, ?_⟩
   ·rw [← Array.toList_map,i];exact bV _ r
   ·rw [← Array.toList_map,f];exact bV _ t
 ·rename_i b ver
  have A:=bind_some a;clear a;obtain ⟨B,y,a⟩:=A
  split at a
  ·rename_i j
   simp only [Bool.and_eq_true] at j
   split at a
   ·rename_i ks vs hcells
    cases a
    simp only [VR] at o
    obtain ⟨B',n,_,_,q⟩:=o
    rw [k b B y] at n;cases n
    have q:=q (aO j.1)
    obtain ⟨⟨cur,e,z,rest,k1,k2,_,k4,_,_⟩,_,_⟩:=h.blk b B (k b B y)
    obtain ⟨d,c,p,rfl⟩:=k1.map (aO j.2)
    rw [hcells] at k4
    match z,k4 with
    | [u0,u1],k4=>
     simp only [bF,VR,and_true] at k4
     obtain ⟨⟨v,rfl,r⟩,u,rfl,t⟩:=k4
     simp only [wS,List.cons_append,List.cons.injEq] at k2
     have i:=Value.agg.inj k2.1
     have f:=Value.agg.inj k2.2.1
     refine ⟨d,.inr ⟨_,c,q,p⟩, ?_, ?_⟩
     ·rw [← Array.toList_map,i];exact r
     ·rw [← Array.toList_map,f];exact t
    | [],k4=>simp [bF] at k4
    | [_],k4=>simp [bF] at k4
    |_::_::_::_,k4=>simp [bF] at k4
   ·cases a
  ·cases a
 ·cases a
theorem tV {d:TypeDesc} {k v:AV} {ck cv:Value} (p:VR g m S k ck) (b:oP (jI P (some d)) k=true) (t:VR g m S v cv):∀ (l:List MapEntry) (ks vs:List AV) (i:Nat),bF g m S ks (l.map (·.key))→bF g m S vs (l.map (·.val))→ks.all (oP (jI P (some d)))=true→
  (Instr.findNow d ck l i=some none∧xQ ks vs k=none∧ks.any (Xr k)=false∧vH ks vs k v=vs++ [v])∨
  ∃ j e x,Instr.findNow d ck l i=some (some (i+j,e.val))∧l[j]? =some e∧e.key=ck∧xQ ks vs k=some x∧VR g m S x e.val∧ks.any (Xr k)=true∧bF g m S (vH ks vs k v) ((l.set j {e with key:=ck,val:=cv}).map (·.val))
 | [],ks,vs,i,h1,h2,_=>by
  cases ks with
  |cons _ _=>simp [bF] at h1
  |nil=>
   cases vs with
   |cons _ _=>simp [bF] at h2
   |nil=>exact .inl ⟨rfl,rfl,rfl,rfl⟩
 | e ::l,ks,vs,i,h1,h2,ha=>by
  cases ks with
  |nil=>simp [bF] at h1
  | cons k0 ks=>
   cases vs with
   |nil=>simp [bF] at h2
   | cons v0 vs=>
    simp only [List.map_cons,bF] at h1 h2
    simp only [List.all_cons,Bool.and_eq_true] at ha
    have hs:=TT b ha.1 p h1.1
    cases a:Xr k k0 with
    | true=>
     rw [a] at hs
     have c:e.key=ck:=by
      obtain ⟨r,s,f⟩:=MapKept.sameNow_of_keys (oQ b p) (oQ ha.1 h1.1)
      rw [hs] at s;cases s
      exact (f.1 rfl).symm
     refine .inr ⟨0,e,v0, ?_,rfl,c, ?_,h2.1, ?_, ?_⟩
     ·simp [Instr.findNow,hs]
     ·simp [xQ,a]
     ·simp [a]
     ·simp only [vH,a,List.set_cons_zero,List.map_cons,bF];exact ⟨t,h2.2⟩
    | false=>
     rw [a] at hs
     rcases tV p b t l ks vs (i+1) h1.2 h2.2 ha.2 with ⟨o,h,n,q⟩|⟨j,A,x,o,h,n,q,y,z,u⟩
     ·refine .inl ⟨?_, ?_, ?_, ?_⟩
      ·simp [Instr.findNow,hs,o]
      ·simp [xQ,a,h]
      ·simp only [List.any_cons,a,n];rfl
      ·simp [vH,a,q]
     ·refine .inr ⟨j+1,A,x, ?_,by simpa using h,n, ?_,y, ?_, ?_⟩
      ·simp [Instr.findNow,hs,o];omega
      ·simp [xQ,a,q]
      ·simp only [List.any_cons,a,z];rfl
      ·simp only [vH,a,List.set_cons_succ,List.map_cons,bF];exact ⟨h2.1,u⟩
theorem zQ {ok:Bool} {o:Option AV} {z:AV} {u c:Value} {b:Bool} (h:(o=none∧u=c∧b=false)∨∃ x,o=some x∧VR g m S x u∧b=true) (e:VR g m S z c):VR g m S (Kv ok o z) (if ok then .tuple #[u,.bool b] else u):=by
 have a:VR g m S (o.getD z) u∧o.isSome=b:=by
  rcases h with ⟨rfl,rfl,rfl⟩|⟨x,rfl,d,rfl⟩
  ·exact ⟨e,rfl⟩
  ·exact ⟨d,rfl⟩
 cases ok with
 |true=>
  simp only [Kv,if_true,VR]
  refine ⟨[u,.bool b],rfl, ?_⟩
  simp only [bF,VR,PR,and_true]
  exact ⟨a.1,by rw [a.2]⟩
 |false=>simpa [Kv] using a.1
theorem Ff (r:jd P ap) (h:bY ap g m S w) {rd:dR} (D:∀ b B,rd b=some B→g b=some B) {t:Nat} {K:TI} {i:TypeInfo} {d:TypeDesc} {z:Value} (A:EP P t K i d z) {x k v:AV} {L ck:Value} (N:VR g m S x L) (H:VR g m S k ck) {ok:Bool}
  {ups:List (Nat × bi)} {bs:List Bool} (c:IB ap K rd x k ok=some (v,ups,bs)) (o:∀ b ∈ bs,b=true):
  ups= []∧∃ cv,(Instr.lookup t L ck ok).run P w= .ok cv w∧VR g m S v cv:=by
 unfold IB at c
 split at c
 ·rename_i kt Z C
  have l:=bind_some c;clear c;obtain ⟨tk,a,c⟩:=l
  have l:=bind_some c;clear c;obtain ⟨X,f,c⟩:=l
  have l:=bind_some c;clear c;obtain ⟨q,l,c⟩:=l
  have F:=bind_some c;clear c;obtain ⟨O,I,c⟩:=F
  obtain ⟨rfl,rfl,rfl⟩:=aT c
  obtain ⟨ik,dk,zk,a⟩:=fA r a
  obtain ⟨ie,Y,W,f⟩:=fA r f
  rw [A.d_eq] at C
  have C:=VT C
  subst C
  obtain ⟨E,o⟩:=dw o
  obtain ⟨M,_⟩:=dw o
  rw [a.d_eq] at E M
  obtain ⟨R,u,v1,U⟩:=Dy h D N l
  have n:=oQ E H
  have s:VR g m S O W:=wU f I
  refine ⟨rfl, ?_⟩
  rcases tV H E H R.toList q.1 q.2 0 v1 U M with ⟨p,Q,_,_⟩|⟨j,e,y,p,_,_,V,T,_,_⟩
  ·refine ⟨_, ?_,zQ (.inl ⟨Q,rfl,rfl⟩) s⟩
   rcases u with ⟨rfl,rfl⟩|⟨b,G,rfl,J⟩
   ·simp [Instr.lookup,run_underlying A.und,MapKept.run_checkKey a.und n,MapKept.run_findKey a.und p,zeroValue,typeInfo,f.info,f.zero,Result.andThen]
   ·simp [Instr.lookup,run_underlying A.und,MapKept.run_getObj_map J,MapKept.run_checkKey a.und n,MapKept.run_findKey a.und p,zeroValue,typeInfo,f.info,f.zero,Result.andThen]
  ·refine ⟨_, ?_,zQ (.inr ⟨y,V,T,rfl⟩) s⟩
   rcases u with ⟨rfl,rfl⟩|⟨b,G,rfl,J⟩
   ·simp [Instr.findNow] at p
   ·simp [Instr.lookup,run_underlying A.und,MapKept.run_getObj_map J,MapKept.run_checkKey a.und n,MapKept.run_findKey a.und p,Result.andThen]
 ·cases c
mutual
theorem OA {S:aW}:∀ (x:AV) {v:Value},PR S x v→fD x= []
 | .int _ _,_,_=>rfl
 | .bool _,_,_=>rfl
 | .str _,_,_=>rfl
 | .nilS,_,_=>rfl
 | .nilP,_,_=>rfl
 | .nilF,_,_=>rfl
 | .nilI,_,_=>rfl
 | .sl _ _ _,_,_=>rfl
 | .pp _ _,_,_=>rfl
 | .mp _ _,_,_=>rfl
 | .dead,_,_=>rfl
 | .own _ _ _,_,p=>by simp only [PR] at p
 | .ref _ _ _ _,_,p=>by simp only [PR] at p
 | .ptr _ _ _,_,p=>by simp only [PR] at p
 | .mr _ _,_,p=>by simp only [PR] at p
 | .agg l,_,p=>by
  simp only [PR] at p;simp only [fD]
  obtain ⟨_,_,q⟩:=p
  exact pY l q
 | .tup l,_,p=>by
  simp only [PR] at p;simp only [fD]
  obtain ⟨_,_,q⟩:=p
  exact pY l q
 | .fn f a c,_,p=>by
  simp only [PR] at p;simp only [fD]
  obtain ⟨_,_,_,q,r⟩:=p
  rw [pY a q,pY c r];rfl
 | .ifc t x,_,p=>by
  simp only [PR] at p;simp only [fD]
  obtain ⟨_,_,q⟩:=p
  exact OA x q
theorem pY {S:aW}:∀ (l:List AV) {vs:List Value},dK S l vs→dn l= []
 | [],_,_=>rfl
 |x::r,v::vs,p=>by simp only [dK] at p;simp only [dn,OA x p.1,pY r p.2,List.append_nil]
 |_::_,[],p=>by simp [dK] at p
end
theorem Gw (h:bY ap g m S w) {b:Nat} {B:bi} {a:Array MapEntry} {clk':Nat} {k:Nat} {w':World} (p:w'.heap[k]? =some (.map a clk')) (e:B.esz=je) {ks vs:List AV} (j:B.cells= [.agg ks,.agg vs]) (o:bF g m S ks (a.toList.map (·.key))) (n:bF g m S vs (a.toList.map (·.val))) (hp:B.pr=true→dn vs= []∧dn ks= []) (d:B.fro=false→B.fz=0) (f:B.fz≤2) (c:Nat):PX g m S w' B k c:=by
 refine ⟨⟨wS a,0,[.agg (a.map (·.key)),.agg (a.map (·.val))],[],.inr ⟨e,a,clk',p,rfl⟩,rfl, ?_, ?_,fun l=>absurd e l,fun _ l=>absurd e l⟩,d,by rw [j];exact f⟩
 ·intro i
  obtain ⟨q,r⟩:=hp i
  rw [j]
  simp only [dK,PR,and_true]
  exact ⟨⟨(a.map (·.key)).toList,by rw [Array.toArray_toList],by rw [Array.toList_map];exact gI _ o r⟩,(a.map (·.val)).toList,by rw [Array.toArray_toList],by rw [Array.toList_map];exact gI _ n q⟩
 ·rw [j]
  simp only [bF,VR,and_true]
  exact ⟨⟨(a.map (·.key)).toList,by rw [Array.toArray_toList],by rw [Array.toList_map];exact o⟩,(a.map (·.val)).toList,by rw [Array.toArray_toList],by rw [Array.toList_map];exact n⟩
theorem Fg (h:bY ap g m S w) {nid:Nat} (d:g nid=none) (t:Nat):
  ∃ cv m' w',(Instr.makeMap t none).run P w= .ok cv w'∧bY ap (dZ g [(nid,⟨[.agg [],.agg []],0,false,0,je,true⟩)]) m' S w'∧Fr g m S w (dZ g [(nid,⟨[.agg [],.agg []],0,false,0,je,true⟩)]) m' S w'∧VR (dZ g [(nid,⟨[.agg [],.agg []],0,false,0,je,true⟩)]) m' S (.mr nid 0) cv:=by
 have a:=h.put nid ⟨[.agg [],.agg []],0,false,0,je,true⟩ w.heap.size 0 (w':=w.alloc (.map #[] 0)) (.inl (Nat.le_refl _)) (World.grownBy_alloc w _ _)
  (Gw h (b:=nid) (heap_alloc_new w _) rfl rfl (by simp [bF]) (by simp [bF]) (fun _=> ⟨rfl,rfl⟩) (fun _=>rfl) (Nat.zero_le _) 0)
  (fun B0 h0=>by rw [d] at h0;cases h0) (fun o v c=>absurd (h.seal_lt c) (Nat.lt_irrefl _))
 refine ⟨.map (some w.heap.size),_,_, ?_,a.1,a.2, ?_⟩
 ·simp [Instr.makeMap,Result.andThen]
 ·simp only [VR]
  exact ⟨_,mQ _ _ _,Nat.le_refl _,⟨_,rfl⟩,fun _=>by simp [kL]⟩
theorem zq:∀ (l:List AV) (a:TD),l.all (oP a)=true→dn l= []
 | [],_,_=>rfl
 |x::r,a,h=>by
  simp only [List.all_cons,Bool.and_eq_true] at h
  have b:fD x= []:=by cases a<;>cases x<;>first|rfl|(simp [oP] at h)
  simp only [dn,b,zq r a h.2,List.append_nil]
theorem Ec:∀ (ks vs:List AV) (k v:AV),dn vs= []→fD v= []→dn (vH ks vs k v)= []
 | [],_,k,v,_,h2=>by simp [vH,dn,h2]
 |_::_,[],k,v,_,h2=>by simp [vH,dn,h2]
 |k0::ks,v0::vs,k,v,h1,h2=>by
  simp only [dn,List.append_eq_nil_iff] at h1
  simp only [vH]
  split
  ·simp [dn,h1.2,h2]
  ·simp [dn,h1.1,Ec ks vs k v h1.2 h2]
theorem wz (hap:jd P ap) (h:bY ap g m S w) {rd:dR} (K:∀ b B,rd b=some B→g b=some B) {t:Nat} {ti:TI} {i:TypeInfo} {d:TypeDesc} {z:Value} (ht:EP P t ti i d z) {x k v r:AV} {cx ck cv:Value} (U:VR g m S x cx) (hk:VR g m S k ck) (hv:VR g m S v cv)
  {ups:List (Nat × bi)} {bs:List Bool} (l:Bv ap ti rd x k v=some (r,ups,bs)) (I:∀ b ∈ bs,b=true):
  r= .dead∧∃ C w',(Instr.mapUpdate t cx ck cv).run P w= .ok () w'∧bY ap (dZ g ups) C S w'∧Fr g m S w (dZ g ups) C S w':=by
 unfold Bv at l
 split at l
 ·rename_i kt et b ver R
  have W:=bind_some l;clear l;obtain ⟨tk,a,l⟩:=W
  have W:=bind_some l;clear l;obtain ⟨B,hB,l⟩:=W
  split at l
  ·rename_i p
   simp only [Bool.and_eq_true,Bool.not_eq_true'] at p
   split at l
   ·rename_i ks vs hcells
    cases l
    obtain ⟨ik,dk,zk,a⟩:=fA hap a
    rw [ht.d_eq] at R
    have R:=VT R
    subst R
    obtain ⟨Q,I⟩:=dw I
    obtain ⟨Y,_⟩:=dw I
    rw [a.d_eq] at Q Y
    have f:=K b B hB
    have hz:=aO p.1.2
    have hmc:UG rd (.mr b ver)=some (ks,vs):=by
     unfold UG
     simp only [hB,Option.bind_some,p.1.1,p.1.2,Bool.and_self,hcells]
    obtain ⟨s,Z,v1,v2⟩:=Dy h K U hmc
    have G:=oQ Q hk
    simp only [VR] at U
    obtain ⟨B',N,_,_,q⟩:=U
    rw [f] at N;cases N
    have q:=q (aO p.1.1)
    subst q
    rcases Z with ⟨e,_⟩|⟨b0,H,e,T⟩
    ·cases e
    cases e
    have hlt:(m b).1<w.heap.size:=h.lt f
    obtain ⟨_,k7,k8⟩:=h.blk b B f
    have key:∀ (c:Array MapEntry) (clk':Nat),bF g m S (IX ks k) (c.toList.map (·.key))→bF g m S (vH ks vs k v) (c.toList.map (·.val))→
      ∃ C,bY ap (dZ g [(b,{B with cells:= [.agg (IX ks k),.agg (vH ks vs k v)],pr:=B.pr && (fD v).isEmpty})]) C S {w with heap:=w.heap.setIfInBounds (m b).1 (.map c clk')}∧Fr g m S w (dZ g [(b,{B with cells:= [.agg (IX ks k),.agg (vH ks vs k v)],pr:=B.pr && (fD v).isEmpty})]) C S {w with heap:=w.heap.setIfInBounds (m b).1 (.map c clk')}:=by
     intro c clk' w1 w2
     have E:=h.put b {B with cells:= [.agg (IX ks k),.agg (vH ks vs k v)],pr:=B.pr && (fD v).isEmpty} (m b).1 (m b).2 (w':={w with heap:=w.heap.setIfInBounds (m b).1 (.map c clk')})
      (.inr ⟨B,f,rfl⟩) ⟨rfl,rfl,rfl,by simp,fun k' _ X=>by simp [show (m b).1 ≠ k' from fun e=>X (by rw [e])]⟩
      (Gw h (b:=b) (B:={B with cells:= [.agg (IX ks k),.agg (vH ks vs k v)],pr:=B.pr && (fD v).isEmpty}) (w':={w with heap:=w.heap.setIfInBounds (m b).1 (.map c clk')}) (k:=(m b).1) (clk':=clk') (by simp [hlt]) hz rfl w1 w2 (fun A=>by
       have A:(B.pr && (fD v).isEmpty)=true:=A
       simp only [Bool.and_eq_true] at A
       obtain ⟨⟨cur,e,us,rest,k1,k2,k3,k4,_,_⟩,_,_⟩:=h.blk b B f
       have hr:dn B.cells= []:=pY _ (k3 A.1)
       rw [hcells] at hr
       simp only [dn,fD,List.append_nil,List.append_eq_nil_iff] at hr
       refine ⟨Ec _ _ _ _ hr.2 (qm A.2), ?_⟩
       have J:=zq ks _ Y
       unfold IX
       split
       ·exact J
       ·rw [rG,J];exact zq [k] (jI P (some dk)) (by simp [Q])) k7 (by rw [hcells] at k8;exact k8) (m b).2)
      (fun B0 h0=>by rw [f] at h0;cases h0;exact ⟨rfl,.inl ⟨rfl,rfl⟩⟩)
      (fun o u hu=>by
       have:=(h.own b B f o u hu).1
       rw [p.2] at this;cases this)
     exact ⟨_,E.1,E.2⟩
    refine ⟨rfl, ?_⟩
    rcases tV hk Q hv s.toList ks vs 0 v1 v2 Y with ⟨O,r2,r3,r4⟩|⟨j,e,y,O,rj,rk,r4,r5,r6,r7⟩
    ·obtain ⟨C,s1,V⟩:=key (s.push {key:=ck,val:=cv,born:=H}) (H+1)
      (by unfold IX;rw [r3,Array.toList_push,List.map_append];exact iH v1 (by simp only [List.map_cons,List.map_nil,bF,and_true];exact hk))
      (by rw [r4,Array.toList_push,List.map_append];exact iH v2 (by simp only [List.map_cons,List.map_nil,bF,and_true];exact hv))
     refine ⟨C,_, ?_,s1,V⟩
     simp [Instr.mapUpdate,run_underlying ht.und,MapKept.run_getObj_map T,MapKept.run_checkKey a.und G,MapKept.run_findKey a.und O,MapKept.run_setObj_map _ T,Result.andThen]
    ·have D:s[j]? =some e:=by simpa using rj
     have L:(s.modify j fun e=> {e with key:=ck,val:=cv}).toList=s.toList.set j {e with key:=ck,val:=cv}:=by
      apply List.ext_getElem?
      intro n
      simp only [Array.getElem?_toList,Array.getElem?_modify,List.getElem?_set]
      by_cases hjn:j=n
      ·subst hjn
       have F:j<s.toList.length:=(List.getElem?_eq_some_iff.1 rj).1
       rw [if_pos rfl,if_pos rfl,if_pos F,D];rfl
      ·rw [if_neg hjn,if_neg hjn]
     obtain ⟨C,s1,V⟩:=key (s.modify j fun e=> {e with key:=ck,val:=cv}) H
      (by
       unfold IX;rw [r6,L]
       have:(s.toList.set j {e with key:=ck,val:=cv}).map (·.key)=s.toList.map (·.key):=by
        apply List.ext_getElem?
        intro n
        simp only [List.getElem?_map,List.getElem?_set]
        by_cases hjn:j=n
        ·subst hjn
         have F:j<s.toList.length:=(List.getElem?_eq_some_iff.1 rj).1
         have M:j<s.size:=by simpa using F
         have hge:s[j]=e:=by rw [Array.getElem?_eq_getElem M] at D;exact Option.some.inj D
         simp [M,hge,rk]
        ·simp [hjn]
       rw [this];exact v1)
      (by rw [L];exact r7)
     refine ⟨C,_, ?_,s1,V⟩
     rw [Nat.zero_add] at O
     simp [Instr.mapUpdate,run_underlying ht.und,MapKept.run_getObj_map T,MapKept.run_checkKey a.und G,MapKept.run_findKey a.und O,D,rk,MapKept.run_keyThatStays G,MapKept.run_setObj_map _ T,Result.andThen]
   ·cases l
  ·cases l
 ·cases l
end
end AM
namespace AM
open Go
section
variable {P:Program} {ap:AP} {g:dR} {m:bf} {S:aW} {w:World}
theorem uG {ρ:Operand→AV} {cρ:Operand→Value}:∀ (l:List Operand),(∀ o ∈ l,VR g m S (ρ o) (cρ o))→bF g m S (l.map ρ) (l.map cρ)
 | [],_=>by simp [bF]
 |o::r,h=>by simp only [List.map_cons,bF];exact ⟨h o (by simp),uG r fun o a=>h o (by simp [a])⟩
theorem BG {ρ:Operand→AV} {cρ:Operand→Value}:∀ (l:List (Nat × Operand)),(∀ o ∈ l.map (·.2),VR g m S (ρ o) (cρ o))→xh g m S (l.map fun (i,x)=>(i,ρ x)) (l.map fun (i,x)=>(i,cρ x))
 | [],_=>by simp [xh]
 |(i,o)::r,h=>by simp only [List.map_cons,xh];exact ⟨trivial,h o (by simp),BG r fun o a=>h o (by simp [a])⟩
def ji (P:Program) (ap:AP) (g:dR) (m:bf) (S:aW) (w:World) (s:Sem Next) (v:AV) (ups:List (Nat × bi)):Prop:=
 ∃ nx m' w',s.run P w= .ok nx w'∧bY ap (dZ g ups) m' S w'∧Fr g m S w (dZ g ups) m' S w'∧((∃ cv,nx= .value cv∧VR (dZ g ups) m' S v cv)∨(nx= .skip∧v= .dead))
theorem ji.pur (h:bY ap g m S w) {s:Sem Value} {v:AV} {ups:List (Nat × bi)} (hs:ups= []∧∃ cv,s.run P w= .ok cv w∧VR g m S v cv):ji P ap g m S w (do pure (.value (← s))) v ups:=by
 obtain ⟨rfl,cv,b,a⟩:=hs
 exact ⟨.value cv,m,w,by simp [b],by rw [f_];exact h,by rw [f_];exact Fr.refl _ _ _ _,.inl ⟨cv,rfl,by rw [f_];exact a⟩⟩
theorem ji.full {s:Sem Value} {v:AV} {ups:List (Nat × bi)} (hs:∃ cv a w',s.run P w= .ok cv w'∧bY ap (dZ g ups) a S w'∧Fr g m S w (dZ g ups) a S w'∧VR (dZ g ups) a S v cv):ji P ap g m S w (do pure (.value (← s))) v ups:=by
 obtain ⟨cv,a,w',d,b,c,e⟩:=hs
 exact ⟨.value cv,a,w',by simp [d],b,c,.inl ⟨cv,rfl,e⟩⟩
theorem ji.val (h:bY ap g m S w) {s:Sem Next} {v:AV} {cv:Value} (hs:s.run P w= .ok (.value cv) w) (a:VR g m S v cv):ji P ap g m S w s v []:=
 ⟨.value cv,m,w,hs,by rw [f_];exact h,by rw [f_];exact Fr.refl _ _ _ _,.inl ⟨cv,rfl,by rw [f_];exact a⟩⟩
theorem BD {ρ:Operand→AV} {cρ:Operand→Value} (x:Option Operand) (h:∀ o ∈ x.toArray,VR g m S (ρ o) (cρ o)):BC g m S (x.map ρ) (x.map cρ):=by
 cases x with
 |none=>simp [BC]
 |some o=>simp only [Option.map_some,BC];exact h o (by simp)
theorem JS (a:jd P ap) {t:Nat} {b:TI} (h:ap.tyAt t=some b) (e:b.d ≠ .iface):P.concrete t=true:=by
 obtain ⟨i,d,z,c⟩:=fA a h
 have:=c.d_eq
 simp only [Program.concrete,c.und]
 cases d<;>simp_all [jI]
set_option maxHeartbeats 1000000 in
theorem QM (j:jd P ap) (D:bY ap g m S w) {nid:Nat} (Y:g nid=none) {ρ:Operand→AV} {cρ:Operand→Value} {rd:dR} (H:∀ b B,rd b=some B→g b=some B) (o:Oper) (hρ:∀ x ∈ o.op.operands,VR g m S (ρ x) (cρ x))
  {dec:Operand→Option Bool} (hdec:∀ x ∈ o.op.operands,∀ b,dec x=some b→cρ x= .bool b) {em:Bool} (hem:∀ n,xN ρ o.op=some n→Nat.beq n 0=em)
  {v:AV} {ups:List (Nat × bi)} {bs:List Bool} (h:opA ap nid ρ rd dec em o.op=some (v,ups,bs)) (hbs:∀ b ∈ bs,b=true):ji P ap g m S w (execOp cρ o) v ups:=by
 unfold opA at h
 unfold execOp
 split at h<;>rename_i heq<;>simp only [heq,Op.operands] at hρ hdec hem ⊢
 ·obtain ⟨rfl,rfl,rfl⟩:=aT h
  exact ji.val D (by simp) (hρ _ (by simp))
 ·obtain ⟨rfl,rfl,rfl⟩:=aT h
  exact ji.val D (by simp) (hρ _ (by simp))
 ·
  rename_i c a b
  split at h
  ·rename_i L
   obtain ⟨rfl,rfl,rfl⟩:=aT h
   have:=hdec c (by simp) _ L
   exact ji.val D (by simp [this,asBool]) (hρ _ (by simp))
  ·rename_i L
   obtain ⟨rfl,rfl,rfl⟩:=aT h
   have:=hdec c (by simp) _ L
   exact ji.val D (by simp [this,asBool]) (hρ _ (by simp))
  ·split at h
   ·rename_i bc ba bb e1 e2 e3
    obtain ⟨rfl,rfl,rfl⟩:=aT h
    have F:=hρ c (by simp)
    have G:=hρ a (by simp)
    have N:=hρ b (by simp)
    rw [e1] at F;rw [e2] at G;rw [e3] at N
    simp only [VR,PR] at F G N
    refine ji.val D (cv:= .bool (cond bc ba bb)) ?_ (by simp only [VR,PR])
    rw [F,G,N]
    cases bc<;>simp [asBool]
   ·cases h
 ·
  rename_i e
  have A:=bind_some h;clear h;obtain ⟨te,K,h⟩:=A
  obtain ⟨ie,de,ze,C⟩:=fA j K
  split at h
  ·rename_i U
   simp only [Bool.and_eq_true] at U
   cases h
   obtain ⟨O,w',F,G,N,h4⟩:=FQ (P:=P) D Y (cells:=te.zero) (cv:=ze) (qc C) C.zleaf (fun u hu=>AA (g:=g) (m:=m) (S:=S) (qc C) C.zleaf u (by simpa using hu)) e
   refine ji.full ⟨.pointer (some ⟨w.heap.size,0,none⟩),O,w', ?_,G,N,Pm h4⟩
   simp [Instr.alloc,zeroValue,typeInfo,C.info,C.zero,F]
  ·cases h
 ·
  rename_i e x
  have A:=bind_some h;clear h;obtain ⟨te,K,h⟩:=A
  obtain ⟨ie,de,ze,C⟩:=fA j K
  simp only at h
  split at h
  ·rename_i U
   simp only [Bool.and_eq_true] at U
   cases h
   have E:=hρ x (by simp)
   have hl:∀ y ∈ (ρ x).cells,nI y=true:=fun y hy=>List.all_eq_true.1 U.2 y hy
   obtain ⟨hv1,hv2⟩:=BK E hl
   obtain ⟨O,w',F,G,N,h4⟩:=FQ (P:=P) D Y (cells:=(ρ x).cells) (cv:=cρ x) hv1 hl hv2 e
   refine ji.full ⟨.pointer (some ⟨w.heap.size,0,none⟩),O,w', ?_,G,N,Pm h4⟩
   simp [Instr.box,F]
  ·cases h
 ·
  rename_i t parts
  have A:=bind_some h;clear h;obtain ⟨M,q,h⟩:=A
  obtain ⟨i,d,z,C⟩:=fA j q
  refine ji.pur D ?_
  refine H6 j C (qs:=parts.map fun (i,x)=>(i,cρ x)) ?_ h
  rw [Array.toList_map]
  exact BG parts.toList fun x E=>hρ x (by simpa using E)
 ·
  rename_i t len parts
  have A:=bind_some h;clear h;obtain ⟨M,q,h⟩:=A
  obtain ⟨i,d,z,C⟩:=fA j q
  refine ji.full ?_
  refine xA j D Y C (qs:=parts.map fun (i,x)=>(i,cρ x)) ?_ h
  rw [Array.toList_map]
  exact BG parts.toList fun x E=>hρ x (by simpa using E)
 ·
  rename_i t a
  have A:=bind_some h;clear h;obtain ⟨M,q,h⟩:=A
  obtain ⟨i,d,z,C⟩:=fA j q
  exact ji.pur D (zS D H C (hρ a (by simp)) h hbs)
 ·
  rename_i t a x
  have A:=bind_some h;clear h;obtain ⟨M,q,h⟩:=A
  obtain ⟨i,d,z,C⟩:=fA j q
  have ha:=hρ a (by simp)
  have E:=hρ x (by simp)
  generalize cρ a=ca at ha ⊢
  generalize cρ x=cx at E ⊢
  obtain ⟨rfl,O,w',F,G,N⟩:=Jb D H C ha E h hbs
  exact ⟨.skip,O,w',by simp [F],G,N,.inr ⟨rfl,rfl⟩⟩
 ·
  rename_i t r
  split at h
  ·cases h
   obtain ⟨cv,O,w',F,G,N,h4⟩:=Fg (P:=P) D Y t
   exact ⟨.value cv,O,w',by simp [F],G,N,.inl ⟨cv,rfl,h4⟩⟩
  ·cases h
 ·
  rename_i t x k ok
  have A:=bind_some h;clear h;obtain ⟨M,q,h⟩:=A
  obtain ⟨i,d,z,C⟩:=fA j q
  exact ji.pur D (Ff j D H C (hρ x (by simp)) (hρ k (by simp)) h hbs)
 ·
  rename_i t x k v
  have A:=bind_some h;clear h;obtain ⟨M,q,h⟩:=A
  obtain ⟨i,d,z,C⟩:=fA j q
  obtain ⟨rfl,O,w',F,G,N⟩:=wz j D H C (hρ x (by simp)) (hρ k (by simp)) (hρ v (by simp)) h hbs
  exact ⟨.skip,O,w',by simp [F],G,N,.inr ⟨rfl,rfl⟩⟩
 ·
  rename_i t x k v
  have A:=bind_some h;clear h;obtain ⟨M,q,h⟩:=A
  obtain ⟨i,d,z,C⟩:=fA j q
  obtain ⟨rfl,O,w',F,G,N⟩:=wz j D H C (hρ x (by simp)) (hρ k (by simp)) (hρ v (by simp)) h hbs
  exact ⟨.skip,O,w',by simp [F],G,N,.inr ⟨rfl,rfl⟩⟩
 ·
  rename_i x
  have E:=hρ x (by simp)
  split at h
  ·rename_i b ver off e
   rw [e] at E
   obtain ⟨rfl,rfl,rfl⟩:=aT h
   have I:=E
   simp only [VR] at I
   obtain ⟨_,_,_,⟨k,o,X⟩,_⟩:=I
   exact ji.val D (cv:=cρ x) (by rw [X];simp) E
  ·rename_i xs off e
   rw [e] at E
   obtain ⟨rfl,rfl,rfl⟩:=aT h
   have I:=E
   simp only [VR,PR] at I
   obtain ⟨_,_,_,X,_⟩:=I
   exact ji.val D (cv:=cρ x) (by rw [X];simp) E
  ·rename_i f a c e
   rw [e] at E
   obtain ⟨rfl,rfl,rfl⟩:=aT h
   have I:=E
   simp only [VR] at I
   obtain ⟨_,_,X,_⟩:=I
   exact ji.val D (cv:=cρ x) (by rw [X];simp) E
  ·cases h
 ·
  rename_i op t x y _
  have A:=bind_some h;clear h;obtain ⟨M,q,h⟩:=A
  exact ji.pur D (MH j q (hρ x (by simp)) (hρ y (by simp)) h hbs x y)
 ·
  exact ji.pur D (RD (hρ _ (by simp)) h)
 ·
  rename_i s d x
  have A:=bind_some h;clear h;obtain ⟨ts,hts,h⟩:=A
  have A:=bind_some h;clear h;obtain ⟨td,htd,h⟩:=A
  exact ji.pur D (Ci j D H hts htd (hρ x (by simp)) h hbs)
 ·
  rename_i t x
  have A:=bind_some h;clear h;obtain ⟨M,q,h⟩:=A
  split at h
  ·cases h
  ·rename_i L
   obtain ⟨rfl,rfl,rfl⟩:=aT h
   refine ji.pur D ⟨rfl,.iface t (cρ x),run_makeInterface w t _ (JS j q L), ?_⟩
   simp only [VR]
   exact ⟨_,rfl,hρ x (by simp)⟩
 ·
  rename_i f first cap
  obtain ⟨rfl,rfl,rfl⟩:=aT h
  refine ji.pur D ⟨rfl,.func (.func f) (first.map cρ) (cap.map cρ),by simp [Instr.makeFunc], ?_⟩
  simp only [VR]
  refine ⟨(first.map cρ).toList,(cap.map cρ).toList,by rw [Array.toArray_toList,Array.toArray_toList], ?_, ?_⟩
  ·rw [Array.toList_map];exact uG _ fun x E=>hρ x (by simp at E ⊢;exact .inl E)
  ·rw [Array.toList_map];exact uG _ fun x E=>hρ x (by simp at E ⊢;exact .inr E)
 ·
  rename_i t l c
  have A:=bind_some h;clear h;obtain ⟨M,q,h⟩:=A
  obtain ⟨i,d,z,C⟩:=fA j q
  exact ji.full (y_ j D Y C (hρ l (by simp)) (hρ c (by simp)) h hbs)
 ·
  rename_i t x lo hi mx
  have A:=bind_some h;clear h;obtain ⟨M,q,h⟩:=A
  obtain ⟨i,d,z,C⟩:=fA j q
  exact ji.pur D (I_ j H C (hρ x (by simp)) (BD lo fun o W=>hρ o (by simp at W;simp [W])) (BD hi fun o W=>hρ o (by simp at W;simp [W])) (BD mx fun o W=>hρ o (by simp at W;simp [W])) h hbs)
 ·
  rename_i s x f
  have A:=bind_some h;clear h;obtain ⟨M,q,h⟩:=A
  obtain ⟨i,d,z,C⟩:=fA j q
  split at h
  ·rename_i fs L
   have A:=bind_some h;clear h;obtain ⟨⟨o,ft,sz⟩,hf,h⟩:=A
   simp only at h
   split at h
   ·rename_i hsz
    have A:=bind_some h;clear h;obtain ⟨p,hp,h⟩:=A
    obtain ⟨rfl,rfl,rfl⟩:=aT h
    exact ji.pur D ⟨rfl,Am C L hf hsz (hρ x (by simp)) hp⟩
   ·cases h
  ·cases h
 ·
  rename_i t x f
  have A:=bind_some h;clear h;obtain ⟨M,q,h⟩:=A
  obtain ⟨i,d,z,C⟩:=fA j q
  exact ji.pur D (Il j C (hρ x (by simp)) h hbs)
 ·
  rename_i t x ix
  have A:=bind_some h;clear h;obtain ⟨M,q,h⟩:=A
  obtain ⟨i,d,z,C⟩:=fA j q
  exact ji.pur D (yS j H C (hρ x (by simp)) (hρ ix (by simp)) h hbs)
 ·
  rename_i t x ix
  have A:=bind_some h;clear h;obtain ⟨M,q,h⟩:=A
  obtain ⟨i,d,z,C⟩:=fA j q
  exact ji.pur D (Iu j C (hρ x (by simp)) (hρ ix (by simp)) h hbs)
 ·
  exact ji.pur D (E_ j (hρ _ (by simp)) h _)
 ·
  rename_i t i
  have C:=hρ t (by simp)
  split at h
  ·rename_i l e
   rw [e] at C
   have A:=bind_some h;clear h;obtain ⟨x,E,h⟩:=A
   obtain ⟨rfl,rfl,rfl⟩:=aT h
   simp only [VR] at C
   obtain ⟨vs,X,hl⟩:=C
   obtain ⟨cv,F,G⟩:=qO hl i E
   refine ji.pur D ⟨rfl,cv, ?_,G⟩
   rw [X]
   simp [Instr.extract,F]
  ·cases h
 ·
  rename_i b args T
  simp only [Call.operands] at hρ
  have hargs:∀ x ∈ args,VR g m S (ρ x) (cρ x):=fun x E=>hρ x (by simp [E])
  split at h
  ·have A:=bind_some h;clear h;obtain ⟨x,E,h⟩:=A
   have A:=bind_some h;clear h;obtain ⟨t,Z,h⟩:=A
   have A:=bind_some h;clear h;obtain ⟨M,q,h⟩:=A
   obtain ⟨i,d,z,C⟩:=fA j q
   obtain ⟨hu,cv,F,G⟩:=NC (P:=P) (w:=w) (hargs x (Array.mem_of_getElem? E)) C h T Z (args.map cρ) (by simp [E]) o.type
   subst hu
   exact ji.val D (cv:=cv) (by simp [resolve,invoke,builtin,F]) G
  ·split at h
   ·rename_i s x t t1 ha Z
    have hargs':args=#[s,x]:=by apply Array.ext';simpa using ha
    have hats':T=#[t,t1]:=by apply Array.ext';simpa using Z
    subst hargs';subst hats'
    have A:=bind_some h;clear h;obtain ⟨M,q,h⟩:=A
    have A:=bind_some h;clear h;obtain ⟨ti1,hti1,h⟩:=A
    obtain ⟨i,d,z,C⟩:=fA j q
    obtain ⟨i1,d1,z1,R⟩:=fA j hti1
    have hs:=hargs s (by simp)
    have E:=hargs x (by simp)
    have V:ρ s= .nilS→∃ n,wJ (ρ x)=some n∧Nat.beq n 0=em:=by
     intro e
     cases hc:wJ (ρ x) with
     | none=>
      exfalso
      split at h
      ·rename_i I;rw [I] at hc;simp [wJ] at hc
      ·cases h
      ·rename_i y hy1 _ hy2 hy3
       have A:=bind_some h;clear h;obtain ⟨te,K,h⟩:=A
       unfold xw at h
       have A:=bind_some h;clear h;obtain ⟨⟨xs,n,pr⟩,hsrc,h⟩:=A
       cases hxx:ρ x<;>simp [hxx,wJ] at hc<;>simp [hxx,Le] at hsrc
      ·cases h
     |some n=>exact ⟨n,rfl,hem n (by simp [xN,e,hc])⟩
    split at h
    ·rename_i e y L J hy
     have A:=bind_some h;clear h;obtain ⟨te,K,h⟩:=A
     obtain ⟨ie,de,ze,Q⟩:=fA j K
     split at h
     ·rename_i F
      rw [C.d_eq] at L
      rw [R.d_eq] at J
      have L:=iE L
      have J:=w_ J
      subst L;subst J
      obtain ⟨cv,O,w',r1,r2,r3,r4⟩:=vO (P:=P) D H Y C Q hs E (tx:=t1) (.inl ⟨⟨y,hy⟩,R.und,aO F⟩) V (by rw [hy];exact h) hbs o.type
      exact ⟨.value cv,O,w',by simp [resolve,invoke,builtin,r1],r2,r3,.inl ⟨cv,rfl,r4⟩⟩
     ·cases h
    ·cases h
    ·rename_i e e1 L J hns
     have A:=bind_some h;clear h;obtain ⟨te,K,h⟩:=A
     obtain ⟨ie,de,ze,Q⟩:=fA j K
     rw [C.d_eq] at L
     rw [R.d_eq] at J
     have L:=iE L
     have J:=iE J
     subst L;subst J
     obtain ⟨cv,O,w',r1,r2,r3,r4⟩:=vO (P:=P) D H Y C Q hs E (tx:=t1) (.inr ⟨fun s e=>hns s e,_,R.und⟩) V h hbs o.type
     exact ⟨.value cv,O,w',by simp [resolve,invoke,builtin,r1],r2,r3,.inl ⟨cv,rfl,r4⟩⟩
    ·cases h
   ·cases h
  ·have A:=bind_some h;clear h;obtain ⟨r,hr,h⟩:=A
   obtain ⟨rfl,rfl,rfl⟩:=aT h
   obtain ⟨cv,F,G⟩:=QF (P:=P) (w:=w) (uG args.toList fun x E=>hargs x (Array.mem_toList_iff.1 E)) hr T o.type
   refine ji.val D (cv:=cv) ?_ G
   have:(List.map cρ args.toList).toArray=args.map cρ:=by apply Array.ext';rw [List.toList_toArray,Array.toList_map]
   rw [this] at F
   simp [resolve,invoke,builtin,F]
  ·have A:=bind_some h;clear h;obtain ⟨r,hr,h⟩:=A
   obtain ⟨rfl,rfl,rfl⟩:=aT h
   obtain ⟨cv,F,G⟩:=QD (P:=P) (w:=w) (uG args.toList fun x E=>hargs x (Array.mem_toList_iff.1 E)) hr T o.type
   refine ji.val D (cv:=cv) ?_ G
   have:(List.map cρ args.toList).toArray=args.map cρ:=by apply Array.ext';rw [List.toList_toArray,Array.toList_map]
   rw [this] at F
   simp [resolve,invoke,builtin,F]
  ·cases h
 ·cases h
end
end AM
namespace AM
open Go
structure Cx.Ok (c:Cx):Prop where
 bs:∀ b ∈ c.bs,b=true
 ps:∀ p ∈ c.ps,p
theorem R.bind_ok {α β:Type} {r:R α} {f:α→Cx→R β} {b:β} {c:Cx} (h:r.bind f= .ok b c):∃ a c1,r= .ok a c1∧f a c1= .ok b c:=by
 cases r with
 |ok a c1=>exact ⟨a,c1,rfl,h⟩
 |need=>simp [R.bind] at h
 |bad n=>simp [R.bind] at h
theorem Ii {c f:Cx} {bs:List Bool} {u:Unit} (h:Xq c bs= .ok u f) (d:f.Ok):c.Ok∧∀ b ∈ bs,b=true:=by
 unfold Xq at h
 split at h
 ·split at h
  ·rename_i a
   cases h
   exact ⟨d,fun b e=>by simpa using List.all_eq_true.1 a b e⟩
  ·cases h
 ·cases h
  exact ⟨⟨fun b a=>d.bs b (by simp [a]),d.ps⟩,fun b a=>d.bs b (by simp [a])⟩
theorem lg {c e:Cx} {b a:Bool} (h:yM c b= .ok a e) (d:e.Ok):c.Ok∧a=b:=by
 unfold yM at h
 split at h
 ·cases h;exact ⟨d,rfl⟩
 ·split at h
  ·cases h
  ·rename_i o r _
   cases h
   have i:=d.bs (lit a b) (by simp)
   refine ⟨⟨fun x f=>d.bs x (by simp [f]),d.ps⟩, ?_⟩
   cases a<;>cases b<;>simp [lit] at i ⊢
theorem jf {l:List Nat} {a:Nat}:pG l a=true↔a ∈ l:=by
 simp only [pG,List.any_eq_true]
 constructor
 ·rintro ⟨x,hx,h⟩;exact aO h ▸ hx
 ·intro h;exact ⟨a,h,Nat.beq_refl a⟩
theorem jv {α β:Type} {f:α→Option β}:∀ {l:List α} {l':List β},kK f l=some l'→l'.length=l.length∧∀ (i:Nat) x,l[i]? =some x→∃ y,l'[i]? =some y∧f x=some y
 | [],l',h=>by simp [kK] at h;subst h;simp
 | a::r,l',h=>by
  simp only [kK] at h
  split at h
  ·rename_i y e
   split at h
   ·rename_i q d
    cases h
    obtain ⟨j,c⟩:=jv d
    refine ⟨by simp [j], ?_⟩
    intro i x b
    cases i with
    |zero=>simp at b;subst b;exact ⟨y,by simp,e⟩
    |succ i=>simpa using c i x (by simpa using b)
   ·cases h
  ·cases h
section
variable {P:Program} {ap:AP} {g:dR} {m:bf} {S:aW} {w:World}
noncomputable def dU (S:aW) (m:bf) (rd:dR) (w:World):aW:=fun k o=>
 match S k o with
 |some v=>some v
 |none=>open Classical in if ∃ b B,rd b=some B∧(m b).1=k∧o<B.cells.length then dW w k o else none
theorem mO (S:aW) (m:bf) (rd:dR) (w:World):mi S (dU S m rd w):=by
 intro k o v h;simp [dU,h]
theorem gz {rd:dR} {k o:Nat} {v:Value} (h:dU S m rd w k o=some v):S k o=some v∨(dW w k o=some v∧∃ b B,rd b=some B∧(m b).1=k∧o<B.cells.length):=by
 unfold dU at h
 split at h
 ·rename_i e c;cases h;exact .inl c
 ·rename_i d
  split at h
  ·rename_i a;exact .inr ⟨h,a⟩
  ·cases h
theorem oV (a:bY ap g m S w) {rd:dR} {k o:Nat} {v:Value} (h:dU S m rd w k o=some v):dW w k o=some v:=by
 rcases gz h with h|h
 ·exact a.sealed _ _ _ h
 ·exact h.1
theorem Q5 (e:bY ap g m S w) {rd:dR} {b:Nat} {B:bi} (c:rd b=some B) {o:Nat} (f:o<B.cells.length) {v:Value} (a:dW w (m b).1 o=some v):dU S m rd w (m b).1 o=some v:=by
 unfold dU
 split
 ·rename_i h d
  have:=e.sealed _ _ _ d
  rw [a] at this;cases this;rfl
 ·rw [if_pos ⟨b,B,c,rfl,f⟩];exact a
theorem Eu (i:bY ap g m S w) {rd:dR} (c:∀ b B,rd b=some B→g b=some B) {b:Nat} {B:bi} (h:rd b=some B):
  ∃ vs,bF g m S B.cells vs∧(B.pr=true→dK S B.cells vs)∧(∀ j u,vs[j]? =some u→dU S m rd w (m b).1 j=some u)∧vs.length=B.cells.length∧(B.esz ≠ je→∀ u ∈ vs,u.oneCell'=true):=by
 obtain ⟨⟨cur,e,vs,rest,p,l,n,d,k,q⟩,_,_⟩:=i.blk b B (c b B h)
 refine ⟨vs,d,n, ?_,(cO d).symm,k⟩
 intro j u f
 have a:=(List.getElem?_eq_some_iff.1 f).1
 refine Q5 i h (by rw [cO d];exact a) ?_
 exact p.get (by rw [l,List.getElem?_append_left a];exact f) (fun o=>k o u (List.mem_of_getElem? f))
theorem yA (i:bY ap g m S w) {rd:dR} (a:∀ b B,rd b=some B→g b=some B) {b:Nat} {B:bi} (h:rd b=some B) (n:B.esz ≠ je):
  ∃ vs,bF g m S B.cells vs∧(B.pr=true→dK S B.cells vs)∧kP (dU S m rd w) (m b).1 0 vs∧vs.length=B.cells.length:=by
 obtain ⟨vs,k,d,e,l,f⟩:=Eu i a h
 refine ⟨vs,k,d,fun j u c=> ?_,l⟩
 rw [Nat.zero_add]
 exact ⟨e j u c,f n u (List.mem_of_getElem? c)⟩
theorem Gx {S':aW} {l:List AV} {y:AV} {vs:List Value} {k:Nat} (h:Yc l=some y) (a:dK S' l vs) (hs:∀ j u,vs[j]? =some u→S' k j=some u):PR S' y (.map (some k)):=by
 unfold Yc at h
 split at h
 ·rename_i ks f
  cases h
  match vs,a with
  | [v0,v1],a=>
   simp only [dK,PR,and_true] at a
   obtain ⟨⟨c,rfl,d⟩,b,rfl,e⟩:=a
   simp only [PR]
   exact .inr ⟨k,c,b,rfl,hs 0 _ rfl,hs 1 _ rfl,d,e⟩
  | [],a=>simp [dK] at a
  | [_],a=>simp [dK] at a
  |_::_::_::_,a=>simp [dK] at a
 ·cases h
theorem sV {S':aW} {f:AV→Option AV} (a:∀ x v y,f x=some y→VR g m S x v→PR S' y v):∀ {l l':List AV} {vs:List Value},kK f l=some l'→bF g m S l vs→dK S' l' vs
 | [],l',[],h,_=>by simp [kK] at h;subst h;simp [dK]
 | x::r,l',v::vs,h,hv=>by
  simp only [kK] at h
  simp only [bF] at hv
  split at h
  ·rename_i y b
   split at h
   ·rename_i q c
    cases h
    simp only [dK]
    exact ⟨a x v y b hv.1,sV a c hv.2⟩
   ·cases h
  ·cases h
 | [],_,_::_,_,h=>by simp [bF] at h
 |_::_,_,[],_,h=>by simp [bF] at h
theorem lh (K:bY ap g m S w) {rd:dR} (t:∀ b B,rd b=some B→g b=some B):∀ (k:Nat) (x:AV) (v:Value) (y:AV),frz rd k x=some y→VR g m S x v→PR (dU S m rd w) y v:=by
 intro k
 induction k with
 |zero=>intro x v y h;simp [frz] at h
 | succ k ih=>
  intro x v y h f
  have D:=mO S m rd w
  have hlist:∀ {l l':List AV} {vs:List Value},kK (frz rd k) l=some l'→bF g m S l vs→dK (dU S m rd w) l' vs:=fun H F=>sV (fun x v y R f=>ih x v y R f) H F
  unfold frz at h
  simp only at h
  split at h
  ·
   rename_i b ver i n
   have C:=bind_some h;clear h;obtain ⟨B,E,h⟩:=C
   split at h
   ·rename_i d
    simp only [VR] at f
    obtain ⟨B',s,_,_,q⟩:=f
    rw [t b B E] at s;cases s
    obtain ⟨o,rfl,N,ho,L,G⟩:=q (aO d)
    obtain ⟨vs,H,F,I,M⟩:=yA K t E G
    have hpart:kP (dU S m rd w) (m b).1 o ((vs.drop (i*B.esz)).take (n*B.esz)):=by
     by_cases hi:i<(m b).2
     ·rw [ho hi]
      have:=(I.drop (i*B.esz)).take (n*B.esz)
      rwa [Nat.zero_add] at this
     ·have hn:n=0:=by omega
      subst hn
      intro j u Y
      simp at Y
    have p:∀ l,dK (dU S m rd w) l ((vs.drop (i*B.esz)).take (n*B.esz))→PR (dU S m rd w) (.sl l n true) (.slice (some ⟨(m b).1,o,none⟩) n ((m b).2 - i)):=by
     intro l z
     simp only [PR]
     exact ⟨_,_,rfl,by omega,.inr ⟨_,_,_,rfl,z,hpart⟩⟩
    split at h
    ·rename_i A
     cases h
     exact p _ (kN _ (pX _ (bP D _ (F A))))
    ·simp only [Option.map_eq_some_iff] at h
     obtain ⟨l,z,rfl⟩:=h
     exact p _ (hlist z (p_ _ (sW _ H)))
   ·cases h
  ·
   rename_i b ver J
   have C:=bind_some h;clear h;obtain ⟨B,E,h⟩:=C
   split at h
   ·rename_i d
    simp only [Bool.and_eq_true,Bool.not_eq_true'] at d
    have G:B.esz ≠ je:=fun e=>by rw [e] at d;exact absurd d.2 (by decide)
    simp only [VR] at f
    obtain ⟨B',s,_,_,q⟩:=f
    rw [t b B E] at s;cases s
    have q:=q (aO d.1)
    subst q
    obtain ⟨vs,H,F,I,M⟩:=yA K t E G
    have p:∀ l,dK (dU S m rd w) l vs→PR (dU S m rd w) (.pp l J) (.pointer (some ⟨(m b).1,J,none⟩)):=by
     intro l z
     simp only [PR]
     exact ⟨_,0,_,by rw [Nat.zero_add],z,I⟩
    split at h
    ·rename_i A
     cases h
     exact p _ (bP D _ (F A))
    ·simp only [Option.map_eq_some_iff] at h
     obtain ⟨l,z,rfl⟩:=h
     exact p _ (hlist z H)
   ·cases h
  ·
   rename_i b ver
   have C:=bind_some h;clear h;obtain ⟨B,E,h⟩:=C
   split at h
   ·rename_i d
    simp only [Bool.and_eq_true] at d
    simp only [VR] at f
    obtain ⟨B',s,_,_,q⟩:=f
    rw [t b B E] at s;cases s
    have q:=q (aO d.1)
    subst q
    obtain ⟨vs,H,F,I,M,_⟩:=Eu K t E
    split at h
    ·rename_i A
     exact Gx h (bP D _ (F A)) I
    ·have C:=bind_some h;clear h;obtain ⟨l,z,h⟩:=C
     exact Gx h (hlist z H) I
   ·cases h
  ·simp only [Option.map_eq_some_iff] at h
   obtain ⟨l,z,rfl⟩:=h
   simp only [VR] at f
   obtain ⟨vs,e,q⟩:=f
   simp only [PR]
   exact ⟨vs,e,hlist z q⟩
  ·simp only [Option.map_eq_some_iff] at h
   obtain ⟨l,z,rfl⟩:=h
   simp only [VR] at f
   obtain ⟨vs,e,q⟩:=f
   simp only [PR]
   exact ⟨vs,e,hlist z q⟩
  ·have C:=bind_some h;clear h;obtain ⟨a,ha,h⟩:=C
   simp only [Option.map_eq_some_iff] at h
   obtain ⟨c,Z,rfl⟩:=h
   simp only [VR] at f
   obtain ⟨va,vc,e,q,r⟩:=f
   simp only [PR]
   exact ⟨va,vc,e,hlist ha q,hlist Z r⟩
  ·simp only [Option.map_eq_some_iff] at h
   obtain ⟨u,W,rfl⟩:=h
   simp only [VR] at f
   obtain ⟨T,e,q⟩:=f
   simp only [PR]
   exact ⟨T,e,ih _ _ _ W q⟩
  ·cases h
  ·rename_i n1 U n8 V Q O n6 X
   cases h
   refine dC D _ ?_
   cases x<;>first
    |exact absurd rfl (n1 _ _ _ _)
    |exact absurd rfl (U _ _ _)
    |exact absurd rfl (n8 _ _)
    |exact absurd rfl (V _)
    |exact absurd rfl (Q _)
    |exact absurd rfl (O _ _ _)
    |exact absurd rfl (n6 _ _)
    |exact absurd rfl (X _ _ _)
    |(simp only [VR] at f;exact f)
    |(simp only [PR])
end
end AM
