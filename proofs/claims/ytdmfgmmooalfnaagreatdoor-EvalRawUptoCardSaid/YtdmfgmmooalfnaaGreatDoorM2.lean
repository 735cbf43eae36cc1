/- The abstract machine over the code of the model, and the proof that it is sound. No conditions. -/
import Derived.Test.YtdmfgmmooalfnaaGreatDoorM1
import Derived.Laws.BytesString
import Derived.Laws.MakeOwn
import Derived.Laws.OwnMore
set_option linter.unusedSimpArgs false
set_option linter.unusedVariables false
open List renaming foldl_cons→Xjn,length_take→Xqz,nil_append→Xqk,drop_drop→Xjm,map_cons→Xqh,getElem?_map→Xq3,getElem?_take→Xj0,getElem?_append_left→Xxd,mem_of_mem_drop→Xzk,mem_of_mem_take→Xxl,all_cons→Xxs,cons_append→Xq9,append_eq_nil_iff→Xj9,take_append_of_le_length→Xxx,append_assoc→Xqd,toList_toArray→Xw7,size_toArray→Xzn,length_append→θ,length_drop→Xxz,replicate_succ→Xxc,append_nil→Γ,any_cons→Xvv,map_append→Xx0,map_nil→Xx4,ext_getElem?→Xjv,getElem?_set→Xzl,map→Xw4,mem_of_getElem?→Xqj
open Bool renaming and_eq_true→π,not_eq_true'→Xqo
open Nat renaming add_zero→Xq0,beq→Xqq,le_refl→Δ,zero_le→Xxk,zero_add→Xqf,add_mul→Xxm,lt_irrefl→Xvt
open Option renaming map_some→Xje,map_eq_some_iff→Xqp
open UInt8 renaming ofNat→Xql
namespace AM
open Go
section
variable {P:Program} {ap:AP} {g:dG} {m:aZ} {S:aT} {w:World}
theorem Dt {x:AV} {v:Value} (h:VR g m S x v) (f:∀ y ∈ x.cells,oz y=true):bi g m S x.cells v.cells.toList∧∀ u ∈ v.cells,u.oneCell'=true:=by
 cases x
 case agg l=>
  simp only [VR] at h;obtain ⟨vs,rfl,h⟩:=h;refine ⟨by simpa [Value.cells,AV.cells] using h, ?_⟩;intro u d;simp only [Value.cells] at d;simp only [AV.cells] at f;have:∀ (l:List AV) (vs:List Value),bi g m S l vs→(∀ y ∈ l,oz y=true)→∀ u ∈ vs,u.oneCell'=true:=by
   intro l
   induction l with
   |nil=>intro vs e _ u d;cases vs<;>simp [bi] at e d
   | cons a r ih=>
    intro vs e f u d;cases vs with
    |nil=>simp [bi] at e
    |cons b q=>
     simp only [bi] at e;rcases List.mem_cons.1 d with rfl|d
     ·exact Nc e.1 (f a (by simp))
     ·exact ih q e.2 (fun y j=>f y (by simp [j])) u d
  exact this l vs h f u (by simpa using d)
 all_goals
  have c:=Nc h (f _ (by simp [AV.cells]));have i:v.cells=#[v]:=by cases v<;>simp [Value.cells,Value.oneCell'] at c ⊢
  rw [i];refine ⟨by simp only [AV.cells,bi];exact ⟨h,trivial⟩,by simpa using c⟩
theorem G8:∀ (vs:List Value) (i a:Nat) (cs:Array Value),a+i+vs.length≤cs.size→
  ((vs.zipIdx i).foldl (fun (cs:Array Value) (p:Value × Nat)=>cs.setIfInBounds (a+p.2) p.1) cs).toList=cs.toList.take (a+i)++vs++cs.toList.drop (a+i+vs.length)
 | [],i,a,cs,_=>by simp
 | v::vs,i,a,cs,h=>by
  simp only [List.length_cons] at h;simp only [List.zipIdx_cons,Xjn];rw [G8 vs (i+1) a (cs.setIfInBounds (a+i) v) (by simp;omega)];have b:a+i<cs.toList.length:=by simp;omega
  simp only [Array.toList_setIfInBounds];rw [show a+(i+1)=a+i+1 from by omega,List.set_eq_take_append_cons_drop,if_pos b];have d:(cs.toList.take (a+i)++v::cs.toList.drop (a+i+1)).take (a+i+1)=cs.toList.take (a+i)++ [v]:=by
   rw [List.take_append];have e:a+i+1 - (cs.toList.take (a+i)).length=1:=by simp [Xqz];omega
   rw [e];simp [List.take_take]
  have c:(cs.toList.take (a+i)++v::cs.toList.drop (a+i+1)).drop (a+i+1+vs.length)=cs.toList.drop (a+i+(v::vs).length):=by
   rw [List.drop_append];have:(cs.toList.take (a+i)).length=a+i:=by simp [Xqz];omega
   rw [this,List.drop_eq_nil_of_le (by rw [this];omega),Xqk,show a+i+1+vs.length - (a+i)=vs.length+1 from by omega,List.drop_succ_cons,Xjm];congr 1;simp;omega
  rw [d,c];simp
theorem Pj {d vs:List AV} {cs b:List Value} {a:Nat} (h:bi g m S d cs) (c:bi g m S vs b):bi g m S (iT d a vs) (cs.take a++b++cs.drop (a+b.length)):=by
 unfold iT;rw [← bV c];exact ig (ig (qC _ h) c) (tJ _ h)
theorem Yf {d vs:List AV} {cs b:List Value} {a:Nat} (h:dY S d cs) (c:dY S vs b):dY S (iT d a vs) (cs.take a++b++cs.drop (a+b.length)):=by
 unfold iT;rw [← wP c];exact lH (lH (kK _ h) c) (qy _ h)
def nX (g:dG) (m:aZ) (S:aT) (place:Nat→Option (Nat × Nat)):List (Nat × Nat × AV)→List (Nat × Value)→Prop
 | [],[]=>True
 |(off,size,v)::r,(i,c)::q=>place i=some (off,size)∧VR g m S v c∧nX g m S place r q
 |_,_=>False
theorem pM {place:Nat→Option (Nat × Nat)}:∀ (ps:List (Nat × Nat × AV)) (qs:List (Nat × Value)) (cells cells':List AV) (cs:Array Value),nX g m S place ps qs→bi g m S cells cs.toList→wF cells ps=some cells'→
  ∃ a,Instr.fill place cs qs=some a∧bi g m S cells' a.toList∧a.size=cs.size
 | [],[],cells,cells',cs,_,hv,h=>by simp [wF] at h;subst h;exact ⟨cs,rfl,hv,rfl⟩
 | (off,size,v)::r,(i,c)::q,cells,cells',cs,hp,hv,h=>by
  simp only [nX] at hp;simp only [wF] at h;split at h
  ·rename_i l;simp only [π] at l;obtain ⟨⟨k,o⟩,t⟩:=l;obtain ⟨n,B⟩:=Dt hp.2.1 (fun y s=>List.all_eq_true.1 t y s);have x:=bV n;have d:=bV hv;have k:=aJ k;have o:=gp o;have A:c.cells.size=size:=by simp only [Array.length_toList] at x;omega
   have b:off+c.cells.size≤cs.size:=by simp only [Array.length_toList] at d;omega
   have j:=G8 c.cells.toList 0 off cs (by simpa using b);have f:bi g m S (iT cells off v.cells) ((c.cells.zipIdx.foldl (fun (cs:Array Value) (p:Value × Nat)=>cs.setIfInBounds (off+p.2) p.1) cs)).toList:=by
    rw [← Array.foldl_toList,Array.toList_zipIdx,j];simp only [Xq0];exact Pj hv n
   obtain ⟨a,e,z,u⟩:=pM r q _ cells' _ hp.2.2 f h;refine ⟨a, ?_,z, ?_⟩
   ·simp only [Instr.fill,hp.1];rw [if_neg (by simp;omega)];exact e
   ·rw [u,← Array.length_toList,← Array.foldl_toList,Array.toList_zipIdx,j];simp;omega
  ·cases h
 | [],_::_,_,_,_,hp,_,_=>by simp [nX] at hp
 |_::_,[],_,_,_,hp,_,_=>by simp [nX] at hp
theorem qE {t:Nat} {a:TI} {i:TypeInfo} {d:TypeDesc} {z:Value} (b:Cm P t a i d z):bi g m S a.zero z.cells.toList:=by
 rw [b.zcells];exact bW _ (wz S _)
def xM (g:dG) (m:aZ) (S:aT):List (Nat × AV)→List (Nat × Value)→Prop
 | [],[]=>True
 |(i,v)::r,(j,c)::q=>i=j∧VR g m S v c∧xM g m S r q
 |_,_=>False
theorem rY {size:Nat}:∀ {ps:List (Nat × AV)} {qs:List (Nat × Value)},xM g m S ps qs→nX g m S (fun i=>some (i*size,size)) (ps.map fun (i,v)=>(i*size,size,v)) qs
 | [],[],_=>by simp [nX]
 |(i,v)::r,(j,c)::q,h=>by
  simp only [xM] at h;obtain ⟨rfl,b,a⟩:=h;simp only [Xqh,nX];exact ⟨trivial,b,rY a⟩
 | [],_::_,h=>by simp [xM] at h
 |_::_,[],h=>by simp [xM] at h
theorem BF {b:List (Nat × Nat × Nat)} {place:Nat→Option (Nat × Nat)} (hp:∀ i x,b[i]? =some x→place i=some (x.1,x.2.2)):∀ {ps:List (Nat × AV)} {qs:List (Nat × Value)} {rs:List (Nat × Nat × AV)},xM g m S ps qs→
  kG (fun (q:Nat × AV)=>(b[q.1]?).map fun (x:Nat × Nat × Nat)=>(x.1,x.2.2,q.2)) ps=some rs→nX g m S place rs qs
 | [],[],rs,_,h=>by simp [kG] at h;subst h;simp [nX]
 | (i,v)::r,(j,c)::q,rs,hn,h=>by
  simp only [xM] at hn;obtain ⟨rfl,d,e⟩:=hn;simp only [kG] at h;cases a:b[i]? with
  |none=>simp [a] at h
  | some x=>
   simp only [a,Xje] at h;split at h
   ·rename_i l f;cases h;simp only [nX];exact ⟨hp i x a,d,BF hp e f⟩
   ·cases h
 | [],_::_,_,h,_=>by simp [xM] at h
 |_::_,[],_,h,_=>by simp [xM] at h
theorem BD:∀ (fields:List Field),(∀ f ∈ fields,(P.info? f.type).isSome)→fields.mapM (fun f=>(P.info? f.type).map fun i=>(f.offset,i.size))=some (fields.map fun f=>(f.offset,match P.info? f.type with|some i=>i.size|none=>0))
 | [],_=>rfl
 | f::r,h=>by
  cases a:P.info? f.type with
  |none=>have:=h f (by simp);simp [a] at this
  |some i=>
   simp [List.mapM_cons,a,BD r (fun f b=>h f (by simp [b]))]
theorem Ip (q:iY P ap) {t:Nat} {l:TI} {i:TypeInfo} {d:TypeDesc} {z:Value} (b:Cm P t l i d z) {ps:List (Nat × AV)} {qs:Array (Nat × Value)} (B:xM g m S ps qs.toList) {v:AV} {ups:List (Nat × bg)} {bs:List Bool}
  (h:Nz ap l ps=some (v,ups,bs)):ups= []∧∃ cv,(Instr.build t qs).run P w= .ok cv w∧VR g m S v cv:=by
 unfold Nz at h;split at h
 ·rename_i H hd;have j:=bind_some h;clear h;obtain ⟨D,s,h⟩:=j;have j:=bind_some h;clear h;obtain ⟨cs,k,h⟩:=j;obtain ⟨rfl,rfl,rfl⟩:=aP h;rw [b.d_eq] at hd;obtain ⟨fields,rfl,rfl⟩:=vO hd;by_cases hall:∀ f ∈ fields.toList,(P.info? f.type).isSome
  ·have r:=BD fields.toList hall;have y:=BF (place:=((fields.toList.map fun f=>(f.offset,match P.info? f.type with|some i=>i.size|none=>0)).toArray[·]?)) (by
    intro i x A;simp only [Xq3,Xqp] at A;obtain ⟨f,o,rfl⟩:=A;simp [o];rfl) B s
   obtain ⟨a,u,p,_⟩:=pM D qs.toList l.zero cs z.cells y (qE b) k;refine ⟨rfl,.agg a,run_build w t qs a ?_, ?_⟩
   ·simp only [Program.built,b.info,b.und,b.zero];rw [r];exact u
   ·simp only [VR];exact ⟨a.toList,by simp,p⟩
  ·exfalso;apply hall;intro f o;have:=b.fld;simp only [VH] at this;exact List.all_eq_true.1 this f o
 ·rename_i n e hd;have j:=bind_some h;clear h;obtain ⟨C,c,h⟩:=j;have j:=bind_some h;clear h;obtain ⟨cs,k,h⟩:=j;obtain ⟨rfl,rfl,rfl⟩:=aP h;obtain ⟨E,F,G,c⟩:=dX q c;rw [b.d_eq] at hd;have hd:=yV hd;subst hd;obtain ⟨a,u,p,_⟩:=pM _ qs.toList l.zero cs z.cells (rY (size:=C.size) B) (qE b) k;refine ⟨rfl,.agg a,run_build w t qs a ?_, ?_⟩
  ·simp only [Program.built,b.info,b.und,b.zero,c.info];rw [← c.size];exact u
  ·simp only [VR];exact ⟨a.toList,by simp,p⟩
 ·cases h
end
end AM
namespace AM
open Go
section
variable {P:Program} {ap:AP} {g:dG} {m:aZ} {S:aT} {w:World}
theorem xn {t:Nat} {k:TI} {i:TypeInfo} {d:TypeDesc} {z:Value} (f:Cm P t k i d z) {v:AV} (h:qW k k.zero=some v):VR g m S v z:=by
 have b:=qE (g:=g) (m:=m) (S:=S) f;have e:=f.zagg;unfold qW at h;rw [f.d_eq,FO] at h;unfold agl at e;rw [f.zero] at e;split at h
 ·rename_i a;cases h;cases d<;>simp [TypeDesc.isRow] at a<;>cases z<;>simp at e
  all_goals
   simp only [VR];exact ⟨_,rfl,by simpa [Value.cells] using b⟩
 ·rename_i a;split at h
  ·rename_i c l;cases h;have j:z.cells=#[z]:=by
    cases z<;>first|rfl|skip
    cases d<;>simp [TypeDesc.isRow] at a e
   rw [l,j] at b;simp only [bi] at b;exact b.1
  ·cases h
theorem Gf (p:iY P ap) {x v:AV} {C:Value} (o:VR g m S x C) {asserted:Nat} {ok:Bool} {ups:List (Nat × bg)} {bs:List Bool} (h:Il ap x asserted ok=some (v,ups,bs)) (A:Nat):
  ups= []∧∃ cv,(Instr.typeAssert C A asserted ok).run P w= .ok cv w∧VR g m S v cv:=by
 unfold Il at h;have n:=bind_some h;clear h;obtain ⟨F,q,h⟩:=n;obtain ⟨i,d,z,b⟩:=dX p q;have a:∀ B,d ≠ .interface B:=by
  intro B e;subst e;rw [b.d_eq] at h;simp [jY] at h
 have key:∀ (c:Value),(∃ t u,c= .iface t u∧t ≠ asserted)∨c= .nilIface→∀ l,VR g m S l z→ok=true→(Instr.typeAssert c A asserted ok).run P w= .ok (.tuple #[z,.bool false]) w:=by
  intro c E l _ s;subst s;rcases E with ⟨t,u,rfl,k⟩|rfl
  ·cases d<;>first|exact absurd rfl (a _)|simp [Instr.typeAssert,run_underlying b.und,k,zeroValue,typeInfo,b.info,b.zero]
  ·cases d<;>first|exact absurd rfl (a _)|simp [Instr.typeAssert,run_underlying b.und,zeroValue,typeInfo,b.info,b.zero]
 split at h
 ·cases h
 ·split at h
  ·rename_i t u;simp only [VR] at o;obtain ⟨y,rfl,D⟩:=o;split at h
   ·rename_i j;have j:=aJ j;subst j;obtain ⟨rfl,rfl,rfl⟩:=aP h;cases ok
    ·refine ⟨rfl,y, ?_,D⟩;cases d<;>first|exact absurd rfl (a _)|simp [Instr.typeAssert,run_underlying b.und]
    ·refine ⟨rfl,.tuple #[y,.bool true], ?_, ?_⟩
     ·cases d<;>first|exact absurd rfl (a _)|simp [Instr.typeAssert,run_underlying b.und]
     ·simp only [VR];exact ⟨[y,.bool true],rfl,by simp only [bi,VR,PR];exact ⟨D,trivial,trivial⟩⟩
   ·rename_i j;have k:t ≠ asserted:=by intro e;subst e;simp at j
    cases ok
    ·cases h
    ·simp only at h;have n:=bind_some h;clear h;obtain ⟨l,r,h⟩:=n;obtain ⟨rfl,rfl,rfl⟩:=aP h;have f:=xn (g:=g) (m:=m) (S:=S) b r;refine ⟨rfl,_,key _ (.inl ⟨_,_,rfl,k⟩) l f rfl, ?_⟩;simp only [VR];exact ⟨[z,.bool false],rfl,by simp only [bi,VR,PR];exact ⟨f,trivial,trivial⟩⟩
  ·simp only [VR,PR] at o;subst o;cases ok
   ·cases h
   ·simp only at h;have n:=bind_some h;clear h;obtain ⟨l,r,h⟩:=n;obtain ⟨rfl,rfl,rfl⟩:=aP h;have f:=xn (g:=g) (m:=m) (S:=S) b r;refine ⟨rfl,_,key _ (.inr rfl) l f rfl, ?_⟩;simp only [VR];exact ⟨[z,.bool false],rfl,by simp only [bi,VR,PR];exact ⟨f,trivial,trivial⟩⟩
  ·cases h
theorem sH (M:bU ap g m S w) {rd:dG} (K:∀ b B,rd b=some B→g b=some B) {size:Nat} {x:AV} {T:Value} (i:VR g m S x T) {E:List AV} {n:Nat} {pr:Bool} (h:MF size rd x=some (E,n,pr)) (N:E.length=n*size)
  {tx:Nat} (hk:((∃ s,x= .str s)∧P.underlying tx=some .string∧size=1)∨((∀ s,x ≠ .str s)∧∃ e,P.underlying tx=some (.slice e))):
  ∃ news,Src P size tx T n news w∧bi g m S E news∧(pr=true→dY S E news):=by
 unfold MF at h;split at h
 ·rename_i xs' U nn;cases h;obtain ⟨_,e,d⟩:=hk.resolve_left (by rintro ⟨⟨s,hs⟩,_⟩;cases hs);simp only [VR,PR] at i;obtain ⟨a,F,rfl,W,q⟩:=i;rcases q with ⟨_,rfl,rfl,rfl⟩|⟨b,o,vs,rfl,hp,hs⟩
  ·cases a with
   |none=>exact ⟨[],Src.ofNil w d 0,by simp [bi],fun _=>by simp [dY]⟩
   |some p=>exact ⟨[],Src.ofSlice w d p 0 0 [] (by simp) (fun j u c=>by simp at c) (fun u D=>by simp at D),by simp [bi],fun _=>by simp [dY]⟩
  ·refine ⟨vs,Src.ofSlice w d ⟨b,o,none⟩ n F vs (by rw [← wP hp,N]) (fun j u c=>by rw [Addr.add_mid];exact M.one (hs j u c).1 (hs j u c).2) ?_,bW _ hp,fun _=>hp⟩;intro u D;obtain ⟨j,c⟩:=List.getElem?_of_mem D;exact (hs j u c).2
 ·cases h;obtain ⟨_,e,d⟩:=hk.resolve_left (by rintro ⟨⟨s,hs⟩,_⟩;cases hs);simp only [VR,PR] at i;subst i;exact ⟨[],Src.ofNil w d 0,by simp [bi],fun _=>by simp [dY]⟩
 ·rename_i s;cases h;obtain ⟨_,d,L⟩:=hk.resolve_right (by rintro ⟨hs,_⟩;exact hs s rfl);simp only [VR,PR] at i;subst i;subst L;have hp:∀ s:List UInt8,dY S (s.map fun b=>AV.int .u8 b.toNat) (s.map fun b=>Value.int .u8 b.toNat):=by
   intro s
   induction s with
   |nil=>simp [dY]
   |cons a r ih=>simp only [Xqh,dY,PR];exact ⟨trivial,ih⟩
  have f:=Src.ofString (P:=P) w d ⟨s.toArray⟩;have Y:byteCells ⟨s.toArray⟩=s.map fun b=>Value.int .u8 b.toNat:=by simp [byteCells]
  rw [Y,yU] at f;exact ⟨_,f,bW _ (hp s),fun _=>hp s⟩
 ·rename_i b ver j U;have X:=bind_some h;clear h;obtain ⟨B,Z,h⟩:=X;split at h
  ·rename_i t;cases h;simp only [π,Xqo] at t;obtain ⟨t,y⟩:=t;have z:B.esz ≠ iP:=fun e=>by rw [e] at y;exact absurd y (by decide)
   obtain ⟨_,e,d⟩:=hk.resolve_left (by rintro ⟨⟨s,hs⟩,_⟩;cases hs);simp only [VR] at i;obtain ⟨B',l,_,_,q⟩:=i;have A:=K b B Z;rw [A] at l;cases l;obtain ⟨o,rfl,q1,V,q3⟩:=q (aJ t.1);have I:=aJ t.2;obtain ⟨cur,e',vs,rest,k,C,hp,H,G,Q⟩:=(M.blk b B A).lies;have k:=k.cells z;have G:=G z;have R:=bV H;have J:((vs.drop (j*size)).take (n*size)).length=n*size:=by
    rw [← bV (qC _ (tJ _ H))];exact N
   by_cases hn:n=0
   ·subst hn;have O:(vs.drop (j*size)).take (0*size)= []:=by simp
    refine ⟨[], ?_, ?_, ?_⟩
    ·exact Src.ofSlice w d _ 0 _ [] (by simp) (fun _ _ h=>by simp at h) (fun _ h=>by simp at h)
    ·simp [bi]
    ·intro _;simp [dY]
   ·have v:=V (by omega);refine ⟨(vs.drop (j*size)).take (n*size),Src.ofSlice w d _ n _ _ J ?_ ?_,qC _ (tJ _ H),fun pr=>kK _ (qy _ (hp pr))⟩
    ·intro jj u c;rw [v,Addr.add_mid,I,tX k,C];rw [Xj0] at c;split at c
     ·rw [List.getElem?_drop] at c;rw [Xxd (List.getElem?_eq_some_iff.1 c).1];exact c
     ·cases c
    ·intro u D;exact G u (Xzk (Xxl D))
  ·cases h
 ·cases h
theorem Hw:∀ (a:List Int) (s:List UInt8),a.foldl (fun (r:ByteArray) n=>r.push (Xql n.toNat)) ⟨s.toArray⟩=⟨(s++a.map fun n=>Xql n.toNat).toArray⟩
 | [],s=>by simp
 |n::a,s=>by
  simp only [Xjn];have e:(⟨s.toArray⟩:ByteArray).push (Xql n.toNat)=⟨(s++ [Xql n.toNat]).toArray⟩:=by simp [ByteArray.push]
  rw [e,Hw a];simp
theorem DU (E:iY P ap) (X:bU ap g m S w) {rd:dG} (N:∀ b B,rd b=some B→g b=some B) {s d:Nat} {V T:TI} (K:ap.tyAt s=some V) (R:ap.tyAt d=some T) {x v:AV} {O:Value} (G:VR g m S x O) {ups:List (Nat × bg)} {bs:List Bool}
  (h:DT ap V T rd x=some (v,ups,bs)) (hbs:∀ b ∈ bs,b=true):ups= []∧∃ cv,(convert s d O).run P w= .ok cv w∧VR g m S v cv:=by
 obtain ⟨i1,d1,z1,F⟩:=dX E K;obtain ⟨i2,d2,z2,D⟩:=dX E R;unfold DT at h;split at h
 ·rename_i k k' n hd;obtain ⟨rfl,rfl,rfl⟩:=aP h;rw [D.d_eq] at hd;have hd:=XM hd;subst hd;simp only [VR,PR] at G;subst G;exact ⟨rfl,_,by simp [convert,run_underlying F.und,run_underlying D.und,Conv.intToInt];rfl,by simp only [VR,PR]⟩
 ·rename_i s' i j;obtain ⟨rfl,rfl,rfl⟩:=aP h;rw [F.d_eq] at i;rw [D.d_eq] at j;have i:=xG i;have j:=xG j;subst i;subst j;simp only [VR,PR] at G;subst G;exact ⟨rfl,_,by simp [convert,run_underlying F.und,run_underlying D.und];rfl,by simp only [VR,PR]⟩
 ·rename_i x0 e i j;have M:=bind_some h;clear h;obtain ⟨te,t,h⟩:=M;obtain ⟨ie,de,ze,t⟩:=dX E t;split at h
  ·cases h
  ·rename_i Z xt xb u y;have M:=bind_some h;clear h;obtain ⟨⟨p,n,pr⟩,z,h⟩:=M;obtain ⟨rfl,rfl,rfl⟩:=aP h;obtain ⟨W,L⟩:=cZ hbs;obtain ⟨L,_⟩:=cZ L;rw [F.d_eq] at i;rw [D.d_eq] at j;have i:=gZ i;have j:=xG j;subst i;subst j;rw [t.d_eq] at u;have u:=XM u;subst u;have W:=aJ W;obtain ⟨f,hs,hv,_⟩:=sH (P:=P) X N G z (by omega) (tx:=s) (.inr ⟨fun s e=>y s e,e,F.und⟩);have C:f=(p.map AV.toInt).map (Value.int .u8):=by
    have:∀ (p:List AV) (f:List Value),bi g m S p f→p.all (chk (.int .u8))=true→f=(p.map AV.toInt).map (Value.int .u8):=by
     intro p
     induction p with
     |nil=>intro f h _;cases f<;>simp [bi] at h ⊢
     | cons a r ih=>
      intro f h H;cases f with
      |nil=>simp [bi] at h
      |cons c q=>
       simp only [bi] at h;simp only [Xxs,π] at H;rw [Xqh,Xqh,ih q h.2 H.2];congr 1;cases a<;>simp [chk] at H
       simp only [VR,PR] at h;rw [h.1,gm H.1];rfl
    exact this p f hv L
   refine ⟨rfl,.string ⟨((p.map AV.toInt).map fun n=>Xql n.toNat).toArray⟩, ?_, ?_⟩
   ·have hcells:=hs.cells;have A:=hs.len w;have o:=G;cases O
    case slice a l c=>
     have Y:l=n:=by simpa [Builtin.lenOf] using A
     subst Y;cases a with
     | none=>
      have I:f= []:=by simpa [Builtin.firstCells] using hcells.symm
      rw [I] at C;have J:p= []:=by
       have:(p.map AV.toInt).map (Value.int .u8)= []:=C.symm;simpa using this
      subst J;simp [convert,run_underlying F.und,run_underlying D.und,run_underlying t.und,Conv.bytesToString];rfl
     | some a=>
      have Q:(loadCells a l).run P w= .ok ((p.map AV.toInt).map (Value.int .u8)).toArray w:=by
       rw [← C];simpa [Builtin.firstCells] using hcells
      have U:=run_bytesToString (P:=P) w a l c _ Q;rw [show ByteArray.empty=⟨([]:List UInt8).toArray⟩ from rfl,Hw,Xqk] at U;simp only [convert,Sem.run_bind,run_underlying F.und,run_underlying D.und,run_underlying t.und,Result.andThen_ok];exact U
    all_goals (simp [Builtin.lenOf] at A)
    case string s0=>
     exfalso;cases Z<;>simp [MF] at z
     case str s1=>exact y s1 rfl
     case nilS=>simp only [VR,PR] at o;cases o
     case sl a b c=>simp only [VR,PR] at o;obtain ⟨_,_,h,_⟩:=o;cases h
     case ref a b c d=>simp only [VR] at o;obtain ⟨_,_,_,⟨_,_,_,h⟩,_⟩:=o;cases h
   ·simp only [VR,PR];simp [List.map_map,Function.comp_def]
  ·cases h
 ·cases h
end
end AM
namespace AM
open Go
def dP (g:dG) (ups:List (Nat × bg)):dG:=fun b=>match aA ups b with|some B=>some B|none=>g b
def kH (m:aZ) (b:Nat) (x:Nat × Nat):aZ:=fun c=>if c=b then x else m c
theorem iH {α:Type}:∀ (a b:List (Nat × α)) (t:Nat),aA (a++b) t=match aA a t with|some x=>some x|none=>aA b t
 | [],b,t=>rfl
 |(u,x)::r,b,t=>by
  simp only [Xq9,aA];split
  ·rfl
  ·exact iH r b t
theorem kF (ups:List (Nat × bg)) (hp:Hp):dP (aA hp) ups=aA (ups++hp):=by
 funext b;rw [iH];unfold dP;cases aA ups b<;>rfl
theorem fJ (g:dG):dP g []=g:=rfl
theorem mP (g:dG) (b:Nat) (B:bg) (c:Nat):dP g [(b,B)] c=if c=b then some B else g c:=by
 simp only [dP,aA];by_cases h:c=b
 ·subst h;simp
 ·have:Xqq b c=false:=by
   cases a:Xqq b c with
   |false=>rfl
   |true=>exact absurd (aJ a).symm h
  rw [this,if_neg h]
section
variable {P:Program} {ap:AP} {g:dG} {m:aZ} {S:aT} {w:World}
theorem Rf.mono {g g':dG} {m b:aZ} {S S':aT} {w w':World} {B:bg} {k c:Nat} (h:Rf g m S w B k c) (a:oQ S S') (j:Ge g m g' b) (n:w'.heap[k]? =w.heap[k]?):Rf g' b S' w' B k c:=by
 obtain ⟨⟨cur,e,vs,rest,r,s,f,i,o,d⟩,q,l⟩:=h;exact ⟨⟨cur,e,vs,rest,r.same n,s,fun p=>dm a _ (f p),mg a j _ i,o,d⟩,q,l⟩
theorem bU.seal_lt (h:bU ap g m S w) {k o:Nat} {v:Value} (a:S k o=some v):k<w.heap.size:=UK (h.sealed k o v a)
theorem bU.put (h:bU ap g m S w) (b:Nat) (B:bg) (k c:Nat) {w':World}
  (i:w.heap.size≤k∨∃ B0,g b=some B0∧k=(m b).1) (hw:w.grownBy w' (some k)) (hblk:Rf g m S w' B k c)
  (hge:∀ B0,g b=some B0→B.esz=B0.esz∧((B.ver=B0.ver∧(k,c)=m b)∨B0.ver<B.ver))
  (hseal:∀ o v,S k o=some v→kQ w' k o=some v∧B.fro=true∧o<B.fz):
  bU ap (dP g [(b,B)]) (kH m b (k,c)) S w'∧Fr g m S w (dP g [(b,B)]) (kH m b (k,c)) S w':=by
 have s:Ge g m (dP g [(b,B)]) (kH m b (k,c)):=by
  intro f B1 p;by_cases e:f=b
  ·subst e;obtain ⟨a,j⟩:=hge B1 p;refine ⟨B,by rw [mP,if_pos rfl],a, ?_⟩;rcases j with ⟨j,C⟩|j
   ·exact .inl ⟨j,by simp [kH,C]⟩
   ·exact .inr j
  ·exact ⟨B1,by rw [mP,if_neg e];exact p,rfl,.inl ⟨rfl,by simp [kH,e]⟩⟩
 have t:∀ f B1,g f=some B1→f ≠ b→(m f).1 ≠ k:=by
  intro f B1 p y e;have r:=h.lt p;rcases i with i|⟨B0,l,i⟩
  ·omega
  ·exact y (h.inj f b B1 B0 p l (e.trans i))
 have n:∀ k0,k0<w.heap.size→k0 ≠ k→w'.heap[k0]? =w.heap[k0]? :=fun k0 r A=>hw.block k0 r (by simpa using A)
 constructor
 ·refine ⟨?_, ?_, ?_, ?_,h.glob⟩
  ·intro f z B1 B2 d x u;rw [mP] at d x;by_cases a:f=b<;>by_cases j:z=b
   ·rw [a,j]
   ·rw [if_neg j] at x;simp only [kH,a,if_true,if_neg j] at u;exact absurd u.symm (t z B2 x j)
   ·rw [if_neg a] at d;simp only [kH,j,if_true,if_neg a] at u;exact absurd u (t f B1 d a)
   ·rw [if_neg a] at d;rw [if_neg j] at x;simp only [kH,if_neg a,if_neg j] at u;exact h.inj f z B1 B2 d x u
  ·intro f B1 d;rw [mP] at d;by_cases a:f=b
   ·rw [if_pos a] at d;cases d;simp only [kH,if_pos a];exact hblk.mono (oQ.refl S) s rfl
   ·rw [if_neg a] at d;simp only [kH,if_neg a];exact (h.blk f B1 d).mono (oQ.refl S) s (n _ (h.lt d) (t f B1 d a))
  ·intro k0 o v q;by_cases e:k0=k
   ·subst e;exact (hseal o v q).1
   ·rw [NC (n k0 (h.seal_lt q) e)];exact h.sealed k0 o v q
  ·intro f B1 d o v q;rw [mP] at d;by_cases a:f=b
   ·rw [if_pos a] at d;cases d;simp only [kH,if_pos a] at q;exact (hseal o v q).2
   ·rw [if_neg a] at d;simp only [kH,if_neg a] at q;exact h.own f B1 d o v q
 ·refine ⟨s,oQ.refl S,hw.os,hw.tape,hw.output,hw.size, ?_, ?_,fun _ _ _ q=> .inl q⟩
  ·intro k0 r D;refine n k0 r (fun e=> ?_);subst e;rcases i with i|⟨B0,l,i⟩
   ·omega
   ·exact D b B0 l i.symm
  ·intro f B1 d;rw [mP] at d;by_cases a:f=b
   ·subst a;rcases i with i|⟨B0,l,i⟩
    ·exact .inl (by simpa [kH] using i)
    ·exact .inr ⟨B0,l,by simp [kH,i]⟩
   ·rw [if_neg a] at d;exact .inr ⟨B1,d,by simp [kH,a]⟩
end
mutual
theorem JU {g:dG} {m:aZ} {S:aT}:∀ (x:AV) {v:Value},VR g m S x v→d_ x= []→PR S x v
 | .int _ _,_,p,_=>by simpa only [VR] using p
 | .bool _,_,p,_=>by simpa only [VR] using p
 | .str _,_,p,_=>by simpa only [VR] using p
 | .nilS,_,p,_=>by simpa only [VR] using p
 | .nilP,_,p,_=>by simpa only [VR] using p
 | .nilF,_,p,_=>by simpa only [VR] using p
 | .nilI,_,p,_=>by simpa only [VR] using p
 | .sl _ _ _,_,p,_=>by simpa only [VR] using p
 | .pp _ _,_,p,_=>by simpa only [VR] using p
 | .mp _ _,_,p,_=>by simpa only [VR] using p
 | .dead,_,_,_=>by simp only [PR]
 | .own _ _ _,_,p,_=>by simp only [VR] at p
 | .ref _ _ _ _,_,_,h=>by simp [d_] at h
 | .ptr _ _ _,_,_,h=>by simp [d_] at h
 | .mr _ _,_,_,h=>by simp [d_] at h
 | .agg l,_,p,h=>by
  simp only [VR] at p;simp only [PR];simp only [d_] at h;obtain ⟨vs,e,q⟩:=p;exact ⟨vs,e,fV l q h⟩
 | .tup l,_,p,h=>by
  simp only [VR] at p;simp only [PR];simp only [d_] at h;obtain ⟨vs,e,q⟩:=p;exact ⟨vs,e,fV l q h⟩
 | .fn f a c,_,p,h=>by
  simp only [VR] at p;simp only [PR];simp only [d_,Xj9] at h;obtain ⟨b,d,e,q,r⟩:=p;exact ⟨b,d,e,fV a q h.1,fV c r h.2⟩
 | .ifc t x,_,p,h=>by
  simp only [VR] at p;simp only [PR];simp only [d_] at h;obtain ⟨u,e,q⟩:=p;exact ⟨u,e,JU x q h⟩
theorem fV {g:dG} {m:aZ} {S:aT}:∀ (l:List AV) {vs:List Value},bi g m S l vs→bQ l= []→dY S l vs
 | [],[],_,_=>by simp only [dY]
 |x::r,v::vs,p,h=>by simp only [bi] at p;simp only [bQ,Xj9] at h;simp only [dY];exact ⟨JU x p.1 h.1,fV r p.2 h.2⟩
 | [],_::_,p,_=>by simp [bi] at p
 |_::_,[],p,_=>by simp [bi] at p
end
section
variable {P:Program} {ap:AP} {g:dG} {m:aZ} {S:aT} {w:World}
theorem qK {α:Type} {l:List α} (h:l.isEmpty=true):l= []:=by cases l<;>simp at h ⊢
theorem bU.fresh (h:bU ap g m S w) {nid:Nat} (l:g nid=none) (B:bg) (i:B.esz ≠ iP) (c:Nat) {w':World} {cur:Array Value} {e:TypeId} (a:w.grownBy w' none) (b:w'.heap[w.heap.size]? =some (.cells cur e (0,0)))
  (hver:B.fro=false→B.fz=0) (hfz:B.fz≤B.cells.length) {vs rest:List Value} (hc:cur.toList=vs++rest) (hp:B.pr=true→dY S B.cells vs) (f:bi g m S B.cells vs) (h1:∀ u ∈ vs,u.oneCell'=true) (hcap:0<B.esz→cur.size=c*B.esz∧c≤maxLen):
  bU ap (dP g [(nid,B)]) (kH m nid (w.heap.size,c)) S w'∧Fr g m S w (dP g [(nid,B)]) (kH m nid (w.heap.size,c)) S w':=by
 refine h.put nid B w.heap.size c (.inl (Δ _)) ⟨a.os,a.tape,a.output,a.size,fun k j _=>a.block k j (by simp)⟩ ⟨⟨cur,e,vs,rest,jF.of i b,hc,hp,f,fun _=>h1,fun d _=>hcap d⟩,hver,hfz⟩ (fun B0 d=>by rw [l] at d;cases d) ?_;intro o v f;have:=h.seal_lt f;omega
theorem GK (h:bU ap g m S w) {nid:Nat} (d:g nid=none) {cells:List AV} {cv:Value} (b:bi g m S cells cv.cells.toList) (_hl:∀ x ∈ cells,oz x=true) (c:∀ u ∈ cv.cells,u.oneCell'=true) (t:TypeId):
  ∃ m' w',(newVar t cv).run P w= .ok ⟨w.heap.size,0,none⟩ w'∧bU ap (dP g [ji nid cells 0]) m' S w'∧Fr g m S w (dP g [ji nid cells 0]) m' S w'∧(m' nid).1=w.heap.size:=by
 have a:=h.fresh (nid:=nid) d (ji nid cells 0).2 (by show 0 ≠ iP;decide) 0 (w':=w.alloc (.cells cv.cells t)) (cur:=cv.cells) (e:=t) (World.grownBy_alloc w _ none) (heap_alloc_new w _) (fun _=>rfl) (Xxk _) (vs:=cv.cells.toList) (rest:= []) (by simp)
  (fun hp=>fV _ b (qK hp)) b (fun u f=>c u (by simpa using f)) (fun h=>by simp [ji] at h)
 refine ⟨_,_, ?_,a.1,a.2,by simp [kH]⟩;simp [newVar,newRow]
theorem Qu {b:aZ} {nid:Nat} {cells:List AV} {a k:Nat} (c:(b nid).1=k):VR (dP g [ji nid cells a]) b S (.ptr nid 0 0) (.pointer (some ⟨k,0,none⟩)):=by
 simp only [VR];refine ⟨(ji nid cells a).2, ?_,Xxk _,⟨_,_,rfl⟩,fun _=>by rw [c]⟩;show dP g [(nid,(ji nid cells a).2)] nid=_;rw [mP,if_pos rfl]
theorem JE (h:bU ap g m S w) {rd:dG} (J:∀ b B,rd b=some B→g b=some B) {t:Nat} {T:TI} {i:TypeInfo} {d:TypeDesc} {z:Value} (L:Cm P t T i d z) {p x v:AV} {U c:Value} (hp:VR g m S p U) (hx:VR g m S x c)
  {ups:List (Nat × bg)} {bs:List Bool} (hs:O0 T rd p x=some (v,ups,bs)) (hbs:∀ b ∈ bs,b=true):
  v= .dead∧∃ m' w',(Instr.storeAt t U c).run P w= .ok () w'∧bU ap (dP g ups) m' S w'∧Fr g m S w (dP g ups) m' S w':=by
 unfold O0 at hs;split at hs
 ·rename_i b ver a;have W:=bind_some hs;clear hs;obtain ⟨B,hB,hs⟩:=W;simp only at hs;split at hs
  ·rename_i K;simp only [π,Xqo] at K;obtain ⟨⟨⟨⟨c1,Y⟩,c3⟩,c4⟩,Q⟩:=K;have l:B.esz ≠ iP:=fun e=>by rw [e] at Q;exact absurd Q (by decide)
   cases hs;have f:=J b B hB;have F:=aJ c1;have O:=aJ c3;have R:=gp (hbs _ (List.mem_singleton.2 rfl));simp only [VR] at hp;obtain ⟨B',C,_,_,q⟩:=hp;rw [f] at C;cases C;have q:=q F;subst q;obtain ⟨s,D⟩:=Dt hx (fun y hy=>List.all_eq_true.1 c4 y hy);obtain ⟨⟨cur,e,vs,rest,k1,k2,k3,k4,k5,k6⟩,k7,k8⟩:=h.blk b B f;have k1:=k1.cells l;have k5:=k5 l;have r:=bV s;have N:=bV k4;have I:c.cells.size=i.size:=by simp only [Array.length_toList] at r;rw [← L.size];omega
   have G:cur.toList.length=vs.length+rest.length:=by rw [k2];simp
   have H:=run_storeCells_at P (m b).1 a e c.cells.toList 0 cur w k1 (by simp only [Array.length_toList] at r G ⊢;omega) (fun u j=>D u (by simpa using j));simp only [Xq0] at H;have hnewl:(cur.toList.take a++c.cells.toList++cur.toList.drop (a+c.cells.toList.length))=(vs.take a++c.cells.toList++vs.drop (a+c.cells.toList.length))++rest:=by
    rw [k2,Xxx (by omega),List.drop_append_of_le_length (by omega)];simp [Xqd]
   have n:=h.put b {B with cells:=iT B.cells a x.cells,pr:=B.pr && (bQ x.cells).isEmpty} (m b).1 (m b).2 (w':=w.setRow (m b).1 (cur.toList.take a++c.cells.toList++cur.toList.drop (a+c.cells.toList.length)).toArray)
    (.inr ⟨B,f,rfl⟩) ⟨rfl,rfl,rfl,by simp,fun k _ Z=>setRow_other w _ k _ (fun e=>Z (by rw [e]))⟩
    ⟨⟨_,e,vs.take a++c.cells.toList++vs.drop (a+c.cells.toList.length),rest,jF.of l (setRow_heap w _ cur _ e _ k1),by rw [Xw7,hnewl],fun A=>by
      simp only [π] at A;exact Yf (k3 A.1) (fV _ s (qK A.2)),Pj k4 s,by
      intro _ u j;rcases List.mem_append.1 j with j|j
      ·rcases List.mem_append.1 j with j|j
       ·exact k5 u (Xxl j)
       ·exact D u (by simpa using j)
      ·exact k5 u (Xzk j),fun E _=>by
      obtain ⟨s1,V⟩:=k6 E l;refine ⟨?_,V⟩;rw [← s1,Xzn];simp only [θ,Xqz,Xxz,Array.length_toList] at r G ⊢;omega⟩,k7,by
     have:(iT B.cells a x.cells).length=B.cells.length:=by simp only [iT,θ,Xqz,Xxz];omega
     simp only [this];exact k8⟩
    (fun B0 M=>by rw [f] at M;cases M;exact ⟨rfl,.inl ⟨rfl,rfl⟩⟩)
    (fun o v X=>by
     have:=(h.own b B f o v X).1;rw [Y] at this;cases this)
   refine ⟨rfl,_,_, ?_,n.1,n.2⟩;have hn:¬ (c.cells.size ≠ i.size):=by simp [I]
   simp [Instr.storeAt,Instr.sureAddr,storeVar,Go.sizeOf,typeInfo,L.info,I,H]
  ·cases hs
 ·cases hs
end
end AM
namespace AM
open Go
section
variable {P:Program} {ap:AP} {g:dG} {m:aZ} {S:aT} {w:World}
theorem nT (g:dG) (b:Nat) (B:bg):dP g [(b,B)] b=some B:=by rw [mP,if_pos rfl]
theorem Ee {w w':World} (h:w.grownBy w' none) (r:Option Nat):w.grownBy w' r:=⟨h.os,h.tape,h.output,h.size,fun k a _=>h.block k a (by simp)⟩
theorem n_ (w:World) (o:Obj):w.grownBy (w.drew.alloc o) none:=⟨rfl,rfl,rfl,by simp,fun k a _=>Go.RowKit.Below.heap_alloc w.drew o k a⟩
theorem wo {t tx ty e:TypeId} {i:TypeInfo} (d:P.underlying t=some (.slice e)) (c:P.info? e=some i) {x:Value} {a:List Value} (hs:Src P i.size tx x 0 a w):
  (Builtin.append_ #[t,tx] ty #[.slice none 0 0,x]).run P w= .ok (.slice none 0 0) w:=by
 rcases hs.kind with ⟨e',b⟩|b<;>simp [Builtin.append_,run_underlying d,run_underlying b,Go.sizeOf,typeInfo,c,hs.len,hs.cells]
theorem wu {t tx ty e:TypeId} {i:TypeInfo} (h:P.underlying t=some (.slice e)) (d:P.info? e=some i) {k o sLen sCap n:Nat} {x:Value} {a:List Value} (hs:Src P i.size tx x n a w) (hroom:sLen+n≤sCap)
  {cur:Array Value} {e':TypeId} (hk:w.heap[k]? =some (.cells cur e' (0,0))) (hfit:o+sLen*i.size+a.length≤cur.size):
  (Builtin.append_ #[t,tx] ty #[.slice (some ⟨k,o,none⟩) sLen sCap,x]).run P w= .ok (.slice (some ⟨k,o,none⟩) (sLen+n) sCap) (w.setRow k (cur.toList.take (o+sLen*i.size)++a++cur.toList.drop (o+sLen*i.size+a.length)).toArray):=by
 have c:=run_storeCells_at P k (o+sLen*i.size) e' a 0 cur w hk (by simpa using hfit) hs.one;simp only [Xq0] at c;rcases hs.kind with ⟨f,b⟩|b<;>simp [Builtin.append_,run_underlying h,run_underlying b,Go.sizeOf,typeInfo,d,hs.len,hroom,hs.cells,Addr.add_mid,c]
theorem A7 {n a bytes:Nat} (h:a<n) (b:n≤H7) (c:bytes≤128):Builtin.nextslicecap n a*bytes≤281474976710656:=by
 refine growslice_fits h ?_;have:n*bytes≤H7*128:=Nat.mul_le_mul b c;have e:H7*128=140737488355328:=by decide
 omega
theorem yN:H7=1099511627776:=by decide
theorem Ce {t tx ty e:TypeId} {i:TypeInfo} (f:P.underlying t=some (.slice e)) (d:P.info? e=some i) {x:Value} {base:Option Addr} {sLen sCap:Nat} (hs:Src P i.size tx x 0 [] w) (c:sLen≤sCap):
  (Builtin.append_ #[t,tx] ty #[.slice base sLen sCap,x]).run P w= .ok (.slice base sLen sCap) w:=by
 cases base with
 |none=>rcases hs.kind with ⟨e',b⟩|b<;>simp [Builtin.append_,run_underlying f,run_underlying b,Go.sizeOf,typeInfo,d,hs.len,hs.cells,c]
 |some a=>rcases hs.kind with ⟨e',b⟩|b<;>simp [Builtin.append_,run_underlying f,run_underlying b,Go.sizeOf,typeInfo,d,hs.len,hs.cells,c,storeCells]
theorem wC (h:bU ap g m S w) {rd:dG} (O:∀ b B,rd b=some B→g b=some B) {nid:Nat} (hn:g nid=none) {t tx e:Nat} {ti p:TI} {i G:TypeInfo} {z R:Value} {de:TypeDesc} (ht:Cm P t ti i (.slice e) z) (r:Cm P e p G de R)
  {s x v:AV} {cs cx:Value} (hvs:VR g m S s cs) (hvx:VR g m S x cx)
  (hk:((∃ s,x= .str s)∧P.underlying tx=some .string∧p.size=1)∨((∀ s,x ≠ .str s)∧∃ e,P.underlying tx=some (.slice e)))
  {em:Bool} (Q:s= .nilS→∃ n,wW x=some n∧Xqq n 0=em)
  {ups:List (Nat × bg)} {bs:List Bool} (E:xP nid p rd em s x=some (v,ups,bs)) (y:∀ b ∈ bs,b=true) (ty:Nat):
  ∃ cv m' w',(Builtin.append_ #[t,tx] ty #[cs,cx]).run P w= .ok cv w'∧bU ap (dP g ups) m' S w'∧Fr g m S w (dP g ups) m' S w'∧VR (dP g ups) m' S v cv:=by
 have hcount:∀ M n pr,MF p.size rd x=some (M,n,pr)→wW x=some n:=by
  intro M n pr a;unfold MF at a;split at a
  ·cases a;rfl
  ·cases a;rfl
  ·cases a;rfl
  ·have hq:=bind_some a;clear a;obtain ⟨B,hB,a⟩:=hq;split at a
   ·cases a;rfl
   ·cases a
  ·cases a
 unfold xP at E;have hq:=bind_some E;clear E;obtain ⟨⟨M,n,pr⟩,a,E⟩:=hq;simp only at E;split at E
 ·cases E
 ·rename_i Z;simp only [π] at Z;have hsz:=gq Z.1;have hby:=gp Z.2;have d:p.size=G.size:=r.size;have T:p.size ≠ iP:=fun e=>by have:=r.small;omega
  have hby':p.bytes=G.bytes:=r.bytes;have hzs:R.cells.size=G.size:=r.zsize;split at E
  ·
   obtain ⟨n',hc',Q⟩:=Q rfl;rw [hcount _ _ _ a] at hc';cases hc';simp only [VR,PR] at hvs;subst hvs;split at E
   ·
    obtain ⟨rfl,rfl,rfl⟩:=aP E;have N:n=0:=aJ Q;subst N;have hl:=aJ (y _ (List.mem_singleton.2 rfl));obtain ⟨c,hs,hv,hp⟩:=sH (P:=P) h O hvx a hl hk;rw [d] at hs;exact ⟨_,m,w,wo ht.und r.info hs,by rw [fJ];exact h,by rw [fJ];exact Fr.refl _ _ _ _,by simp [VR,PR]⟩
   ·
    cases E;obtain ⟨b1,y⟩:=cZ y;obtain ⟨b2,_⟩:=cZ y;have hl:=aJ b1;have hroom:=gp b2;have N:n ≠ 0:=by intro e;subst e;simp at Q
    obtain ⟨c,hs,hv,hp⟩:=sH (P:=P) h O hvx a hl hk;rw [d] at hs;have f:=run_append_grow_src w t tx ty e G R ht.und r.info r.zero none 0 0 [] (run_firstCells_none w.drew _ _ _ _) cx n c hs (by omega) (by rw [yN] at hroom;omega) (A7 (by omega) (by simpa using hroom) (by omega));have hge:n≤grownCap w n 0 e:=grownCap_ge _ _ _ _;have Y:grownCap w n 0 e≤maxLen:=grownCap_le_maxLen _ _ _ _ (by rw [yN] at hroom;simp only [maxLen];omega);simp only [Xqf] at f;have hf:=h.fresh (nid:=nid) hn ⟨M,0,false,0,p.size,pr⟩ T (grownCap w n 0 e) (cur:=([]++c).toArray++Builtin.zeroCells R.cells (grownCap w n 0 e - n)) (e:=e) (n_ w _) (heap_alloc_new w.drew _) (fun _=>rfl) (Xxk _)
     (vs:=c) (rest:=(Builtin.zeroCells R.cells (grownCap w n 0 e - n)).toList) (by simp) hp hv hs.one (fun _=> ⟨by
      simp only [Array.size_append,Xzn,Xqk,size_zeroCells,hs.newsLen,hzs,d];rw [← Xxm];congr 1;omega,Y⟩)
    refine ⟨_,_,_,f,hf.1,hf.2, ?_⟩;simp only [VR];refine ⟨_,nT _ _ _,Δ _,⟨_,_,_,rfl⟩,fun _=> ⟨0, ?_, ?_, ?_,hsz,T⟩⟩
    ·simp [kH]
    ·simpa [kH] using hge
    ·simp
  ·rename_i b ver mN;have hq:=bind_some E;clear E;obtain ⟨B,hB,E⟩:=hq;split at E
   ·rename_i F;simp only [π,Xqo] at F;have hver:=aJ F.1.1;have U:=aJ F.1.2;have A:B.esz ≠ iP:=fun e=>by rw [e] at F;exact absurd F.2 (by decide)
    cases E;obtain ⟨b1,y⟩:=cZ y;obtain ⟨b2,y⟩:=cZ y;obtain ⟨b3,y⟩:=cZ y;obtain ⟨b4,_⟩:=cZ y;have hl:=aJ b1;have hroom:=gp b2;have hfit:=gp b3;have D:=O b B hB;simp only [VR] at hvs;obtain ⟨B',hB',_,_,q⟩:=hvs;rw [D] at hB';cases hB';obtain ⟨o,rfl,hcap,ho,H,hnz1⟩:=q hver;simp only [Xqf,Nat.sub_zero,Nat.zero_mul] at hcap ho ⊢;obtain ⟨c,hs,hv,hp⟩:=sH (P:=P) h O hvx a hl hk;rw [d] at hs;have hbk:=h.blk b B D;obtain ⟨⟨cur,e',vs,rest,k1,k2,k3,k4,k5,k6⟩,k7,k8⟩:=hbk;have k1:=k1.cells A;have k5:=k5 A;obtain ⟨s1,s2⟩:=k6 H A;have hvl:=bV k4;have hcl:cur.toList.length=vs.length+rest.length:=by rw [k2];simp
    simp only [Array.length_toList] at hcl;have hfz:B.fz≤mN*p.size:=by
     cases hf:B.fro with
     |false=>rw [k7 hf];exact Xxk _
     |true=>simp [hf] at b4;exact gp (by simpa using b4)
    have holds:dY S (B.cells.take (mN*p.size)) (vs.take (mN*p.size))∨B.pr=false:=by
     cases hp:B.pr with
     |false=>exact .inr rfl
     |true=>exact .inl (kK _ (k3 hp))
    have J:(vs.take (mN*p.size)).length=mN*G.size:=by rw [Xqz,d] at*;omega
    have V:bi g m S (B.cells.take (mN*p.size)++M) (vs.take (mN*p.size)++c):=ig (qC _ k4) hv;have W:(B.pr && pr)=true→dY S (B.cells.take (mN*p.size)++M) (vs.take (mN*p.size)++c):=by
     intro hh;simp only [π] at hh;exact lH (kK _ (k3 hh.1)) (hp hh.2)
    have h1:∀ u ∈ vs.take (mN*p.size)++c,u.oneCell'=true:=by
     intro u C;rcases List.mem_append.1 C with C|C
     ·exact k5 u (Xxl C)
     ·exact hs.one u C
    have K:B.fz≤(B.cells.take (mN*p.size)++M).length:=by
     rw [θ,Xqz];omega
    by_cases hrm:mN+n≤(m b).2
    ·
     by_cases hc0:(m b).2=0
     ·have hm0:mN=0:=by omega
      have N:n=0:=by omega
      subst hm0;subst N;have hnews:c= []:=by have:=hs.newsLen;simpa using this
      subst hnews;have f:=Ce (P:=P) (w:=w) (ty:=ty) (base:=some ⟨(m b).1,o,none⟩) (sLen:=0) (sCap:=(m b).2) ht.und r.info hs (by omega);have l:=h.put b {B with cells:=B.cells.take (0*p.size)++M,ver:=ver+1,pr:=B.pr && pr} (m b).1 (m b).2 (w':=w) (.inr ⟨B,D,rfl⟩) ⟨rfl,rfl,rfl,Δ _,fun _ _ _=>rfl⟩
       ⟨⟨cur,e',_,vs.drop (0*p.size)++rest,jF.of A k1,by rw [k2];simp,W,V,fun _=>h1,k6⟩,k7,K⟩ (fun B0 I=>by rw [D] at I;cases I;exact ⟨rfl,.inr (by simp only;omega)⟩)
       (fun o' u C=> ⟨h.sealed _ _ _ C,(h.own b B D o' u C)⟩)
      refine ⟨_,_,_,f,l.1,l.2, ?_⟩;simp only [VR];refine ⟨_,nT _ _ _,Δ _,⟨_,_,_,rfl⟩,fun _=> ⟨o,by simp [kH],by simp,by simp [kH,hc0],H,A⟩⟩
     ·have X:o=0:=ho (by omega);subst X;have hnl:=hs.newsLen;have hbig:mN*G.size+n*G.size≤(m b).2*G.size:=by rw [← Xxm];exact Nat.mul_le_mul_right _ hrm
      have hcs:cur.size=(m b).2*G.size:=by rw [s1,U,d]
      have f:=wu (P:=P) (w:=w) (ty:=ty) (o:=0) ht.und r.info hs hrm k1 (by simp only [Xqf];omega);simp only [Xqf] at f;have hlist:cur.toList.take (mN*G.size)=vs.take (mN*p.size):=by rw [k2,d,Xxx (by rw [d] at hfit;omega)]
      have l:=h.put b {B with cells:=B.cells.take (mN*p.size)++M,ver:=ver+1,pr:=B.pr && pr} (m b).1 (m b).2 (w':=w.setRow (m b).1 (cur.toList.take (mN*G.size)++c++cur.toList.drop (mN*G.size+c.length)).toArray)
       (.inr ⟨B,D,rfl⟩) ⟨rfl,rfl,rfl,by simp,fun k _ hk=>setRow_other w _ k _ (fun e=>hk (by rw [e]))⟩
       ⟨⟨_,e',_,cur.toList.drop (mN*G.size+c.length),jF.of A (setRow_heap w _ cur _ e' _ k1),by rw [hlist],W,V,fun _=>h1,fun _ _=> ⟨by
        rw [← s1,Xzn];simp only [θ,Xqz,Xxz,Array.length_toList];omega,s2⟩⟩,k7,K⟩ (fun B0 I=>by rw [D] at I;cases I;exact ⟨rfl,.inr (by simp only;omega)⟩)
       (fun o' u C=>by
        obtain ⟨f1,f2⟩:=h.own b B D o' u C;refine ⟨?_,f1,f2⟩;have:=h.sealed _ _ _ C;cases L:u.oneCell' with
        |false=>
         obtain ⟨_,_,hm,_⟩:=uU this L;rw [k1] at hm;cases hm
        |true=>
        have this:=zA this L;rw [tX k1] at this;refine (jF.of A (setRow_heap w _ cur _ e' _ k1)).get ?_ (fun _=>L);simp only [Xqd];rw [Xxd (by simp only [Xqz,Array.length_toList];rw [d] at hfz;omega),List.getElem?_take_of_lt (by rw [d] at hfz;omega)];exact this)
      refine ⟨_,_,_,f,l.1,l.2, ?_⟩;simp only [VR];refine ⟨_,nT _ _ _,Δ _,⟨_,_,_,rfl⟩,fun _=> ⟨0,by simp [kH],by simpa [kH] using hrm,by simp,H,A⟩⟩
    ·
     have hold:(Builtin.firstCells G.size mN (.slice (some ⟨(m b).1,o,none⟩) mN (m b).2)).run P w.drew= .ok (vs.take (mN*p.size)).toArray w.drew:=by
      refine run_firstCells_some w.drew G.size mN ⟨(m b).1,o,none⟩ mN _ _ J ?_;intro j u C;have hjl:=(List.getElem?_eq_some_iff.1 C).1;rw [J] at hjl;have hm0:0<mN:=by
       rcases Nat.eq_zero_or_pos mN with I|I
       ·subst I;simp at hjl
       ·exact I
      have X:o=0:=ho (by omega);subst X;rw [Addr.add_mid,Xqf,tX (w:=w.drew) (j:=j) k1,k2];rw [Xj0] at C;split at C
      ·rw [Xxd (List.getElem?_eq_some_iff.1 C).1];exact C
      ·cases C
     have f:=run_append_grow_src w t tx ty e G R ht.und r.info r.zero (some ⟨(m b).1,o,none⟩) mN (m b).2 _ hold cx n c hs (by omega) (by rw [yN] at hroom;omega) (A7 (by omega) hroom (by omega));have hge:mN+n≤grownCap w (mN+n) (m b).2 e:=grownCap_ge _ _ _ _;have Y:grownCap w (mN+n) (m b).2 e≤maxLen:=grownCap_le_maxLen _ _ _ _ (by rw [yN] at hroom;simp only [maxLen];omega);have l:=h.put b {B with cells:=B.cells.take (mN*p.size)++M,ver:=ver+1,pr:=B.pr && pr} w.heap.size (grownCap w (mN+n) (m b).2 e) (.inl (Δ _))
      (Ee (n_ w (.cells ((vs.take (mN*p.size)++c).toArray++Builtin.zeroCells R.cells (grownCap w (mN+n) (m b).2 e - (mN+n))) e)) _)
      ⟨⟨(vs.take (mN*p.size)++c).toArray++Builtin.zeroCells R.cells (grownCap w (mN+n) (m b).2 e - (mN+n)),e,_,(Builtin.zeroCells R.cells (grownCap w (mN+n) (m b).2 e - (mN+n))).toList,jF.of A (heap_alloc_new w.drew _),by simp,W,V,fun _=>h1,fun _ _=> ⟨by
       simp only [Array.size_append,Xzn,θ,size_zeroCells,hs.newsLen,hzs];rw [J,U,d,← Xxm,← Xxm];congr 1;omega,Y⟩⟩,k7,K⟩ (fun B0 I=>by rw [D] at I;cases I;exact ⟨rfl,.inr (by simp only;omega)⟩)
      (fun o' u C=>absurd (h.seal_lt C) (Xvt _))
     refine ⟨_,_,_,f,l.1,l.2, ?_⟩;simp only [VR];refine ⟨_,nT _ _ _,Δ _,⟨_,_,_,rfl⟩,fun _=> ⟨0,by simp [kH],by simpa [kH] using hge,by simp,H,A⟩⟩
   ·cases E
  ·cases E
end
end AM
namespace AM
open Go
theorem BL (n:Nat) (z:List AV):(gz n z).length=n*z.length:=by simp [gz]
theorem Tt (n:Nat) (z:List AV):gz (n+1) z=z++gz n z:=by simp [gz,Xxc]
theorem LW:∀ (n:Nat) (z:List AV) (i:Nat),i<n*z.length→(gz n z)[i]? =z[i % z.length]?
 |0,z,i,h=>by simp at h
 | n+1,z,i,h=>by
  rw [Tt];by_cases a:i<z.length
  ·rw [Xxd a,Nat.mod_eq_of_lt a]
  ·have a:z.length≤i:=by omega
   rw [List.getElem?_append_right a,LW n z (i - z.length) (by rw [Xxm,Nat.one_mul] at h;omega)];congr 1;rw [← Nat.mod_eq_sub_mod a]
section
variable {P:Program} {ap:AP} {g:dG} {m:aZ} {S:aT} {w:World}
theorem Dq:∀ {l:List AV} {vs:List Value},l.length=vs.length→(∀ (i:Nat) x v,l[i]? =some x→vs[i]? =some v→VR g m S x v)→bi g m S l vs
 | [],[],_,_=>by simp [bi]
 |x::r,v::vs,hl,h=>by
  simp only [bi];exact ⟨h 0 x v rfl rfl,Dq (by simpa using hl) fun i x v a b=>h (i+1) x v (by simpa using a) (by simpa using b)⟩
 | [],_::_,h,_=>by simp at h
 |_::_,[],h,_=>by simp at h
theorem zW (z:Array Value) (n:Nat):(madeCells z n).toList=(List.range n).map fun i=>z[i % z.size]! :=by simp [madeCells]
theorem wI {t:Nat} {h:TI} {i:TypeInfo} {d:TypeDesc} {z:Value} (c:Cm P t h i d z) (n:Nat):bi g m S (gz n h.zero) (madeCells z.cells (n*i.size)).toList:=by
 have k:=qE (g:=g) (m:=m) (S:=S) c;have a:=bV k;simp only [Array.length_toList,c.zsize] at a;refine Dq (by rw [BL,a,Array.length_toList,size_madeCells]) ?_;intro j x v f e;have o:j<n*i.size:=by
  have:=(List.getElem?_eq_some_iff.1 f).1;rw [BL,a] at this;exact this
 rw [LW n h.zero j (by rw [a];exact o),a] at f;rw [zW,c.zsize,Xq3,List.getElem?_range o] at e;simp only [Xje,Option.some.injEq] at e;obtain ⟨q,b,p⟩:=rE k _ f;have l:j % i.size<z.cells.size:=by rw [c.zsize];exact Nat.mod_lt _ c.pos
 simp only [Array.getElem?_toList] at b;rw [getElem!_pos z.cells _ l] at e;rw [Array.getElem?_eq_getElem l] at b;cases b;rw [← e];exact p
theorem H5 {n:Nat} {z:List AV} (h:∀ x ∈ z,oz x=true):∀ x ∈ gz n z,oz x=true:=by
 intro x a;simp only [gz,List.mem_flatten,List.mem_replicate] at a;obtain ⟨l,⟨_,rfl⟩,a⟩:=a;exact h x a
theorem CB:∀ {l:List AV} {vs:List Value},bi g m S l vs→(∀ x ∈ l,oz x=true)→∀ u ∈ vs,u.oneCell'=true
 | [],[],_,_=>by simp
 |x::r,v::vs,h,hl=>by
  simp only [bi] at h;intro u a;rcases List.mem_cons.1 a with rfl|a
  ·exact Nc h.1 (hl x (by simp))
  ·exact CB h.2 (fun y b=>hl y (by simp [b])) u a
 | [],_::_,h,_=>by simp [bi] at h
 |_::_,[],h,_=>by simp [bi] at h
theorem I9 {b vs:List AV} {a:Nat} {x:AV} (h:x ∈ iT b a vs):x ∈ b∨x ∈ vs:=by
 simp only [iT,List.mem_append] at h;rcases h with (h|h)|h
 ·exact .inl (Xxl h)
 ·exact .inr h
 ·exact .inl (Xzk h)
theorem D9:∀ {ps:List (Nat × Nat × AV)} {cells cells':List AV},wF cells ps=some cells'→(∀ x ∈ cells,oz x=true)→∀ x ∈ cells',oz x=true
 | [],cells,cells',h,hl=>by simp [wF] at h;subst h;exact hl
 | (off,size,v)::r,cells,cells',h,hl=>by
  simp only [wF] at h;split at h
  ·rename_i b;simp only [π] at b;refine D9 h fun x a=> ?_
   rcases I9 a with a|a
   ·exact hl x a
   ·exact List.all_eq_true.1 b.2 x a
  ·cases h
theorem QF {nid:Nat} {cells:List AV} {a k c n:Nat} (d:n≤c) (hp:0<a) (b:a ≠ iP):VR (dP g [ji nid cells a]) (kH m nid (k,c)) S (.ref nid 0 0 n) (.slice (some ⟨k,0,none⟩) n c):=by
 simp only [VR];refine ⟨_,nT _ _ _,Xxk _,⟨_,_,_,rfl⟩,fun _=> ⟨0,by simp [kH],by simpa [kH] using d,by simp,hp,b⟩⟩
theorem sF:∀ (a b:List AV),bQ (a++b)=bQ a++bQ b
 | [],b=>by simp [bQ]
 |x::r,b=>by simp [bQ,sF r b]
theorem HY (z:List AV) (h:bQ z= []):∀ n,bQ (gz n z)= []
 |0=>by simp [gz,bQ]
 |n+1=>by
  have a:=HY z h n;simp only [gz,Xxc,List.flatten_cons,sF,h,Xqk] at a ⊢;exact a
theorem Ot (nid n a:Nat) (z:List AV) (h:(bQ z).isEmpty=true):(nid,(⟨gz n z,0,false,0,a,true⟩:bg))=ji nid (gz n z) a:=by
 have b:bQ z= []:=by simpa using h
 simp [ji,HY z b n]
theorem zX (C:iY P ap) (h:bU ap g m S w) {nid:Nat} (U:g nid=none) {t:Nat} {O:TI} {i:TypeInfo} {d:TypeDesc} {z:Value} (M:Cm P t O i d z) {l c:AV} {cl K:Value} (I:VR g m S l cl) (J:VR g m S c K)
  {v:AV} {ups:List (Nat × bg)} {bs:List Bool} (k:xk ap nid O l c=some (v,ups,bs)) (j:∀ b ∈ bs,b=true):
  ∃ cv m' w',(Instr.makeSlice t cl K).run P w= .ok cv w'∧bU ap (dP g ups) m' S w'∧Fr g m S w (dP g ups) m' S w'∧VR (dP g ups) m' S v cv:=by
 unfold xk at k;split at k
 ·rename_i e T l V c hd;have R:=bind_some k;clear k;obtain ⟨p,a,k⟩:=R;obtain ⟨n,W,D,a⟩:=dX C a;split at k
  ·rename_i f;simp only [π] at f;have A:=f.2;have f:=f.1;have q:=gq f.1.1;have u:=gp f.2;rw [Ot _ _ _ _ A] at k;cases k;obtain ⟨s,j⟩:=cZ j;obtain ⟨y,j⟩:=cZ j;obtain ⟨N,_⟩:=cZ j;have s:0≤l:=of_decide_eq_true s;have y:l=c:=of_decide_eq_true y;have N:l≤2^40:=of_decide_eq_true N;subst y;simp only [VR,PR] at I J;subst I;subst J;rw [M.d_eq] at hd;have hd:=gZ hd;subst hd;have r:(n.bytes:Int)*l≤281474976710656:=by
    have F:(n.bytes:Int)≤128:=by rw [← a.bytes];exact_mod_cast u
    have L:(n.bytes:Int)*l≤128*l:=Int.mul_le_mul_of_nonneg_right F s;have Q:(2:Int)^40=1099511627776:=by decide
    omega
   have G:l≤9223372036854775807:=by
    have Q:(2:Int)^40=1099511627776:=by decide
    omega
   have o:=run_make (P:=P) w t e n D M.und a.info a.zero T V l l s (Int.le_refl _) r G;have B:bi g m S (gz l.toNat p.zero) (madeCells D.cells (l.toNat*n.size)).toList:=wI a _;have E:∀ x ∈ gz l.toNat p.zero,oz x=true:=H5 a.zleaf;have H:=h.fresh (nid:=nid) U (ji nid (gz l.toNat p.zero) p.size).2 (by have F:=a.small;have L:=a.size;show p.size ≠ iP;omega) l.toNat (w':=w.alloc (.cells (madeCells D.cells (l.toNat*n.size)) e)) (World.grownBy_alloc w _ none) (heap_alloc_new w _) (fun _=>rfl) (Xxk _)
    (rest:= []) (by rw [Γ]) (fun hp=>fV _ B (qK hp)) B (CB B E) (fun _=> ⟨by rw [size_madeCells];simp [ji,a.size],by simp only [maxLen];omega⟩)
   refine ⟨_,_,_,o,H.1,H.2, ?_⟩;exact QF (Δ _) q (by have F:=a.small;have L:=a.size;omega)
  ·cases k
 ·cases k
theorem FD {t e:TypeId} {i:TypeInfo} {z:Value} (h:P.underlying t=some (.slice e)) (j:P.info? e=some i) (c:i.zero=some z) {a:Nat} (d:a*i.size≤2^24) (k:a*i.size ≠ 0) {parts:Array (Nat × Value)} {cells:Array Value}
  (hf:Instr.fill (fun f=>some (f*i.size,i.size)) (madeCells z.cells (a*i.size)) parts.toList=some cells):
  (Instr.buildSlice t a parts).run P w= .ok (.slice (some ⟨w.heap.size,0,none⟩) a a) (w.alloc (.cells cells e)):=by
 have b:¬ (a*i.size>2^24):=by omega
 unfold madeCells at hf;simp only [Instr.buildSlice,Sem.run_bind,run_underlying h,Result.andThen_ok];simp [Go.sizeOf,typeInfo,j,zeroValue,c,k,newRow];rw [if_neg (by simpa using b)];simp [hf]
theorem Cf {t e:TypeId} {i:TypeInfo} (c:P.underlying t=some (.slice e)) (d:P.info? e=some i) {a:Nat} (f:a*i.size=0) {parts:Array (Nat × Value)} {cells:Array Value}
  (hf:Instr.fill (fun b=>some (b*i.size,i.size)) #[] parts.toList=some cells):
  (Instr.buildSlice t a parts).run P w= .ok (.slice (some ⟨w.heap.size,0,none⟩) a a) (w.alloc (.cells cells e)):=by
 simp [Instr.buildSlice,run_underlying c,Go.sizeOf,typeInfo,d,f,newRow,Array.range_zero',hf]
theorem xU (y:iY P ap) (h:bU ap g m S w) {nid:Nat} (L:g nid=none) {t:Nat} {F:TI} {i:TypeInfo} {d:TypeDesc} {z:Value} (A:Cm P t F i d z) {b:Nat} {ps:List (Nat × AV)} {qs:Array (Nat × Value)} (H:xM g m S ps qs.toList)
  {v:AV} {ups:List (Nat × bg)} {bs:List Bool} (c:tK ap nid F b ps=some (v,ups,bs)):
  ∃ cv m' w',(Instr.buildSlice t b qs).run P w= .ok cv w'∧bU ap (dP g ups) m' S w'∧Fr g m S w (dP g ups) m' S w'∧VR (dP g ups) m' S v cv:=by
 unfold tK at c;split at c
 ·rename_i e hd;have l:=bind_some c;clear c;obtain ⟨o,a,c⟩:=l;obtain ⟨r,N,J,a⟩:=dX y a;split at c
  ·rename_i k;simp only [π] at k;have f:=gq k.1.1;have s:=gp k.1.2;have l:=bind_some c;clear c;obtain ⟨cs,p,c⟩:=l;cases c;rw [A.d_eq] at hd;have hd:=gZ hd;subst hd;have C:bi g m S (gz b o.zero) (madeCells J.cells (b*r.size)).toList:=wI a _;obtain ⟨j,q,u,K⟩:=pM _ qs.toList _ cs _ (rY (size:=o.size) H) C p;rw [a.size] at q;have n:(Instr.buildSlice t b qs).run P w= .ok (.slice (some ⟨w.heap.size,0,none⟩) b b) (w.alloc (.cells j e)):=by
    by_cases h0:b*r.size=0
    ·exact Cf A.und a.info h0 (by rw [h0] at q;simpa [madeCells,Array.range_zero'] using q)
    ·exact FD A.und a.info a.zero (by rw [← a.size];exact s) h0 q
   have B:∀ x ∈ cs,oz x=true:=D9 p (H5 a.zleaf);have D:j.size=b*r.size:=by rw [K,size_madeCells]
   have E:=h.fresh (nid:=nid) L (ji nid cs o.size).2 (by have G:=a.small;have I:=a.size;show o.size ≠ iP;omega) b (w':=w.alloc (.cells j e)) (World.grownBy_alloc w _ none) (heap_alloc_new w _) (fun _=>rfl) (Xxk _)
    (rest:= []) (by rw [Γ]) (fun hp=>fV _ u (qK hp)) u (CB u B) (fun _=> ⟨by rw [D];simp [ji,a.size],by
     have G:b≤b*o.size:=Nat.le_mul_of_pos_right _ f;have M:(2:Nat)^24=16777216:=by decide
     simp only [maxLen];omega⟩)
   refine ⟨_,_,_,n,E.1,E.2, ?_⟩;exact QF (Δ _) f (by have G:=a.small;have I:=a.size;omega)
  ·cases c
 ·cases c
theorem XN {d:TypeDesc} {k e:Nat} (h:jY P (some d)= .map k e):d= .map k e:=by cases d<;>simp [jY] at h;obtain ⟨rfl,rfl⟩:=h;rfl
theorem Sz {k:LK} {x y:AV} {u v:Value} (a:He k x=true) (b:He k y=true) (c:VR g m S x u) (d:VR g m S y v):
  sU k u v=some (D8 x y)∧(D8 x y=true→u=v)∧(∀ n,Instr.sameBits n u u=true)∧d_ x= []:=by
 cases k<;>cases x<;>simp [He] at a<;>cases y<;>simp [He] at b<;>simp only [VR,PR] at c d<;>subst c<;>subst d
 ·refine ⟨by simp [sU,D8,a,b],fun h=> ?_,fun n=>by simp [Instr.sameBits],rfl⟩;simp only [D8,beq_iff_eq] at h;rw [← gm a,← gm b,h]
 ·refine ⟨by simp [sU,D8],fun h=> ?_,fun n=>by simp [Instr.sameBits],rfl⟩;simp only [D8,beq_iff_eq] at h;rw [h]
 ·refine ⟨by simp [sU,D8,xH],fun h=> ?_,fun n=>by cases n<;>simp [Instr.sameBits,MapKept.bytes_beq],rfl⟩;simp only [D8,beq_iff_eq] at h;rw [h]
theorem ou:∀ {lks:List LK} {a b:List AV} {c d:List Value},ni lks a=true→ni lks b=true→bi g m S a c→bi g m S b d→
  dR lks c d=some (II a b)∧(II a b=true→c=d)∧(∀ n,∀ x ∈ c,Instr.sameBits n x x=true)∧bQ a= []
 | [],[],[],[],[],_,_,_,_=> ⟨rfl,fun _=>rfl,by simp,rfl⟩
 | k::lks,x::a,y::b,u::c,v::d,ha,hb,h1,h2=>by
  simp only [ni,π] at ha hb;simp only [bi] at h1 h2;obtain ⟨j,f,l,q⟩:=Sz ha.1 hb.1 h1.1 h2.1;obtain ⟨i,r,o,p⟩:=ou ha.2 hb.2 h1.2 h2.2;refine ⟨by simp [dR,j,i,II],fun h=> ?_,fun n z e=> ?_,by simp [bQ,q,p]⟩
  ·simp only [II,π] at h;rw [f h.1,r h.2]
  ·rcases List.mem_cons.1 e with rfl|e
   ·exact l n
   ·exact o n z e
 | [],_::_,_,_,_,ha,_,_,_=>by simp [ni] at ha
 |_::_,[],_,_,_,ha,_,_,_=>by simp [ni] at ha
 | [],[],_::_,_,_,_,hb,_,_=>by simp [ni] at hb
 |_::_,_::_,[],_,_,_,hb,_,_=>by simp [ni] at hb
 | [],[],[],_::_,_,_,_,h1,_=>by simp [bi] at h1
 | [],[],[],[],_::_,_,_,_,h2=>by simp [bi] at h2
 |_::_,_::_,_::_,[],_,_,_,h1,_=>by simp [bi] at h1
 |_::_,_::_,_::_,_::_,[],_,_,_,h2=>by simp [bi] at h2
def ab6 (P:Program) (n:Nat) (t:TypeId) (lks:List LK):Prop:=
 ∀ (em:Bool) (d:Nat) (w:World) (xs:List Value),n≤d→dR lks xs xs=some true→(Instr.checkKey em d t (uO P t xs)).run P w= .ok () w
theorem ui {lks:List LK} {a:List Value} {r:Bool} (h:dR lks a a=some r):dR lks a a=some true:=by
 induction lks generalizing a r with
 |nil=>cases a<;>simp [dR] at h ⊢
 | cons k lks ih=>
  cases a with
  |nil=>simp [dR] at h
  | cons x a=>
   simp only [dR] at h ⊢;obtain ⟨c,b,h⟩:=bind_some h;rw [Xqp] at h;obtain ⟨d,hd,rfl⟩:=h;have e:sU k x x=some true:=by
    cases k<;>cases x<;>simp [sU] at b ⊢
    split at b
    ·rename_i f;simp [f]
    ·cases b
   simp [e,ih hd]
theorem qZ {n:Nat} (v:∀ t lks,jH P n t=some lks→ab6 P n t lks):∀ (fs:List Field) (off:Nat) (lks:List LK),xZ P (jH P n) fs off=some lks→
  ∀ (em:Bool) (d:Nat) (w:World) (xs:List Value),n≤d→xs.length=off+lks.length→dR lks (xs.drop off) (xs.drop off)=some true→
   (forIn (m:=Sem) fs PUnit.unit fun f _=>do
    if f.name ≠ "_" then Instr.checkKey em d f.type (← part f.type xs.toArray f.offset)
    pure (ForInStep.yield PUnit.unit)).run P w= .ok PUnit.unit w
 | [],off,lks,hc,em,d,w,xs,hd,hx,h=>by simp
 | f ::fs,off,lks,hc,em,d,w,xs,hd,hx,h=>by
  simp only [xZ] at hc;cases j:jH P n f.type with
  |none=>simp [j] at hc
  | some l=>
   simp only [j] at hc;split at hc
   ·rename_i hcond;simp only [π,Xqo] at hcond;obtain ⟨⟨u,s⟩,c⟩:=hcond;cases r:xZ P (jH P n) fs (off+l.length) with
    |none=>simp [r] at hc
    | some l'=>
     simp only [r] at hc;cases hc;cases k:P.info? f.type with
     |none=>simp [k] at c
     |some i=>
      simp only [k] at c;have c:=aJ c;have s:=aJ s;have p:f.name ≠ "_" :=by intro e;rw [e] at u;exact absurd u (by decide)
      simp only [θ] at hx;obtain ⟨a,b,o,q,x⟩:=rM l l' _ _ true h;have o:=ui o;have q:=ui q;have z:=uK j k c xs off (by omega) w;have y:=v f.type l j em d w _ hd o;have A:=qZ v fs (off+l.length) l' r em d w xs hd (by omega) (by simpa [Xjm,Nat.add_comm] using q);simp only [List.forIn_cons,Sem.run_bind,p,ne_eq,not_false_eq_true,if_true,Result.andThen_ok,s,z,y,Sem.run_pure];simpa using A
   ·cases hc
theorem J8:∀ (n:Nat) (t:TypeId) (lks:List LK),jH P n t=some lks→ab6 P n t lks
 |0,_,_,h=>by simp [jH] at h
 | n +1,t,lks,h=>by
  intro e d w c hd b;obtain ⟨d,rfl⟩:∃ k,d=k+1:=⟨d - 1,by omega⟩
  have f:=qh _ _ _ _ b;unfold jH at h;cases a:P.underlying t with
  |none=>simp [a] at h
  | some ds=>
   unfold Instr.checkKey;simp only [Sem.run_bind,run_underlying a,Result.andThen_ok,uO,a];cases ds<;>simp only [a] at h<;>try cases h
   case struct fs=>
    split at h
    ·cases h
    ·have:=qZ (J8 n) fs.toList 0 lks h e d w c (by omega) (by simp [f.1]) (by simpa using b);simp only [← Array.forIn_toList];simpa using this
   all_goals (cases c.headD undef<;>simp)
theorem Eo (f:iY P ap) {t:Nat} {j:TI} (h:ap.tyAt t=some j) {a b:List AV} {c k:List Value} (d:j.cmp=true) (e:ni j.lks a=true) (s:ni j.lks b=true) (o:bi g m S a c) (x:bi g m S b k) (u:∃ v,P.underlying t=some (.struct v)):
  (∀ n,(Instr.checkKey n 10000 t (.agg c.toArray)).run P w= .ok () w)∧(Op.equal t (.agg c.toArray) (.agg k.toArray)).run P w= .ok (II a b) w:=by
 obtain ⟨v,u⟩:=u;rw [(yX f h).1] at d;rw [(yX f h).2] at e s;unfold YF at d;cases i:jH P 8 t with
 |none=>simp [i] at d
 |some l=>
  simp only [i,π,Xqo] at d;have p:=EC d.1;rw [← p] at e s;have q:=DN 8 t l i 10000 w c k _ (by omega) (ou e s o x).1;have r:=fun n=>J8 8 t l i n 10000 w c (by omega) (ui (ou e e o o).1)
  simp only [uO,u] at q r;exact ⟨r,q⟩
theorem Bl {b:TI} {d:TypeDesc} (hd:b.d=jY P (some d)) (hs:∀ fs,d ≠ .struct fs) {x:AV} {v:Value} (h:kU b x=true) (a:VR g m S x v):MapKept.IsKey d v:=by
 unfold kU at h;rw [hd] at h;cases d<;>simp only [jY] at h<;>cases x<;>simp at h<;>simp only [VR,PR] at a<;>first|(exact absurd rfl (hs _))|(subst a;simp only [MapKept.IsKey])
 exact (gm h).symm
theorem VA {f:TI} {d:TypeDesc} (hd:f.d=jY P (some d)) (hs:∀ fs,d ≠ .struct fs) {x y:AV} {u v:Value} (c:kU f x=true) (e:kU f y=true) (h:VR g m S x u) (i:VR g m S y v):Instr.sameNow d u v=some (wZ x y):=by
 unfold kU at c e;rw [hd] at c e;cases d<;>simp only [jY] at c e<;>cases x<;>simp at c<;>cases y<;>simp at e<;>simp only [VR,PR] at h i<;>first|(exact absurd rfl (hs _))|(subst h;subst i;simp only [Instr.sameNow,wZ])
 ·rw [if_pos ((gm c).symm.trans (gm e))]
 ·rename_i a b;congr 1;rw [Bool.eq_iff_iff,MapKept.bytes_beq];simp
theorem EF (h:bU ap g m S w) {rd:dG} (l:∀ b B,rd b=some B→g b=some B) {x:AV} {s:Value} (p:VR g m S x s) {q:List AV × List AV} (a:V_ rd x=some q):
  ∃ d:Array MapEntry,((s= .map none∧d=#[])∨∃ b c,s= .map (some b)∧w.heap[b]? =some (.map d c))∧bi g m S q.1 (d.toList.map (·.key))∧bi g m S q.2 (d.toList.map (·.val)):=by
 unfold V_ at a;split at a
 ·rename_i ks vs;cases a;simp only [VR,PR] at p;rcases p with ⟨rfl,rfl,rfl⟩|⟨b,y,u,rfl,C,E,r,t⟩
  ·exact ⟨#[],.inl ⟨rfl,rfl⟩,by simp [bi],by simp [bi]⟩
  ·obtain ⟨d,c,o,f⟩:=uU (h.sealed _ _ _ C) rfl;obtain ⟨D,clk',n,j⟩:=uU (h.sealed _ _ _ E) rfl;rw [o] at n;cases n;have f:Value.agg (d.map (·.key))= .agg y.toArray:=Option.some.inj f;have j:Value.agg (d.map (·.val))= .agg u.toArray:=Option.some.inj j;have f:=Value.agg.inj f;have j:=Value.agg.inj j;refine ⟨d,.inr ⟨b,c,rfl,o⟩, ?_, ?_⟩
   ·rw [← Array.toList_map,f];exact bW _ r
   ·rw [← Array.toList_map,j];exact bW _ t
 ·rename_i b ver;have A:=bind_some a;clear a;obtain ⟨B,v,a⟩:=A;split at a
  ·rename_i i;simp only [π] at i;split at a
   ·rename_i ks vs hcells;cases a;simp only [VR] at p;obtain ⟨B',k,_,_,q⟩:=p;rw [l b B v] at k;cases k;have q:=q (aJ i.1);obtain ⟨⟨cur,e,z,rest,k1,k2,_,k4,_,_⟩,_,_⟩:=h.blk b B (l b B v);obtain ⟨d,c,o,rfl⟩:=k1.map (aJ i.2);rw [hcells] at k4
    match z,k4 with
    | [u0,u1],k4=>
     simp only [bi,VR,and_true] at k4;obtain ⟨⟨y,rfl,r⟩,u,rfl,t⟩:=k4;simp only [xm,Xq9,List.cons.injEq] at k2;have f:=Value.agg.inj k2.1;have j:=Value.agg.inj k2.2.1;refine ⟨d,.inr ⟨_,c,q,o⟩, ?_, ?_⟩
     ·rw [← Array.toList_map,f];exact r
     ·rw [← Array.toList_map,j];exact t
    | [],k4=>simp [bi] at k4
    | [_],k4=>simp [bi] at k4
    |_::_::_::_,k4=>simp [bi] at k4
   ·cases a
  ·cases a
 ·cases a
structure Ye (P:Program) (g:dG) (m:aZ) (S:aT) (w:World) (t:Nat) (ti:TI) (d:TypeDesc) (k:AV) (ck:Value):Prop where
 chk:∀ em,(Instr.checkKey em 10000 t ck).run P w= .ok () w
 stay:(Instr.keyThatStays ck ck).run P w= .ok ck w
 eqs:∀ {k' ck'},kU ti k'=true→VR g m S k' ck'→((match d with| .struct _=>(Op.equal t ck ck').run P w= .ok (wZ k k') w|_=>Instr.sameNow d ck ck'=some (wZ k k'))∧(wZ k k'=true→ck=ck'))
theorem Hf (B:iY P ap) {t:Nat} {v:TI} {i:TypeInfo} {d:TypeDesc} {z:Value} (C:ap.tyAt t=some v) (s:Cm P t v i d z) {k:AV} {ck:Value} (u:kU v k=true) (D:VR g m S k ck):Ye P g m S w t v d k ck:=by
 by_cases hs:∃ o,d= .struct o
 ·obtain ⟨o,rfl⟩:=hs;have hd:=s.d_eq;have I:∀ {x:AV},kU v x=true→∃ l,x= .agg l∧v.cmp=true∧ni v.lks l=true:=by
   intro x j;unfold kU at j;rw [hd] at j;cases x<;>simp [jY] at j
   exact ⟨_,rfl,j⟩
  obtain ⟨l,rfl,J,y⟩:=I u;have R:=D;simp only [VR] at D;obtain ⟨F,rfl,j⟩:=D;refine ⟨(Eo B C J y y j j ⟨o,s.und⟩).1, ?_, ?_⟩
  ·have T:Instr.sameBits 10000 (.agg F.toArray) (.agg F.toArray)=true:=by
    show Instr.sameBits (9999+1) _ _=true;have N:=(ou y y j j).2.2.1 9999;simp only [Instr.sameBits,beq_self_eq_true,Bool.true_and,List.all_eq_true];intro p hp;obtain ⟨a,b⟩:=p;have W:∀ l:List Value,(a,b) ∈ l.zip l→a=b∧a ∈ l:=by
     intro l
     induction l with
     |nil=>intro h;simp at h
     |cons c l ih=>
      intro h;simp only [List.zip_cons_cons,List.mem_cons,Prod.mk.injEq] at h;rcases h with ⟨rfl,rfl⟩|h
      ·exact ⟨rfl,by simp⟩
      ·exact ⟨(ih h).1,List.mem_cons_of_mem _ (ih h).2⟩
    obtain ⟨rfl,O⟩:=W F hp;exact N a O
   simp [Instr.keyThatStays,T]
  ·intro V G f n;obtain ⟨Y,rfl,_,E⟩:=I f;simp only [VR] at n;obtain ⟨X,rfl,K⟩:=n;refine ⟨(Eo B C J y E j K ⟨o,s.und⟩).2,fun H=> ?_⟩;rw [(ou y E j K).2.1 H]
 ·have hs:∀ o,d ≠ .struct o:=fun o e=>hs ⟨o,e⟩
  have q:=Bl s.d_eq hs u D;refine ⟨fun U=>MapKept.run_checkKey s.und q U 9999,MapKept.run_keyThatStays q, ?_⟩;intro V G f n;have L:=VA s.d_eq hs u f D n;have Q:=MapKept.sameNow_of_keys q (Bl s.d_eq hs f n);refine ⟨?_,fun H=> ?_⟩
  ·cases d<;>first|exact L|exact absurd rfl (hs _)
  ·obtain ⟨r,M,A⟩:=Q;rw [L] at M;cases M;exact A.1 H
def jZ (P:Program) (w:World) (t:Nat) (d:TypeDesc) (ck:Value) (l:List MapEntry) (i:Nat) (r:Option (Nat × Value)):Prop:=
 match d with
 | .struct _=>(Instr.findAsking t ck l i).run P w= .ok r w
 |_=>Instr.findNow d ck l i=some r
theorem jZ.nil {t:Nat} {d:TypeDesc} {ck:Value} {i:Nat}:jZ P w t d ck [] i none:=by
 unfold jZ;cases d<;>first|rfl|simp [Instr.findAsking]
theorem jZ.hit {t:Nat} {c:TI} {d:TypeDesc} {k a:AV} {ck:Value} {e:MapEntry} {l:List MapEntry} {i:Nat} (h:Ye P g m S w t c d k ck) (b:kU c a=true) (j:VR g m S a e.key) (f:wZ k a=true):jZ P w t d ck (e::l) i (some (i,e.val)):=by
 have q:=(h.eqs b j).1;rw [f] at q;unfold jZ;cases d<;>simp only at q ⊢ <;>first|(simp [Instr.findAsking,q];done)|(simp [Instr.findNow,q];done)
theorem jZ.miss {t:Nat} {f:TI} {d:TypeDesc} {k b:AV} {ck:Value} {e:MapEntry} {l:List MapEntry} {i:Nat} {r:Option (Nat × Value)} (h:Ye P g m S w t f d k ck) (c:kU f b=true) (n:VR g m S b e.key) (j:wZ k b=false) (a:jZ P w t d ck l (i+1) r):jZ P w t d ck (e::l) i r:=by
 have q:=(h.eqs c n).1;rw [j] at q;unfold jZ at a ⊢;cases d<;>simp only at q a ⊢ <;>first|(simp [Instr.findAsking,q,a];done)|(simp [Instr.findNow,q,a];done)
theorem jZ.run {t:Nat} {c:TI} {i:TypeInfo} {d:TypeDesc} {z:Value} (b:Cm P t c i d z) {ck:Value} {l:List MapEntry} {r:Option (Nat × Value)} (h:jZ P w t d ck l 0 r):(Instr.findKey t ck l).run P w= .ok r w:=by
 by_cases hs:∃ a,d= .struct a
 ·obtain ⟨a,rfl⟩:=hs;simp only [jZ] at h;cases l with
  |nil=>
   simp [Instr.findAsking] at h;subst h;simp [Instr.findKey,run_underlying b.und,Result.andThen,Instr.findNow]
  |cons e l=>
   simp only [Instr.findKey,Sem.run_bind,run_underlying b.und,Result.andThen_ok,Instr.findNow,Instr.sameNow];exact h
 ·have hs:∀ a,d ≠ .struct a:=fun a e=>hs ⟨a,e⟩
  refine MapKept.run_findKey b.und ?_;unfold jZ at h;cases d<;>first|exact h|exact absurd rfl (hs _)
theorem uk {t:Nat} {p:TI} {d:TypeDesc} {k v:AV} {ck cv:Value} (c:Ye P g m S w t p d k ck) (q:VR g m S v cv):∀ (l:List MapEntry) (ks vs:List AV) (i:Nat),bi g m S ks (l.map (·.key))→bi g m S vs (l.map (·.val))→ks.all (kU p)=true→
  (jZ P w t d ck l i none∧dV ks vs k=none∧ks.any (wZ k)=false∧oW ks vs k v=vs++ [v])∨
  ∃ j e x,jZ P w t d ck l i (some (i+j,e.val))∧l[j]? =some e∧e.key=ck∧dV ks vs k=some x∧VR g m S x e.val∧ks.any (wZ k)=true∧bi g m S (oW ks vs k v) ((l.set j {e with key:=ck,val:=cv}).map (·.val))
 | [],ks,vs,i,h1,h2,_=>by
  cases ks with
  |cons _ _=>simp [bi] at h1
  |nil=>
   cases vs with
   |cons _ _=>simp [bi] at h2
   |nil=>exact .inl ⟨jZ.nil,rfl,rfl,rfl⟩
 | e ::l,ks,vs,i,h1,h2,ha=>by
  cases ks with
  |nil=>simp [bi] at h1
  | cons k0 ks=>
   cases vs with
   |nil=>simp [bi] at h2
   | cons v0 vs=>
    simp only [Xqh,bi] at h1 h2;simp only [Xxs,π] at ha;cases a:wZ k k0 with
    |true=>
     have b:e.key=ck:=((c.eqs ha.1 h1.1).2 a).symm;refine .inr ⟨0,e,v0,jZ.hit c ha.1 h1.1 a,rfl,b, ?_,h2.1, ?_, ?_⟩
     ·simp [dV,a]
     ·simp [a]
     ·simp only [oW,a,List.set_cons_zero,Xqh,bi];exact ⟨q,h2.2⟩
    | false=>
     rcases uk c q l ks vs (i+1) h1.2 h2.2 ha.2 with ⟨h,n,o,f⟩|⟨j,e',x,h,n,o,f,s,r,u⟩
     ·refine .inl ⟨jZ.miss c ha.1 h1.1 a h, ?_, ?_, ?_⟩
      ·simp [dV,a,n]
      ·simp only [Xvv,a,o];rfl
      ·simp [oW,a,f]
     ·refine .inr ⟨j+1,e',x, ?_,by simpa using n,o, ?_,s, ?_, ?_⟩
      ·rw [show i+(j+1)=i+1+j by omega];exact jZ.miss c ha.1 h1.1 a h
      ·simp [dV,a,f]
      ·simp only [Xvv,a,r];rfl
      ·simp only [oW,a,List.set_cons_succ,Xqh,bi];exact ⟨h2.1,u⟩
theorem Bv {ok:Bool} {o:Option AV} {z:AV} {u c:Value} {b:Bool} (h:(o=none∧u=c∧b=false)∨∃ x,o=some x∧VR g m S x u∧b=true) (d:VR g m S z c):VR g m S (Qe ok o z) (if ok then .tuple #[u,.bool b] else u):=by
 have a:VR g m S (o.getD z) u∧o.isSome=b:=by
  rcases h with ⟨rfl,rfl,rfl⟩|⟨x,rfl,e,rfl⟩
  ·exact ⟨d,rfl⟩
  ·exact ⟨e,rfl⟩
 cases ok with
 |true=>
  simp only [Qe,if_true,VR];refine ⟨[u,.bool b],rfl, ?_⟩;simp only [bi,VR,PR,and_true];exact ⟨a.1,by rw [a.2]⟩
 |false=>simpa [Qe] using a.1
theorem Gi (o:iY P ap) (h:bU ap g m S w) {rd:dG} (G:∀ b B,rd b=some B→g b=some B) {t:Nat} {J:TI} {i:TypeInfo} {d:TypeDesc} {z:Value} (A:Cm P t J i d z) {x k v:AV} {K ck:Value} (R:VR g m S x K) (I:VR g m S k ck) {ok:Bool}
  {ups:List (Nat × bg)} {bs:List Bool} (c:I5 ap J rd x k ok=some (v,ups,bs)) (p:∀ b ∈ bs,b=true):
  ups= []∧∃ cv,(Instr.lookup t K ck ok).run P w= .ok cv w∧VR g m S v cv:=by
 unfold I5 at c;split at c
 ·rename_i Z et hd;have n:=bind_some c;clear c;obtain ⟨tk,a,c⟩:=n;have n:=bind_some c;clear c;obtain ⟨te,f,c⟩:=n;have n:=bind_some c;clear c;obtain ⟨q,n,c⟩:=n;have H:=bind_some c;clear c;obtain ⟨W,F,c⟩:=H;obtain ⟨rfl,rfl,rfl⟩:=aP c;have D:=a;obtain ⟨ik,dk,Y,a⟩:=dX o a;obtain ⟨X,de,Q,f⟩:=dX o f;rw [A.d_eq] at hd;have hd:=XN hd;subst hd;obtain ⟨U,p⟩:=cZ p;obtain ⟨M,_⟩:=cZ p;obtain ⟨O,s,v1,T⟩:=EF h G R n;have l:=Hf (w:=w) o D a U I;have u:VR g m S W Q:=xn f F;refine ⟨rfl, ?_⟩;rcases uk l I O.toList q.1 q.2 0 v1 T M with ⟨r,N,_,_⟩|⟨j,e,y,r,_,_,L,V,_,_⟩
  ·refine ⟨_, ?_,Bv (.inl ⟨N,rfl,rfl⟩) u⟩;rcases s with ⟨rfl,rfl⟩|⟨b,C,rfl,E⟩
   ·simp [Instr.lookup,run_underlying A.und,l.chk,r.run a,zeroValue,typeInfo,f.info,f.zero,Result.andThen]
   ·simp [Instr.lookup,run_underlying A.und,MapKept.run_getObj_map E,l.chk,r.run a,zeroValue,typeInfo,f.info,f.zero,Result.andThen]
  ·refine ⟨_, ?_,Bv (.inr ⟨y,L,V,rfl⟩) u⟩;rcases s with ⟨rfl,rfl⟩|⟨b,C,rfl,E⟩
   ·have r:=r.run a;simp [Instr.findKey,run_underlying a.und,Result.andThen,Instr.findNow] at r
   ·simp [Instr.lookup,run_underlying A.und,MapKept.run_getObj_map E,l.chk,r.run a,Result.andThen]
 ·cases c
mutual
theorem Ph {S:aT}:∀ (x:AV) {v:Value},PR S x v→d_ x= []
 | .int _ _,_,_=>rfl
 | .bool _,_,_=>rfl
 | .str _,_,_=>rfl
 | .nilS,_,_=>rfl
 | .nilP,_,_=>rfl
 | .nilF,_,_=>rfl
 | .nilI,_,_=>rfl
 | .sl _ _ _,_,_=>rfl
 | .pp _ _,_,_=>rfl
 | .mp _ _,_,_=>rfl
 | .dead,_,_=>rfl
 | .own _ _ _,_,p=>by simp only [PR] at p
 | .ref _ _ _ _,_,p=>by simp only [PR] at p
 | .ptr _ _ _,_,p=>by simp only [PR] at p
 | .mr _ _,_,p=>by simp only [PR] at p
 | .agg l,_,p=>by
  simp only [PR] at p;simp only [d_];obtain ⟨_,_,q⟩:=p;exact qB l q
 | .tup l,_,p=>by
  simp only [PR] at p;simp only [d_];obtain ⟨_,_,q⟩:=p;exact qB l q
 | .fn f a c,_,p=>by
  simp only [PR] at p;simp only [d_];obtain ⟨_,_,_,q,r⟩:=p;rw [qB a q,qB c r];rfl
 | .ifc t x,_,p=>by
  simp only [PR] at p;simp only [d_];obtain ⟨_,_,q⟩:=p;exact Ph x q
theorem qB {S:aT}:∀ (l:List AV) {vs:List Value},dY S l vs→bQ l= []
 | [],_,_=>rfl
 |x::r,v::vs,p=>by simp only [dY] at p;simp only [bQ,Ph x p.1,qB r p.2,Γ]
 |_::_,[],p=>by simp [dY] at p
end
theorem Hr (h:bU ap g m S w) {b:Nat} {B:bg} {a:Array MapEntry} {clk':Nat} {k:Nat} {w':World} (p:w'.heap[k]? =some (.map a clk')) (d:B.esz=iP) {ks vs:List AV} (f:B.cells= [.agg ks,.agg vs]) (n:bi g m S ks (a.toList.map (·.key))) (o:bi g m S vs (a.toList.map (·.val))) (hp:B.pr=true→bQ vs= []∧bQ ks= []) (e:B.fro=false→B.fz=0) (i:B.fz≤2) (c:Nat):Rf g m S w' B k c:=by
 refine ⟨⟨xm a,0,[.agg (a.map (·.key)),.agg (a.map (·.val))],[],.inr ⟨d,a,clk',p,rfl⟩,rfl, ?_, ?_,fun j=>absurd d j,fun _ j=>absurd d j⟩,e,by rw [f];exact i⟩
 ·intro l;obtain ⟨r,q⟩:=hp l;rw [f];simp only [dY,PR,and_true];exact ⟨⟨(a.map (·.key)).toList,by rw [Array.toArray_toList],by rw [Array.toList_map];exact fV _ n q⟩,(a.map (·.val)).toList,by rw [Array.toArray_toList],by rw [Array.toList_map];exact fV _ o r⟩
 ·rw [f];simp only [bi,VR,and_true];exact ⟨⟨(a.map (·.key)).toList,by rw [Array.toArray_toList],by rw [Array.toList_map];exact n⟩,(a.map (·.val)).toList,by rw [Array.toArray_toList],by rw [Array.toList_map];exact o⟩
theorem Gj (h:bU ap g m S w) {nid:Nat} (e:g nid=none) (t:Nat):
  ∃ cv m' w',(Instr.makeMap t none).run P w= .ok cv w'∧bU ap (dP g [(nid,⟨[.agg [],.agg []],0,false,0,iP,true⟩)]) m' S w'∧Fr g m S w (dP g [(nid,⟨[.agg [],.agg []],0,false,0,iP,true⟩)]) m' S w'∧VR (dP g [(nid,⟨[.agg [],.agg []],0,false,0,iP,true⟩)]) m' S (.mr nid 0) cv:=by
 have a:=h.put nid ⟨[.agg [],.agg []],0,false,0,iP,true⟩ w.heap.size 0 (w':=w.alloc (.map #[] 0)) (.inl (Δ _)) (World.grownBy_alloc w _ _)
  (Hr h (b:=nid) (heap_alloc_new w _) rfl rfl (by simp [bi]) (by simp [bi]) (fun _=> ⟨rfl,rfl⟩) (fun _=>rfl) (Xxk _) 0)
  (fun B0 c=>by rw [e] at c;cases c) (fun o v d=>absurd (h.seal_lt d) (Xvt _))
 refine ⟨.map (some w.heap.size),_,_, ?_,a.1,a.2, ?_⟩
 ·simp [Instr.makeMap,Result.andThen]
 ·simp only [VR];exact ⟨_,nT _ _ _,Δ _,⟨_,rfl⟩,fun _=>by simp [kH]⟩
theorem En:∀ (lks:List LK) (l:List AV),ni lks l=true→bQ l= []
 | [],[],_=>rfl
 |k::lks,x::l,h=>by
  simp only [ni,π] at h;have a:d_ x= []:=by cases k<;>cases x<;>first|rfl|(have:=h.1;simp [He] at this)
  simp only [bQ,a,En lks l h.2,Γ]
 | [],_::_,h=>by simp [ni] at h
 |_::_,[],h=>by simp [ni] at h
theorem Am:∀ (l:List AV) (b:TI),l.all (kU b)=true→bQ l= []
 | [],_,_=>rfl
 | x::r,b,h=>by
  simp only [Xxs,π] at h;have c:d_ x= []:=by
   have a:=h.1;unfold kU at a;split at a<;>first|rfl|(cases a;done)|skip
   simp only [π] at a;simp only [d_];exact En _ _ a.2
  simp only [bQ,c,Am r b h.2,Γ]
theorem Fh:∀ (ks vs:List AV) (k v:AV),bQ vs= []→d_ v= []→bQ (oW ks vs k v)= []
 | [],_,k,v,_,h2=>by simp [oW,bQ,h2]
 |_::_,[],k,v,_,h2=>by simp [oW,bQ,h2]
 |k0::ks,v0::vs,k,v,h1,h2=>by
  simp only [bQ,Xj9] at h1;simp only [oW];split
  ·simp [bQ,h1.2,h2]
  ·simp [bQ,h1.1,Fh ks vs k v h1.2 h2]
theorem wO (N:iY P ap) (h:bU ap g m S w) {rd:dG} (K:∀ b B,rd b=some B→g b=some B) {t:Nat} {ti:TI} {i:TypeInfo} {d:TypeDesc} {z:Value} (ht:Cm P t ti i d z) {x k v r:AV} {cx ck cv:Value} (X:VR g m S x cx) (hk:VR g m S k ck) (hv:VR g m S v cv)
  {ups:List (Nat × bg)} {bs:List Bool} (f:Df ap ti rd x k v=some (r,ups,bs)) (I:∀ b ∈ bs,b=true):
  r= .dead∧∃ E w',(Instr.mapUpdate t cx ck cv).run P w= .ok () w'∧bU ap (dP g ups) E S w'∧Fr g m S w (dP g ups) E S w':=by
 unfold Df at f;split at f
 ·rename_i kt et b ver hd;have hq:=bind_some f;clear f;obtain ⟨tk,l,f⟩:=hq;have hq:=bind_some f;clear f;obtain ⟨B,hB,f⟩:=hq;split at f
  ·rename_i p;simp only [π,Xqo] at p;split at f
   ·rename_i ks vs hcells;cases f;have T:=l;obtain ⟨ik,dk,zk,l⟩:=dX N l;rw [ht.d_eq] at hd;have hd:=XN hd;subst hd;obtain ⟨b1,I⟩:=cZ I;obtain ⟨b2,_⟩:=cZ I;have a:=K b B hB;have hz:=aJ p.1.2;have W:V_ rd (.mr b ver)=some (ks,vs):=by
     unfold V_;simp only [hB,Option.bind_some,p.1.1,p.1.2,Bool.and_self,hcells]
    obtain ⟨s,hes,v1,v2⟩:=EF h K X W;have C:=Hf (w:=w) N T l b1 hk;simp only [VR] at X;obtain ⟨B',M,_,_,q⟩:=X;rw [a] at M;cases M;have q:=q (aJ p.1.1);subst q;rcases hes with ⟨e,_⟩|⟨b0,G,e,R⟩
    ·cases e
    cases e;have V:(m b).1<w.heap.size:=h.lt a;obtain ⟨_,k7,k8⟩:=h.blk b B a;have key:∀ (c:Array MapEntry) (clk':Nat),bi g m S (xq ks k) (c.toList.map (·.key))→bi g m S (oW ks vs k v) (c.toList.map (·.val))→
      ∃ E,bU ap (dP g [(b,{B with cells:= [.agg (xq ks k),.agg (oW ks vs k v)],pr:=B.pr && (d_ v).isEmpty})]) E S {w with heap:=w.heap.setIfInBounds (m b).1 (.map c clk')}∧Fr g m S w (dP g [(b,{B with cells:= [.agg (xq ks k),.agg (oW ks vs k v)],pr:=B.pr && (d_ v).isEmpty})]) E S {w with heap:=w.heap.setIfInBounds (m b).1 (.map c clk')}:=by
     intro c clk' w1 w2;have F:=h.put b {B with cells:= [.agg (xq ks k),.agg (oW ks vs k v)],pr:=B.pr && (d_ v).isEmpty} (m b).1 (m b).2 (w':={w with heap:=w.heap.setIfInBounds (m b).1 (.map c clk')})
      (.inr ⟨B,a,rfl⟩) ⟨rfl,rfl,rfl,by simp,fun k' _ hk'=>by simp [show (m b).1 ≠ k' from fun e=>hk' (by rw [e])]⟩
      (Hr h (b:=b) (B:={B with cells:= [.agg (xq ks k),.agg (oW ks vs k v)],pr:=B.pr && (d_ v).isEmpty}) (w':={w with heap:=w.heap.setIfInBounds (m b).1 (.map c clk')}) (k:=(m b).1) (clk':=clk') (by simp [V]) hz rfl w1 w2 (fun A=>by
       have A:(B.pr && (d_ v).isEmpty)=true:=A;simp only [π] at A;obtain ⟨⟨cur,e,us,rest,k1,k2,k3,k4,_,_⟩,_,_⟩:=h.blk b B a;have Y:bQ B.cells= []:=qB _ (k3 A.1);rw [hcells] at Y;simp only [bQ,d_,Γ,Xj9] at Y;refine ⟨Fh _ _ _ _ Y.2 (qK A.2), ?_⟩;have L:=Am ks _ b2;unfold xq;split
       ·exact L
       ·rw [sF,L];exact Am [k] tk (by simp [b1])) k7 (by rw [hcells] at k8;exact k8) (m b).2)
      (fun B0 h0=>by rw [a] at h0;cases h0;exact ⟨rfl,.inl ⟨rfl,rfl⟩⟩)
      (fun o u hu=>by
       have:=(h.own b B a o u hu).1;rw [p.2] at this;cases this)
     exact ⟨_,F.1,F.2⟩
    refine ⟨rfl, ?_⟩;rcases uk C hv s.toList ks vs 0 v1 v2 b2 with ⟨Q,r2,r3,r4⟩|⟨j,e,y,Q,rj,rk,r4,r5,r6,r7⟩
    ·obtain ⟨E,Z,U⟩:=key (s.push {key:=ck,val:=cv,born:=G}) (G+1)
      (by unfold xq;rw [r3,Array.toList_push,Xx0];exact ig v1 (by simp only [Xqh,Xx4,bi,and_true];exact hk))
      (by rw [r4,Array.toList_push,Xx0];exact ig v2 (by simp only [Xqh,Xx4,bi,and_true];exact hv))
     refine ⟨E,_, ?_,Z,U⟩;simp [Instr.mapUpdate,run_underlying ht.und,MapKept.run_getObj_map R,C.chk,Q.run l,MapKept.run_setObj_map _ R,Result.andThen]
    ·have D:s[j]? =some e:=by simpa using rj
     have J:(s.modify j fun e=> {e with key:=ck,val:=cv}).toList=s.toList.set j {e with key:=ck,val:=cv}:=by
      apply Xjv;intro n;simp only [Array.getElem?_toList,Array.getElem?_modify,Xzl];by_cases hjn:j=n
      ·subst hjn;have H:j<s.toList.length:=(List.getElem?_eq_some_iff.1 rj).1;rw [if_pos rfl,if_pos rfl,if_pos H,D];rfl
      ·rw [if_neg hjn,if_neg hjn]
     obtain ⟨E,Z,U⟩:=key (s.modify j fun e=> {e with key:=ck,val:=cv}) G
      (by
       unfold xq;rw [r6,J];have:(s.toList.set j {e with key:=ck,val:=cv}).map (·.key)=s.toList.map (·.key):=by
        apply Xjv;intro n;simp only [Xq3,Xzl];by_cases hjn:j=n
        ·subst hjn;have H:j<s.toList.length:=(List.getElem?_eq_some_iff.1 rj).1;have O:j<s.size:=by simpa using H
         have hge:s[j]=e:=by rw [Array.getElem?_eq_getElem O] at D;exact Option.some.inj D
         simp [O,hge,rk]
        ·simp [hjn]
       rw [this];exact v1)
      (by rw [J];exact r7)
     refine ⟨E,_, ?_,Z,U⟩;rw [Xqf] at Q;simp [Instr.mapUpdate,run_underlying ht.und,MapKept.run_getObj_map R,C.chk,Q.run l,D,rk,C.stay,MapKept.run_setObj_map _ R,Result.andThen]
   ·cases f
  ·cases f
 ·cases f
end
end AM
namespace AM
open Go
section
variable {P:Program} {ap:AP} {g:dG} {m:aZ} {S:aT} {w:World}
theorem uS {ρ:Operand→AV} {cρ:Operand→Value}:∀ (l:List Operand),(∀ o ∈ l,VR g m S (ρ o) (cρ o))→bi g m S (l.map ρ) (l.map cρ)
 | [],_=>by simp [bi]
 |o::r,h=>by simp only [Xqh,bi];exact ⟨h o (by simp),uS r fun o a=>h o (by simp [a])⟩
theorem Dn {ρ:Operand→AV} {cρ:Operand→Value}:∀ (l:List (Nat × Operand)),(∀ o ∈ l.map (·.2),VR g m S (ρ o) (cρ o))→xM g m S (l.map fun (i,x)=>(i,ρ x)) (l.map fun (i,x)=>(i,cρ x))
 | [],_=>by simp [xM]
 |(i,o)::r,h=>by simp only [Xqh,xM];exact ⟨trivial,h o (by simp),Dn r fun o a=>h o (by simp [a])⟩
def iZ (P:Program) (ap:AP) (g:dG) (m:aZ) (S:aT) (w:World) (s:Sem Next) (v:AV) (ups:List (Nat × bg)):Prop:=
 ∃ nx m' w',s.run P w= .ok nx w'∧bU ap (dP g ups) m' S w'∧Fr g m S w (dP g ups) m' S w'∧((∃ cv,nx= .value cv∧VR (dP g ups) m' S v cv)∨(nx= .skip∧v= .dead))
theorem iZ.pur (h:bU ap g m S w) {s:Sem Value} {v:AV} {ups:List (Nat × bg)} (hs:ups= []∧∃ cv,s.run P w= .ok cv w∧VR g m S v cv):iZ P ap g m S w (do pure (.value (← s))) v ups:=by
 obtain ⟨rfl,cv,a,b⟩:=hs;exact ⟨.value cv,m,w,by simp [a],by rw [fJ];exact h,by rw [fJ];exact Fr.refl _ _ _ _,.inl ⟨cv,rfl,by rw [fJ];exact b⟩⟩
theorem iZ.full {s:Sem Value} {v:AV} {ups:List (Nat × bg)} (hs:∃ cv a w',s.run P w= .ok cv w'∧bU ap (dP g ups) a S w'∧Fr g m S w (dP g ups) a S w'∧VR (dP g ups) a S v cv):iZ P ap g m S w (do pure (.value (← s))) v ups:=by
 obtain ⟨cv,a,w',b,e,c,d⟩:=hs;exact ⟨.value cv,a,w',by simp [b],e,c,.inl ⟨cv,rfl,d⟩⟩
theorem iZ.val (h:bU ap g m S w) {s:Sem Next} {v:AV} {cv:Value} (hs:s.run P w= .ok (.value cv) w) (a:VR g m S v cv):iZ P ap g m S w s v []:=
 ⟨.value cv,m,w,hs,by rw [fJ];exact h,by rw [fJ];exact Fr.refl _ _ _ _,.inl ⟨cv,rfl,by rw [fJ];exact a⟩⟩
theorem Di {ρ:Operand→AV} {cρ:Operand→Value} (x:Option Operand) (h:∀ o ∈ x.toArray,VR g m S (ρ o) (cρ o)):Dh g m S (x.map ρ) (x.map cρ):=by
 cases x with
 |none=>simp [Dh]
 |some o=>simp only [Xje,Dh];exact h o (by simp)
theorem Ko (a:iY P ap) {t:Nat} {b:TI} (h:ap.tyAt t=some b) (hd:b.d ≠ .iface):P.concrete t=true:=by
 obtain ⟨i,d,z,c⟩:=dX a h;have:=c.d_eq;simp only [Program.concrete,c.und];cases d<;>simp_all [jY]
set_option maxHeartbeats 1000000 in
theorem SY (j:iY P ap) (D:bU ap g m S w) {nid:Nat} (W:g nid=none) {ρ:Operand→AV} {cρ:Operand→Value} {rd:dG} (H:∀ b B,rd b=some B→g b=some B) (o:Oper) (hρ:∀ x ∈ o.op.operands,VR g m S (ρ x) (cρ x))
  {dec:Operand→Option Bool} (hdec:∀ x ∈ o.op.operands,∀ b,dec x=some b→cρ x= .bool b) {em:Bool} (hem:∀ n,yw ρ o.op=some n→Xqq n 0=em)
  {v:AV} {ups:List (Nat × bg)} {bs:List Bool} (h:opA ap nid ρ rd dec em o.op=some (v,ups,bs)) (hbs:∀ b ∈ bs,b=true):iZ P ap g m S w (execOp cρ o) v ups:=by
 unfold opA at h;unfold execOp;split at h<;>rename_i heq<;>simp only [heq,Op.operands] at hρ hdec hem ⊢
 ·obtain ⟨rfl,rfl,rfl⟩:=aP h;exact iZ.val D (by simp) (hρ _ (by simp))
 ·obtain ⟨rfl,rfl,rfl⟩:=aP h;exact iZ.val D (by simp) (hρ _ (by simp))
 ·
  rename_i c a b;split at h
  ·rename_i hd;obtain ⟨rfl,rfl,rfl⟩:=aP h;have:=hdec c (by simp) _ hd;exact iZ.val D (by simp [this,asBool]) (hρ _ (by simp))
  ·rename_i hd;obtain ⟨rfl,rfl,rfl⟩:=aP h;have:=hdec c (by simp) _ hd;exact iZ.val D (by simp [this,asBool]) (hρ _ (by simp))
  ·split at h
   ·rename_i bc ba bb e1 e2 e3;obtain ⟨rfl,rfl,rfl⟩:=aP h;have F:=hρ c (by simp);have G:=hρ a (by simp);have M:=hρ b (by simp);rw [e1] at F;rw [e2] at G;rw [e3] at M;simp only [VR,PR] at F G M;refine iZ.val D (cv:= .bool (cond bc ba bb)) ?_ (by simp only [VR,PR]);rw [F,G,M];cases bc<;>simp [asBool]
   ·cases h
 ·
  rename_i e;have A:=bind_some h;clear h;obtain ⟨te,K,h⟩:=A;obtain ⟨ie,de,ze,C⟩:=dX j K;split at h
  ·rename_i R;simp only [π] at R;cases h;obtain ⟨N,w',F,G,M,h4⟩:=GK (P:=P) D W (cells:=te.zero) (cv:=ze) (qE C) C.zleaf (fun u hu=>CB (g:=g) (m:=m) (S:=S) (qE C) C.zleaf u (by simpa using hu)) e;refine iZ.full ⟨.pointer (some ⟨w.heap.size,0,none⟩),N,w', ?_,G,M,Qu h4⟩;simp [Instr.alloc,zeroValue,typeInfo,C.info,C.zero,F]
  ·cases h
 ·
  rename_i e x;have A:=bind_some h;clear h;obtain ⟨te,K,h⟩:=A;obtain ⟨ie,de,ze,C⟩:=dX j K;simp only at h;split at h
  ·rename_i R;simp only [π] at R;cases h;have E:=hρ x (by simp);have hl:∀ y ∈ (ρ x).cells,oz y=true:=fun y hy=>List.all_eq_true.1 R.2 y hy
   obtain ⟨hv1,hv2⟩:=Dt E hl;obtain ⟨N,w',F,G,M,h4⟩:=GK (P:=P) D W (cells:=(ρ x).cells) (cv:=cρ x) hv1 hl hv2 e;refine iZ.full ⟨.pointer (some ⟨w.heap.size,0,none⟩),N,w', ?_,G,M,Qu h4⟩;simp [Instr.box,F]
  ·cases h
 ·
  rename_i t parts;have A:=bind_some h;clear h;obtain ⟨L,q,h⟩:=A;obtain ⟨i,d,z,C⟩:=dX j q;refine iZ.pur D ?_;refine Ip j C (qs:=parts.map fun (i,x)=>(i,cρ x)) ?_ h;rw [Array.toList_map];exact Dn parts.toList fun x E=>hρ x (by simpa using E)
 ·
  rename_i t len parts;have A:=bind_some h;clear h;obtain ⟨L,q,h⟩:=A;obtain ⟨i,d,z,C⟩:=dX j q;refine iZ.full ?_;refine xU j D W C (qs:=parts.map fun (i,x)=>(i,cρ x)) ?_ h;rw [Array.toList_map];exact Dn parts.toList fun x E=>hρ x (by simpa using E)
 ·
  rename_i t a;have A:=bind_some h;clear h;obtain ⟨L,q,h⟩:=A;obtain ⟨i,d,z,C⟩:=dX j q;exact iZ.pur D (Bz D H C (hρ a (by simp)) h hbs)
 ·
  rename_i t a x;have A:=bind_some h;clear h;obtain ⟨L,q,h⟩:=A;obtain ⟨i,d,z,C⟩:=dX j q;have ha:=hρ a (by simp);have E:=hρ x (by simp);generalize cρ a=ca at ha ⊢;generalize cρ x=cx at E ⊢;obtain ⟨rfl,N,w',F,G,M⟩:=JE D H C ha E h hbs;exact ⟨.skip,N,w',by simp [F],G,M,.inr ⟨rfl,rfl⟩⟩
 ·
  rename_i t r;split at h
  ·cases h;obtain ⟨cv,N,w',F,G,M,h4⟩:=Gj (P:=P) D W t;exact ⟨.value cv,N,w',by simp [F],G,M,.inl ⟨cv,rfl,h4⟩⟩
  ·cases h
 ·
  rename_i t x k ok;have A:=bind_some h;clear h;obtain ⟨L,q,h⟩:=A;obtain ⟨i,d,z,C⟩:=dX j q;exact iZ.pur D (Gi j D H C (hρ x (by simp)) (hρ k (by simp)) h hbs)
 ·
  rename_i t x k v;have A:=bind_some h;clear h;obtain ⟨L,q,h⟩:=A;obtain ⟨i,d,z,C⟩:=dX j q;obtain ⟨rfl,N,w',F,G,M⟩:=wO j D H C (hρ x (by simp)) (hρ k (by simp)) (hρ v (by simp)) h hbs;exact ⟨.skip,N,w',by simp [F],G,M,.inr ⟨rfl,rfl⟩⟩
 ·
  rename_i t x k v;have A:=bind_some h;clear h;obtain ⟨L,q,h⟩:=A;obtain ⟨i,d,z,C⟩:=dX j q;obtain ⟨rfl,N,w',F,G,M⟩:=wO j D H C (hρ x (by simp)) (hρ k (by simp)) (hρ v (by simp)) h hbs;exact ⟨.skip,N,w',by simp [F],G,M,.inr ⟨rfl,rfl⟩⟩
 ·
  rename_i x;have E:=hρ x (by simp);split at h
  ·rename_i b ver off e;rw [e] at E;obtain ⟨rfl,rfl,rfl⟩:=aP h;have I:=E;simp only [VR] at I;obtain ⟨_,_,_,⟨k,o,X⟩,_⟩:=I;exact iZ.val D (cv:=cρ x) (by rw [X];simp) E
  ·rename_i xs off e;rw [e] at E;obtain ⟨rfl,rfl,rfl⟩:=aP h;have I:=E;simp only [VR,PR] at I;obtain ⟨_,_,_,X,_⟩:=I;exact iZ.val D (cv:=cρ x) (by rw [X];simp) E
  ·rename_i f a c e;rw [e] at E;obtain ⟨rfl,rfl,rfl⟩:=aP h;have I:=E;simp only [VR] at I;obtain ⟨_,_,X,_⟩:=I;exact iZ.val D (cv:=cρ x) (by rw [X];simp) E
  ·cases h
 ·
  rename_i op t x y _;have A:=bind_some h;clear h;obtain ⟨L,q,h⟩:=A;exact iZ.pur D (Ny j q (hρ x (by simp)) (hρ y (by simp)) h hbs x y)
 ·
  exact iZ.pur D (Uc (hρ _ (by simp)) h)
 ·
  rename_i s d x;have A:=bind_some h;clear h;obtain ⟨ts,hts,h⟩:=A;have A:=bind_some h;clear h;obtain ⟨td,htd,h⟩:=A;exact iZ.pur D (DU j D H hts htd (hρ x (by simp)) h hbs)
 ·
  rename_i t x;have A:=bind_some h;clear h;obtain ⟨L,q,h⟩:=A;split at h
  ·cases h
  ·rename_i hd;obtain ⟨rfl,rfl,rfl⟩:=aP h;refine iZ.pur D ⟨rfl,.iface t (cρ x),run_makeInterface w t _ (Ko j q hd), ?_⟩;simp only [VR];exact ⟨_,rfl,hρ x (by simp)⟩
 ·
  rename_i f first cap
  obtain ⟨rfl,rfl,rfl⟩:=aP h;refine iZ.pur D ⟨rfl,.func (.func f) (first.map cρ) (cap.map cρ),by simp [Instr.makeFunc], ?_⟩;simp only [VR];refine ⟨(first.map cρ).toList,(cap.map cρ).toList,by rw [Array.toArray_toList,Array.toArray_toList], ?_, ?_⟩
  ·rw [Array.toList_map];exact uS _ fun x E=>hρ x (by simp at E ⊢;exact .inl E)
  ·rw [Array.toList_map];exact uS _ fun x E=>hρ x (by simp at E ⊢;exact .inr E)
 ·
  rename_i t l c;have A:=bind_some h;clear h;obtain ⟨L,q,h⟩:=A;obtain ⟨i,d,z,C⟩:=dX j q;exact iZ.full (zX j D W C (hρ l (by simp)) (hρ c (by simp)) h hbs)
 ·
  rename_i t x lo hi mx;have A:=bind_some h;clear h;obtain ⟨L,q,h⟩:=A;obtain ⟨i,d,z,C⟩:=dX j q;exact iZ.pur D (JC j H C (hρ x (by simp)) (Di lo fun o U=>hρ o (by simp at U;simp [U])) (Di hi fun o U=>hρ o (by simp at U;simp [U])) (Di mx fun o U=>hρ o (by simp at U;simp [U])) h hbs)
 ·
  rename_i s x f;have A:=bind_some h;clear h;obtain ⟨L,q,h⟩:=A;obtain ⟨i,d,z,C⟩:=dX j q;split at h
  ·rename_i fs hd;have A:=bind_some h;clear h;obtain ⟨⟨o,ft,sz⟩,hf,h⟩:=A;simp only at h;split at h
   ·rename_i hsz;have A:=bind_some h;clear h;obtain ⟨p,hp,h⟩:=A;obtain ⟨rfl,rfl,rfl⟩:=aP h;exact iZ.pur D ⟨rfl,Cc C hd hf hsz (hρ x (by simp)) hp⟩
   ·cases h
  ·cases h
 ·
  rename_i t x f;have A:=bind_some h;clear h;obtain ⟨L,q,h⟩:=A;obtain ⟨i,d,z,C⟩:=dX j q;exact iZ.pur D (IL j C (hρ x (by simp)) h hbs)
 ·
  rename_i t x ix;have A:=bind_some h;clear h;obtain ⟨L,q,h⟩:=A;obtain ⟨i,d,z,C⟩:=dX j q;exact iZ.pur D (zM j H C (hρ x (by simp)) (hρ ix (by simp)) h hbs)
 ·
  rename_i t x ix;have A:=bind_some h;clear h;obtain ⟨L,q,h⟩:=A;obtain ⟨i,d,z,C⟩:=dX j q;exact iZ.pur D (IW j C (hρ x (by simp)) (hρ ix (by simp)) h hbs)
 ·
  exact iZ.pur D (Gf j (hρ _ (by simp)) h _)
 ·
  rename_i t i;have C:=hρ t (by simp);split at h
  ·rename_i l e;rw [e] at C;have A:=bind_some h;clear h;obtain ⟨x,E,h⟩:=A;obtain ⟨rfl,rfl,rfl⟩:=aP h;simp only [VR] at C;obtain ⟨vs,X,hl⟩:=C;obtain ⟨cv,F,G⟩:=rE hl i E;refine iZ.pur D ⟨rfl,cv, ?_,G⟩;rw [X];simp [Instr.extract,F]
  ·cases h
 ·
  rename_i b args T;simp only [Call.operands] at hρ;have hargs:∀ x ∈ args,VR g m S (ρ x) (cρ x):=fun x E=>hρ x (by simp [E])
  split at h
  ·have A:=bind_some h;clear h;obtain ⟨x,E,h⟩:=A;have A:=bind_some h;clear h;obtain ⟨t,Y,h⟩:=A;have A:=bind_some h;clear h;obtain ⟨L,q,h⟩:=A;obtain ⟨i,d,z,C⟩:=dX j q;obtain ⟨hu,cv,F,G⟩:=Og (P:=P) (w:=w) (hargs x (Array.mem_of_getElem? E)) C h T Y (args.map cρ) (by simp [E]) o.type;subst hu;exact iZ.val D (cv:=cv) (by simp [resolve,invoke,builtin,F]) G
  ·split at h
   ·rename_i s x t t1 ha Y;have hargs':args=#[s,x]:=by apply Array.ext';simpa using ha
    have hats':T=#[t,t1]:=by apply Array.ext';simpa using Y
    subst hargs';subst hats';have A:=bind_some h;clear h;obtain ⟨L,q,h⟩:=A;have A:=bind_some h;clear h;obtain ⟨ti1,Z,h⟩:=A;obtain ⟨i,d,z,C⟩:=dX j q;obtain ⟨i1,d1,z1,Q⟩:=dX j Z;have hs:=hargs s (by simp);have E:=hargs x (by simp);have V:ρ s= .nilS→∃ n,wW (ρ x)=some n∧Xqq n 0=em:=by
     intro e;cases hc:wW (ρ x) with
     | none=>
      exfalso;split at h
      ·rename_i I;rw [I] at hc;simp [wW] at hc
      ·cases h
      ·rename_i y hy1 _ hy2 hy3;have A:=bind_some h;clear h;obtain ⟨te,K,h⟩:=A;unfold xP at h;have A:=bind_some h;clear h;obtain ⟨⟨xs,n,pr⟩,hsrc,h⟩:=A;cases hxx:ρ x<;>simp [hxx,wW] at hc<;>simp [hxx,MF] at hsrc
      ·cases h
     |some n=>exact ⟨n,rfl,hem n (by simp [yw,e,hc])⟩
    split at h
    ·rename_i e y hd J hy;have A:=bind_some h;clear h;obtain ⟨te,K,h⟩:=A;obtain ⟨ie,de,ze,O⟩:=dX j K;split at h
     ·rename_i F;rw [C.d_eq] at hd;rw [Q.d_eq] at J;have hd:=gZ hd;have J:=xG J;subst hd;subst J;obtain ⟨cv,N,w',r1,r2,r3,r4⟩:=wC (P:=P) D H W C O hs E (tx:=t1) (.inl ⟨⟨y,hy⟩,Q.und,aJ F⟩) V (by rw [hy];exact h) hbs o.type;exact ⟨.value cv,N,w',by simp [resolve,invoke,builtin,r1],r2,r3,.inl ⟨cv,rfl,r4⟩⟩
     ·cases h
    ·cases h
    ·rename_i e e1 hd J hns;have A:=bind_some h;clear h;obtain ⟨te,K,h⟩:=A;obtain ⟨ie,de,ze,O⟩:=dX j K;rw [C.d_eq] at hd;rw [Q.d_eq] at J;have hd:=gZ hd;have J:=gZ J;subst hd;subst J;obtain ⟨cv,N,w',r1,r2,r3,r4⟩:=wC (P:=P) D H W C O hs E (tx:=t1) (.inr ⟨fun s e=>hns s e,_,Q.und⟩) V h hbs o.type;exact ⟨.value cv,N,w',by simp [resolve,invoke,builtin,r1],r2,r3,.inl ⟨cv,rfl,r4⟩⟩
    ·cases h
   ·cases h
  ·have A:=bind_some h;clear h;obtain ⟨r,hr,h⟩:=A;obtain ⟨rfl,rfl,rfl⟩:=aP h;obtain ⟨cv,F,G⟩:=SH (P:=P) (w:=w) (uS args.toList fun x E=>hargs x (Array.mem_toList_iff.1 E)) hr T o.type;refine iZ.val D (cv:=cv) ?_ G;have:(Xw4 cρ args.toList).toArray=args.map cρ:=by apply Array.ext';rw [Xw7,Array.toList_map]
   rw [this] at F;simp [resolve,invoke,builtin,F]
  ·have A:=bind_some h;clear h;obtain ⟨r,hr,h⟩:=A;obtain ⟨rfl,rfl,rfl⟩:=aP h;obtain ⟨cv,F,G⟩:=SE (P:=P) (w:=w) (uS args.toList fun x E=>hargs x (Array.mem_toList_iff.1 E)) hr T o.type;refine iZ.val D (cv:=cv) ?_ G;have:(Xw4 cρ args.toList).toArray=args.map cρ:=by apply Array.ext';rw [Xw7,Array.toList_map]
   rw [this] at F;simp [resolve,invoke,builtin,F]
  ·cases h
 ·cases h
end
end AM
namespace AM
open Go
structure Cx.Ok (c:Cx):Prop where
 bs:∀ b ∈ c.bs,b=true
 ps:∀ p ∈ c.ps,p
theorem R.bind_ok {α β:Type} {r:R α} {f:α→Cx→R β} {b:β} {c:Cx} (h:r.bind f= .ok b c):∃ a c1,r= .ok a c1∧f a c1= .ok b c:=by
 cases r with
 |ok a c1=>exact ⟨a,c1,rfl,h⟩
 |need=>simp [R.bind] at h
 |bad n=>simp [R.bind] at h
theorem IC {c f:Cx} {bs:List Bool} {u:Unit} (h:Y1 c bs= .ok u f) (d:f.Ok):c.Ok∧∀ b ∈ bs,b=true:=by
 unfold Y1 at h;split at h
 ·split at h
  ·rename_i a;cases h;exact ⟨d,fun b e=>by simpa using List.all_eq_true.1 a b e⟩
  ·cases h
 ·cases h;exact ⟨⟨fun b a=>d.bs b (by simp [a]),d.ps⟩,fun b a=>d.bs b (by simp [a])⟩
theorem lI {c e:Cx} {b d:Bool} (h:zx c b= .ok d e) (a:e.Ok):c.Ok∧d=b:=by
 unfold zx at h;split at h
 ·cases h;exact ⟨a,rfl⟩
 ·split at h
  ·cases h
  ·rename_i o r _;cases h;have f:=a.bs (lit d b) (by simp);refine ⟨⟨fun x i=>a.bs x (by simp [i]),a.ps⟩, ?_⟩;cases d<;>cases b<;>simp [lit] at f ⊢
theorem jK {l:List Nat} {a:Nat}:rQ l a=true↔a ∈ l:=by
 simp only [rQ,List.any_eq_true];constructor
 ·rintro ⟨x,hx,h⟩;exact aJ h ▸ hx
 ·intro h;exact ⟨a,h,Nat.beq_refl a⟩
theorem jh {α β:Type} {f:α→Option β}:∀ {l:List α} {l':List β},kG f l=some l'→l'.length=l.length∧∀ (i:Nat) x,l[i]? =some x→∃ y,l'[i]? =some y∧f x=some y
 | [],l',h=>by simp [kG] at h;subst h;simp
 | a::r,l',h=>by
  simp only [kG] at h;split at h
  ·rename_i y j;split at h
   ·rename_i q c;cases h;obtain ⟨d,e⟩:=jh c;refine ⟨by simp [d], ?_⟩;intro i x b;cases i with
    |zero=>simp at b;subst b;exact ⟨y,by simp,j⟩
    |succ i=>simpa using e i x (by simpa using b)
   ·cases h
  ·cases h
section
variable {P:Program} {ap:AP} {g:dG} {m:aZ} {S:aT} {w:World}
noncomputable def dL (S:aT) (m:aZ) (rd:dG) (w:World):aT:=fun k o=>
 match S k o with
 |some v=>some v
 |none=>open Classical in if ∃ b B,rd b=some B∧(m b).1=k∧o<B.cells.length then kQ w k o else none
theorem nP (S:aT) (m:aZ) (rd:dG) (w:World):oQ S (dL S m rd w):=by
 intro k o v h;simp [dL,h]
theorem fO {rd:dG} {k o:Nat} {v:Value} (h:dL S m rd w k o=some v):S k o=some v∨(kQ w k o=some v∧∃ b B,rd b=some B∧(m b).1=k∧o<B.cells.length):=by
 unfold dL at h;split at h
 ·rename_i e c;cases h;exact .inl c
 ·rename_i d;split at h
  ·rename_i a;exact .inr ⟨h,a⟩
  ·cases h
theorem pY (a:bU ap g m S w) {rd:dG} {k o:Nat} {v:Value} (h:dL S m rd w k o=some v):kQ w k o=some v:=by
 rcases fO h with h|h
 ·exact a.sealed _ _ _ h
 ·exact h.1
theorem TJ (d:bU ap g m S w) {rd:dG} {b:Nat} {B:bg} (f:rd b=some B) {o:Nat} (e:o<B.cells.length) {v:Value} (a:kQ w (m b).1 o=some v):dL S m rd w (m b).1 o=some v:=by
 unfold dL;split
 ·rename_i h c;have:=d.sealed _ _ _ c;rw [a] at this;cases this;rfl
 ·rw [if_pos ⟨b,B,f,rfl,e⟩];exact a
theorem FH (h:bU ap g m S w) {rd:dG} (c:∀ b B,rd b=some B→g b=some B) {b:Nat} {B:bg} (k:rd b=some B):
  ∃ vs,bi g m S B.cells vs∧(B.pr=true→dY S B.cells vs)∧(∀ j u,vs[j]? =some u→dL S m rd w (m b).1 j=some u)∧vs.length=B.cells.length∧(B.esz ≠ iP→∀ u ∈ vs,u.oneCell'=true):=by
 obtain ⟨⟨cur,e,vs,rest,o,p,n,d,i,q⟩,_,_⟩:=h.blk b B (c b B k);refine ⟨vs,d,n, ?_,(bV d).symm,i⟩;intro j u f;have a:=(List.getElem?_eq_some_iff.1 f).1;refine TJ h k (by rw [bV d];exact a) ?_;exact o.get (by rw [p,Xxd a];exact f) (fun l=>i l u (Xqj f))
theorem yQ (l:bU ap g m S w) {rd:dG} (a:∀ b B,rd b=some B→g b=some B) {b:Nat} {B:bg} (n:rd b=some B) (d:B.esz ≠ iP):
  ∃ vs,bi g m S B.cells vs∧(B.pr=true→dY S B.cells vs)∧kM (dL S m rd w) (m b).1 0 vs∧vs.length=B.cells.length:=by
 obtain ⟨vs,f,k,h,i,e⟩:=FH l a n;refine ⟨vs,f,k,fun j u c=> ?_,i⟩;rw [Xqf];exact ⟨h j u c,e d u (Xqj c)⟩
theorem Ht {S':aT} {l:List AV} {y:AV} {vs:List Value} {k:Nat} (h:ZL l=some y) (a:dY S' l vs) (hs:∀ j u,vs[j]? =some u→S' k j=some u):PR S' y (.map (some k)):=by
 unfold ZL at h;split at h
 ·rename_i ks f;cases h
  match vs,a with
  | [v0,v1],a=>
   simp only [dY,PR,and_true] at a;obtain ⟨⟨d,rfl,e⟩,c,rfl,b⟩:=a;simp only [PR];exact .inr ⟨k,d,c,rfl,hs 0 _ rfl,hs 1 _ rfl,e,b⟩
  | [],a=>simp [dY] at a
  | [_],a=>simp [dY] at a
  |_::_::_::_,a=>simp [dY] at a
 ·cases h
theorem tH {S':aT} {f:AV→Option AV} (a:∀ x v y,f x=some y→VR g m S x v→PR S' y v):∀ {l l':List AV} {vs:List Value},kG f l=some l'→bi g m S l vs→dY S' l' vs
 | [],l',[],h,_=>by simp [kG] at h;subst h;simp [dY]
 | x::r,l',v::vs,h,hv=>by
  simp only [kG] at h;simp only [bi] at hv;split at h
  ·rename_i y b;split at h
   ·rename_i q c;cases h;simp only [dY];exact ⟨a x v y b hv.1,tH a c hv.2⟩
   ·cases h
  ·cases h
 | [],_,_::_,_,h=>by simp [bi] at h
 |_::_,_,[],_,h=>by simp [bi] at h
theorem lK (K:bU ap g m S w) {rd:dG} (z:∀ b B,rd b=some B→g b=some B):∀ (s:Nat) (x:AV) (v:Value) (y:AV),frz rd s x=some y→VR g m S x v→PR (dL S m rd w) y v:=by
 intro s
 induction s with
 |zero=>intro x v y h;simp [frz] at h
 | succ s ih=>
  intro x v y h f;have C:=nP S m rd w;have hlist:∀ {l l':List AV} {vs:List Value},kG (frz rd s) l=some l'→bi g m S l vs→dY (dL S m rd w) l' vs:=fun H F=>tH (fun x v y hx f=>ih x v y hx f) H F
  unfold frz at h;simp only at h;split at h
  ·
   rename_i b ver i n;have D:=bind_some h;clear h;obtain ⟨B,E,h⟩:=D;split at h
   ·rename_i d;simp only [VR] at f;obtain ⟨B',k,_,_,q⟩:=f;rw [z b B E] at k;cases k;obtain ⟨o,rfl,M,U,N,G⟩:=q (aJ d);obtain ⟨vs,H,F,I,L⟩:=yQ K z E G;have hpart:kM (dL S m rd w) (m b).1 o ((vs.drop (i*B.esz)).take (n*B.esz)):=by
     by_cases hi:i<(m b).2
     ·rw [U hi];have:=(I.drop (i*B.esz)).take (n*B.esz);rwa [Xqf] at this
     ·have hn:n=0:=by omega
      subst hn;intro j u Z;simp at Z
    have p:∀ l,dY (dL S m rd w) l ((vs.drop (i*B.esz)).take (n*B.esz))→PR (dL S m rd w) (.sl l n true) (.slice (some ⟨(m b).1,o,none⟩) n ((m b).2 - i)):=by
     intro l t;simp only [PR];exact ⟨_,_,rfl,by omega,.inr ⟨_,_,_,rfl,t,hpart⟩⟩
    split at h
    ·rename_i A;cases h;exact p _ (kK _ (qy _ (dm C _ (F A))))
    ·simp only [Xqp] at h;obtain ⟨l,t,rfl⟩:=h;exact p _ (hlist t (qC _ (tJ _ H)))
   ·cases h
  ·
   rename_i b ver J;have D:=bind_some h;clear h;obtain ⟨B,E,h⟩:=D;split at h
   ·rename_i d;simp only [π,Xqo] at d;have G:B.esz ≠ iP:=fun e=>by rw [e] at d;exact absurd d.2 (by decide)
    simp only [VR] at f;obtain ⟨B',k,_,_,q⟩:=f;rw [z b B E] at k;cases k;have q:=q (aJ d.1);subst q;obtain ⟨vs,H,F,I,L⟩:=yQ K z E G;have p:∀ l,dY (dL S m rd w) l vs→PR (dL S m rd w) (.pp l J) (.pointer (some ⟨(m b).1,J,none⟩)):=by
     intro l t;simp only [PR];exact ⟨_,0,_,by rw [Xqf],t,I⟩
    split at h
    ·rename_i A;cases h;exact p _ (dm C _ (F A))
    ·simp only [Xqp] at h;obtain ⟨l,t,rfl⟩:=h;exact p _ (hlist t H)
   ·cases h
  ·
   rename_i b ver;have D:=bind_some h;clear h;obtain ⟨B,E,h⟩:=D;split at h
   ·rename_i d;simp only [π] at d;simp only [VR] at f;obtain ⟨B',k,_,_,q⟩:=f;rw [z b B E] at k;cases k;have q:=q (aJ d.1);subst q;obtain ⟨vs,H,F,I,L,_⟩:=FH K z E;split at h
    ·rename_i A;exact Ht h (dm C _ (F A)) I
    ·have D:=bind_some h;clear h;obtain ⟨l,t,h⟩:=D;exact Ht h (hlist t H) I
   ·cases h
  ·simp only [Xqp] at h;obtain ⟨l,t,rfl⟩:=h;simp only [VR] at f;obtain ⟨vs,e,q⟩:=f;simp only [PR];exact ⟨vs,e,hlist t q⟩
  ·simp only [Xqp] at h;obtain ⟨l,t,rfl⟩:=h;simp only [VR] at f;obtain ⟨vs,e,q⟩:=f;simp only [PR];exact ⟨vs,e,hlist t q⟩
  ·have D:=bind_some h;clear h;obtain ⟨a,ha,h⟩:=D;simp only [Xqp] at h;obtain ⟨c,W,rfl⟩:=h;simp only [VR] at f;obtain ⟨X,Y,e,q,r⟩:=f;simp only [PR];exact ⟨X,Y,e,hlist ha q,hlist W r⟩
  ·simp only [Xqp] at h;obtain ⟨u,hu,rfl⟩:=h;simp only [VR] at f;obtain ⟨cu,e,q⟩:=f;simp only [PR];exact ⟨cu,e,ih _ _ _ hu q⟩
  ·cases h
  ·rename_i Q O T V n4 n5 n6 R;cases h;refine dn C _ ?_;cases x<;>first
    |exact absurd rfl (Q _ _ _ _)
    |exact absurd rfl (O _ _ _)
    |exact absurd rfl (T _ _)
    |exact absurd rfl (V _)
    |exact absurd rfl (n4 _)
    |exact absurd rfl (n5 _ _ _)
    |exact absurd rfl (n6 _ _)
    |exact absurd rfl (R _ _ _)
    |(simp only [VR] at f;exact f)
    |(simp only [PR])
end
end AM
