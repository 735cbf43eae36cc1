/- The abstract machine over the code of the model, and the proof that it is sound. No conditions. -/
import Derived.Test.YtdmfgmmooalfnaaGreatDoorM1
import Derived.Laws.BytesString
import Derived.Laws.MakeOwn
import Derived.Laws.OwnMore
set_option linter.unusedSimpArgs false
set_option linter.unusedVariables false
open List renaming foldl_cons→Xjm,length_take→Xq2,nil_append→Xqk,drop_drop→Xjl,map_cons→Xqi,getElem?_map→Xq3,getElem?_take→Xj0,getElem?_append_left→Xxc,mem_of_mem_drop→Xzj,mem_of_mem_take→Xxg,all_cons→Xxr,cons_append→Xq9,append_eq_nil_iff→Xj8,take_append_of_le_length→Xxv,append_assoc→Xqe,toList_toArray→Xw7,size_toArray→Xzm,length_append→θ,length_drop→Xxx,replicate_succ→Xxb,append_nil→Θ,any_cons→Xvt,map_append→Xxy,map_nil→Xjd,ext_getElem?→Xju,getElem?_set→Xzk,map→Xw4,mem_of_getElem?→Xqh
open Bool renaming and_eq_true→ο,not_eq_true'→Xqo
open Nat renaming add_zero→Xq0,beq→Xqq,le_refl→Δ,zero_le→Xxo,zero_add→Xqf,add_mul→Xxj,lt_irrefl→Xvr
open Option renaming map_some→Xja,map_eq_some_iff→Xqp
open UInt8 renaming ofNat→Xqj
namespace AM
open Go
section
variable {P:Program} {ap:AP} {g:dw} {m:aV} {S:aQ} {w:World}
theorem Dh {x:AV} {v:Value} (h:VR g m S x v) (f:∀ y ∈ x.cells,n_ y=true):bg g m S x.cells v.cells.toList∧∀ u ∈ v.cells,u.oneCell'=true:=by
 cases x
 case agg l=>
  simp only [VR] at h;obtain ⟨vs,rfl,h⟩:=h;refine ⟨by simpa [Value.cells,AV.cells] using h, ?_⟩;intro u d;simp only [Value.cells] at d;simp only [AV.cells] at f;have:∀ (l:List AV) (vs:List Value),bg g m S l vs→(∀ y ∈ l,n_ y=true)→∀ u ∈ vs,u.oneCell'=true:=by
   intro l
   induction l with
   |nil=>intro vs e _ u d;cases vs<;>simp [bg] at e d
   | cons a r ih=>
    intro vs e f u d;cases vs with
    |nil=>simp [bg] at e
    |cons b q=>
     simp only [bg] at e;rcases List.mem_cons.1 d with rfl|d
     ·exact ML e.1 (f a (by simp))
     ·exact ih q e.2 (fun y i=>f y (by simp [i])) u d
  exact this l vs h f u (by simpa using d)
 all_goals
  have c:=ML h (f _ (by simp [AV.cells]));have j:v.cells=#[v]:=by cases v<;>simp [Value.cells,Value.oneCell'] at c ⊢
  rw [j];refine ⟨by simp only [AV.cells,bg];exact ⟨h,trivial⟩,by simpa using c⟩
theorem GM:∀ (vs:List Value) (i a:Nat) (cs:Array Value),a+i+vs.length≤cs.size→
  ((vs.zipIdx i).foldl (fun (cs:Array Value) (p:Value × Nat)=>cs.setIfInBounds (a+p.2) p.1) cs).toList=cs.toList.take (a+i)++vs++cs.toList.drop (a+i+vs.length)
 | [],i,a,cs,_=>by simp
 | v::vs,i,a,cs,h=>by
  simp only [List.length_cons] at h;simp only [List.zipIdx_cons,Xjm];rw [GM vs (i+1) a (cs.setIfInBounds (a+i) v) (by simp;omega)];have b:a+i<cs.toList.length:=by simp;omega
  simp only [Array.toList_setIfInBounds];rw [show a+(i+1)=a+i+1 from by omega,List.set_eq_take_append_cons_drop,if_pos b];have d:(cs.toList.take (a+i)++v::cs.toList.drop (a+i+1)).take (a+i+1)=cs.toList.take (a+i)++ [v]:=by
   rw [List.take_append];have c:a+i+1 - (cs.toList.take (a+i)).length=1:=by simp [Xq2];omega
   rw [c];simp [List.take_take]
  have e:(cs.toList.take (a+i)++v::cs.toList.drop (a+i+1)).drop (a+i+1+vs.length)=cs.toList.drop (a+i+(v::vs).length):=by
   rw [List.drop_append];have:(cs.toList.take (a+i)).length=a+i:=by simp [Xq2];omega
   rw [this,List.drop_eq_nil_of_le (by rw [this];omega),Xqk,show a+i+1+vs.length - (a+i)=vs.length+1 from by omega,List.drop_succ_cons,Xjl];congr 1;simp;omega
  rw [d,e];simp
theorem OU {c vs:List AV} {cs b:List Value} {a:Nat} (h:bg g m S c cs) (d:bg g m S vs b):bg g m S (iP c a vs) (cs.take a++b++cs.drop (a+b.length)):=by
 unfold iP;rw [← bQ d];exact gY (gY (qx _ h) d) (tJ _ h)
theorem XN {c vs:List AV} {cs b:List Value} {a:Nat} (h:dO S c cs) (d:dO S vs b):dO S (iP c a vs) (cs.take a++b++cs.drop (a+b.length)):=by
 unfold iP;rw [← wK d];exact lC (lC (kE _ h) d) (qp _ h)
def nP (g:dw) (m:aV) (S:aQ) (place:Nat→Option (Nat × Nat)):List (Nat × Nat × AV)→List (Nat × Value)→Prop
 | [],[]=>True
 |(off,size,v)::r,(i,c)::q=>place i=some (off,size)∧VR g m S v c∧nP g m S place r q
 |_,_=>False
theorem pq {place:Nat→Option (Nat × Nat)}:∀ (ps:List (Nat × Nat × AV)) (qs:List (Nat × Value)) (cells cells':List AV) (cs:Array Value),nP g m S place ps qs→bg g m S cells cs.toList→wB cells ps=some cells'→
  ∃ a,Instr.fill place cs qs=some a∧bg g m S cells' a.toList∧a.size=cs.size
 | [],[],cells,cells',cs,_,hv,h=>by simp [wB] at h;subst h;exact ⟨cs,rfl,hv,rfl⟩
 | (off,size,v)::r,(i,c)::q,cells,cells',cs,hp,hv,h=>by
  simp only [nP] at hp;simp only [wB] at h;split at h
  ·rename_i o;simp only [ο] at o;obtain ⟨⟨k,l⟩,u⟩:=o;obtain ⟨j,B⟩:=Dh hp.2.1 (fun y t=>List.all_eq_true.1 u y t);have s:=bQ j;have b:=bQ hv;have k:=aJ k;have l:=fU l;have z:c.cells.size=size:=by simp only [Array.length_toList] at s;omega
   have f:off+c.cells.size≤cs.size:=by simp only [Array.length_toList] at b;omega
   have n:=GM c.cells.toList 0 off cs (by simpa using f);have d:bg g m S (iP cells off v.cells) ((c.cells.zipIdx.foldl (fun (cs:Array Value) (p:Value × Nat)=>cs.setIfInBounds (off+p.2) p.1) cs)).toList:=by
    rw [← Array.foldl_toList,Array.toList_zipIdx,n];simp only [Xq0];exact OU hv j
   obtain ⟨a,e,A,x⟩:=pq r q _ cells' _ hp.2.2 d h;refine ⟨a, ?_,A, ?_⟩
   ·simp only [Instr.fill,hp.1];rw [if_neg (by simp;omega)];exact e
   ·rw [x,← Array.length_toList,← Array.foldl_toList,Array.toList_zipIdx,n];simp;omega
  ·cases h
 | [],_::_,_,_,_,hp,_,_=>by simp [nP] at hp
 |_::_,[],_,_,_,hp,_,_=>by simp [nP] at hp
theorem qy {t:Nat} {a:TI} {i:TypeInfo} {d:TypeDesc} {z:Value} (b:BV P t a i d z):bg g m S a.zero z.cells.toList:=by
 rw [b.zcells];exact bT _ (wo S _)
def xE (g:dw) (m:aV) (S:aQ):List (Nat × AV)→List (Nat × Value)→Prop
 | [],[]=>True
 |(i,v)::r,(j,c)::q=>i=j∧VR g m S v c∧xE g m S r q
 |_,_=>False
theorem rX {size:Nat}:∀ {ps:List (Nat × AV)} {qs:List (Nat × Value)},xE g m S ps qs→nP g m S (fun i=>some (i*size,size)) (ps.map fun (i,v)=>(i*size,size,v)) qs
 | [],[],_=>by simp [nP]
 |(i,v)::r,(j,c)::q,h=>by
  simp only [xE] at h;obtain ⟨rfl,b,a⟩:=h;simp only [Xqi,nP];exact ⟨trivial,b,rX a⟩
 | [],_::_,h=>by simp [xE] at h
 |_::_,[],h=>by simp [xE] at h
theorem Bg {a:List (Nat × Nat × Nat)} {place:Nat→Option (Nat × Nat)} (hp:∀ i x,a[i]? =some x→place i=some (x.1,x.2.2)):∀ {ps:List (Nat × AV)} {qs:List (Nat × Value)} {rs:List (Nat × Nat × AV)},xE g m S ps qs→
  kz (fun (q:Nat × AV)=>(a[q.1]?).map fun (x:Nat × Nat × Nat)=>(x.1,x.2.2,q.2)) ps=some rs→nP g m S place rs qs
 | [],[],rs,_,h=>by simp [kz] at h;subst h;simp [nP]
 | (i,v)::r,(j,c)::q,rs,hn,h=>by
  simp only [xE] at hn;obtain ⟨rfl,e,f⟩:=hn;simp only [kz] at h;cases b:a[i]? with
  |none=>simp [b] at h
  | some x=>
   simp only [b,Xja] at h;split at h
   ·rename_i l d;cases h;simp only [nP];exact ⟨hp i x b,e,Bg hp f d⟩
   ·cases h
 | [],_::_,_,h,_=>by simp [xE] at h
 |_::_,[],_,h,_=>by simp [xE] at h
theorem Bf:∀ (fields:List Field),(∀ f ∈ fields,(P.info? f.type).isSome)→fields.mapM (fun f=>(P.info? f.type).map fun i=>(f.offset,i.size))=some (fields.map fun f=>(f.offset,match P.info? f.type with|some i=>i.size|none=>0))
 | [],_=>rfl
 | f::r,h=>by
  cases a:P.info? f.type with
  |none=>have:=h f (by simp);simp [a] at this
  |some i=>
   simp [List.mapM_cons,a,Bf r (fun f b=>h f (by simp [b]))]
theorem H_ (p:iU P ap) {t:Nat} {l:TI} {i:TypeInfo} {d:TypeDesc} {z:Value} (b:BV P t l i d z) {ps:List (Nat × AV)} {qs:Array (Nat × Value)} (A:xE g m S ps qs.toList) {v:AV} {ups:List (Nat × a_)} {bs:List Bool}
  (h:MV ap l ps=some (v,ups,bs)):ups= []∧∃ cv,(Instr.build t qs).run P w= .ok cv w∧VR g m S v cv:=by
 unfold MV at h;split at h
 ·rename_i E hd;have k:=bind_some h;clear h;obtain ⟨D,o,h⟩:=k;have k:=bind_some h;clear h;obtain ⟨cs,j,h⟩:=k;obtain ⟨rfl,rfl,rfl⟩:=aO h;rw [b.d_eq] at hd;obtain ⟨fields,rfl,rfl⟩:=vN hd;by_cases hall:∀ f ∈ fields.toList,(P.info? f.type).isSome
  ·have y:=Bf fields.toList hall;have u:=Bg (place:=((fields.toList.map fun f=>(f.offset,match P.info? f.type with|some i=>i.size|none=>0)).toArray[·]?)) (by
    intro i x B;simp only [Xq3,Xqp] at B;obtain ⟨f,r,rfl⟩:=B;simp [r];rfl) A o
   obtain ⟨a,s,q,_⟩:=pq D qs.toList l.zero cs z.cells u (qy b) j;refine ⟨rfl,.agg a,run_build w t qs a ?_, ?_⟩
   ·simp only [Program.built,b.info,b.und,b.zero];rw [y];exact s
   ·simp only [VR];exact ⟨a.toList,by simp,q⟩
  ·exfalso;apply hall;intro f r;have:=b.fld;simp only [Vh] at this;exact List.all_eq_true.1 this f r
 ·rename_i n e hd;have k:=bind_some h;clear h;obtain ⟨C,c,h⟩:=k;have k:=bind_some h;clear h;obtain ⟨cs,j,h⟩:=k;obtain ⟨rfl,rfl,rfl⟩:=aO h;obtain ⟨G,F,H,c⟩:=dM p c;rw [b.d_eq] at hd;have hd:=yN hd;subst hd;obtain ⟨a,s,q,_⟩:=pq _ qs.toList l.zero cs z.cells (rX (size:=C.size) A) (qy b) j;refine ⟨rfl,.agg a,run_build w t qs a ?_, ?_⟩
  ·simp only [Program.built,b.info,b.und,b.zero,c.info];rw [← c.size];exact s
  ·simp only [VR];exact ⟨a.toList,by simp,q⟩
 ·cases h
end
end AM
namespace AM
open Go
section
variable {P:Program} {ap:AP} {g:dw} {m:aV} {S:aQ} {w:World}
theorem xf {t:Nat} {j:TI} {i:TypeInfo} {d:TypeDesc} {z:Value} (f:BV P t j i d z) {v:AV} (h:qU j j.zero=some v):VR g m S v z:=by
 have e:=qy (g:=g) (m:=m) (S:=S) f;have b:=f.zagg;unfold qU at h;rw [f.d_eq,Fq] at h;unfold afC at b;rw [f.zero] at b;split at h
 ·rename_i a;cases h;cases d<;>simp [TypeDesc.isRow] at a<;>cases z<;>simp at b
  all_goals
   simp only [VR];exact ⟨_,rfl,by simpa [Value.cells] using e⟩
 ·rename_i a;split at h
  ·rename_i c l;cases h;have k:z.cells=#[z]:=by
    cases z<;>first|rfl|skip
    cases d<;>simp [TypeDesc.isRow] at a b
   rw [l,k] at e;simp only [bg] at e;exact e.1
  ·cases h
theorem FX (p:iU P ap) {x v:AV} {B:Value} (o:VR g m S x B) {asserted:Nat} {ok:Bool} {ups:List (Nat × a_)} {bs:List Bool} (h:H8 ap x asserted ok=some (v,ups,bs)) (A:Nat):
  ups= []∧∃ cv,(Instr.typeAssert B A asserted ok).run P w= .ok cv w∧VR g m S v cv:=by
 unfold H8 at h;have n:=bind_some h;clear h;obtain ⟨F,r,h⟩:=n;obtain ⟨i,d,z,j⟩:=dM p r;have a:∀ D,d ≠ .interface D:=by
  intro D e;subst e;rw [j.d_eq] at h;simp [jU] at h
 have key:∀ (c:Value),(∃ t u,c= .iface t u∧t ≠ asserted)∨c= .nilIface→∀ l,VR g m S l z→ok=true→(Instr.typeAssert c A asserted ok).run P w= .ok (.tuple #[z,.bool false]) w:=by
  intro c E l _ q;subst q;rcases E with ⟨t,u,rfl,k⟩|rfl
  ·cases d<;>first|exact absurd rfl (a _)|simp [Instr.typeAssert,run_underlying j.und,k,zeroValue,typeInfo,j.info,j.zero]
  ·cases d<;>first|exact absurd rfl (a _)|simp [Instr.typeAssert,run_underlying j.und,zeroValue,typeInfo,j.info,j.zero]
 split at h
 ·cases h
 ·split at h
  ·rename_i t u;simp only [VR] at o;obtain ⟨s,rfl,C⟩:=o;split at h
   ·rename_i b;have b:=aJ b;subst b;obtain ⟨rfl,rfl,rfl⟩:=aO h;cases ok
    ·refine ⟨rfl,s, ?_,C⟩;cases d<;>first|exact absurd rfl (a _)|simp [Instr.typeAssert,run_underlying j.und]
    ·refine ⟨rfl,.tuple #[s,.bool true], ?_, ?_⟩
     ·cases d<;>first|exact absurd rfl (a _)|simp [Instr.typeAssert,run_underlying j.und]
     ·simp only [VR];exact ⟨[s,.bool true],rfl,by simp only [bg,VR,PR];exact ⟨C,trivial,trivial⟩⟩
   ·rename_i b;have k:t ≠ asserted:=by intro e;subst e;simp at b
    cases ok
    ·cases h
    ·simp only at h;have n:=bind_some h;clear h;obtain ⟨l,y,h⟩:=n;obtain ⟨rfl,rfl,rfl⟩:=aO h;have f:=xf (g:=g) (m:=m) (S:=S) j y;refine ⟨rfl,_,key _ (.inl ⟨_,_,rfl,k⟩) l f rfl, ?_⟩;simp only [VR];exact ⟨[z,.bool false],rfl,by simp only [bg,VR,PR];exact ⟨f,trivial,trivial⟩⟩
  ·simp only [VR,PR] at o;subst o;cases ok
   ·cases h
   ·simp only at h;have n:=bind_some h;clear h;obtain ⟨l,y,h⟩:=n;obtain ⟨rfl,rfl,rfl⟩:=aO h;have f:=xf (g:=g) (m:=m) (S:=S) j y;refine ⟨rfl,_,key _ (.inr rfl) l f rfl, ?_⟩;simp only [VR];exact ⟨[z,.bool false],rfl,by simp only [bg,VR,PR];exact ⟨f,trivial,trivial⟩⟩
  ·cases h
theorem sH (O:bP ap g m S w) {rd:dw} (K:∀ b B,rd b=some B→g b=some B) {size:Nat} {x:AV} {Q:Value} (i:VR g m S x Q) {E:List AV} {n:Nat} {pr:Bool} (h:LQ size rd x=some (E,n,pr)) (M:E.length=n*size)
  {tx:Nat} (hk:((∃ s,x= .str s)∧P.underlying tx=some .string∧size=1)∨((∀ s,x ≠ .str s)∧∃ e,P.underlying tx=some (.slice e))):
  ∃ news,Src P size tx Q n news w∧bg g m S E news∧(pr=true→dO S E news):=by
 unfold LQ at h;split at h
 ·rename_i xs' Z nn;cases h;obtain ⟨_,e,d⟩:=hk.resolve_left (by rintro ⟨⟨s,hs⟩,_⟩;cases hs);simp only [VR,PR] at i;obtain ⟨a,H,rfl,W,q⟩:=i;rcases q with ⟨_,rfl,rfl,rfl⟩|⟨b,o,vs,rfl,hp,hs⟩
  ·cases a with
   |none=>exact ⟨[],Src.ofNil w d 0,by simp [bg],fun _=>by simp [dO]⟩
   |some p=>exact ⟨[],Src.ofSlice w d p 0 0 [] (by simp) (fun j u c=>by simp at c) (fun u z=>by simp at z),by simp [bg],fun _=>by simp [dO]⟩
  ·refine ⟨vs,Src.ofSlice w d ⟨b,o,none⟩ n H vs (by rw [← wK hp,M]) (fun j u c=>by rw [Addr.add_mid];exact O.one (hs j u c).1 (hs j u c).2) ?_,bT _ hp,fun _=>hp⟩;intro u z;obtain ⟨j,c⟩:=List.getElem?_of_mem z;exact (hs j u c).2
 ·cases h;obtain ⟨_,e,d⟩:=hk.resolve_left (by rintro ⟨⟨s,hs⟩,_⟩;cases hs);simp only [VR,PR] at i;subst i;exact ⟨[],Src.ofNil w d 0,by simp [bg],fun _=>by simp [dO]⟩
 ·rename_i s;cases h;obtain ⟨_,d,J⟩:=hk.resolve_right (by rintro ⟨hs,_⟩;exact hs s rfl);simp only [VR,PR] at i;subst i;subst J;have hp:∀ s:List UInt8,dO S (s.map fun b=>AV.int .u8 b.toNat) (s.map fun b=>Value.int .u8 b.toNat):=by
   intro s
   induction s with
   |nil=>simp [dO]
   |cons a r ih=>simp only [Xqi,dO,PR];exact ⟨trivial,ih⟩
  have f:=Src.ofString (P:=P) w d ⟨s.toArray⟩;have U:byteCells ⟨s.toArray⟩=s.map fun b=>Value.int .u8 b.toNat:=by simp [byteCells]
  rw [U,yM] at f;exact ⟨_,f,bT _ (hp s),fun _=>hp s⟩
 ·rename_i b ver j Z;have V:=bind_some h;clear h;obtain ⟨B,X,h⟩:=V;split at h
  ·rename_i t;cases h;simp only [ο,Xqo] at t;obtain ⟨t,C⟩:=t;have A:B.esz ≠ iL:=fun e=>by rw [e] at C;exact absurd C (by decide)
   obtain ⟨_,e,d⟩:=hk.resolve_left (by rintro ⟨⟨s,hs⟩,_⟩;cases hs);simp only [VR] at i;obtain ⟨B',y,_,_,q⟩:=i;have l:=K b B X;rw [l] at y;cases y;obtain ⟨o,rfl,q1,Y,q3⟩:=q (aJ t.1);have G:=aJ t.2;obtain ⟨cur,e',vs,rest,k,v,hp,F,L,R⟩:=(O.blk b B l).lies;have k:=k.cells A;have L:=L A;have T:=bQ F;have I:((vs.drop (j*size)).take (n*size)).length=n*size:=by
    rw [← bQ (qx _ (tJ _ F))];exact M
   by_cases hn:n=0
   ·subst hn;have N:(vs.drop (j*size)).take (0*size)= []:=by simp
    refine ⟨[], ?_, ?_, ?_⟩
    ·exact Src.ofSlice w d _ 0 _ [] (by simp) (fun _ _ h=>by simp at h) (fun _ h=>by simp at h)
    ·simp [bg]
    ·intro _;simp [dO]
   ·have D:=Y (by omega);refine ⟨(vs.drop (j*size)).take (n*size),Src.ofSlice w d _ n _ _ I ?_ ?_,qx _ (tJ _ F),fun pr=>kE _ (qp _ (hp pr))⟩
    ·intro jj u c;rw [D,Addr.add_mid,G,tX k,v];rw [Xj0] at c;split at c
     ·rw [List.getElem?_drop] at c;rw [Xxc (List.getElem?_eq_some_iff.1 c).1];exact c
     ·cases c
    ·intro u z;exact L u (Xzj (Xxg z))
  ·cases h
 ·cases h
theorem Ha:∀ (a:List Int) (s:List UInt8),a.foldl (fun (r:ByteArray) n=>r.push (Xqj n.toNat)) ⟨s.toArray⟩=⟨(s++a.map fun n=>Xqj n.toNat).toArray⟩
 | [],s=>by simp
 |n::a,s=>by
  simp only [Xjm];have e:(⟨s.toArray⟩:ByteArray).push (Xqj n.toNat)=⟨(s++ [Xqj n.toNat]).toArray⟩:=by simp [ByteArray.push]
  rw [e,Ha a];simp
theorem Dz (C:iU P ap) (Z:bP ap g m S w) {rd:dw} (M:∀ b B,rd b=some B→g b=some B) {s d:Nat} {U W:TI} (L:ap.tyAt s=some U) (K:ap.tyAt d=some W) {x v:AV} {N:Value} (G:VR g m S x N) {ups:List (Nat × a_)} {bs:List Bool}
  (h:Dy ap U W rd x=some (v,ups,bs)) (hbs:∀ b ∈ bs,b=true):ups= []∧∃ cv,(convert s d N).run P w= .ok cv w∧VR g m S v cv:=by
 obtain ⟨i1,d1,z1,F⟩:=dM C L;obtain ⟨i2,d2,z2,D⟩:=dM C K;unfold Dy at h;split at h
 ·rename_i k k' n hd;obtain ⟨rfl,rfl,rfl⟩:=aO h;rw [D.d_eq] at hd;have hd:=Xl hd;subst hd;simp only [VR,PR] at G;subst G;exact ⟨rfl,_,by simp [convert,run_underlying F.und,run_underlying D.und,Conv.intToInt];rfl,by simp only [VR,PR]⟩
 ·rename_i s' j i;obtain ⟨rfl,rfl,rfl⟩:=aO h;rw [F.d_eq] at j;rw [D.d_eq] at i;have j:=xx j;have i:=xx i;subst j;subst i;simp only [VR,PR] at G;subst G;exact ⟨rfl,_,by simp [convert,run_underlying F.und,run_underlying D.und];rfl,by simp only [VR,PR]⟩
 ·rename_i x0 e j i;have J:=bind_some h;clear h;obtain ⟨te,t,h⟩:=J;obtain ⟨ie,de,ze,t⟩:=dM C t;split at h
  ·cases h
  ·rename_i xa xt xb u z;have J:=bind_some h;clear h;obtain ⟨⟨p,n,pr⟩,y,h⟩:=J;obtain ⟨rfl,rfl,rfl⟩:=aO h;obtain ⟨V,R⟩:=bZ hbs;obtain ⟨R,_⟩:=bZ R;rw [F.d_eq] at j;rw [D.d_eq] at i;have j:=gV j;have i:=xx i;subst j;subst i;rw [t.d_eq] at u;have u:=Xl u;subst u;have V:=aJ V;obtain ⟨f,hs,X,_⟩:=sH (P:=P) Z M G y (by omega) (tx:=s) (.inr ⟨fun s e=>z s e,e,F.und⟩);have E:f=(p.map AV.toInt).map (Value.int .u8):=by
    have:∀ (p:List AV) (f:List Value),bg g m S p f→p.all (chk (.int .u8))=true→f=(p.map AV.toInt).map (Value.int .u8):=by
     intro p
     induction p with
     |nil=>intro f h _;cases f<;>simp [bg] at h ⊢
     | cons a r ih=>
      intro f h H;cases f with
      |nil=>simp [bg] at h
      |cons c q=>
       simp only [bg] at h;simp only [Xxr,ο] at H;rw [Xqi,Xqi,ih q h.2 H.2];congr 1;cases a<;>simp [chk] at H
       simp only [VR,PR] at h;rw [h.1,fP H.1];rfl
    exact this p f X R
   refine ⟨rfl,.string ⟨((p.map AV.toInt).map fun n=>Xqj n.toNat).toArray⟩, ?_, ?_⟩
   ·have hcells:=hs.cells;have A:=hs.len w;have o:=G;cases N
    case slice a l c=>
     have Y:l=n:=by simpa [Builtin.lenOf] using A
     subst Y;cases a with
     | none=>
      have I:f= []:=by simpa [Builtin.firstCells] using hcells.symm
      rw [I] at E;have Q:p= []:=by
       have:(p.map AV.toInt).map (Value.int .u8)= []:=E.symm;simpa using this
      subst Q;simp [convert,run_underlying F.und,run_underlying D.und,run_underlying t.und,Conv.bytesToString];rfl
     | some a=>
      have O:(loadCells a l).run P w= .ok ((p.map AV.toInt).map (Value.int .u8)).toArray w:=by
       rw [← E];simpa [Builtin.firstCells] using hcells
      have T:=run_bytesToString (P:=P) w a l c _ O;rw [show ByteArray.empty=⟨([]:List UInt8).toArray⟩ from rfl,Ha,Xqk] at T;simp only [convert,Sem.run_bind,run_underlying F.und,run_underlying D.und,run_underlying t.und,Result.andThen_ok];exact T
    all_goals (simp [Builtin.lenOf] at A)
    case string s0=>
     exfalso;cases xa<;>simp [LQ] at y
     case str s1=>exact z s1 rfl
     case nilS=>simp only [VR,PR] at o;cases o
     case sl a b c=>simp only [VR,PR] at o;obtain ⟨_,_,h,_⟩:=o;cases h
     case ref a b c d=>simp only [VR] at o;obtain ⟨_,_,_,⟨_,_,_,h⟩,_⟩:=o;cases h
   ·simp only [VR,PR];simp [List.map_map,Function.comp_def]
  ·cases h
 ·cases h
end
end AM
namespace AM
open Go
def dH (g:dw) (ups:List (Nat × a_)):dw:=fun b=>match az ups b with|some B=>some B|none=>g b
def kC (m:aV) (b:Nat) (x:Nat × Nat):aV:=fun c=>if c=b then x else m c
theorem iF {α:Type}:∀ (a b:List (Nat × α)) (t:Nat),az (a++b) t=match az a t with|some x=>some x|none=>az b t
 | [],b,t=>rfl
 |(u,x)::r,b,t=>by
  simp only [Xq9,az];split
  ·rfl
  ·exact iF r b t
theorem kw (ups:List (Nat × a_)) (hp:Hp):dH (az hp) ups=az (ups++hp):=by
 funext b;rw [iF];unfold dH;cases az ups b<;>rfl
theorem fD (g:dw):dH g []=g:=rfl
theorem mG (g:dw) (b:Nat) (B:a_) (c:Nat):dH g [(b,B)] c=if c=b then some B else g c:=by
 simp only [dH,az];by_cases h:c=b
 ·subst h;simp
 ·have:Xqq b c=false:=by
   cases a:Xqq b c with
   |false=>rfl
   |true=>exact absurd (aJ a).symm h
  rw [this,if_neg h]
section
variable {P:Program} {ap:AP} {g:dw} {m:aV} {S:aQ} {w:World}
theorem QN.mono {g g':dw} {m b:aV} {S S':aQ} {w w':World} {B:a_} {k c:Nat} (h:QN g m S w B k c) (a:oM S S') (r:Ge g m g' b) (n:w'.heap[k]? =w.heap[k]?):QN g' b S' w' B k c:=by
 obtain ⟨⟨cur,e,vs,rest,f,j,o,q,i,d⟩,l,s⟩:=h;exact ⟨⟨cur,e,vs,rest,f.same n,j,fun p=>cO a _ (o p),lX a r _ q,i,d⟩,l,s⟩
theorem bP.seal_lt (h:bP ap g m S w) {k o:Nat} {v:Value} (a:S k o=some v):k<w.heap.size:=Ul (h.sealed k o v a)
theorem bP.put (h:bP ap g m S w) (b:Nat) (B:a_) (k c:Nat) {w':World}
  (j:w.heap.size≤k∨∃ B0,g b=some B0∧k=(m b).1) (hw:w.grownBy w' (some k)) (hblk:QN g m S w' B k c)
  (hge:∀ B0,g b=some B0→B.esz=B0.esz∧((B.ver=B0.ver∧(k,c)=m b)∨B0.ver<B.ver))
  (hseal:∀ o v,S k o=some v→kH w' k o=some v∧B.fro=true∧o<B.fz):
  bP ap (dH g [(b,B)]) (kC m b (k,c)) S w'∧Fr g m S w (dH g [(b,B)]) (kC m b (k,c)) S w':=by
 have t:Ge g m (dH g [(b,B)]) (kC m b (k,c)):=by
  intro f B1 n;by_cases e:f=b
  ·subst e;obtain ⟨a,i⟩:=hge B1 n;refine ⟨B,by rw [mG,if_pos rfl],a, ?_⟩;rcases i with ⟨i,C⟩|i
   ·exact .inl ⟨i,by simp [kC,C]⟩
   ·exact .inr i
  ·exact ⟨B1,by rw [mG,if_neg e];exact n,rfl,.inl ⟨rfl,by simp [kC,e]⟩⟩
 have s:∀ f B1,g f=some B1→f ≠ b→(m f).1 ≠ k:=by
  intro f B1 n y e;have r:=h.lt n;rcases j with j|⟨B0,p,j⟩
  ·omega
  ·exact y (h.inj f b B1 B0 n p (e.trans j))
 have l:∀ k0,k0<w.heap.size→k0 ≠ k→w'.heap[k0]? =w.heap[k0]? :=fun k0 r A=>hw.block k0 r (by simpa using A)
 constructor
 ·refine ⟨?_, ?_, ?_, ?_,h.glob⟩
  ·intro f z B1 B2 d x u;rw [mG] at d x;by_cases a:f=b<;>by_cases i:z=b
   ·rw [a,i]
   ·rw [if_neg i] at x;simp only [kC,a,if_true,if_neg i] at u;exact absurd u.symm (s z B2 x i)
   ·rw [if_neg a] at d;simp only [kC,i,if_true,if_neg a] at u;exact absurd u (s f B1 d a)
   ·rw [if_neg a] at d;rw [if_neg i] at x;simp only [kC,if_neg a,if_neg i] at u;exact h.inj f z B1 B2 d x u
  ·intro f B1 d;rw [mG] at d;by_cases a:f=b
   ·rw [if_pos a] at d;cases d;simp only [kC,if_pos a];exact hblk.mono (oM.refl S) t rfl
   ·rw [if_neg a] at d;simp only [kC,if_neg a];exact (h.blk f B1 d).mono (oM.refl S) t (l _ (h.lt d) (s f B1 d a))
  ·intro k0 o v q;by_cases e:k0=k
   ·subst e;exact (hseal o v q).1
   ·rw [MW (l k0 (h.seal_lt q) e)];exact h.sealed k0 o v q
  ·intro f B1 d o v q;rw [mG] at d;by_cases a:f=b
   ·rw [if_pos a] at d;cases d;simp only [kC,if_pos a] at q;exact (hseal o v q).2
   ·rw [if_neg a] at d;simp only [kC,if_neg a] at q;exact h.own f B1 d o v q
 ·refine ⟨t,oM.refl S,hw.os,hw.tape,hw.output,hw.size, ?_, ?_,fun _ _ _ q=> .inl q⟩
  ·intro k0 r D;refine l k0 r (fun e=> ?_);subst e;rcases j with j|⟨B0,p,j⟩
   ·omega
   ·exact D b B0 p j.symm
  ·intro f B1 d;rw [mG] at d;by_cases a:f=b
   ·subst a;rcases j with j|⟨B0,p,j⟩
    ·exact .inl (by simpa [kC] using j)
    ·exact .inr ⟨B0,p,by simp [kC,j]⟩
   ·rw [if_neg a] at d;exact .inr ⟨B1,d,by simp [kC,a]⟩
end
mutual
theorem JE {g:dw} {m:aV} {S:aQ}:∀ (x:AV) {v:Value},VR g m S x v→dR x= []→PR S x v
 | .int _ _,_,p,_=>by simpa only [VR] using p
 | .bool _,_,p,_=>by simpa only [VR] using p
 | .str _,_,p,_=>by simpa only [VR] using p
 | .nilS,_,p,_=>by simpa only [VR] using p
 | .nilP,_,p,_=>by simpa only [VR] using p
 | .nilF,_,p,_=>by simpa only [VR] using p
 | .nilI,_,p,_=>by simpa only [VR] using p
 | .sl _ _ _,_,p,_=>by simpa only [VR] using p
 | .pp _ _,_,p,_=>by simpa only [VR] using p
 | .mp _ _,_,p,_=>by simpa only [VR] using p
 | .dead,_,_,_=>by simp only [PR]
 | .own _ _ _,_,p,_=>by simp only [VR] at p
 | .ref _ _ _ _,_,_,h=>by simp [dR] at h
 | .ptr _ _ _,_,_,h=>by simp [dR] at h
 | .mr _ _,_,_,h=>by simp [dR] at h
 | .agg l,_,p,h=>by
  simp only [VR] at p;simp only [PR];simp only [dR] at h;obtain ⟨vs,e,q⟩:=p;exact ⟨vs,e,fK l q h⟩
 | .tup l,_,p,h=>by
  simp only [VR] at p;simp only [PR];simp only [dR] at h;obtain ⟨vs,e,q⟩:=p;exact ⟨vs,e,fK l q h⟩
 | .fn f a c,_,p,h=>by
  simp only [VR] at p;simp only [PR];simp only [dR,Xj8] at h;obtain ⟨d,b,e,q,r⟩:=p;exact ⟨d,b,e,fK a q h.1,fK c r h.2⟩
 | .ifc t x,_,p,h=>by
  simp only [VR] at p;simp only [PR];simp only [dR] at h;obtain ⟨u,e,q⟩:=p;exact ⟨u,e,JE x q h⟩
theorem fK {g:dw} {m:aV} {S:aQ}:∀ (l:List AV) {vs:List Value},bg g m S l vs→bK l= []→dO S l vs
 | [],[],_,_=>by simp only [dO]
 |x::r,v::vs,p,h=>by simp only [bg] at p;simp only [bK,Xj8] at h;simp only [dO];exact ⟨JE x p.1 h.1,fK r p.2 h.2⟩
 | [],_::_,p,_=>by simp [bg] at p
 |_::_,[],p,_=>by simp [bg] at p
end
section
variable {P:Program} {ap:AP} {g:dw} {m:aV} {S:aQ} {w:World}
theorem qI {α:Type} {l:List α} (h:l.isEmpty=true):l= []:=by cases l<;>simp at h ⊢
theorem bP.fresh (h:bP ap g m S w) {nid:Nat} (j:g nid=none) (B:a_) (i:B.esz ≠ iL) (c:Nat) {w':World} {cur:Array Value} {e:TypeId} (b:w.grownBy w' none) (a:w'.heap[w.heap.size]? =some (.cells cur e (0,0)))
  (hver:B.fro=false→B.fz=0) (hfz:B.fz≤B.cells.length) {vs rest:List Value} (hc:cur.toList=vs++rest) (hp:B.pr=true→dO S B.cells vs) (f:bg g m S B.cells vs) (h1:∀ u ∈ vs,u.oneCell'=true) (hcap:0<B.esz→cur.size=c*B.esz∧c≤maxLen):
  bP ap (dH g [(nid,B)]) (kC m nid (w.heap.size,c)) S w'∧Fr g m S w (dH g [(nid,B)]) (kC m nid (w.heap.size,c)) S w':=by
 refine h.put nid B w.heap.size c (.inl (Δ _)) ⟨b.os,b.tape,b.output,b.size,fun k l _=>b.block k l (by simp)⟩ ⟨⟨cur,e,vs,rest,jB.of i a,hc,hp,f,fun _=>h1,fun d _=>hcap d⟩,hver,hfz⟩ (fun B0 d=>by rw [j] at d;cases d) ?_;intro o v f;have:=h.seal_lt f;omega
theorem Gt (h:bP ap g m S w) {nid:Nat} (d:g nid=none) {cells:List AV} {cv:Value} (a:bg g m S cells cv.cells.toList) (_hl:∀ x ∈ cells,n_ x=true) (c:∀ u ∈ cv.cells,u.oneCell'=true) (t:TypeId):
  ∃ m' w',(newVar t cv).run P w= .ok ⟨w.heap.size,0,none⟩ w'∧bP ap (dH g [jg nid cells 0]) m' S w'∧Fr g m S w (dH g [jg nid cells 0]) m' S w'∧(m' nid).1=w.heap.size:=by
 have b:=h.fresh (nid:=nid) d (jg nid cells 0).2 (by show 0 ≠ iL;decide) 0 (w':=w.alloc (.cells cv.cells t)) (cur:=cv.cells) (e:=t) (World.grownBy_alloc w _ none) (heap_alloc_new w _) (fun _=>rfl) (Xxo _) (vs:=cv.cells.toList) (rest:= []) (by simp)
  (fun hp=>fK _ a (qI hp)) a (fun u f=>c u (by simpa using f)) (fun h=>by simp [jg] at h)
 refine ⟨_,_, ?_,b.1,b.2,by simp [kC]⟩;simp [newVar,newRow]
theorem P9 {b:aV} {nid:Nat} {cells:List AV} {a k:Nat} (c:(b nid).1=k):VR (dH g [jg nid cells a]) b S (.ptr nid 0 0) (.pointer (some ⟨k,0,none⟩)):=by
 simp only [VR];refine ⟨(jg nid cells a).2, ?_,Xxo _,⟨_,_,rfl⟩,fun _=>by rw [c]⟩;show dH g [(nid,(jg nid cells a).2)] nid=_;rw [mG,if_pos rfl]
theorem Jq (h:bP ap g m S w) {rd:dw} (J:∀ b B,rd b=some B→g b=some B) {t:Nat} {K:TI} {i:TypeInfo} {d:TypeDesc} {z:Value} (T:BV P t K i d z) {p x v:AV} {L c:Value} (hp:VR g m S p L) (hx:VR g m S x c)
  {ups:List (Nat × a_)} {bs:List Bool} (hs:OC K rd p x=some (v,ups,bs)) (hbs:∀ b ∈ bs,b=true):
  v= .dead∧∃ m' w',(Instr.storeAt t L c).run P w= .ok () w'∧bP ap (dH g ups) m' S w'∧Fr g m S w (dH g ups) m' S w':=by
 unfold OC at hs;split at hs
 ·rename_i b ver a;have hq:=bind_some hs;clear hs;obtain ⟨B,hB,hs⟩:=hq;simp only at hs;split at hs
  ·rename_i N;simp only [ο,Xqo] at N;obtain ⟨⟨⟨⟨c1,c2⟩,Z⟩,c4⟩,M⟩:=N;have l:B.esz ≠ iL:=fun e=>by rw [e] at M;exact absurd M (by decide)
   cases hs;have f:=J b B hB;have I:=aJ c1;have Q:=aJ Z;have R:=fU (hbs _ (List.mem_singleton.2 rfl));simp only [VR] at hp;obtain ⟨B',G,_,_,q⟩:=hp;rw [f] at G;cases G;have q:=q I;subst q;obtain ⟨r,D⟩:=Dh hx (fun y Y=>List.all_eq_true.1 c4 y Y);obtain ⟨⟨cur,e,vs,rest,k1,k2,k3,k4,k5,k6⟩,k7,k8⟩:=h.blk b B f;have k1:=k1.cells l;have k5:=k5 l;have A:=bQ r;have U:=bQ k4;have F:c.cells.size=i.size:=by simp only [Array.length_toList] at A;rw [← T.size];omega
   have C:cur.toList.length=vs.length+rest.length:=by rw [k2];simp
   have H:=run_storeCells_at P (m b).1 a e c.cells.toList 0 cur w k1 (by simp only [Array.length_toList] at A C ⊢;omega) (fun u j=>D u (by simpa using j));simp only [Xq0] at H;have hnewl:(cur.toList.take a++c.cells.toList++cur.toList.drop (a+c.cells.toList.length))=(vs.take a++c.cells.toList++vs.drop (a+c.cells.toList.length))++rest:=by
    rw [k2,Xxv (by omega),List.drop_append_of_le_length (by omega)];simp [Xqe]
   have n:=h.put b {B with cells:=iP B.cells a x.cells,pr:=B.pr && (bK x.cells).isEmpty} (m b).1 (m b).2 (w':=w.setRow (m b).1 (cur.toList.take a++c.cells.toList++cur.toList.drop (a+c.cells.toList.length)).toArray)
    (.inr ⟨B,f,rfl⟩) ⟨rfl,rfl,rfl,by simp,fun k _ hk=>setRow_other w _ k _ (fun e=>hk (by rw [e]))⟩
    ⟨⟨_,e,vs.take a++c.cells.toList++vs.drop (a+c.cells.toList.length),rest,jB.of l (setRow_heap w _ cur _ e _ k1),by rw [Xw7,hnewl],fun s=>by
      simp only [ο] at s;exact XN (k3 s.1) (fK _ r (qI s.2)),OU k4 r,by
      intro _ u j;rcases List.mem_append.1 j with j|j
      ·rcases List.mem_append.1 j with j|j
       ·exact k5 u (Xxg j)
       ·exact D u (by simpa using j)
      ·exact k5 u (Xzj j),fun E _=>by
      obtain ⟨W,X⟩:=k6 E l;refine ⟨?_,X⟩;rw [← W,Xzm];simp only [θ,Xq2,Xxx,Array.length_toList] at A C ⊢;omega⟩,k7,by
     have:(iP B.cells a x.cells).length=B.cells.length:=by simp only [iP,θ,Xq2,Xxx];omega
     simp only [this];exact k8⟩
    (fun B0 O=>by rw [f] at O;cases O;exact ⟨rfl,.inl ⟨rfl,rfl⟩⟩)
    (fun o v V=>by
     have:=(h.own b B f o v V).1;rw [c2] at this;cases this)
   refine ⟨rfl,_,_, ?_,n.1,n.2⟩;have hn:¬ (c.cells.size ≠ i.size):=by simp [F]
   simp [Instr.storeAt,Instr.sureAddr,storeVar,Go.sizeOf,typeInfo,T.info,F,H]
  ·cases hs
 ·cases hs
end
end AM
namespace AM
open Go
section
variable {P:Program} {ap:AP} {g:dw} {m:aV} {S:aQ} {w:World}
theorem nM (g:dw) (b:Nat) (B:a_):dH g [(b,B)] b=some B:=by rw [mG,if_pos rfl]
theorem DZ {w w':World} (h:w.grownBy w' none) (r:Option Nat):w.grownBy w' r:=⟨h.os,h.tape,h.output,h.size,fun k a _=>h.block k a (by simp)⟩
theorem nU (w:World) (o:Obj):w.grownBy (w.drew.alloc o) none:=⟨rfl,rfl,rfl,by simp,fun k a _=>Go.RowKit.Below.heap_alloc w.drew o k a⟩
theorem vX {t tx ty e:TypeId} {i:TypeInfo} (d:P.underlying t=some (.slice e)) (c:P.info? e=some i) {x:Value} {a:List Value} (hs:Src P i.size tx x 0 a w):
  (Builtin.append_ #[t,tx] ty #[.slice none 0 0,x]).run P w= .ok (.slice none 0 0) w:=by
 rcases hs.kind with ⟨e',b⟩|b<;>simp [Builtin.append_,run_underlying d,run_underlying b,Go.sizeOf,typeInfo,c,hs.len,hs.cells]
theorem vZ {t tx ty e:TypeId} {i:TypeInfo} (h:P.underlying t=some (.slice e)) (f:P.info? e=some i) {k o sLen sCap n:Nat} {x:Value} {a:List Value} (hs:Src P i.size tx x n a w) (hroom:sLen+n≤sCap)
  {cur:Array Value} {e':TypeId} (hk:w.heap[k]? =some (.cells cur e' (0,0))) (hfit:o+sLen*i.size+a.length≤cur.size):
  (Builtin.append_ #[t,tx] ty #[.slice (some ⟨k,o,none⟩) sLen sCap,x]).run P w= .ok (.slice (some ⟨k,o,none⟩) (sLen+n) sCap) (w.setRow k (cur.toList.take (o+sLen*i.size)++a++cur.toList.drop (o+sLen*i.size+a.length)).toArray):=by
 have c:=run_storeCells_at P k (o+sLen*i.size) e' a 0 cur w hk (by simpa using hfit) hs.one;simp only [Xq0] at c;rcases hs.kind with ⟨d,b⟩|b<;>simp [Builtin.append_,run_underlying h,run_underlying b,Go.sizeOf,typeInfo,f,hs.len,hroom,hs.cells,Addr.add_mid,c]
theorem AC {n a bytes:Nat} (h:a<n) (c:n≤Hq) (b:bytes≤128):Builtin.nextslicecap n a*bytes≤281474976710656:=by
 refine growslice_fits h ?_;have:n*bytes≤Hq*128:=Nat.mul_le_mul c b;have e:Hq*128=140737488355328:=by decide
 omega
theorem yI:Hq=1099511627776:=by decide
theorem BP {t tx ty e:TypeId} {i:TypeInfo} (d:P.underlying t=some (.slice e)) (c:P.info? e=some i) {x:Value} {base:Option Addr} {sLen sCap:Nat} (hs:Src P i.size tx x 0 [] w) (f:sLen≤sCap):
  (Builtin.append_ #[t,tx] ty #[.slice base sLen sCap,x]).run P w= .ok (.slice base sLen sCap) w:=by
 cases base with
 |none=>rcases hs.kind with ⟨e',b⟩|b<;>simp [Builtin.append_,run_underlying d,run_underlying b,Go.sizeOf,typeInfo,c,hs.len,hs.cells,f]
 |some a=>rcases hs.kind with ⟨e',b⟩|b<;>simp [Builtin.append_,run_underlying d,run_underlying b,Go.sizeOf,typeInfo,c,hs.len,hs.cells,f,storeCells]
theorem ww (h:bP ap g m S w) {rd:dw} (Q:∀ b B,rd b=some B→g b=some B) {nid:Nat} (hn:g nid=none) {t tx e:Nat} {ti l:TI} {i F:TypeInfo} {z R:Value} {de:TypeDesc} (ht:BV P t ti i (.slice e) z) (y:BV P e l F de R)
  {s x v:AV} {cs cx:Value} (hvs:VR g m S s cs) (hvx:VR g m S x cx)
  (hk:((∃ s,x= .str s)∧P.underlying tx=some .string∧l.size=1)∨((∀ s,x ≠ .str s)∧∃ e,P.underlying tx=some (.slice e)))
  {em:Bool} (O:s= .nilS→∃ n,wQ x=some n∧Xqq n 0=em)
  {ups:List (Nat × a_)} {bs:List Bool} (E:xH nid l rd em s x=some (v,ups,bs)) (r:∀ b ∈ bs,b=true) (ty:Nat):
  ∃ cv m' w',(Builtin.append_ #[t,tx] ty #[cs,cx]).run P w= .ok cv w'∧bP ap (dH g ups) m' S w'∧Fr g m S w (dH g ups) m' S w'∧VR (dH g ups) m' S v cv:=by
 have hcount:∀ M n pr,LQ l.size rd x=some (M,n,pr)→wQ x=some n:=by
  intro M n pr a;unfold LQ at a;split at a
  ·cases a;rfl
  ·cases a;rfl
  ·cases a;rfl
  ·have hq:=bind_some a;clear a;obtain ⟨B,hB,a⟩:=hq;split at a
   ·cases a;rfl
   ·cases a
  ·cases a
 unfold xH at E;have hq:=bind_some E;clear E;obtain ⟨⟨M,n,pr⟩,a,E⟩:=hq;simp only at E;split at E
 ·cases E
 ·rename_i X;simp only [ο] at X;have hsz:=fV X.1;have hby:=fU X.2;have d:l.size=F.size:=y.size;have T:l.size ≠ iL:=fun e=>by have:=y.small;omega
  have hby':l.bytes=F.bytes:=y.bytes;have hzs:R.cells.size=F.size:=y.zsize;split at E
  ·
   obtain ⟨n',hc',O⟩:=O rfl;rw [hcount _ _ _ a] at hc';cases hc';simp only [VR,PR] at hvs;subst hvs;split at E
   ·
    obtain ⟨rfl,rfl,rfl⟩:=aO E;have N:n=0:=aJ O;subst N;have hl:=aJ (r _ (List.mem_singleton.2 rfl));obtain ⟨c,hs,hv,hp⟩:=sH (P:=P) h Q hvx a hl hk;rw [d] at hs;exact ⟨_,m,w,vX ht.und y.info hs,by rw [fD];exact h,by rw [fD];exact Fr.refl _ _ _ _,by simp [VR,PR]⟩
   ·
    cases E;obtain ⟨b1,r⟩:=bZ r;obtain ⟨b2,_⟩:=bZ r;have hl:=aJ b1;have hroom:=fU b2;have N:n ≠ 0:=by intro e;subst e;simp at O
    obtain ⟨c,hs,hv,hp⟩:=sH (P:=P) h Q hvx a hl hk;rw [d] at hs;have f:=run_append_grow_src w t tx ty e F R ht.und y.info y.zero none 0 0 [] (run_firstCells_none w.drew _ _ _ _) cx n c hs (by omega) (by rw [yI] at hroom;omega) (AC (by omega) (by simpa using hroom) (by omega));have Z:n≤grownCap w n 0 e:=grownCap_ge _ _ _ _;have W:grownCap w n 0 e≤maxLen:=grownCap_le_maxLen _ _ _ _ (by rw [yI] at hroom;simp only [maxLen];omega);simp only [Xqf] at f;have hf:=h.fresh (nid:=nid) hn ⟨M,0,false,0,l.size,pr⟩ T (grownCap w n 0 e) (cur:=([]++c).toArray++Builtin.zeroCells R.cells (grownCap w n 0 e - n)) (e:=e) (nU w _) (heap_alloc_new w.drew _) (fun _=>rfl) (Xxo _)
     (vs:=c) (rest:=(Builtin.zeroCells R.cells (grownCap w n 0 e - n)).toList) (by simp) hp hv hs.one (fun _=> ⟨by
      simp only [Array.size_append,Xzm,Xqk,size_zeroCells,hs.newsLen,hzs,d];rw [← Xxj];congr 1;omega,W⟩)
    refine ⟨_,_,_,f,hf.1,hf.2, ?_⟩;simp only [VR];refine ⟨_,nM _ _ _,Δ _,⟨_,_,_,rfl⟩,fun _=> ⟨0, ?_, ?_, ?_,hsz,T⟩⟩
    ·simp [kC]
    ·simpa [kC] using Z
    ·simp
  ·rename_i b ver mN;have hq:=bind_some E;clear E;obtain ⟨B,hB,E⟩:=hq;split at E
   ·rename_i G;simp only [ο,Xqo] at G;have hver:=aJ G.1.1;have U:=aJ G.1.2;have A:B.esz ≠ iL:=fun e=>by rw [e] at G;exact absurd G.2 (by decide)
    cases E;obtain ⟨b1,r⟩:=bZ r;obtain ⟨b2,r⟩:=bZ r;obtain ⟨b3,r⟩:=bZ r;obtain ⟨b4,_⟩:=bZ r;have hl:=aJ b1;have hroom:=fU b2;have hfit:=fU b3;have D:=Q b B hB;simp only [VR] at hvs;obtain ⟨B',hB',_,_,q⟩:=hvs;rw [D] at hB';cases hB';obtain ⟨o,rfl,hcap,ho,H,hnz1⟩:=q hver;simp only [Xqf,Nat.sub_zero,Nat.zero_mul] at hcap ho ⊢;obtain ⟨c,hs,hv,hp⟩:=sH (P:=P) h Q hvx a hl hk;rw [d] at hs;have hbk:=h.blk b B D;obtain ⟨⟨cur,e',vs,rest,k1,k2,k3,k4,k5,k6⟩,k7,k8⟩:=hbk;have k1:=k1.cells A;have k5:=k5 A;obtain ⟨s1,s2⟩:=k6 H A;have hvl:=bQ k4;have hcl:cur.toList.length=vs.length+rest.length:=by rw [k2];simp
    simp only [Array.length_toList] at hcl;have hfz:B.fz≤mN*l.size:=by
     cases hf:B.fro with
     |false=>rw [k7 hf];exact Xxo _
     |true=>simp [hf] at b4;exact fU (by simpa using b4)
    have holds:dO S (B.cells.take (mN*l.size)) (vs.take (mN*l.size))∨B.pr=false:=by
     cases hp:B.pr with
     |false=>exact .inr rfl
     |true=>exact .inl (kE _ (k3 hp))
    have L:(vs.take (mN*l.size)).length=mN*F.size:=by rw [Xq2,d] at*;omega
    have Y:bg g m S (B.cells.take (mN*l.size)++M) (vs.take (mN*l.size)++c):=gY (qx _ k4) hv;have V:(B.pr && pr)=true→dO S (B.cells.take (mN*l.size)++M) (vs.take (mN*l.size)++c):=by
     intro hh;simp only [ο] at hh;exact lC (kE _ (k3 hh.1)) (hp hh.2)
    have h1:∀ u ∈ vs.take (mN*l.size)++c,u.oneCell'=true:=by
     intro u C;rcases List.mem_append.1 C with C|C
     ·exact k5 u (Xxg C)
     ·exact hs.one u C
    have J:B.fz≤(B.cells.take (mN*l.size)++M).length:=by
     rw [θ,Xq2];omega
    by_cases hrm:mN+n≤(m b).2
    ·
     by_cases hc0:(m b).2=0
     ·have hm0:mN=0:=by omega
      have N:n=0:=by omega
      subst hm0;subst N;have hnews:c= []:=by have:=hs.newsLen;simpa using this
      subst hnews;have f:=BP (P:=P) (w:=w) (ty:=ty) (base:=some ⟨(m b).1,o,none⟩) (sLen:=0) (sCap:=(m b).2) ht.und y.info hs (by omega);have p:=h.put b {B with cells:=B.cells.take (0*l.size)++M,ver:=ver+1,pr:=B.pr && pr} (m b).1 (m b).2 (w':=w) (.inr ⟨B,D,rfl⟩) ⟨rfl,rfl,rfl,Δ _,fun _ _ _=>rfl⟩
       ⟨⟨cur,e',_,vs.drop (0*l.size)++rest,jB.of A k1,by rw [k2];simp,V,Y,fun _=>h1,k6⟩,k7,J⟩ (fun B0 I=>by rw [D] at I;cases I;exact ⟨rfl,.inr (by simp only;omega)⟩)
       (fun o' u C=> ⟨h.sealed _ _ _ C,(h.own b B D o' u C)⟩)
      refine ⟨_,_,_,f,p.1,p.2, ?_⟩;simp only [VR];refine ⟨_,nM _ _ _,Δ _,⟨_,_,_,rfl⟩,fun _=> ⟨o,by simp [kC],by simp,by simp [kC,hc0],H,A⟩⟩
     ·have ho0:o=0:=ho (by omega);subst ho0;have hnl:=hs.newsLen;have hbig:mN*F.size+n*F.size≤(m b).2*F.size:=by rw [← Xxj];exact Nat.mul_le_mul_right _ hrm
      have hcs:cur.size=(m b).2*F.size:=by rw [s1,U,d]
      have f:=vZ (P:=P) (w:=w) (ty:=ty) (o:=0) ht.und y.info hs hrm k1 (by simp only [Xqf];omega);simp only [Xqf] at f;have hlist:cur.toList.take (mN*F.size)=vs.take (mN*l.size):=by rw [k2,d,Xxv (by rw [d] at hfit;omega)]
      have p:=h.put b {B with cells:=B.cells.take (mN*l.size)++M,ver:=ver+1,pr:=B.pr && pr} (m b).1 (m b).2 (w':=w.setRow (m b).1 (cur.toList.take (mN*F.size)++c++cur.toList.drop (mN*F.size+c.length)).toArray)
       (.inr ⟨B,D,rfl⟩) ⟨rfl,rfl,rfl,by simp,fun k _ hk=>setRow_other w _ k _ (fun e=>hk (by rw [e]))⟩
       ⟨⟨_,e',_,cur.toList.drop (mN*F.size+c.length),jB.of A (setRow_heap w _ cur _ e' _ k1),by rw [hlist],V,Y,fun _=>h1,fun _ _=> ⟨by
        rw [← s1,Xzm];simp only [θ,Xq2,Xxx,Array.length_toList];omega,s2⟩⟩,k7,J⟩ (fun B0 I=>by rw [D] at I;cases I;exact ⟨rfl,.inr (by simp only;omega)⟩)
       (fun o' u C=>by
        obtain ⟨f1,f2⟩:=h.own b B D o' u C;refine ⟨?_,f1,f2⟩;have:=h.sealed _ _ _ C;cases K:u.oneCell' with
        |false=>
         obtain ⟨_,_,hm,_⟩:=uT this K;rw [k1] at hm;cases hm
        |true=>
        have this:=zi this K;rw [tX k1] at this;refine (jB.of A (setRow_heap w _ cur _ e' _ k1)).get ?_ (fun _=>K);simp only [Xqe];rw [Xxc (by simp only [Xq2,Array.length_toList];rw [d] at hfz;omega),List.getElem?_take_of_lt (by rw [d] at hfz;omega)];exact this)
      refine ⟨_,_,_,f,p.1,p.2, ?_⟩;simp only [VR];refine ⟨_,nM _ _ _,Δ _,⟨_,_,_,rfl⟩,fun _=> ⟨0,by simp [kC],by simpa [kC] using hrm,by simp,H,A⟩⟩
    ·
     have hold:(Builtin.firstCells F.size mN (.slice (some ⟨(m b).1,o,none⟩) mN (m b).2)).run P w.drew= .ok (vs.take (mN*l.size)).toArray w.drew:=by
      refine run_firstCells_some w.drew F.size mN ⟨(m b).1,o,none⟩ mN _ _ L ?_;intro j u C;have hjl:=(List.getElem?_eq_some_iff.1 C).1;rw [L] at hjl;have hm0:0<mN:=by
       rcases Nat.eq_zero_or_pos mN with I|I
       ·subst I;simp at hjl
       ·exact I
      have ho0:o=0:=ho (by omega);subst ho0;rw [Addr.add_mid,Xqf,tX (w:=w.drew) (j:=j) k1,k2];rw [Xj0] at C;split at C
      ·rw [Xxc (List.getElem?_eq_some_iff.1 C).1];exact C
      ·cases C
     have f:=run_append_grow_src w t tx ty e F R ht.und y.info y.zero (some ⟨(m b).1,o,none⟩) mN (m b).2 _ hold cx n c hs (by omega) (by rw [yI] at hroom;omega) (AC (by omega) hroom (by omega));have Z:mN+n≤grownCap w (mN+n) (m b).2 e:=grownCap_ge _ _ _ _;have W:grownCap w (mN+n) (m b).2 e≤maxLen:=grownCap_le_maxLen _ _ _ _ (by rw [yI] at hroom;simp only [maxLen];omega);have p:=h.put b {B with cells:=B.cells.take (mN*l.size)++M,ver:=ver+1,pr:=B.pr && pr} w.heap.size (grownCap w (mN+n) (m b).2 e) (.inl (Δ _))
      (DZ (nU w (.cells ((vs.take (mN*l.size)++c).toArray++Builtin.zeroCells R.cells (grownCap w (mN+n) (m b).2 e - (mN+n))) e)) _)
      ⟨⟨(vs.take (mN*l.size)++c).toArray++Builtin.zeroCells R.cells (grownCap w (mN+n) (m b).2 e - (mN+n)),e,_,(Builtin.zeroCells R.cells (grownCap w (mN+n) (m b).2 e - (mN+n))).toList,jB.of A (heap_alloc_new w.drew _),by simp,V,Y,fun _=>h1,fun _ _=> ⟨by
       simp only [Array.size_append,Xzm,θ,size_zeroCells,hs.newsLen,hzs];rw [L,U,d,← Xxj,← Xxj];congr 1;omega,W⟩⟩,k7,J⟩ (fun B0 I=>by rw [D] at I;cases I;exact ⟨rfl,.inr (by simp only;omega)⟩)
      (fun o' u C=>absurd (h.seal_lt C) (Xvr _))
     refine ⟨_,_,_,f,p.1,p.2, ?_⟩;simp only [VR];refine ⟨_,nM _ _ _,Δ _,⟨_,_,_,rfl⟩,fun _=> ⟨0,by simp [kC],by simpa [kC] using Z,by simp,H,A⟩⟩
   ·cases E
  ·cases E
end
end AM
namespace AM
open Go
theorem BA (n:Nat) (z:List AV):(gp n z).length=n*z.length:=by simp [gp]
theorem SG (n:Nat) (z:List AV):gp (n+1) z=z++gp n z:=by simp [gp,Xxb]
theorem Lp:∀ (n:Nat) (z:List AV) (i:Nat),i<n*z.length→(gp n z)[i]? =z[i % z.length]?
 |0,z,i,h=>by simp at h
 | n+1,z,i,h=>by
  rw [SG];by_cases a:i<z.length
  ·rw [Xxc a,Nat.mod_eq_of_lt a]
  ·have a:z.length≤i:=by omega
   rw [List.getElem?_append_right a,Lp n z (i - z.length) (by rw [Xxj,Nat.one_mul] at h;omega)];congr 1;rw [← Nat.mod_eq_sub_mod a]
section
variable {P:Program} {ap:AP} {g:dw} {m:aV} {S:aQ} {w:World}
theorem Df:∀ {l:List AV} {vs:List Value},l.length=vs.length→(∀ (i:Nat) x v,l[i]? =some x→vs[i]? =some v→VR g m S x v)→bg g m S l vs
 | [],[],_,_=>by simp [bg]
 |x::r,v::vs,hl,h=>by
  simp only [bg];exact ⟨h 0 x v rfl rfl,Df (by simpa using hl) fun i x v b a=>h (i+1) x v (by simpa using b) (by simpa using a)⟩
 | [],_::_,h,_=>by simp at h
 |_::_,[],h,_=>by simp at h
theorem zK (z:Array Value) (n:Nat):(madeCells z n).toList=(List.range n).map fun i=>z[i % z.size]! :=by simp [madeCells]
theorem wF {t:Nat} {f:TI} {i:TypeInfo} {d:TypeDesc} {z:Value} (c:BV P t f i d z) (n:Nat):bg g m S (gp n f.zero) (madeCells z.cells (n*i.size)).toList:=by
 have k:=qy (g:=g) (m:=m) (S:=S) c;have a:=bQ k;simp only [Array.length_toList,c.zsize] at a;refine Df (by rw [BA,a,Array.length_toList,size_madeCells]) ?_;intro j x v h e;have o:j<n*i.size:=by
  have:=(List.getElem?_eq_some_iff.1 h).1;rw [BA,a] at this;exact this
 rw [Lp n f.zero j (by rw [a];exact o),a] at h;rw [zK,c.zsize,Xq3,List.getElem?_range o] at e;simp only [Xja,Option.some.injEq] at e;obtain ⟨q,b,p⟩:=ry k _ h;have l:j % i.size<z.cells.size:=by rw [c.zsize];exact Nat.mod_lt _ c.pos
 simp only [Array.getElem?_toList] at b;rw [getElem!_pos z.cells _ l] at e;rw [Array.getElem?_eq_getElem l] at b;cases b;rw [← e];exact p
theorem Hm {n:Nat} {z:List AV} (h:∀ x ∈ z,n_ x=true):∀ x ∈ gp n z,n_ x=true:=by
 intro x a;simp only [gp,List.mem_flatten,List.mem_replicate] at a;obtain ⟨l,⟨_,rfl⟩,a⟩:=a;exact h x a
theorem BX:∀ {l:List AV} {vs:List Value},bg g m S l vs→(∀ x ∈ l,n_ x=true)→∀ u ∈ vs,u.oneCell'=true
 | [],[],_,_=>by simp
 |x::r,v::vs,h,hl=>by
  simp only [bg] at h;intro u a;rcases List.mem_cons.1 a with rfl|a
  ·exact ML h.1 (hl x (by simp))
  ·exact BX h.2 (fun y b=>hl y (by simp [b])) u a
 | [],_::_,h,_=>by simp [bg] at h
 |_::_,[],h,_=>by simp [bg] at h
theorem IR {b vs:List AV} {a:Nat} {x:AV} (h:x ∈ iP b a vs):x ∈ b∨x ∈ vs:=by
 simp only [iP,List.mem_append] at h;rcases h with (h|h)|h
 ·exact .inl (Xxg h)
 ·exact .inr h
 ·exact .inl (Xzj h)
theorem DU:∀ {ps:List (Nat × Nat × AV)} {cells cells':List AV},wB cells ps=some cells'→(∀ x ∈ cells,n_ x=true)→∀ x ∈ cells',n_ x=true
 | [],cells,cells',h,hl=>by simp [wB] at h;subst h;exact hl
 | (off,size,v)::r,cells,cells',h,hl=>by
  simp only [wB] at h;split at h
  ·rename_i b;simp only [ο] at b;refine DU h fun x a=> ?_
   rcases IR a with a|a
   ·exact hl x a
   ·exact List.all_eq_true.1 b.2 x a
  ·cases h
theorem Qk {nid:Nat} {cells:List AV} {a k c n:Nat} (b:n≤c) (hp:0<a) (d:a ≠ iL):VR (dH g [jg nid cells a]) (kC m nid (k,c)) S (.ref nid 0 0 n) (.slice (some ⟨k,0,none⟩) n c):=by
 simp only [VR];refine ⟨_,nM _ _ _,Xxo _,⟨_,_,_,rfl⟩,fun _=> ⟨0,by simp [kC],by simpa [kC] using b,by simp,hp,d⟩⟩
theorem sD:∀ (a b:List AV),bK (a++b)=bK a++bK b
 | [],b=>by simp [bK]
 |x::r,b=>by simp [bK,sD r b]
theorem Hl (z:List AV) (h:bK z= []):∀ n,bK (gp n z)= []
 |0=>by simp [gp,bK]
 |n+1=>by
  have a:=Hl z h n;simp only [gp,Xxb,List.flatten_cons,sD,h,Xqk] at a ⊢;exact a
theorem NW (nid n a:Nat) (z:List AV) (h:(bK z).isEmpty=true):(nid,(⟨gp n z,0,false,0,a,true⟩:a_))=jg nid (gp n z) a:=by
 have b:bK z= []:=by simpa using h
 simp [jg,Hl z b n]
theorem zL (A:iU P ap) (h:bP ap g m S w) {nid:Nat} (T:g nid=none) {t:Nat} {I:TI} {i:TypeInfo} {d:TypeDesc} {z:Value} (N:BV P t I i d z) {l c:AV} {cl M:Value} (H:VR g m S l cl) (O:VR g m S c M)
  {v:AV} {ups:List (Nat × a_)} {bs:List Bool} (k:w_ ap nid I l c=some (v,ups,bs)) (j:∀ b ∈ bs,b=true):
  ∃ cv m' w',(Instr.makeSlice t cl M).run P w= .ok cv w'∧bP ap (dH g ups) m' S w'∧Fr g m S w (dH g ups) m' S w'∧VR (dH g ups) m' S v cv:=by
 unfold w_ at k;split at k
 ·rename_i e V l Q c hd;have R:=bind_some k;clear k;obtain ⟨p,a,k⟩:=R;obtain ⟨n,W,C,a⟩:=dM A a;split at k
  ·rename_i f;simp only [ο] at f;have E:=f.2;have f:=f.1;have q:=fV f.1.1;have F:=fU f.2;rw [NW _ _ _ _ E] at k;cases k;obtain ⟨s,j⟩:=bZ j;obtain ⟨G,j⟩:=bZ j;obtain ⟨K,_⟩:=bZ j;have s:0≤l:=of_decide_eq_true s;have G:l=c:=of_decide_eq_true G;have K:l≤2^40:=of_decide_eq_true K;subst G;simp only [VR,PR] at H O;subst H;subst O;rw [N.d_eq] at hd;have hd:=gV hd;subst hd;have r:(n.bytes:Int)*l≤281474976710656:=by
    have D:(n.bytes:Int)≤128:=by rw [← a.bytes];exact_mod_cast F
    have J:(n.bytes:Int)*l≤128*l:=Int.mul_le_mul_of_nonneg_right D s;have U:(2:Int)^40=1099511627776:=by decide
    omega
   have B:l≤9223372036854775807:=by
    have U:(2:Int)^40=1099511627776:=by decide
    omega
   have o:=run_make (P:=P) w t e n C N.und a.info a.zero V Q l l s (Int.le_refl _) r B;have u:bg g m S (gp l.toNat p.zero) (madeCells C.cells (l.toNat*n.size)).toList:=wF a _;have y:∀ x ∈ gp l.toNat p.zero,n_ x=true:=Hm a.zleaf;have L:=h.fresh (nid:=nid) T (jg nid (gp l.toNat p.zero) p.size).2 (by have D:=a.small;have J:=a.size;show p.size ≠ iL;omega) l.toNat (w':=w.alloc (.cells (madeCells C.cells (l.toNat*n.size)) e)) (World.grownBy_alloc w _ none) (heap_alloc_new w _) (fun _=>rfl) (Xxo _)
    (rest:= []) (by rw [Θ]) (fun hp=>fK _ u (qI hp)) u (BX u y) (fun _=> ⟨by rw [size_madeCells];simp [jg,a.size],by simp only [maxLen];omega⟩)
   refine ⟨_,_,_,o,L.1,L.2, ?_⟩;exact Qk (Δ _) q (by have D:=a.small;have J:=a.size;omega)
  ·cases k
 ·cases k
theorem Fb {t e:TypeId} {i:TypeInfo} {z:Value} (k:P.underlying t=some (.slice e)) (d:P.info? e=some i) (h:i.zero=some z) {a:Nat} (f:a*i.size≤2^24) (j:a*i.size ≠ 0) {parts:Array (Nat × Value)} {cells:Array Value}
  (hf:Instr.fill (fun c=>some (c*i.size,i.size)) (madeCells z.cells (a*i.size)) parts.toList=some cells):
  (Instr.buildSlice t a parts).run P w= .ok (.slice (some ⟨w.heap.size,0,none⟩) a a) (w.alloc (.cells cells e)):=by
 have b:¬ (a*i.size>2^24):=by omega
 unfold madeCells at hf;simp only [Instr.buildSlice,Sem.run_bind,run_underlying k,Result.andThen_ok];simp [Go.sizeOf,typeInfo,d,zeroValue,h,j,newRow];rw [if_neg (by simpa using b)];simp [hf]
theorem BQ {t e:TypeId} {i:TypeInfo} (f:P.underlying t=some (.slice e)) (c:P.info? e=some i) {a:Nat} (d:a*i.size=0) {parts:Array (Nat × Value)} {cells:Array Value}
  (hf:Instr.fill (fun b=>some (b*i.size,i.size)) #[] parts.toList=some cells):
  (Instr.buildSlice t a parts).run P w= .ok (.slice (some ⟨w.heap.size,0,none⟩) a a) (w.alloc (.cells cells e)):=by
 simp [Instr.buildSlice,run_underlying f,Go.sizeOf,typeInfo,c,d,newRow,Array.range_zero',hf]
theorem xK (s:iU P ap) (h:bP ap g m S w) {nid:Nat} (J:g nid=none) {t:Nat} {E:TI} {i:TypeInfo} {d:TypeDesc} {z:Value} (D:BV P t E i d z) {b:Nat} {ps:List (Nat × AV)} {qs:Array (Nat × Value)} (I:xE g m S ps qs.toList)
  {v:AV} {ups:List (Nat × a_)} {bs:List Bool} (c:tK ap nid E b ps=some (v,ups,bs)):
  ∃ cv m' w',(Instr.buildSlice t b qs).run P w= .ok cv w'∧bP ap (dH g ups) m' S w'∧Fr g m S w (dH g ups) m' S w'∧VR (dH g ups) m' S v cv:=by
 unfold tK at c;split at c
 ·rename_i e hd;have l:=bind_some c;clear c;obtain ⟨p,a,c⟩:=l;obtain ⟨B,M,K,a⟩:=dM s a;split at c
  ·rename_i k;simp only [ο] at k;have f:=fV k.1.1;have u:=fU k.1.2;have l:=bind_some c;clear c;obtain ⟨cs,n,c⟩:=l;cases c;rw [D.d_eq] at hd;have hd:=gV hd;subst hd;have C:bg g m S (gp b p.zero) (madeCells K.cells (b*B.size)).toList:=wF a _;obtain ⟨j,q,A,L⟩:=pq _ qs.toList _ cs _ (rX (size:=p.size) I) C n;rw [a.size] at q;have o:(Instr.buildSlice t b qs).run P w= .ok (.slice (some ⟨w.heap.size,0,none⟩) b b) (w.alloc (.cells j e)):=by
    by_cases h0:b*B.size=0
    ·exact BQ D.und a.info h0 (by rw [h0] at q;simpa [madeCells,Array.range_zero'] using q)
    ·exact Fb D.und a.info a.zero (by rw [← a.size];exact u) h0 q
   have r:∀ x ∈ cs,n_ x=true:=DU n (Hm a.zleaf);have y:j.size=b*B.size:=by rw [L,size_madeCells]
   have F:=h.fresh (nid:=nid) J (jg nid cs p.size).2 (by have G:=a.small;have H:=a.size;show p.size ≠ iL;omega) b (w':=w.alloc (.cells j e)) (World.grownBy_alloc w _ none) (heap_alloc_new w _) (fun _=>rfl) (Xxo _)
    (rest:= []) (by rw [Θ]) (fun hp=>fK _ A (qI hp)) A (BX A r) (fun _=> ⟨by rw [y];simp [jg,a.size],by
     have G:b≤b*p.size:=Nat.le_mul_of_pos_right _ f;have N:(2:Nat)^24=16777216:=by decide
     simp only [maxLen];omega⟩)
   refine ⟨_,_,_,o,F.1,F.2, ?_⟩;exact Qk (Δ _) f (by have G:=a.small;have H:=a.size;omega)
  ·cases c
 ·cases c
theorem Xm {d:TypeDesc} {k e:Nat} (h:jU P (some d)= .map k e):d= .map k e:=by cases d<;>simp [jU] at h;obtain ⟨rfl,rfl⟩:=h;rfl
theorem RG {k:LK} {x y:AV} {u v:Value} (b:GV k x=true) (a:GV k y=true) (c:VR g m S x u) (d:VR g m S y v):
  sU k u v=some (DT x y)∧(DT x y=true→u=v)∧(∀ n,Instr.sameBits n u u=true)∧dR x= []:=by
 cases k<;>cases x<;>simp [GV] at b<;>cases y<;>simp [GV] at a<;>simp only [VR,PR] at c d<;>subst c<;>subst d
 ·refine ⟨by simp [sU,DT,b,a],fun h=> ?_,fun n=>by simp [Instr.sameBits],rfl⟩;simp only [DT,beq_iff_eq] at h;rw [← fP b,← fP a,h]
 ·refine ⟨by simp [sU,DT],fun h=> ?_,fun n=>by simp [Instr.sameBits],rfl⟩;simp only [DT,beq_iff_eq] at h;rw [h]
 ·refine ⟨by simp [sU,DT,xy],fun h=> ?_,fun n=>by cases n<;>simp [Instr.sameBits,MapKept.bytes_beq],rfl⟩;simp only [DT,beq_iff_eq] at h;rw [h]
theorem nZ:∀ {lks:List LK} {a b:List AV} {c d:List Value},mX lks a=true→mX lks b=true→bg g m S a c→bg g m S b d→
  dI lks c d=some (Iq a b)∧(Iq a b=true→c=d)∧(∀ n,∀ x ∈ c,Instr.sameBits n x x=true)∧bK a= []
 | [],[],[],[],[],_,_,_,_=> ⟨rfl,fun _=>rfl,by simp,rfl⟩
 | k::lks,x::a,y::b,u::c,v::d,ha,hb,h1,h2=>by
  simp only [mX,ο] at ha hb;simp only [bg] at h1 h2;obtain ⟨f,l,r,q⟩:=RG ha.1 hb.1 h1.1 h2.1;obtain ⟨j,i,o,p⟩:=nZ ha.2 hb.2 h1.2 h2.2;refine ⟨by simp [dI,f,j,Iq],fun h=> ?_,fun n z e=> ?_,by simp [bK,q,p]⟩
  ·simp only [Iq,ο] at h;rw [l h.1,i h.2]
  ·rcases List.mem_cons.1 e with rfl|e
   ·exact r n
   ·exact o n z e
 | [],_::_,_,_,_,ha,_,_,_=>by simp [mX] at ha
 |_::_,[],_,_,_,ha,_,_,_=>by simp [mX] at ha
 | [],[],_::_,_,_,_,hb,_,_=>by simp [mX] at hb
 |_::_,_::_,[],_,_,_,hb,_,_=>by simp [mX] at hb
 | [],[],[],_::_,_,_,_,h1,_=>by simp [bg] at h1
 | [],[],[],[],_::_,_,_,_,h2=>by simp [bg] at h2
 |_::_,_::_,_::_,[],_,_,_,h1,_=>by simp [bg] at h1
 |_::_,_::_,_::_,_::_,[],_,_,_,h2=>by simp [bg] at h2
def abx (P:Program) (n:Nat) (t:TypeId) (lks:List LK):Prop:=
 ∀ (em:Bool) (d:Nat) (w:World) (xs:List Value),n≤d→dI lks xs xs=some true→(Instr.checkKey em d t (uN P t xs)).run P w= .ok () w
theorem ui {lks:List LK} {a:List Value} {r:Bool} (h:dI lks a a=some r):dI lks a a=some true:=by
 induction lks generalizing a r with
 |nil=>cases a<;>simp [dI] at h ⊢
 | cons k lks ih=>
  cases a with
  |nil=>simp [dI] at h
  | cons x a=>
   simp only [dI] at h ⊢;obtain ⟨c,e,h⟩:=bind_some h;rw [Xqp] at h;obtain ⟨d,hd,rfl⟩:=h;have b:sU k x x=some true:=by
    cases k<;>cases x<;>simp [sU] at e ⊢
    split at e
    ·rename_i f;simp [f]
    ·cases e
   simp [b,ih hd]
theorem qX {n:Nat} (u:∀ t lks,jE P n t=some lks→abx P n t lks):∀ (fs:List Field) (off:Nat) (lks:List LK),xP P (jE P n) fs off=some lks→
  ∀ (em:Bool) (d:Nat) (w:World) (xs:List Value),n≤d→xs.length=off+lks.length→dI lks (xs.drop off) (xs.drop off)=some true→
   (forIn (m:=Sem) fs PUnit.unit fun f _=>do
    if f.name ≠ "_" then Instr.checkKey em d f.type (← part f.type xs.toArray f.offset)
    pure (ForInStep.yield PUnit.unit)).run P w= .ok PUnit.unit w
 | [],off,lks,hc,em,d,w,xs,hd,hx,h=>by simp
 | f ::fs,off,lks,hc,em,d,w,xs,hd,hx,h=>by
  simp only [xP] at hc;cases j:jE P n f.type with
  |none=>simp [j] at hc
  | some l=>
   simp only [j] at hc;split at hc
   ·rename_i hcond;simp only [ο,Xqo] at hcond;obtain ⟨⟨v,r⟩,c⟩:=hcond;cases s:xP P (jE P n) fs (off+l.length) with
    |none=>simp [s] at hc
    | some l'=>
     simp only [s] at hc;cases hc;cases q:P.info? f.type with
     |none=>simp [q] at c
     |some i=>
      simp only [q] at c;have c:=aJ c;have r:=aJ r;have o:f.name ≠ "_" :=by intro e;rw [e] at v;exact absurd v (by decide)
      simp only [θ] at hx;obtain ⟨a,b,k,p,y⟩:=rH l l' _ _ true h;have k:=ui k;have p:=ui p;have x:=uJ j q c xs off (by omega) w;have A:=u f.type l j em d w _ hd k;have z:=qX u fs (off+l.length) l' s em d w xs hd (by omega) (by simpa [Xjl,Nat.add_comm] using p);simp only [List.forIn_cons,Sem.run_bind,o,ne_eq,not_false_eq_true,if_true,Result.andThen_ok,r,x,A,Sem.run_pure];simpa using z
   ·cases hc
theorem JR:∀ (n:Nat) (t:TypeId) (lks:List LK),jE P n t=some lks→abx P n t lks
 |0,_,_,h=>by simp [jE] at h
 | n +1,t,lks,h=>by
  intro f d w c hd b;obtain ⟨d,rfl⟩:∃ k,d=k+1:=⟨d - 1,by omega⟩
  have e:=p_ _ _ _ _ b;unfold jE at h;cases a:P.underlying t with
  |none=>simp [a] at h
  | some ds=>
   unfold Instr.checkKey;simp only [Sem.run_bind,run_underlying a,Result.andThen_ok,uN,a];cases ds<;>simp only [a] at h<;>try cases h
   case struct fs=>
    split at h
    ·cases h
    ·have:=qX (JR n) fs.toList 0 lks h f d w c (by omega) (by simp [e.1]) (by simpa using b);simp only [← Array.forIn_toList];simpa using this
   all_goals (cases c.headD undef<;>simp)
theorem Eb (c:iU P ap) {t:Nat} {j:TI} (f:ap.tyAt t=some j) {a b:List AV} {d s:List Value} (h:j.cmp=true) (e:mX j.lks a=true) (k:mX j.lks b=true) (n:bg g m S a d) (x:bg g m S b s) (p:∃ v,P.underlying t=some (.struct v)):
  (∀ u,(Instr.checkKey u 10000 t (.agg d.toArray)).run P w= .ok () w)∧(Op.equal t (.agg d.toArray) (.agg s.toArray)).run P w= .ok (Iq a b) w:=by
 obtain ⟨v,p⟩:=p;rw [(yP c f).1] at h;rw [(yP c f).2] at e k;unfold Yf at h;cases i:jE P 8 t with
 |none=>simp [i] at h
 |some l=>
  simp only [i,ο,Xqo] at h;have o:=Em h.1;rw [← o] at e k;have q:=Dw 8 t l i 10000 w d s _ (by omega) (nZ e k n x).1;have r:=fun u=>JR 8 t l i u 10000 w d (by omega) (ui (nZ e e n n).1)
  simp only [uN,p] at q r;exact ⟨r,q⟩
theorem A7 {b:TI} {d:TypeDesc} (hd:b.d=jU P (some d)) (hs:∀ fs,d ≠ .struct fs) {x:AV} {v:Value} (h:kP b x=true) (a:VR g m S x v):MapKept.IsKey d v:=by
 unfold kP at h;rw [hd] at h;cases d<;>simp only [jU] at h<;>cases x<;>simp at h<;>simp only [VR,PR] at a<;>first|(exact absurd rfl (hs _))|(subst a;simp only [MapKept.IsKey])
 exact (fP h).symm
theorem U_ {f:TI} {d:TypeDesc} (hd:f.d=jU P (some d)) (hs:∀ fs,d ≠ .struct fs) {x y:AV} {u v:Value} (c:kP f x=true) (e:kP f y=true) (h:VR g m S x u) (i:VR g m S y v):Instr.sameNow d u v=some (wU x y):=by
 unfold kP at c e;rw [hd] at c e;cases d<;>simp only [jU] at c e<;>cases x<;>simp at c<;>cases y<;>simp at e<;>simp only [VR,PR] at h i<;>first|(exact absurd rfl (hs _))|(subst h;subst i;simp only [Instr.sameNow,wU])
 ·rw [if_pos ((fP c).symm.trans (fP e))]
 ·rename_i a b;congr 1;rw [Bool.eq_iff_iff,MapKept.bytes_beq];simp
theorem Ep (h:bP ap g m S w) {rd:dw} (l:∀ b B,rd b=some B→g b=some B) {x:AV} {t:Value} (o:VR g m S x t) {q:List AV × List AV} (a:VJ rd x=some q):
  ∃ d:Array MapEntry,((t= .map none∧d=#[])∨∃ b c,t= .map (some b)∧w.heap[b]? =some (.map d c))∧bg g m S q.1 (d.toList.map (·.key))∧bg g m S q.2 (d.toList.map (·.val)):=by
 unfold VJ at a;split at a
 ·rename_i ks vs;cases a;simp only [VR,PR] at o;rcases o with ⟨rfl,rfl,rfl⟩|⟨b,v,u,rfl,E,D,r,s⟩
  ·exact ⟨#[],.inl ⟨rfl,rfl⟩,by simp [bg],by simp [bg]⟩
  ·obtain ⟨d,c,p,i⟩:=uT (h.sealed _ _ _ E) rfl;obtain ⟨z,clk',k,j⟩:=uT (h.sealed _ _ _ D) rfl;rw [p] at k;cases k;have i:Value.agg (d.map (·.key))= .agg v.toArray:=Option.some.inj i;have j:Value.agg (d.map (·.val))= .agg u.toArray:=Option.some.inj j;have i:=Value.agg.inj i;have j:=Value.agg.inj j;refine ⟨d,.inr ⟨b,c,rfl,p⟩, ?_, ?_⟩
   ·rw [← Array.toList_map,i];exact bT _ r
   ·rw [← Array.toList_map,j];exact bT _ s
 ·rename_i b ver;have A:=bind_some a;clear a;obtain ⟨B,y,a⟩:=A;split at a
  ·rename_i f;simp only [ο] at f;split at a
   ·rename_i ks vs hcells;cases a;simp only [VR] at o;obtain ⟨B',n,_,_,q⟩:=o;rw [l b B y] at n;cases n;have q:=q (aJ f.1);obtain ⟨⟨cur,e,C,rest,k1,k2,_,k4,_,_⟩,_,_⟩:=h.blk b B (l b B y);obtain ⟨d,c,p,rfl⟩:=k1.map (aJ f.2);rw [hcells] at k4
    match C,k4 with
    | [u0,u1],k4=>
     simp only [bg,VR,and_true] at k4;obtain ⟨⟨v,rfl,r⟩,u,rfl,s⟩:=k4;simp only [xe,Xq9,List.cons.injEq] at k2;have i:=Value.agg.inj k2.1;have j:=Value.agg.inj k2.2.1;refine ⟨d,.inr ⟨_,c,q,p⟩, ?_, ?_⟩
     ·rw [← Array.toList_map,i];exact r
     ·rw [← Array.toList_map,j];exact s
    | [],k4=>simp [bg] at k4
    | [_],k4=>simp [bg] at k4
    |_::_::_::_,k4=>simp [bg] at k4
   ·cases a
  ·cases a
 ·cases a
structure XM (P:Program) (g:dw) (m:aV) (S:aQ) (w:World) (t:Nat) (ti:TI) (d:TypeDesc) (k:AV) (ck:Value):Prop where
 chk:∀ em,(Instr.checkKey em 10000 t ck).run P w= .ok () w
 stay:(Instr.keyThatStays ck ck).run P w= .ok ck w
 eqs:∀ {k' ck'},kP ti k'=true→VR g m S k' ck'→((match d with| .struct _=>(Op.equal t ck ck').run P w= .ok (wU k k') w|_=>Instr.sameNow d ck ck'=some (wU k k'))∧(wU k k'=true→ck=ck'))
theorem GX (A:iU P ap) {t:Nat} {q:TI} {i:TypeInfo} {d:TypeDesc} {z:Value} (D:ap.tyAt t=some q) (u:BV P t q i d z) {k:AV} {ck:Value} (s:kP q k=true) (E:VR g m S k ck):XM P g m S w t q d k ck:=by
 by_cases hs:∃ o,d= .struct o
 ·obtain ⟨o,rfl⟩:=hs;have hd:=u.d_eq;have K:∀ {x:AV},kP q x=true→∃ l,x= .agg l∧q.cmp=true∧mX q.lks l=true:=by
   intro x n;unfold kP at n;rw [hd] at n;cases x<;>simp [jU] at n
   exact ⟨_,rfl,n⟩
  obtain ⟨l,rfl,M,y⟩:=K s;have W:=E;simp only [VR] at E;obtain ⟨F,rfl,n⟩:=E;refine ⟨(Eb A D M y y n n ⟨o,u.und⟩).1, ?_, ?_⟩
  ·have N:Instr.sameBits 10000 (.agg F.toArray) (.agg F.toArray)=true:=by
    show Instr.sameBits (9999+1) _ _=true;have U:=(nZ y y n n).2.2.1 9999;simp only [Instr.sameBits,beq_self_eq_true,Bool.true_and,List.all_eq_true];intro p hp;obtain ⟨a,b⟩:=p;have Q:∀ l:List Value,(a,b) ∈ l.zip l→a=b∧a ∈ l:=by
     intro l
     induction l with
     |nil=>intro h;simp at h
     |cons c l ih=>
      intro h;simp only [List.zip_cons_cons,List.mem_cons,Prod.mk.injEq] at h;rcases h with ⟨rfl,rfl⟩|h
      ·exact ⟨rfl,by simp⟩
      ·exact ⟨(ih h).1,List.mem_cons_of_mem _ (ih h).2⟩
    obtain ⟨rfl,T⟩:=Q F hp;exact U a T
   simp [Instr.keyThatStays,N]
  ·intro O H f j;obtain ⟨X,rfl,_,B⟩:=K f;simp only [VR] at j;obtain ⟨Y,rfl,I⟩:=j;refine ⟨(Eb A D M y B n I ⟨o,u.und⟩).2,fun G=> ?_⟩;rw [(nZ y B n I).2.1 G]
 ·have hs:∀ o,d ≠ .struct o:=fun o e=>hs ⟨o,e⟩
  have v:=A7 u.d_eq hs s E;refine ⟨fun V=>MapKept.run_checkKey u.und v V 9999,MapKept.run_keyThatStays v, ?_⟩;intro O H f j;have J:=U_ u.d_eq hs s f E j;have R:=MapKept.sameNow_of_keys v (A7 u.d_eq hs f j);refine ⟨?_,fun G=> ?_⟩
  ·cases d<;>first|exact J|exact absurd rfl (hs _)
  ·obtain ⟨r,L,C⟩:=R;rw [J] at L;cases L;exact C.1 G
def jV (P:Program) (w:World) (t:Nat) (d:TypeDesc) (ck:Value) (l:List MapEntry) (i:Nat) (r:Option (Nat × Value)):Prop:=
 match d with
 | .struct _=>(Instr.findAsking t ck l i).run P w= .ok r w
 |_=>Instr.findNow d ck l i=some r
theorem jV.nil {t:Nat} {d:TypeDesc} {ck:Value} {i:Nat}:jV P w t d ck [] i none:=by
 unfold jV;cases d<;>first|rfl|simp [Instr.findAsking]
theorem jV.hit {t:Nat} {c:TI} {d:TypeDesc} {k a:AV} {ck:Value} {e:MapEntry} {l:List MapEntry} {i:Nat} (h:XM P g m S w t c d k ck) (b:kP c a=true) (f:VR g m S a e.key) (j:wU k a=true):jV P w t d ck (e::l) i (some (i,e.val)):=by
 have q:=(h.eqs b f).1;rw [j] at q;unfold jV;cases d<;>simp only at q ⊢ <;>first|(simp [Instr.findAsking,q];done)|(simp [Instr.findNow,q];done)
theorem jV.miss {t:Nat} {f:TI} {d:TypeDesc} {k b:AV} {ck:Value} {e:MapEntry} {l:List MapEntry} {i:Nat} {r:Option (Nat × Value)} (h:XM P g m S w t f d k ck) (c:kP f b=true) (j:VR g m S b e.key) (n:wU k b=false) (a:jV P w t d ck l (i+1) r):jV P w t d ck (e::l) i r:=by
 have q:=(h.eqs c j).1;rw [n] at q;unfold jV at a ⊢;cases d<;>simp only at q a ⊢ <;>first|(simp [Instr.findAsking,q,a];done)|(simp [Instr.findNow,q,a];done)
theorem jV.run {t:Nat} {c:TI} {i:TypeInfo} {d:TypeDesc} {z:Value} (b:BV P t c i d z) {ck:Value} {l:List MapEntry} {r:Option (Nat × Value)} (h:jV P w t d ck l 0 r):(Instr.findKey t ck l).run P w= .ok r w:=by
 by_cases hs:∃ a,d= .struct a
 ·obtain ⟨a,rfl⟩:=hs;simp only [jV] at h;cases l with
  |nil=>
   simp [Instr.findAsking] at h;subst h;simp [Instr.findKey,run_underlying b.und,Result.andThen,Instr.findNow]
  |cons e l=>
   simp only [Instr.findKey,Sem.run_bind,run_underlying b.und,Result.andThen_ok,Instr.findNow,Instr.sameNow];exact h
 ·have hs:∀ a,d ≠ .struct a:=fun a e=>hs ⟨a,e⟩
  refine MapKept.run_findKey b.und ?_;unfold jV at h;cases d<;>first|exact h|exact absurd rfl (hs _)
theorem uk {t:Nat} {q:TI} {d:TypeDesc} {k v:AV} {ck cv:Value} (b:XM P g m S w t q d k ck) (p:VR g m S v cv):∀ (l:List MapEntry) (ks vs:List AV) (i:Nat),bg g m S ks (l.map (·.key))→bg g m S vs (l.map (·.val))→ks.all (kP q)=true→
  (jV P w t d ck l i none∧dK ks vs k=none∧ks.any (wU k)=false∧oP ks vs k v=vs++ [v])∨
  ∃ j e x,jV P w t d ck l i (some (i+j,e.val))∧l[j]? =some e∧e.key=ck∧dK ks vs k=some x∧VR g m S x e.val∧ks.any (wU k)=true∧bg g m S (oP ks vs k v) ((l.set j {e with key:=ck,val:=cv}).map (·.val))
 | [],ks,vs,i,h1,h2,_=>by
  cases ks with
  |cons _ _=>simp [bg] at h1
  |nil=>
   cases vs with
   |cons _ _=>simp [bg] at h2
   |nil=>exact .inl ⟨jV.nil,rfl,rfl,rfl⟩
 | e ::l,ks,vs,i,h1,h2,ha=>by
  cases ks with
  |nil=>simp [bg] at h1
  | cons k0 ks=>
   cases vs with
   |nil=>simp [bg] at h2
   | cons v0 vs=>
    simp only [Xqi,bg] at h1 h2;simp only [Xxr,ο] at ha;cases a:wU k k0 with
    |true=>
     have c:e.key=ck:=((b.eqs ha.1 h1.1).2 a).symm;refine .inr ⟨0,e,v0,jV.hit b ha.1 h1.1 a,rfl,c, ?_,h2.1, ?_, ?_⟩
     ·simp [dK,a]
     ·simp [a]
     ·simp only [oP,a,List.set_cons_zero,Xqi,bg];exact ⟨p,h2.2⟩
    | false=>
     rcases uk b p l ks vs (i+1) h1.2 h2.2 ha.2 with ⟨n,f,h,o⟩|⟨j,e',x,n,f,h,o,s,r,u⟩
     ·refine .inl ⟨jV.miss b ha.1 h1.1 a n, ?_, ?_, ?_⟩
      ·simp [dK,a,f]
      ·simp only [Xvt,a,h];rfl
      ·simp [oP,a,o]
     ·refine .inr ⟨j+1,e',x, ?_,by simpa using f,h, ?_,s, ?_, ?_⟩
      ·rw [show i+(j+1)=i+1+j by omega];exact jV.miss b ha.1 h1.1 a n
      ·simp [dK,a,o]
      ·simp only [Xvt,a,r];rfl
      ·simp only [oP,a,List.set_cons_succ,Xqi,bg];exact ⟨h2.1,u⟩
theorem A8 {ok:Bool} {o:Option AV} {z:AV} {u c:Value} {b:Bool} (h:(o=none∧u=c∧b=false)∨∃ x,o=some x∧VR g m S x u∧b=true) (d:VR g m S z c):VR g m S (PO ok o z) (if ok then .tuple #[u,.bool b] else u):=by
 have a:VR g m S (o.getD z) u∧o.isSome=b:=by
  rcases h with ⟨rfl,rfl,rfl⟩|⟨x,rfl,e,rfl⟩
  ·exact ⟨d,rfl⟩
  ·exact ⟨e,rfl⟩
 cases ok with
 |true=>
  simp only [PO,if_true,VR];refine ⟨[u,.bool b],rfl, ?_⟩;simp only [bg,VR,PR,and_true];exact ⟨a.1,by rw [a.2]⟩
 |false=>simpa [PO] using a.1
theorem F5 (n:iU P ap) (h:bP ap g m S w) {rd:dw} (F:∀ b B,rd b=some B→g b=some B) {t:Nat} {I:TI} {i:TypeInfo} {d:TypeDesc} {z:Value} (A:BV P t I i d z) {x k v:AV} {J ck:Value} (V:VR g m S x J) (K:VR g m S k ck) {ok:Bool}
  {ups:List (Nat × a_)} {bs:List Bool} (c:IM ap I rd x k ok=some (v,ups,bs)) (r:∀ b ∈ bs,b=true):
  ups= []∧∃ cv,(Instr.lookup t J ck ok).run P w= .ok cv w∧VR g m S v cv:=by
 unfold IM at c;split at c
 ·rename_i X Z hd;have o:=bind_some c;clear c;obtain ⟨tk,a,c⟩:=o;have o:=bind_some c;clear c;obtain ⟨te,f,c⟩:=o;have o:=bind_some c;clear c;obtain ⟨q,o,c⟩:=o;have H:=bind_some c;clear c;obtain ⟨L,G,c⟩:=H;obtain ⟨rfl,rfl,rfl⟩:=aO c;have D:=a;obtain ⟨Y,dk,zk,a⟩:=dM n a;obtain ⟨ie,de,Q,f⟩:=dM n f;rw [A.d_eq] at hd;have hd:=Xm hd;subst hd;obtain ⟨R,r⟩:=bZ r;obtain ⟨U,_⟩:=bZ r;obtain ⟨N,s,v1,W⟩:=Ep h F V o;have l:=GX (w:=w) n D a R K;have u:VR g m S L Q:=xf f G;refine ⟨rfl, ?_⟩;rcases uk l K N.toList q.1 q.2 0 v1 W U with ⟨p,M,_,_⟩|⟨j,e,y,p,_,_,T,O,_,_⟩
  ·refine ⟨_, ?_,A8 (.inl ⟨M,rfl,rfl⟩) u⟩;rcases s with ⟨rfl,rfl⟩|⟨b,E,rfl,C⟩
   ·simp [Instr.lookup,run_underlying A.und,l.chk,p.run a,zeroValue,typeInfo,f.info,f.zero,Result.andThen]
   ·simp [Instr.lookup,run_underlying A.und,MapKept.run_getObj_map C,l.chk,p.run a,zeroValue,typeInfo,f.info,f.zero,Result.andThen]
  ·refine ⟨_, ?_,A8 (.inr ⟨y,T,O,rfl⟩) u⟩;rcases s with ⟨rfl,rfl⟩|⟨b,E,rfl,C⟩
   ·have p:=p.run a;simp [Instr.findKey,run_underlying a.und,Result.andThen,Instr.findNow] at p
   ·simp [Instr.lookup,run_underlying A.und,MapKept.run_getObj_map C,l.chk,p.run a,Result.andThen]
 ·cases c
mutual
theorem OQ {S:aQ}:∀ (x:AV) {v:Value},PR S x v→dR x= []
 | .int _ _,_,_=>rfl
 | .bool _,_,_=>rfl
 | .str _,_,_=>rfl
 | .nilS,_,_=>rfl
 | .nilP,_,_=>rfl
 | .nilF,_,_=>rfl
 | .nilI,_,_=>rfl
 | .sl _ _ _,_,_=>rfl
 | .pp _ _,_,_=>rfl
 | .mp _ _,_,_=>rfl
 | .dead,_,_=>rfl
 | .own _ _ _,_,p=>by simp only [PR] at p
 | .ref _ _ _ _,_,p=>by simp only [PR] at p
 | .ptr _ _ _,_,p=>by simp only [PR] at p
 | .mr _ _,_,p=>by simp only [PR] at p
 | .agg l,_,p=>by
  simp only [PR] at p;simp only [dR];obtain ⟨_,_,q⟩:=p;exact qw l q
 | .tup l,_,p=>by
  simp only [PR] at p;simp only [dR];obtain ⟨_,_,q⟩:=p;exact qw l q
 | .fn f a c,_,p=>by
  simp only [PR] at p;simp only [dR];obtain ⟨_,_,_,q,r⟩:=p;rw [qw a q,qw c r];rfl
 | .ifc t x,_,p=>by
  simp only [PR] at p;simp only [dR];obtain ⟨_,_,q⟩:=p;exact OQ x q
theorem qw {S:aQ}:∀ (l:List AV) {vs:List Value},dO S l vs→bK l= []
 | [],_,_=>rfl
 |x::r,v::vs,p=>by simp only [dO] at p;simp only [bK,OQ x p.1,qw r p.2,Θ]
 |_::_,[],p=>by simp [dO] at p
end
theorem G8 (h:bP ap g m S w) {b:Nat} {B:a_} {a:Array MapEntry} {clk':Nat} {k:Nat} {w':World} (r:w'.heap[k]? =some (.map a clk')) (e:B.esz=iL) {ks vs:List AV} (l:B.cells= [.agg ks,.agg vs]) (n:bg g m S ks (a.toList.map (·.key))) (o:bg g m S vs (a.toList.map (·.val))) (hp:B.pr=true→bK vs= []∧bK ks= []) (f:B.fro=false→B.fz=0) (i:B.fz≤2) (c:Nat):QN g m S w' B k c:=by
 refine ⟨⟨xe a,0,[.agg (a.map (·.key)),.agg (a.map (·.val))],[],.inr ⟨e,a,clk',r,rfl⟩,rfl, ?_, ?_,fun j=>absurd e j,fun _ j=>absurd e j⟩,f,by rw [l];exact i⟩
 ·intro d;obtain ⟨p,q⟩:=hp d;rw [l];simp only [dO,PR,and_true];exact ⟨⟨(a.map (·.key)).toList,by rw [Array.toArray_toList],by rw [Array.toList_map];exact fK _ n q⟩,(a.map (·.val)).toList,by rw [Array.toArray_toList],by rw [Array.toList_map];exact fK _ o p⟩
 ·rw [l];simp only [bg,VR,and_true];exact ⟨⟨(a.map (·.key)).toList,by rw [Array.toArray_toList],by rw [Array.toList_map];exact n⟩,(a.map (·.val)).toList,by rw [Array.toArray_toList],by rw [Array.toList_map];exact o⟩
theorem F6 (h:bP ap g m S w) {nid:Nat} (e:g nid=none) (t:Nat):
  ∃ cv m' w',(Instr.makeMap t none).run P w= .ok cv w'∧bP ap (dH g [(nid,⟨[.agg [],.agg []],0,false,0,iL,true⟩)]) m' S w'∧Fr g m S w (dH g [(nid,⟨[.agg [],.agg []],0,false,0,iL,true⟩)]) m' S w'∧VR (dH g [(nid,⟨[.agg [],.agg []],0,false,0,iL,true⟩)]) m' S (.mr nid 0) cv:=by
 have a:=h.put nid ⟨[.agg [],.agg []],0,false,0,iL,true⟩ w.heap.size 0 (w':=w.alloc (.map #[] 0)) (.inl (Δ _)) (World.grownBy_alloc w _ _)
  (G8 h (b:=nid) (heap_alloc_new w _) rfl rfl (by simp [bg]) (by simp [bg]) (fun _=> ⟨rfl,rfl⟩) (fun _=>rfl) (Xxo _) 0)
  (fun B0 c=>by rw [e] at c;cases c) (fun o v d=>absurd (h.seal_lt d) (Xvr _))
 refine ⟨.map (some w.heap.size),_,_, ?_,a.1,a.2, ?_⟩
 ·simp [Instr.makeMap,Result.andThen]
 ·simp only [VR];exact ⟨_,nM _ _ _,Δ _,⟨_,rfl⟩,fun _=>by simp [kC]⟩
theorem D_:∀ (lks:List LK) (l:List AV),mX lks l=true→bK l= []
 | [],[],_=>rfl
 |k::lks,x::l,h=>by
  simp only [mX,ο] at h;have a:dR x= []:=by cases k<;>cases x<;>first|rfl|(have:=h.1;simp [GV] at this)
  simp only [bK,a,D_ lks l h.2,Θ]
 | [],_::_,h=>by simp [mX] at h
 |_::_,[],h=>by simp [mX] at h
theorem Ad:∀ (l:List AV) (b:TI),l.all (kP b)=true→bK l= []
 | [],_,_=>rfl
 | x::r,b,h=>by
  simp only [Xxr,ο] at h;have c:dR x= []:=by
   have a:=h.1;unfold kP at a;split at a<;>first|rfl|(cases a;done)|skip
   simp only [ο] at a;simp only [dR];exact D_ _ _ a.2
  simp only [bK,c,Ad r b h.2,Θ]
theorem EZ:∀ (ks vs:List AV) (k v:AV),bK vs= []→dR v= []→bK (oP ks vs k v)= []
 | [],_,k,v,_,h2=>by simp [oP,bK,h2]
 |_::_,[],k,v,_,h2=>by simp [oP,bK,h2]
 |k0::ks,v0::vs,k,v,h1,h2=>by
  simp only [bK,Xj8] at h1;simp only [oP];split
  ·simp [bK,h1.2,h2]
  ·simp [bK,h1.1,EZ ks vs k v h1.2 h2]
theorem wJ (J:iU P ap) (h:bP ap g m S w) {rd:dw} (K:∀ b B,rd b=some B→g b=some B) {t:Nat} {ti:TI} {i:TypeInfo} {d:TypeDesc} {z:Value} (ht:BV P t ti i d z) {x k v r:AV} {cx ck cv:Value} (Z:VR g m S x cx) (hk:VR g m S k ck) (hv:VR g m S v cv)
  {ups:List (Nat × a_)} {bs:List Bool} (f:CV ap ti rd x k v=some (r,ups,bs)) (H:∀ b ∈ bs,b=true):
  r= .dead∧∃ D w',(Instr.mapUpdate t cx ck cv).run P w= .ok () w'∧bP ap (dH g ups) D S w'∧Fr g m S w (dH g ups) D S w':=by
 unfold CV at f;split at f
 ·rename_i kt et b ver hd;have hq:=bind_some f;clear f;obtain ⟨tk,l,f⟩:=hq;have hq:=bind_some f;clear f;obtain ⟨B,hB,f⟩:=hq;split at f
  ·rename_i p;simp only [ο,Xqo] at p;split at f
   ·rename_i ks vs hcells;cases f;have W:=l;obtain ⟨ik,dk,zk,l⟩:=dM J l;rw [ht.d_eq] at hd;have hd:=Xm hd;subst hd;obtain ⟨b1,H⟩:=bZ H;obtain ⟨b2,_⟩:=bZ H;have c:=K b B hB;have hz:=aJ p.1.2;have X:VJ rd (.mr b ver)=some (ks,vs):=by
     unfold VJ;simp only [hB,Option.bind_some,p.1.1,p.1.2,Bool.and_self,hcells]
    obtain ⟨s,T,v1,v2⟩:=Ep h K Z X;have E:=GX (w:=w) J W l b1 hk;simp only [VR] at Z;obtain ⟨B',L,_,_,q⟩:=Z;rw [c] at L;cases L;have q:=q (aJ p.1.1);subst q;rcases T with ⟨e,_⟩|⟨b0,I,e,Q⟩
    ·cases e
    cases e;have V:(m b).1<w.heap.size:=h.lt c;obtain ⟨_,k7,k8⟩:=h.blk b B c;have key:∀ (a:Array MapEntry) (clk':Nat),bg g m S (xg ks k) (a.toList.map (·.key))→bg g m S (oP ks vs k v) (a.toList.map (·.val))→
      ∃ D,bP ap (dH g [(b,{B with cells:= [.agg (xg ks k),.agg (oP ks vs k v)],pr:=B.pr && (dR v).isEmpty})]) D S {w with heap:=w.heap.setIfInBounds (m b).1 (.map a clk')}∧Fr g m S w (dH g [(b,{B with cells:= [.agg (xg ks k),.agg (oP ks vs k v)],pr:=B.pr && (dR v).isEmpty})]) D S {w with heap:=w.heap.setIfInBounds (m b).1 (.map a clk')}:=by
     intro a clk' w1 w2;have F:=h.put b {B with cells:= [.agg (xg ks k),.agg (oP ks vs k v)],pr:=B.pr && (dR v).isEmpty} (m b).1 (m b).2 (w':={w with heap:=w.heap.setIfInBounds (m b).1 (.map a clk')})
      (.inr ⟨B,c,rfl⟩) ⟨rfl,rfl,rfl,by simp,fun k' _ U=>by simp [show (m b).1 ≠ k' from fun e=>U (by rw [e])]⟩
      (G8 h (b:=b) (B:={B with cells:= [.agg (xg ks k),.agg (oP ks vs k v)],pr:=B.pr && (dR v).isEmpty}) (w':={w with heap:=w.heap.setIfInBounds (m b).1 (.map a clk')}) (k:=(m b).1) (clk':=clk') (by simp [V]) hz rfl w1 w2 (fun A=>by
       have A:(B.pr && (dR v).isEmpty)=true:=A;simp only [ο] at A;obtain ⟨⟨cur,e,us,rest,k1,k2,k3,k4,_,_⟩,_,_⟩:=h.blk b B c;have Y:bK B.cells= []:=qw _ (k3 A.1);rw [hcells] at Y;simp only [bK,dR,Θ,Xj8] at Y;refine ⟨EZ _ _ _ _ Y.2 (qI A.2), ?_⟩;have N:=Ad ks _ b2;unfold xg;split
       ·exact N
       ·rw [sD,N];exact Ad [k] tk (by simp [b1])) k7 (by rw [hcells] at k8;exact k8) (m b).2)
      (fun B0 h0=>by rw [c] at h0;cases h0;exact ⟨rfl,.inl ⟨rfl,rfl⟩⟩)
      (fun o u hu=>by
       have:=(h.own b B c o u hu).1;rw [p.2] at this;cases this)
     exact ⟨_,F.1,F.2⟩
    refine ⟨rfl, ?_⟩;rcases uk E hv s.toList ks vs 0 v1 v2 b2 with ⟨R,r2,r3,r4⟩|⟨j,e,y,R,rj,rk,r4,r5,r6,r7⟩
    ·obtain ⟨D,s1,s2⟩:=key (s.push {key:=ck,val:=cv,born:=I}) (I+1)
      (by unfold xg;rw [r3,Array.toList_push,Xxy];exact gY v1 (by simp only [Xqi,Xjd,bg,and_true];exact hk))
      (by rw [r4,Array.toList_push,Xxy];exact gY v2 (by simp only [Xqi,Xjd,bg,and_true];exact hv))
     refine ⟨D,_, ?_,s1,s2⟩;simp [Instr.mapUpdate,run_underlying ht.und,MapKept.run_getObj_map Q,E.chk,R.run l,MapKept.run_setObj_map _ Q,Result.andThen]
    ·have C:s[j]? =some e:=by simpa using rj
     have M:(s.modify j fun e=> {e with key:=ck,val:=cv}).toList=s.toList.set j {e with key:=ck,val:=cv}:=by
      apply Xju;intro n;simp only [Array.getElem?_toList,Array.getElem?_modify,Xzk];by_cases hjn:j=n
      ·subst hjn;have G:j<s.toList.length:=(List.getElem?_eq_some_iff.1 rj).1;rw [if_pos rfl,if_pos rfl,if_pos G,C];rfl
      ·rw [if_neg hjn,if_neg hjn]
     obtain ⟨D,s1,s2⟩:=key (s.modify j fun e=> {e with key:=ck,val:=cv}) I
      (by
       unfold xg;rw [r6,M];have:(s.toList.set j {e with key:=ck,val:=cv}).map (·.key)=s.toList.map (·.key):=by
        apply Xju;intro n;simp only [Xq3,Xzk];by_cases hjn:j=n
        ·subst hjn;have G:j<s.toList.length:=(List.getElem?_eq_some_iff.1 rj).1;have O:j<s.size:=by simpa using G
         have hge:s[j]=e:=by rw [Array.getElem?_eq_getElem O] at C;exact Option.some.inj C
         simp [O,hge,rk]
        ·simp [hjn]
       rw [this];exact v1)
      (by rw [M];exact r7)
     refine ⟨D,_, ?_,s1,s2⟩;rw [Xqf] at R;simp [Instr.mapUpdate,run_underlying ht.und,MapKept.run_getObj_map Q,E.chk,R.run l,C,rk,E.stay,MapKept.run_setObj_map _ Q,Result.andThen]
   ·cases f
  ·cases f
 ·cases f
end
end AM
namespace AM
open Go
section
variable {P:Program} {ap:AP} {g:dw} {m:aV} {S:aQ} {w:World}
theorem uQ {ρ:Operand→AV} {cρ:Operand→Value}:∀ (l:List Operand),(∀ o ∈ l,VR g m S (ρ o) (cρ o))→bg g m S (l.map ρ) (l.map cρ)
 | [],_=>by simp [bg]
 |o::r,h=>by simp only [Xqi,bg];exact ⟨h o (by simp),uQ r fun o a=>h o (by simp [a])⟩
theorem C_ {ρ:Operand→AV} {cρ:Operand→Value}:∀ (l:List (Nat × Operand)),(∀ o ∈ l.map (·.2),VR g m S (ρ o) (cρ o))→xE g m S (l.map fun (i,x)=>(i,ρ x)) (l.map fun (i,x)=>(i,cρ x))
 | [],_=>by simp [xE]
 |(i,o)::r,h=>by simp only [Xqi,xE];exact ⟨trivial,h o (by simp),C_ r fun o a=>h o (by simp [a])⟩
def iV (P:Program) (ap:AP) (g:dw) (m:aV) (S:aQ) (w:World) (s:Sem Next) (v:AV) (ups:List (Nat × a_)):Prop:=
 ∃ nx m' w',s.run P w= .ok nx w'∧bP ap (dH g ups) m' S w'∧Fr g m S w (dH g ups) m' S w'∧((∃ cv,nx= .value cv∧VR (dH g ups) m' S v cv)∨(nx= .skip∧v= .dead))
theorem iV.pur (h:bP ap g m S w) {s:Sem Value} {v:AV} {ups:List (Nat × a_)} (hs:ups= []∧∃ cv,s.run P w= .ok cv w∧VR g m S v cv):iV P ap g m S w (do pure (.value (← s))) v ups:=by
 obtain ⟨rfl,cv,a,b⟩:=hs;exact ⟨.value cv,m,w,by simp [a],by rw [fD];exact h,by rw [fD];exact Fr.refl _ _ _ _,.inl ⟨cv,rfl,by rw [fD];exact b⟩⟩
theorem iV.full {s:Sem Value} {v:AV} {ups:List (Nat × a_)} (hs:∃ cv a w',s.run P w= .ok cv w'∧bP ap (dH g ups) a S w'∧Fr g m S w (dH g ups) a S w'∧VR (dH g ups) a S v cv):iV P ap g m S w (do pure (.value (← s))) v ups:=by
 obtain ⟨cv,a,w',b,e,c,d⟩:=hs;exact ⟨.value cv,a,w',by simp [b],e,c,.inl ⟨cv,rfl,d⟩⟩
theorem iV.val (h:bP ap g m S w) {s:Sem Next} {v:AV} {cv:Value} (hs:s.run P w= .ok (.value cv) w) (a:VR g m S v cv):iV P ap g m S w s v []:=
 ⟨.value cv,m,w,hs,by rw [fD];exact h,by rw [fD];exact Fr.refl _ _ _ _,.inl ⟨cv,rfl,by rw [fD];exact a⟩⟩
theorem CX {ρ:Operand→AV} {cρ:Operand→Value} (x:Option Operand) (h:∀ o ∈ x.toArray,VR g m S (ρ o) (cρ o)):CW g m S (x.map ρ) (x.map cρ):=by
 cases x with
 |none=>simp [CW]
 |some o=>simp only [Xja,CW];exact h o (by simp)
theorem JW (a:iU P ap) {t:Nat} {b:TI} (h:ap.tyAt t=some b) (hd:b.d ≠ .iface):P.concrete t=true:=by
 obtain ⟨i,d,z,c⟩:=dM a h;have:=c.d_eq;simp only [Program.concrete,c.und];cases d<;>simp_all [jU]
set_option maxHeartbeats 1000000 in
theorem Sm (j:iU P ap) (D:bP ap g m S w) {nid:Nat} (X:g nid=none) {ρ:Operand→AV} {cρ:Operand→Value} {rd:dw} (H:∀ b B,rd b=some B→g b=some B) (o:Oper) (hρ:∀ x ∈ o.op.operands,VR g m S (ρ x) (cρ x))
  {dec:Operand→Option Bool} (hdec:∀ x ∈ o.op.operands,∀ b,dec x=some b→cρ x= .bool b) {em:Bool} (hem:∀ n,yf ρ o.op=some n→Xqq n 0=em)
  {v:AV} {ups:List (Nat × a_)} {bs:List Bool} (h:opA ap nid ρ rd dec em o.op=some (v,ups,bs)) (hbs:∀ b ∈ bs,b=true):iV P ap g m S w (execOp cρ o) v ups:=by
 unfold opA at h;unfold execOp;split at h<;>rename_i heq<;>simp only [heq,Op.operands] at hρ hdec hem ⊢
 ·obtain ⟨rfl,rfl,rfl⟩:=aO h;exact iV.val D (by simp) (hρ _ (by simp))
 ·obtain ⟨rfl,rfl,rfl⟩:=aO h;exact iV.val D (by simp) (hρ _ (by simp))
 ·
  rename_i c a b;split at h
  ·rename_i hd;obtain ⟨rfl,rfl,rfl⟩:=aO h;have:=hdec c (by simp) _ hd;exact iV.val D (by simp [this,asBool]) (hρ _ (by simp))
  ·rename_i hd;obtain ⟨rfl,rfl,rfl⟩:=aO h;have:=hdec c (by simp) _ hd;exact iV.val D (by simp [this,asBool]) (hρ _ (by simp))
  ·split at h
   ·rename_i bc ba bb e1 e2 e3;obtain ⟨rfl,rfl,rfl⟩:=aO h;have F:=hρ c (by simp);have G:=hρ a (by simp);have M:=hρ b (by simp);rw [e1] at F;rw [e2] at G;rw [e3] at M;simp only [VR,PR] at F G M;refine iV.val D (cv:= .bool (cond bc ba bb)) ?_ (by simp only [VR,PR]);rw [F,G,M];cases bc<;>simp [asBool]
   ·cases h
 ·
  rename_i e;have A:=bind_some h;clear h;obtain ⟨te,K,h⟩:=A;obtain ⟨ie,de,ze,C⟩:=dM j K;split at h
  ·rename_i Q;simp only [ο] at Q;cases h;obtain ⟨N,w',F,G,M,h4⟩:=Gt (P:=P) D X (cells:=te.zero) (cv:=ze) (qy C) C.zleaf (fun u hu=>BX (g:=g) (m:=m) (S:=S) (qy C) C.zleaf u (by simpa using hu)) e;refine iV.full ⟨.pointer (some ⟨w.heap.size,0,none⟩),N,w', ?_,G,M,P9 h4⟩;simp [Instr.alloc,zeroValue,typeInfo,C.info,C.zero,F]
  ·cases h
 ·
  rename_i e x;have A:=bind_some h;clear h;obtain ⟨te,K,h⟩:=A;obtain ⟨ie,de,ze,C⟩:=dM j K;simp only at h;split at h
  ·rename_i Q;simp only [ο] at Q;cases h;have E:=hρ x (by simp);have hl:∀ y ∈ (ρ x).cells,n_ y=true:=fun y hy=>List.all_eq_true.1 Q.2 y hy
   obtain ⟨hv1,hv2⟩:=Dh E hl;obtain ⟨N,w',F,G,M,h4⟩:=Gt (P:=P) D X (cells:=(ρ x).cells) (cv:=cρ x) hv1 hl hv2 e;refine iV.full ⟨.pointer (some ⟨w.heap.size,0,none⟩),N,w', ?_,G,M,P9 h4⟩;simp [Instr.box,F]
  ·cases h
 ·
  rename_i t parts;have A:=bind_some h;clear h;obtain ⟨L,q,h⟩:=A;obtain ⟨i,d,z,C⟩:=dM j q;refine iV.pur D ?_;refine H_ j C (qs:=parts.map fun (i,x)=>(i,cρ x)) ?_ h;rw [Array.toList_map];exact C_ parts.toList fun x E=>hρ x (by simpa using E)
 ·
  rename_i t len parts;have A:=bind_some h;clear h;obtain ⟨L,q,h⟩:=A;obtain ⟨i,d,z,C⟩:=dM j q;refine iV.full ?_;refine xK j D X C (qs:=parts.map fun (i,x)=>(i,cρ x)) ?_ h;rw [Array.toList_map];exact C_ parts.toList fun x E=>hρ x (by simpa using E)
 ·
  rename_i t a;have A:=bind_some h;clear h;obtain ⟨L,q,h⟩:=A;obtain ⟨i,d,z,C⟩:=dM j q;exact iV.pur D (A_ D H C (hρ a (by simp)) h hbs)
 ·
  rename_i t a x;have A:=bind_some h;clear h;obtain ⟨L,q,h⟩:=A;obtain ⟨i,d,z,C⟩:=dM j q;have ha:=hρ a (by simp);have E:=hρ x (by simp);generalize cρ a=ca at ha ⊢;generalize cρ x=cx at E ⊢;obtain ⟨rfl,N,w',F,G,M⟩:=Jq D H C ha E h hbs;exact ⟨.skip,N,w',by simp [F],G,M,.inr ⟨rfl,rfl⟩⟩
 ·
  rename_i t r;split at h
  ·cases h;obtain ⟨cv,N,w',F,G,M,h4⟩:=F6 (P:=P) D X t;exact ⟨.value cv,N,w',by simp [F],G,M,.inl ⟨cv,rfl,h4⟩⟩
  ·cases h
 ·
  rename_i t x k ok;have A:=bind_some h;clear h;obtain ⟨L,q,h⟩:=A;obtain ⟨i,d,z,C⟩:=dM j q;exact iV.pur D (F5 j D H C (hρ x (by simp)) (hρ k (by simp)) h hbs)
 ·
  rename_i t x k v;have A:=bind_some h;clear h;obtain ⟨L,q,h⟩:=A;obtain ⟨i,d,z,C⟩:=dM j q;obtain ⟨rfl,N,w',F,G,M⟩:=wJ j D H C (hρ x (by simp)) (hρ k (by simp)) (hρ v (by simp)) h hbs;exact ⟨.skip,N,w',by simp [F],G,M,.inr ⟨rfl,rfl⟩⟩
 ·
  rename_i t x k v;have A:=bind_some h;clear h;obtain ⟨L,q,h⟩:=A;obtain ⟨i,d,z,C⟩:=dM j q;obtain ⟨rfl,N,w',F,G,M⟩:=wJ j D H C (hρ x (by simp)) (hρ k (by simp)) (hρ v (by simp)) h hbs;exact ⟨.skip,N,w',by simp [F],G,M,.inr ⟨rfl,rfl⟩⟩
 ·
  rename_i x;have E:=hρ x (by simp);split at h
  ·rename_i b ver off e;rw [e] at E;obtain ⟨rfl,rfl,rfl⟩:=aO h;have I:=E;simp only [VR] at I;obtain ⟨_,_,_,⟨k,o,W⟩,_⟩:=I;exact iV.val D (cv:=cρ x) (by rw [W];simp) E
  ·rename_i xs off e;rw [e] at E;obtain ⟨rfl,rfl,rfl⟩:=aO h;have I:=E;simp only [VR,PR] at I;obtain ⟨_,_,_,W,_⟩:=I;exact iV.val D (cv:=cρ x) (by rw [W];simp) E
  ·rename_i f a c e;rw [e] at E;obtain ⟨rfl,rfl,rfl⟩:=aO h;have I:=E;simp only [VR] at I;obtain ⟨_,_,W,_⟩:=I;exact iV.val D (cv:=cρ x) (by rw [W];simp) E
  ·cases h
 ·
  rename_i op t x y _;have A:=bind_some h;clear h;obtain ⟨L,q,h⟩:=A;exact iV.pur D (MS j q (hρ x (by simp)) (hρ y (by simp)) h hbs x y)
 ·
  exact iV.pur D (TC (hρ _ (by simp)) h)
 ·
  rename_i s d x;have A:=bind_some h;clear h;obtain ⟨ts,hts,h⟩:=A;have A:=bind_some h;clear h;obtain ⟨td,htd,h⟩:=A;exact iV.pur D (Dz j D H hts htd (hρ x (by simp)) h hbs)
 ·
  rename_i t x;have A:=bind_some h;clear h;obtain ⟨L,q,h⟩:=A;split at h
  ·cases h
  ·rename_i hd;obtain ⟨rfl,rfl,rfl⟩:=aO h;refine iV.pur D ⟨rfl,.iface t (cρ x),run_makeInterface w t _ (JW j q hd), ?_⟩;simp only [VR];exact ⟨_,rfl,hρ x (by simp)⟩
 ·
  rename_i f first Z
  obtain ⟨rfl,rfl,rfl⟩:=aO h;refine iV.pur D ⟨rfl,.func (.func f) (first.map cρ) (Z.map cρ),by simp [Instr.makeFunc], ?_⟩;simp only [VR];refine ⟨(first.map cρ).toList,(Z.map cρ).toList,by rw [Array.toArray_toList,Array.toArray_toList], ?_, ?_⟩
  ·rw [Array.toList_map];exact uQ _ fun x E=>hρ x (by simp at E ⊢;exact .inl E)
  ·rw [Array.toList_map];exact uQ _ fun x E=>hρ x (by simp at E ⊢;exact .inr E)
 ·
  rename_i t l c;have A:=bind_some h;clear h;obtain ⟨L,q,h⟩:=A;obtain ⟨i,d,z,C⟩:=dM j q;exact iV.full (zL j D X C (hρ l (by simp)) (hρ c (by simp)) h hbs)
 ·
  rename_i t x lo hi mx;have A:=bind_some h;clear h;obtain ⟨L,q,h⟩:=A;obtain ⟨i,d,z,C⟩:=dM j q;exact iV.pur D (Jo j H C (hρ x (by simp)) (CX lo fun o V=>hρ o (by simp at V;simp [V])) (CX hi fun o V=>hρ o (by simp at V;simp [V])) (CX mx fun o V=>hρ o (by simp at V;simp [V])) h hbs)
 ·
  rename_i s x f;have A:=bind_some h;clear h;obtain ⟨L,q,h⟩:=A;obtain ⟨i,d,z,C⟩:=dM j q;split at h
  ·rename_i fs hd;have A:=bind_some h;clear h;obtain ⟨⟨o,ft,sz⟩,hf,h⟩:=A;simp only at h;split at h
   ·rename_i hsz;have A:=bind_some h;clear h;obtain ⟨p,hp,h⟩:=A;obtain ⟨rfl,rfl,rfl⟩:=aO h;exact iV.pur D ⟨rfl,BO C hd hf hsz (hρ x (by simp)) hp⟩
   ·cases h
  ·cases h
 ·
  rename_i t x f;have A:=bind_some h;clear h;obtain ⟨L,q,h⟩:=A;obtain ⟨i,d,z,C⟩:=dM j q;exact iV.pur D (Iw j C (hρ x (by simp)) h hbs)
 ·
  rename_i t x ix;have A:=bind_some h;clear h;obtain ⟨L,q,h⟩:=A;obtain ⟨i,d,z,C⟩:=dM j q;exact iV.pur D (zC j H C (hρ x (by simp)) (hρ ix (by simp)) h hbs)
 ·
  rename_i t x ix;have A:=bind_some h;clear h;obtain ⟨L,q,h⟩:=A;obtain ⟨i,d,z,C⟩:=dM j q;exact iV.pur D (IG j C (hρ x (by simp)) (hρ ix (by simp)) h hbs)
 ·
  exact iV.pur D (FX j (hρ _ (by simp)) h _)
 ·
  rename_i t i;have C:=hρ t (by simp);split at h
  ·rename_i l e;rw [e] at C;have A:=bind_some h;clear h;obtain ⟨x,E,h⟩:=A;obtain ⟨rfl,rfl,rfl⟩:=aO h;simp only [VR] at C;obtain ⟨vs,W,hl⟩:=C;obtain ⟨cv,F,G⟩:=ry hl i E;refine iV.pur D ⟨rfl,cv, ?_,G⟩;rw [W];simp [Instr.extract,F]
  ·cases h
 ·
  rename_i b args R;simp only [Call.operands] at hρ;have hargs:∀ x ∈ args,VR g m S (ρ x) (cρ x):=fun x E=>hρ x (by simp [E])
  split at h
  ·have A:=bind_some h;clear h;obtain ⟨x,E,h⟩:=A;have A:=bind_some h;clear h;obtain ⟨t,Y,h⟩:=A;have A:=bind_some h;clear h;obtain ⟨L,q,h⟩:=A;obtain ⟨i,d,z,C⟩:=dM j q;obtain ⟨hu,cv,F,G⟩:=NP (P:=P) (w:=w) (hargs x (Array.mem_of_getElem? E)) C h R Y (args.map cρ) (by simp [E]) o.type;subst hu;exact iV.val D (cv:=cv) (by simp [resolve,invoke,builtin,F]) G
  ·split at h
   ·rename_i s x t t1 ha Y;have hargs':args=#[s,x]:=by apply Array.ext';simpa using ha
    have hats':R=#[t,t1]:=by apply Array.ext';simpa using Y
    subst hargs';subst hats';have A:=bind_some h;clear h;obtain ⟨L,q,h⟩:=A;have A:=bind_some h;clear h;obtain ⟨ti1,hti1,h⟩:=A;obtain ⟨i,d,z,C⟩:=dM j q;obtain ⟨i1,d1,z1,T⟩:=dM j hti1;have hs:=hargs s (by simp);have E:=hargs x (by simp);have U:ρ s= .nilS→∃ n,wQ (ρ x)=some n∧Xqq n 0=em:=by
     intro e;cases hc:wQ (ρ x) with
     | none=>
      exfalso;split at h
      ·rename_i I;rw [I] at hc;simp [wQ] at hc
      ·cases h
      ·rename_i y hy1 _ hy2 hy3;have A:=bind_some h;clear h;obtain ⟨te,K,h⟩:=A;unfold xH at h;have A:=bind_some h;clear h;obtain ⟨⟨xs,n,pr⟩,hsrc,h⟩:=A;cases hxx:ρ x<;>simp [hxx,wQ] at hc<;>simp [hxx,LQ] at hsrc
      ·cases h
     |some n=>exact ⟨n,rfl,hem n (by simp [yf,e,hc])⟩
    split at h
    ·rename_i e y hd J hy;have A:=bind_some h;clear h;obtain ⟨te,K,h⟩:=A;obtain ⟨ie,de,ze,O⟩:=dM j K;split at h
     ·rename_i F;rw [C.d_eq] at hd;rw [T.d_eq] at J;have hd:=gV hd;have J:=xx J;subst hd;subst J;obtain ⟨cv,N,w',r1,r2,r3,r4⟩:=ww (P:=P) D H X C O hs E (tx:=t1) (.inl ⟨⟨y,hy⟩,T.und,aJ F⟩) U (by rw [hy];exact h) hbs o.type;exact ⟨.value cv,N,w',by simp [resolve,invoke,builtin,r1],r2,r3,.inl ⟨cv,rfl,r4⟩⟩
     ·cases h
    ·cases h
    ·rename_i e e1 hd J hns;have A:=bind_some h;clear h;obtain ⟨te,K,h⟩:=A;obtain ⟨ie,de,ze,O⟩:=dM j K;rw [C.d_eq] at hd;rw [T.d_eq] at J;have hd:=gV hd;have J:=gV J;subst hd;subst J;obtain ⟨cv,N,w',r1,r2,r3,r4⟩:=ww (P:=P) D H X C O hs E (tx:=t1) (.inr ⟨fun s e=>hns s e,_,T.und⟩) U h hbs o.type;exact ⟨.value cv,N,w',by simp [resolve,invoke,builtin,r1],r2,r3,.inl ⟨cv,rfl,r4⟩⟩
    ·cases h
   ·cases h
  ·have A:=bind_some h;clear h;obtain ⟨r,hr,h⟩:=A;obtain ⟨rfl,rfl,rfl⟩:=aO h;obtain ⟨cv,F,G⟩:=RU (P:=P) (w:=w) (uQ args.toList fun x E=>hargs x (Array.mem_toList_iff.1 E)) hr R o.type;refine iV.val D (cv:=cv) ?_ G;have:(Xw4 cρ args.toList).toArray=args.map cρ:=by apply Array.ext';rw [Xw7,Array.toList_map]
   rw [this] at F;simp [resolve,invoke,builtin,F]
  ·have A:=bind_some h;clear h;obtain ⟨r,hr,h⟩:=A;obtain ⟨rfl,rfl,rfl⟩:=aO h;obtain ⟨cv,F,G⟩:=RN (P:=P) (w:=w) (uQ args.toList fun x E=>hargs x (Array.mem_toList_iff.1 E)) hr R o.type;refine iV.val D (cv:=cv) ?_ G;have:(Xw4 cρ args.toList).toArray=args.map cρ:=by apply Array.ext';rw [Xw7,Array.toList_map]
   rw [this] at F;simp [resolve,invoke,builtin,F]
  ·cases h
 ·cases h
end
end AM
namespace AM
open Go
structure Cx.Ok (c:Cx):Prop where
 bs:∀ b ∈ c.bs,b=true
 ps:∀ p ∈ c.ps,p
theorem R.bind_ok {α β:Type} {r:R α} {f:α→Cx→R β} {b:β} {c:Cx} (h:r.bind f= .ok b c):∃ a c1,r= .ok a c1∧f a c1= .ok b c:=by
 cases r with
 |ok a c1=>exact ⟨a,c1,rfl,h⟩
 |need=>simp [R.bind] at h
 |bad n=>simp [R.bind] at h
theorem Ik {c f:Cx} {bs:List Bool} {u:Unit} (h:YC c bs= .ok u f) (d:f.Ok):c.Ok∧∀ b ∈ bs,b=true:=by
 unfold YC at h;split at h
 ·split at h
  ·rename_i a;cases h;exact ⟨d,fun b e=>by simpa using List.all_eq_true.1 a b e⟩
  ·cases h
 ·cases h;exact ⟨⟨fun b a=>d.bs b (by simp [a]),d.ps⟩,fun b a=>d.bs b (by simp [a])⟩
theorem lD {c e:Cx} {b a:Bool} (h:zh c b= .ok a e) (d:e.Ok):c.Ok∧a=b:=by
 unfold zh at h;split at h
 ·cases h;exact ⟨d,rfl⟩
 ·split at h
  ·cases h
  ·rename_i o r _;cases h;have f:=d.bs (lit a b) (by simp);refine ⟨⟨fun x i=>d.bs x (by simp [i]),d.ps⟩, ?_⟩;cases a<;>cases b<;>simp [lit] at f ⊢
theorem jH {l:List Nat} {a:Nat}:rO l a=true↔a ∈ l:=by
 simp only [rO,List.any_eq_true];constructor
 ·rintro ⟨x,hx,h⟩;exact aJ h ▸ hx
 ·intro h;exact ⟨a,h,Nat.beq_refl a⟩
theorem jf {α β:Type} {f:α→Option β}:∀ {l:List α} {l':List β},kz f l=some l'→l'.length=l.length∧∀ (i:Nat) x,l[i]? =some x→∃ y,l'[i]? =some y∧f x=some y
 | [],l',h=>by simp [kz] at h;subst h;simp
 | a::r,l',h=>by
  simp only [kz] at h;split at h
  ·rename_i y e;split at h
   ·rename_i q c;cases h;obtain ⟨d,j⟩:=jf c;refine ⟨by simp [d], ?_⟩;intro i x b;cases i with
    |zero=>simp at b;subst b;exact ⟨y,by simp,e⟩
    |succ i=>simpa using j i x (by simpa using b)
   ·cases h
  ·cases h
section
variable {P:Program} {ap:AP} {g:dw} {m:aV} {S:aQ} {w:World}
noncomputable def dB (S:aQ) (m:aV) (rd:dw) (w:World):aQ:=fun k o=>
 match S k o with
 |some v=>some v
 |none=>open Classical in if ∃ b B,rd b=some B∧(m b).1=k∧o<B.cells.length then kH w k o else none
theorem nJ (S:aQ) (m:aV) (rd:dw) (w:World):oM S (dB S m rd w):=by
 intro k o v h;simp [dB,h]
theorem fG {rd:dw} {k o:Nat} {v:Value} (h:dB S m rd w k o=some v):S k o=some v∨(kH w k o=some v∧∃ b B,rd b=some B∧(m b).1=k∧o<B.cells.length):=by
 unfold dB at h;split at h
 ·rename_i d a;cases h;exact .inl a
 ·rename_i e;split at h
  ·rename_i c;exact .inr ⟨h,c⟩
  ·cases h
theorem pU (a:bP ap g m S w) {rd:dw} {k o:Nat} {v:Value} (h:dB S m rd w k o=some v):kH w k o=some v:=by
 rcases fG h with h|h
 ·exact a.sealed _ _ _ h
 ·exact h.1
theorem SX (d:bP ap g m S w) {rd:dw} {b:Nat} {B:a_} (c:rd b=some B) {o:Nat} (e:o<B.cells.length) {v:Value} (a:kH w (m b).1 o=some v):dB S m rd w (m b).1 o=some v:=by
 unfold dB;split
 ·rename_i h f;have:=d.sealed _ _ _ f;rw [a] at this;cases this;rfl
 ·rw [if_pos ⟨b,B,c,rfl,e⟩];exact a
theorem Fe (i:bP ap g m S w) {rd:dw} (c:∀ b B,rd b=some B→g b=some B) {b:Nat} {B:a_} (h:rd b=some B):
  ∃ vs,bg g m S B.cells vs∧(B.pr=true→dO S B.cells vs)∧(∀ j u,vs[j]? =some u→dB S m rd w (m b).1 j=some u)∧vs.length=B.cells.length∧(B.esz ≠ iL→∀ u ∈ vs,u.oneCell'=true):=by
 obtain ⟨⟨cur,e,vs,rest,l,o,p,d,k,q⟩,_,_⟩:=i.blk b B (c b B h);refine ⟨vs,d,p, ?_,(bQ d).symm,k⟩;intro j u f;have a:=(List.getElem?_eq_some_iff.1 f).1;refine SX i h (by rw [bQ d];exact a) ?_;exact l.get (by rw [o,Xxc a];exact f) (fun n=>k n u (Xqh f))
theorem yL (h:bP ap g m S w) {rd:dw} (a:∀ b B,rd b=some B→g b=some B) {b:Nat} {B:a_} (d:rd b=some B) (i:B.esz ≠ iL):
  ∃ vs,bg g m S B.cells vs∧(B.pr=true→dO S B.cells vs)∧kF (dB S m rd w) (m b).1 0 vs∧vs.length=B.cells.length:=by
 obtain ⟨vs,f,e,k,n,l⟩:=Fe h a d;refine ⟨vs,f,e,fun j u c=> ?_,n⟩;rw [Xqf];exact ⟨k j u c,l i u (Xqh c)⟩
theorem G9 {S':aQ} {l:List AV} {y:AV} {vs:List Value} {k:Nat} (h:Zk l=some y) (a:dO S' l vs) (hs:∀ j u,vs[j]? =some u→S' k j=some u):PR S' y (.map (some k)):=by
 unfold Zk at h;split at h
 ·rename_i ks f;cases h
  match vs,a with
  | [v0,v1],a=>
   simp only [dO,PR,and_true] at a;obtain ⟨⟨e,rfl,b⟩,c,rfl,d⟩:=a;simp only [PR];exact .inr ⟨k,e,c,rfl,hs 0 _ rfl,hs 1 _ rfl,b,d⟩
  | [],a=>simp [dO] at a
  | [_],a=>simp [dO] at a
  |_::_::_::_,a=>simp [dO] at a
 ·cases h
theorem tH {S':aQ} {f:AV→Option AV} (a:∀ x v y,f x=some y→VR g m S x v→PR S' y v):∀ {l l':List AV} {vs:List Value},kz f l=some l'→bg g m S l vs→dO S' l' vs
 | [],l',[],h,_=>by simp [kz] at h;subst h;simp [dO]
 | x::r,l',v::vs,h,hv=>by
  simp only [kz] at h;simp only [bg] at hv;split at h
  ·rename_i y b;split at h
   ·rename_i q c;cases h;simp only [dO];exact ⟨a x v y b hv.1,tH a c hv.2⟩
   ·cases h
  ·cases h
 | [],_,_::_,_,h=>by simp [bg] at h
 |_::_,_,[],_,h=>by simp [bg] at h
theorem lG (K:bP ap g m S w) {rd:dw} (z:∀ b B,rd b=some B→g b=some B):∀ (p:Nat) (x:AV) (v:Value) (y:AV),frz rd p x=some y→VR g m S x v→PR (dB S m rd w) y v:=by
 intro p
 induction p with
 |zero=>intro x v y h;simp [frz] at h
 | succ p ih=>
  intro x v y h f;have D:=nJ S m rd w;have hlist:∀ {l l':List AV} {vs:List Value},kz (frz rd p) l=some l'→bg g m S l vs→dO (dB S m rd w) l' vs:=fun G F=>tH (fun x v y hx f=>ih x v y hx f) G F
  unfold frz at h;simp only at h;split at h
  ·
   rename_i b ver i n;have C:=bind_some h;clear h;obtain ⟨B,E,h⟩:=C;split at h
   ·rename_i d;simp only [VR] at f;obtain ⟨B',s,_,_,q⟩:=f;rw [z b B E] at s;cases s;obtain ⟨o,rfl,M,ho,N,H⟩:=q (aJ d);obtain ⟨vs,G,F,I,L⟩:=yL K z E H;have hpart:kF (dB S m rd w) (m b).1 o ((vs.drop (i*B.esz)).take (n*B.esz)):=by
     by_cases hi:i<(m b).2
     ·rw [ho hi];have:=(I.drop (i*B.esz)).take (n*B.esz);rwa [Xqf] at this
     ·have U:n=0:=by omega
      subst U;intro j u V;simp at V
    have k:∀ l,dO (dB S m rd w) l ((vs.drop (i*B.esz)).take (n*B.esz))→PR (dB S m rd w) (.sl l n true) (.slice (some ⟨(m b).1,o,none⟩) n ((m b).2 - i)):=by
     intro l t;simp only [PR];exact ⟨_,_,rfl,by omega,.inr ⟨_,_,_,rfl,t,hpart⟩⟩
    split at h
    ·rename_i A;cases h;exact k _ (kE _ (qp _ (cO D _ (F A))))
    ·simp only [Xqp] at h;obtain ⟨l,t,rfl⟩:=h;exact k _ (hlist t (qx _ (tJ _ G)))
   ·cases h
  ·
   rename_i b ver J;have C:=bind_some h;clear h;obtain ⟨B,E,h⟩:=C;split at h
   ·rename_i d;simp only [ο,Xqo] at d;have H:B.esz ≠ iL:=fun e=>by rw [e] at d;exact absurd d.2 (by decide)
    simp only [VR] at f;obtain ⟨B',s,_,_,q⟩:=f;rw [z b B E] at s;cases s;have q:=q (aJ d.1);subst q;obtain ⟨vs,G,F,I,L⟩:=yL K z E H;have k:∀ l,dO (dB S m rd w) l vs→PR (dB S m rd w) (.pp l J) (.pointer (some ⟨(m b).1,J,none⟩)):=by
     intro l t;simp only [PR];exact ⟨_,0,_,by rw [Xqf],t,I⟩
    split at h
    ·rename_i A;cases h;exact k _ (cO D _ (F A))
    ·simp only [Xqp] at h;obtain ⟨l,t,rfl⟩:=h;exact k _ (hlist t G)
   ·cases h
  ·
   rename_i b ver;have C:=bind_some h;clear h;obtain ⟨B,E,h⟩:=C;split at h
   ·rename_i d;simp only [ο] at d;simp only [VR] at f;obtain ⟨B',s,_,_,q⟩:=f;rw [z b B E] at s;cases s;have q:=q (aJ d.1);subst q;obtain ⟨vs,G,F,I,L,_⟩:=Fe K z E;split at h
    ·rename_i A;exact G9 h (cO D _ (F A)) I
    ·have C:=bind_some h;clear h;obtain ⟨l,t,h⟩:=C;exact G9 h (hlist t G) I
   ·cases h
  ·simp only [Xqp] at h;obtain ⟨l,t,rfl⟩:=h;simp only [VR] at f;obtain ⟨vs,e,q⟩:=f;simp only [PR];exact ⟨vs,e,hlist t q⟩
  ·simp only [Xqp] at h;obtain ⟨l,t,rfl⟩:=h;simp only [VR] at f;obtain ⟨vs,e,q⟩:=f;simp only [PR];exact ⟨vs,e,hlist t q⟩
  ·have C:=bind_some h;clear h;obtain ⟨a,T,h⟩:=C;simp only [Xqp] at h;obtain ⟨c,W,rfl⟩:=h;simp only [VR] at f;obtain ⟨va,vc,e,q,r⟩:=f;simp only [PR];exact ⟨va,vc,e,hlist T q,hlist W r⟩
  ·simp only [Xqp] at h;obtain ⟨u,hu,rfl⟩:=h;simp only [VR] at f;obtain ⟨Z,e,q⟩:=f;simp only [PR];exact ⟨Z,e,ih _ _ _ hu q⟩
  ·cases h
  ·rename_i R X Y n3 Q n5 O n7;cases h;refine cZ D _ ?_;cases x<;>first
    |exact absurd rfl (R _ _ _ _)
    |exact absurd rfl (X _ _ _)
    |exact absurd rfl (Y _ _)
    |exact absurd rfl (n3 _)
    |exact absurd rfl (Q _)
    |exact absurd rfl (n5 _ _ _)
    |exact absurd rfl (O _ _)
    |exact absurd rfl (n7 _ _ _)
    |(simp only [VR] at f;exact f)
    |(simp only [PR])
end
end AM
