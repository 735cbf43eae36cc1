/- The abstract machine over the code of the model, and the proof that it is sound. No conditions. -/
import Derived.Test.YtokiomlellclkaaGreatDoorM1
import Derived.Laws.BytesString
import Derived.Laws.MakeOwn
import Derived.Laws.OwnMore
set_option linter.unusedSimpArgs false
set_option linter.unusedVariables false
open List renaming foldl_cons→Xqy,length_take→Xqm,nil_append→μ,drop_drop→Xjj,map_cons→χ,getElem?_map→Ψ,getElem?_take→Xxn,getElem?_append_left→Xqa,mem_of_mem_drop→Xj7,mem_of_mem_take→Xx4,all_cons→Xx5,cons_append→Xqw,append_eq_nil_iff→Xjc,take_append_of_le_length→Xjy,drop_append_of_le_length→Xzu,append_assoc→Ξ,toList_toArray→Xxw,size_toArray→Xxe,length_append→ο,length_drop→Xxl,replicate_succ→Xz1,append_nil→υ,any_cons→Xvn,map_append→Xxc,map_nil→Xjd,ext_getElem?→Xxx,getElem?_set→Xxv,map→Xv9,mem_of_getElem?→Γ
open Bool renaming and_eq_true→η,not_eq_true'→Xqk
open Nat renaming add_zero→Xqt,beq→Δ,le_refl→ε,zero_le→Xqp,mul_le_mul→Xvc,le_trans→Xqh,zero_add→Φ,add_mul→Xjh,eq_zero_or_pos→Xxg,lt_irrefl→Xjg
open Option renaming map_some→Xqr,map_eq_some_iff→Xqb
open UInt8 renaming ofNat→φ
namespace AM
open Go
section
variable {P:Program} {ap:AP} {g:bP} {m:aI} {S:aB} {w:World}
theorem A7 {x:AV} {v:Value} (h:VR g m S x v) (f:∀ y ∈ x.cells,lu y=true):aX g m S x.cells v.cells.toList∧∀ u ∈ v.cells,u.oneCell'=true:=by
 cases x
 case agg l=>
  simp only [VR] at h;obtain ⟨vs,rfl,h⟩:=h;refine ⟨by simpa [Value.cells,AV.cells] using h, ?_⟩;intro u c;simp only [Value.cells] at c;simp only [AV.cells] at f;have:∀ (l:List AV) (vs:List Value),aX g m S l vs→(∀ y ∈ l,lu y=true)→∀ u ∈ vs,u.oneCell'=true:=by
   intro l
   induction l with
   |nil=>intro vs e _ u c;cases vs<;>simp [aX] at e c
   | cons a r ih=>
    intro vs e f u c;cases vs with
    |nil=>simp [aX] at e
    |cons b q=>
     simp only [aX] at e;rcases List.mem_cons.1 c with rfl|c
     ·exact KL e.1 (f a (by simp))
     ·exact ih q e.2 (fun y i=>f y (by simp [i])) u c
  exact this l vs h f u (by simpa using c)
 all_goals
  have d:=KL h (f _ (by simp [AV.cells]));have j:v.cells=#[v]:=by cases v<;>simp [Value.cells,Value.oneCell'] at d ⊢
  rw [j];refine ⟨by simp only [AV.cells,aX];exact ⟨h,trivial⟩,by simpa using d⟩
theorem E_:∀ (vs:List Value) (i off:Nat) (cs:Array Value),off+i+vs.length≤cs.size→
  ((vs.zipIdx i).foldl (fun (cs:Array Value) (p:Value × Nat)=>cs.setIfInBounds (off+p.2) p.1) cs).toList=cs.toList.take (off+i)++vs++cs.toList.drop (off+i+vs.length)
 | [],i,off,cs,_=>by simp
 | v::vs,i,off,cs,h=>by
  simp only [List.length_cons] at h;simp only [List.zipIdx_cons,Xqy];rw [E_ vs (i+1) off (cs.setIfInBounds (off+i) v) (by simp;omega)];have a:off+i<cs.toList.length:=by simp;omega
  simp only [Array.toList_setIfInBounds];rw [show off+(i+1)=off+i+1 from by omega,List.set_eq_take_append_cons_drop,if_pos a];have b:(cs.toList.take (off+i)++v::cs.toList.drop (off+i+1)).take (off+i+1)=cs.toList.take (off+i)++ [v]:=by
   rw [List.take_append];have d:off+i+1 - (cs.toList.take (off+i)).length=1:=by simp [Xqm];omega
   rw [d];simp [List.take_take]
  have c:(cs.toList.take (off+i)++v::cs.toList.drop (off+i+1)).drop (off+i+1+vs.length)=cs.toList.drop (off+i+(v::vs).length):=by
   rw [List.drop_append];have:(cs.toList.take (off+i)).length=off+i:=by simp [Xqm];omega
   rw [this,List.drop_eq_nil_of_le (by rw [this];omega),μ,show off+i+1+vs.length - (off+i)=vs.length+1 from by omega,List.drop_succ_cons,Xjj];congr 1;simp;omega
  rw [b,c];simp
theorem Gh {b vs:List AV} {cs us:List Value} {a:Nat} (h:aX g m S b cs) (c:aX g m S vs us):aX g m S (eu b a vs) (cs.take a++us++cs.drop (a+us.length)):=by
 unfold eu;rw [← aY c];exact fM (fM (oG _ h) c) (qW _ h)
theorem Na {b vs:List AV} {cs us:List Value} {a:Nat} (h:bu S b cs) (c:bu S vs us):bu S (eu b a vs) (cs.take a++us++cs.drop (a+us.length)):=by
 unfold eu;rw [← jU c];exact jb (jb (jB _ h) c) (oz _ h)
def lK (g:bP) (m:aI) (S:aB) (place:Nat→Option (Nat × Nat)):List (Nat × Nat × AV)→List (Nat × Value)→Prop
 | [],[]=>True
 |(off,size,v)::r,(i,c)::q=>place i=some (off,size)∧VR g m S v c∧lK g m S place r q
 |_,_=>False
theorem ny {place:Nat→Option (Nat × Nat)}:∀ (ps:List (Nat × Nat × AV)) (qs:List (Nat × Value)) (cells cells':List AV) (cs:Array Value),lK g m S place ps qs→aX g m S cells cs.toList→uO cells ps=some cells'→
  ∃ a,Instr.fill place cs qs=some a∧aX g m S cells' a.toList∧a.size=cs.size
 | [],[],cells,cells',cs,_,hv,h=>by simp [uO] at h;subst h;exact ⟨cs,rfl,hv,rfl⟩
 | (off,size,v)::r,(i,c)::q,cells,cells',cs,hp,hv,h=>by
  simp only [lK] at hp;simp only [uO] at h;split at h
  ·rename_i n;simp only [η] at n;obtain ⟨⟨l,k⟩,t⟩:=n;obtain ⟨j,B⟩:=A7 hp.2.1 (fun y s=>List.all_eq_true.1 t y s);have A:=aY j;have b:=aY hv;have l:=aF l;have k:=eG k;have z:c.cells.size=size:=by simp only [Array.length_toList] at A;omega
   have d:off+c.cells.size≤cs.size:=by simp only [Array.length_toList] at b;omega
   have o:=E_ c.cells.toList 0 off cs (by simpa using d);have f:aX g m S (eu cells off v.cells) ((c.cells.zipIdx.foldl (fun (cs:Array Value) (p:Value × Nat)=>cs.setIfInBounds (off+p.2) p.1) cs)).toList:=by
    rw [← Array.foldl_toList,Array.toList_zipIdx,o];simp only [Xqt];exact Gh hv j
   obtain ⟨a,e,x,u⟩:=ny r q _ cells' _ hp.2.2 f h;refine ⟨a, ?_,x, ?_⟩
   ·simp only [Instr.fill,hp.1];rw [if_neg (by simp;omega)];exact e
   ·rw [u,← Array.length_toList,← Array.foldl_toList,Array.toList_zipIdx,o];simp;omega
  ·cases h
 | [],_::_,_,_,_,hp,_,_=>by simp [lK] at hp
 |_::_,[],_,_,_,hp,_,_=>by simp [lK] at hp
theorem oH {t:Nat} {a:TI} {i:TypeInfo} {d:TypeDesc} {z:Value} (b:v_ P t a i d z):aX g m S a.zero z.cells.toList:=by
 rw [b.zcells];exact aZ _ (uF S _)
def wu (g:bP) (m:aI) (S:aB):List (Nat × AV)→List (Nat × Value)→Prop
 | [],[]=>True
 |(i,v)::r,(j,c)::q=>i=j∧VR g m S v c∧wu g m S r q
 |_,_=>False
theorem qf {size:Nat}:∀ {ps:List (Nat × AV)} {qs:List (Nat × Value)},wu g m S ps qs→lK g m S (fun i=>some (i*size,size)) (ps.map fun (i,v)=>(i*size,size,v)) qs
 | [],[],_=>by simp [lK]
 |(i,v)::r,(j,c)::q,h=>by
  simp only [wu] at h;obtain ⟨rfl,a,b⟩:=h;simp only [χ,lK];exact ⟨trivial,a,qf b⟩
 | [],_::_,h=>by simp [wu] at h
 |_::_,[],h=>by simp [wu] at h
theorem zq {b:List (Nat × Nat × Nat)} {place:Nat→Option (Nat × Nat)} (hp:∀ i x,b[i]? =some x→place i=some (x.1,x.2.2)):∀ {ps:List (Nat × AV)} {qs:List (Nat × Value)} {rs:List (Nat × Nat × AV)},wu g m S ps qs→
  f_ (fun (q:Nat × AV)=>(b[q.1]?).map fun (x:Nat × Nat × Nat)=>(x.1,x.2.2,q.2)) ps=some rs→lK g m S place rs qs
 | [],[],rs,_,h=>by simp [f_] at h;subst h;simp [lK]
 | (i,v)::r,(j,c)::q,rs,hn,h=>by
  simp only [wu] at hn;obtain ⟨rfl,d,e⟩:=hn;simp only [f_] at h;cases a:b[i]? with
  |none=>simp [a] at h
  | some x=>
   simp only [a,Xqr] at h;split at h
   ·rename_i l f;cases h;simp only [lK];exact ⟨hp i x a,d,zq hp e f⟩
   ·cases h
 | [],_::_,_,h,_=>by simp [wu] at h
 |_::_,[],_,h,_=>by simp [wu] at h
theorem zo:∀ (fields:List Field),(∀ f ∈ fields,(P.info? f.type).isSome)→fields.mapM (fun f=>(P.info? f.type).map fun i=>(f.offset,i.size))=some (fields.map fun f=>(f.offset,match P.info? f.type with|some i=>i.size|none=>0))
 | [],_=>rfl
 | f::r,h=>by
  cases a:P.info? f.type with
  |none=>have:=h f (by simp);simp [a] at this
  |some i=>
   simp [List.mapM_cons,a,zo r (fun f b=>h f (by simp [b]))]
theorem Gl (s:dF P ap) {t:Nat} {o:TI} {i:TypeInfo} {d:TypeDesc} {z:Value} (b:v_ P t o i d z) {ps:List (Nat × AV)} {qs:Array (Nat × Value)} (C:wu g m S ps qs.toList) {v:AV} {ups:List (Nat × aK)} {bs:List Bool}
  (h:KU ap o ps=some (v,ups,bs)):ups= []∧∃ cv,(Instr.build t qs).run P w= .ok cv w∧VR g m S v cv:=by
 unfold KU at h;split at h
 ·rename_i G l;have k:=bind_some h;clear h;obtain ⟨E,p,h⟩:=k;have k:=bind_some h;clear h;obtain ⟨cs,j,h⟩:=k;obtain ⟨rfl,rfl,rfl⟩:=aQ h;rw [b.d_eq] at l;obtain ⟨fields,rfl,rfl⟩:=ui l;by_cases hall:∀ f ∈ fields.toList,(P.info? f.type).isSome
  ·have u:=zo fields.toList hall;have r:=zq (place:=((fields.toList.map fun f=>(f.offset,match P.info? f.type with|some i=>i.size|none=>0)).toArray[·]?)) (by
    intro i x B;simp only [Ψ,Xqb] at B;obtain ⟨f,A,rfl⟩:=B;simp [A];rfl) C p
   obtain ⟨a,q,y,_⟩:=ny E qs.toList o.zero cs z.cells r (oH b) j;refine ⟨rfl,.agg a,run_build w t qs a ?_, ?_⟩
   ·simp only [Program.built,b.info,b.und,b.zero];rw [u];exact q
   ·simp only [VR];exact ⟨a.toList,by simp,y⟩
  ·exfalso;apply hall;intro f A;have:=b.fld;simp only [Si] at this;exact List.all_eq_true.1 this f A
 ·rename_i n e l;have k:=bind_some h;clear h;obtain ⟨D,c,h⟩:=k;have k:=bind_some h;clear h;obtain ⟨cs,j,h⟩:=k;obtain ⟨rfl,rfl,rfl⟩:=aQ h;obtain ⟨H,F,I,c⟩:=bW s c;rw [b.d_eq] at l;have l:=xF l;subst l;obtain ⟨a,q,y,_⟩:=ny _ qs.toList o.zero cs z.cells (qf (size:=D.size) C) (oH b) j;refine ⟨rfl,.agg a,run_build w t qs a ?_, ?_⟩
  ·simp only [Program.built,b.info,b.und,b.zero,c.info];rw [← c.size];exact q
  ·simp only [VR];exact ⟨a.toList,by simp,y⟩
 ·cases h
end
end AM
namespace AM
open Go
section
variable {P:Program} {ap:AP} {g:bP} {m:aI} {S:aB} {w:World}
theorem vP {t:Nat} {j:TI} {i:TypeInfo} {d:TypeDesc} {z:Value} (b:v_ P t j i d z) {v:AV} (h:oP j j.zero=some v):VR g m S v z:=by
 have f:=oH (g:=g) (m:=m) (S:=S) b;have e:=b.zagg;unfold oP at h;rw [b.d_eq,Ea] at h;unfold acs at e;rw [b.zero] at e;split at h
 ·rename_i a;cases h;cases d<;>simp [TypeDesc.isRow] at a<;>cases z<;>simp at e
  all_goals
   simp only [VR];exact ⟨_,rfl,by simpa [Value.cells] using f⟩
 ·rename_i a;split at h
  ·rename_i c l;cases h;have k:z.cells=#[z]:=by
    cases z<;>first|rfl|skip
    cases d<;>simp [TypeDesc.isRow] at a e
   rw [l,k] at f;simp only [aX] at f;exact f.1
  ·cases h
theorem Ep (s:dF P ap) {x v:AV} {B:Value} (o:VR g m S x B) {asserted:Nat} {ok:Bool} {ups:List (Nat × aK)} {bs:List Bool} (h:Gi ap x asserted ok=some (v,ups,bs)) (A:Nat):
  ups= []∧∃ cv,(Instr.typeAssert B A asserted ok).run P w= .ok cv w∧VR g m S v cv:=by
 unfold Gi at h;have n:=bind_some h;clear h;obtain ⟨F,y,h⟩:=n;obtain ⟨i,d,z,f⟩:=bW s y;have a:∀ C,d ≠ .interface C:=by
  intro C e;subst e;rw [f.d_eq] at h;simp [jg] at h
 have key:∀ (c:Value),(∃ t u,c= .iface t u∧t ≠ asserted)∨c= .nilIface→∀ l,VR g m S l z→ok=true→(Instr.typeAssert c A asserted ok).run P w= .ok (.tuple #[z,.bool false]) w:=by
  intro c E l _ q;subst q;rcases E with ⟨t,u,rfl,k⟩|rfl
  ·cases d<;>first|exact absurd rfl (a _)|simp [Instr.typeAssert,run_underlying f.und,k,zeroValue,typeInfo,f.info,f.zero]
  ·cases d<;>first|exact absurd rfl (a _)|simp [Instr.typeAssert,run_underlying f.und,zeroValue,typeInfo,f.info,f.zero]
 split at h
 ·cases h
 ·split at h
  ·rename_i t u;simp only [VR] at o;obtain ⟨r,rfl,D⟩:=o;split at h
   ·rename_i b;have b:=aF b;subst b;obtain ⟨rfl,rfl,rfl⟩:=aQ h;cases ok
    ·refine ⟨rfl,r, ?_,D⟩;cases d<;>first|exact absurd rfl (a _)|simp [Instr.typeAssert,run_underlying f.und]
    ·refine ⟨rfl,.tuple #[r,.bool true], ?_, ?_⟩
     ·cases d<;>first|exact absurd rfl (a _)|simp [Instr.typeAssert,run_underlying f.und]
     ·simp only [VR];exact ⟨[r,.bool true],rfl,by simp only [aX,VR,PR];exact ⟨D,trivial,trivial⟩⟩
   ·rename_i b;have k:t ≠ asserted:=by intro e;subst e;simp at b
    cases ok
    ·cases h
    ·simp only at h;have n:=bind_some h;clear h;obtain ⟨l,p,h⟩:=n;obtain ⟨rfl,rfl,rfl⟩:=aQ h;have j:=vP (g:=g) (m:=m) (S:=S) f p;refine ⟨rfl,_,key _ (.inl ⟨_,_,rfl,k⟩) l j rfl, ?_⟩;simp only [VR];exact ⟨[z,.bool false],rfl,by simp only [aX,VR,PR];exact ⟨j,trivial,trivial⟩⟩
  ·simp only [VR,PR] at o;subst o;cases ok
   ·cases h
   ·simp only at h;have n:=bind_some h;clear h;obtain ⟨l,p,h⟩:=n;obtain ⟨rfl,rfl,rfl⟩:=aQ h;have j:=vP (g:=g) (m:=m) (S:=S) f p;refine ⟨rfl,_,key _ (.inr rfl) l j rfl, ?_⟩;simp only [VR];exact ⟨[z,.bool false],rfl,by simp only [aX,VR,PR];exact ⟨j,trivial,trivial⟩⟩
  ·cases h
theorem qo (Q:bi ap g m S w) {rd:bP} (K:∀ b B,rd b=some B→g b=some B) {size:Nat} {x:AV} {R:Value} (f:VR g m S x R) {E:List AV} {n:Nat} {pr:Bool} (h:Kr size rd x=some (E,n,pr)) (T:E.length=n*size)
  {tx:Nat} (hk:((∃ s,x= .str s)∧P.underlying tx=some .string∧size=1)∨((∀ s,x ≠ .str s)∧∃ e,P.underlying tx=some (.slice e))):
  ∃ news,Src P size tx R n news w∧aX g m S E news∧(pr=true→bu S E news):=by
 unfold Kr at h;split at h
 ·rename_i xs' Y nn;cases h;obtain ⟨_,e,d⟩:=hk.resolve_left (by rintro ⟨⟨s,hs⟩,_⟩;cases hs);simp only [VR,PR] at f;obtain ⟨a,I,rfl,V,q⟩:=f;rcases q with ⟨_,rfl,rfl,rfl⟩|⟨b,o,vs,rfl,hp,hs⟩
  ·cases a with
   |none=>exact ⟨[],Src.ofNil w d 0,by simp [aX],fun _=>by simp [bu]⟩
   |some p=>exact ⟨[],Src.ofSlice w d p 0 0 [] (by simp) (fun j u c=>by simp at c) (fun u C=>by simp at C),by simp [aX],fun _=>by simp [bu]⟩
  ·refine ⟨vs,Src.ofSlice w d ⟨b,o,none⟩ n I vs (by rw [← jU hp,T]) (fun j u c=>by rw [Addr.add_mid];exact Q.one (hs j u c).1 (hs j u c).2) ?_,aZ _ hp,fun _=>hp⟩;intro u C;obtain ⟨j,c⟩:=List.getElem?_of_mem C;exact (hs j u c).2
 ·cases h;obtain ⟨_,e,d⟩:=hk.resolve_left (by rintro ⟨⟨s,hs⟩,_⟩;cases hs);simp only [VR,PR] at f;subst f;exact ⟨[],Src.ofNil w d 0,by simp [aX],fun _=>by simp [bu]⟩
 ·rename_i s;cases h;obtain ⟨_,d,L⟩:=hk.resolve_right (by rintro ⟨hs,_⟩;exact hs s rfl);simp only [VR,PR] at f;subst f;subst L;have hp:∀ s:List UInt8,bu S (s.map fun b=>AV.int .u8 b.toNat) (s.map fun b=>Value.int .u8 b.toNat):=by
   intro s
   induction s with
   |nil=>simp [bu]
   |cons a r ih=>simp only [χ,bu,PR];exact ⟨trivial,ih⟩
  have i:=Src.ofString (P:=P) w d ⟨s.toArray⟩;have U:byteCells ⟨s.toArray⟩=s.map fun b=>Value.int .u8 b.toNat:=by simp [byteCells]
  rw [U,xC] at i;exact ⟨_,i,aZ _ (hp s),fun _=>hp s⟩
 ·rename_i b ver j Y;have W:=bind_some h;clear h;obtain ⟨B,X,h⟩:=W;split at h
  ·rename_i v;cases h;simp only [η,Xqk] at v;obtain ⟨v,z⟩:=v;have t:B.esz ≠ dP:=fun e=>by rw [e] at z;exact absurd z (by decide)
   obtain ⟨_,e,d⟩:=hk.resolve_left (by rintro ⟨⟨s,hs⟩,_⟩;cases hs);simp only [VR] at f;obtain ⟨B',l,_,_,q⟩:=f;have A:=K b B X;rw [A] at l;cases l;obtain ⟨o,rfl,q1,Z,q3⟩:=q (aF v.1);have H:=aF v.2;obtain ⟨cur,e',vs,rest,k,D,hp,G,F,N⟩:=(Q.blk b B A).lies;have k:=k.cells t;have F:=F t;have M:=aY G;have J:((vs.drop (j*size)).take (n*size)).length=n*size:=by
    rw [← aY (oG _ (qW _ G))];exact T
   by_cases hn:n=0
   ·subst hn;have O:(vs.drop (j*size)).take (0*size)= []:=by simp
    refine ⟨[], ?_, ?_, ?_⟩
    ·exact Src.ofSlice w d _ 0 _ [] (by simp) (fun _ _ h=>by simp at h) (fun _ h=>by simp at h)
    ·simp [aX]
    ·intro _;simp [bu]
   ·have y:=Z (by omega);refine ⟨(vs.drop (j*size)).take (n*size),Src.ofSlice w d _ n _ _ J ?_ ?_,oG _ (qW _ G),fun pr=>jB _ (oz _ (hp pr))⟩
    ·intro jj u c;rw [y,Addr.add_mid,H,jD k,D];rw [Xxn] at c;split at c
     ·rw [List.getElem?_drop] at c;rw [Xqa (List.getElem?_eq_some_iff.1 c).1];exact c
     ·cases c
    ·intro u C;exact F u (Xj7 (Xx4 C))
  ·cases h
 ·cases h
theorem FI:∀ (ns:List Int) (s:List UInt8),ns.foldl (fun (r:ByteArray) n=>r.push (φ n.toNat)) ⟨s.toArray⟩=⟨(s++ns.map fun n=>φ n.toNat).toArray⟩
 | [],s=>by simp
 |n::ns,s=>by
  simp only [Xqy];have e:(⟨s.toArray⟩:ByteArray).push (φ n.toNat)=⟨(s++ [φ n.toNat]).toArray⟩:=by simp [ByteArray.push]
  rw [e,FI ns];simp
theorem BC (F:dF P ap) (hS:bi ap g m S w) {rd:bP} (O:∀ b B,rd b=some B→g b=some B) {s d:Nat} {W X:TI} (T:ap.tyAt s=some W) (L:ap.tyAt d=some X) {x v:AV} {Q:Value} (G:VR g m S x Q) {ups:List (Nat × aK)} {bs:List Bool}
  (h:BB ap W X rd x=some (v,ups,bs)) (hbs:∀ b ∈ bs,b=true):ups= []∧∃ cv,(convert s d Q).run P w= .ok cv w∧VR g m S v cv:=by
 obtain ⟨i1,d1,z1,E⟩:=bW F T;obtain ⟨i2,d2,z2,D⟩:=bW F L;unfold BB at h;split at h
 ·rename_i k k' n I;obtain ⟨rfl,rfl,rfl⟩:=aQ h;rw [D.d_eq] at I;have I:=Vy I;subst I;simp only [VR,PR] at G;subst G;exact ⟨rfl,_,by simp [convert,run_underlying E.und,run_underlying D.und,Conv.intToInt];rfl,by simp only [VR,PR]⟩
 ·rename_i s' i j;obtain ⟨rfl,rfl,rfl⟩:=aQ h;rw [E.d_eq] at i;rw [D.d_eq] at j;have i:=vX i;have j:=vX j;subst i;subst j;simp only [VR,PR] at G;subst G;exact ⟨rfl,_,by simp [convert,run_underlying E.und,run_underlying D.und];rfl,by simp only [VR,PR]⟩
 ·rename_i x0 e i j;have M:=bind_some h;clear h;obtain ⟨te,t,h⟩:=M;obtain ⟨ie,de,ze,t⟩:=bW F t;split at h
  ·cases h
  ·rename_i Y xt xb u A;have M:=bind_some h;clear h;obtain ⟨⟨p,n,pr⟩,z,h⟩:=M;obtain ⟨rfl,rfl,rfl⟩:=aQ h;obtain ⟨V,R⟩:=bT hbs;obtain ⟨R,_⟩:=bT R;rw [E.d_eq] at i;rw [D.d_eq] at j;have i:=fD i;have j:=vX j;subst i;subst j;rw [t.d_eq] at u;have u:=Vy u;subst u;have V:=aF V;obtain ⟨f,hs,Z,_⟩:=qo (P:=P) hS O G z (by omega) (tx:=s) (.inr ⟨fun s e=>A s e,e,E.und⟩);have C:f=(p.map AV.toInt).map (Value.int .u8):=by
    have:∀ (p:List AV) (f:List Value),aX g m S p f→p.all (chk (.int .u8))=true→f=(p.map AV.toInt).map (Value.int .u8):=by
     intro p
     induction p with
     |nil=>intro f h _;cases f<;>simp [aX] at h ⊢
     | cons a r ih=>
      intro f h H;cases f with
      |nil=>simp [aX] at h
      |cons c q=>
       simp only [aX] at h;simp only [Xx5,η] at H;rw [χ,χ,ih q h.2 H.2];congr 1;cases a<;>simp [chk] at H
       simp only [VR,PR] at h;rw [h.1,eY H.1];rfl
    exact this p f Z R
   refine ⟨rfl,.string ⟨((p.map AV.toInt).map fun n=>φ n.toNat).toArray⟩, ?_, ?_⟩
   ·have hcells:=hs.cells;have y:=hs.len w;have o:=G;cases Q
    case slice a l c=>
     have hl:l=n:=by simpa [Builtin.lenOf] using y
     subst hl;cases a with
     | none=>
      have K:f= []:=by simpa [Builtin.firstCells] using hcells.symm
      rw [K] at C;have N:p= []:=by
       have:(p.map AV.toInt).map (Value.int .u8)= []:=C.symm;simpa using this
      subst N;simp [convert,run_underlying E.und,run_underlying D.und,run_underlying t.und,Conv.bytesToString];rfl
     | some a=>
      have J:(loadCells a l).run P w= .ok ((p.map AV.toInt).map (Value.int .u8)).toArray w:=by
       rw [← C];simpa [Builtin.firstCells] using hcells
      have U:=run_bytesToString (P:=P) w a l c _ J;rw [show ByteArray.empty=⟨([]:List UInt8).toArray⟩ from rfl,FI,μ] at U;simp only [convert,Sem.run_bind,run_underlying E.und,run_underlying D.und,run_underlying t.und,Result.andThen_ok];exact U
    all_goals (simp [Builtin.lenOf] at y)
    case string s0=>
     exfalso;cases Y<;>simp [Kr] at z
     case str s1=>exact A s1 rfl
     case nilS=>simp only [VR,PR] at o;cases o
     case sl a b c=>simp only [VR,PR] at o;obtain ⟨_,_,h,_⟩:=o;cases h
     case ref a b c d=>simp only [VR] at o;obtain ⟨_,_,_,⟨_,_,_,h⟩,_⟩:=o;cases h
   ·simp only [VR,PR];simp [List.map_map,Function.comp_def]
  ·cases h
 ·cases h
end
end AM
namespace AM
open Go
def bM (g:bP) (ups:List (Nat × aK)):bP:=fun b=>match ag ups b with|some B=>some B|none=>g b
def setM (m:aI) (b:Nat) (x:Nat × Nat):aI:=fun c=>if c=b then x else m c
theorem fJ {α:Type}:∀ (a b:List (Nat × α)) (t:Nat),ag (a++b) t=match ag a t with|some x=>some x|none=>ag b t
 | [],b,t=>rfl
 |(u,x)::r,b,t=>by
  simp only [Xqw,ag];split
  ·rfl
  ·exact fJ r b t
theorem jA (ups:List (Nat × aK)) (hp:Hp):bM (ag hp) ups=ag (ups++hp):=by
 funext b;rw [fJ];unfold bM;cases ag ups b<;>rfl
theorem dL (g:bP):bM g []=g:=rfl
theorem kQ (g:bP) (b:Nat) (B:aK) (c:Nat):bM g [(b,B)] c=if c=b then some B else g c:=by
 simp only [bM,ag];by_cases h:c=b
 ·subst h;simp
 ·have:Δ b c=false:=by
   cases a:Δ b c with
   |false=>rfl
   |true=>exact absurd (aF a).symm h
  rw [this,if_neg h]
section
variable {P:Program} {ap:AP} {g:bP} {m:aI} {S:aB} {w:World}
theorem PW.mono {g g':bP} {m a:aI} {S S':aB} {w w':World} {B:aK} {k c:Nat} (h:PW g m S w B k c) (b:gZ S S') (q:Ge g m g' a) (d:w'.heap[k]? =w.heap[k]?):PW g' a S' w' B k c:=by
 obtain ⟨⟨cur,e,vs,rest,l,s,i,f,n,r⟩,o,j⟩:=h;exact ⟨⟨cur,e,vs,rest,l.same d,s,fun p=>a_ b _ (i p),iQ b q _ f,n,r⟩,o,j⟩
theorem bi.seal_lt (h:bi ap g m S w) {k o:Nat} {v:Value} (a:S k o=some v):k<w.heap.size:=IC (h.sealed k o v a)
theorem bi.put (h:bi ap g m S w) (b:Nat) (B:aK) (k c:Nat) {w':World}
  (j:w.heap.size≤k∨∃ B0,g b=some B0∧k=(m b).1) (hw:w.grownBy w' (some k)) (hblk:PW g m S w' B k c)
  (hge:∀ B0,g b=some B0→B.esz=B0.esz∧((B.ver=B0.ver∧(k,c)=m b)∨B0.ver<B.ver))
  (hseal:∀ o v,S k o=some v→bZ w' k o=some v∧B.fro=true∧o<B.fz)
  (hmw:MW w w':=by first|exact MW.refl _|exact MW.alloc _ _ _ _|exact MW.row _ _ _|exact MW.map0 _):
  bi ap (bM g [(b,B)]) (setM m b (k,c)) S w'∧Fr g m S w (bM g [(b,B)]) (setM m b (k,c)) S w':=by
 have t:Ge g m (bM g [(b,B)]) (setM m b (k,c)):=by
  intro f B1 p;by_cases e:f=b
  ·subst e;obtain ⟨a,i⟩:=hge B1 p;refine ⟨B,by rw [kQ,if_pos rfl],a, ?_⟩;rcases i with ⟨i,D⟩|i
   ·exact .inl ⟨i,by simp [setM,D]⟩
   ·exact .inr i
  ·exact ⟨B1,by rw [kQ,if_neg e];exact p,rfl,.inl ⟨rfl,by simp [setM,e]⟩⟩
 have s:∀ f B1,g f=some B1→f ≠ b→(m f).1 ≠ k:=by
  intro f B1 p y e;have r:=h.lt p;rcases j with j|⟨B0,l,j⟩
  ·omega
  ·exact y (h.inj f b B1 B0 p l (e.trans j))
 have n:∀ k0,k0<w.heap.size→k0 ≠ k→w'.heap[k0]? =w.heap[k0]? :=fun k0 r A=>hw.block k0 r (by simpa using A)
 constructor
 ·refine ⟨?_, ?_, ?_, ?_,h.glob⟩
  ·intro f z B1 B2 d x u;rw [kQ] at d x;by_cases a:f=b<;>by_cases i:z=b
   ·rw [a,i]
   ·rw [if_neg i] at x;simp only [setM,a,if_true,if_neg i] at u;exact absurd u.symm (s z B2 x i)
   ·rw [if_neg a] at d;simp only [setM,i,if_true,if_neg a] at u;exact absurd u (s f B1 d a)
   ·rw [if_neg a] at d;rw [if_neg i] at x;simp only [setM,if_neg a,if_neg i] at u;exact h.inj f z B1 B2 d x u
  ·intro f B1 d;rw [kQ] at d;by_cases a:f=b
   ·rw [if_pos a] at d;cases d;simp only [setM,if_pos a];exact hblk.mono (gZ.refl S) t rfl
   ·rw [if_neg a] at d;simp only [setM,if_neg a];exact (h.blk f B1 d).mono (gZ.refl S) t (n _ (h.lt d) (s f B1 d a))
  ·intro k0 o v q;by_cases e:k0=k
   ·subst e;exact (hseal o v q).1
   ·rw [KY (n k0 (h.seal_lt q) e)];exact h.sealed k0 o v q
  ·intro f B1 d o v q;rw [kQ] at d;by_cases a:f=b
   ·rw [if_pos a] at d;cases d;simp only [setM,if_pos a] at q;exact (hseal o v q).2
   ·rw [if_neg a] at d;simp only [setM,if_neg a] at q;exact h.own f B1 d o v q
 ·refine ⟨t,gZ.refl S,hw.os,hw.tape,hw.output,hw.size, ?_, ?_,fun _ _ _ q=> .inl q,hmw.mb _ _⟩
  ·intro k0 r C;refine n k0 r (fun e=> ?_);subst e;rcases j with j|⟨B0,l,j⟩
   ·omega
   ·exact C b B0 l j.symm
  ·intro f B1 d;rw [kQ] at d;by_cases a:f=b
   ·subst a;rcases j with j|⟨B0,l,j⟩
    ·exact .inl (by simpa [setM] using j)
    ·exact .inr ⟨B0,l,by simp [setM,j]⟩
   ·rw [if_neg a] at d;exact .inr ⟨B1,d,by simp [setM,a]⟩
end
mutual
theorem AU {g:bP} {m:aI} {S:aB}:∀ (x:AV) {v:Value},VR g m S x v→cZ x= []→PR S x v
 | .int _ _,_,p,_=>by simpa only [VR] using p
 | .bool _,_,p,_=>by simpa only [VR] using p
 | .str _,_,p,_=>by simpa only [VR] using p
 | .nilS,_,p,_=>by simpa only [VR] using p
 | .nilP,_,p,_=>by simpa only [VR] using p
 | .raw _,_,p,_=>by simpa only [VR] using p
 | .nilF,_,p,_=>by simpa only [VR] using p
 | .nilI,_,p,_=>by simpa only [VR] using p
 | .sl _ _ _,_,p,_=>by simpa only [VR] using p
 | .pp _ _,_,p,_=>by simpa only [VR] using p
 | .mp _ _,_,p,_=>by simpa only [VR] using p
 | .dead,_,_,_=>by simp only [PR]
 | .own _ _ _,_,p,_=>by simp only [VR] at p
 | .ref _ _ _ _,_,_,h=>by simp [cZ] at h
 | .ptr _ _ _,_,_,h=>by simp [cZ] at h
 | .mr _ _,_,_,h=>by simp [cZ] at h
 | .agg l,_,p,h=>by
  simp only [VR] at p;simp only [PR];simp only [cZ] at h;obtain ⟨vs,e,q⟩:=p;exact ⟨vs,e,dX l q h⟩
 | .tup l,_,p,h=>by
  simp only [VR] at p;simp only [PR];simp only [cZ] at h;obtain ⟨vs,e,q⟩:=p;exact ⟨vs,e,dX l q h⟩
 | .fn f a c,_,p,h=>by
  simp only [VR] at p;simp only [PR];simp only [cZ,Xjc] at h;obtain ⟨d,b,e,q,r⟩:=p;exact ⟨d,b,e,dX a q h.1,dX c r h.2⟩
 | .ifc t x,_,p,h=>by
  simp only [VR] at p;simp only [PR];simp only [cZ] at h;obtain ⟨u,e,q⟩:=p;exact ⟨u,e,AU x q h⟩
theorem dX {g:bP} {m:aI} {S:aB}:∀ (l:List AV) {vs:List Value},aX g m S l vs→bG l= []→bu S l vs
 | [],[],_,_=>by simp only [bu]
 |x::r,v::vs,p,h=>by simp only [aX] at p;simp only [bG,Xjc] at h;simp only [bu];exact ⟨AU x p.1 h.1,dX r p.2 h.2⟩
 | [],_::_,p,_=>by simp [aX] at p
 |_::_,[],p,_=>by simp [aX] at p
end
section
variable {P:Program} {ap:AP} {g:bP} {m:aI} {S:aB} {w:World}
theorem sZ {α:Type} {l:List α} (h:l.isEmpty=true):l= []:=by cases l<;>simp at h ⊢
theorem bi.fresh (h:bi ap g m S w) {nid:Nat} (f:g nid=none) (B:aK) (j:B.esz ≠ dP) (c:Nat) {w':World} {cur:Array Value} {e:TypeId} (a:w.grownBy w' none) (b:w'.heap[w.heap.size]? =some (.cells cur e (0,0)))
  (hver:B.fro=false→B.fz=0) (hfz:B.fz≤B.cells.length) {vs rest:List Value} (hc:cur.toList=vs++rest) (hp:B.pr=true→bu S B.cells vs) (d:aX g m S B.cells vs) (h1:∀ u ∈ vs,u.oneCell'=true) (hcap:0<B.esz→cur.size=c*B.esz∧c≤maxLen)
  (hmw:MW w w':=by first|exact MW.refl _|exact MW.alloc _ _ _ _|exact MW.row _ _ _|exact MW.map0 _):
  bi ap (bM g [(nid,B)]) (setM m nid (w.heap.size,c)) S w'∧Fr g m S w (bM g [(nid,B)]) (setM m nid (w.heap.size,c)) S w':=by
 refine h.put (hmw:=hmw) nid B w.heap.size c (.inl (ε _)) ⟨a.os,a.tape,a.output,a.size,fun k i _=>a.block k i (by simp)⟩ ⟨⟨cur,e,vs,rest,gy.of j b,hc,hp,d,fun _=>h1,fun h0 _=>hcap h0⟩,hver,hfz⟩ (fun B0 h0=>by rw [f] at h0;cases h0) ?_;intro o v d;have:=h.seal_lt d;omega
theorem ES (h:bi ap g m S w) {nid:Nat} (f:g nid=none) {cells:List AV} {cv:Value} (b:aX g m S cells cv.cells.toList) (_hl:∀ x ∈ cells,lu x=true) (c:∀ u ∈ cv.cells,u.oneCell'=true) (t:TypeId):
  ∃ m' w',(newVar t cv).run P w= .ok ⟨w.heap.size,0,none⟩ w'∧bi ap (bM g [jY nid cells 0]) m' S w'∧Fr g m S w (bM g [jY nid cells 0]) m' S w'∧(m' nid).1=w.heap.size:=by
 have a:=h.fresh (nid:=nid) f (jY nid cells 0).2 (by show 0 ≠ dP;decide) 0 (w':=w.alloc (.cells cv.cells t)) (cur:=cv.cells) (e:=t) (World.grownBy_alloc w _ none) (heap_alloc_new w _) (fun _=>rfl) (Xqp _) (vs:=cv.cells.toList) (rest:= []) (by simp)
  (fun hp=>dX _ b (sZ hp)) b (fun u d=>c u (by simpa using d)) (fun h=>by simp [jY] at h)
 refine ⟨_,_, ?_,a.1,a.2,by simp [setM]⟩;simp [newVar,newRow]
theorem OI {b:aI} {nid:Nat} {cells:List AV} {a k:Nat} (c:(b nid).1=k):VR (bM g [jY nid cells a]) b S (.ptr nid 0 0) (.pointer (some ⟨k,0,none⟩)):=by
 simp only [VR];refine ⟨(jY nid cells a).2, ?_,Xqp _,⟨_,_,rfl⟩,fun _=>by rw [c]⟩;show bM g [(nid,(jY nid cells a).2)] nid=_;rw [kQ,if_pos rfl]
theorem Ig (h:bi ap g m S w) {rd:bP} (J:∀ b B,rd b=some B→g b=some B) {t:Nat} {M:TI} {i:TypeInfo} {d:TypeDesc} {z:Value} (O:v_ P t M i d z) {p x v:AV} {K c:Value} (hp:VR g m S p K) (V:VR g m S x c)
  {ups:List (Nat × aK)} {bs:List Bool} (hs:MR M rd p x=some (v,ups,bs)) (hbs:∀ b ∈ bs,b=true):
  v= .dead∧∃ m' w',(Instr.storeAt t K c).run P w= .ok () w'∧bi ap (bM g ups) m' S w'∧Fr g m S w (bM g ups) m' S w':=by
 unfold MR at hs;split at hs
 ·rename_i b ver a;have X:=bind_some hs;clear hs;obtain ⟨B,Y,hs⟩:=X;simp only at hs;split at hs
  ·rename_i N;simp only [η,Xqk] at N;obtain ⟨⟨⟨⟨c1,c2⟩,c3⟩,Z⟩,T⟩:=N;have l:B.esz ≠ dP:=fun e=>by rw [e] at T;exact absurd T (by decide)
   cases hs;have f:=J b B Y;have E:=aF c1;have L:=aF c3;have R:=eG (hbs _ (List.mem_singleton.2 rfl));simp only [VR] at hp;obtain ⟨B',D,_,_,q⟩:=hp;rw [f] at D;cases D;have q:=q E;subst q;obtain ⟨A,G⟩:=A7 V (fun y U=>List.all_eq_true.1 Z y U);obtain ⟨⟨cur,e,vs,rest,k1,k2,k3,k4,k5,k6⟩,k7,k8⟩:=h.blk b B f;have k1:=k1.cells l;have k5:=k5 l;have s:=aY A;have Q:=aY k4;have H:c.cells.size=i.size:=by simp only [Array.length_toList] at s;rw [← O.size];omega
   have I:cur.toList.length=vs.length+rest.length:=by rw [k2];simp
   have F:=run_storeCells_at P (m b).1 a e c.cells.toList 0 cur w k1 (by simp only [Array.length_toList] at s I ⊢;omega) (fun u j=>G u (by simpa using j));simp only [Xqt] at F;have hnewl:(cur.toList.take a++c.cells.toList++cur.toList.drop (a+c.cells.toList.length))=(vs.take a++c.cells.toList++vs.drop (a+c.cells.toList.length))++rest:=by
    rw [k2,Xjy (by omega),Xzu (by omega)];simp [Ξ]
   have n:=h.put b {B with cells:=eu B.cells a x.cells,pr:=B.pr && (bG x.cells).isEmpty} (m b).1 (m b).2 (w':=w.setRow (m b).1 (cur.toList.take a++c.cells.toList++cur.toList.drop (a+c.cells.toList.length)).toArray)
    (.inr ⟨B,f,rfl⟩) ⟨rfl,rfl,rfl,by simp,fun k _ hk=>setRow_other w _ k _ (fun e=>hk (by rw [e]))⟩
    ⟨⟨_,e,vs.take a++c.cells.toList++vs.drop (a+c.cells.toList.length),rest,gy.of l (setRow_heap w _ cur _ e _ k1),by rw [Xxw,hnewl],fun r=>by
      simp only [η] at r;exact Na (k3 r.1) (dX _ A (sZ r.2)),Gh k4 A,by
      intro _ u j;rcases List.mem_append.1 j with j|j
      ·rcases List.mem_append.1 j with j|j
       ·exact k5 u (Xx4 j)
       ·exact G u (by simpa using j)
      ·exact k5 u (Xj7 j),fun C _=>by
      obtain ⟨s1,s2⟩:=k6 C l;refine ⟨?_,s2⟩;rw [← s1,Xxe];simp only [ο,Xqm,Xxl,Array.length_toList] at s I ⊢;omega⟩,k7,by
     have:(eu B.cells a x.cells).length=B.cells.length:=by simp only [eu,ο,Xqm,Xxl];omega
     simp only [this];exact k8⟩
    (fun B0 h0=>by rw [f] at h0;cases h0;exact ⟨rfl,.inl ⟨rfl,rfl⟩⟩)
    (fun o v W=>by
     have:=(h.own b B f o v W).1;rw [c2] at this;cases this)
   refine ⟨rfl,_,_, ?_,n.1,n.2⟩;have hn:¬ (c.cells.size ≠ i.size):=by simp [H]
   simp [Instr.storeAt,Instr.sureAddr,storeVar,Go.sizeOf,typeInfo,O.info,H,F]
  ·cases hs
 ·cases hs
end
end AM
namespace AM
open Go
section
variable {P:Program} {ap:AP} {g:bP} {m:aI} {S:aB} {w:World}
theorem kC (g:bP) (b:Nat) (B:aK):bM g [(b,B)] b=some B:=by rw [kQ,if_pos rfl]
theorem BQ {w w':World} (h:w.grownBy w' none) (r:Option Nat):w.grownBy w' r:=⟨h.os,h.tape,h.output,h.size,fun k a _=>h.block k a (by simp)⟩
theorem lS (w:World) (o:Obj):w.grownBy (w.drew.alloc o) none:=⟨rfl,rfl,rfl,by simp,fun k a _=>Go.RowKit.Below.heap_alloc w.drew o k a⟩
theorem uw {t tx ty e:TypeId} {i:TypeInfo} (d:P.underlying t=some (.slice e)) (c:P.info? e=some i) {x:Value} {a:List Value} (hs:Src P i.size tx x 0 a w):
  (Builtin.append_ #[t,tx] ty #[.slice none 0 0,x]).run P w= .ok (.slice none 0 0) w:=by
 rcases hs.kind with ⟨e',b⟩|b<;>simp [Builtin.append_,run_underlying d,run_underlying b,Go.sizeOf,typeInfo,c,hs.len,hs.cells]
theorem uy {t tx ty e:TypeId} {i:TypeInfo} (h:P.underlying t=some (.slice e)) (d:P.info? e=some i) {k o sLen sCap n:Nat} {x:Value} {a:List Value} (hs:Src P i.size tx x n a w) (hroom:sLen+n≤sCap)
  {cur:Array Value} {e':TypeId} (hk:w.heap[k]? =some (.cells cur e' (0,0))) (hfit:o+sLen*i.size+a.length≤cur.size):
  (Builtin.append_ #[t,tx] ty #[.slice (some ⟨k,o,none⟩) sLen sCap,x]).run P w= .ok (.slice (some ⟨k,o,none⟩) (sLen+n) sCap) (w.setRow k (cur.toList.take (o+sLen*i.size)++a++cur.toList.drop (o+sLen*i.size+a.length)).toArray):=by
 have b:=run_storeCells_at P k (o+sLen*i.size) e' a 0 cur w hk (by simpa using hfit) hs.one;simp only [Xqt] at b;rcases hs.kind with ⟨f,c⟩|c<;>simp [Builtin.append_,run_underlying h,run_underlying c,Go.sizeOf,typeInfo,d,hs.len,hroom,hs.cells,Addr.add_mid,b]
theorem JO (b:Nat):FN b≤JP:=by
 unfold FN;split
 ·exact ε _
 ·decide
theorem yR {n a bytes tb:Nat} (h:a<n) (b:n≤FN tb) (c:bytes=tb) (d:bytes≤256):Builtin.nextslicecap n a*bytes≤281474976710656:=by
 refine growslice_fits h ?_;subst c;unfold FN at b;split at b
 ·rename_i f;have i:=Nat.le_of_ble_eq_true f;have:n*bytes≤JP*128:=Xvc b i;have e:JP*128=140737488355328:=by decide
  omega
 ·have:n*bytes≤549755813888*256:=Xvc b d;omega
theorem xu:JP=1099511627776:=by decide
theorem zY {t tx ty e:TypeId} {i:TypeInfo} (f:P.underlying t=some (.slice e)) (d:P.info? e=some i) {x:Value} {base:Option Addr} {sLen sCap:Nat} (hs:Src P i.size tx x 0 [] w) (c:sLen≤sCap):
  (Builtin.append_ #[t,tx] ty #[.slice base sLen sCap,x]).run P w= .ok (.slice base sLen sCap) w:=by
 cases base with
 |none=>rcases hs.kind with ⟨e',b⟩|b<;>simp [Builtin.append_,run_underlying f,run_underlying b,Go.sizeOf,typeInfo,d,hs.len,hs.cells,c]
 |some a=>rcases hs.kind with ⟨e',b⟩|b<;>simp [Builtin.append_,run_underlying f,run_underlying b,Go.sizeOf,typeInfo,d,hs.len,hs.cells,c,storeCells]
theorem uI (h:bi ap g m S w) {rd:bP} (M:∀ b B,rd b=some B→g b=some B) {nid:Nat} (hn:g nid=none) {t tx e:Nat} {ti l:TI} {i G:TypeInfo} {z N:Value} {de:TypeDesc} (ht:v_ P t ti i (.slice e) z) (r:v_ P e l G de N)
  {s x v:AV} {cs cx:Value} (hvs:VR g m S s cs) (hvx:VR g m S x cx)
  (hk:((∃ s,x= .str s)∧P.underlying tx=some .string∧l.size=1)∨((∀ s,x ≠ .str s)∧∃ e,P.underlying tx=some (.slice e)))
  {em:Bool} (O:s= .nilS→∃ n,vF x=some n∧Δ n 0=em)
  {ups:List (Nat × aK)} {bs:List Bool} (E:wC nid l rd em s x=some (v,ups,bs)) (y:∀ b ∈ bs,b=true) (ty:Nat):
  ∃ cv m' w',(Builtin.append_ #[t,tx] ty #[cs,cx]).run P w= .ok cv w'∧bi ap (bM g ups) m' S w'∧Fr g m S w (bM g ups) m' S w'∧VR (bM g ups) m' S v cv:=by
 have hcount:∀ L n pr,Kr l.size rd x=some (L,n,pr)→vF x=some n:=by
  intro L n pr a;unfold Kr at a;split at a
  ·cases a;rfl
  ·cases a;rfl
  ·cases a;rfl
  ·have hq:=bind_some a;clear a;obtain ⟨B,hB,a⟩:=hq;split at a
   ·cases a;rfl
   ·cases a
  ·cases a
 unfold wC at E;have hq:=bind_some E;clear E;obtain ⟨⟨L,n,pr⟩,a,E⟩:=hq;simp only at E;split at E
 ·cases E
 ·rename_i U;simp only [η] at U;have hsz:=dR U.1;have hby:=eG U.2;have d:l.size=G.size:=r.size;have R:l.size ≠ dP:=fun e=>by have:=r.small;omega
  have hby':l.bytes=G.bytes:=r.bytes;have hzs:N.cells.size=G.size:=r.zsize;split at E
  ·
   obtain ⟨n',hc',O⟩:=O rfl;rw [hcount _ _ _ a] at hc';cases hc';simp only [VR,PR] at hvs;subst hvs;split at E
   ·
    obtain ⟨rfl,rfl,rfl⟩:=aQ E;have Q:n=0:=aF O;subst Q;have hl:=aF (y _ (List.mem_singleton.2 rfl));obtain ⟨c,hs,hv,hp⟩:=qo (P:=P) h M hvx a hl hk;rw [d] at hs;exact ⟨_,m,w,uw ht.und r.info hs,by rw [dL];exact h,by rw [dL];exact Fr.refl _ _ _ _,by simp [VR,PR]⟩
   ·
    cases E;obtain ⟨b1,y⟩:=bT y;obtain ⟨b2,_⟩:=bT y;have hl:=aF b1;have hroomB:=eG b2;have hroom:=Xqh hroomB (JO _);have Q:n ≠ 0:=by intro e;subst e;simp at O
    obtain ⟨c,hs,hv,hp⟩:=qo (P:=P) h M hvx a hl hk;rw [d] at hs;have f:=run_append_grow_src w t tx ty e G N ht.und r.info r.zero none 0 0 [] (run_firstCells_none w.drew _ _ _ _) cx n c hs (by omega) (by rw [xu] at hroom;omega) (yR (by omega) (by simpa using hroomB) (by omega) (by omega));have W:n≤grownCap w n 0 e:=grownCap_ge _ _ _ _;have X:grownCap w n 0 e≤maxLen:=grownCap_le_maxLen _ _ _ _ (by rw [xu] at hroom;simp only [maxLen];omega);simp only [Φ] at f;have hf:=h.fresh (nid:=nid) hn ⟨L,0,false,0,l.size,pr⟩ R (grownCap w n 0 e) (cur:=([]++c).toArray++Builtin.zeroCells N.cells (grownCap w n 0 e - n)) (e:=e) (lS w _) (heap_alloc_new w.drew _) (fun _=>rfl) (Xqp _)
     (vs:=c) (rest:=(Builtin.zeroCells N.cells (grownCap w n 0 e - n)).toList) (by simp) hp hv hs.one (fun _=> ⟨by
      simp only [Array.size_append,Xxe,μ,size_zeroCells,hs.newsLen,hzs,d];rw [← Xjh];congr 1;omega,X⟩)
    refine ⟨_,_,_,f,hf.1,hf.2, ?_⟩;simp only [VR];refine ⟨_,kC _ _ _,ε _,⟨_,_,_,rfl⟩,fun _=> ⟨0, ?_, ?_, ?_,hsz,R⟩⟩
    ·simp [setM]
    ·simpa [setM] using W
    ·simp
  ·rename_i b ver mN;have hq:=bind_some E;clear E;obtain ⟨B,hB,E⟩:=hq;split at E
   ·rename_i F;simp only [η,Xqk] at F;have hver:=aF F.1.1;have T:=aF F.1.2;have A:B.esz ≠ dP:=fun e=>by rw [e] at F;exact absurd F.2 (by decide)
    cases E;obtain ⟨b1,y⟩:=bT y;obtain ⟨b2,y⟩:=bT y;obtain ⟨b3,y⟩:=bT y;obtain ⟨b4,_⟩:=bT y;have hl:=aF b1;have hroomB:=eG b2;have hroom:=Xqh hroomB (JO _);have hfit:=eG b3;have D:=M b B hB;simp only [VR] at hvs;obtain ⟨B',hB',_,_,q⟩:=hvs;rw [D] at hB';cases hB';obtain ⟨o,rfl,hcap,ho,H,hnz1⟩:=q hver;simp only [Φ,Nat.sub_zero,Nat.zero_mul] at hcap ho ⊢;obtain ⟨c,hs,hv,hp⟩:=qo (P:=P) h M hvx a hl hk;rw [d] at hs;have hbk:=h.blk b B D;obtain ⟨⟨cur,e',vs,rest,k1,k2,k3,k4,k5,k6⟩,k7,k8⟩:=hbk;have k1:=k1.cells A;have k5:=k5 A;obtain ⟨s1,s2⟩:=k6 H A;have hvl:=aY k4;have hcl:cur.toList.length=vs.length+rest.length:=by rw [k2];simp
    simp only [Array.length_toList] at hcl;have hfz:B.fz≤mN*l.size:=by
     cases hf:B.fro with
     |false=>rw [k7 hf];exact Xqp _
     |true=>simp [hf] at b4;exact eG (by simpa using b4)
    have holds:bu S (B.cells.take (mN*l.size)) (vs.take (mN*l.size))∨B.pr=false:=by
     cases hp:B.pr with
     |false=>exact .inr rfl
     |true=>exact .inl (jB _ (k3 hp))
    have K:(vs.take (mN*l.size)).length=mN*G.size:=by rw [Xqm,d] at*;omega
    have Y:aX g m S (B.cells.take (mN*l.size)++L) (vs.take (mN*l.size)++c):=fM (oG _ k4) hv;have V:(B.pr && pr)=true→bu S (B.cells.take (mN*l.size)++L) (vs.take (mN*l.size)++c):=by
     intro hh;simp only [η] at hh;exact jb (jB _ (k3 hh.1)) (hp hh.2)
    have h1:∀ u ∈ vs.take (mN*l.size)++c,u.oneCell'=true:=by
     intro u C;rcases List.mem_append.1 C with C|C
     ·exact k5 u (Xx4 C)
     ·exact hs.one u C
    have I:B.fz≤(B.cells.take (mN*l.size)++L).length:=by
     rw [ο,Xqm];omega
    by_cases hrm:mN+n≤(m b).2
    ·
     by_cases hc0:(m b).2=0
     ·have hm0:mN=0:=by omega
      have Q:n=0:=by omega
      subst hm0;subst Q;have hnews:c= []:=by have:=hs.newsLen;simpa using this
      subst hnews;have f:=zY (P:=P) (w:=w) (ty:=ty) (base:=some ⟨(m b).1,o,none⟩) (sLen:=0) (sCap:=(m b).2) ht.und r.info hs (by omega);have p:=h.put b {B with cells:=B.cells.take (0*l.size)++L,ver:=ver+1,pr:=B.pr && pr} (m b).1 (m b).2 (w':=w) (.inr ⟨B,D,rfl⟩) ⟨rfl,rfl,rfl,ε _,fun _ _ _=>rfl⟩
       ⟨⟨cur,e',_,vs.drop (0*l.size)++rest,gy.of A k1,by rw [k2];simp,V,Y,fun _=>h1,k6⟩,k7,I⟩ (fun B0 h0=>by rw [D] at h0;cases h0;exact ⟨rfl,.inr (by simp only;omega)⟩)
       (fun o' u C=> ⟨h.sealed _ _ _ C,(h.own b B D o' u C)⟩)
      refine ⟨_,_,_,f,p.1,p.2, ?_⟩;simp only [VR];refine ⟨_,kC _ _ _,ε _,⟨_,_,_,rfl⟩,fun _=> ⟨o,by simp [setM],by simp,by simp [setM,hc0],H,A⟩⟩
     ·have Z:o=0:=ho (by omega);subst Z;have hnl:=hs.newsLen;have hbig:mN*G.size+n*G.size≤(m b).2*G.size:=by rw [← Xjh];exact Nat.mul_le_mul_right _ hrm
      have hcs:cur.size=(m b).2*G.size:=by rw [s1,T,d]
      have f:=uy (P:=P) (w:=w) (ty:=ty) (o:=0) ht.und r.info hs hrm k1 (by simp only [Φ];omega);simp only [Φ] at f;have hlist:cur.toList.take (mN*G.size)=vs.take (mN*l.size):=by rw [k2,d,Xjy (by rw [d] at hfit;omega)]
      have p:=h.put b {B with cells:=B.cells.take (mN*l.size)++L,ver:=ver+1,pr:=B.pr && pr} (m b).1 (m b).2 (w':=w.setRow (m b).1 (cur.toList.take (mN*G.size)++c++cur.toList.drop (mN*G.size+c.length)).toArray)
       (.inr ⟨B,D,rfl⟩) ⟨rfl,rfl,rfl,by simp,fun k _ hk=>setRow_other w _ k _ (fun e=>hk (by rw [e]))⟩
       ⟨⟨_,e',_,cur.toList.drop (mN*G.size+c.length),gy.of A (setRow_heap w _ cur _ e' _ k1),by rw [hlist],V,Y,fun _=>h1,fun _ _=> ⟨by
        rw [← s1,Xxe];simp only [ο,Xqm,Xxl,Array.length_toList];omega,s2⟩⟩,k7,I⟩ (fun B0 h0=>by rw [D] at h0;cases h0;exact ⟨rfl,.inr (by simp only;omega)⟩)
       (fun o' u C=>by
        obtain ⟨f1,f2⟩:=h.own b B D o' u C;refine ⟨?_,f1,f2⟩;have:=h.sealed _ _ _ C;cases J:u.oneCell' with
        |false=>
         obtain ⟨_,_,hm,_⟩:=sS this J;rw [k1] at hm;cases hm
        |true=>
        have this:=sU this J;rw [jD k1] at this;refine (gy.of A (setRow_heap w _ cur _ e' _ k1)).get ?_ (fun _=>J);simp only [Ξ];rw [Xqa (by simp only [Xqm,Array.length_toList];rw [d] at hfz;omega),List.getElem?_take_of_lt (by rw [d] at hfz;omega)];exact this)
      refine ⟨_,_,_,f,p.1,p.2, ?_⟩;simp only [VR];refine ⟨_,kC _ _ _,ε _,⟨_,_,_,rfl⟩,fun _=> ⟨0,by simp [setM],by simpa [setM] using hrm,by simp,H,A⟩⟩
    ·
     have hold:(Builtin.firstCells G.size mN (.slice (some ⟨(m b).1,o,none⟩) mN (m b).2)).run P w.drew= .ok (vs.take (mN*l.size)).toArray w.drew:=by
      refine run_firstCells_some w.drew G.size mN ⟨(m b).1,o,none⟩ mN _ _ K ?_;intro j u C;have hjl:=(List.getElem?_eq_some_iff.1 C).1;rw [K] at hjl;have hm0:0<mN:=by
       rcases Xxg mN with h0|h0
       ·subst h0;simp at hjl
       ·exact h0
      have Z:o=0:=ho (by omega);subst Z;rw [Addr.add_mid,Φ,jD (w:=w.drew) (j:=j) k1,k2];rw [Xxn] at C;split at C
      ·rw [Xqa (List.getElem?_eq_some_iff.1 C).1];exact C
      ·cases C
     have f:=run_append_grow_src w t tx ty e G N ht.und r.info r.zero (some ⟨(m b).1,o,none⟩) mN (m b).2 _ hold cx n c hs (by omega) (by rw [xu] at hroom;omega) (yR (by omega) hroomB (by omega) (by omega));have W:mN+n≤grownCap w (mN+n) (m b).2 e:=grownCap_ge _ _ _ _;have X:grownCap w (mN+n) (m b).2 e≤maxLen:=grownCap_le_maxLen _ _ _ _ (by rw [xu] at hroom;simp only [maxLen];omega);have p:=h.put b {B with cells:=B.cells.take (mN*l.size)++L,ver:=ver+1,pr:=B.pr && pr} w.heap.size (grownCap w (mN+n) (m b).2 e) (.inl (ε _))
      (BQ (lS w (.cells ((vs.take (mN*l.size)++c).toArray++Builtin.zeroCells N.cells (grownCap w (mN+n) (m b).2 e - (mN+n))) e)) _)
      ⟨⟨(vs.take (mN*l.size)++c).toArray++Builtin.zeroCells N.cells (grownCap w (mN+n) (m b).2 e - (mN+n)),e,_,(Builtin.zeroCells N.cells (grownCap w (mN+n) (m b).2 e - (mN+n))).toList,gy.of A (heap_alloc_new w.drew _),by simp,V,Y,fun _=>h1,fun _ _=> ⟨by
       simp only [Array.size_append,Xxe,ο,size_zeroCells,hs.newsLen,hzs];rw [K,T,d,← Xjh,← Xjh];congr 1;omega,X⟩⟩,k7,I⟩ (fun B0 h0=>by rw [D] at h0;cases h0;exact ⟨rfl,.inr (by simp only;omega)⟩)
      (fun o' u C=>absurd (h.seal_lt C) (Xjg _))
     refine ⟨_,_,_,f,p.1,p.2, ?_⟩;simp only [VR];refine ⟨_,kC _ _ _,ε _,⟨_,_,_,rfl⟩,fun _=> ⟨0,by simp [setM],by simpa [setM] using W,by simp,H,A⟩⟩
   ·cases E
  ·cases E
end
end AM
namespace AM
open Go
theorem zD (n:Nat) (z:List AV):(gu n z).length=n*z.length:=by simp [gu]
theorem FK (n:Nat) (z:List AV):gu (n+1) z=z++gu n z:=by simp [gu,Xz1]
theorem JM:∀ (n:Nat) (z:List AV) (i:Nat),i<n*z.length→(gu n z)[i]? =z[i % z.length]?
 |0,z,i,h=>by simp at h
 | n+1,z,i,h=>by
  rw [FK];by_cases a:i<z.length
  ·rw [Xqa a,Nat.mod_eq_of_lt a]
  ·have a:z.length≤i:=by omega
   rw [List.getElem?_append_right a,JM n z (i - z.length) (by rw [Xjh,Nat.one_mul] at h;omega)];congr 1;rw [← Nat.mod_eq_sub_mod a]
section
variable {P:Program} {ap:AP} {g:bP} {m:aI} {S:aB} {w:World}
theorem AZ:∀ {l:List AV} {vs:List Value},l.length=vs.length→(∀ (i:Nat) x v,l[i]? =some x→vs[i]? =some v→VR g m S x v)→aX g m S l vs
 | [],[],_,_=>by simp [aX]
 |x::r,v::vs,hl,h=>by
  simp only [aX];exact ⟨h 0 x v rfl rfl,AZ (by simpa using hl) fun i x v b a=>h (i+1) x v (by simpa using b) (by simpa using a)⟩
 | [],_::_,h,_=>by simp at h
 |_::_,[],h,_=>by simp at h
theorem yl (z:Array Value) (n:Nat):(madeCells z n).toList=(List.range n).map fun i=>z[i % z.size]! :=by simp [madeCells]
theorem nV {t:Nat} {l:TI} {i:TypeInfo} {d:TypeDesc} {z:Value} (e:v_ P t l i d z) (n:Nat):aX g m S (gu n l.zero) (madeCells z.cells (n*i.size)).toList:=by
 have o:=oH (g:=g) (m:=m) (S:=S) e;have a:=aY o;simp only [Array.length_toList,e.zsize] at a;refine AZ (by rw [zD,a,Array.length_toList,size_madeCells]) ?_;intro j x v k c;have f:j<n*i.size:=by
  have:=(List.getElem?_eq_some_iff.1 k).1;rw [zD,a] at this;exact this
 rw [JM n l.zero j (by rw [a];exact f),a] at k;rw [yl,e.zsize,Ψ,List.getElem?_range f] at c;simp only [Xqr,Option.some.injEq] at c;obtain ⟨q,b,p⟩:=pq o _ k;have hm:j % i.size<z.cells.size:=by rw [e.zsize];exact Nat.mod_lt _ (by
  rcases Xxg i.size with h|h
  ·rw [h,Nat.mul_zero] at f;exact absurd f (Nat.not_lt_zero _)
  ·exact h)
 simp only [Array.getElem?_toList] at b;rw [getElem!_pos z.cells _ hm] at c;rw [Array.getElem?_eq_getElem hm] at b;cases b;rw [← c];exact p
theorem yG {n:Nat} {z:List AV} (h:∀ x ∈ z,lu x=true):∀ x ∈ gu n z,lu x=true:=by
 intro x a;simp only [gu,List.mem_flatten,List.mem_replicate] at a;obtain ⟨l,⟨_,rfl⟩,a⟩:=a;exact h x a
theorem wB:∀ {l:List AV} {vs:List Value},aX g m S l vs→(∀ x ∈ l,lu x=true)→∀ u ∈ vs,u.oneCell'=true
 | [],[],_,_=>by simp
 |x::r,v::vs,h,hl=>by
  simp only [aX] at h;intro u a;rcases List.mem_cons.1 a with rfl|a
  ·exact KL h.1 (hl x (by simp))
  ·exact wB h.2 (fun y b=>hl y (by simp [b])) u a
 | [],_::_,h,_=>by simp [aX] at h
 |_::_,[],h,_=>by simp [aX] at h
theorem G9 {b vs:List AV} {a:Nat} {x:AV} (h:x ∈ eu b a vs):x ∈ b∨x ∈ vs:=by
 simp only [eu,List.mem_append] at h;rcases h with (h|h)|h
 ·exact .inl (Xx4 h)
 ·exact .inr h
 ·exact .inl (Xj7 h)
theorem BJ:∀ {ps:List (Nat × Nat × AV)} {cells cells':List AV},uO cells ps=some cells'→(∀ x ∈ cells,lu x=true)→∀ x ∈ cells',lu x=true
 | [],cells,cells',h,hl=>by simp [uO] at h;subst h;exact hl
 | (off,size,v)::r,cells,cells',h,hl=>by
  simp only [uO] at h;split at h
  ·rename_i b;simp only [η] at b;refine BJ h fun x a=> ?_
   rcases G9 a with a|a
   ·exact hl x a
   ·exact List.all_eq_true.1 b.2 x a
  ·cases h
theorem XD {nid:Nat} {cells:List AV} {a k c n:Nat} (d:n≤c) (hp:0<a) (b:a ≠ dP):VR (bM g [jY nid cells a]) (setM m nid (k,c)) S (.ref nid 0 0 n) (.slice (some ⟨k,0,none⟩) n c):=by
 simp only [VR];refine ⟨_,kC _ _ _,Xqp _,⟨_,_,_,rfl⟩,fun _=> ⟨0,by simp [setM],by simpa [setM] using d,by simp,hp,b⟩⟩
theorem UB {nid:Nat} {cells:List AV} {a k c n:Nat} {p:Bool} (d:n≤c) (hp:0<a) (b:a ≠ dP):VR (bM g [(nid,⟨cells,0,false,0,a,p⟩)]) (setM m nid (k,c)) S (.ref nid 0 0 n) (.slice (some ⟨k,0,none⟩) n c):=by
 simp only [VR];refine ⟨_,kC _ _ _,Xqp _,⟨_,_,_,rfl⟩,fun _=> ⟨0,by simp [setM],by simpa [setM] using d,by simp,hp,b⟩⟩
theorem qj:∀ (a b:List AV),bG (a++b)=bG a++bG b
 | [],b=>by simp [bG]
 |x::r,b=>by simp [bG,qj r b]
theorem yF (z:List AV) (h:bG z= []):∀ n,bG (gu n z)= []
 |0=>by simp [gu,bG]
 |n+1=>by
  have a:=yF z h n;simp only [gu,Xz1,List.flatten_cons,qj,h,μ] at a ⊢;exact a
theorem Gw (h:bi ap g m S w) {rd:bP} (Q:∀ b B,rd b=some B→g b=some B) {t e:Nat} {ti a:TI} {i R:TypeInfo} {z K:Value} {de:TypeDesc} (O:v_ P t ti i (.slice e) z) (c:v_ P e a R de K) {x v:AV} {cx:Value} (J:VR g m S x cx)
  {ups:List (Nat × aK)} {bs:List Bool} (l:La a rd x=some (v,ups,bs)) (hbs:∀ b ∈ bs,b=true) (ats:Array TypeId) (hat:ats[0]? =some t) (args:Array Value) (harg:args[0]? =some cx) (ty:TypeId):
  ∃ m' w',(Builtin.clear_ ats ty args).run P w= .ok (.tuple #[]) w'∧bi ap (bM g ups) m' S w'∧Fr g m S w (bM g ups) m' S w'∧v= .tup []:=by
 unfold La at l;split at l
 ·obtain ⟨rfl,rfl,rfl⟩:=aQ l;simp only [VR,PR] at J;subst J;exact ⟨m,w,by simp [Builtin.clear_,hat,harg,run_underlying O.und],by rw [dL];exact h,by rw [dL];exact Fr.refl _ _ _ _,rfl⟩
 ·rename_i b ver j n;have hq:=bind_some l;clear l;obtain ⟨B,hB,l⟩:=hq;split at l
  ·rename_i E;simp only [η,Xqk] at E;obtain ⟨⟨⟨⟨c1,c2⟩,c3⟩,c4⟩,c5⟩:=E;cases l;have d:=Q b B hB;have F:=aF c1;have f:=aF c3;have hfit:=eG (hbs _ (List.mem_singleton.2 rfl));have s:B.esz ≠ dP:=by have h1:=c.small;have h2:=c.size;omega
   simp only [VR] at J;obtain ⟨B',D,_,_,q⟩:=J;rw [d] at D;cases D;obtain ⟨o,rfl,hjn,M,Z,_⟩:=q F;have A:aX g m S (gu n a.zero) (madeCells K.cells (n*R.size)).toList:=nV c n;have Y:∀ x ∈ gu n a.zero,lu x=true:=yG c.zleaf;have C:=wB A Y;have X:bG (gu n a.zero)= []:=yF _ (by simpa using c5) _;have p:=aY A;have G:(gu n a.zero).length=n*a.size:=by rw [p,Array.length_toList,size_madeCells,c.size]
   obtain ⟨⟨cur,L,vs,rest,k1,k2,k3,k4,k5,k6⟩,k7,k8⟩:=h.blk b B d;have k1:=k1.cells s;have k5:=k5 s;have hvl':=aY k4;have I:cur.toList.length=vs.length+rest.length:=by rw [k2];simp
   generalize U:(madeCells K.cells (n*R.size)).toList=zs at A C p;have V:zs.length=n*a.size:=by rw [← p,G]
   have N:(Builtin.zeroCells K.cells n).toList=zs:=by rw [← U,← c.zsize];rfl
   have H:=run_storeCells_at P (m b).1 (j*a.size) L zs 0 cur w k1 (by simp only [Array.length_toList] at I;omega) C;simp only [Xqt] at H;have hnewl:(cur.toList.take (j*a.size)++zs++cur.toList.drop (j*a.size+zs.length))=(vs.take (j*a.size)++zs++vs.drop (j*a.size+zs.length))++rest:=by
    rw [k2,Xjy (by omega),Xzu (by omega)];simp [Ξ]
   have y:=h.put b {B with cells:=eu B.cells (j*a.size) (gu n a.zero)} (m b).1 (m b).2 (w':=w.setRow (m b).1 (cur.toList.take (j*a.size)++zs++cur.toList.drop (j*a.size+zs.length)).toArray)
    (.inr ⟨B,d,rfl⟩) ⟨rfl,rfl,rfl,by simp,fun k _ hk=>setRow_other w _ k _ (fun e=>hk (by rw [e]))⟩
    ⟨⟨_,L,vs.take (j*a.size)++zs++vs.drop (j*a.size+zs.length),rest,gy.of s (setRow_heap w _ cur _ L _ k1),by rw [Xxw,hnewl],fun W=>Na (k3 W) (dX _ A X),Gh k4 A,by
      intro _ u r;rcases List.mem_append.1 r with r|r
      ·rcases List.mem_append.1 r with r|r
       ·exact k5 u (Xx4 r)
       ·exact C u r
      ·exact k5 u (Xj7 r),fun f _=>by
      obtain ⟨s1,s2⟩:=k6 f s;refine ⟨?_,s2⟩;rw [← s1,Xxe];simp only [ο,Xqm,Xxl,Array.length_toList] at p I ⊢;omega⟩,k7,by
     have:(eu B.cells (j*a.size) (gu n a.zero)).length=B.cells.length:=by simp only [eu,ο,Xqm,Xxl];omega
     simp only [this];exact k8⟩
    (fun B0 h0=>by rw [d] at h0;cases h0;exact ⟨rfl,.inl ⟨rfl,rfl⟩⟩)
    (fun o v A=>by
     have:=(h.own b B d o v A).1;rw [c2] at this;cases this)
   refine ⟨_,_, ?_,y.1,y.2,rfl⟩;by_cases hn:n=0
   ·subst hn;have T:zs= []:=List.eq_nil_of_length_eq_zero (by simpa using V);subst T;have hsame:w.setRow (m b).1 (cur.toList.take (j*a.size)++ []++cur.toList.drop (j*a.size+([]:List Value).length)).toArray=w:=by
     simp only [υ,List.length_nil,Xqt,List.take_append_drop,Array.toArray_toList];exact setRow_self w _ cur L (0,0) k1
    rw [hsame];simp [Builtin.clear_,hat,harg,run_underlying O.und]
   ·have M:=M (by omega);subst M;rw [f] at harg;cases n with
    |zero=>exact absurd rfl hn
    |succ n=>simp [Builtin.clear_,hat,harg,run_underlying O.und,zeroValue,typeInfo,c.info,c.zero,N,H,Result.andThen]
  ·cases l
 ·cases l
theorem yt (I:dF P ap) (h:bi ap g m S w) {nid:Nat} (W:g nid=none) {t:Nat} {J:TI} {i:TypeInfo} {d:TypeDesc} {z:Value} (L:v_ P t J i d z) {l c:AV} {cl Q:Value} (R:VR g m S l cl) (K:VR g m S c Q)
  {v:AV} {ups:List (Nat × aK)} {bs:List Bool} (hm:vM ap nid J l c=some (v,ups,bs)) (j:∀ b ∈ bs,b=true):
  ∃ cv m' w',(Instr.makeSlice t cl Q).run P w= .ok cv w'∧bi ap (bM g ups) m' S w'∧Fr g m S w (bM g ups) m' S w'∧VR (bM g ups) m' S v cv:=by
 unfold vM at hm;split at hm
 ·rename_i e kl l U c u;have T:=bind_some hm;clear hm;obtain ⟨k,a,hm⟩:=T;obtain ⟨n,X,G,a⟩:=bW I a;split at hm
  ·rename_i f;simp only [η] at f;have H:=f.2;have f:=f.1;have q:=dR f.1.1;have y:=eG f.2;have C:bG (gu l.toNat k.zero)= []:=yF _ (by simpa using H) _;generalize k.zero.all Uj=p at hm;cases hm;obtain ⟨s,j⟩:=bT j;obtain ⟨F,j⟩:=bT j;obtain ⟨M,_⟩:=bT j;have s:0≤l:=of_decide_eq_true s;have F:l=c:=of_decide_eq_true F;have M:l≤2^40:=of_decide_eq_true M;subst F;simp only [VR,PR] at R K;subst R;subst K;rw [L.d_eq] at u;have u:=fD u;subst u;have r:(n.bytes:Int)*l≤281474976710656:=by
    have E:(n.bytes:Int)≤128:=by rw [← a.bytes];exact_mod_cast y
    have N:(n.bytes:Int)*l≤128*l:=Int.mul_le_mul_of_nonneg_right E s;have V:(2:Int)^40=1099511627776:=by decide
    omega
   have B:l≤9223372036854775807:=by
    have V:(2:Int)^40=1099511627776:=by decide
    omega
   have o:=run_make (P:=P) w t e n G L.und a.info a.zero kl U l l s (Int.le_refl _) r B;have A:aX g m S (gu l.toNat k.zero) (madeCells G.cells (l.toNat*n.size)).toList:=nV a _;have D:∀ x ∈ gu l.toNat k.zero,lu x=true:=yG a.zleaf;have O:=h.fresh (nid:=nid) W ⟨gu l.toNat k.zero,0,false,0,k.size,p⟩ (by have E:=a.small;have N:=a.size;show k.size ≠ dP;omega) l.toNat (w':=w.alloc (.cells (madeCells G.cells (l.toNat*n.size)) e)) (World.grownBy_alloc w _ none) (heap_alloc_new w _) (fun _=>rfl) (Xqp _)
    (rest:= []) (by rw [υ]) (fun hp=>dX _ A C) A (wB A D) (fun _=> ⟨by rw [size_madeCells];simp [a.size],by simp only [maxLen];omega⟩)
   refine ⟨_,_,_,o,O.1,O.2, ?_⟩;exact UB (ε _) q (by have E:=a.small;have N:=a.size;omega)
  ·cases hm
 ·cases hm
theorem mD {t e:TypeId} {i:TypeInfo} {z:Value} (f:P.underlying t=some (.slice e)) (c:P.info? e=some i) (h:i.zero=some z) {len:Nat} (b:len*i.size≤2^24) (h0:len*i.size ≠ 0) {parts:Array (Nat × Value)} {cells:Array Value}
  (hf:Instr.fill (fun d=>some (d*i.size,i.size)) (madeCells z.cells (len*i.size)) parts.toList=some cells):
  (Instr.buildSlice t len parts).run P w= .ok (.slice (some ⟨w.heap.size,0,none⟩) len len) (w.alloc (.cells cells e)):=by
 have a:¬ (len*i.size>2^24):=by omega
 unfold madeCells at hf;simp only [Instr.buildSlice,Sem.run_bind,run_underlying f,Result.andThen_ok];simp [Go.sizeOf,typeInfo,c,zeroValue,h,h0,newRow];rw [if_neg (by simpa using a)];simp [hf]
theorem zZ {t e:TypeId} {i:TypeInfo} (c:P.underlying t=some (.slice e)) (a:P.info? e=some i) {len:Nat} (h0:len*i.size=0) {parts:Array (Nat × Value)} {cells:Array Value}
  (hf:Instr.fill (fun b=>some (b*i.size,i.size)) #[] parts.toList=some cells):
  (Instr.buildSlice t len parts).run P w= .ok (.slice (some ⟨w.heap.size,0,none⟩) len len) (w.alloc (.cells cells e)):=by
 simp [Instr.buildSlice,run_underlying c,Go.sizeOf,typeInfo,a,h0,newRow,Array.range_zero',hf]
theorem wF (A:dF P ap) (h:bi ap g m S w) {nid:Nat} (K:g nid=none) {t:Nat} {D:TI} {i:TypeInfo} {d:TypeDesc} {z:Value} (r:v_ P t D i d z) {len:Nat} {ps:List (Nat × AV)} {qs:Array (Nat × Value)} (H:wu g m S ps qs.toList)
  {v:AV} {ups:List (Nat × aK)} {bs:List Bool} (hm:qZ ap nid D len ps=some (v,ups,bs)):
  ∃ cv m' w',(Instr.buildSlice t len qs).run P w= .ok cv w'∧bi ap (bM g ups) m' S w'∧Fr g m S w (bM g ups) m' S w'∧VR (bM g ups) m' S v cv:=by
 unfold qZ at hm;split at hm
 ·rename_i e p;have c:=bind_some hm;clear hm;obtain ⟨n,a,hm⟩:=c;obtain ⟨y,L,J,a⟩:=bW A a;split at hm
  ·rename_i j;simp only [η] at j;have b:=dR j.1.1;have q:=eG j.1.2;have c:=bind_some hm;clear hm;obtain ⟨cs,l,hm⟩:=c;cases hm;rw [r.d_eq] at p;have p:=fD p;subst p;have s:aX g m S (gu len n.zero) (madeCells J.cells (len*y.size)).toList:=nV a _;obtain ⟨f,o,B,G⟩:=ny _ qs.toList _ cs _ (qf (size:=n.size) H) s l;rw [a.size] at o;have k:(Instr.buildSlice t len qs).run P w= .ok (.slice (some ⟨w.heap.size,0,none⟩) len len) (w.alloc (.cells f e)):=by
    by_cases h0:len*y.size=0
    ·exact zZ r.und a.info h0 (by rw [h0] at o;simpa [madeCells,Array.range_zero'] using o)
    ·exact mD r.und a.info a.zero (by rw [← a.size];exact q) h0 o
   have u:∀ x ∈ cs,lu x=true:=BJ l (yG a.zleaf);have C:f.size=len*y.size:=by rw [G,size_madeCells]
   have F:=h.fresh (nid:=nid) K (jY nid cs n.size).2 (by have E:=a.small;have I:=a.size;show n.size ≠ dP;omega) len (w':=w.alloc (.cells f e)) (World.grownBy_alloc w _ none) (heap_alloc_new w _) (fun _=>rfl) (Xqp _)
    (rest:= []) (by rw [υ]) (fun hp=>dX _ B (sZ hp)) B (wB B u) (fun _=> ⟨by rw [C];simp [jY,a.size],by
     have E:len≤len*n.size:=Nat.le_mul_of_pos_right _ b;have M:(2:Nat)^24=16777216:=by decide
     simp only [maxLen];omega⟩)
   refine ⟨_,_,_,k,F.1,F.2, ?_⟩;exact XD (ε _) b (by have E:=a.small;have I:=a.size;omega)
  ·cases hm
 ·cases hm
theorem Ih {d:TypeDesc} {k e:Nat} (h:jg P (some d)= .map k e):d= .map k e:=by cases d<;>simp [jg] at h;obtain ⟨rfl,rfl⟩:=h;rfl
theorem Qr {k:LK} {x y:AV} {u v:Value} (b:Fg k x=true) (a:Fg k y=true) (c:VR g m S x u) (d:VR g m S y v):
  qF k u v=some (BI x y)∧(BI x y=true→u=v)∧(∀ n,Instr.sameBits n u u=true)∧cZ x= []:=by
 cases k<;>cases x<;>simp [Fg] at b<;>cases y<;>simp [Fg] at a<;>simp only [VR,PR] at c d<;>subst c<;>subst d
 ·refine ⟨by simp [qF,BI,b,a],fun h=> ?_,fun n=>by simp [Instr.sameBits],rfl⟩;simp only [BI,beq_iff_eq] at h;rw [← eY b,← eY a,h]
 ·refine ⟨by simp [qF,BI],fun h=> ?_,fun n=>by simp [Instr.sameBits],rfl⟩;simp only [BI,beq_iff_eq] at h;rw [h]
 ·refine ⟨by simp [qF,BI,vY],fun h=> ?_,fun n=>by cases n<;>simp [Instr.sameBits,MapKept.bytes_beq],rfl⟩;simp only [BI,beq_iff_eq] at h;rw [h]
theorem lW:∀ {lks:List LK} {a b:List AV} {xs ys:List Value},kY lks a=true→kY lks b=true→aX g m S a xs→aX g m S b ys→
  dC lks xs ys=some (GL a b)∧(GL a b=true→xs=ys)∧(∀ n,∀ x ∈ xs,Instr.sameBits n x x=true)∧bG a= []
 | [],[],[],[],[],_,_,_,_=> ⟨rfl,fun _=>rfl,by simp,rfl⟩
 | k::lks,x::a,y::b,u::xs,v::ys,ha,hb,h1,h2=>by
  simp only [kY,η] at ha hb;simp only [aX] at h1 h2;obtain ⟨l,i,e,o⟩:=Qr ha.1 hb.1 h1.1 h2.1;obtain ⟨d,p,j,f⟩:=lW ha.2 hb.2 h1.2 h2.2;refine ⟨by simp [dC,l,d,GL],fun h=> ?_,fun n z c=> ?_,by simp [bG,o,f]⟩
  ·simp only [GL,η] at h;rw [i h.1,p h.2]
  ·rcases List.mem_cons.1 c with rfl|c
   ·exact e n
   ·exact j n z c
 | [],_::_,_,_,_,ha,_,_,_=>by simp [kY] at ha
 |_::_,[],_,_,_,ha,_,_,_=>by simp [kY] at ha
 | [],[],_::_,_,_,_,hb,_,_=>by simp [kY] at hb
 |_::_,_::_,[],_,_,_,hb,_,_=>by simp [kY] at hb
 | [],[],[],_::_,_,_,_,h1,_=>by simp [aX] at h1
 | [],[],[],[],_::_,_,_,_,h2=>by simp [aX] at h2
 |_::_,_::_,_::_,[],_,_,_,h1,_=>by simp [aX] at h1
 |_::_,_::_,_::_,_::_,[],_,_,_,h2=>by simp [aX] at h2
def Yi (P:Program) (n:Nat) (t:TypeId) (lks:List LK):Prop:=
 ∀ (em:Bool) (d:Nat) (w:World) (xs:List Value),n≤d→dC lks xs xs=some true→(Instr.checkKey em d t (sH P t xs)).run P w= .ok () w
theorem rG {lks:List LK} {a:List Value} {r:Bool} (h:dC lks a a=some r):dC lks a a=some true:=by
 induction lks generalizing a r with
 |nil=>cases a<;>simp [dC] at h ⊢
 | cons k lks ih=>
  cases a with
  |nil=>simp [dC] at h
  | cons x a=>
   simp only [dC] at h ⊢;obtain ⟨c,b,h⟩:=bind_some h;rw [Xqb] at h;obtain ⟨d,i,rfl⟩:=h;have e:qF k x x=some true:=by
    cases k<;>cases x<;>simp [qF] at b ⊢
    split at b
    ·rename_i f;simp [f]
    ·cases b
   simp [e,ih i]
theorem oU {n:Nat} (u:∀ t lks,iR P n t=some lks→Yi P n t lks):∀ (fs:List Field) (off:Nat) (lks:List LK),wK P (iR P n) fs off=some lks→
  ∀ (em:Bool) (d:Nat) (w:World) (xs:List Value),n≤d→xs.length=off+lks.length→dC lks (xs.drop off) (xs.drop off)=some true→
   (forIn (m:=Sem) fs PUnit.unit fun f _=>do
    if f.name ≠ "_" then Instr.checkKey em d f.type (← part f.type xs.toArray f.offset)
    pure (ForInStep.yield PUnit.unit)).run P w= .ok PUnit.unit w
 | [],off,lks,hc,em,d,w,xs,hd,hx,h=>by simp
 | f ::fs,off,lks,hc,em,d,w,xs,hd,hx,h=>by
  simp only [wK] at hc;cases j:iR P n f.type with
  |none=>simp [j] at hc
  | some l=>
   simp only [j] at hc;split at hc
   ·rename_i hcond;simp only [η,Xqk] at hcond;obtain ⟨⟨v,q⟩,c⟩:=hcond;cases s:wK P (iR P n) fs (off+l.length) with
    |none=>simp [s] at hc
    | some l'=>
     simp only [s] at hc;cases hc;cases k:P.info? f.type with
     |none=>simp [k] at c
     |some i=>
      simp only [k] at c;have c:=aF c;have q:=aF q;have p:f.name ≠ "_" :=by intro e;rw [e] at v;exact absurd v (by decide)
      simp only [ο] at hx;obtain ⟨a,b,o,r,x⟩:=pR l l' _ _ true h;have o:=rG o;have r:=rG r;have z:=su j k c xs off (by omega) w;have y:=u f.type l j em d w _ hd o;have A:=oU u fs (off+l.length) l' s em d w xs hd (by omega) (by simpa [Xjj,Nat.add_comm] using r);simp only [List.forIn_cons,Sem.run_bind,p,ne_eq,not_false_eq_true,if_true,Result.andThen_ok,q,z,y,Sem.run_pure];simpa using A
   ·cases hc
theorem IE:∀ (n:Nat) (t:TypeId) (lks:List LK),iR P n t=some lks→Yi P n t lks
 |0,_,_,h=>by simp [iR] at h
 | n +1,t,lks,h=>by
  intro e d w b i c;obtain ⟨d,rfl⟩:∃ k,d=k+1:=⟨d - 1,by omega⟩
  have f:=nO _ _ _ _ c;unfold iR at h;cases a:P.underlying t with
  |none=>simp [a] at h
  | some ds=>
   unfold Instr.checkKey;simp only [Sem.run_bind,run_underlying a,Result.andThen_ok,sH,a];cases ds<;>simp only [a] at h<;>try cases h
   case struct fs=>
    split at h
    ·cases h
    ·have:=oU (IE n) fs.toList 0 lks h e d w b (by omega) (by simp [f.1]) (by simpa using c);simp only [← Array.forIn_toList];simpa using this
   all_goals (cases b.headD undef<;>simp)
theorem Cj (c:dF P ap) {t:Nat} {i:TI} (d:ap.tyAt t=some i) {a b:List AV} {e u:List Value} (f:i.cmp=true) (h:kY i.lks a=true) (k:kY i.lks b=true) (o:aX g m S a e) (x:aX g m S b u) (p:∃ v,P.underlying t=some (.struct v)):
  (∀ n,(Instr.checkKey n 10000 t (.agg e.toArray)).run P w= .ok () w)∧(Op.equal t (.agg e.toArray) (.agg u.toArray)).run P w= .ok (GL a b) w:=by
 obtain ⟨v,p⟩:=p;rw [(xG c d).1] at f;rw [(xG c d).2] at h k;unfold Wn at f;cases j:iR P 8 t with
 |none=>simp [j] at f
 |some l=>
  simp only [j,η,Xqk] at f;have s:=CJ f.1;rw [← s] at h k;have q:=Bl 8 t l j 10000 w e u _ (by omega) (lW h k o x).1;have r:=fun n=>IE 8 t l j n 10000 w e (by omega) (rG (lW h h o o).1)
  simp only [sH,p] at q r;exact ⟨r,q⟩
theorem zh {a:TI} {d:TypeDesc} (c:a.d=jg P (some d)) (hs:∀ fs,d ≠ .struct fs) {x:AV} {v:Value} (h:g_ a x=true) (b:VR g m S x v):MapKept.IsKey d v:=by
 unfold g_ at h;rw [c] at h;cases d<;>simp only [jg] at h<;>cases x<;>simp at h<;>simp only [VR,PR] at b<;>first|(exact absurd rfl (hs _))|(subst b;simp only [MapKept.IsKey])
 exact (eY h).symm
theorem RP {f:TI} {d:TypeDesc} (j:f.d=jg P (some d)) (hs:∀ fs,d ≠ .struct fs) {x y:AV} {u v:Value} (e:g_ f x=true) (c:g_ f y=true) (h:VR g m S x u) (i:VR g m S y v):Instr.sameNow d u v=some (BH x y):=by
 unfold g_ at e c;rw [j] at e c;cases d<;>simp only [jg] at e c<;>cases x<;>simp at e<;>cases y<;>simp at c<;>simp only [VR,PR] at h i<;>first|(exact absurd rfl (hs _))|(subst h;subst i;simp only [Instr.sameNow,BH])
 ·rw [if_pos ((eY e).symm.trans (eY c))]
 ·rename_i a b;congr 1;rw [Bool.eq_iff_iff,MapKept.bytes_beq];simp
theorem vN (h:bi ap g m S w) {rd:bP} (k:∀ b B,rd b=some B→g b=some B) {x:AV} {p:Value} (l:VR g m S x p) {q:List AV × List AV} (a:Qu rd x=some q):
  ∃ es:Array MapEntry,((p= .map none∧es=#[])∨∃ b clk,p= .map (some b)∧w.heap[b]? =some (.map es clk))∧aX g m S q.1 (es.toList.map (·.key))∧aX g m S q.2 (es.toList.map (·.val)):=by
 unfold Qu at a;split at a
 ·rename_i ks vs;cases a;simp only [VR,PR] at l;rcases l with ⟨rfl,rfl,rfl⟩|⟨b,t,u,rfl,h0,y,o,r⟩
  ·exact ⟨#[],.inl ⟨rfl,rfl⟩,by simp [aX],by simp [aX]⟩
  ·obtain ⟨es,clk,n,f⟩:=sS (h.sealed _ _ _ h0) rfl;obtain ⟨z,clk',j,c⟩:=sS (h.sealed _ _ _ y) rfl;rw [n] at j;cases j;have f:Value.agg (es.map (·.key))= .agg t.toArray:=Option.some.inj f;have c:Value.agg (es.map (·.val))= .agg u.toArray:=Option.some.inj c;have f:=Value.agg.inj f;have c:=Value.agg.inj c;refine ⟨es,.inr ⟨b,clk,rfl,n⟩, ?_, ?_⟩
   ·rw [← Array.toList_map,f];exact aZ _ o
   ·rw [← Array.toList_map,c];exact aZ _ r
 ·rename_i b ver;have v:=bind_some a;clear a;obtain ⟨B,s,a⟩:=v;split at a
  ·rename_i d;simp only [η] at d;split at a
   ·rename_i ks vs hcells;cases a;simp only [VR] at l;obtain ⟨B',i,_,_,q⟩:=l;rw [k b B s] at i;cases i;have q:=q (aF d.1);obtain ⟨⟨cur,e,us,rest,k1,k2,_,k4,_,_⟩,_,_⟩:=h.blk b B (k b B s);obtain ⟨es,clk,n,rfl⟩:=k1.map (aF d.2);rw [hcells] at k4
    match us,k4 with
    | [u0,u1],k4=>
     simp only [aX,VR,and_true] at k4;obtain ⟨⟨t,rfl,o⟩,u,rfl,r⟩:=k4;simp only [jF,Xqw,List.cons.injEq] at k2;have f:=Value.agg.inj k2.1;have c:=Value.agg.inj k2.2.1;refine ⟨es,.inr ⟨_,clk,q,n⟩, ?_, ?_⟩
     ·rw [← Array.toList_map,f];exact o
     ·rw [← Array.toList_map,c];exact r
    | [],k4=>simp [aX] at k4
    | [_],k4=>simp [aX] at k4
    |_::_::_::_,k4=>simp [aX] at k4
   ·cases a
  ·cases a
 ·cases a
structure VZ (P:Program) (g:bP) (m:aI) (S:aB) (w:World) (t:Nat) (ti:TI) (d:TypeDesc) (k:AV) (ck:Value):Prop where
 chk:∀ em,(Instr.checkKey em 10000 t ck).run P w= .ok () w
 stay:(Instr.keyThatStays ck ck).run P w= .ok ck w
 eqs:∀ {k' ck'},g_ ti k'=true→VR g m S k' ck'→((match d with| .struct _=>(Op.equal t ck ck').run P w= .ok (BH k k') w|_=>Instr.sameNow d ck ck'=some (BH k k'))∧(BH k k'=true→ck=ck'))
theorem x_ (D:dF P ap) {t:Nat} {q:TI} {i:TypeInfo} {d:TypeDesc} {z:Value} (C:ap.tyAt t=some q) (s:v_ P t q i d z) {k:AV} {ck:Value} (v:g_ q k=true) (E:VR g m S k ck):VZ P g m S w t q d k ck:=by
 by_cases hs:∃ o,d= .struct o
 ·obtain ⟨o,rfl⟩:=hs;have U:=s.d_eq;have K:∀ {x:AV},g_ q x=true→∃ l,x= .agg l∧q.cmp=true∧kY q.lks l=true:=by
   intro x j;unfold g_ at j;rw [U] at j;cases x<;>simp [jg] at j
   exact ⟨_,rfl,j⟩
  obtain ⟨l,rfl,J,y⟩:=K v;have W:=E;simp only [VR] at E;obtain ⟨H,rfl,j⟩:=E;refine ⟨(Cj D C J y y j j ⟨o,s.und⟩).1, ?_, ?_⟩
  ·have N:Instr.sameBits 10000 (.agg H.toArray) (.agg H.toArray)=true:=by
    show Instr.sameBits (9999+1) _ _=true;have V:=(lW y y j j).2.2.1 9999;simp only [Instr.sameBits,beq_self_eq_true,Bool.true_and,List.all_eq_true];intro p hp;obtain ⟨a,b⟩:=p;have R:∀ l:List Value,(a,b) ∈ l.zip l→a=b∧a ∈ l:=by
     intro l
     induction l with
     |nil=>intro h;simp at h
     |cons c l ih=>
      intro h;simp only [List.zip_cons_cons,List.mem_cons,Prod.mk.injEq] at h;rcases h with ⟨rfl,rfl⟩|h
      ·exact ⟨rfl,by simp⟩
      ·exact ⟨(ih h).1,List.mem_cons_of_mem _ (ih h).2⟩
    obtain ⟨rfl,hm⟩:=R H hp;exact V a hm
   simp [Instr.keyThatStays,N]
  ·intro O G f n;obtain ⟨Y,rfl,_,A⟩:=K f;simp only [VR] at n;obtain ⟨X,rfl,I⟩:=n;refine ⟨(Cj D C J y A j I ⟨o,s.und⟩).2,fun F=> ?_⟩;rw [(lW y A j I).2.1 F]
 ·have hs:∀ o,d ≠ .struct o:=fun o e=>hs ⟨o,e⟩
  have u:=zh s.d_eq hs v E;refine ⟨fun Q=>MapKept.run_checkKey s.und u Q 9999,MapKept.run_keyThatStays u, ?_⟩;intro O G f n;have L:=RP s.d_eq hs v f E n;have T:=MapKept.sameNow_of_keys u (zh s.d_eq hs f n);refine ⟨?_,fun F=> ?_⟩
  ·cases d<;>first|exact L|exact absurd rfl (hs _)
  ·obtain ⟨r,M,B⟩:=T;rw [L] at M;cases M;exact B.1 F
def jh (P:Program) (w:World) (t:Nat) (d:TypeDesc) (ck:Value) (l:List MapEntry) (i:Nat) (r:Option (Nat × Value)):Prop:=
 match d with
 | .struct _=>(Instr.findAsking t ck l i).run P w= .ok r w
 |_=>Instr.findNow d ck l i=some r
theorem jh.nil {t:Nat} {d:TypeDesc} {ck:Value} {i:Nat}:jh P w t d ck [] i none:=by
 unfold jh;cases d<;>first|rfl|simp [Instr.findAsking]
theorem jh.hit {t:Nat} {c:TI} {d:TypeDesc} {k a:AV} {ck:Value} {e:MapEntry} {l:List MapEntry} {i:Nat} (h:VZ P g m S w t c d k ck) (b:g_ c a=true) (j:VR g m S a e.key) (f:BH k a=true):jh P w t d ck (e::l) i (some (i,e.val)):=by
 have q:=(h.eqs b j).1;rw [f] at q;unfold jh;cases d<;>simp only at q ⊢ <;>first|(simp [Instr.findAsking,q];done)|(simp [Instr.findNow,q];done)
theorem jh.miss {t:Nat} {f:TI} {d:TypeDesc} {k b:AV} {ck:Value} {e:MapEntry} {l:List MapEntry} {i:Nat} {r:Option (Nat × Value)} (h:VZ P g m S w t f d k ck) (c:g_ f b=true) (n:VR g m S b e.key) (j:BH k b=false) (a:jh P w t d ck l (i+1) r):jh P w t d ck (e::l) i r:=by
 have q:=(h.eqs c n).1;rw [j] at q;unfold jh at a ⊢;cases d<;>simp only at q a ⊢ <;>first|(simp [Instr.findAsking,q,a];done)|(simp [Instr.findNow,q,a];done)
theorem jh.run {t:Nat} {c:TI} {i:TypeInfo} {d:TypeDesc} {z:Value} (b:v_ P t c i d z) {ck:Value} {l:List MapEntry} {r:Option (Nat × Value)} (h:jh P w t d ck l 0 r):(Instr.findKey t ck l).run P w= .ok r w:=by
 by_cases hs:∃ a,d= .struct a
 ·obtain ⟨a,rfl⟩:=hs;simp only [jh] at h;cases l with
  |nil=>
   simp [Instr.findAsking] at h;subst h;simp [Instr.findKey,run_underlying b.und,Result.andThen,Instr.findNow]
  |cons e l=>
   simp only [Instr.findKey,Sem.run_bind,run_underlying b.und,Result.andThen_ok,Instr.findNow,Instr.sameNow];exact h
 ·have hs:∀ a,d ≠ .struct a:=fun a e=>hs ⟨a,e⟩
  refine MapKept.run_findKey b.und ?_;unfold jh at h;cases d<;>first|exact h|exact absurd rfl (hs _)
theorem nC {t:Nat} {q:TI} {d:TypeDesc} {k v:AV} {ck cv:Value} (b:VZ P g m S w t q d k ck) (p:VR g m S v cv):∀ (l:List MapEntry) (ks vs:List AV) (i:Nat),aX g m S ks (l.map (·.key))→aX g m S vs (l.map (·.val))→ks.all (g_ q)=true→
  (jh P w t d ck l i none∧iT ks vs k=none∧ks.any (BH k)=false∧nZ ks vs k v=vs++ [v])∨
  ∃ j e x,jh P w t d ck l i (some (i+j,e.val))∧l[j]? =some e∧e.key=ck∧iT ks vs k=some x∧VR g m S x e.val∧ks.any (BH k)=true∧aX g m S (nZ ks vs k v) ((l.set j {e with key:=ck,val:=cv}).map (·.val))
 | [],ks,vs,i,h1,h2,_=>by
  cases ks with
  |cons _ _=>simp [aX] at h1
  |nil=>
   cases vs with
   |cons _ _=>simp [aX] at h2
   |nil=>exact .inl ⟨jh.nil,rfl,rfl,rfl⟩
 | e ::l,ks,vs,i,h1,h2,ha=>by
  cases ks with
  |nil=>simp [aX] at h1
  | cons k0 ks=>
   cases vs with
   |nil=>simp [aX] at h2
   | cons v0 vs=>
    simp only [χ,aX] at h1 h2;simp only [Xx5,η] at ha;cases a:BH k k0 with
    |true=>
     have c:e.key=ck:=((b.eqs ha.1 h1.1).2 a).symm;refine .inr ⟨0,e,v0,jh.hit b ha.1 h1.1 a,rfl,c, ?_,h2.1, ?_, ?_⟩
     ·simp [iT,a]
     ·simp [a]
     ·simp only [nZ,a,List.set_cons_zero,χ,aX];exact ⟨p,h2.2⟩
    | false=>
     rcases nC b p l ks vs (i+1) h1.2 h2.2 ha.2 with ⟨n,h,o,f⟩|⟨j,e',x,n,h,o,f,u,r,s⟩
     ·refine .inl ⟨jh.miss b ha.1 h1.1 a n, ?_, ?_, ?_⟩
      ·simp [iT,a,h]
      ·simp only [Xvn,a,o];rfl
      ·simp [nZ,a,f]
     ·refine .inr ⟨j+1,e',x, ?_,by simpa using h,o, ?_,u, ?_, ?_⟩
      ·rw [show i+(j+1)=i+1+j by omega];exact jh.miss b ha.1 h1.1 a n
      ·simp [iT,a,f]
      ·simp only [Xvn,a,r];rfl
      ·simp only [nZ,a,List.set_cons_succ,χ,aX];exact ⟨h2.1,s⟩
theorem zi {ok:Bool} {o:Option AV} {z:AV} {u c:Value} {b:Bool} (h:(o=none∧u=c∧b=false)∨∃ x,o=some x∧VR g m S x u∧b=true) (e:VR g m S z c):VR g m S (Ob ok o z) (if ok then .tuple #[u,.bool b] else u):=by
 have a:VR g m S (o.getD z) u∧o.isSome=b:=by
  rcases h with ⟨rfl,rfl,rfl⟩|⟨x,rfl,d,rfl⟩
  ·exact ⟨e,rfl⟩
  ·exact ⟨d,rfl⟩
 cases ok with
 |true=>
  simp only [Ob,if_true,VR];refine ⟨[u,.bool b],rfl, ?_⟩;simp only [aX,VR,PR,and_true];exact ⟨a.1,by rw [a.2]⟩
 |false=>simpa [Ob] using a.1
theorem Ey (p:dF P ap) (h:bi ap g m S w) {rd:bP} (F:∀ b B,rd b=some B→g b=some B) {t:Nat} {I:TI} {i:TypeInfo} {d:TypeDesc} {z:Value} (A:v_ P t I i d z) {x k v:AV} {J ck:Value} (L:VR g m S x J) (K:VR g m S k ck) {ok:Bool}
  {ups:List (Nat × aK)} {bs:List Bool} (c:G6 ap I rd x k ok=some (v,ups,bs)) (o:∀ b ∈ bs,b=true):
  ups= []∧∃ cv,(Instr.lookup t J ck ok).run P w= .ok cv w∧VR g m S v cv:=by
 unfold G6 at c;split at c
 ·rename_i kt et C;have n:=bind_some c;clear c;obtain ⟨W,a,c⟩:=n;have n:=bind_some c;clear c;obtain ⟨Z,f,c⟩:=n;have n:=bind_some c;clear c;obtain ⟨q,n,c⟩:=n;have E:=bind_some c;clear c;obtain ⟨Q,H,c⟩:=E;obtain ⟨rfl,rfl,rfl⟩:=aQ c;have G:=a;obtain ⟨X,dk,zk,a⟩:=bW p a;obtain ⟨ie,Y,T,f⟩:=bW p f;rw [A.d_eq] at C;have C:=Ih C;subst C;obtain ⟨M,o⟩:=bT o;obtain ⟨R,_⟩:=bT o;obtain ⟨es,s,O,v2⟩:=vN h F L n;have l:=x_ (w:=w) p G a M K;have u:VR g m S Q T:=vP f H;refine ⟨rfl, ?_⟩;rcases nC l K es.toList q.1 q.2 0 O v2 R with ⟨r,V,_,_⟩|⟨j,e,y,r,_,_,U,N,_,_⟩
  ·refine ⟨_, ?_,zi (.inl ⟨V,rfl,rfl⟩) u⟩;rcases s with ⟨rfl,rfl⟩|⟨b,clk,rfl,D⟩
   ·simp [Instr.lookup,run_underlying A.und,l.chk,r.run a,zeroValue,typeInfo,f.info,f.zero,Result.andThen]
   ·simp [Instr.lookup,run_underlying A.und,MapKept.run_getObj_map D,l.chk,r.run a,zeroValue,typeInfo,f.info,f.zero,Result.andThen]
  ·refine ⟨_, ?_,zi (.inr ⟨y,U,N,rfl⟩) u⟩;rcases s with ⟨rfl,rfl⟩|⟨b,clk,rfl,D⟩
   ·have r:=r.run a;simp [Instr.findKey,run_underlying a.und,Result.andThen,Instr.findNow] at r
   ·simp [Instr.lookup,run_underlying A.und,MapKept.run_getObj_map D,l.chk,r.run a,Result.andThen]
 ·cases c
mutual
theorem Nb {S:aB}:∀ (x:AV) {v:Value},PR S x v→cZ x= []
 | .int _ _,_,_=>rfl
 | .bool _,_,_=>rfl
 | .str _,_,_=>rfl
 | .nilS,_,_=>rfl
 | .nilP,_,_=>rfl
 | .raw _,_,_=>rfl
 | .nilF,_,_=>rfl
 | .nilI,_,_=>rfl
 | .sl _ _ _,_,_=>rfl
 | .pp _ _,_,_=>rfl
 | .mp _ _,_,_=>rfl
 | .dead,_,_=>rfl
 | .own _ _ _,_,p=>by simp only [PR] at p
 | .ref _ _ _ _,_,p=>by simp only [PR] at p
 | .ptr _ _ _,_,p=>by simp only [PR] at p
 | .mr _ _,_,p=>by simp only [PR] at p
 | .agg l,_,p=>by
  simp only [PR] at p;simp only [cZ];obtain ⟨_,_,q⟩:=p;exact oD l q
 | .tup l,_,p=>by
  simp only [PR] at p;simp only [cZ];obtain ⟨_,_,q⟩:=p;exact oD l q
 | .fn f a c,_,p=>by
  simp only [PR] at p;simp only [cZ];obtain ⟨_,_,_,q,r⟩:=p;rw [oD a q,oD c r];rfl
 | .ifc t x,_,p=>by
  simp only [PR] at p;simp only [cZ];obtain ⟨_,_,q⟩:=p;exact Nb x q
theorem oD {S:aB}:∀ (l:List AV) {vs:List Value},bu S l vs→bG l= []
 | [],_,_=>rfl
 |x::r,v::vs,p=>by simp only [bu] at p;simp only [bG,Nb x p.1,oD r p.2,υ]
 |_::_,[],p=>by simp [bu] at p
end
theorem FC (h:bi ap g m S w) {b:Nat} {B:aK} {a:Array MapEntry} {clk':Nat} {k:Nat} {w':World} (p:w'.heap[k]? =some (.map a clk')) (l:B.esz=dP) {ks vs:List AV} (f:B.cells= [.agg ks,.agg vs]) (n:aX g m S ks (a.toList.map (·.key))) (o:aX g m S vs (a.toList.map (·.val))) (hp:B.pr=true→bG vs= []∧bG ks= []) (d:B.fro=false→B.fz=0) (i:B.fz≤2) (c:Nat):PW g m S w' B k c:=by
 refine ⟨⟨jF a,0,[.agg (a.map (·.key)),.agg (a.map (·.val))],[],.inr ⟨l,a,clk',p,rfl⟩,rfl, ?_, ?_,fun e=>absurd l e,fun _ e=>absurd l e⟩,d,by rw [f];exact i⟩
 ·intro j;obtain ⟨q,r⟩:=hp j;rw [f];simp only [bu,PR,and_true];exact ⟨⟨(a.map (·.key)).toList,by rw [Array.toArray_toList],by rw [Array.toList_map];exact dX _ n r⟩,(a.map (·.val)).toList,by rw [Array.toArray_toList],by rw [Array.toList_map];exact dX _ o q⟩
 ·rw [f];simp only [aX,VR,and_true];exact ⟨⟨(a.map (·.key)).toList,by rw [Array.toArray_toList],by rw [Array.toList_map];exact n⟩,(a.map (·.val)).toList,by rw [Array.toArray_toList],by rw [Array.toList_map];exact o⟩
theorem Ez (h:bi ap g m S w) {nid:Nat} (d:g nid=none) (t:Nat):
  ∃ cv m' w',(Instr.makeMap t none).run P w= .ok cv w'∧bi ap (bM g [(nid,⟨[.agg [],.agg []],0,false,0,dP,true⟩)]) m' S w'∧Fr g m S w (bM g [(nid,⟨[.agg [],.agg []],0,false,0,dP,true⟩)]) m' S w'∧VR (bM g [(nid,⟨[.agg [],.agg []],0,false,0,dP,true⟩)]) m' S (.mr nid 0) cv:=by
 have a:=h.put nid ⟨[.agg [],.agg []],0,false,0,dP,true⟩ w.heap.size 0 (w':=w.alloc (.map #[] 0)) (.inl (ε _)) (World.grownBy_alloc w _ _)
  (FC h (b:=nid) (heap_alloc_new w _) rfl rfl (by simp [aX]) (by simp [aX]) (fun _=> ⟨rfl,rfl⟩) (fun _=>rfl) (Xqp _) 0)
  (fun B0 h0=>by rw [d] at h0;cases h0) (fun o v c=>absurd (h.seal_lt c) (Xjg _))
 refine ⟨.map (some w.heap.size),_,_, ?_,a.1,a.2, ?_⟩
 ·simp [Instr.makeMap,Result.andThen]
 ·simp only [VR];exact ⟨_,kC _ _ _,ε _,⟨_,rfl⟩,fun _=>by simp [setM]⟩
theorem Ci:∀ (lks:List LK) (l:List AV),kY lks l=true→bG l= []
 | [],[],_=>rfl
 |k::lks,x::l,h=>by
  simp only [kY,η] at h;have a:cZ x= []:=by cases k<;>cases x<;>first|rfl|(have:=h.1;simp [Fg] at this)
  simp only [bG,a,Ci lks l h.2,υ]
 | [],_::_,h=>by simp [kY] at h
 |_::_,[],h=>by simp [kY] at h
theorem yE:∀ (l:List AV) (ti:TI),l.all (g_ ti)=true→bG l= []
 | [],_,_=>rfl
 | x::r,ti,h=>by
  simp only [Xx5,η] at h;have b:cZ x= []:=by
   have a:=h.1;unfold g_ at a;split at a<;>first|rfl|(cases a;done)|skip
   simp only [η] at a;simp only [cZ];exact Ci _ _ a.2
  simp only [bG,b,yE r ti h.2,υ]
theorem DC:∀ (ks vs:List AV) (k v:AV),bG vs= []→cZ v= []→bG (nZ ks vs k v)= []
 | [],_,k,v,_,h2=>by simp [nZ,bG,h2]
 |_::_,[],k,v,_,h2=>by simp [nZ,bG,h2]
 |k0::ks,v0::vs,k,v,h1,h2=>by
  simp only [bG,Xjc] at h1;simp only [nZ];split
  ·simp [bG,h1.2,h2]
  ·simp [bG,h1.1,DC ks vs k v h1.2 h2]
theorem uY (N:dF P ap) (h:bi ap g m S w) {rd:bP} (M:∀ b B,rd b=some B→g b=some B) {t:Nat} {ti:TI} {i:TypeInfo} {d:TypeDesc} {z:Value} (W:v_ P t ti i d z) {x k v r:AV} {cx ck cv:Value} (U:VR g m S x cx) (hk:VR g m S k ck) (hv:VR g m S v cv)
  {ups:List (Nat × aK)} {bs:List Bool} (f:Aw ap ti rd x k v=some (r,ups,bs)) (J:∀ b ∈ bs,b=true):
  r= .dead∧∃ E w',(Instr.mapUpdate t cx ck cv).run P w= .ok () w'∧bi ap (bM g ups) E S w'∧Fr g m S w (bM g ups) E S w':=by
 unfold Aw at f;split at f
 ·rename_i kt et b ver R;have Z:=bind_some f;clear f;obtain ⟨tk,l,f⟩:=Z;have Z:=bind_some f;clear f;obtain ⟨B,hB,f⟩:=Z;split at f
  ·rename_i s;simp only [η,Xqk] at s;split at f
   ·rename_i ks vs hcells;cases f;have X:=l;obtain ⟨ik,dk,zk,l⟩:=bW N l;rw [W.d_eq] at R;have R:=Ih R;subst R;obtain ⟨b1,J⟩:=bT J;obtain ⟨b2,_⟩:=bT J;have c:=M b B hB;have hz:=aF s.1.2;have hmc:Qu rd (.mr b ver)=some (ks,vs):=by
     unfold Qu;simp only [hB,Option.bind_some,s.1.1,s.1.2,Bool.and_self,hcells]
    obtain ⟨es,hes,V,v2⟩:=vN h M U hmc;have F:=x_ (w:=w) N X l b1 hk;simp only [VR] at U;obtain ⟨B',L,_,_,q⟩:=U;rw [c] at L;cases L;have q:=q (aF s.1.1);subst q;rcases hes with ⟨e,_⟩|⟨b0,clk,e,K⟩
    ·cases e
    cases e;have hlt:(m b).1<w.heap.size:=h.lt c;obtain ⟨_,k7,k8⟩:=h.blk b B c;have key:∀ (a:Array MapEntry) (clk':Nat),(uH es clk→uH a clk')→aX g m S (yC ks k) (a.toList.map (·.key))→aX g m S (nZ ks vs k v) (a.toList.map (·.val))→
      ∃ E,bi ap (bM g [(b,{B with cells:= [.agg (yC ks k),.agg (nZ ks vs k v)],pr:=B.pr && (cZ v).isEmpty})]) E S {w with heap:=w.heap.setIfInBounds (m b).1 (.map a clk')}∧Fr g m S w (bM g [(b,{B with cells:= [.agg (yC ks k),.agg (nZ ks vs k v)],pr:=B.pr && (cZ v).isEmpty})]) E S {w with heap:=w.heap.setIfInBounds (m b).1 (.map a clk')}:=by
     intro a clk' Y w1 w2;have G:=h.put (hmw:=MW.setM K Y) b {B with cells:= [.agg (yC ks k),.agg (nZ ks vs k v)],pr:=B.pr && (cZ v).isEmpty} (m b).1 (m b).2 (w':={w with heap:=w.heap.setIfInBounds (m b).1 (.map a clk')})
      (.inr ⟨B,c,rfl⟩) ⟨rfl,rfl,rfl,by simp,fun k' _ hk'=>by simp [show (m b).1 ≠ k' from fun e=>hk' (by rw [e])]⟩
      (FC h (b:=b) (B:={B with cells:= [.agg (yC ks k),.agg (nZ ks vs k v)],pr:=B.pr && (cZ v).isEmpty}) (w':={w with heap:=w.heap.setIfInBounds (m b).1 (.map a clk')}) (k:=(m b).1) (clk':=clk') (by simp [hlt]) hz rfl w1 w2 (fun D=>by
       have D:(B.pr && (cZ v).isEmpty)=true:=D;simp only [η] at D;obtain ⟨⟨cur,e,us,rest,k1,k2,k3,k4,_,_⟩,_,_⟩:=h.blk b B c;have hr:bG B.cells= []:=oD _ (k3 D.1);rw [hcells] at hr;simp only [bG,cZ,υ,Xjc] at hr;refine ⟨DC _ _ _ _ hr.2 (sZ D.2), ?_⟩;have O:=yE ks _ b2;unfold yC;split
       ·exact O
       ·rw [qj,O];exact yE [k] tk (by simp [b1])) k7 (by rw [hcells] at k8;exact k8) (m b).2)
      (fun B0 h0=>by rw [c] at h0;cases h0;exact ⟨rfl,.inl ⟨rfl,rfl⟩⟩)
      (fun o u hu=>by
       have:=(h.own b B c o u hu).1;rw [s.2] at this;cases this)
     exact ⟨_,G.1,G.2⟩
    refine ⟨rfl, ?_⟩;rcases nC F hv es.toList ks vs 0 V v2 b2 with ⟨T,r2,r3,r4⟩|⟨j,e,y,T,Q,rk,r4,r5,r6,r7⟩
    ·obtain ⟨E,s1,s2⟩:=key (es.push {key:=ck,val:=cv,born:=clk}) (clk+1) (uH.push ck cv)
      (by unfold yC;rw [r3,Array.toList_push,Xxc];exact fM V (by simp only [χ,Xjd,aX,and_true];exact hk))
      (by rw [r4,Array.toList_push,Xxc];exact fM v2 (by simp only [χ,Xjd,aX,and_true];exact hv))
     refine ⟨E,_, ?_,s1,s2⟩;simp [Instr.mapUpdate,run_underlying W.und,MapKept.run_getObj_map K,F.chk,T.run l,MapKept.run_setObj_map _ K,Result.andThen]
    ·have p:es[j]? =some e:=by simpa using Q
     have H:(es.modify j fun e=> {e with key:=ck,val:=cv}).toList=es.toList.set j {e with key:=ck,val:=cv}:=by
      apply Xxx;intro n;simp only [Array.getElem?_toList,Array.getElem?_modify,Xxv];by_cases hjn:j=n
      ·subst hjn;have A:j<es.toList.length:=(List.getElem?_eq_some_iff.1 Q).1;rw [if_pos rfl,if_pos rfl,if_pos A,p];rfl
      ·rw [if_neg hjn,if_neg hjn]
     obtain ⟨E,s1,s2⟩:=key (es.modify j fun e=> {e with key:=ck,val:=cv}) clk
      (uH.same (by
       rw [H];apply Xxx;intro n;simp only [Ψ,Xxv];by_cases hjn:j=n
       ·subst hjn;have A:j<es.toList.length:=(List.getElem?_eq_some_iff.1 Q).1;have C:j<es.size:=by simpa using A
        have I:es[j]=e:=by rw [Array.getElem?_eq_getElem C] at p;exact Option.some.inj p
        simp [C,I]
       ·simp [hjn]))
      (by
       unfold yC;rw [r6,H];have:(es.toList.set j {e with key:=ck,val:=cv}).map (·.key)=es.toList.map (·.key):=by
        apply Xxx;intro n;simp only [Ψ,Xxv];by_cases hjn:j=n
        ·subst hjn;have A:j<es.toList.length:=(List.getElem?_eq_some_iff.1 Q).1;have C:j<es.size:=by simpa using A
         have I:es[j]=e:=by rw [Array.getElem?_eq_getElem C] at p;exact Option.some.inj p
         simp [C,I,rk]
        ·simp [hjn]
       rw [this];exact V)
      (by rw [H];exact r7)
     refine ⟨E,_, ?_,s1,s2⟩;rw [Φ] at T;simp [Instr.mapUpdate,run_underlying W.und,MapKept.run_getObj_map K,F.chk,T.run l,p,rk,F.stay,MapKept.run_setObj_map _ K,Result.andThen]
   ·cases f
  ·cases f
 ·cases f
end
end AM
namespace AM
open Go
section
variable {P:Program} {ap:AP} {g:bP} {m:aI} {S:aB} {w:World}
theorem sK {ρ:Operand→AV} {cρ:Operand→Value}:∀ (l:List Operand),(∀ o ∈ l,VR g m S (ρ o) (cρ o))→aX g m S (l.map ρ) (l.map cρ)
 | [],_=>by simp [aX]
 |o::r,h=>by simp only [χ,aX];exact ⟨h o (by simp),sK r fun o a=>h o (by simp [a])⟩
theorem AC {ρ:Operand→AV} {cρ:Operand→Value}:∀ (l:List (Nat × Operand)),(∀ o ∈ l.map (·.2),VR g m S (ρ o) (cρ o))→wu g m S (l.map fun (i,x)=>(i,ρ x)) (l.map fun (i,x)=>(i,cρ x))
 | [],_=>by simp [wu]
 |(i,o)::r,h=>by simp only [χ,wu];exact ⟨trivial,h o (by simp),AC r fun o a=>h o (by simp [a])⟩
def fQ (P:Program) (ap:AP) (g:bP) (m:aI) (S:aB) (w:World) (s:Sem Next) (v:AV) (ups:List (Nat × aK)):Prop:=
 ∃ nx m' w',s.run P w= .ok nx w'∧bi ap (bM g ups) m' S w'∧Fr g m S w (bM g ups) m' S w'∧((∃ cv,nx= .value cv∧VR (bM g ups) m' S v cv)∨(nx= .skip∧v= .dead))
theorem fQ.pur (h:bi ap g m S w) {s:Sem Value} {v:AV} {ups:List (Nat × aK)} (hs:ups= []∧∃ cv,s.run P w= .ok cv w∧VR g m S v cv):fQ P ap g m S w (do pure (.value (← s))) v ups:=by
 obtain ⟨rfl,cv,a,b⟩:=hs;exact ⟨.value cv,m,w,by simp [a],by rw [dL];exact h,by rw [dL];exact Fr.refl _ _ _ _,.inl ⟨cv,rfl,by rw [dL];exact b⟩⟩
theorem fQ.full {s:Sem Value} {v:AV} {ups:List (Nat × aK)} (hs:∃ cv a w',s.run P w= .ok cv w'∧bi ap (bM g ups) a S w'∧Fr g m S w (bM g ups) a S w'∧VR (bM g ups) a S v cv):fQ P ap g m S w (do pure (.value (← s))) v ups:=by
 obtain ⟨cv,a,w',d,e,c,b⟩:=hs;exact ⟨.value cv,a,w',by simp [d],e,c,.inl ⟨cv,rfl,b⟩⟩
theorem fQ.val (h:bi ap g m S w) {s:Sem Next} {v:AV} {cv:Value} (hs:s.run P w= .ok (.value cv) w) (a:VR g m S v cv):fQ P ap g m S w s v []:=
 ⟨.value cv,m,w,hs,by rw [dL];exact h,by rw [dL];exact Fr.refl _ _ _ _,.inl ⟨cv,rfl,by rw [dL];exact a⟩⟩
theorem AA {ρ:Operand→AV} {cρ:Operand→Value} (x:Option Operand) (h:∀ o ∈ x.toArray,VR g m S (ρ o) (cρ o)):Az g m S (x.map ρ) (x.map cρ):=by
 cases x with
 |none=>simp [Az]
 |some o=>simp only [Xqr,Az];exact h o (by simp)
theorem IK (a:dF P ap) {t:Nat} {b:TI} (h:ap.tyAt t=some b) (e:b.d ≠ .iface):P.concrete t=true:=by
 obtain ⟨i,d,z,c⟩:=bW a h;have:=c.d_eq;simp only [Program.concrete,c.und];cases d<;>simp_all [jg]
set_option maxHeartbeats 1000000 in
theorem QC (A:dF P ap) (F:bi ap g m S w) {nid:Nat} (hn:g nid=none) {ρ:Operand→AV} {cρ:Operand→Value} {rd:bP} (K:∀ b B,rd b=some B→g b=some B) (o:Oper) (hρ:∀ x ∈ o.op.operands,VR g m S (ρ x) (cρ x))
  {dec:Operand→Option Bool} (hdec:∀ x ∈ o.op.operands,∀ b,dec x=some b→cρ x= .bool b) {em:Bool} (hem:∀ n,wM ρ o.op=some n→Δ n 0=em)
  {v:AV} {ups:List (Nat × aK)} {bs:List Bool} (h:opA ap nid ρ rd dec em o.op=some (v,ups,bs)) (hbs:∀ b ∈ bs,b=true):fQ P ap g m S w (execOp cρ o) v ups:=by
 unfold opA at h;unfold execOp;split at h<;>rename_i heq<;>simp only [heq,Op.operands] at hρ hdec hem ⊢
 ·obtain ⟨rfl,rfl,rfl⟩:=aQ h;exact fQ.val F (by simp) (hρ _ (by simp))
 ·obtain ⟨rfl,rfl,rfl⟩:=aQ h;exact fQ.val F (by simp) (hρ _ (by simp))
 ·
  rename_i c a b;split at h
  ·rename_i I;obtain ⟨rfl,rfl,rfl⟩:=aQ h;have:=hdec c (by simp) _ I;exact fQ.val F (by simp [this,asBool]) (hρ _ (by simp))
  ·rename_i I;obtain ⟨rfl,rfl,rfl⟩:=aQ h;have:=hdec c (by simp) _ I;exact fQ.val F (by simp [this,asBool]) (hρ _ (by simp))
  ·split at h
   ·rename_i bc ba bb e1 e2 e3;obtain ⟨rfl,rfl,rfl⟩:=aQ h;have G:=hρ c (by simp);have H:=hρ a (by simp);have T:=hρ b (by simp);rw [e1] at G;rw [e2] at H;rw [e3] at T;simp only [VR,PR] at G H T;refine fQ.val F (cv:= .bool (cond bc ba bb)) ?_ (by simp only [VR,PR]);rw [G,H,T];cases bc<;>simp [asBool]
   ·cases h
 ·
  rename_i e;have j:=bind_some h;clear h;obtain ⟨te,L,h⟩:=j;obtain ⟨ie,de,ze,D⟩:=bW A L;split at h
  ·rename_i hok;simp only [η] at hok;cases h;obtain ⟨N,w',G,H,T,h4⟩:=ES (P:=P) F hn (cells:=te.zero) (cv:=ze) (oH D) D.zleaf (fun u hu=>wB (g:=g) (m:=m) (S:=S) (oH D) D.zleaf u (by simpa using hu)) e;refine fQ.full ⟨.pointer (some ⟨w.heap.size,0,none⟩),N,w', ?_,H,T,OI h4⟩;simp [Instr.alloc,zeroValue,typeInfo,D.info,D.zero,G]
  ·cases h
 ·
  rename_i e x;have j:=bind_some h;clear h;obtain ⟨te,L,h⟩:=j;obtain ⟨ie,de,ze,D⟩:=bW A L;simp only at h;split at h
  ·rename_i hok;cases h;have E:=hρ x (by simp);have hl:∀ y ∈ (ρ x).cells,lu y=true:=fun y hy=>List.all_eq_true.1 hok y hy
   obtain ⟨hv1,hv2⟩:=A7 E hl;obtain ⟨N,w',G,H,T,h4⟩:=ES (P:=P) F hn (cells:=(ρ x).cells) (cv:=cρ x) hv1 hl hv2 e;refine fQ.full ⟨.pointer (some ⟨w.heap.size,0,none⟩),N,w', ?_,H,T,OI h4⟩;simp [Instr.box,G]
  ·cases h
 ·
  rename_i t parts;have j:=bind_some h;clear h;obtain ⟨O,C,h⟩:=j;obtain ⟨i,d,z,D⟩:=bW A C;refine fQ.pur F ?_;refine Gl A D (qs:=parts.map fun (i,x)=>(i,cρ x)) ?_ h;rw [Array.toList_map];exact AC parts.toList fun x E=>hρ x (by simpa using E)
 ·
  rename_i t len parts;have j:=bind_some h;clear h;obtain ⟨O,C,h⟩:=j;obtain ⟨i,d,z,D⟩:=bW A C;refine fQ.full ?_;refine wF A F hn D (qs:=parts.map fun (i,x)=>(i,cρ x)) ?_ h;rw [Array.toList_map];exact AC parts.toList fun x E=>hρ x (by simpa using E)
 ·
  rename_i t a;have j:=bind_some h;clear h;obtain ⟨O,C,h⟩:=j;obtain ⟨i,d,z,D⟩:=bW A C;exact fQ.pur F (zn F K D (hρ a (by simp)) h hbs)
 ·
  rename_i t a x;have j:=bind_some h;clear h;obtain ⟨O,C,h⟩:=j;obtain ⟨i,d,z,D⟩:=bW A C;have ha:=hρ a (by simp);have E:=hρ x (by simp);generalize cρ a=ca at ha ⊢;generalize cρ x=cx at E ⊢;obtain ⟨rfl,N,w',G,H,T⟩:=Ig F K D ha E h hbs;exact ⟨.skip,N,w',by simp [G],H,T,.inr ⟨rfl,rfl⟩⟩
 ·
  rename_i t r;split at h
  ·cases h;obtain ⟨cv,N,w',G,H,T,h4⟩:=Ez (P:=P) F hn t;exact ⟨.value cv,N,w',by simp [G],H,T,.inl ⟨cv,rfl,h4⟩⟩
  ·cases h
 ·
  rename_i t x k ok;have j:=bind_some h;clear h;obtain ⟨O,C,h⟩:=j;obtain ⟨i,d,z,D⟩:=bW A C;exact fQ.pur F (Ey A F K D (hρ x (by simp)) (hρ k (by simp)) h hbs)
 ·
  rename_i t x k v;have j:=bind_some h;clear h;obtain ⟨O,C,h⟩:=j;obtain ⟨i,d,z,D⟩:=bW A C;obtain ⟨rfl,N,w',G,H,T⟩:=uY A F K D (hρ x (by simp)) (hρ k (by simp)) (hρ v (by simp)) h hbs;exact ⟨.skip,N,w',by simp [G],H,T,.inr ⟨rfl,rfl⟩⟩
 ·
  rename_i t x k v;have j:=bind_some h;clear h;obtain ⟨O,C,h⟩:=j;obtain ⟨i,d,z,D⟩:=bW A C;obtain ⟨rfl,N,w',G,H,T⟩:=uY A F K D (hρ x (by simp)) (hρ k (by simp)) (hρ v (by simp)) h hbs;exact ⟨.skip,N,w',by simp [G],H,T,.inr ⟨rfl,rfl⟩⟩
 ·
  rename_i x;have E:=hρ x (by simp);split at h
  ·rename_i b ver off e;rw [e] at E;obtain ⟨rfl,rfl,rfl⟩:=aQ h;have J:=E;simp only [VR] at J;obtain ⟨_,_,_,⟨k,o,V⟩,_⟩:=J;exact fQ.val F (cv:=cρ x) (by rw [V];simp) E
  ·rename_i xs off e;rw [e] at E;obtain ⟨rfl,rfl,rfl⟩:=aQ h;have J:=E;simp only [VR,PR] at J;obtain ⟨_,_,_,V,_⟩:=J;exact fQ.val F (cv:=cρ x) (by rw [V];simp) E
  ·rename_i f a c e;rw [e] at E;obtain ⟨rfl,rfl,rfl⟩:=aQ h;have J:=E;simp only [VR] at J;obtain ⟨_,_,V,_⟩:=J;exact fQ.val F (cv:=cρ x) (by rw [V];simp) E
  ·rename_i ty vv e;rw [e] at E;obtain ⟨rfl,rfl,rfl⟩:=aQ h;have J:=E;simp only [VR] at J;obtain ⟨u,V,_⟩:=J;exact fQ.val F (cv:=cρ x) (by rw [V];simp) E
  ·cases h
 ·
  rename_i op t x y _;have j:=bind_some h;clear h;obtain ⟨O,C,h⟩:=j;exact fQ.pur F (KR A C (hρ x (by simp)) (hρ y (by simp)) h hbs x y)
 ·
  exact fQ.pur F (QS (hρ _ (by simp)) h)
 ·
  rename_i s d x;have j:=bind_some h;clear h;obtain ⟨ts,hts,h⟩:=j;have j:=bind_some h;clear h;obtain ⟨td,htd,h⟩:=j;exact fQ.pur F (BC A F K hts htd (hρ x (by simp)) h hbs)
 ·
  rename_i t x;have j:=bind_some h;clear h;obtain ⟨O,C,h⟩:=j;split at h
  ·cases h
  ·rename_i I;obtain ⟨rfl,rfl,rfl⟩:=aQ h;refine fQ.pur F ⟨rfl,.iface t (cρ x),run_makeInterface w t _ (IK A C I), ?_⟩;simp only [VR];exact ⟨_,rfl,hρ x (by simp)⟩
 ·
  rename_i f first cap
  obtain ⟨rfl,rfl,rfl⟩:=aQ h;refine fQ.pur F ⟨rfl,.func (.func f) (first.map cρ) (cap.map cρ),by simp [Instr.makeFunc], ?_⟩;simp only [VR];refine ⟨(first.map cρ).toList,(cap.map cρ).toList,by rw [Array.toArray_toList,Array.toArray_toList], ?_, ?_⟩
  ·rw [Array.toList_map];exact sK _ fun x E=>hρ x (by simp at E ⊢;exact .inl E)
  ·rw [Array.toList_map];exact sK _ fun x E=>hρ x (by simp at E ⊢;exact .inr E)
 ·
  rename_i t l c;have j:=bind_some h;clear h;obtain ⟨O,C,h⟩:=j;obtain ⟨i,d,z,D⟩:=bW A C;exact fQ.full (yt A F hn D (hρ l (by simp)) (hρ c (by simp)) h hbs)
 ·
  rename_i t x lo hi mx;have j:=bind_some h;clear h;obtain ⟨O,C,h⟩:=j;obtain ⟨i,d,z,D⟩:=bW A C;exact fQ.pur F (H9 A K D (hρ x (by simp)) (AA lo fun o X=>hρ o (by simp at X;simp [X])) (AA hi fun o X=>hρ o (by simp at X;simp [X])) (AA mx fun o X=>hρ o (by simp at X;simp [X])) h hbs)
 ·
  rename_i s x f;have j:=bind_some h;clear h;obtain ⟨O,C,h⟩:=j;obtain ⟨i,d,z,D⟩:=bW A C;split at h
  ·rename_i fs I;have j:=bind_some h;clear h;obtain ⟨⟨o,ft,sz⟩,hf,h⟩:=j;simp only at h;split at h
   ·rename_i hsz;have j:=bind_some h;clear h;obtain ⟨p,hp,h⟩:=j;obtain ⟨rfl,rfl,rfl⟩:=aQ h;exact fQ.pur F ⟨rfl,zX D I hf hsz (hρ x (by simp)) hp⟩
   ·cases h
  ·cases h
 ·
  rename_i t x f;have j:=bind_some h;clear h;obtain ⟨O,C,h⟩:=j;obtain ⟨i,d,z,D⟩:=bW A C;exact fQ.pur F (GM A D (hρ x (by simp)) h hbs)
 ·
  rename_i t x ix;have j:=bind_some h;clear h;obtain ⟨O,C,h⟩:=j;obtain ⟨i,d,z,D⟩:=bW A C;exact fQ.pur F (xX A K D (hρ x (by simp)) (hρ ix (by simp)) h hbs)
 ·
  rename_i t x ix;have j:=bind_some h;clear h;obtain ⟨O,C,h⟩:=j;obtain ⟨i,d,z,D⟩:=bW A C;exact fQ.pur F (GV A D (hρ x (by simp)) (hρ ix (by simp)) h hbs)
 ·
  exact fQ.pur F (Ep A (hρ _ (by simp)) h _)
 ·
  rename_i t i;have D:=hρ t (by simp);split at h
  ·rename_i l e;rw [e] at D;have j:=bind_some h;clear h;obtain ⟨x,E,h⟩:=j;obtain ⟨rfl,rfl,rfl⟩:=aQ h;simp only [VR] at D;obtain ⟨vs,V,hl⟩:=D;obtain ⟨cv,G,H⟩:=pq hl i E;refine fQ.pur F ⟨rfl,cv, ?_,H⟩;rw [V];simp [Instr.extract,G]
  ·cases h
 ·
  rename_i b args U;simp only [Call.operands] at hρ;have hargs:∀ x ∈ args,VR g m S (ρ x) (cρ x):=fun x E=>hρ x (by simp [E])
  split at h
  ·have j:=bind_some h;clear h;obtain ⟨x,E,h⟩:=j;have j:=bind_some h;clear h;obtain ⟨t,R,h⟩:=j;have j:=bind_some h;clear h;obtain ⟨O,C,h⟩:=j;obtain ⟨i,d,z,D⟩:=bW A C;split at h
   ·rename_i kt et I;have j:=bind_some h;clear h;obtain ⟨q,hqc,h⟩:=j;obtain ⟨rfl,rfl,rfl⟩:=aQ h;rw [D.d_eq] at I;have I:=Ih I;subst I;obtain ⟨es,he,hk,_⟩:=vN F K (hargs x (Array.mem_of_getElem? E)) hqc;have Z:es.size=q.1.length:=by
     have:=aY hk;simpa using this.symm
    refine fQ.val F (cv:= .int .i64 q.1.length) ?_ (by simp only [VR,PR]);rcases he with ⟨G,H⟩|⟨b,clk,G,H⟩
    ·subst H;simp [resolve,invoke,builtin,Builtin.len_,R,E,run_underlying D.und,G,goInt,← Z]
    ·simp [resolve,invoke,builtin,Builtin.len_,R,E,run_underlying D.und,G,goInt,MapKept.run_getObj_map H,← Z,Result.andThen]
   ·rename_i d hnm;obtain ⟨hu,cv,G,H⟩:=LM (P:=P) (w:=w) (hargs x (Array.mem_of_getElem? E)) D h U R (args.map cρ) (by simp [E]) o.type;subst hu;exact fQ.val F (cv:=cv) (by simp [resolve,invoke,builtin,G]) H
  ·split at h
   ·rename_i s x t t1 ha R;have hargs':args=#[s,x]:=by apply Array.ext';simpa using ha
    have hats':U=#[t,t1]:=by apply Array.ext';simpa using R
    subst hargs';subst hats';have j:=bind_some h;clear h;obtain ⟨O,C,h⟩:=j;have j:=bind_some h;clear h;obtain ⟨ti1,hti1,h⟩:=j;obtain ⟨i,d,z,D⟩:=bW A C;obtain ⟨i1,d1,z1,W⟩:=bW A hti1;have hs:=hargs s (by simp);have E:=hargs x (by simp);have Y:ρ s= .nilS→∃ n,vF (ρ x)=some n∧Δ n 0=em:=by
     intro e;cases hc:vF (ρ x) with
     | none=>
      exfalso;split at h
      ·rename_i J;rw [J] at hc;simp [vF] at hc
      ·cases h
      ·rename_i y hy1 _ hy2 hy3;have j:=bind_some h;clear h;obtain ⟨te,L,h⟩:=j;unfold wC at h;have j:=bind_some h;clear h;obtain ⟨⟨xs,n,pr⟩,hsrc,h⟩:=j;cases hxx:ρ x<;>simp [hxx,vF] at hc<;>simp [hxx,Kr] at hsrc
      ·cases h
     |some n=>exact ⟨n,rfl,hem n (by simp [wM,e,hc])⟩
    split at h
    ·rename_i e y I M hy;have j:=bind_some h;clear h;obtain ⟨te,L,h⟩:=j;obtain ⟨ie,de,ze,Q⟩:=bW A L;split at h
     ·rename_i G;rw [D.d_eq] at I;rw [W.d_eq] at M;have I:=fD I;have M:=vX M;subst I;subst M;obtain ⟨cv,N,w',r1,r2,r3,r4⟩:=uI (P:=P) F K hn D Q hs E (tx:=t1) (.inl ⟨⟨y,hy⟩,W.und,aF G⟩) Y (by rw [hy];exact h) hbs o.type;exact ⟨.value cv,N,w',by simp [resolve,invoke,builtin,r1],r2,r3,.inl ⟨cv,rfl,r4⟩⟩
     ·cases h
    ·cases h
    ·rename_i e e1 I M hns;have j:=bind_some h;clear h;obtain ⟨te,L,h⟩:=j;obtain ⟨ie,de,ze,Q⟩:=bW A L;rw [D.d_eq] at I;rw [W.d_eq] at M;have I:=fD I;have M:=fD M;subst I;subst M;obtain ⟨cv,N,w',r1,r2,r3,r4⟩:=uI (P:=P) F K hn D Q hs E (tx:=t1) (.inr ⟨fun s e=>hns s e,_,W.und⟩) Y h hbs o.type;exact ⟨.value cv,N,w',by simp [resolve,invoke,builtin,r1],r2,r3,.inl ⟨cv,rfl,r4⟩⟩
    ·cases h
   ·cases h
  ·
   have j:=bind_some h;clear h;obtain ⟨x,E,h⟩:=j;have j:=bind_some h;clear h;obtain ⟨t,R,h⟩:=j;have j:=bind_some h;clear h;obtain ⟨O,C,h⟩:=j;obtain ⟨i,d,z,D⟩:=bW A C;split at h
   ·rename_i e I;have j:=bind_some h;clear h;obtain ⟨te,L,h⟩:=j;obtain ⟨ie,de,ze,Q⟩:=bW A L;rw [D.d_eq] at I;have I:=fD I;subst I;obtain ⟨N,w',r1,r2,r3,rfl⟩:=Gw (P:=P) F K D Q (hargs x (Array.mem_of_getElem? E)) h hbs U R (args.map cρ) (by simp [E]) o.type;exact ⟨.value (.tuple #[]),N,w',by simp [resolve,invoke,builtin,r1],r2,r3,.inl ⟨_,rfl,by simp only [VR];exact ⟨[],rfl,by simp only [aX]⟩⟩⟩
   ·cases h
  ·have j:=bind_some h;clear h;obtain ⟨r,hr,h⟩:=j;obtain ⟨rfl,rfl,rfl⟩:=aQ h;obtain ⟨cv,G,H⟩:=Qw (P:=P) (w:=w) (sK args.toList fun x E=>hargs x (Array.mem_toList_iff.1 E)) hr U o.type;refine fQ.val F (cv:=cv) ?_ H;have:(Xv9 cρ args.toList).toArray=args.map cρ:=by apply Array.ext';rw [Xxw,Array.toList_map]
   rw [this] at G;simp [resolve,invoke,builtin,G]
  ·have j:=bind_some h;clear h;obtain ⟨r,hr,h⟩:=j;obtain ⟨rfl,rfl,rfl⟩:=aQ h;obtain ⟨cv,G,H⟩:=Qv (P:=P) (w:=w) (sK args.toList fun x E=>hargs x (Array.mem_toList_iff.1 E)) hr U o.type;refine fQ.val F (cv:=cv) ?_ H;have:(Xv9 cρ args.toList).toArray=args.map cρ:=by apply Array.ext';rw [Xxw,Array.toList_map]
   rw [this] at G;simp [resolve,invoke,builtin,G]
  ·cases h
 ·cases h
end
end AM
namespace AM
open Go
structure Cx.Ok (c:Cx):Prop where
 bs:∀ b ∈ c.bs,b=true
 ps:∀ p ∈ c.ps,p
theorem R.bind_ok {α β:Type} {r:R α} {f:α→Cx→R β} {b:β} {c:Cx} (h:r.bind f= .ok b c):∃ a c1,r= .ok a c1∧f a c1= .ok b c:=by
 cases r with
 |ok a c1=>exact ⟨a,c1,rfl,h⟩
 |need=>simp [R.bind] at h
 |bad n=>simp [R.bind] at h
theorem GI {c c':Cx} {bs:List Bool} {u:Unit} (h:WA c bs= .ok u c') (d:c'.Ok):c.Ok∧∀ b ∈ bs,b=true:=by
 unfold WA at h;split at h
 ·split at h
  ·rename_i a;cases h;exact ⟨d,fun b e=>by simpa using List.all_eq_true.1 a b e⟩
  ·cases h
 ·cases h;exact ⟨⟨fun b a=>d.bs b (by simp [a]),d.ps⟩,fun b a=>d.bs b (by simp [a])⟩
theorem jV {c c':Cx} {b d:Bool} (h:xK c b= .ok d c') (a:c'.Ok):c.Ok∧d=b:=by
 unfold xK at h;split at h
 ·cases h;exact ⟨a,rfl⟩
 ·split at h
  ·cases h
  ·rename_i o r _;cases h;have f:=a.bs (lit d b) (by simp);refine ⟨⟨fun x e=>a.bs x (by simp [e]),a.ps⟩, ?_⟩;cases d<;>cases b<;>simp [lit] at f ⊢
theorem gp {l:List Nat} {a:Nat}:lw l a=true↔a ∈ l:=by
 simp only [lw,List.any_eq_true];constructor
 ·rintro ⟨x,hx,h⟩;exact aF h ▸ hx
 ·intro h;exact ⟨a,h,Nat.beq_refl a⟩
theorem fA {α β:Type} {f:α→Option β}:∀ {l:List α} {l':List β},f_ f l=some l'→l'.length=l.length∧∀ (i:Nat) x,l[i]? =some x→∃ y,l'[i]? =some y∧f x=some y
 | [],l',h=>by simp [f_] at h;subst h;simp
 | a::r,l',h=>by
  simp only [f_] at h;split at h
  ·rename_i y c;split at h
   ·rename_i q d;cases h;obtain ⟨e,j⟩:=fA d;refine ⟨by simp [e], ?_⟩;intro i x b;cases i with
    |zero=>simp at b;subst b;exact ⟨y,by simp,c⟩
    |succ i=>simpa using j i x (by simpa using b)
   ·cases h
  ·cases h
section
variable {P:Program} {ap:AP} {g:bP} {m:aI} {S:aB} {w:World}
noncomputable def bY (S:aB) (m:aI) (rd:bP) (w:World):aB:=fun k o=>
 match S k o with
 |some v=>some v
 |none=>open Classical in if ∃ b B,rd b=some B∧(m b).1=k∧o<B.cells.length then bZ w k o else none
theorem j_ (S:aB) (m:aI) (rd:bP) (w:World):gZ S (bY S m rd w):=by
 intro k o v h;simp [bY,h]
theorem eP {rd:bP} {k o:Nat} {v:Value} (h:bY S m rd w k o=some v):S k o=some v∨(bZ w k o=some v∧∃ b B,rd b=some B∧(m b).1=k∧o<B.cells.length):=by
 unfold bY at h;split at h
 ·rename_i e a;cases h;exact .inl a
 ·rename_i d;split at h
  ·rename_i c;exact .inr ⟨h,c⟩
  ·cases h
theorem kP (a:bi ap g m S w) {rd:bP} {k o:Nat} {v:Value} (h:bY S m rd w k o=some v):bZ w k o=some v:=by
 rcases eP h with h|h
 ·exact a.sealed _ _ _ h
 ·exact h.1
theorem QL (f:bi ap g m S w) {rd:bP} {b:Nat} {B:aK} (c:rd b=some B) {o:Nat} (e:o<B.cells.length) {v:Value} (a:bZ w (m b).1 o=some v):bY S m rd w (m b).1 o=some v:=by
 unfold bY;split
 ·rename_i h d;have:=f.sealed _ _ _ d;rw [a] at this;cases this;rfl
 ·rw [if_pos ⟨b,B,c,rfl,e⟩];exact a
theorem DX (k:bi ap g m S w) {rd:bP} (d:∀ b B,rd b=some B→g b=some B) {b:Nat} {B:aK} (h:rd b=some B):
  ∃ vs,aX g m S B.cells vs∧(B.pr=true→bu S B.cells vs)∧(∀ j u,vs[j]? =some u→bY S m rd w (m b).1 j=some u)∧vs.length=B.cells.length∧(B.esz ≠ dP→∀ u ∈ vs,u.oneCell'=true):=by
 obtain ⟨⟨cur,e,vs,rest,n,p,l,c,i,q⟩,_,_⟩:=k.blk b B (d b B h);refine ⟨vs,c,l, ?_,(aY c).symm,i⟩;intro j u f;have a:=(List.getElem?_eq_some_iff.1 f).1;refine QL k h (by rw [aY c];exact a) ?_;exact n.get (by rw [p,Xqa a];exact f) (fun o=>i o u (Γ f))
theorem xB (n:bi ap g m S w) {rd:bP} (a:∀ b B,rd b=some B→g b=some B) {b:Nat} {B:aK} (d:rd b=some B) (i:B.esz ≠ dP):
  ∃ vs,aX g m S B.cells vs∧(B.pr=true→bu S B.cells vs)∧iq (bY S m rd w) (m b).1 0 vs∧vs.length=B.cells.length:=by
 obtain ⟨vs,h,l,f,e,k⟩:=DX n a d;refine ⟨vs,h,l,fun j u c=> ?_,e⟩;rw [Φ];exact ⟨f j u c,k i u (Γ c)⟩
theorem FD {S':aB} {l:List AV} {y:AV} {vs:List Value} {k:Nat} (h:Xk l=some y) (a:bu S' l vs) (hs:∀ j u,vs[j]? =some u→S' k j=some u):PR S' y (.map (some k)):=by
 unfold Xk at h;split at h
 ·rename_i ks f;cases h
  match vs,a with
  | [v0,v1],a=>
   simp only [bu,PR,and_true] at a;obtain ⟨⟨e,rfl,d⟩,b,rfl,c⟩:=a;simp only [PR];exact .inr ⟨k,e,b,rfl,hs 0 _ rfl,hs 1 _ rfl,d,c⟩
  | [],a=>simp [bu] at a
  | [_],a=>simp [bu] at a
  |_::_::_::_,a=>simp [bu] at a
 ·cases h
theorem qV {S':aB} {f:AV→Option AV} (a:∀ x v y,f x=some y→VR g m S x v→PR S' y v):∀ {l l':List AV} {vs:List Value},f_ f l=some l'→aX g m S l vs→bu S' l' vs
 | [],l',[],h,_=>by simp [f_] at h;subst h;simp [bu]
 | x::r,l',v::vs,h,hv=>by
  simp only [f_] at h;simp only [aX] at hv;split at h
  ·rename_i y b;split at h
   ·rename_i q c;cases h;simp only [bu];exact ⟨a x v y b hv.1,qV a c hv.2⟩
   ·cases h
  ·cases h
 | [],_,_::_,_,h=>by simp [aX] at h
 |_::_,_,[],_,h=>by simp [aX] at h
theorem jr (K:bi ap g m S w) {rd:bP} (t:∀ b B,rd b=some B→g b=some B):∀ (k:Nat) (x:AV) (v:Value) (y:AV),frz rd k x=some y→VR g m S x v→PR (bY S m rd w) y v:=by
 intro k
 induction k with
 |zero=>intro x v y h;simp [frz] at h
 | succ k ih=>
  intro x v y h f;have C:=j_ S m rd w;have hlist:∀ {l l':List AV} {vs:List Value},f_ (frz rd k) l=some l'→aX g m S l vs→bu (bY S m rd w) l' vs:=fun H G=>qV (fun x v y O f=>ih x v y O f) H G
  unfold frz at h;simp only at h;split at h
  ·
   rename_i b ver i n;have D:=bind_some h;clear h;obtain ⟨B,E,h⟩:=D;split at h
   ·rename_i d;simp only [VR] at f;obtain ⟨B',p,_,_,q⟩:=f;rw [t b B E] at p;cases p;obtain ⟨o,rfl,L,Q,M,F⟩:=q (aF d);obtain ⟨vs,H,G,I,N⟩:=xB K t E F;have hpart:iq (bY S m rd w) (m b).1 o ((vs.drop (i*B.esz)).take (n*B.esz)):=by
     by_cases hi:i<(m b).2
     ·rw [Q hi];have:=(I.drop (i*B.esz)).take (n*B.esz);rwa [Φ] at this
     ·have Z:n=0:=by omega
      subst Z;intro j u hj;simp at hj
    have s:∀ l,bu (bY S m rd w) l ((vs.drop (i*B.esz)).take (n*B.esz))→PR (bY S m rd w) (.sl l n true) (.slice (some ⟨(m b).1,o,none⟩) n ((m b).2 - i)):=by
     intro l z;simp only [PR];exact ⟨_,_,rfl,by omega,.inr ⟨_,_,_,rfl,z,hpart⟩⟩
    split at h
    ·rename_i A;cases h;exact s _ (jB _ (oz _ (a_ C _ (G A))))
    ·simp only [Xqb] at h;obtain ⟨l,z,rfl⟩:=h;exact s _ (hlist z (oG _ (qW _ H)))
   ·cases h
  ·
   rename_i b ver J;have D:=bind_some h;clear h;obtain ⟨B,E,h⟩:=D;split at h
   ·rename_i d;simp only [η,Xqk] at d;have F:B.esz ≠ dP:=fun e=>by rw [e] at d;exact absurd d.2 (by decide)
    simp only [VR] at f;obtain ⟨B',p,_,_,q⟩:=f;rw [t b B E] at p;cases p;have q:=q (aF d.1);subst q;obtain ⟨vs,H,G,I,N⟩:=xB K t E F;have s:∀ l,bu (bY S m rd w) l vs→PR (bY S m rd w) (.pp l J) (.pointer (some ⟨(m b).1,J,none⟩)):=by
     intro l z;simp only [PR];exact ⟨_,0,_,by rw [Φ],z,I⟩
    split at h
    ·rename_i A;cases h;exact s _ (a_ C _ (G A))
    ·simp only [Xqb] at h;obtain ⟨l,z,rfl⟩:=h;exact s _ (hlist z H)
   ·cases h
  ·
   rename_i b ver;have D:=bind_some h;clear h;obtain ⟨B,E,h⟩:=D;split at h
   ·rename_i d;simp only [η] at d;simp only [VR] at f;obtain ⟨B',p,_,_,q⟩:=f;rw [t b B E] at p;cases p;have q:=q (aF d.1);subst q;obtain ⟨vs,H,G,I,N,_⟩:=DX K t E;split at h
    ·rename_i A;exact FD h (a_ C _ (G A)) I
    ·have D:=bind_some h;clear h;obtain ⟨l,z,h⟩:=D;exact FD h (hlist z H) I
   ·cases h
  ·simp only [Xqb] at h;obtain ⟨l,z,rfl⟩:=h;simp only [VR] at f;obtain ⟨vs,e,q⟩:=f;simp only [PR];exact ⟨vs,e,hlist z q⟩
  ·simp only [Xqb] at h;obtain ⟨l,z,rfl⟩:=h;simp only [VR] at f;obtain ⟨vs,e,q⟩:=f;simp only [PR];exact ⟨vs,e,hlist z q⟩
  ·have D:=bind_some h;clear h;obtain ⟨a,ha,h⟩:=D;simp only [Xqb] at h;obtain ⟨c,T,rfl⟩:=h;simp only [VR] at f;obtain ⟨va,R,e,q,r⟩:=f;simp only [PR];exact ⟨va,R,e,hlist ha q,hlist T r⟩
  ·simp only [Xqb] at h;obtain ⟨u,X,rfl⟩:=h;simp only [VR] at f;obtain ⟨Y,e,q⟩:=f;simp only [PR];exact ⟨Y,e,ih _ _ _ X q⟩
  ·cases h
  ·rename_i n1 n2 W n3 V U n6 n7;cases h;refine bK C _ ?_;cases x<;>first
    |exact absurd rfl (n1 _ _ _ _)
    |exact absurd rfl (n2 _ _ _)
    |exact absurd rfl (W _ _)
    |exact absurd rfl (n3 _)
    |exact absurd rfl (V _)
    |exact absurd rfl (U _ _ _)
    |exact absurd rfl (n6 _ _)
    |exact absurd rfl (n7 _ _ _)
    |(simp only [VR] at f;exact f)
    |(simp only [PR])
end
end AM
