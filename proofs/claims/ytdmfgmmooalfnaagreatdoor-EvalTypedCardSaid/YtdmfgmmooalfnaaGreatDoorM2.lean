/- The abstract machine over the code of the model, and the proof that it is sound. No conditions. -/
import Derived.Test.YtdmfgmmooalfnaaGreatDoorM1
import Derived.Laws.BytesString
import Derived.Laws.MakeOwn
import Derived.Laws.OwnMore
set_option linter.unusedSimpArgs false
set_option linter.unusedVariables false
open List renaming foldl_cons→Xjt,length_take→Xxa,nil_append→Xqi,drop_drop→Xjs,map_cons→Xqb,getElem?_map→Xq6,getElem?_take→Xj7,getElem?_append_left→Xxb,mem_of_mem_drop→Xj9,mem_of_mem_take→Xxz,all_cons→Xj3,cons_append→Xxd,append_eq_nil_iff→Xj0,take_append_of_le_length→Xxn,append_assoc→τ,toList_toArray→Xve,size_toArray→Xzr,length_append→η,length_drop→Xxk,replicate_succ→Xxh,append_nil→Γ,any_cons→Xv0,map_append→Xxx,map_nil→Xxt,ext_getElem?→Xj1,getElem?_set→Xzp,map→Xw6,mem_of_getElem?→Xqt
open Bool renaming and_eq_true→ο,not_eq_true'→Xqw
open Nat renaming add_zero→Xq8,beq→Xqn,le_refl→Δ,zero_le→Xx1,zero_add→Xqd,add_mul→Xxw,lt_irrefl→Xvx
open Option renaming map_some→Xjn,map_eq_some_iff→Xqr
open UInt8 renaming ofNat→Xqo
namespace AM
open Go
section
variable {P:Program} {ap:AP} {g:dJ} {m:bf} {S:aZ} {w:World}
theorem Ej {x:AV} {v:Value} (h:VR g m S x v) (e:∀ y ∈ x.cells,oW y=true):bF g m S x.cells v.cells.toList∧∀ u ∈ v.cells,u.oneCell'=true:=by
 cases x
 case agg l=>
  simp only [VR] at h;obtain ⟨vs,rfl,h⟩:=h;refine ⟨by simpa [Value.cells,AV.cells] using h, ?_⟩;intro u d;simp only [Value.cells] at d;simp only [AV.cells] at e;have:∀ (l:List AV) (vs:List Value),bF g m S l vs→(∀ y ∈ l,oW y=true)→∀ u ∈ vs,u.oneCell'=true:=by
   intro l
   induction l with
   |nil=>intro vs f _ u d;cases vs<;>simp [bF] at f d
   | cons a r ih=>
    intro vs f e u d;cases vs with
    |nil=>simp [bF] at f
    |cons b q=>
     simp only [bF] at f;rcases List.mem_cons.1 d with rfl|d
     ·exact Om f.1 (e a (by simp))
     ·exact ih q f.2 (fun y j=>e y (by simp [j])) u d
  exact this l vs h e u (by simpa using d)
 all_goals
  have c:=Om h (e _ (by simp [AV.cells]));have i:v.cells=#[v]:=by cases v<;>simp [Value.cells,Value.oneCell'] at c ⊢
  rw [i];refine ⟨by simp only [AV.cells,bF];exact ⟨h,trivial⟩,by simpa using c⟩
theorem Iw:∀ (vs:List Value) (i a:Nat) (b:Array Value),a+i+vs.length≤b.size→
  ((vs.zipIdx i).foldl (fun (b:Array Value) (p:Value × Nat)=>b.setIfInBounds (a+p.2) p.1) b).toList=b.toList.take (a+i)++vs++b.toList.drop (a+i+vs.length)
 | [],i,a,b,_=>by simp
 | v::vs,i,a,b,h=>by
  simp only [List.length_cons] at h;simp only [List.zipIdx_cons,Xjt];rw [Iw vs (i+1) a (b.setIfInBounds (a+i) v) (by simp;omega)];have c:a+i<b.toList.length:=by simp;omega
  simp only [Array.toList_setIfInBounds];rw [show a+(i+1)=a+i+1 from by omega,List.set_eq_take_append_cons_drop,if_pos c];have f:(b.toList.take (a+i)++v::b.toList.drop (a+i+1)).take (a+i+1)=b.toList.take (a+i)++ [v]:=by
   rw [List.take_append];have d:a+i+1 - (b.toList.take (a+i)).length=1:=by simp [Xxa];omega
   rw [d];simp [List.take_take]
  have e:(b.toList.take (a+i)++v::b.toList.drop (a+i+1)).drop (a+i+1+vs.length)=b.toList.drop (a+i+(v::vs).length):=by
   rw [List.drop_append];have:(b.toList.take (a+i)).length=a+i:=by simp [Xxa];omega
   rw [this,List.drop_eq_nil_of_le (by rw [this];omega),Xqi,show a+i+1+vs.length - (a+i)=vs.length+1 from by omega,List.drop_succ_cons,Xjs];congr 1;simp;omega
  rw [f,e];simp
theorem Qv {xs vs:List AV} {b c:List Value} {a:Nat} (h:bF g m S xs b) (d:bF g m S vs c):bF g m S (iR xs a vs) (b.take a++c++b.drop (a+c.length)):=by
 unfold iR;rw [← bZ d];exact iC (iC (rE _ h) d) (uT _ h)
theorem ZZ {xs vs:List AV} {b c:List Value} {a:Nat} (h:eG S xs b) (d:eG S vs c):eG S (iR xs a vs) (b.take a++c++b.drop (a+c.length)):=by
 unfold iR;rw [← xH d];exact oK (oK (kN _ h) d) (rq _ h)
def oM (g:dJ) (m:bf) (S:aZ) (place:Nat→Option (Nat × Nat)):List (Nat × Nat × AV)→List (Nat × Value)→Prop
 | [],[]=>True
 |(off,size,v)::r,(i,c)::q=>place i=some (off,size)∧VR g m S v c∧oM g m S place r q
 |_,_=>False
theorem qx {place:Nat→Option (Nat × Nat)}:∀ (ps:List (Nat × Nat × AV)) (qs:List (Nat × Value)) (cells cells':List AV) (cs:Array Value),oM g m S place ps qs→bF g m S cells cs.toList→xx cells ps=some cells'→
  ∃ a,Instr.fill place cs qs=some a∧bF g m S cells' a.toList∧a.size=cs.size
 | [],[],cells,cells',cs,_,hv,h=>by simp [xx] at h;subst h;exact ⟨cs,rfl,hv,rfl⟩
 | (off,size,v)::r,(i,c)::q,cells,cells',cs,hp,hv,h=>by
  simp only [oM] at hp;simp only [xx] at h;split at h
  ·rename_i j;simp only [ο] at j;obtain ⟨⟨k,l⟩,A⟩:=j;obtain ⟨o,B⟩:=Ej hp.2.1 (fun y u=>List.all_eq_true.1 A y u);have x:=bZ o;have d:=bZ hv;have k:=aU k;have l:=gB l;have t:c.cells.size=size:=by simp only [Array.length_toList] at x;omega
   have b:off+c.cells.size≤cs.size:=by simp only [Array.length_toList] at d;omega
   have n:=Iw c.cells.toList 0 off cs (by simpa using b);have f:bF g m S (iR cells off v.cells) ((c.cells.zipIdx.foldl (fun (cs:Array Value) (p:Value × Nat)=>cs.setIfInBounds (off+p.2) p.1) cs)).toList:=by
    rw [← Array.foldl_toList,Array.toList_zipIdx,n];simp only [Xq8];exact Qv hv o
   obtain ⟨a,e,z,s⟩:=qx r q _ cells' _ hp.2.2 f h;refine ⟨a, ?_,z, ?_⟩
   ·simp only [Instr.fill,hp.1];rw [if_neg (by simp;omega)];exact e
   ·rw [s,← Array.length_toList,← Array.foldl_toList,Array.toList_zipIdx,n];simp;omega
  ·cases h
 | [],_::_,_,_,_,hp,_,_=>by simp [oM] at hp
 |_::_,[],_,_,_,hp,_,_=>by simp [oM] at hp
theorem rF {t:Nat} {a:TI} {i:TypeInfo} {d:TypeDesc} {z:Value} (b:Dx P t a i d z):bF g m S a.zero z.cells.toList:=by
 rw [b.zcells];exact b_ _ (xm S _)
def yH (g:dJ) (m:bf) (S:aZ):List (Nat × AV)→List (Nat × Value)→Prop
 | [],[]=>True
 |(i,v)::r,(j,c)::q=>i=j∧VR g m S v c∧yH g m S r q
 |_,_=>False
theorem uk {size:Nat}:∀ {ps:List (Nat × AV)} {qs:List (Nat × Value)},yH g m S ps qs→oM g m S (fun i=>some (i*size,size)) (ps.map fun (i,v)=>(i*size,size,v)) qs
 | [],[],_=>by simp [oM]
 |(i,v)::r,(j,c)::q,h=>by
  simp only [yH] at h;obtain ⟨rfl,a,b⟩:=h;simp only [Xqb,oM];exact ⟨trivial,a,uk b⟩
 | [],_::_,h=>by simp [yH] at h
 |_::_,[],h=>by simp [yH] at h
theorem CG {b:List (Nat × Nat × Nat)} {place:Nat→Option (Nat × Nat)} (hp:∀ i x,b[i]? =some x→place i=some (x.1,x.2.2)):∀ {ps:List (Nat × AV)} {qs:List (Nat × Value)} {rs:List (Nat × Nat × AV)},yH g m S ps qs→
  kK (fun (q:Nat × AV)=>(b[q.1]?).map fun (x:Nat × Nat × Nat)=>(x.1,x.2.2,q.2)) ps=some rs→oM g m S place rs qs
 | [],[],rs,_,h=>by simp [kK] at h;subst h;simp [oM]
 | (i,v)::r,(j,c)::q,rs,hn,h=>by
  simp only [yH] at hn;obtain ⟨rfl,f,d⟩:=hn;simp only [kK] at h;cases a:b[i]? with
  |none=>simp [a] at h
  | some x=>
   simp only [a,Xjn] at h;split at h
   ·rename_i l e;cases h;simp only [oM];exact ⟨hp i x a,f,CG hp d e⟩
   ·cases h
 | [],_::_,_,h,_=>by simp [yH] at h
 |_::_,[],_,h,_=>by simp [yH] at h
theorem CE:∀ (fields:List Field),(∀ f ∈ fields,(P.info? f.type).isSome)→fields.mapM (fun f=>(P.info? f.type).map fun i=>(f.offset,i.size))=some (fields.map fun f=>(f.offset,match P.info? f.type with|some i=>i.size|none=>0))
 | [],_=>rfl
 | f::r,h=>by
  cases a:P.info? f.type with
  |none=>have:=h f (by simp);simp [a] at this
  |some i=>
   simp [List.mapM_cons,a,CE r (fun f b=>h f (by simp [b]))]
theorem Ji (p:iU P ap) {t:Nat} {l:TI} {i:TypeInfo} {d:TypeDesc} {z:Value} (b:Dx P t l i d z) {ps:List (Nat × AV)} {qs:Array (Nat × Value)} (B:yH g m S ps qs.toList) {v:AV} {ups:List (Nat × bg)} {bs:List Bool}
  (h:OB ap l ps=some (v,ups,bs)):ups= []∧∃ cv,(Instr.build t qs).run P w= .ok cv w∧VR g m S v cv:=by
 unfold OB at h;split at h
 ·rename_i I hd;have k:=bind_some h;clear h;obtain ⟨E,s,h⟩:=k;have k:=bind_some h;clear h;obtain ⟨y,j,h⟩:=k;obtain ⟨rfl,rfl,rfl⟩:=aX h;rw [b.d_eq] at hd;obtain ⟨fields,rfl,rfl⟩:=wS hd;by_cases hall:∀ f ∈ fields.toList,(P.info? f.type).isSome
  ·have u:=CE fields.toList hall;have r:=CG (place:=((fields.toList.map fun f=>(f.offset,match P.info? f.type with|some i=>i.size|none=>0)).toArray[·]?)) (by
    intro i x C;simp only [Xq6,Xqr] at C;obtain ⟨f,o,rfl⟩:=C;simp [o];rfl) B s
   obtain ⟨a,A,q,_⟩:=qx E qs.toList l.zero y z.cells r (rF b) j;refine ⟨rfl,.agg a,run_build w t qs a ?_, ?_⟩
   ·simp only [Program.built,b.info,b.und,b.zero];rw [u];exact A
   ·simp only [VR];exact ⟨a.toList,by simp,q⟩
  ·exfalso;apply hall;intro f o;have:=b.fld;simp only [XI] at this;exact List.all_eq_true.1 this f o
 ·rename_i n e hd;have k:=bind_some h;clear h;obtain ⟨D,c,h⟩:=k;have k:=bind_some h;clear h;obtain ⟨y,j,h⟩:=k;obtain ⟨rfl,rfl,rfl⟩:=aX h;obtain ⟨F,G,H,c⟩:=dZ p c;rw [b.d_eq] at hd;have hd:=Ad hd;subst hd;obtain ⟨a,A,q,_⟩:=qx _ qs.toList l.zero y z.cells (uk (size:=D.size) B) (rF b) j;refine ⟨rfl,.agg a,run_build w t qs a ?_, ?_⟩
  ·simp only [Program.built,b.info,b.und,b.zero,c.info];rw [← c.size];exact A
  ·simp only [VR];exact ⟨a.toList,by simp,q⟩
 ·cases h
end
end AM
namespace AM
open Go
section
variable {P:Program} {ap:AP} {g:dJ} {m:bf} {S:aZ} {w:World}
theorem yf {t:Nat} {k:TI} {i:TypeInfo} {d:TypeDesc} {z:Value} (f:Dx P t k i d z) {v:AV} (h:sF k k.zero=some v):VR g m S v z:=by
 have e:=rF (g:=g) (m:=m) (S:=S) f;have b:=f.zagg;unfold sF at h;rw [f.d_eq,Gw] at h;unfold ahC at b;rw [f.zero] at b;split at h
 ·rename_i a;cases h;cases d<;>simp [TypeDesc.isRow] at a<;>cases z<;>simp at b
  all_goals
   simp only [VR];exact ⟨_,rfl,by simpa [Value.cells] using e⟩
 ·rename_i a;split at h
  ·rename_i c l;cases h;have j:z.cells=#[z]:=by
    cases z<;>first|rfl|skip
    cases d<;>simp [TypeDesc.isRow] at a b
   rw [l,j] at e;simp only [bF] at e;exact e.1
  ·cases h
theorem Hg (r:iU P ap) {x v:AV} {C:Value} (o:VR g m S x C) {asserted:Nat} {ok:Bool} {ups:List (Nat × bg)} {bs:List Bool} (h:Jg ap x asserted ok=some (v,ups,bs)) (A:Nat):
  ups= []∧∃ cv,(Instr.typeAssert C A asserted ok).run P w= .ok cv w∧VR g m S v cv:=by
 unfold Jg at h;have n:=bind_some h;clear h;obtain ⟨F,s,h⟩:=n;obtain ⟨i,d,z,j⟩:=dZ r s;have a:∀ B,d ≠ .interface B:=by
  intro B e;subst e;rw [j.d_eq] at h;simp [jZ] at h
 have key:∀ (c:Value),(∃ t u,c= .iface t u∧t ≠ asserted)∨c= .nilIface→∀ l,VR g m S l z→ok=true→(Instr.typeAssert c A asserted ok).run P w= .ok (.tuple #[z,.bool false]) w:=by
  intro c E l _ p;subst p;rcases E with ⟨t,u,rfl,k⟩|rfl
  ·cases d<;>first|exact absurd rfl (a _)|simp [Instr.typeAssert,run_underlying j.und,k,zeroValue,typeInfo,j.info,j.zero]
  ·cases d<;>first|exact absurd rfl (a _)|simp [Instr.typeAssert,run_underlying j.und,zeroValue,typeInfo,j.info,j.zero]
 split at h
 ·cases h
 ·split at h
  ·rename_i t u;simp only [VR] at o;obtain ⟨y,rfl,D⟩:=o;split at h
   ·rename_i f;have f:=aU f;subst f;obtain ⟨rfl,rfl,rfl⟩:=aX h;cases ok
    ·refine ⟨rfl,y, ?_,D⟩;cases d<;>first|exact absurd rfl (a _)|simp [Instr.typeAssert,run_underlying j.und]
    ·refine ⟨rfl,.tuple #[y,.bool true], ?_, ?_⟩
     ·cases d<;>first|exact absurd rfl (a _)|simp [Instr.typeAssert,run_underlying j.und]
     ·simp only [VR];exact ⟨[y,.bool true],rfl,by simp only [bF,VR,PR];exact ⟨D,trivial,trivial⟩⟩
   ·rename_i f;have k:t ≠ asserted:=by intro e;subst e;simp at f
    cases ok
    ·cases h
    ·simp only at h;have n:=bind_some h;clear h;obtain ⟨l,q,h⟩:=n;obtain ⟨rfl,rfl,rfl⟩:=aX h;have b:=yf (g:=g) (m:=m) (S:=S) j q;refine ⟨rfl,_,key _ (.inl ⟨_,_,rfl,k⟩) l b rfl, ?_⟩;simp only [VR];exact ⟨[z,.bool false],rfl,by simp only [bF,VR,PR];exact ⟨b,trivial,trivial⟩⟩
  ·simp only [VR,PR] at o;subst o;cases ok
   ·cases h
   ·simp only at h;have n:=bind_some h;clear h;obtain ⟨l,q,h⟩:=n;obtain ⟨rfl,rfl,rfl⟩:=aX h;have b:=yf (g:=g) (m:=m) (S:=S) j q;refine ⟨rfl,_,key _ (.inr rfl) l b rfl, ?_⟩;simp only [VR];exact ⟨[z,.bool false],rfl,by simp only [bF,VR,PR];exact ⟨b,trivial,trivial⟩⟩
  ·cases h
theorem uA (K:bY ap g m S w) {rd:dJ} (C:∀ b B,rd b=some B→g b=some B) {size:Nat} {x:AV} {Q:Value} (i:VR g m S x Q) {xs:List AV} {n:Nat} {pr:Bool} (h:NL size rd x=some (xs,n,pr)) (M:xs.length=n*size)
  {tx:Nat} (hk:((∃ s,x= .str s)∧P.underlying tx=some .string∧size=1)∨((∀ s,x ≠ .str s)∧∃ e,P.underlying tx=some (.slice e))):
  ∃ news,Src P size tx Q n news w∧bF g m S xs news∧(pr=true→eG S xs news):=by
 unfold NL at h;split at h
 ·rename_i R Y nn;cases h;obtain ⟨_,e,d⟩:=hk.resolve_left (by rintro ⟨⟨s,hs⟩,_⟩;cases hs);simp only [VR,PR] at i;obtain ⟨a,E,rfl,T,q⟩:=i;rcases q with ⟨rfl,_,rfl,rfl,rfl⟩|⟨b,o,vs,rfl,hp,hs⟩
  ·exact ⟨[],Src.ofNil w d 0,by simp [bF],fun _=>by simp [eG]⟩
  ·refine ⟨vs,Src.ofSlice w d ⟨b,o,none⟩ n E vs (by rw [← xH hp,M]) (fun j u c=>by rw [Addr.add_mid];exact K.one (hs j u c).1 (hs j u c).2) ?_,b_ _ hp,fun _=>hp⟩;intro u J;obtain ⟨j,c⟩:=List.getElem?_of_mem J;exact (hs j u c).2
 ·cases h;obtain ⟨_,e,d⟩:=hk.resolve_left (by rintro ⟨⟨s,hs⟩,_⟩;cases hs);simp only [VR,PR] at i;subst i;exact ⟨[],Src.ofNil w d 0,by simp [bF],fun _=>by simp [eG]⟩
 ·rename_i s;cases h;obtain ⟨_,d,I⟩:=hk.resolve_right (by rintro ⟨hs,_⟩;exact hs s rfl);simp only [VR,PR] at i;subst i;subst I;have hp:∀ s:List UInt8,eG S (s.map fun b=>AV.int .u8 b.toNat) (s.map fun b=>Value.int .u8 b.toNat):=by
   intro s
   induction s with
   |nil=>simp [eG]
   |cons a r ih=>simp only [Xqb,eG,PR];exact ⟨trivial,ih⟩
  have f:=Src.ofString (P:=P) w d ⟨s.toArray⟩;have W:byteCells ⟨s.toArray⟩=s.map fun b=>Value.int .u8 b.toNat:=by simp [byteCells]
  rw [W,Ac] at f;exact ⟨_,f,b_ _ (hp s),fun _=>hp s⟩
 ·rename_i b ver j Y;have X:=bind_some h;clear h;obtain ⟨B,U,h⟩:=X;split at h
  ·rename_i p;cases h;simp only [ο,Xqw] at p;obtain ⟨p,l⟩:=p;have v:B.esz ≠ iP:=fun e=>by rw [e] at l;exact absurd l (by decide)
   obtain ⟨_,e,d⟩:=hk.resolve_left (by rintro ⟨⟨s,hs⟩,_⟩;cases hs);simp only [VR] at i;obtain ⟨B',t,_,_,q⟩:=i;have y:=C b B U;rw [y] at t;cases t;obtain ⟨o,rfl,q1,V,q3⟩:=q (aU p.1);have D:=aU p.2;obtain ⟨cur,e',vs,rest,k,A,hp,G,H,O⟩:=(K.blk b B y).lies;have k:=k.cells v;have H:=H v;have N:=bZ G;have F:((vs.drop (j*size)).take (n*size)).length=n*size:=by
    rw [← bZ (rE _ (uT _ G))];exact M
   by_cases hn:n=0
   ·subst hn;have L:(vs.drop (j*size)).take (0*size)= []:=by simp
    refine ⟨[], ?_, ?_, ?_⟩
    ·exact Src.ofSlice w d _ 0 _ [] (by simp) (fun _ _ h=>by simp at h) (fun _ h=>by simp at h)
    ·simp [bF]
    ·intro _;simp [eG]
   ·have z:=V (by omega);refine ⟨(vs.drop (j*size)).take (n*size),Src.ofSlice w d _ n _ _ F ?_ ?_,rE _ (uT _ G),fun pr=>kN _ (rq _ (hp pr))⟩
    ·intro Z u c;rw [z,Addr.add_mid,D,uZ k,A];rw [Xj7] at c;split at c
     ·rw [List.getElem?_drop] at c;rw [Xxb (List.getElem?_eq_some_iff.1 c).1];exact c
     ·cases c
    ·intro u J;exact H u (Xj9 (Xxz J))
  ·cases h
 ·cases h
theorem IR:∀ (a:List Int) (s:List UInt8),a.foldl (fun (r:ByteArray) n=>r.push (Xqo n.toNat)) ⟨s.toArray⟩=⟨(s++a.map fun n=>Xqo n.toNat).toArray⟩
 | [],s=>by simp
 |n::a,s=>by
  simp only [Xjt];have e:(⟨s.toArray⟩:ByteArray).push (Xqo n.toNat)=⟨(s++ [Xqo n.toNat]).toArray⟩:=by simp [ByteArray.push]
  rw [e,IR a];simp
theorem EF (C:iU P ap) (V:bY ap g m S w) {rd:dJ} (H:∀ b B,rd b=some B→g b=some B) {s d:Nat} {ts R:TI} (I:ap.tyAt s=some ts) (L:ap.tyAt d=some R) {x v:AV} {M:Value} (F:VR g m S x M) {ups:List (Nat × bg)} {bs:List Bool}
  (h:EE ap ts R rd x=some (v,ups,bs)) (hbs:∀ b ∈ bs,b=true):ups= []∧∃ cv,(convert s d M).run P w= .ok cv w∧VR g m S v cv:=by
 obtain ⟨i1,d1,z1,D⟩:=dZ C I;obtain ⟨i2,d2,z2,A⟩:=dZ C L;unfold EE at h;split at h
 ·rename_i k k' n hd;obtain ⟨rfl,rfl,rfl⟩:=aX h;rw [A.d_eq] at hd;have hd:=Zu hd;subst hd;simp only [VR,PR] at F;subst F;exact ⟨rfl,_,by simp [convert,run_underlying D.und,run_underlying A.und,Conv.intToInt];rfl,by simp only [VR,PR]⟩
 ·rename_i s' i j;obtain ⟨rfl,rfl,rfl⟩:=aX h;rw [D.d_eq] at i;rw [A.d_eq] at j;have i:=yA i;have j:=yA j;subst i;subst j;simp only [VR,PR] at F;subst F;exact ⟨rfl,_,by simp [convert,run_underlying D.und,run_underlying A.und];rfl,by simp only [VR,PR]⟩
 ·rename_i x0 e i j;have N:=bind_some h;clear h;obtain ⟨te,p,h⟩:=N;obtain ⟨ie,de,ze,p⟩:=dZ C p;split at h
  ·cases h
  ·rename_i W Z xb t y;have N:=bind_some h;clear h;obtain ⟨⟨xs,n,pr⟩,u,h⟩:=N;obtain ⟨rfl,rfl,rfl⟩:=aX h;obtain ⟨U,K⟩:=dC hbs;obtain ⟨K,_⟩:=dC K;rw [D.d_eq] at i;rw [A.d_eq] at j;have i:=iw i;have j:=yA j;subst i;subst j;rw [p.d_eq] at t;have t:=Zu t;subst t;have U:=aU U;obtain ⟨f,hs,Y,_⟩:=uA (P:=P) V H F u (by omega) (tx:=s) (.inr ⟨fun s e=>y s e,e,D.und⟩);have E:f=(xs.map AV.toInt).map (Value.int .u8):=by
    have:∀ (xs:List AV) (f:List Value),bF g m S xs f→xs.all (chk (.int .u8))=true→f=(xs.map AV.toInt).map (Value.int .u8):=by
     intro xs
     induction xs with
     |nil=>intro f h _;cases f<;>simp [bF] at h ⊢
     | cons a r ih=>
      intro f h G;cases f with
      |nil=>simp [bF] at h
      |cons c q=>
       simp only [bF] at h;simp only [Xj3,ο] at G;rw [Xqb,Xqb,ih q h.2 G.2];congr 1;cases a<;>simp [chk] at G
       simp only [VR,PR] at h;rw [h.1,gu G.1];rfl
    exact this xs f Y K
   refine ⟨rfl,.string ⟨((xs.map AV.toInt).map fun n=>Xqo n.toNat).toArray⟩, ?_, ?_⟩
   ·have hcells:=hs.cells;have z:=hs.len w;have o:=F;cases M
    case slice a l c=>
     have X:l=n:=by simpa [Builtin.lenOf] using z
     subst X;cases a with
     | none=>
      have Q:f= []:=by simpa [Builtin.firstCells] using hcells.symm
      rw [Q] at E;have J:xs= []:=by
       have:(xs.map AV.toInt).map (Value.int .u8)= []:=E.symm;simpa using this
      subst J;simp [convert,run_underlying D.und,run_underlying A.und,run_underlying p.und,Conv.bytesToString];rfl
     | some a=>
      have O:(loadCells a l).run P w= .ok ((xs.map AV.toInt).map (Value.int .u8)).toArray w:=by
       rw [← E];simpa [Builtin.firstCells] using hcells
      have T:=run_bytesToString (P:=P) w a l c _ O;rw [show ByteArray.empty=⟨([]:List UInt8).toArray⟩ from rfl,IR,Xqi] at T;simp only [convert,Sem.run_bind,run_underlying D.und,run_underlying A.und,run_underlying p.und,Result.andThen_ok];exact T
    all_goals (simp [Builtin.lenOf] at z)
    case string s0=>
     exfalso;cases W<;>simp [NL] at u
     case str s1=>exact y s1 rfl
     case nilS=>simp only [VR,PR] at o;cases o
     case sl a b c=>simp only [VR,PR] at o;obtain ⟨_,_,h,_⟩:=o;cases h
     case ref a b c d=>simp only [VR] at o;obtain ⟨_,_,_,⟨_,_,_,h⟩,_⟩:=o;cases h
   ·simp only [VR,PR];simp [List.map_map,Function.comp_def]
  ·cases h
 ·cases h
end
end AM
namespace AM
open Go
def dV (g:dJ) (ups:List (Nat × bg)):dJ:=fun b=>match aB ups b with|some B=>some B|none=>g b
def kM (m:bf) (b:Nat) (x:Nat × Nat):bf:=fun c=>if c=b then x else m c
theorem iM {α:Type}:∀ (a b:List (Nat × α)) (t:Nat),aB (a++b) t=match aB a t with|some x=>some x|none=>aB b t
 | [],b,t=>rfl
 |(u,x)::r,b,t=>by
  simp only [Xxd,aB];split
  ·rfl
  ·exact iM r b t
theorem kF (ups:List (Nat × bg)) (hp:Hp):dV (aB hp) ups=aB (ups++hp):=by
 funext b;rw [iM];unfold dV;cases aB ups b<;>rfl
theorem fP (g:dJ):dV g []=g:=rfl
theorem ni (g:dJ) (b:Nat) (B:bg) (c:Nat):dV g [(b,B)] c=if c=b then some B else g c:=by
 simp only [dV,aB];by_cases h:c=b
 ·subst h;simp
 ·have:Xqn b c=false:=by
   cases a:Xqn b c with
   |false=>rfl
   |true=>exact absurd (aU a).symm h
  rw [this,if_neg h]
section
variable {P:Program} {ap:AP} {g:dJ} {m:bf} {S:aZ} {w:World}
theorem TY.mono {g g':dJ} {m b:bf} {S S':aZ} {w w':World} {B:bg} {k c:Nat} (h:TY g m S w B k c) (a:pY S S') (f:Ge g m g' b) (n:w'.heap[k]? =w.heap[k]?):TY g' b S' w' B k c:=by
 obtain ⟨⟨cur,e,vs,rest,s,o,l,r,i,j⟩,d,q⟩:=h;exact ⟨⟨cur,e,vs,rest,s.same n,o,fun p=>dE a _ (l p),mM a f _ r,i,j⟩,d,q⟩
theorem bY.seal_lt (h:bY ap g m S w) {k o:Nat} {v:Value} (a:S k o=some v):k<w.heap.size:=WB (h.sealed k o v a)
theorem bY.put (h:bY ap g m S w) (b:Nat) (B:bg) (k c:Nat) {w':World}
  (i:w.heap.size≤k∨∃ B0,g b=some B0∧k=(m b).1) (hw:w.grownBy w' (some k)) (hblk:TY g m S w' B k c)
  (hge:∀ B0,g b=some B0→B.esz=B0.esz∧((B.ver=B0.ver∧(k,c)=m b)∨B0.ver<B.ver))
  (hseal:∀ o v,S k o=some v→kR w' k o=some v∧B.fro=true∧o<B.fz):
  bY ap (dV g [(b,B)]) (kM m b (k,c)) S w'∧Fr g m S w (dV g [(b,B)]) (kM m b (k,c)) S w':=by
 have t:Ge g m (dV g [(b,B)]) (kM m b (k,c)):=by
  intro f B1 n;by_cases e:f=b
  ·subst e;obtain ⟨a,j⟩:=hge B1 n;refine ⟨B,by rw [ni,if_pos rfl],a, ?_⟩;rcases j with ⟨j,C⟩|j
   ·exact .inl ⟨j,by simp [kM,C]⟩
   ·exact .inr j
  ·exact ⟨B1,by rw [ni,if_neg e];exact n,rfl,.inl ⟨rfl,by simp [kM,e]⟩⟩
 have s:∀ f B1,g f=some B1→f ≠ b→(m f).1 ≠ k:=by
  intro f B1 n z e;have r:=h.lt n;rcases i with i|⟨B0,l,i⟩
  ·omega
  ·exact z (h.inj f b B1 B0 n l (e.trans i))
 have p:∀ k0,k0<w.heap.size→k0 ≠ k→w'.heap[k0]? =w.heap[k0]? :=fun k0 r A=>hw.block k0 r (by simpa using A)
 constructor
 ·refine ⟨?_, ?_, ?_, ?_,h.glob⟩
  ·intro f y B1 B2 d x u;rw [ni] at d x;by_cases a:f=b<;>by_cases j:y=b
   ·rw [a,j]
   ·rw [if_neg j] at x;simp only [kM,a,if_true,if_neg j] at u;exact absurd u.symm (s y B2 x j)
   ·rw [if_neg a] at d;simp only [kM,j,if_true,if_neg a] at u;exact absurd u (s f B1 d a)
   ·rw [if_neg a] at d;rw [if_neg j] at x;simp only [kM,if_neg a,if_neg j] at u;exact h.inj f y B1 B2 d x u
  ·intro f B1 d;rw [ni] at d;by_cases a:f=b
   ·rw [if_pos a] at d;cases d;simp only [kM,if_pos a];exact hblk.mono (pY.refl S) t rfl
   ·rw [if_neg a] at d;simp only [kM,if_neg a];exact (h.blk f B1 d).mono (pY.refl S) t (p _ (h.lt d) (s f B1 d a))
  ·intro k0 o v q;by_cases e:k0=k
   ·subst e;exact (hseal o v q).1
   ·rw [OC (p k0 (h.seal_lt q) e)];exact h.sealed k0 o v q
  ·intro f B1 d o v q;rw [ni] at d;by_cases a:f=b
   ·rw [if_pos a] at d;cases d;simp only [kM,if_pos a] at q;exact (hseal o v q).2
   ·rw [if_neg a] at d;simp only [kM,if_neg a] at q;exact h.own f B1 d o v q
 ·refine ⟨t,pY.refl S,hw.os,hw.tape,hw.output,hw.size, ?_, ?_,fun _ _ _ q=> .inl q⟩
  ·intro k0 r D;refine p k0 r (fun e=> ?_);subst e;rcases i with i|⟨B0,l,i⟩
   ·omega
   ·exact D b B0 l i.symm
  ·intro f B1 d;rw [ni] at d;by_cases a:f=b
   ·subst a;rcases i with i|⟨B0,l,i⟩
    ·exact .inl (by simpa [kM] using i)
    ·exact .inr ⟨B0,l,by simp [kM,i]⟩
   ·rw [if_neg a] at d;exact .inr ⟨B1,d,by simp [kM,a]⟩
end
mutual
theorem KR {g:dJ} {m:bf} {S:aZ}:∀ (x:AV) {v:Value},VR g m S x v→d_ x= []→PR S x v
 | .int _ _,_,p,_=>by simpa only [VR] using p
 | .bool _,_,p,_=>by simpa only [VR] using p
 | .str _,_,p,_=>by simpa only [VR] using p
 | .nilS,_,p,_=>by simpa only [VR] using p
 | .nilP,_,p,_=>by simpa only [VR] using p
 | .nilF,_,p,_=>by simpa only [VR] using p
 | .nilI,_,p,_=>by simpa only [VR] using p
 | .sl _ _ _,_,p,_=>by simpa only [VR] using p
 | .pp _ _,_,p,_=>by simpa only [VR] using p
 | .mp _ _,_,p,_=>by simpa only [VR] using p
 | .dead,_,_,_=>by simp only [PR]
 | .own _ _ _,_,p,_=>by simp only [VR] at p
 | .ref _ _ _ _,_,_,h=>by simp [d_] at h
 | .ptr _ _ _,_,_,h=>by simp [d_] at h
 | .mr _ _,_,_,h=>by simp [d_] at h
 | .agg l,_,p,h=>by
  simp only [VR] at p;simp only [PR];simp only [d_] at h;obtain ⟨vs,e,q⟩:=p;exact ⟨vs,e,gp l q h⟩
 | .tup l,_,p,h=>by
  simp only [VR] at p;simp only [PR];simp only [d_] at h;obtain ⟨vs,e,q⟩:=p;exact ⟨vs,e,gp l q h⟩
 | .fn f a c,_,p,h=>by
  simp only [VR] at p;simp only [PR];simp only [d_,Xj0] at h;obtain ⟨b,d,e,q,r⟩:=p;exact ⟨b,d,e,gp a q h.1,gp c r h.2⟩
 | .ifc t x,_,p,h=>by
  simp only [VR] at p;simp only [PR];simp only [d_] at h;obtain ⟨u,e,q⟩:=p;exact ⟨u,e,KR x q h⟩
theorem gp {g:dJ} {m:bf} {S:aZ}:∀ (l:List AV) {vs:List Value},bF g m S l vs→bV l= []→eG S l vs
 | [],[],_,_=>by simp only [eG]
 |x::r,v::vs,p,h=>by simp only [bF] at p;simp only [bV,Xj0] at h;simp only [eG];exact ⟨KR x p.1 h.1,gp r p.2 h.2⟩
 | [],_::_,p,_=>by simp [bF] at p
 |_::_,[],p,_=>by simp [bF] at p
end
section
variable {P:Program} {ap:AP} {g:dJ} {m:bf} {S:aZ} {w:World}
theorem rO {α:Type} {l:List α} (h:l.isEmpty=true):l= []:=by cases l<;>simp at h ⊢
theorem bY.fresh (h:bY ap g m S w) {nid:Nat} (l:g nid=none) (B:bg) (i:B.esz ≠ iP) (c:Nat) {w':World} {cur:Array Value} {e:TypeId} (a:w.grownBy w' none) (b:w'.heap[w.heap.size]? =some (.cells cur e (0,0)))
  (hver:B.fro=false→B.fz=0) (hfz:B.fz≤B.cells.length) {vs rest:List Value} (hc:cur.toList=vs++rest) (hp:B.pr=true→eG S B.cells vs) (f:bF g m S B.cells vs) (h1:∀ u ∈ vs,u.oneCell'=true) (hcap:0<B.esz→cur.size=c*B.esz∧c≤maxLen):
  bY ap (dV g [(nid,B)]) (kM m nid (w.heap.size,c)) S w'∧Fr g m S w (dV g [(nid,B)]) (kM m nid (w.heap.size,c)) S w':=by
 refine h.put nid B w.heap.size c (.inl (Δ _)) ⟨a.os,a.tape,a.output,a.size,fun k j _=>a.block k j (by simp)⟩ ⟨⟨cur,e,vs,rest,jI.of i b,hc,hp,f,fun _=>h1,fun d _=>hcap d⟩,hver,hfz⟩ (fun B0 d=>by rw [l] at d;cases d) ?_;intro o v f;have:=h.seal_lt f;omega
theorem Ig (h:bY ap g m S w) {nid:Nat} (f:g nid=none) {cells:List AV} {cv:Value} (b:bF g m S cells cv.cells.toList) (_hl:∀ x ∈ cells,oW x=true) (d:∀ u ∈ cv.cells,u.oneCell'=true) (t:TypeId):
  ∃ m' w',(newVar t cv).run P w= .ok ⟨w.heap.size,0,none⟩ w'∧bY ap (dV g [jk nid cells 0]) m' S w'∧Fr g m S w (dV g [jk nid cells 0]) m' S w'∧(m' nid).1=w.heap.size:=by
 have a:=h.fresh (nid:=nid) f (jk nid cells 0).2 (by show 0 ≠ iP;decide) 0 (w':=w.alloc (.cells cv.cells t)) (cur:=cv.cells) (e:=t) (World.grownBy_alloc w _ none) (heap_alloc_new w _) (fun _=>rfl) (Xx1 _) (vs:=cv.cells.toList) (rest:= []) (by simp)
  (fun hp=>gp _ b (rO hp)) b (fun u c=>d u (by simpa using c)) (fun h=>by simp [jk] at h)
 refine ⟨_,_, ?_,a.1,a.2,by simp [kM]⟩;simp [newVar,newRow]
theorem RV {b:bf} {nid:Nat} {cells:List AV} {a k:Nat} (c:(b nid).1=k):VR (dV g [jk nid cells a]) b S (.ptr nid 0 0) (.pointer (some ⟨k,0,none⟩)):=by
 simp only [VR];refine ⟨(jk nid cells a).2, ?_,Xx1 _,⟨_,_,rfl⟩,fun _=>by rw [c]⟩;show dV g [(nid,(jk nid cells a).2)] nid=_;rw [ni,if_pos rfl]
theorem Kw (h:bY ap g m S w) {rd:dJ} (J:∀ b B,rd b=some B→g b=some B) {t:Nat} {L:TI} {i:TypeInfo} {d:TypeDesc} {z:Value} (T:Dx P t L i d z) {p x v:AV} {Q c:Value} (hp:VR g m S p Q) (hx:VR g m S x c)
  {ups:List (Nat × bg)} {bs:List Bool} (hs:Qc L rd p x=some (v,ups,bs)) (hbs:∀ b ∈ bs,b=true):
  v= .dead∧∃ m' w',(Instr.storeAt t Q c).run P w= .ok () w'∧bY ap (dV g ups) m' S w'∧Fr g m S w (dV g ups) m' S w':=by
 unfold Qc at hs;split at hs
 ·rename_i b ver a;have hq:=bind_some hs;clear hs;obtain ⟨B,hB,hs⟩:=hq;simp only at hs;split at hs
  ·rename_i K;simp only [ο,Xqw] at K;obtain ⟨⟨⟨⟨X,V⟩,Y⟩,c4⟩,O⟩:=K;have l:B.esz ≠ iP:=fun e=>by rw [e] at O;exact absurd O (by decide)
   cases hs;have f:=J b B hB;have E:=aU X;have R:=aU Y;have U:=gB (hbs _ (List.mem_singleton.2 rfl));simp only [VR] at hp;obtain ⟨B',F,_,_,q⟩:=hp;rw [f] at F;cases F;have q:=q E;subst q;obtain ⟨r,H⟩:=Ej hx (fun y hy=>List.all_eq_true.1 c4 y hy);obtain ⟨⟨cur,e,vs,rest,k1,k2,k3,k4,k5,k6⟩,k7,k8⟩:=h.blk b B f;have k1:=k1.cells l;have k5:=k5 l;have A:=bZ r;have M:=bZ k4;have I:c.cells.size=i.size:=by simp only [Array.length_toList] at A;rw [← T.size];omega
   have G:cur.toList.length=vs.length+rest.length:=by rw [k2];simp
   have C:=run_storeCells_at P (m b).1 a e c.cells.toList 0 cur w k1 (by simp only [Array.length_toList] at A G ⊢;omega) (fun u j=>H u (by simpa using j));simp only [Xq8] at C;have hnewl:(cur.toList.take a++c.cells.toList++cur.toList.drop (a+c.cells.toList.length))=(vs.take a++c.cells.toList++vs.drop (a+c.cells.toList.length))++rest:=by
    rw [k2,Xxn (by omega),List.drop_append_of_le_length (by omega)];simp [τ]
   have n:=h.put b {B with cells:=iR B.cells a x.cells,pr:=B.pr && (bV x.cells).isEmpty} (m b).1 (m b).2 (w':=w.setRow (m b).1 (cur.toList.take a++c.cells.toList++cur.toList.drop (a+c.cells.toList.length)).toArray)
    (.inr ⟨B,f,rfl⟩) ⟨rfl,rfl,rfl,by simp,fun k _ W=>setRow_other w _ k _ (fun e=>W (by rw [e]))⟩
    ⟨⟨_,e,vs.take a++c.cells.toList++vs.drop (a+c.cells.toList.length),rest,jI.of l (setRow_heap w _ cur _ e _ k1),by rw [Xve,hnewl],fun s=>by
      simp only [ο] at s;exact ZZ (k3 s.1) (gp _ r (rO s.2)),Qv k4 r,by
      intro _ u j;rcases List.mem_append.1 j with j|j
      ·rcases List.mem_append.1 j with j|j
       ·exact k5 u (Xxz j)
       ·exact H u (by simpa using j)
      ·exact k5 u (Xj9 j),fun D _=>by
      obtain ⟨s1,s2⟩:=k6 D l;refine ⟨?_,s2⟩;rw [← s1,Xzr];simp only [η,Xxa,Xxk,Array.length_toList] at A G ⊢;omega⟩,k7,by
     have:(iR B.cells a x.cells).length=B.cells.length:=by simp only [iR,η,Xxa,Xxk];omega
     simp only [this];exact k8⟩
    (fun B0 N=>by rw [f] at N;cases N;exact ⟨rfl,.inl ⟨rfl,rfl⟩⟩)
    (fun o v Z=>by
     have:=(h.own b B f o v Z).1;rw [V] at this;cases this)
   refine ⟨rfl,_,_, ?_,n.1,n.2⟩;have hn:¬ (c.cells.size ≠ i.size):=by simp [I]
   simp [Instr.storeAt,Instr.sureAddr,storeVar,Go.sizeOf,typeInfo,T.info,I,C]
  ·cases hs
 ·cases hs
end
end AM
namespace AM
open Go
section
variable {P:Program} {ap:AP} {g:dJ} {m:bf} {S:aZ} {w:World}
theorem oI (g:dJ) (b:Nat) (B:bg):dV g [(b,B)] b=some B:=by rw [ni,if_pos rfl]
theorem ET {w w':World} (h:w.grownBy w' none) (r:Option Nat):w.grownBy w' r:=⟨h.os,h.tape,h.output,h.size,fun k a _=>h.block k a (by simp)⟩
theorem oP (w:World) (o:Obj):w.grownBy (w.drew.alloc o) none:=⟨rfl,rfl,rfl,by simp,fun k a _=>Go.RowKit.Below.heap_alloc w.drew o k a⟩
theorem xf {t tx ty e:TypeId} {i:TypeInfo} (d:P.underlying t=some (.slice e)) (c:P.info? e=some i) {x:Value} {a:List Value} (hs:Src P i.size tx x 0 a w):
  (Builtin.append_ #[t,tx] ty #[.slice none 0 0,x]).run P w= .ok (.slice none 0 0) w:=by
 rcases hs.kind with ⟨e',b⟩|b<;>simp [Builtin.append_,run_underlying d,run_underlying b,Go.sizeOf,typeInfo,c,hs.len,hs.cells]
theorem xg {t tx ty e:TypeId} {i:TypeInfo} (d:P.underlying t=some (.slice e)) (f:P.info? e=some i) {k o sLen sCap n:Nat} {x:Value} {a:List Value} (hs:Src P i.size tx x n a w) (hroom:sLen+n≤sCap)
  {cur:Array Value} {e':TypeId} (hk:w.heap[k]? =some (.cells cur e' (0,0))) (hfit:o+sLen*i.size+a.length≤cur.size):
  (Builtin.append_ #[t,tx] ty #[.slice (some ⟨k,o,none⟩) sLen sCap,x]).run P w= .ok (.slice (some ⟨k,o,none⟩) (sLen+n) sCap) (w.setRow k (cur.toList.take (o+sLen*i.size)++a++cur.toList.drop (o+sLen*i.size+a.length)).toArray):=by
 have b:=run_storeCells_at P k (o+sLen*i.size) e' a 0 cur w hk (by simpa using hfit) hs.one;simp only [Xq8] at b;rcases hs.kind with ⟨h,c⟩|c<;>simp [Builtin.append_,run_underlying d,run_underlying c,Go.sizeOf,typeInfo,f,hs.len,hroom,hs.cells,Addr.add_mid,b]
theorem BR {n a bytes:Nat} (h:a<n) (c:n≤IY) (b:bytes≤128):Builtin.nextslicecap n a*bytes≤281474976710656:=by
 refine growslice_fits h ?_;have:n*bytes≤IY*128:=Nat.mul_le_mul c b;have e:IY*128=140737488355328:=by decide
 omega
theorem zY:IY=1099511627776:=by decide
theorem Du {t tx ty e:TypeId} {i:TypeInfo} (f:P.underlying t=some (.slice e)) (d:P.info? e=some i) {x:Value} {base:Option Addr} {sLen sCap:Nat} (hs:Src P i.size tx x 0 [] w) (c:sLen≤sCap):
  (Builtin.append_ #[t,tx] ty #[.slice base sLen sCap,x]).run P w= .ok (.slice base sLen sCap) w:=by
 cases base with
 |none=>rcases hs.kind with ⟨e',b⟩|b<;>simp [Builtin.append_,run_underlying f,run_underlying b,Go.sizeOf,typeInfo,d,hs.len,hs.cells,c]
 |some a=>rcases hs.kind with ⟨e',b⟩|b<;>simp [Builtin.append_,run_underlying f,run_underlying b,Go.sizeOf,typeInfo,d,hs.len,hs.cells,c,storeCells]
theorem xq (h:bY ap g m S w) {rd:dJ} (N:∀ b B,rd b=some B→g b=some B) {nid:Nat} (hn:g nid=none) {t tx e:Nat} {ti l:TI} {i G:TypeInfo} {z M:Value} {de:TypeDesc} (ht:Dx P t ti i (.slice e) z) (y:Dx P e l G de M)
  {s x v:AV} {cs cx:Value} (hvs:VR g m S s cs) (hvx:VR g m S x cx)
  (hk:((∃ s,x= .str s)∧P.underlying tx=some .string∧l.size=1)∨((∀ s,x ≠ .str s)∧∃ e,P.underlying tx=some (.slice e)))
  {em:Bool} (O:s= .nilS→∃ n,xM x=some n∧Xqn n 0=em)
  {ups:List (Nat × bg)} {bs:List Bool} (E:yK nid l rd em s x=some (v,ups,bs)) (r:∀ b ∈ bs,b=true) (ty:Nat):
  ∃ cv m' w',(Builtin.append_ #[t,tx] ty #[cs,cx]).run P w= .ok cv w'∧bY ap (dV g ups) m' S w'∧Fr g m S w (dV g ups) m' S w'∧VR (dV g ups) m' S v cv:=by
 have hcount:∀ xs n pr,NL l.size rd x=some (xs,n,pr)→xM x=some n:=by
  intro xs n pr a;unfold NL at a;split at a
  ·cases a;rfl
  ·cases a;rfl
  ·cases a;rfl
  ·have hq:=bind_some a;clear a;obtain ⟨B,hB,a⟩:=hq;split at a
   ·cases a;rfl
   ·cases a
  ·cases a
 unfold yK at E;have hq:=bind_some E;clear E;obtain ⟨⟨xs,n,pr⟩,a,E⟩:=hq;simp only at E;split at E
 ·cases E
 ·rename_i W;simp only [ο] at W;have hsz:=gG W.1;have hby:=gB W.2;have d:l.size=G.size:=y.size;have T:l.size ≠ iP:=fun e=>by have:=y.small;omega
  have hby':l.bytes=G.bytes:=y.bytes;have hzs:M.cells.size=G.size:=y.zsize;split at E
  ·
   obtain ⟨n',hc',O⟩:=O rfl;rw [hcount _ _ _ a] at hc';cases hc';simp only [VR,PR] at hvs;subst hvs;split at E
   ·
    obtain ⟨rfl,rfl,rfl⟩:=aX E;have Q:n=0:=aU O;subst Q;have hl:=aU (r _ (List.mem_singleton.2 rfl));obtain ⟨c,hs,hv,hp⟩:=uA (P:=P) h N hvx a hl hk;rw [d] at hs;exact ⟨_,m,w,xf ht.und y.info hs,by rw [fP];exact h,by rw [fP];exact Fr.refl _ _ _ _,by simp [VR,PR]⟩
   ·
    cases E;obtain ⟨b1,r⟩:=dC r;obtain ⟨b2,_⟩:=dC r;have hl:=aU b1;have hroom:=gB b2;have Q:n ≠ 0:=by intro e;subst e;simp at O
    obtain ⟨c,hs,hv,hp⟩:=uA (P:=P) h N hvx a hl hk;rw [d] at hs;have f:=run_append_grow_src w t tx ty e G M ht.und y.info y.zero none 0 0 [] (run_firstCells_none w.drew _ _ _ _) cx n c hs (by omega) (by rw [zY] at hroom;omega) (BR (by omega) (by simpa using hroom) (by omega));have Z:n≤grownCap w n 0 e:=grownCap_ge _ _ _ _;have X:grownCap w n 0 e≤maxLen:=grownCap_le_maxLen _ _ _ _ (by rw [zY] at hroom;simp only [maxLen];omega);simp only [Xqd] at f;have hf:=h.fresh (nid:=nid) hn ⟨xs,0,false,0,l.size,pr⟩ T (grownCap w n 0 e) (cur:=([]++c).toArray++Builtin.zeroCells M.cells (grownCap w n 0 e - n)) (e:=e) (oP w _) (heap_alloc_new w.drew _) (fun _=>rfl) (Xx1 _)
     (vs:=c) (rest:=(Builtin.zeroCells M.cells (grownCap w n 0 e - n)).toList) (by simp) hp hv hs.one (fun _=> ⟨by
      simp only [Array.size_append,Xzr,Xqi,size_zeroCells,hs.newsLen,hzs,d];rw [← Xxw];congr 1;omega,X⟩)
    refine ⟨_,_,_,f,hf.1,hf.2, ?_⟩;simp only [VR];refine ⟨_,oI _ _ _,Δ _,⟨_,_,_,rfl⟩,fun _=> ⟨0, ?_, ?_, ?_,hsz,T⟩⟩
    ·simp [kM]
    ·simpa [kM] using Z
    ·simp
  ·rename_i b ver mN;have hq:=bind_some E;clear E;obtain ⟨B,hB,E⟩:=hq;split at E
   ·rename_i F;simp only [ο,Xqw] at F;have hver:=aU F.1.1;have R:=aU F.1.2;have A:B.esz ≠ iP:=fun e=>by rw [e] at F;exact absurd F.2 (by decide)
    cases E;obtain ⟨b1,r⟩:=dC r;obtain ⟨b2,r⟩:=dC r;obtain ⟨b3,r⟩:=dC r;obtain ⟨b4,_⟩:=dC r;have hl:=aU b1;have hroom:=gB b2;have hfit:=gB b3;have D:=N b B hB;simp only [VR] at hvs;obtain ⟨B',hB',_,_,q⟩:=hvs;rw [D] at hB';cases hB';obtain ⟨o,rfl,hcap,ho,H,hnz1⟩:=q hver;simp only [Xqd,Nat.sub_zero,Nat.zero_mul] at hcap ho ⊢;obtain ⟨c,hs,hv,hp⟩:=uA (P:=P) h N hvx a hl hk;rw [d] at hs;have hbk:=h.blk b B D;obtain ⟨⟨cur,e',vs,rest,k1,k2,k3,k4,k5,k6⟩,k7,k8⟩:=hbk;have k1:=k1.cells A;have k5:=k5 A;obtain ⟨s1,s2⟩:=k6 H A;have hvl:=bZ k4;have hcl:cur.toList.length=vs.length+rest.length:=by rw [k2];simp
    simp only [Array.length_toList] at hcl;have hfz:B.fz≤mN*l.size:=by
     cases hf:B.fro with
     |false=>rw [k7 hf];exact Xx1 _
     |true=>simp [hf] at b4;exact gB (by simpa using b4)
    have holds:eG S (B.cells.take (mN*l.size)) (vs.take (mN*l.size))∨B.pr=false:=by
     cases hp:B.pr with
     |false=>exact .inr rfl
     |true=>exact .inl (kN _ (k3 hp))
    have J:(vs.take (mN*l.size)).length=mN*G.size:=by rw [Xxa,d] at*;omega
    have V:bF g m S (B.cells.take (mN*l.size)++xs) (vs.take (mN*l.size)++c):=iC (rE _ k4) hv;have Y:(B.pr && pr)=true→eG S (B.cells.take (mN*l.size)++xs) (vs.take (mN*l.size)++c):=by
     intro hh;simp only [ο] at hh;exact oK (kN _ (k3 hh.1)) (hp hh.2)
    have h1:∀ u ∈ vs.take (mN*l.size)++c,u.oneCell'=true:=by
     intro u C;rcases List.mem_append.1 C with C|C
     ·exact k5 u (Xxz C)
     ·exact hs.one u C
    have K:B.fz≤(B.cells.take (mN*l.size)++xs).length:=by
     rw [η,Xxa];omega
    by_cases hrm:mN+n≤(m b).2
    ·
     by_cases hc0:(m b).2=0
     ·have hm0:mN=0:=by omega
      have Q:n=0:=by omega
      subst hm0;subst Q;have hnews:c= []:=by have:=hs.newsLen;simpa using this
      subst hnews;have f:=Du (P:=P) (w:=w) (ty:=ty) (base:=some ⟨(m b).1,o,none⟩) (sLen:=0) (sCap:=(m b).2) ht.und y.info hs (by omega);have p:=h.put b {B with cells:=B.cells.take (0*l.size)++xs,ver:=ver+1,pr:=B.pr && pr} (m b).1 (m b).2 (w':=w) (.inr ⟨B,D,rfl⟩) ⟨rfl,rfl,rfl,Δ _,fun _ _ _=>rfl⟩
       ⟨⟨cur,e',_,vs.drop (0*l.size)++rest,jI.of A k1,by rw [k2];simp,Y,V,fun _=>h1,k6⟩,k7,K⟩ (fun B0 I=>by rw [D] at I;cases I;exact ⟨rfl,.inr (by simp only;omega)⟩)
       (fun o' u C=> ⟨h.sealed _ _ _ C,(h.own b B D o' u C)⟩)
      refine ⟨_,_,_,f,p.1,p.2, ?_⟩;simp only [VR];refine ⟨_,oI _ _ _,Δ _,⟨_,_,_,rfl⟩,fun _=> ⟨o,by simp [kM],by simp,by simp [kM,hc0],H,A⟩⟩
     ·have U:o=0:=ho (by omega);subst U;have hnl:=hs.newsLen;have hbig:mN*G.size+n*G.size≤(m b).2*G.size:=by rw [← Xxw];exact Nat.mul_le_mul_right _ hrm
      have hcs:cur.size=(m b).2*G.size:=by rw [s1,R,d]
      have f:=xg (P:=P) (w:=w) (ty:=ty) (o:=0) ht.und y.info hs hrm k1 (by simp only [Xqd];omega);simp only [Xqd] at f;have hlist:cur.toList.take (mN*G.size)=vs.take (mN*l.size):=by rw [k2,d,Xxn (by rw [d] at hfit;omega)]
      have p:=h.put b {B with cells:=B.cells.take (mN*l.size)++xs,ver:=ver+1,pr:=B.pr && pr} (m b).1 (m b).2 (w':=w.setRow (m b).1 (cur.toList.take (mN*G.size)++c++cur.toList.drop (mN*G.size+c.length)).toArray)
       (.inr ⟨B,D,rfl⟩) ⟨rfl,rfl,rfl,by simp,fun k _ hk=>setRow_other w _ k _ (fun e=>hk (by rw [e]))⟩
       ⟨⟨_,e',_,cur.toList.drop (mN*G.size+c.length),jI.of A (setRow_heap w _ cur _ e' _ k1),by rw [hlist],Y,V,fun _=>h1,fun _ _=> ⟨by
        rw [← s1,Xzr];simp only [η,Xxa,Xxk,Array.length_toList];omega,s2⟩⟩,k7,K⟩ (fun B0 I=>by rw [D] at I;cases I;exact ⟨rfl,.inr (by simp only;omega)⟩)
       (fun o' u C=>by
        obtain ⟨f1,f2⟩:=h.own b B D o' u C;refine ⟨?_,f1,f2⟩;have:=h.sealed _ _ _ C;cases L:u.oneCell' with
        |false=>
         obtain ⟨_,_,hm,_⟩:=wE this L;rw [k1] at hm;cases hm
        |true=>
        have this:=AA this L;rw [uZ k1] at this;refine (jI.of A (setRow_heap w _ cur _ e' _ k1)).get ?_ (fun _=>L);simp only [τ];rw [Xxb (by simp only [Xxa,Array.length_toList];rw [d] at hfz;omega),List.getElem?_take_of_lt (by rw [d] at hfz;omega)];exact this)
      refine ⟨_,_,_,f,p.1,p.2, ?_⟩;simp only [VR];refine ⟨_,oI _ _ _,Δ _,⟨_,_,_,rfl⟩,fun _=> ⟨0,by simp [kM],by simpa [kM] using hrm,by simp,H,A⟩⟩
    ·
     have hold:(Builtin.firstCells G.size mN (.slice (some ⟨(m b).1,o,none⟩) mN (m b).2)).run P w.drew= .ok (vs.take (mN*l.size)).toArray w.drew:=by
      refine run_firstCells_some w.drew G.size mN ⟨(m b).1,o,none⟩ mN _ _ J ?_;intro j u C;have hjl:=(List.getElem?_eq_some_iff.1 C).1;rw [J] at hjl;have hm0:0<mN:=by
       rcases Nat.eq_zero_or_pos mN with I|I
       ·subst I;simp at hjl
       ·exact I
      have U:o=0:=ho (by omega);subst U;rw [Addr.add_mid,Xqd,uZ (w:=w.drew) (j:=j) k1,k2];rw [Xj7] at C;split at C
      ·rw [Xxb (List.getElem?_eq_some_iff.1 C).1];exact C
      ·cases C
     have f:=run_append_grow_src w t tx ty e G M ht.und y.info y.zero (some ⟨(m b).1,o,none⟩) mN (m b).2 _ hold cx n c hs (by omega) (by rw [zY] at hroom;omega) (BR (by omega) hroom (by omega));have Z:mN+n≤grownCap w (mN+n) (m b).2 e:=grownCap_ge _ _ _ _;have X:grownCap w (mN+n) (m b).2 e≤maxLen:=grownCap_le_maxLen _ _ _ _ (by rw [zY] at hroom;simp only [maxLen];omega);have p:=h.put b {B with cells:=B.cells.take (mN*l.size)++xs,ver:=ver+1,pr:=B.pr && pr} w.heap.size (grownCap w (mN+n) (m b).2 e) (.inl (Δ _))
      (ET (oP w (.cells ((vs.take (mN*l.size)++c).toArray++Builtin.zeroCells M.cells (grownCap w (mN+n) (m b).2 e - (mN+n))) e)) _)
      ⟨⟨(vs.take (mN*l.size)++c).toArray++Builtin.zeroCells M.cells (grownCap w (mN+n) (m b).2 e - (mN+n)),e,_,(Builtin.zeroCells M.cells (grownCap w (mN+n) (m b).2 e - (mN+n))).toList,jI.of A (heap_alloc_new w.drew _),by simp,Y,V,fun _=>h1,fun _ _=> ⟨by
       simp only [Array.size_append,Xzr,η,size_zeroCells,hs.newsLen,hzs];rw [J,R,d,← Xxw,← Xxw];congr 1;omega,X⟩⟩,k7,K⟩ (fun B0 I=>by rw [D] at I;cases I;exact ⟨rfl,.inr (by simp only;omega)⟩)
      (fun o' u C=>absurd (h.seal_lt C) (Xvx _))
     refine ⟨_,_,_,f,p.1,p.2, ?_⟩;simp only [VR];refine ⟨_,oI _ _ _,Δ _,⟨_,_,_,rfl⟩,fun _=> ⟨0,by simp [kM],by simpa [kM] using Z,by simp,H,A⟩⟩
   ·cases E
  ·cases E
end
end AM
namespace AM
open Go
theorem CV (n:Nat) (z:List AV):(gQ n z).length=n*z.length:=by simp [gQ]
theorem Vm (n:Nat) (z:List AV):gQ (n+1) z=z++gQ n z:=by simp [gQ,Xxh]
theorem Nq:∀ (n:Nat) (z:List AV) (i:Nat),i<n*z.length→(gQ n z)[i]? =z[i % z.length]?
 |0,z,i,h=>by simp at h
 | n+1,z,i,h=>by
  rw [Vm];by_cases a:i<z.length
  ·rw [Xxb a,Nat.mod_eq_of_lt a]
  ·have a:z.length≤i:=by omega
   rw [List.getElem?_append_right a,Nq n z (i - z.length) (by rw [Xxw,Nat.one_mul] at h;omega)];congr 1;rw [← Nat.mod_eq_sub_mod a]
section
variable {P:Program} {ap:AP} {g:dJ} {m:bf} {S:aZ} {w:World}
theorem Ei:∀ {l:List AV} {vs:List Value},l.length=vs.length→(∀ (i:Nat) x v,l[i]? =some x→vs[i]? =some v→VR g m S x v)→bF g m S l vs
 | [],[],_,_=>by simp [bF]
 |x::r,v::vs,hl,h=>by
  simp only [bF];exact ⟨h 0 x v rfl rfl,Ei (by simpa using hl) fun i x v a b=>h (i+1) x v (by simpa using a) (by simpa using b)⟩
 | [],_::_,h,_=>by simp at h
 |_::_,[],h,_=>by simp at h
theorem Bd (z:Array Value) (n:Nat):(madeCells z n).toList=(List.range n).map fun i=>z[i % z.size]! :=by simp [madeCells]
theorem xA {t:Nat} {f:TI} {i:TypeInfo} {d:TypeDesc} {z:Value} (c:Dx P t f i d z) (n:Nat):bF g m S (gQ n f.zero) (madeCells z.cells (n*i.size)).toList:=by
 have l:=rF (g:=g) (m:=m) (S:=S) c;have a:=bZ l;simp only [Array.length_toList,c.zsize] at a;refine Ei (by rw [CV,a,Array.length_toList,size_madeCells]) ?_;intro j x v h e;have k:j<n*i.size:=by
  have:=(List.getElem?_eq_some_iff.1 h).1;rw [CV,a] at this;exact this
 rw [Nq n f.zero j (by rw [a];exact k),a] at h;rw [Bd,c.zsize,Xq6,List.getElem?_range k] at e;simp only [Xjn,Option.some.injEq] at e;obtain ⟨q,b,p⟩:=sZ l _ h;have o:j % i.size<z.cells.size:=by rw [c.zsize];exact Nat.mod_lt _ c.pos
 simp only [Array.getElem?_toList] at b;rw [getElem!_pos z.cells _ o] at e;rw [Array.getElem?_eq_getElem o] at b;cases b;rw [← e];exact p
theorem IW {n:Nat} {z:List AV} (h:∀ x ∈ z,oW x=true):∀ x ∈ gQ n z,oW x=true:=by
 intro x a;simp only [gQ,List.mem_flatten,List.mem_replicate] at a;obtain ⟨l,⟨_,rfl⟩,a⟩:=a;exact h x a
theorem Dy:∀ {l:List AV} {vs:List Value},bF g m S l vs→(∀ x ∈ l,oW x=true)→∀ u ∈ vs,u.oneCell'=true
 | [],[],_,_=>by simp
 |x::r,v::vs,h,hl=>by
  simp only [bF] at h;intro u a;rcases List.mem_cons.1 a with rfl|a
  ·exact Om h.1 (hl x (by simp))
  ·exact Dy h.2 (fun y b=>hl y (by simp [b])) u a
 | [],_::_,h,_=>by simp [bF] at h
 |_::_,[],h,_=>by simp [bF] at h
theorem JL {xs vs:List AV} {a:Nat} {x:AV} (h:x ∈ iR xs a vs):x ∈ xs∨x ∈ vs:=by
 simp only [iR,List.mem_append] at h;rcases h with (h|h)|h
 ·exact .inl (Xxz h)
 ·exact .inr h
 ·exact .inl (Xj9 h)
theorem EN:∀ {ps:List (Nat × Nat × AV)} {cells cells':List AV},xx cells ps=some cells'→(∀ x ∈ cells,oW x=true)→∀ x ∈ cells',oW x=true
 | [],cells,cells',h,hl=>by simp [xx] at h;subst h;exact hl
 | (off,size,v)::r,cells,cells',h,hl=>by
  simp only [xx] at h;split at h
  ·rename_i b;simp only [ο] at b;refine EN h fun x a=> ?_
   rcases JL a with a|a
   ·exact hl x a
   ·exact List.all_eq_true.1 b.2 x a
  ·cases h
theorem Sm {nid:Nat} {cells:List AV} {a k c n:Nat} (d:n≤c) (hp:0<a) (b:a ≠ iP):VR (dV g [jk nid cells a]) (kM m nid (k,c)) S (.ref nid 0 0 n) (.slice (some ⟨k,0,none⟩) n c):=by
 simp only [VR];refine ⟨_,oI _ _ _,Xx1 _,⟨_,_,_,rfl⟩,fun _=> ⟨0,by simp [kM],by simpa [kM] using d,by simp,hp,b⟩⟩
theorem uw:∀ (a b:List AV),bV (a++b)=bV a++bV b
 | [],b=>by simp [bV]
 |x::r,b=>by simp [bV,uw r b]
theorem IV (z:List AV) (h:bV z= []):∀ n,bV (gQ n z)= []
 |0=>by simp [gQ,bV]
 |n+1=>by
  have a:=IV z h n;simp only [gQ,Xxh,List.flatten_cons,uw,h,Xqi] at a ⊢;exact a
theorem PG (nid n a:Nat) (z:List AV) (h:(bV z).isEmpty=true):(nid,(⟨gQ n z,0,false,0,a,true⟩:bg))=jk nid (gQ n z) a:=by
 have b:bV z= []:=by simpa using h
 simp [jk,IV z b n]
theorem Be (A:iU P ap) (h:bY ap g m S w) {nid:Nat} (T:g nid=none) {t:Nat} {I:TI} {i:TypeInfo} {d:TypeDesc} {z:Value} (O:Dx P t I i d z) {l c:AV} {cl N:Value} (L:VR g m S l cl) (H:VR g m S c N)
  {v:AV} {ups:List (Nat × bg)} {bs:List Bool} (k:x_ ap nid I l c=some (v,ups,bs)) (j:∀ b ∈ bs,b=true):
  ∃ cv m' w',(Instr.makeSlice t cl N).run P w= .ok cv w'∧bY ap (dV g ups) m' S w'∧Fr g m S w (dV g ups) m' S w'∧VR (dV g ups) m' S v cv:=by
 unfold x_ at k;split at k
 ·rename_i e R l U c hd;have V:=bind_some k;clear k;obtain ⟨o,a,k⟩:=V;obtain ⟨n,W,B,a⟩:=dZ A a;split at k
  ·rename_i f;simp only [ο] at f;have G:=f.2;have f:=f.1;have q:=gG f.1.1;have u:=gB f.2;rw [PG _ _ _ _ G] at k;cases k;obtain ⟨s,j⟩:=dC j;obtain ⟨E,j⟩:=dC j;obtain ⟨M,_⟩:=dC j;have s:0≤l:=of_decide_eq_true s;have E:l=c:=of_decide_eq_true E;have M:l≤2^40:=of_decide_eq_true M;subst E;simp only [VR,PR] at L H;subst L;subst H;rw [O.d_eq] at hd;have hd:=iw hd;subst hd;have r:(n.bytes:Int)*l≤281474976710656:=by
    have C:(n.bytes:Int)≤128:=by rw [← a.bytes];exact_mod_cast u
    have K:(n.bytes:Int)*l≤128*l:=Int.mul_le_mul_of_nonneg_right C s;have Q:(2:Int)^40=1099511627776:=by decide
    omega
   have D:l≤9223372036854775807:=by
    have Q:(2:Int)^40=1099511627776:=by decide
    omega
   have p:=run_make (P:=P) w t e n B O.und a.info a.zero R U l l s (Int.le_refl _) r D;have F:bF g m S (gQ l.toNat o.zero) (madeCells B.cells (l.toNat*n.size)).toList:=xA a _;have y:∀ x ∈ gQ l.toNat o.zero,oW x=true:=IW a.zleaf;have J:=h.fresh (nid:=nid) T (jk nid (gQ l.toNat o.zero) o.size).2 (by have C:=a.small;have K:=a.size;show o.size ≠ iP;omega) l.toNat (w':=w.alloc (.cells (madeCells B.cells (l.toNat*n.size)) e)) (World.grownBy_alloc w _ none) (heap_alloc_new w _) (fun _=>rfl) (Xx1 _)
    (rest:= []) (by rw [Γ]) (fun hp=>gp _ F (rO hp)) F (Dy F y) (fun _=> ⟨by rw [size_madeCells];simp [jk,a.size],by simp only [maxLen];omega⟩)
   refine ⟨_,_,_,p,J.1,J.2, ?_⟩;exact Sm (Δ _) q (by have C:=a.small;have K:=a.size;omega)
  ·cases k
 ·cases k
theorem Gp {t e:TypeId} {i:TypeInfo} {z:Value} (j:P.underlying t=some (.slice e)) (f:P.info? e=some i) (h:i.zero=some z) {len:Nat} (b:len*i.size≤2^24) (c:len*i.size ≠ 0) {parts:Array (Nat × Value)} {cells:Array Value}
  (hf:Instr.fill (fun d=>some (d*i.size,i.size)) (madeCells z.cells (len*i.size)) parts.toList=some cells):
  (Instr.buildSlice t len parts).run P w= .ok (.slice (some ⟨w.heap.size,0,none⟩) len len) (w.alloc (.cells cells e)):=by
 have a:¬ (len*i.size>2^24):=by omega
 unfold madeCells at hf;simp only [Instr.buildSlice,Sem.run_bind,run_underlying j,Result.andThen_ok];simp [Go.sizeOf,typeInfo,f,zeroValue,h,c,newRow];rw [if_neg (by simpa using a)];simp [hf]
theorem Dv {t e:TypeId} {i:TypeInfo} (d:P.underlying t=some (.slice e)) (c:P.info? e=some i) {len:Nat} (a:len*i.size=0) {parts:Array (Nat × Value)} {cells:Array Value}
  (hf:Instr.fill (fun b=>some (b*i.size,i.size)) #[] parts.toList=some cells):
  (Instr.buildSlice t len parts).run P w= .ok (.slice (some ⟨w.heap.size,0,none⟩) len len) (w.alloc (.cells cells e)):=by
 simp [Instr.buildSlice,run_underlying d,Go.sizeOf,typeInfo,c,a,newRow,Array.range_zero',hf]
theorem yO (u:iU P ap) (h:bY ap g m S w) {nid:Nat} (J:g nid=none) {t:Nat} {E:TI} {i:TypeInfo} {d:TypeDesc} {z:Value} (B:Dx P t E i d z) {len:Nat} {ps:List (Nat × AV)} {qs:Array (Nat × Value)} (L:yH g m S ps qs.toList)
  {v:AV} {ups:List (Nat × bg)} {bs:List Bool} (b:uU ap nid E len ps=some (v,ups,bs)):
  ∃ cv m' w',(Instr.buildSlice t len qs).run P w= .ok cv w'∧bY ap (dV g ups) m' S w'∧Fr g m S w (dV g ups) m' S w'∧VR (dV g ups) m' S v cv:=by
 unfold uU at b;split at b
 ·rename_i e hd;have j:=bind_some b;clear b;obtain ⟨l,a,b⟩:=j;obtain ⟨q,M,I,a⟩:=dZ u a;split at b
  ·rename_i f;simp only [ο] at f;have c:=gG f.1.1;have r:=gB f.1.2;have j:=bind_some b;clear b;obtain ⟨C,n,b⟩:=j;cases b;rw [B.d_eq] at hd;have hd:=iw hd;subst hd;have A:bF g m S (gQ len l.zero) (madeCells I.cells (len*q.size)).toList:=xA a _;obtain ⟨k,p,y,K⟩:=qx _ qs.toList _ C _ (uk (size:=l.size) L) A n;rw [a.size] at p;have o:(Instr.buildSlice t len qs).run P w= .ok (.slice (some ⟨w.heap.size,0,none⟩) len len) (w.alloc (.cells k e)):=by
    by_cases h0:len*q.size=0
    ·exact Dv B.und a.info h0 (by rw [h0] at p;simpa [madeCells,Array.range_zero'] using p)
    ·exact Gp B.und a.info a.zero (by rw [← a.size];exact r) h0 p
   have s:∀ x ∈ C,oW x=true:=EN n (IW a.zleaf);have D:k.size=len*q.size:=by rw [K,size_madeCells]
   have F:=h.fresh (nid:=nid) J (jk nid C l.size).2 (by have G:=a.small;have H:=a.size;show l.size ≠ iP;omega) len (w':=w.alloc (.cells k e)) (World.grownBy_alloc w _ none) (heap_alloc_new w _) (fun _=>rfl) (Xx1 _)
    (rest:= []) (by rw [Γ]) (fun hp=>gp _ y (rO hp)) y (Dy y s) (fun _=> ⟨by rw [D];simp [jk,a.size],by
     have G:len≤len*l.size:=Nat.le_mul_of_pos_right _ c;have N:(2:Nat)^24=16777216:=by decide
     simp only [maxLen];omega⟩)
   refine ⟨_,_,_,o,F.1,F.2, ?_⟩;exact Sm (Δ _) c (by have G:=a.small;have H:=a.size;omega)
  ·cases b
 ·cases b
theorem Zv {d:TypeDesc} {k e:Nat} (h:jZ P (some d)= .map k e):d= .map k e:=by cases d<;>simp [jZ] at h;obtain ⟨rfl,rfl⟩:=h;rfl
theorem UT {k:LK} {x y:AV} {u v:Value} (b:IB k x=true) (a:IB k y=true) (d:VR g m S x u) (c:VR g m S y v):
  uJ k u v=some (EM x y)∧(EM x y=true→u=v)∧(∀ n,Instr.sameBits n u u=true)∧d_ x= []:=by
 cases k<;>cases x<;>simp [IB] at b<;>cases y<;>simp [IB] at a<;>simp only [VR,PR] at d c<;>subst d<;>subst c
 ·refine ⟨by simp [uJ,EM,b,a],fun h=> ?_,fun n=>by simp [Instr.sameBits],rfl⟩;simp only [EM,beq_iff_eq] at h;rw [← gu b,← gu a,h]
 ·refine ⟨by simp [uJ,EM],fun h=> ?_,fun n=>by simp [Instr.sameBits],rfl⟩;simp only [EM,beq_iff_eq] at h;rw [h]
 ·refine ⟨by simp [uJ,EM,yB],fun h=> ?_,fun n=>by cases n<;>simp [Instr.sameBits,MapKept.bytes_beq],rfl⟩;simp only [EM,beq_iff_eq] at h;rw [h]
theorem oV:∀ {lks:List LK} {a b:List AV} {xs c:List Value},nN lks a=true→nN lks b=true→bF g m S a xs→bF g m S b c→
  dW lks xs c=some (Jt a b)∧(Jt a b=true→xs=c)∧(∀ n,∀ x ∈ xs,Instr.sameBits n x x=true)∧bV a= []
 | [],[],[],[],[],_,_,_,_=> ⟨rfl,fun _=>rfl,by simp,rfl⟩
 | k::lks,x::a,y::b,u::xs,v::c,ha,hb,h1,h2=>by
  simp only [nN,ο] at ha hb;simp only [bF] at h1 h2;obtain ⟨o,l,q,f⟩:=UT ha.1 hb.1 h1.1 h2.1;obtain ⟨i,j,p,e⟩:=oV ha.2 hb.2 h1.2 h2.2;refine ⟨by simp [dW,o,i,Jt],fun h=> ?_,fun n z d=> ?_,by simp [bV,f,e]⟩
  ·simp only [Jt,ο] at h;rw [l h.1,j h.2]
  ·rcases List.mem_cons.1 d with rfl|d
   ·exact q n
   ·exact p n z d
 | [],_::_,_,_,_,ha,_,_,_=>by simp [nN] at ha
 |_::_,[],_,_,_,ha,_,_,_=>by simp [nN] at ha
 | [],[],_::_,_,_,_,hb,_,_=>by simp [nN] at hb
 |_::_,_::_,[],_,_,_,hb,_,_=>by simp [nN] at hb
 | [],[],[],_::_,_,_,_,h1,_=>by simp [bF] at h1
 | [],[],[],[],_::_,_,_,_,h2=>by simp [bF] at h2
 |_::_,_::_,_::_,[],_,_,_,h1,_=>by simp [bF] at h1
 |_::_,_::_,_::_,_::_,[],_,_,_,h2=>by simp [bF] at h2
def adH (P:Program) (n:Nat) (t:TypeId) (lks:List LK):Prop:=
 ∀ (em:Bool) (d:Nat) (w:World) (xs:List Value),n≤d→dW lks xs xs=some true→(Instr.checkKey em d t (wu P t xs)).run P w= .ok () w
theorem vw {lks:List LK} {xs:List Value} {r:Bool} (h:dW lks xs xs=some r):dW lks xs xs=some true:=by
 induction lks generalizing xs r with
 |nil=>cases xs<;>simp [dW] at h ⊢
 | cons k lks ih=>
  cases xs with
  |nil=>simp [dW] at h
  | cons x xs=>
   simp only [dW] at h ⊢;obtain ⟨c,a,h⟩:=bind_some h;rw [Xqr] at h;obtain ⟨d,hd,rfl⟩:=h;have b:uJ k x x=some true:=by
    cases k<;>cases x<;>simp [uJ] at a ⊢
    split at a
    ·rename_i e;simp [e]
    ·cases a
   simp [b,ih hd]
theorem sK {n:Nat} (u:∀ t lks,jJ P n t=some lks→adH P n t lks):∀ (fs:List Field) (off:Nat) (lks:List LK),yU P (jJ P n) fs off=some lks→
  ∀ (em:Bool) (d:Nat) (w:World) (xs:List Value),n≤d→xs.length=off+lks.length→dW lks (xs.drop off) (xs.drop off)=some true→
   (forIn (m:=Sem) fs PUnit.unit fun f _=>do
    if f.name ≠ "_" then Instr.checkKey em d f.type (← part f.type xs.toArray f.offset)
    pure (ForInStep.yield PUnit.unit)).run P w= .ok PUnit.unit w
 | [],off,lks,hc,em,d,w,xs,hd,hx,h=>by simp
 | f ::fs,off,lks,hc,em,d,w,xs,hd,hx,h=>by
  simp only [yU] at hc;cases j:jJ P n f.type with
  |none=>simp [j] at hc
  | some l=>
   simp only [j] at hc;split at hc
   ·rename_i hcond;simp only [ο,Xqw] at hcond;obtain ⟨⟨v,p⟩,c⟩:=hcond;cases o:yU P (jJ P n) fs (off+l.length) with
    |none=>simp [o] at hc
    | some l'=>
     simp only [o] at hc;cases hc;cases s:P.info? f.type with
     |none=>simp [s] at c
     |some i=>
      simp only [s] at c;have c:=aU c;have p:=aU p;have q:f.name ≠ "_" :=by intro e;rw [e] at v;exact absurd v (by decide)
      simp only [η] at hx;obtain ⟨a,b,k,r,z⟩:=tN l l' _ _ true h;have k:=vw k;have r:=vw r;have A:=vX j s c xs off (by omega) w;have y:=u f.type l j em d w _ hd k;have x:=sK u fs (off+l.length) l' o em d w xs hd (by omega) (by simpa [Xjs,Nat.add_comm] using r);simp only [List.forIn_cons,Sem.run_bind,q,ne_eq,not_false_eq_true,if_true,Result.andThen_ok,p,A,y,Sem.run_pure];simpa using x
   ·cases hc
theorem Le:∀ (n:Nat) (t:TypeId) (lks:List LK),jJ P n t=some lks→adH P n t lks
 |0,_,_,h=>by simp [jJ] at h
 | n +1,t,lks,h=>by
  intro c d w xs hd b;obtain ⟨d,rfl⟩:∃ k,d=k+1:=⟨d - 1,by omega⟩
  have e:=qM _ _ _ _ b;unfold jJ at h;cases a:P.underlying t with
  |none=>simp [a] at h
  | some ds=>
   unfold Instr.checkKey;simp only [Sem.run_bind,run_underlying a,Result.andThen_ok,wu,a];cases ds<;>simp only [a] at h<;>try cases h
   case struct fs=>
    split at h
    ·cases h
    ·have:=sK (Le n) fs.toList 0 lks h c d w xs (by omega) (by simp [e.1]) (by simpa using b);simp only [← Array.forIn_toList];simpa using this
   all_goals (cases xs.headD undef<;>simp)
theorem E8 (e:iU P ap) {t:Nat} {h:TI} (d:ap.tyAt t=some h) {a b:List AV} {xs o:List Value} (c:h.cmp=true) (f:nN h.lks a=true) (n:nN h.lks b=true) (p:bF g m S a xs) (v:bF g m S b o) (s:∃ u,P.underlying t=some (.struct u)):
  (∀ k,(Instr.checkKey k 10000 t (.agg xs.toArray)).run P w= .ok () w)∧(Op.equal t (.agg xs.toArray) (.agg o.toArray)).run P w= .ok (Jt a b) w:=by
 obtain ⟨u,s⟩:=s;rw [(Ae e d).1] at c;rw [(Ae e d).2] at f n;unfold aaw at c;cases i:jJ P 8 t with
 |none=>simp [i] at c
 |some l=>
  simp only [i,ο,Xqw] at c;have j:=Fg c.1;rw [← j] at f n;have q:=EC 8 t l i 10000 w xs o _ (by omega) (oV f n p v).1;have r:=fun k=>Le 8 t l i k 10000 w xs (by omega) (vw (oV f f p p).1)
  simp only [wu,s] at q r;exact ⟨r,q⟩
theorem Ce {b:TI} {d:TypeDesc} (hd:b.d=jZ P (some d)) (hs:∀ fs,d ≠ .struct fs) {x:AV} {v:Value} (h:kX b x=true) (a:VR g m S x v):MapKept.IsKey d v:=by
 unfold kX at h;rw [hd] at h;cases d<;>simp only [jZ] at h<;>cases x<;>simp at h<;>simp only [VR,PR] at a<;>first|(exact absurd rfl (hs _))|(subst a;simp only [MapKept.IsKey])
 exact (gu h).symm
theorem XB {f:TI} {d:TypeDesc} (hd:f.d=jZ P (some d)) (hs:∀ fs,d ≠ .struct fs) {x y:AV} {u v:Value} (c:kX f x=true) (e:kX f y=true) (i:VR g m S x u) (h:VR g m S y v):Instr.sameNow d u v=some (xQ x y):=by
 unfold kX at c e;rw [hd] at c e;cases d<;>simp only [jZ] at c e<;>cases x<;>simp at c<;>cases y<;>simp at e<;>simp only [VR,PR] at i h<;>first|(exact absurd rfl (hs _))|(subst i;subst h;simp only [Instr.sameNow,xQ])
 ·rw [if_pos ((gu c).symm.trans (gu e))]
 ·rename_i a b;congr 1;rw [Bool.eq_iff_iff,MapKept.bytes_beq];simp
theorem Fq (h:bY ap g m S w) {rd:dJ} (k:∀ b B,rd b=some B→g b=some B) {x:AV} {t:Value} (p:VR g m S x t) {q:List AV × List AV} (a:Ye rd x=some q):
  ∃ d:Array MapEntry,((t= .map none∧d=#[])∨∃ b c,t= .map (some b)∧w.heap[b]? =some (.map d c))∧bF g m S q.1 (d.toList.map (·.key))∧bF g m S q.2 (d.toList.map (·.val)):=by
 unfold Ye at a;split at a
 ·rename_i ks vs;cases a;simp only [VR,PR] at p;rcases p with ⟨rfl,rfl,rfl⟩|⟨b,y,u,rfl,z,A,r,s⟩
  ·exact ⟨#[],.inl ⟨rfl,rfl⟩,by simp [bF],by simp [bF]⟩
  ·obtain ⟨d,c,o,i⟩:=wE (h.sealed _ _ _ z) rfl;obtain ⟨D,clk',n,j⟩:=wE (h.sealed _ _ _ A) rfl;rw [o] at n;cases n;have i:Value.agg (d.map (·.key))= .agg y.toArray:=Option.some.inj i;have j:Value.agg (d.map (·.val))= .agg u.toArray:=Option.some.inj j;have i:=Value.agg.inj i;have j:=Value.agg.inj j;refine ⟨d,.inr ⟨b,c,rfl,o⟩, ?_, ?_⟩
   ·rw [← Array.toList_map,i];exact b_ _ r
   ·rw [← Array.toList_map,j];exact b_ _ s
 ·rename_i b ver;have E:=bind_some a;clear a;obtain ⟨B,v,a⟩:=E;split at a
  ·rename_i f;simp only [ο] at f;split at a
   ·rename_i ks vs hcells;cases a;simp only [VR] at p;obtain ⟨B',l,_,_,q⟩:=p;rw [k b B v] at l;cases l;have q:=q (aU f.1);obtain ⟨⟨cur,e,C,rest,k1,k2,_,k4,_,_⟩,_,_⟩:=h.blk b B (k b B v);obtain ⟨d,c,o,rfl⟩:=k1.map (aU f.2);rw [hcells] at k4
    match C,k4 with
    | [u0,u1],k4=>
     simp only [bF,VR,and_true] at k4;obtain ⟨⟨y,rfl,r⟩,u,rfl,s⟩:=k4;simp only [yc,Xxd,List.cons.injEq] at k2;have i:=Value.agg.inj k2.1;have j:=Value.agg.inj k2.2.1;refine ⟨d,.inr ⟨_,c,q,o⟩, ?_, ?_⟩
     ·rw [← Array.toList_map,i];exact r
     ·rw [← Array.toList_map,j];exact s
    | [],k4=>simp [bF] at k4
    | [_],k4=>simp [bF] at k4
    |_::_::_::_,k4=>simp [bF] at k4
   ·cases a
  ·cases a
 ·cases a
structure ZX (P:Program) (g:dJ) (m:bf) (S:aZ) (w:World) (t:Nat) (ti:TI) (d:TypeDesc) (k:AV) (ck:Value):Prop where
 chk:∀ em,(Instr.checkKey em 10000 t ck).run P w= .ok () w
 stay:(Instr.keyThatStays ck ck).run P w= .ok ck w
 eqs:∀ {k' ck'},kX ti k'=true→VR g m S k' ck'→((match d with| .struct _=>(Op.equal t ck ck').run P w= .ok (xQ k k') w|_=>Instr.sameNow d ck ck'=some (xQ k k'))∧(xQ k k'=true→ck=ck'))
theorem IC (B:iU P ap) {t:Nat} {s:TI} {i:TypeInfo} {d:TypeDesc} {z:Value} (C:ap.tyAt t=some s) (v:Dx P t s i d z) {k:AV} {ck:Value} (q:kX s k=true) (D:VR g m S k ck):ZX P g m S w t s d k ck:=by
 by_cases hs:∃ o,d= .struct o
 ·obtain ⟨o,rfl⟩:=hs;have hd:=v.d_eq;have J:∀ {x:AV},kX s x=true→∃ l,x= .agg l∧s.cmp=true∧nN s.lks l=true:=by
   intro x j;unfold kX at j;rw [hd] at j;cases x<;>simp [jZ] at j
   exact ⟨_,rfl,j⟩
  obtain ⟨l,rfl,H,y⟩:=J q;have O:=D;simp only [VR] at D;obtain ⟨xs,rfl,j⟩:=D;refine ⟨(E8 B C H y y j j ⟨o,v.und⟩).1, ?_, ?_⟩
  ·have U:Instr.sameBits 10000 (.agg xs.toArray) (.agg xs.toArray)=true:=by
    show Instr.sameBits (9999+1) _ _=true;have N:=(oV y y j j).2.2.1 9999;simp only [Instr.sameBits,beq_self_eq_true,Bool.true_and,List.all_eq_true];intro p hp;obtain ⟨a,b⟩:=p;have R:∀ l:List Value,(a,b) ∈ l.zip l→a=b∧a ∈ l:=by
     intro l
     induction l with
     |nil=>intro h;simp at h
     |cons c l ih=>
      intro h;simp only [List.zip_cons_cons,List.mem_cons,Prod.mk.injEq] at h;rcases h with ⟨rfl,rfl⟩|h
      ·exact ⟨rfl,by simp⟩
      ·exact ⟨(ih h).1,List.mem_cons_of_mem _ (ih h).2⟩
    obtain ⟨rfl,M⟩:=R xs hp;exact N a M
   simp [Instr.keyThatStays,U]
  ·intro V G f n;obtain ⟨X,rfl,_,A⟩:=J f;simp only [VR] at n;obtain ⟨W,rfl,L⟩:=n;refine ⟨(E8 B C H y A j L ⟨o,v.und⟩).2,fun F=> ?_⟩;rw [(oV y A j L).2.1 F]
 ·have hs:∀ o,d ≠ .struct o:=fun o e=>hs ⟨o,e⟩
  have u:=Ce v.d_eq hs q D;refine ⟨fun T=>MapKept.run_checkKey v.und u T 9999,MapKept.run_keyThatStays u, ?_⟩;intro V G f n;have I:=XB v.d_eq hs q f D n;have Q:=MapKept.sameNow_of_keys u (Ce v.d_eq hs f n);refine ⟨?_,fun F=> ?_⟩
  ·cases d<;>first|exact I|exact absurd rfl (hs _)
  ·obtain ⟨r,K,E⟩:=Q;rw [I] at K;cases K;exact E.1 F
def j_ (P:Program) (w:World) (t:Nat) (d:TypeDesc) (ck:Value) (l:List MapEntry) (i:Nat) (r:Option (Nat × Value)):Prop:=
 match d with
 | .struct _=>(Instr.findAsking t ck l i).run P w= .ok r w
 |_=>Instr.findNow d ck l i=some r
theorem j_.nil {t:Nat} {d:TypeDesc} {ck:Value} {i:Nat}:j_ P w t d ck [] i none:=by
 unfold j_;cases d<;>first|rfl|simp [Instr.findAsking]
theorem j_.hit {t:Nat} {c:TI} {d:TypeDesc} {k b:AV} {ck:Value} {e:MapEntry} {l:List MapEntry} {i:Nat} (h:ZX P g m S w t c d k ck) (a:kX c b=true) (j:VR g m S b e.key) (f:xQ k b=true):j_ P w t d ck (e::l) i (some (i,e.val)):=by
 have q:=(h.eqs a j).1;rw [f] at q;unfold j_;cases d<;>simp only at q ⊢ <;>first|(simp [Instr.findAsking,q];done)|(simp [Instr.findNow,q];done)
theorem j_.miss {t:Nat} {f:TI} {d:TypeDesc} {k c:AV} {ck:Value} {e:MapEntry} {l:List MapEntry} {i:Nat} {r:Option (Nat × Value)} (h:ZX P g m S w t f d k ck) (b:kX f c=true) (n:VR g m S c e.key) (j:xQ k c=false) (a:j_ P w t d ck l (i+1) r):j_ P w t d ck (e::l) i r:=by
 have q:=(h.eqs b n).1;rw [j] at q;unfold j_ at a ⊢;cases d<;>simp only at q a ⊢ <;>first|(simp [Instr.findAsking,q,a];done)|(simp [Instr.findNow,q,a];done)
theorem j_.run {t:Nat} {c:TI} {i:TypeInfo} {d:TypeDesc} {z:Value} (b:Dx P t c i d z) {ck:Value} {l:List MapEntry} {r:Option (Nat × Value)} (h:j_ P w t d ck l 0 r):(Instr.findKey t ck l).run P w= .ok r w:=by
 by_cases hs:∃ a,d= .struct a
 ·obtain ⟨a,rfl⟩:=hs;simp only [j_] at h;cases l with
  |nil=>
   simp [Instr.findAsking] at h;subst h;simp [Instr.findKey,run_underlying b.und,Result.andThen,Instr.findNow]
  |cons e l=>
   simp only [Instr.findKey,Sem.run_bind,run_underlying b.und,Result.andThen_ok,Instr.findNow,Instr.sameNow];exact h
 ·have hs:∀ a,d ≠ .struct a:=fun a e=>hs ⟨a,e⟩
  refine MapKept.run_findKey b.und ?_;unfold j_ at h;cases d<;>first|exact h|exact absurd rfl (hs _)
theorem vC {t:Nat} {p:TI} {d:TypeDesc} {k v:AV} {ck cv:Value} (b:ZX P g m S w t p d k ck) (q:VR g m S v cv):∀ (l:List MapEntry) (ks vs:List AV) (i:Nat),bF g m S ks (l.map (·.key))→bF g m S vs (l.map (·.val))→ks.all (kX p)=true→
  (j_ P w t d ck l i none∧dY ks vs k=none∧ks.any (xQ k)=false∧qh ks vs k v=vs++ [v])∨
  ∃ j e x,j_ P w t d ck l i (some (i+j,e.val))∧l[j]? =some e∧e.key=ck∧dY ks vs k=some x∧VR g m S x e.val∧ks.any (xQ k)=true∧bF g m S (qh ks vs k v) ((l.set j {e with key:=ck,val:=cv}).map (·.val))
 | [],ks,vs,i,h1,h2,_=>by
  cases ks with
  |cons _ _=>simp [bF] at h1
  |nil=>
   cases vs with
   |cons _ _=>simp [bF] at h2
   |nil=>exact .inl ⟨j_.nil,rfl,rfl,rfl⟩
 | e ::l,ks,vs,i,h1,h2,ha=>by
  cases ks with
  |nil=>simp [bF] at h1
  | cons k0 ks=>
   cases vs with
   |nil=>simp [bF] at h2
   | cons v0 vs=>
    simp only [Xqb,bF] at h1 h2;simp only [Xj3,ο] at ha;cases a:xQ k k0 with
    |true=>
     have c:e.key=ck:=((b.eqs ha.1 h1.1).2 a).symm;refine .inr ⟨0,e,v0,j_.hit b ha.1 h1.1 a,rfl,c, ?_,h2.1, ?_, ?_⟩
     ·simp [dY,a]
     ·simp [a]
     ·simp only [qh,a,List.set_cons_zero,Xqb,bF];exact ⟨q,h2.2⟩
    | false=>
     rcases vC b q l ks vs (i+1) h1.2 h2.2 ha.2 with ⟨n,f,o,h⟩|⟨j,e',x,n,f,o,h,r,u,s⟩
     ·refine .inl ⟨j_.miss b ha.1 h1.1 a n, ?_, ?_, ?_⟩
      ·simp [dY,a,f]
      ·simp only [Xv0,a,o];rfl
      ·simp [qh,a,h]
     ·refine .inr ⟨j+1,e',x, ?_,by simpa using f,o, ?_,r, ?_, ?_⟩
      ·rw [show i+(j+1)=i+1+j by omega];exact j_.miss b ha.1 h1.1 a n
      ·simp [dY,a,h]
      ·simp only [Xv0,a,u];rfl
      ·simp only [qh,a,List.set_cons_succ,Xqb,bF];exact ⟨h2.1,s⟩
theorem Cf {ok:Bool} {o:Option AV} {z:AV} {u c:Value} {b:Bool} (h:(o=none∧u=c∧b=false)∨∃ x,o=some x∧VR g m S x u∧b=true) (e:VR g m S z c):VR g m S (Ru ok o z) (if ok then .tuple #[u,.bool b] else u):=by
 have a:VR g m S (o.getD z) u∧o.isSome=b:=by
  rcases h with ⟨rfl,rfl,rfl⟩|⟨x,rfl,d,rfl⟩
  ·exact ⟨e,rfl⟩
  ·exact ⟨d,rfl⟩
 cases ok with
 |true=>
  simp only [Ru,if_true,VR];refine ⟨[u,.bool b],rfl, ?_⟩;simp only [bF,VR,PR,and_true];exact ⟨a.1,by rw [a.2]⟩
 |false=>simpa [Ru] using a.1
theorem Hq (n:iU P ap) (h:bY ap g m S w) {rd:dJ} (D:∀ b B,rd b=some B→g b=some B) {t:Nat} {I:TI} {i:TypeInfo} {d:TypeDesc} {z:Value} (A:Dx P t I i d z) {x k v:AV} {K ck:Value} (V:VR g m S x K) (J:VR g m S k ck) {ok:Bool}
  {ups:List (Nat × bg)} {bs:List Bool} (c:JJ ap I rd x k ok=some (v,ups,bs)) (p:∀ b ∈ bs,b=true):
  ups= []∧∃ cv,(Instr.lookup t K ck ok).run P w= .ok cv w∧VR g m S v cv:=by
 unfold JJ at c;split at c
 ·rename_i kt et hd;have r:=bind_some c;clear c;obtain ⟨tk,a,c⟩:=r;have r:=bind_some c;clear c;obtain ⟨Z,f,c⟩:=r;have r:=bind_some c;clear c;obtain ⟨q,r,c⟩:=r;have E:=bind_some c;clear c;obtain ⟨O,C,c⟩:=E;obtain ⟨rfl,rfl,rfl⟩:=aX c;have H:=a;obtain ⟨ik,dk,zk,a⟩:=dZ n a;obtain ⟨X,Y,N,f⟩:=dZ n f;rw [A.d_eq] at hd;have hd:=Zv hd;subst hd;obtain ⟨W,p⟩:=dC p;obtain ⟨T,_⟩:=dC p;obtain ⟨L,s,v1,R⟩:=Fq h D V r;have l:=IC (w:=w) n H a W J;have u:VR g m S O N:=yf f C;refine ⟨rfl, ?_⟩;rcases vC l J L.toList q.1 q.2 0 v1 R T with ⟨o,Q,_,_⟩|⟨j,e,y,o,_,_,U,M,_,_⟩
  ·refine ⟨_, ?_,Cf (.inl ⟨Q,rfl,rfl⟩) u⟩;rcases s with ⟨rfl,rfl⟩|⟨b,F,rfl,G⟩
   ·simp [Instr.lookup,run_underlying A.und,l.chk,o.run a,zeroValue,typeInfo,f.info,f.zero,Result.andThen]
   ·simp [Instr.lookup,run_underlying A.und,MapKept.run_getObj_map G,l.chk,o.run a,zeroValue,typeInfo,f.info,f.zero,Result.andThen]
  ·refine ⟨_, ?_,Cf (.inr ⟨y,U,M,rfl⟩) u⟩;rcases s with ⟨rfl,rfl⟩|⟨b,F,rfl,G⟩
   ·have o:=o.run a;simp [Instr.findKey,run_underlying a.und,Result.andThen,Instr.findNow] at o
   ·simp [Instr.lookup,run_underlying A.und,MapKept.run_getObj_map G,l.chk,o.run a,Result.andThen]
 ·cases c
mutual
theorem Qs {S:aZ}:∀ (x:AV) {v:Value},PR S x v→d_ x= []
 | .int _ _,_,_=>rfl
 | .bool _,_,_=>rfl
 | .str _,_,_=>rfl
 | .nilS,_,_=>rfl
 | .nilP,_,_=>rfl
 | .nilF,_,_=>rfl
 | .nilI,_,_=>rfl
 | .sl _ _ _,_,_=>rfl
 | .pp _ _,_,_=>rfl
 | .mp _ _,_,_=>rfl
 | .dead,_,_=>rfl
 | .own _ _ _,_,p=>by simp only [PR] at p
 | .ref _ _ _ _,_,p=>by simp only [PR] at p
 | .ptr _ _ _,_,p=>by simp only [PR] at p
 | .mr _ _,_,p=>by simp only [PR] at p
 | .agg l,_,p=>by
  simp only [PR] at p;simp only [d_];obtain ⟨_,_,q⟩:=p;exact ry l q
 | .tup l,_,p=>by
  simp only [PR] at p;simp only [d_];obtain ⟨_,_,q⟩:=p;exact ry l q
 | .fn f a c,_,p=>by
  simp only [PR] at p;simp only [d_];obtain ⟨_,_,_,q,r⟩:=p;rw [ry a q,ry c r];rfl
 | .ifc t x,_,p=>by
  simp only [PR] at p;simp only [d_];obtain ⟨_,_,q⟩:=p;exact Qs x q
theorem ry {S:aZ}:∀ (l:List AV) {vs:List Value},eG S l vs→bV l= []
 | [],_,_=>rfl
 |x::r,v::vs,p=>by simp only [eG] at p;simp only [bV,Qs x p.1,ry r p.2,Γ]
 |_::_,[],p=>by simp [eG] at p
end
theorem IM (h:bY ap g m S w) {b:Nat} {B:bg} {a:Array MapEntry} {clk':Nat} {k:Nat} {w':World} (r:w'.heap[k]? =some (.map a clk')) (i:B.esz=iP) {ks vs:List AV} (e:B.cells= [.agg ks,.agg vs]) (o:bF g m S ks (a.toList.map (·.key))) (n:bF g m S vs (a.toList.map (·.val))) (hp:B.pr=true→bV vs= []∧bV ks= []) (d:B.fro=false→B.fz=0) (f:B.fz≤2) (c:Nat):TY g m S w' B k c:=by
 refine ⟨⟨yc a,0,[.agg (a.map (·.key)),.agg (a.map (·.val))],[],.inr ⟨i,a,clk',r,rfl⟩,rfl, ?_, ?_,fun j=>absurd i j,fun _ j=>absurd i j⟩,d,by rw [e];exact f⟩
 ·intro l;obtain ⟨q,p⟩:=hp l;rw [e];simp only [eG,PR,and_true];exact ⟨⟨(a.map (·.key)).toList,by rw [Array.toArray_toList],by rw [Array.toList_map];exact gp _ o p⟩,(a.map (·.val)).toList,by rw [Array.toArray_toList],by rw [Array.toList_map];exact gp _ n q⟩
 ·rw [e];simp only [bF,VR,and_true];exact ⟨⟨(a.map (·.key)).toList,by rw [Array.toArray_toList],by rw [Array.toList_map];exact o⟩,(a.map (·.val)).toList,by rw [Array.toArray_toList],by rw [Array.toList_map];exact n⟩
theorem Hr (h:bY ap g m S w) {nid:Nat} (e:g nid=none) (t:Nat):
  ∃ cv m' w',(Instr.makeMap t none).run P w= .ok cv w'∧bY ap (dV g [(nid,⟨[.agg [],.agg []],0,false,0,iP,true⟩)]) m' S w'∧Fr g m S w (dV g [(nid,⟨[.agg [],.agg []],0,false,0,iP,true⟩)]) m' S w'∧VR (dV g [(nid,⟨[.agg [],.agg []],0,false,0,iP,true⟩)]) m' S (.mr nid 0) cv:=by
 have a:=h.put nid ⟨[.agg [],.agg []],0,false,0,iP,true⟩ w.heap.size 0 (w':=w.alloc (.map #[] 0)) (.inl (Δ _)) (World.grownBy_alloc w _ _)
  (IM h (b:=nid) (heap_alloc_new w _) rfl rfl (by simp [bF]) (by simp [bF]) (fun _=> ⟨rfl,rfl⟩) (fun _=>rfl) (Xx1 _) 0)
  (fun B0 c=>by rw [e] at c;cases c) (fun o v d=>absurd (h.seal_lt d) (Xvx _))
 refine ⟨.map (some w.heap.size),_,_, ?_,a.1,a.2, ?_⟩
 ·simp [Instr.makeMap,Result.andThen]
 ·simp only [VR];exact ⟨_,oI _ _ _,Δ _,⟨_,rfl⟩,fun _=>by simp [kM]⟩
theorem E5:∀ (lks:List LK) (l:List AV),nN lks l=true→bV l= []
 | [],[],_=>rfl
 |k::lks,x::l,h=>by
  simp only [nN,ο] at h;have a:d_ x= []:=by cases k<;>cases x<;>first|rfl|(have:=h.1;simp [IB] at this)
  simp only [bV,a,E5 lks l h.2,Γ]
 | [],_::_,h=>by simp [nN] at h
 |_::_,[],h=>by simp [nN] at h
theorem BF:∀ (l:List AV) (b:TI),l.all (kX b)=true→bV l= []
 | [],_,_=>rfl
 | x::r,b,h=>by
  simp only [Xj3,ο] at h;have c:d_ x= []:=by
   have a:=h.1;unfold kX at a;split at a<;>first|rfl|(cases a;done)|skip
   simp only [ο] at a;simp only [d_];exact E5 _ _ a.2
  simp only [bV,c,BF r b h.2,Γ]
theorem Gi:∀ (ks vs:List AV) (k v:AV),bV vs= []→d_ v= []→bV (qh ks vs k v)= []
 | [],_,k,v,_,h2=>by simp [qh,bV,h2]
 |_::_,[],k,v,_,h2=>by simp [qh,bV,h2]
 |k0::ks,v0::vs,k,v,h1,h2=>by
  simp only [bV,Xj0] at h1;simp only [qh];split
  ·simp [bV,h1.2,h2]
  ·simp [bV,h1.1,Gi ks vs k v h1.2 h2]
theorem xG (J:iU P ap) (h:bY ap g m S w) {rd:dJ} (L:∀ b B,rd b=some B→g b=some B) {t:Nat} {ti:TI} {i:TypeInfo} {d:TypeDesc} {z:Value} (ht:Dx P t ti i d z) {x k v r:AV} {cx ck cv:Value} (hx:VR g m S x cx) (hk:VR g m S k ck) (hv:VR g m S v cv)
  {ups:List (Nat × bg)} {bs:List Bool} (f:Ea ap ti rd x k v=some (r,ups,bs)) (H:∀ b ∈ bs,b=true):
  r= .dead∧∃ E w',(Instr.mapUpdate t cx ck cv).run P w= .ok () w'∧bY ap (dV g ups) E S w'∧Fr g m S w (dV g ups) E S w':=by
 unfold Ea at f;split at f
 ·rename_i kt et b ver hd;have V:=bind_some f;clear f;obtain ⟨tk,p,f⟩:=V;have V:=bind_some f;clear f;obtain ⟨B,hB,f⟩:=V;split at f
  ·rename_i l;simp only [ο,Xqw] at l;split at f
   ·rename_i ks vs hcells;cases f;have hkt:=p;obtain ⟨ik,dk,zk,p⟩:=dZ J p;rw [ht.d_eq] at hd;have hd:=Zv hd;subst hd;obtain ⟨b1,H⟩:=dC H;obtain ⟨b2,_⟩:=dC H;have a:=L b B hB;have hz:=aU l.1.2;have X:Ye rd (.mr b ver)=some (ks,vs):=by
     unfold Ye;simp only [hB,Option.bind_some,l.1.1,l.1.2,Bool.and_self,hcells]
    obtain ⟨s,T,v1,v2⟩:=Fq h L hx X;have C:=IC (w:=w) J hkt p b1 hk;simp only [VR] at hx;obtain ⟨B',M,_,_,q⟩:=hx;rw [a] at M;cases M;have q:=q (aU l.1.1);subst q;rcases T with ⟨e,_⟩|⟨b0,G,e,R⟩
    ·cases e
    cases e;have hlt:(m b).1<w.heap.size:=h.lt a;obtain ⟨_,k7,k8⟩:=h.blk b B a;have key:∀ (c:Array MapEntry) (clk':Nat),bF g m S (yg ks k) (c.toList.map (·.key))→bF g m S (qh ks vs k v) (c.toList.map (·.val))→
      ∃ E,bY ap (dV g [(b,{B with cells:= [.agg (yg ks k),.agg (qh ks vs k v)],pr:=B.pr && (d_ v).isEmpty})]) E S {w with heap:=w.heap.setIfInBounds (m b).1 (.map c clk')}∧Fr g m S w (dV g [(b,{B with cells:= [.agg (yg ks k),.agg (qh ks vs k v)],pr:=B.pr && (d_ v).isEmpty})]) E S {w with heap:=w.heap.setIfInBounds (m b).1 (.map c clk')}:=by
     intro c clk' w1 w2;have F:=h.put b {B with cells:= [.agg (yg ks k),.agg (qh ks vs k v)],pr:=B.pr && (d_ v).isEmpty} (m b).1 (m b).2 (w':={w with heap:=w.heap.setIfInBounds (m b).1 (.map c clk')})
      (.inr ⟨B,a,rfl⟩) ⟨rfl,rfl,rfl,by simp,fun k' _ W=>by simp [show (m b).1 ≠ k' from fun e=>W (by rw [e])]⟩
      (IM h (b:=b) (B:={B with cells:= [.agg (yg ks k),.agg (qh ks vs k v)],pr:=B.pr && (d_ v).isEmpty}) (w':={w with heap:=w.heap.setIfInBounds (m b).1 (.map c clk')}) (k:=(m b).1) (clk':=clk') (by simp [hlt]) hz rfl w1 w2 (fun A=>by
       have A:(B.pr && (d_ v).isEmpty)=true:=A;simp only [ο] at A;obtain ⟨⟨cur,e,us,rest,k1,k2,k3,k4,_,_⟩,_,_⟩:=h.blk b B a;have Z:bV B.cells= []:=ry _ (k3 A.1);rw [hcells] at Z;simp only [bV,d_,Γ,Xj0] at Z;refine ⟨Gi _ _ _ _ Z.2 (rO A.2), ?_⟩;have N:=BF ks _ b2;unfold yg;split
       ·exact N
       ·rw [uw,N];exact BF [k] tk (by simp [b1])) k7 (by rw [hcells] at k8;exact k8) (m b).2)
      (fun B0 h0=>by rw [a] at h0;cases h0;exact ⟨rfl,.inl ⟨rfl,rfl⟩⟩)
      (fun o u hu=>by
       have:=(h.own b B a o u hu).1;rw [l.2] at this;cases this)
     exact ⟨_,F.1,F.2⟩
    refine ⟨rfl, ?_⟩;rcases vC C hv s.toList ks vs 0 v1 v2 b2 with ⟨Q,r2,r3,r4⟩|⟨j,e,y,Q,Y,rk,r4,r5,r6,r7⟩
    ·obtain ⟨E,U,s2⟩:=key (s.push {key:=ck,val:=cv,born:=G}) (G+1)
      (by unfold yg;rw [r3,Array.toList_push,Xxx];exact iC v1 (by simp only [Xqb,Xxt,bF,and_true];exact hk))
      (by rw [r4,Array.toList_push,Xxx];exact iC v2 (by simp only [Xqb,Xxt,bF,and_true];exact hv))
     refine ⟨E,_, ?_,U,s2⟩;simp [Instr.mapUpdate,run_underlying ht.und,MapKept.run_getObj_map R,C.chk,Q.run p,MapKept.run_setObj_map _ R,Result.andThen]
    ·have D:s[j]? =some e:=by simpa using Y
     have K:(s.modify j fun e=> {e with key:=ck,val:=cv}).toList=s.toList.set j {e with key:=ck,val:=cv}:=by
      apply Xj1;intro n;simp only [Array.getElem?_toList,Array.getElem?_modify,Xzp];by_cases hjn:j=n
      ·subst hjn;have I:j<s.toList.length:=(List.getElem?_eq_some_iff.1 Y).1;rw [if_pos rfl,if_pos rfl,if_pos I,D];rfl
      ·rw [if_neg hjn,if_neg hjn]
     obtain ⟨E,U,s2⟩:=key (s.modify j fun e=> {e with key:=ck,val:=cv}) G
      (by
       unfold yg;rw [r6,K];have:(s.toList.set j {e with key:=ck,val:=cv}).map (·.key)=s.toList.map (·.key):=by
        apply Xj1;intro n;simp only [Xq6,Xzp];by_cases hjn:j=n
        ·subst hjn;have I:j<s.toList.length:=(List.getElem?_eq_some_iff.1 Y).1;have O:j<s.size:=by simpa using I
         have hge:s[j]=e:=by rw [Array.getElem?_eq_getElem O] at D;exact Option.some.inj D
         simp [O,hge,rk]
        ·simp [hjn]
       rw [this];exact v1)
      (by rw [K];exact r7)
     refine ⟨E,_, ?_,U,s2⟩;rw [Xqd] at Q;simp [Instr.mapUpdate,run_underlying ht.und,MapKept.run_getObj_map R,C.chk,Q.run p,D,rk,C.stay,MapKept.run_setObj_map _ R,Result.andThen]
   ·cases f
  ·cases f
 ·cases f
end
end AM
namespace AM
open Go
section
variable {P:Program} {ap:AP} {g:dJ} {m:bf} {S:aZ} {w:World}
theorem wB {ρ:Operand→AV} {cρ:Operand→Value}:∀ (l:List Operand),(∀ o ∈ l,VR g m S (ρ o) (cρ o))→bF g m S (l.map ρ) (l.map cρ)
 | [],_=>by simp [bF]
 |o::r,h=>by simp only [Xqb,bF];exact ⟨h o (by simp),wB r fun o a=>h o (by simp [a])⟩
theorem Eg {ρ:Operand→AV} {cρ:Operand→Value}:∀ (l:List (Nat × Operand)),(∀ o ∈ l.map (·.2),VR g m S (ρ o) (cρ o))→yH g m S (l.map fun (i,x)=>(i,ρ x)) (l.map fun (i,x)=>(i,cρ x))
 | [],_=>by simp [yH]
 |(i,o)::r,h=>by simp only [Xqb,yH];exact ⟨trivial,h o (by simp),Eg r fun o a=>h o (by simp [a])⟩
def iV (P:Program) (ap:AP) (g:dJ) (m:bf) (S:aZ) (w:World) (s:Sem Next) (v:AV) (ups:List (Nat × bg)):Prop:=
 ∃ nx m' w',s.run P w= .ok nx w'∧bY ap (dV g ups) m' S w'∧Fr g m S w (dV g ups) m' S w'∧((∃ cv,nx= .value cv∧VR (dV g ups) m' S v cv)∨(nx= .skip∧v= .dead))
theorem iV.pur (h:bY ap g m S w) {s:Sem Value} {v:AV} {ups:List (Nat × bg)} (hs:ups= []∧∃ cv,s.run P w= .ok cv w∧VR g m S v cv):iV P ap g m S w (do pure (.value (← s))) v ups:=by
 obtain ⟨rfl,cv,b,a⟩:=hs;exact ⟨.value cv,m,w,by simp [b],by rw [fP];exact h,by rw [fP];exact Fr.refl _ _ _ _,.inl ⟨cv,rfl,by rw [fP];exact a⟩⟩
theorem iV.full {s:Sem Value} {v:AV} {ups:List (Nat × bg)} (hs:∃ cv a w',s.run P w= .ok cv w'∧bY ap (dV g ups) a S w'∧Fr g m S w (dV g ups) a S w'∧VR (dV g ups) a S v cv):iV P ap g m S w (do pure (.value (← s))) v ups:=by
 obtain ⟨cv,a,w',e,c,b,d⟩:=hs;exact ⟨.value cv,a,w',by simp [e],c,b,.inl ⟨cv,rfl,d⟩⟩
theorem iV.val (h:bY ap g m S w) {s:Sem Next} {v:AV} {cv:Value} (hs:s.run P w= .ok (.value cv) w) (a:VR g m S v cv):iV P ap g m S w s v []:=
 ⟨.value cv,m,w,hs,by rw [fP];exact h,by rw [fP];exact Fr.refl _ _ _ _,.inl ⟨cv,rfl,by rw [fP];exact a⟩⟩
theorem Ec {ρ:Operand→AV} {cρ:Operand→Value} (x:Option Operand) (h:∀ o ∈ x.toArray,VR g m S (ρ o) (cρ o)):Eb g m S (x.map ρ) (x.map cρ):=by
 cases x with
 |none=>simp [Eb]
 |some o=>simp only [Xjn,Eb];exact h o (by simp)
theorem Lm (a:iU P ap) {t:Nat} {b:TI} (h:ap.tyAt t=some b) (hd:b.d ≠ .iface):P.concrete t=true:=by
 obtain ⟨i,d,z,c⟩:=dZ a h;have:=c.d_eq;simp only [Program.concrete,c.und];cases d<;>simp_all [jZ]
set_option maxHeartbeats 1000000 in
theorem Vd (j:iU P ap) (D:bY ap g m S w) {nid:Nat} (W:g nid=none) {ρ:Operand→AV} {cρ:Operand→Value} {rd:dJ} (I:∀ b B,rd b=some B→g b=some B) (o:Oper) (hρ:∀ x ∈ o.op.operands,VR g m S (ρ x) (cρ x))
  {dec:Operand→Option Bool} (hdec:∀ x ∈ o.op.operands,∀ b,dec x=some b→cρ x= .bool b) {em:Bool} (hem:∀ n,zi ρ o.op=some n→Xqn n 0=em)
  {v:AV} {ups:List (Nat × bg)} {bs:List Bool} (h:opA ap nid ρ rd dec em o.op=some (v,ups,bs)) (hbs:∀ b ∈ bs,b=true):iV P ap g m S w (execOp cρ o) v ups:=by
 unfold opA at h;unfold execOp;split at h<;>rename_i heq<;>simp only [heq,Op.operands] at hρ hdec hem ⊢
 ·obtain ⟨rfl,rfl,rfl⟩:=aX h;exact iV.val D (by simp) (hρ _ (by simp))
 ·obtain ⟨rfl,rfl,rfl⟩:=aX h;exact iV.val D (by simp) (hρ _ (by simp))
 ·
  rename_i c a b;split at h
  ·rename_i hd;obtain ⟨rfl,rfl,rfl⟩:=aX h;have:=hdec c (by simp) _ hd;exact iV.val D (by simp [this,asBool]) (hρ _ (by simp))
  ·rename_i hd;obtain ⟨rfl,rfl,rfl⟩:=aX h;have:=hdec c (by simp) _ hd;exact iV.val D (by simp [this,asBool]) (hρ _ (by simp))
  ·split at h
   ·rename_i bc ba bb e1 e2 e3;obtain ⟨rfl,rfl,rfl⟩:=aX h;have F:=hρ c (by simp);have G:=hρ a (by simp);have M:=hρ b (by simp);rw [e1] at F;rw [e2] at G;rw [e3] at M;simp only [VR,PR] at F G M;refine iV.val D (cv:= .bool (cond bc ba bb)) ?_ (by simp only [VR,PR]);rw [F,G,M];cases bc<;>simp [asBool]
   ·cases h
 ·
  rename_i e;have A:=bind_some h;clear h;obtain ⟨Z,K,h⟩:=A;obtain ⟨ie,de,ze,C⟩:=dZ j K;split at h
  ·rename_i R;simp only [ο] at R;cases h;obtain ⟨N,w',F,G,M,h4⟩:=Ig (P:=P) D W (cells:=Z.zero) (cv:=ze) (rF C) C.zleaf (fun u hu=>Dy (g:=g) (m:=m) (S:=S) (rF C) C.zleaf u (by simpa using hu)) e;refine iV.full ⟨.pointer (some ⟨w.heap.size,0,none⟩),N,w', ?_,G,M,RV h4⟩;simp [Instr.alloc,zeroValue,typeInfo,C.info,C.zero,F]
  ·cases h
 ·
  rename_i e x;have A:=bind_some h;clear h;obtain ⟨Z,K,h⟩:=A;obtain ⟨ie,de,ze,C⟩:=dZ j K;simp only at h;split at h
  ·rename_i R;simp only [ο] at R;cases h;have E:=hρ x (by simp);have hl:∀ y ∈ (ρ x).cells,oW y=true:=fun y hy=>List.all_eq_true.1 R.2 y hy
   obtain ⟨hv1,hv2⟩:=Ej E hl;obtain ⟨N,w',F,G,M,h4⟩:=Ig (P:=P) D W (cells:=(ρ x).cells) (cv:=cρ x) hv1 hl hv2 e;refine iV.full ⟨.pointer (some ⟨w.heap.size,0,none⟩),N,w', ?_,G,M,RV h4⟩;simp [Instr.box,F]
  ·cases h
 ·
  rename_i t parts;have A:=bind_some h;clear h;obtain ⟨L,q,h⟩:=A;obtain ⟨i,d,z,C⟩:=dZ j q;refine iV.pur D ?_;refine Ji j C (qs:=parts.map fun (i,x)=>(i,cρ x)) ?_ h;rw [Array.toList_map];exact Eg parts.toList fun x E=>hρ x (by simpa using E)
 ·
  rename_i t len parts;have A:=bind_some h;clear h;obtain ⟨L,q,h⟩:=A;obtain ⟨i,d,z,C⟩:=dZ j q;refine iV.full ?_;refine yO j D W C (qs:=parts.map fun (i,x)=>(i,cρ x)) ?_ h;rw [Array.toList_map];exact Eg parts.toList fun x E=>hρ x (by simpa using E)
 ·
  rename_i t a;have A:=bind_some h;clear h;obtain ⟨L,q,h⟩:=A;obtain ⟨i,d,z,C⟩:=dZ j q;exact iV.pur D (Ci D I C (hρ a (by simp)) h hbs)
 ·
  rename_i t a x;have A:=bind_some h;clear h;obtain ⟨L,q,h⟩:=A;obtain ⟨i,d,z,C⟩:=dZ j q;have ha:=hρ a (by simp);have E:=hρ x (by simp);generalize cρ a=ca at ha ⊢;generalize cρ x=cx at E ⊢;obtain ⟨rfl,N,w',F,G,M⟩:=Kw D I C ha E h hbs;exact ⟨.skip,N,w',by simp [F],G,M,.inr ⟨rfl,rfl⟩⟩
 ·
  rename_i t r;split at h
  ·cases h;obtain ⟨cv,N,w',F,G,M,h4⟩:=Hr (P:=P) D W t;exact ⟨.value cv,N,w',by simp [F],G,M,.inl ⟨cv,rfl,h4⟩⟩
  ·cases h
 ·
  rename_i t x k ok;have A:=bind_some h;clear h;obtain ⟨L,q,h⟩:=A;obtain ⟨i,d,z,C⟩:=dZ j q;exact iV.pur D (Hq j D I C (hρ x (by simp)) (hρ k (by simp)) h hbs)
 ·
  rename_i t x k v;have A:=bind_some h;clear h;obtain ⟨L,q,h⟩:=A;obtain ⟨i,d,z,C⟩:=dZ j q;obtain ⟨rfl,N,w',F,G,M⟩:=xG j D I C (hρ x (by simp)) (hρ k (by simp)) (hρ v (by simp)) h hbs;exact ⟨.skip,N,w',by simp [F],G,M,.inr ⟨rfl,rfl⟩⟩
 ·
  rename_i t x k v;have A:=bind_some h;clear h;obtain ⟨L,q,h⟩:=A;obtain ⟨i,d,z,C⟩:=dZ j q;obtain ⟨rfl,N,w',F,G,M⟩:=xG j D I C (hρ x (by simp)) (hρ k (by simp)) (hρ v (by simp)) h hbs;exact ⟨.skip,N,w',by simp [F],G,M,.inr ⟨rfl,rfl⟩⟩
 ·
  rename_i x;have E:=hρ x (by simp);split at h
  ·rename_i b ver off e;rw [e] at E;obtain ⟨rfl,rfl,rfl⟩:=aX h;have H:=E;simp only [VR] at H;obtain ⟨_,_,_,⟨k,o,X⟩,_⟩:=H;exact iV.val D (cv:=cρ x) (by rw [X];simp) E
  ·rename_i xs off e;rw [e] at E;obtain ⟨rfl,rfl,rfl⟩:=aX h;have H:=E;simp only [VR,PR] at H;obtain ⟨_,_,_,X,_⟩:=H;exact iV.val D (cv:=cρ x) (by rw [X];simp) E
  ·rename_i f a c e;rw [e] at E;obtain ⟨rfl,rfl,rfl⟩:=aX h;have H:=E;simp only [VR] at H;obtain ⟨_,_,X,_⟩:=H;exact iV.val D (cv:=cρ x) (by rw [X];simp) E
  ·cases h
 ·
  rename_i op t x y _;have A:=bind_some h;clear h;obtain ⟨L,q,h⟩:=A;exact iV.pur D (OA j q (hρ x (by simp)) (hρ y (by simp)) h hbs x y)
 ·
  exact iV.pur D (VQ (hρ _ (by simp)) h)
 ·
  rename_i s d x;have A:=bind_some h;clear h;obtain ⟨ts,hts,h⟩:=A;have A:=bind_some h;clear h;obtain ⟨td,htd,h⟩:=A;exact iV.pur D (EF j D I hts htd (hρ x (by simp)) h hbs)
 ·
  rename_i t x;have A:=bind_some h;clear h;obtain ⟨L,q,h⟩:=A;split at h
  ·cases h
  ·rename_i hd;obtain ⟨rfl,rfl,rfl⟩:=aX h;refine iV.pur D ⟨rfl,.iface t (cρ x),run_makeInterface w t _ (Lm j q hd), ?_⟩;simp only [VR];exact ⟨_,rfl,hρ x (by simp)⟩
 ·
  rename_i f first cap
  obtain ⟨rfl,rfl,rfl⟩:=aX h;refine iV.pur D ⟨rfl,.func (.func f) (first.map cρ) (cap.map cρ),by simp [Instr.makeFunc], ?_⟩;simp only [VR];refine ⟨(first.map cρ).toList,(cap.map cρ).toList,by rw [Array.toArray_toList,Array.toArray_toList], ?_, ?_⟩
  ·rw [Array.toList_map];exact wB _ fun x E=>hρ x (by simp at E ⊢;exact .inl E)
  ·rw [Array.toList_map];exact wB _ fun x E=>hρ x (by simp at E ⊢;exact .inr E)
 ·
  rename_i t l c;have A:=bind_some h;clear h;obtain ⟨L,q,h⟩:=A;obtain ⟨i,d,z,C⟩:=dZ j q;exact iV.full (Be j D W C (hρ l (by simp)) (hρ c (by simp)) h hbs)
 ·
  rename_i t x lo hi mx;have A:=bind_some h;clear h;obtain ⟨L,q,h⟩:=A;obtain ⟨i,d,z,C⟩:=dZ j q;exact iV.pur D (Kv j I C (hρ x (by simp)) (Ec lo fun o V=>hρ o (by simp at V;simp [V])) (Ec hi fun o V=>hρ o (by simp at V;simp [V])) (Ec mx fun o V=>hρ o (by simp at V;simp [V])) h hbs)
 ·
  rename_i s x f;have A:=bind_some h;clear h;obtain ⟨L,q,h⟩:=A;obtain ⟨i,d,z,C⟩:=dZ j q;split at h
  ·rename_i fs hd;have A:=bind_some h;clear h;obtain ⟨⟨o,ft,sz⟩,hf,h⟩:=A;simp only at h;split at h
   ·rename_i hsz;have A:=bind_some h;clear h;obtain ⟨p,hp,h⟩:=A;obtain ⟨rfl,rfl,rfl⟩:=aX h;exact iV.pur D ⟨rfl,Dp C hd hf hsz (hρ x (by simp)) hp⟩
   ·cases h
  ·cases h
 ·
  rename_i t x f;have A:=bind_some h;clear h;obtain ⟨L,q,h⟩:=A;obtain ⟨i,d,z,C⟩:=dZ j q;exact iV.pur D (Jv j C (hρ x (by simp)) h hbs)
 ·
  rename_i t x ix;have A:=bind_some h;clear h;obtain ⟨L,q,h⟩:=A;obtain ⟨i,d,z,C⟩:=dZ j q;exact iV.pur D (AZ j I C (hρ x (by simp)) (hρ ix (by simp)) h hbs)
 ·
  rename_i t x ix;have A:=bind_some h;clear h;obtain ⟨L,q,h⟩:=A;obtain ⟨i,d,z,C⟩:=dZ j q;exact iV.pur D (JD j C (hρ x (by simp)) (hρ ix (by simp)) h hbs)
 ·
  exact iV.pur D (Hg j (hρ _ (by simp)) h _)
 ·
  rename_i t i;have C:=hρ t (by simp);split at h
  ·rename_i l e;rw [e] at C;have A:=bind_some h;clear h;obtain ⟨x,E,h⟩:=A;obtain ⟨rfl,rfl,rfl⟩:=aX h;simp only [VR] at C;obtain ⟨vs,X,hl⟩:=C;obtain ⟨cv,F,G⟩:=sZ hl i E;refine iV.pur D ⟨rfl,cv, ?_,G⟩;rw [X];simp [Instr.extract,F]
  ·cases h
 ·
  rename_i b args T;simp only [Call.operands] at hρ;have hargs:∀ x ∈ args,VR g m S (ρ x) (cρ x):=fun x E=>hρ x (by simp [E])
  split at h
  ·have A:=bind_some h;clear h;obtain ⟨x,E,h⟩:=A;have A:=bind_some h;clear h;obtain ⟨t,Y,h⟩:=A;have A:=bind_some h;clear h;obtain ⟨L,q,h⟩:=A;obtain ⟨i,d,z,C⟩:=dZ j q;obtain ⟨hu,cv,F,G⟩:=Pi (P:=P) (w:=w) (hargs x (Array.mem_of_getElem? E)) C h T Y (args.map cρ) (by simp [E]) o.type;subst hu;exact iV.val D (cv:=cv) (by simp [resolve,invoke,builtin,F]) G
  ·split at h
   ·rename_i s x t t1 ha Y;have hargs':args=#[s,x]:=by apply Array.ext';simpa using ha
    have hats':T=#[t,t1]:=by apply Array.ext';simpa using Y
    subst hargs';subst hats';have A:=bind_some h;clear h;obtain ⟨L,q,h⟩:=A;have A:=bind_some h;clear h;obtain ⟨ti1,hti1,h⟩:=A;obtain ⟨i,d,z,C⟩:=dZ j q;obtain ⟨i1,d1,z1,Q⟩:=dZ j hti1;have hs:=hargs s (by simp);have E:=hargs x (by simp);have U:ρ s= .nilS→∃ n,xM (ρ x)=some n∧Xqn n 0=em:=by
     intro e;cases hc:xM (ρ x) with
     | none=>
      exfalso;split at h
      ·rename_i H;rw [H] at hc;simp [xM] at hc
      ·cases h
      ·rename_i y hy1 _ hy2 hy3;have A:=bind_some h;clear h;obtain ⟨Z,K,h⟩:=A;unfold yK at h;have A:=bind_some h;clear h;obtain ⟨⟨xs,n,pr⟩,hsrc,h⟩:=A;cases hxx:ρ x<;>simp [hxx,xM] at hc<;>simp [hxx,NL] at hsrc
      ·cases h
     |some n=>exact ⟨n,rfl,hem n (by simp [zi,e,hc])⟩
    split at h
    ·rename_i e y hd J hy;have A:=bind_some h;clear h;obtain ⟨Z,K,h⟩:=A;obtain ⟨ie,de,ze,O⟩:=dZ j K;split at h
     ·rename_i F;rw [C.d_eq] at hd;rw [Q.d_eq] at J;have hd:=iw hd;have J:=yA J;subst hd;subst J;obtain ⟨cv,N,w',r1,r2,r3,r4⟩:=xq (P:=P) D I W C O hs E (tx:=t1) (.inl ⟨⟨y,hy⟩,Q.und,aU F⟩) U (by rw [hy];exact h) hbs o.type;exact ⟨.value cv,N,w',by simp [resolve,invoke,builtin,r1],r2,r3,.inl ⟨cv,rfl,r4⟩⟩
     ·cases h
    ·cases h
    ·rename_i e e1 hd J hns;have A:=bind_some h;clear h;obtain ⟨Z,K,h⟩:=A;obtain ⟨ie,de,ze,O⟩:=dZ j K;rw [C.d_eq] at hd;rw [Q.d_eq] at J;have hd:=iw hd;have J:=iw J;subst hd;subst J;obtain ⟨cv,N,w',r1,r2,r3,r4⟩:=xq (P:=P) D I W C O hs E (tx:=t1) (.inr ⟨fun s e=>hns s e,_,Q.und⟩) U h hbs o.type;exact ⟨.value cv,N,w',by simp [resolve,invoke,builtin,r1],r2,r3,.inl ⟨cv,rfl,r4⟩⟩
    ·cases h
   ·cases h
  ·have A:=bind_some h;clear h;obtain ⟨r,hr,h⟩:=A;obtain ⟨rfl,rfl,rfl⟩:=aX h;obtain ⟨cv,F,G⟩:=UZ (P:=P) (w:=w) (wB args.toList fun x E=>hargs x (Array.mem_toList_iff.1 E)) hr T o.type;refine iV.val D (cv:=cv) ?_ G;have:(Xw6 cρ args.toList).toArray=args.map cρ:=by apply Array.ext';rw [Xve,Array.toList_map]
   rw [this] at F;simp [resolve,invoke,builtin,F]
  ·have A:=bind_some h;clear h;obtain ⟨r,hr,h⟩:=A;obtain ⟨rfl,rfl,rfl⟩:=aX h;obtain ⟨cv,F,G⟩:=UX (P:=P) (w:=w) (wB args.toList fun x E=>hargs x (Array.mem_toList_iff.1 E)) hr T o.type;refine iV.val D (cv:=cv) ?_ G;have:(Xw6 cρ args.toList).toArray=args.map cρ:=by apply Array.ext';rw [Xve,Array.toList_map]
   rw [this] at F;simp [resolve,invoke,builtin,F]
  ·cases h
 ·cases h
end
end AM
namespace AM
open Go
structure Cx.Ok (c:Cx):Prop where
 bs:∀ b ∈ c.bs,b=true
 ps:∀ p ∈ c.ps,p
theorem R.bind_ok {α β:Type} {r:R α} {f:α→Cx→R β} {b:β} {c:Cx} (h:r.bind f= .ok b c):∃ a c1,r= .ok a c1∧f a c1= .ok b c:=by
 cases r with
 |ok a c1=>exact ⟨a,c1,rfl,h⟩
 |need=>simp [R.bind] at h
 |bad n=>simp [R.bind] at h
theorem Jq {c f:Cx} {bs:List Bool} {u:Unit} (h:aaW c bs= .ok u f) (d:f.Ok):c.Ok∧∀ b ∈ bs,b=true:=by
 unfold aaW at h;split at h
 ·split at h
  ·rename_i a;cases h;exact ⟨d,fun b e=>by simpa using List.all_eq_true.1 a b e⟩
  ·cases h
 ·cases h;exact ⟨⟨fun b a=>d.bs b (by simp [a]),d.ps⟩,fun b a=>d.bs b (by simp [a])⟩
theorem lN {c e:Cx} {b d:Bool} (h:Az c b= .ok d e) (a:e.Ok):c.Ok∧d=b:=by
 unfold Az at h;split at h
 ·cases h;exact ⟨a,rfl⟩
 ·split at h
  ·cases h
  ·rename_i o r _;cases h;have i:=a.bs (lit d b) (by simp);refine ⟨⟨fun x f=>a.bs x (by simp [f]),a.ps⟩, ?_⟩;cases d<;>cases b<;>simp [lit] at i ⊢
theorem jM {l:List Nat} {a:Nat}:uf l a=true↔a ∈ l:=by
 simp only [uf,List.any_eq_true];constructor
 ·rintro ⟨x,hx,h⟩;exact aU h ▸ hx
 ·intro h;exact ⟨a,h,Nat.beq_refl a⟩
theorem jh {α β:Type} {f:α→Option β}:∀ {l:List α} {l':List β},kK f l=some l'→l'.length=l.length∧∀ (i:Nat) x,l[i]? =some x→∃ y,l'[i]? =some y∧f x=some y
 | [],l',h=>by simp [kK] at h;subst h;simp
 | a::r,l',h=>by
  simp only [kK] at h;split at h
  ·rename_i y e;split at h
   ·rename_i q j;cases h;obtain ⟨c,d⟩:=jh j;refine ⟨by simp [c], ?_⟩;intro i x b;cases i with
    |zero=>simp at b;subst b;exact ⟨y,by simp,e⟩
    |succ i=>simpa using d i x (by simpa using b)
   ·cases h
  ·cases h
section
variable {P:Program} {ap:AP} {g:dJ} {m:bf} {S:aZ} {w:World}
noncomputable def dL (S:aZ) (m:bf) (rd:dJ) (w:World):aZ:=fun k o=>
 match S k o with
 |some v=>some v
 |none=>open Classical in if ∃ b B,rd b=some B∧(m b).1=k∧o<B.cells.length then kR w k o else none
theorem oG (S:aZ) (m:bf) (rd:dJ) (w:World):pY S (dL S m rd w):=by
 intro k o v h;simp [dL,h]
theorem fV {rd:dJ} {k o:Nat} {v:Value} (h:dL S m rd w k o=some v):S k o=some v∨(kR w k o=some v∧∃ b B,rd b=some B∧(m b).1=k∧o<B.cells.length):=by
 unfold dL at h;split at h
 ·rename_i e c;cases h;exact .inl c
 ·rename_i d;split at h
  ·rename_i a;exact .inr ⟨h,a⟩
  ·cases h
theorem qG (a:bY ap g m S w) {rd:dJ} {k o:Nat} {v:Value} (h:dL S m rd w k o=some v):kR w k o=some v:=by
 rcases fV h with h|h
 ·exact a.sealed _ _ _ h
 ·exact h.1
theorem Vt (c:bY ap g m S w) {rd:dJ} {b:Nat} {B:bg} (e:rd b=some B) {o:Nat} (f:o<B.cells.length) {v:Value} (a:kR w (m b).1 o=some v):dL S m rd w (m b).1 o=some v:=by
 unfold dL;split
 ·rename_i h d;have:=c.sealed _ _ _ d;rw [a] at this;cases this;rfl
 ·rw [if_pos ⟨b,B,e,rfl,f⟩];exact a
theorem Gq (h:bY ap g m S w) {rd:dJ} (d:∀ b B,rd b=some B→g b=some B) {b:Nat} {B:bg} (k:rd b=some B):
  ∃ vs,bF g m S B.cells vs∧(B.pr=true→eG S B.cells vs)∧(∀ j u,vs[j]? =some u→dL S m rd w (m b).1 j=some u)∧vs.length=B.cells.length∧(B.esz ≠ iP→∀ u ∈ vs,u.oneCell'=true):=by
 obtain ⟨⟨cur,e,vs,rest,p,o,n,f,i,q⟩,_,_⟩:=h.blk b B (d b B k);refine ⟨vs,f,n, ?_,(bZ f).symm,i⟩;intro j u c;have a:=(List.getElem?_eq_some_iff.1 c).1;refine Vt h k (by rw [bZ f];exact a) ?_;exact p.get (by rw [o,Xxb a];exact c) (fun l=>i l u (Xqt c))
theorem z_ (d:bY ap g m S w) {rd:dJ} (a:∀ b B,rd b=some B→g b=some B) {b:Nat} {B:bg} (h:rd b=some B) (l:B.esz ≠ iP):
  ∃ vs,bF g m S B.cells vs∧(B.pr=true→eG S B.cells vs)∧kP (dL S m rd w) (m b).1 0 vs∧vs.length=B.cells.length:=by
 obtain ⟨vs,n,f,e,i,k⟩:=Gq d a h;refine ⟨vs,n,f,fun j u c=> ?_,i⟩;rw [Xqd];exact ⟨e j u c,k l u (Xqt c)⟩
theorem IP {S':aZ} {l:List AV} {y:AV} {vs:List Value} {k:Nat} (h:abW l=some y) (a:eG S' l vs) (hs:∀ j u,vs[j]? =some u→S' k j=some u):PR S' y (.map (some k)):=by
 unfold abW at h;split at h
 ·rename_i ks ws;cases h
  match vs,a with
  | [v0,v1],a=>
   simp only [eG,PR,and_true] at a;obtain ⟨⟨d,rfl,c⟩,e,rfl,b⟩:=a;simp only [PR];exact .inr ⟨k,d,e,rfl,hs 0 _ rfl,hs 1 _ rfl,c,b⟩
  | [],a=>simp [eG] at a
  | [_],a=>simp [eG] at a
  |_::_::_::_,a=>simp [eG] at a
 ·cases h
theorem uS {S':aZ} {f:AV→Option AV} (a:∀ x v y,f x=some y→VR g m S x v→PR S' y v):∀ {l l':List AV} {vs:List Value},kK f l=some l'→bF g m S l vs→eG S' l' vs
 | [],l',[],h,_=>by simp [kK] at h;subst h;simp [eG]
 | x::r,l',v::vs,h,hv=>by
  simp only [kK] at h;simp only [bF] at hv;split at h
  ·rename_i y c;split at h
   ·rename_i q b;cases h;simp only [eG];exact ⟨a x v y c hv.1,uS a b hv.2⟩
   ·cases h
  ·cases h
 | [],_,_::_,_,h=>by simp [bF] at h
 |_::_,_,[],_,h=>by simp [bF] at h
theorem lU (K:bY ap g m S w) {rd:dJ} (t:∀ b B,rd b=some B→g b=some B):∀ (k:Nat) (x:AV) (v:Value) (y:AV),frz rd k x=some y→VR g m S x v→PR (dL S m rd w) y v:=by
 intro k
 induction k with
 |zero=>intro x v y h;simp [frz] at h
 | succ k ih=>
  intro x v y h f;have C:=oG S m rd w;have hlist:∀ {l l':List AV} {vs:List Value},kK (frz rd k) l=some l'→bF g m S l vs→eG (dL S m rd w) l' vs:=fun G F=>uS (fun x v y hx f=>ih x v y hx f) G F
  unfold frz at h;simp only at h;split at h
  ·
   rename_i b ver i n;have D:=bind_some h;clear h;obtain ⟨B,E,h⟩:=D;split at h
   ·rename_i d;simp only [VR] at f;obtain ⟨B',p,_,_,q⟩:=f;rw [t b B E] at p;cases p;obtain ⟨o,rfl,M,ho,L,H⟩:=q (aU d);obtain ⟨vs,G,F,I,N⟩:=z_ K t E H;have hpart:kP (dL S m rd w) (m b).1 o ((vs.drop (i*B.esz)).take (n*B.esz)):=by
     by_cases hi:i<(m b).2
     ·rw [ho hi];have:=(I.drop (i*B.esz)).take (n*B.esz);rwa [Xqd] at this
     ·have W:n=0:=by omega
      subst W;intro j u X;simp at X
    have s:∀ l,eG (dL S m rd w) l ((vs.drop (i*B.esz)).take (n*B.esz))→PR (dL S m rd w) (.sl l n true) (.slice (some ⟨(m b).1,o,none⟩) n ((m b).2 - i)):=by
     intro l z;simp only [PR];exact ⟨_,_,rfl,by omega,.inr ⟨_,_,_,rfl,z,hpart⟩⟩
    split at h
    ·rename_i A;cases h;exact s _ (kN _ (rq _ (dE C _ (F A))))
    ·simp only [Xqr] at h;obtain ⟨l,z,rfl⟩:=h;exact s _ (hlist z (rE _ (uT _ G)))
   ·cases h
  ·
   rename_i b ver J;have D:=bind_some h;clear h;obtain ⟨B,E,h⟩:=D;split at h
   ·rename_i d;simp only [ο,Xqw] at d;have H:B.esz ≠ iP:=fun e=>by rw [e] at d;exact absurd d.2 (by decide)
    simp only [VR] at f;obtain ⟨B',p,_,_,q⟩:=f;rw [t b B E] at p;cases p;have q:=q (aU d.1);subst q;obtain ⟨vs,G,F,I,N⟩:=z_ K t E H;have s:∀ l,eG (dL S m rd w) l vs→PR (dL S m rd w) (.pp l J) (.pointer (some ⟨(m b).1,J,none⟩)):=by
     intro l z;simp only [PR];exact ⟨_,0,_,by rw [Xqd],z,I⟩
    split at h
    ·rename_i A;cases h;exact s _ (dE C _ (F A))
    ·simp only [Xqr] at h;obtain ⟨l,z,rfl⟩:=h;exact s _ (hlist z G)
   ·cases h
  ·
   rename_i b ver;have D:=bind_some h;clear h;obtain ⟨B,E,h⟩:=D;split at h
   ·rename_i d;simp only [ο] at d;simp only [VR] at f;obtain ⟨B',p,_,_,q⟩:=f;rw [t b B E] at p;cases p;have q:=q (aU d.1);subst q;obtain ⟨vs,G,F,I,N,_⟩:=Gq K t E;split at h
    ·rename_i A;exact IP h (dE C _ (F A)) I
    ·have D:=bind_some h;clear h;obtain ⟨l,z,h⟩:=D;exact IP h (hlist z G) I
   ·cases h
  ·simp only [Xqr] at h;obtain ⟨l,z,rfl⟩:=h;simp only [VR] at f;obtain ⟨vs,e,q⟩:=f;simp only [PR];exact ⟨vs,e,hlist z q⟩
  ·simp only [Xqr] at h;obtain ⟨l,z,rfl⟩:=h;simp only [VR] at f;obtain ⟨vs,e,q⟩:=f;simp only [PR];exact ⟨vs,e,hlist z q⟩
  ·have D:=bind_some h;clear h;obtain ⟨a,V,h⟩:=D;simp only [Xqr] at h;obtain ⟨c,O,rfl⟩:=h;simp only [VR] at f;obtain ⟨va,Z,e,q,r⟩:=f;simp only [PR];exact ⟨va,Z,e,hlist V q,hlist O r⟩
  ·simp only [Xqr] at h;obtain ⟨u,hu,rfl⟩:=h;simp only [VR] at f;obtain ⟨cu,e,q⟩:=f;simp only [PR];exact ⟨cu,e,ih _ _ _ hu q⟩
  ·cases h
  ·rename_i n1 T n8 Q n4 Y R U;cases h;refine dF C _ ?_;cases x<;>first
    |exact absurd rfl (n1 _ _ _ _)
    |exact absurd rfl (T _ _ _)
    |exact absurd rfl (n8 _ _)
    |exact absurd rfl (Q _)
    |exact absurd rfl (n4 _)
    |exact absurd rfl (Y _ _ _)
    |exact absurd rfl (R _ _)
    |exact absurd rfl (U _ _ _)
    |(simp only [VR] at f;exact f)
    |(simp only [PR])
end
end AM
