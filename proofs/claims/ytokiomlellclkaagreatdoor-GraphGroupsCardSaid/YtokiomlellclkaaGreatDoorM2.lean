/- The abstract machine over the code of the model, and the proof that it is sound. No conditions. -/
import Derived.Test.YtokiomlellclkaaGreatDoorM1
import Derived.Laws.BytesString
import Derived.Laws.MakeOwn
import Derived.Laws.OwnMore
set_option linter.unusedSimpArgs false
set_option linter.unusedVariables false
open List renaming foldl_cons→Xqw,length_take→Xqm,nil_append→Xqj,drop_drop→Xjo,map_cons→Γ,getElem?_map→φ,getElem?_take→Xxh,getElem?_append_left→υ,mem_of_mem_drop→Xja,mem_of_mem_take→Xx2,all_cons→Xjc,cons_append→Xqz,append_eq_nil_iff→Xjh,take_append_of_le_length→Xq3,drop_append_of_le_length→Xzu,append_assoc→Xqi,toList_toArray→Xx8,size_toArray→Xxe,length_append→η,length_drop→Xxb,replicate_succ→Xxm,append_nil→μ,any_cons→Xw9,map_append→Xxp,map_nil→Xje,ext_getElem?→Xq8,getElem?_set→Xxd,map→Xvw,mem_of_getElem?→ο
open Bool renaming and_eq_true→ε,not_eq_true'→Xqe
open Nat renaming add_zero→Xxf,beq→Δ,le_refl→ζ,zero_le→Xqn,mul_le_mul→Xka,le_trans→Xqg,zero_add→Φ,add_mul→Xzb,eq_zero_or_pos→Xjx,lt_irrefl→Xzl
open Option renaming map_some→Xqu,map_eq_some_iff→Ξ
open UInt8 renaming ofNat→Xql
namespace AM
open Go
section
variable {P:Program} {ap:AP} {g:bD} {m:aB} {S:au} {w:World}
theorem Bh {x:AV} {v:Value} (h:VR g m S x v) (f:∀ y ∈ x.cells,kV y=true):aS g m S x.cells v.cells.toList∧∀ u ∈ v.cells,u.oneCell'=true:=by
 cases x
 case agg l=>
  simp only [VR] at h;obtain ⟨vs,rfl,h⟩:=h;refine ⟨by simpa [Value.cells,AV.cells] using h, ?_⟩;intro u c;simp only [Value.cells] at c;simp only [AV.cells] at f;have:∀ (l:List AV) (vs:List Value),aS g m S l vs→(∀ y ∈ l,kV y=true)→∀ u ∈ vs,u.oneCell'=true:=by
   intro l
   induction l with
   |nil=>intro vs e _ u c;cases vs<;>simp [aS] at e c
   | cons a r ih=>
    intro vs e f u c;cases vs with
    |nil=>simp [aS] at e
    |cons b q=>
     simp only [aS] at e;rcases List.mem_cons.1 c with rfl|c
     ·exact Ky e.1 (f a (by simp))
     ·exact ih q e.2 (fun y j=>f y (by simp [j])) u c
  exact this l vs h f u (by simpa using c)
 all_goals
  have d:=Ky h (f _ (by simp [AV.cells]));have i:v.cells=#[v]:=by cases v<;>simp [Value.cells,Value.oneCell'] at d ⊢
  rw [i];refine ⟨by simp only [AV.cells,aS];exact ⟨h,trivial⟩,by simpa using d⟩
theorem ES:∀ (vs:List Value) (i off:Nat) (cs:Array Value),off+i+vs.length≤cs.size→
  ((vs.zipIdx i).foldl (fun (cs:Array Value) (p:Value × Nat)=>cs.setIfInBounds (off+p.2) p.1) cs).toList=cs.toList.take (off+i)++vs++cs.toList.drop (off+i+vs.length)
 | [],i,off,cs,_=>by simp
 | v::vs,i,off,cs,h=>by
  simp only [List.length_cons] at h;simp only [List.zipIdx_cons,Xqw];rw [ES vs (i+1) off (cs.setIfInBounds (off+i) v) (by simp;omega)];have a:off+i<cs.toList.length:=by simp;omega
  simp only [Array.toList_setIfInBounds];rw [show off+(i+1)=off+i+1 from by omega,List.set_eq_take_append_cons_drop,if_pos a];have b:(cs.toList.take (off+i)++v::cs.toList.drop (off+i+1)).take (off+i+1)=cs.toList.take (off+i)++ [v]:=by
   rw [List.take_append];have c:off+i+1 - (cs.toList.take (off+i)).length=1:=by simp [Xqm];omega
   rw [c];simp [List.take_take]
  have d:(cs.toList.take (off+i)++v::cs.toList.drop (off+i+1)).drop (off+i+1+vs.length)=cs.toList.drop (off+i+(v::vs).length):=by
   rw [List.drop_append];have:(cs.toList.take (off+i)).length=off+i:=by simp [Xqm];omega
   rw [this,List.drop_eq_nil_of_le (by rw [this];omega),Xqj,show off+i+1+vs.length - (off+i)=vs.length+1 from by omega,List.drop_succ_cons,Xjo];congr 1;simp;omega
  rw [b,d];simp
theorem FX {c vs:List AV} {cs us:List Value} {a:Nat} (h:aS g m S c cs) (b:aS g m S vs us):aS g m S (eu c a vs) (cs.take a++us++cs.drop (a+us.length)):=by
 unfold eu;rw [← aU b];exact fH (fH (oq _ h) b) (qX _ h)
theorem MJ {c vs:List AV} {cs us:List Value} {a:Nat} (h:a_ S c cs) (b:a_ S vs us):a_ S (eu c a vs) (cs.take a++us++cs.drop (a+us.length)):=by
 unfold eu;rw [← jL b];exact iP (iP (jo _ h) b) (og _ h)
def lD (g:bD) (m:aB) (S:au) (place:Nat→Option (Nat × Nat)):List (Nat × Nat × AV)→List (Nat × Value)→Prop
 | [],[]=>True
 |(off,size,v)::r,(i,c)::q=>place i=some (off,size)∧VR g m S v c∧lD g m S place r q
 |_,_=>False
theorem nD {place:Nat→Option (Nat × Nat)}:∀ (ps:List (Nat × Nat × AV)) (qs:List (Nat × Value)) (cells cells':List AV) (cs:Array Value),lD g m S place ps qs→aS g m S cells cs.toList→uI cells ps=some cells'→
  ∃ a,Instr.fill place cs qs=some a∧aS g m S cells' a.toList∧a.size=cs.size
 | [],[],cells,cells',cs,_,hv,h=>by simp [uI] at h;subst h;exact ⟨cs,rfl,hv,rfl⟩
 | (off,size,v)::r,(i,c)::q,cells,cells',cs,hp,hv,h=>by
  simp only [lD] at hp;simp only [uI] at h;split at h
  ·rename_i l;simp only [ε] at l;obtain ⟨⟨o,j⟩,z⟩:=l;obtain ⟨n,B⟩:=Bh hp.2.1 (fun y x=>List.all_eq_true.1 z y x);have A:=aU n;have d:=aU hv;have o:=aA o;have j:=eG j;have s:c.cells.size=size:=by simp only [Array.length_toList] at A;omega
   have b:off+c.cells.size≤cs.size:=by simp only [Array.length_toList] at d;omega
   have k:=ES c.cells.toList 0 off cs (by simpa using b);have f:aS g m S (eu cells off v.cells) ((c.cells.zipIdx.foldl (fun (cs:Array Value) (p:Value × Nat)=>cs.setIfInBounds (off+p.2) p.1) cs)).toList:=by
    rw [← Array.foldl_toList,Array.toList_zipIdx,k];simp only [Xxf];exact FX hv n
   obtain ⟨a,e,u,t⟩:=nD r q _ cells' _ hp.2.2 f h;refine ⟨a, ?_,u, ?_⟩
   ·simp only [Instr.fill,hp.1];rw [if_neg (by simp;omega)];exact e
   ·rw [t,← Array.length_toList,← Array.foldl_toList,Array.toList_zipIdx,k];simp;omega
  ·cases h
 | [],_::_,_,_,_,hp,_,_=>by simp [lD] at hp
 |_::_,[],_,_,_,hp,_,_=>by simp [lD] at hp
theorem ou {t:Nat} {a:TI} {i:TypeInfo} {d:TypeDesc} {z:Value} (b:v_ P t a i d z):aS g m S a.zero z.cells.toList:=by
 rw [b.zcells];exact aV _ (uz S _)
def ww (g:bD) (m:aB) (S:au):List (Nat × AV)→List (Nat × Value)→Prop
 | [],[]=>True
 |(i,v)::r,(j,c)::q=>i=j∧VR g m S v c∧ww g m S r q
 |_,_=>False
theorem pW {size:Nat}:∀ {ps:List (Nat × AV)} {qs:List (Nat × Value)},ww g m S ps qs→lD g m S (fun i=>some (i*size,size)) (ps.map fun (i,v)=>(i*size,size,v)) qs
 | [],[],_=>by simp [lD]
 |(i,v)::r,(j,c)::q,h=>by
  simp only [ww] at h;obtain ⟨rfl,a,b⟩:=h;simp only [Γ,lD];exact ⟨trivial,a,pW b⟩
 | [],_::_,h=>by simp [ww] at h
 |_::_,[],h=>by simp [ww] at h
theorem zC {b:List (Nat × Nat × Nat)} {place:Nat→Option (Nat × Nat)} (hp:∀ i x,b[i]? =some x→place i=some (x.1,x.2.2)):∀ {ps:List (Nat × AV)} {qs:List (Nat × Value)} {rs:List (Nat × Nat × AV)},ww g m S ps qs→
  fP (fun (q:Nat × AV)=>(b[q.1]?).map fun (x:Nat × Nat × Nat)=>(x.1,x.2.2,q.2)) ps=some rs→lD g m S place rs qs
 | [],[],rs,_,h=>by simp [fP] at h;subst h;simp [lD]
 | (i,v)::r,(j,c)::q,rs,hn,h=>by
  simp only [ww] at hn;obtain ⟨rfl,d,e⟩:=hn;simp only [fP] at h;cases a:b[i]? with
  |none=>simp [a] at h
  | some x=>
   simp only [a,Xqu] at h;split at h
   ·rename_i l f;cases h;simp only [lD];exact ⟨hp i x a,d,zC hp e f⟩
   ·cases h
 | [],_::_,_,h,_=>by simp [ww] at h
 |_::_,[],_,h,_=>by simp [ww] at h
theorem zA:∀ (fields:List Field),(∀ f ∈ fields,(P.info? f.type).isSome)→fields.mapM (fun f=>(P.info? f.type).map fun i=>(f.offset,i.size))=some (fields.map fun f=>(f.offset,match P.info? f.type with|some i=>i.size|none=>0))
 | [],_=>rfl
 | f::r,h=>by
  cases a:P.info? f.type with
  |none=>have:=h f (by simp);simp [a] at this
  |some i=>
   simp [List.mapM_cons,a,zA r (fun f b=>h f (by simp [b]))]
theorem F6 (u:di P ap) {t:Nat} {o:TI} {i:TypeInfo} {d:TypeDesc} {z:Value} (b:v_ P t o i d z) {ps:List (Nat × AV)} {qs:Array (Nat × Value)} (C:ww g m S ps qs.toList) {v:AV} {ups:List (Nat × az)} {bs:List Bool}
  (h:KD ap o ps=some (v,ups,bs)):ups= []∧∃ cv,(Instr.build t qs).run P w= .ok cv w∧VR g m S v cv:=by
 unfold KD at h;split at h
 ·rename_i F l;have j:=bind_some h;clear h;obtain ⟨E,s,h⟩:=j;have j:=bind_some h;clear h;obtain ⟨cs,k,h⟩:=j;obtain ⟨rfl,rfl,rfl⟩:=aG h;rw [b.d_eq] at l;obtain ⟨fields,rfl,rfl⟩:=t_ l;by_cases hall:∀ f ∈ fields.toList,(P.info? f.type).isSome
  ·have A:=zA fields.toList hall;have p:=zC (place:=((fields.toList.map fun f=>(f.offset,match P.info? f.type with|some i=>i.size|none=>0)).toArray[·]?)) (by
    intro i x B;simp only [φ,Ξ] at B;obtain ⟨f,q,rfl⟩:=B;simp [q];rfl) C s
   obtain ⟨a,y,r,_⟩:=nD E qs.toList o.zero cs z.cells p (ou b) k;refine ⟨rfl,.agg a,run_build w t qs a ?_, ?_⟩
   ·simp only [Program.built,b.info,b.und,b.zero];rw [A];exact y
   ·simp only [VR];exact ⟨a.toList,by simp,r⟩
  ·exfalso;apply hall;intro f q;have:=b.fld;simp only [Rk] at this;exact List.all_eq_true.1 this f q
 ·rename_i n e l;have j:=bind_some h;clear h;obtain ⟨D,c,h⟩:=j;have j:=bind_some h;clear h;obtain ⟨cs,k,h⟩:=j;obtain ⟨rfl,rfl,rfl⟩:=aG h;obtain ⟨I,H,G,c⟩:=bQ u c;rw [b.d_eq] at l;have l:=xJ l;subst l;obtain ⟨a,y,r,_⟩:=nD _ qs.toList o.zero cs z.cells (pW (size:=D.size) C) (ou b) k;refine ⟨rfl,.agg a,run_build w t qs a ?_, ?_⟩
  ·simp only [Program.built,b.info,b.und,b.zero,c.info];rw [← c.size];exact y
  ·simp only [VR];exact ⟨a.toList,by simp,r⟩
 ·cases h
end
end AM
namespace AM
open Go
section
variable {P:Program} {ap:AP} {g:bD} {m:aB} {S:au} {w:World}
theorem vI {t:Nat} {j:TI} {i:TypeInfo} {d:TypeDesc} {z:Value} (b:v_ P t j i d z) {v:AV} (h:oN j j.zero=some v):VR g m S v z:=by
 have f:=ou (g:=g) (m:=m) (S:=S) b;have e:=b.zagg;unfold oN at h;rw [b.d_eq,D6] at h;unfold abQ at e;rw [b.zero] at e;split at h
 ·rename_i a;cases h;cases d<;>simp [TypeDesc.isRow] at a<;>cases z<;>simp at e
  all_goals
   simp only [VR];exact ⟨_,rfl,by simpa [Value.cells] using f⟩
 ·rename_i a;split at h
  ·rename_i c l;cases h;have k:z.cells=#[z]:=by
    cases z<;>first|rfl|skip
    cases d<;>simp [TypeDesc.isRow] at a e
   rw [l,k] at f;simp only [aS] at f;exact f.1
  ·cases h
theorem Ef (p:di P ap) {x v:AV} {B:Value} (o:VR g m S x B) {asserted:Nat} {ok:Bool} {ups:List (Nat × az)} {bs:List Bool} (h:FZ ap x asserted ok=some (v,ups,bs)) (D:Nat):
  ups= []∧∃ cv,(Instr.typeAssert B D asserted ok).run P w= .ok cv w∧VR g m S v cv:=by
 unfold FZ at h;have n:=bind_some h;clear h;obtain ⟨F,r,h⟩:=n;obtain ⟨i,d,z,j⟩:=bQ p r;have a:∀ A,d ≠ .interface A:=by
  intro A e;subst e;rw [j.d_eq] at h;simp [iZ] at h
 have key:∀ (c:Value),(∃ t u,c= .iface t u∧t ≠ asserted)∨c= .nilIface→∀ l,VR g m S l z→ok=true→(Instr.typeAssert c D asserted ok).run P w= .ok (.tuple #[z,.bool false]) w:=by
  intro c E l _ q;subst q;rcases E with ⟨t,u,rfl,k⟩|rfl
  ·cases d<;>first|exact absurd rfl (a _)|simp [Instr.typeAssert,run_underlying j.und,k,zeroValue,typeInfo,j.info,j.zero]
  ·cases d<;>first|exact absurd rfl (a _)|simp [Instr.typeAssert,run_underlying j.und,zeroValue,typeInfo,j.info,j.zero]
 split at h
 ·cases h
 ·split at h
  ·rename_i t u;simp only [VR] at o;obtain ⟨s,rfl,C⟩:=o;split at h
   ·rename_i f;have f:=aA f;subst f;obtain ⟨rfl,rfl,rfl⟩:=aG h;cases ok
    ·refine ⟨rfl,s, ?_,C⟩;cases d<;>first|exact absurd rfl (a _)|simp [Instr.typeAssert,run_underlying j.und]
    ·refine ⟨rfl,.tuple #[s,.bool true], ?_, ?_⟩
     ·cases d<;>first|exact absurd rfl (a _)|simp [Instr.typeAssert,run_underlying j.und]
     ·simp only [VR];exact ⟨[s,.bool true],rfl,by simp only [aS,VR,PR];exact ⟨C,trivial,trivial⟩⟩
   ·rename_i f;have k:t ≠ asserted:=by intro e;subst e;simp at f
    cases ok
    ·cases h
    ·simp only at h;have n:=bind_some h;clear h;obtain ⟨l,y,h⟩:=n;obtain ⟨rfl,rfl,rfl⟩:=aG h;have b:=vI (g:=g) (m:=m) (S:=S) j y;refine ⟨rfl,_,key _ (.inl ⟨_,_,rfl,k⟩) l b rfl, ?_⟩;simp only [VR];exact ⟨[z,.bool false],rfl,by simp only [aS,VR,PR];exact ⟨b,trivial,trivial⟩⟩
  ·simp only [VR,PR] at o;subst o;cases ok
   ·cases h
   ·simp only at h;have n:=bind_some h;clear h;obtain ⟨l,y,h⟩:=n;obtain ⟨rfl,rfl,rfl⟩:=aG h;have b:=vI (g:=g) (m:=m) (S:=S) j y;refine ⟨rfl,_,key _ (.inr rfl) l b rfl, ?_⟩;simp only [VR];exact ⟨[z,.bool false],rfl,by simp only [aS,VR,PR];exact ⟨b,trivial,trivial⟩⟩
  ·cases h
theorem qi (N:aZ ap g m S w) {rd:bD} (K:∀ b B,rd b=some B→g b=some B) {size:Nat} {x:AV} {M:Value} (i:VR g m S x M) {E:List AV} {n:Nat} {pr:Bool} (h:JZ size rd x=some (E,n,pr)) (R:E.length=n*size)
  {tx:Nat} (hk:((∃ s,x= .str s)∧P.underlying tx=some .string∧size=1)∨((∀ s,x ≠ .str s)∧∃ e,P.underlying tx=some (.slice e))):
  ∃ news,Src P size tx M n news w∧aS g m S E news∧(pr=true→a_ S E news):=by
 unfold JZ at h;split at h
 ·rename_i V Z nn;cases h;obtain ⟨_,e,d⟩:=hk.resolve_left (by rintro ⟨⟨s,hs⟩,_⟩;cases hs);simp only [VR,PR] at i;obtain ⟨a,cap,rfl,Y,q⟩:=i;rcases q with ⟨_,rfl,rfl,rfl⟩|⟨b,o,vs,rfl,hp,hs⟩
  ·cases a with
   |none=>exact ⟨[],Src.ofNil w d 0,by simp [aS],fun _=>by simp [a_]⟩
   |some p=>exact ⟨[],Src.ofSlice w d p 0 0 [] (by simp) (fun j u c=>by simp at c) (fun u z=>by simp at z),by simp [aS],fun _=>by simp [a_]⟩
  ·refine ⟨vs,Src.ofSlice w d ⟨b,o,none⟩ n cap vs (by rw [← jL hp,R]) (fun j u c=>by rw [Addr.add_mid];exact N.one (hs j u c).1 (hs j u c).2) ?_,aV _ hp,fun _=>hp⟩;intro u z;obtain ⟨j,c⟩:=List.getElem?_of_mem z;exact (hs j u c).2
 ·cases h;obtain ⟨_,e,d⟩:=hk.resolve_left (by rintro ⟨⟨s,hs⟩,_⟩;cases hs);simp only [VR,PR] at i;subst i;exact ⟨[],Src.ofNil w d 0,by simp [aS],fun _=>by simp [a_]⟩
 ·rename_i s;cases h;obtain ⟨_,d,G⟩:=hk.resolve_right (by rintro ⟨hs,_⟩;exact hs s rfl);simp only [VR,PR] at i;subst i;subst G;have hp:∀ s:List UInt8,a_ S (s.map fun b=>AV.int .u8 b.toNat) (s.map fun b=>Value.int .u8 b.toNat):=by
   intro s
   induction s with
   |nil=>simp [a_]
   |cons a r ih=>simp only [Γ,a_,PR];exact ⟨trivial,ih⟩
  have f:=Src.ofString (P:=P) w d ⟨s.toArray⟩;have X:byteCells ⟨s.toArray⟩=s.map fun b=>Value.int .u8 b.toNat:=by simp [byteCells]
  rw [X,xG] at f;exact ⟨_,f,aV _ (hp s),fun _=>hp s⟩
 ·rename_i b ver j Z;have T:=bind_some h;clear h;obtain ⟨B,U,h⟩:=T;split at h
  ·rename_i v;cases h;simp only [ε,Xqe] at v;obtain ⟨v,t⟩:=v;have l:B.esz ≠ dJ:=fun e=>by rw [e] at t;exact absurd t (by decide)
   obtain ⟨_,e,d⟩:=hk.resolve_left (by rintro ⟨⟨s,hs⟩,_⟩;cases hs);simp only [VR] at i;obtain ⟨B',y,_,_,q⟩:=i;have D:=K b B U;rw [D] at y;cases y;obtain ⟨o,rfl,q1,W,q3⟩:=q (aA v.1);have F:=aA v.2;obtain ⟨cur,e',vs,rest,k,C,hp,I,J,L⟩:=(N.blk b B D).lies;have k:=k.cells l;have J:=J l;have O:=aU I;have H:((vs.drop (j*size)).take (n*size)).length=n*size:=by
    rw [← aU (oq _ (qX _ I))];exact R
   by_cases hn:n=0
   ·subst hn;have Q:(vs.drop (j*size)).take (0*size)= []:=by simp
    refine ⟨[], ?_, ?_, ?_⟩
    ·exact Src.ofSlice w d _ 0 _ [] (by simp) (fun _ _ h=>by simp at h) (fun _ h=>by simp at h)
    ·simp [aS]
    ·intro _;simp [a_]
   ·have A:=W (by omega);refine ⟨(vs.drop (j*size)).take (n*size),Src.ofSlice w d _ n _ _ H ?_ ?_,oq _ (qX _ I),fun pr=>jo _ (og _ (hp pr))⟩
    ·intro jj u c;rw [A,Addr.add_mid,F,iI k,C];rw [Xxh] at c;split at c
     ·rw [List.getElem?_drop] at c;rw [υ (List.getElem?_eq_some_iff.1 c).1];exact c
     ·cases c
    ·intro u z;exact J u (Xja (Xx2 z))
  ·cases h
 ·cases h
theorem Fe:∀ (ns:List Int) (s:List UInt8),ns.foldl (fun (r:ByteArray) n=>r.push (Xql n.toNat)) ⟨s.toArray⟩=⟨(s++ns.map fun n=>Xql n.toNat).toArray⟩
 | [],s=>by simp
 |n::ns,s=>by
  simp only [Xqw];have e:(⟨s.toArray⟩:ByteArray).push (Xql n.toNat)=⟨(s++ [Xql n.toNat]).toArray⟩:=by simp [ByteArray.push]
  rw [e,Fe ns];simp
theorem BK (C:di P ap) (Y:aZ ap g m S w) {rd:bD} (T:∀ b B,rd b=some B→g b=some B) {s d:Nat} {X V:TI} (L:ap.tyAt s=some X) (M:ap.tyAt d=some V) {x v:AV} {O:Value} (G:VR g m S x O) {ups:List (Nat × az)} {bs:List Bool}
  (h:BJ ap X V rd x=some (v,ups,bs)) (hbs:∀ b ∈ bs,b=true):ups= []∧∃ cv,(convert s d O).run P w= .ok cv w∧VR g m S v cv:=by
 obtain ⟨i1,d1,z1,D⟩:=bQ C L;obtain ⟨i2,d2,z2,E⟩:=bQ C M;unfold BJ at h;split at h
 ·rename_i k k' n I;obtain ⟨rfl,rfl,rfl⟩:=aG h;rw [E.d_eq] at I;have I:=U8 I;subst I;simp only [VR,PR] at G;subst G;exact ⟨rfl,_,by simp [convert,run_underlying D.und,run_underlying E.und,Conv.intToInt];rfl,by simp only [VR,PR]⟩
 ·rename_i s' i j;obtain ⟨rfl,rfl,rfl⟩:=aG h;rw [D.d_eq] at i;rw [E.d_eq] at j;have i:=vX i;have j:=vX j;subst i;subst j;simp only [VR,PR] at G;subst G;exact ⟨rfl,_,by simp [convert,run_underlying D.und,run_underlying E.und];rfl,by simp only [VR,PR]⟩
 ·rename_i x0 e i j;have J:=bind_some h;clear h;obtain ⟨te,t,h⟩:=J;obtain ⟨ie,de,ze,t⟩:=bQ C t;split at h
  ·cases h
  ·rename_i xa xt xb u A;have J:=bind_some h;clear h;obtain ⟨⟨p,n,pr⟩,y,h⟩:=J;obtain ⟨rfl,rfl,rfl⟩:=aG h;obtain ⟨U,R⟩:=bH hbs;obtain ⟨R,_⟩:=bH R;rw [D.d_eq] at i;rw [E.d_eq] at j;have i:=fB i;have j:=vX j;subst i;subst j;rw [t.d_eq] at u;have u:=U8 u;subst u;have U:=aA U;obtain ⟨f,hs,Z,_⟩:=qi (P:=P) Y T G y (by omega) (tx:=s) (.inr ⟨fun s e=>A s e,e,D.und⟩);have F:f=(p.map AV.toInt).map (Value.int .u8):=by
    have:∀ (p:List AV) (f:List Value),aS g m S p f→p.all (chk (.int .u8))=true→f=(p.map AV.toInt).map (Value.int .u8):=by
     intro p
     induction p with
     |nil=>intro f h _;cases f<;>simp [aS] at h ⊢
     | cons a r ih=>
      intro f h H;cases f with
      |nil=>simp [aS] at h
      |cons c q=>
       simp only [aS] at h;simp only [Xjc,ε] at H;rw [Γ,Γ,ih q h.2 H.2];congr 1;cases a<;>simp [chk] at H
       simp only [VR,PR] at h;rw [h.1,eY H.1];rfl
    exact this p f Z R
   refine ⟨rfl,.string ⟨((p.map AV.toInt).map fun n=>Xql n.toNat).toArray⟩, ?_, ?_⟩
   ·have hcells:=hs.cells;have z:=hs.len w;have o:=G;cases O
    case slice a l c=>
     have hl:l=n:=by simpa [Builtin.lenOf] using z
     subst hl;cases a with
     | none=>
      have K:f= []:=by simpa [Builtin.firstCells] using hcells.symm
      rw [K] at F;have Q:p= []:=by
       have:(p.map AV.toInt).map (Value.int .u8)= []:=F.symm;simpa using this
      subst Q;simp [convert,run_underlying D.und,run_underlying E.und,run_underlying t.und,Conv.bytesToString];rfl
     | some a=>
      have N:(loadCells a l).run P w= .ok ((p.map AV.toInt).map (Value.int .u8)).toArray w:=by
       rw [← F];simpa [Builtin.firstCells] using hcells
      have W:=run_bytesToString (P:=P) w a l c _ N;rw [show ByteArray.empty=⟨([]:List UInt8).toArray⟩ from rfl,Fe,Xqj] at W;simp only [convert,Sem.run_bind,run_underlying D.und,run_underlying E.und,run_underlying t.und,Result.andThen_ok];exact W
    all_goals (simp [Builtin.lenOf] at z)
    case string s0=>
     exfalso;cases xa<;>simp [JZ] at y
     case str s1=>exact A s1 rfl
     case nilS=>simp only [VR,PR] at o;cases o
     case sl a b c=>simp only [VR,PR] at o;obtain ⟨_,_,h,_⟩:=o;cases h
     case ref a b c d=>simp only [VR] at o;obtain ⟨_,_,_,⟨_,_,_,h⟩,_⟩:=o;cases h
   ·simp only [VR,PR];simp [List.map_map,Function.comp_def]
  ·cases h
 ·cases h
end
end AM
namespace AM
open Go
def bC (g:bD) (ups:List (Nat × az)):bD:=fun b=>match ai ups b with|some B=>some B|none=>g b
def setM (m:aB) (b:Nat) (x:Nat × Nat):aB:=fun c=>if c=b then x else m c
theorem fF {α:Type}:∀ (a b:List (Nat × α)) (t:Nat),ai (a++b) t=match ai a t with|some x=>some x|none=>ai b t
 | [],b,t=>rfl
 |(u,x)::r,b,t=>by
  simp only [Xqz,ai];split
  ·rfl
  ·exact fF r b t
theorem jl (ups:List (Nat × az)) (hp:Hp):bC (ai hp) ups=ai (ups++hp):=by
 funext b;rw [fF];unfold bC;cases ai ups b<;>rfl
theorem dP (g:bD):bC g []=g:=rfl
theorem kF (g:bD) (b:Nat) (B:az) (c:Nat):bC g [(b,B)] c=if c=b then some B else g c:=by
 simp only [bC,ai];by_cases h:c=b
 ·subst h;simp
 ·have:Δ b c=false:=by
   cases a:Δ b c with
   |false=>rfl
   |true=>exact absurd (aA a).symm h
  rw [this,if_neg h]
section
variable {P:Program} {ap:AP} {g:bD} {m:aB} {S:au} {w:World}
theorem O7.mono {g g':bD} {m b:aB} {S S':au} {w w':World} {B:az} {k c:Nat} (h:O7 g m S w B k c) (a:gK S S') (f:Ge g m g' b) (l:w'.heap[k]? =w.heap[k]?):O7 g' b S' w' B k c:=by
 obtain ⟨⟨cur,e,vs,rest,q,r,s,n,o,j⟩,i,d⟩:=h;exact ⟨⟨cur,e,vs,rest,q.same l,r,fun p=>aW a _ (s p),iH a f _ n,o,j⟩,i,d⟩
theorem aZ.seal_lt (h:aZ ap g m S w) {k o:Nat} {v:Value} (a:S k o=some v):k<w.heap.size:=BA (h.sealed k o v a)
theorem aZ.put (h:aZ ap g m S w) (b:Nat) (B:az) (k c:Nat) {w':World}
  (i:w.heap.size≤k∨∃ B0,g b=some B0∧k=(m b).1) (hw:w.grownBy w' (some k)) (hblk:O7 g m S w' B k c)
  (hge:∀ B0,g b=some B0→B.esz=B0.esz∧((B.ver=B0.ver∧(k,c)=m b)∨B0.ver<B.ver))
  (hseal:∀ o v,S k o=some v→bT w' k o=some v∧B.fro=true∧o<B.fz)
  (hmw:MW w w':=by first|exact MW.refl _|exact MW.alloc _ _ _ _|exact MW.row _ _ _|exact MW.map0 _):
  aZ ap (bC g [(b,B)]) (setM m b (k,c)) S w'∧Fr g m S w (bC g [(b,B)]) (setM m b (k,c)) S w':=by
 have s:Ge g m (bC g [(b,B)]) (setM m b (k,c)):=by
  intro f B1 n;by_cases e:f=b
  ·subst e;obtain ⟨a,j⟩:=hge B1 n;refine ⟨B,by rw [kF,if_pos rfl],a, ?_⟩;rcases j with ⟨j,D⟩|j
   ·exact .inl ⟨j,by simp [setM,D]⟩
   ·exact .inr j
  ·exact ⟨B1,by rw [kF,if_neg e];exact n,rfl,.inl ⟨rfl,by simp [setM,e]⟩⟩
 have t:∀ f B1,g f=some B1→f ≠ b→(m f).1 ≠ k:=by
  intro f B1 n A e;have r:=h.lt n;rcases i with i|⟨B0,p,i⟩
  ·omega
  ·exact A (h.inj f b B1 B0 n p (e.trans i))
 have l:∀ k0,k0<w.heap.size→k0 ≠ k→w'.heap[k0]? =w.heap[k0]? :=fun k0 r y=>hw.block k0 r (by simpa using y)
 constructor
 ·refine ⟨?_, ?_, ?_, ?_,h.glob⟩
  ·intro f z B1 B2 d x u;rw [kF] at d x;by_cases a:f=b<;>by_cases j:z=b
   ·rw [a,j]
   ·rw [if_neg j] at x;simp only [setM,a,if_true,if_neg j] at u;exact absurd u.symm (t z B2 x j)
   ·rw [if_neg a] at d;simp only [setM,j,if_true,if_neg a] at u;exact absurd u (t f B1 d a)
   ·rw [if_neg a] at d;rw [if_neg j] at x;simp only [setM,if_neg a,if_neg j] at u;exact h.inj f z B1 B2 d x u
  ·intro f B1 d;rw [kF] at d;by_cases a:f=b
   ·rw [if_pos a] at d;cases d;simp only [setM,if_pos a];exact hblk.mono (gK.refl S) s rfl
   ·rw [if_neg a] at d;simp only [setM,if_neg a];exact (h.blk f B1 d).mono (gK.refl S) s (l _ (h.lt d) (t f B1 d a))
  ·intro k0 o v q;by_cases e:k0=k
   ·subst e;exact (hseal o v q).1
   ·rw [BB (l k0 (h.seal_lt q) e)];exact h.sealed k0 o v q
  ·intro f B1 d o v q;rw [kF] at d;by_cases a:f=b
   ·rw [if_pos a] at d;cases d;simp only [setM,if_pos a] at q;exact (hseal o v q).2
   ·rw [if_neg a] at d;simp only [setM,if_neg a] at q;exact h.own f B1 d o v q
 ·refine ⟨s,gK.refl S,hw.os,hw.tape,hw.output,hw.size, ?_, ?_,fun _ _ _ q=> .inl q,hmw.mb _ _⟩
  ·intro k0 r C;refine l k0 r (fun e=> ?_);subst e;rcases i with i|⟨B0,p,i⟩
   ·omega
   ·exact C b B0 p i.symm
  ·intro f B1 d;rw [kF] at d;by_cases a:f=b
   ·subst a;rcases i with i|⟨B0,p,i⟩
    ·exact .inl (by simpa [setM] using i)
    ·exact .inr ⟨B0,p,by simp [setM,i]⟩
   ·rw [if_neg a] at d;exact .inr ⟨B1,d,by simp [setM,a]⟩
end
mutual
theorem Bd {g:bD} {m:aB} {S:au}:∀ (x:AV) {v:Value},VR g m S x v→bZ x= []→PR S x v
 | .int _ _,_,p,_=>by simpa only [VR] using p
 | .bool _,_,p,_=>by simpa only [VR] using p
 | .str _,_,p,_=>by simpa only [VR] using p
 | .nilS,_,p,_=>by simpa only [VR] using p
 | .nilP,_,p,_=>by simpa only [VR] using p
 | .raw _,_,p,_=>by simpa only [VR] using p
 | .nilF,_,p,_=>by simpa only [VR] using p
 | .nilI,_,p,_=>by simpa only [VR] using p
 | .sl _ _ _,_,p,_=>by simpa only [VR] using p
 | .pp _ _,_,p,_=>by simpa only [VR] using p
 | .mp _ _,_,p,_=>by simpa only [VR] using p
 | .dead,_,_,_=>by simp only [PR]
 | .own _ _ _,_,p,_=>by simp only [VR] at p
 | .ref _ _ _ _,_,_,h=>by simp [bZ] at h
 | .ptr _ _ _,_,_,h=>by simp [bZ] at h
 | .mr _ _,_,_,h=>by simp [bZ] at h
 | .agg l,_,p,h=>by
  simp only [VR] at p;simp only [PR];simp only [bZ] at h;obtain ⟨vs,e,q⟩:=p;exact ⟨vs,e,dY l q h⟩
 | .tup l,_,p,h=>by
  simp only [VR] at p;simp only [PR];simp only [bZ] at h;obtain ⟨vs,e,q⟩:=p;exact ⟨vs,e,dY l q h⟩
 | .fn f a c,_,p,h=>by
  simp only [VR] at p;simp only [PR];simp only [bZ,Xjh] at h;obtain ⟨b,vc,e,q,r⟩:=p;exact ⟨b,vc,e,dY a q h.1,dY c r h.2⟩
 | .ifc t x,_,p,h=>by
  simp only [VR] at p;simp only [PR];simp only [bZ] at h;obtain ⟨u,e,q⟩:=p;exact ⟨u,e,Bd x q h⟩
theorem dY {g:bD} {m:aB} {S:au}:∀ (l:List AV) {vs:List Value},aS g m S l vs→bg l= []→a_ S l vs
 | [],[],_,_=>by simp only [a_]
 |x::r,v::vs,p,h=>by simp only [aS] at p;simp only [bg,Xjh] at h;simp only [a_];exact ⟨Bd x p.1 h.1,dY r p.2 h.2⟩
 | [],_::_,p,_=>by simp [aS] at p
 |_::_,[],p,_=>by simp [aS] at p
end
section
variable {P:Program} {ap:AP} {g:bD} {m:aB} {S:au} {w:World}
theorem tq {α:Type} {l:List α} (h:l.isEmpty=true):l= []:=by cases l<;>simp at h ⊢
theorem aZ.fresh (h:aZ ap g m S w) {nid:Nat} (i:g nid=none) (B:az) (j:B.esz ≠ dJ) (c:Nat) {w':World} {cur:Array Value} {e:TypeId} (b:w.grownBy w' none) (a:w'.heap[w.heap.size]? =some (.cells cur e (0,0)))
  (hver:B.fro=false→B.fz=0) (hfz:B.fz≤B.cells.length) {vs rest:List Value} (hc:cur.toList=vs++rest) (hp:B.pr=true→a_ S B.cells vs) (d:aS g m S B.cells vs) (h1:∀ u ∈ vs,u.oneCell'=true) (hcap:0<B.esz→cur.size=c*B.esz∧c≤maxLen)
  (hmw:MW w w':=by first|exact MW.refl _|exact MW.alloc _ _ _ _|exact MW.row _ _ _|exact MW.map0 _):
  aZ ap (bC g [(nid,B)]) (setM m nid (w.heap.size,c)) S w'∧Fr g m S w (bC g [(nid,B)]) (setM m nid (w.heap.size,c)) S w':=by
 refine h.put (hmw:=hmw) nid B w.heap.size c (.inl (ζ _)) ⟨b.os,b.tape,b.output,b.size,fun k f _=>b.block k f (by simp)⟩ ⟨⟨cur,e,vs,rest,fV.of j a,hc,hp,d,fun _=>h1,fun h0 _=>hcap h0⟩,hver,hfz⟩ (fun B0 h0=>by rw [i] at h0;cases h0) ?_;intro o v d;have:=h.seal_lt d;omega
theorem EJ (h:aZ ap g m S w) {nid:Nat} (f:g nid=none) {cells:List AV} {cv:Value} (b:aS g m S cells cv.cells.toList) (_hl:∀ x ∈ cells,kV x=true) (d:∀ u ∈ cv.cells,u.oneCell'=true) (t:TypeId):
  ∃ m' w',(newVar t cv).run P w= .ok ⟨w.heap.size,0,none⟩ w'∧aZ ap (bC g [jQ nid cells 0]) m' S w'∧Fr g m S w (bC g [jQ nid cells 0]) m' S w'∧(m' nid).1=w.heap.size:=by
 have a:=h.fresh (nid:=nid) f (jQ nid cells 0).2 (by show 0 ≠ dJ;decide) 0 (w':=w.alloc (.cells cv.cells t)) (cur:=cv.cells) (e:=t) (World.grownBy_alloc w _ none) (heap_alloc_new w _) (fun _=>rfl) (Xqn _) (vs:=cv.cells.toList) (rest:= []) (by simp)
  (fun hp=>dY _ b (tq hp)) b (fun u c=>d u (by simpa using c)) (fun h=>by simp [jQ] at h)
 refine ⟨_,_, ?_,a.1,a.2,by simp [setM]⟩;simp [newVar,newRow]
theorem Oo {b:aB} {nid:Nat} {cells:List AV} {a k:Nat} (c:(b nid).1=k):VR (bC g [jQ nid cells a]) b S (.ptr nid 0 0) (.pointer (some ⟨k,0,none⟩)):=by
 simp only [VR];refine ⟨(jQ nid cells a).2, ?_,Xqn _,⟨_,_,rfl⟩,fun _=>by rw [c]⟩;show bC g [(nid,(jQ nid cells a).2)] nid=_;rw [kF,if_pos rfl]
theorem H8 (h:aZ ap g m S w) {rd:bD} (J:∀ b B,rd b=some B→g b=some B) {t:Nat} {O:TI} {i:TypeInfo} {d:TypeDesc} {z:Value} (R:v_ P t O i d z) {p x v:AV} {T c:Value} (hp:VR g m S p T) (Y:VR g m S x c)
  {ups:List (Nat × az)} {bs:List Bool} (hs:MG O rd p x=some (v,ups,bs)) (hbs:∀ b ∈ bs,b=true):
  v= .dead∧∃ m' w',(Instr.storeAt t T c).run P w= .ok () w'∧aZ ap (bC g ups) m' S w'∧Fr g m S w (bC g ups) m' S w':=by
 unfold MG at hs;split at hs
 ·rename_i b ver a;have V:=bind_some hs;clear hs;obtain ⟨B,X,hs⟩:=V;simp only at hs;split at hs
  ·rename_i L;simp only [ε,Xqe] at L;obtain ⟨⟨⟨⟨c1,W⟩,c3⟩,c4⟩,Q⟩:=L;have l:B.esz ≠ dJ:=fun e=>by rw [e] at Q;exact absurd Q (by decide)
   cases hs;have j:=J b B X;have D:=aA c1;have M:=aA c3;have K:=eG (hbs _ (List.mem_singleton.2 rfl));simp only [VR] at hp;obtain ⟨B',G,_,_,q⟩:=hp;rw [j] at G;cases G;have q:=q D;subst q;obtain ⟨A,C⟩:=Bh Y (fun y Z=>List.all_eq_true.1 c4 y Z);obtain ⟨⟨cur,e,vs,rest,k1,k2,k3,k4,k5,k6⟩,k7,k8⟩:=h.blk b B j;have k1:=k1.cells l;have k5:=k5 l;have s:=aU A;have N:=aU k4;have F:c.cells.size=i.size:=by simp only [Array.length_toList] at s;rw [← R.size];omega
   have H:cur.toList.length=vs.length+rest.length:=by rw [k2];simp
   have E:=run_storeCells_at P (m b).1 a e c.cells.toList 0 cur w k1 (by simp only [Array.length_toList] at s H ⊢;omega) (fun u f=>C u (by simpa using f));simp only [Xxf] at E;have hnewl:(cur.toList.take a++c.cells.toList++cur.toList.drop (a+c.cells.toList.length))=(vs.take a++c.cells.toList++vs.drop (a+c.cells.toList.length))++rest:=by
    rw [k2,Xq3 (by omega),Xzu (by omega)];simp [Xqi]
   have n:=h.put b {B with cells:=eu B.cells a x.cells,pr:=B.pr && (bg x.cells).isEmpty} (m b).1 (m b).2 (w':=w.setRow (m b).1 (cur.toList.take a++c.cells.toList++cur.toList.drop (a+c.cells.toList.length)).toArray)
    (.inr ⟨B,j,rfl⟩) ⟨rfl,rfl,rfl,by simp,fun k _ U=>setRow_other w _ k _ (fun e=>U (by rw [e]))⟩
    ⟨⟨_,e,vs.take a++c.cells.toList++vs.drop (a+c.cells.toList.length),rest,fV.of l (setRow_heap w _ cur _ e _ k1),by rw [Xx8,hnewl],fun r=>by
      simp only [ε] at r;exact MJ (k3 r.1) (dY _ A (tq r.2)),FX k4 A,by
      intro _ u f;rcases List.mem_append.1 f with f|f
      ·rcases List.mem_append.1 f with f|f
       ·exact k5 u (Xx2 f)
       ·exact C u (by simpa using f)
      ·exact k5 u (Xja f),fun I _=>by
      obtain ⟨s1,s2⟩:=k6 I l;refine ⟨?_,s2⟩;rw [← s1,Xxe];simp only [η,Xqm,Xxb,Array.length_toList] at s H ⊢;omega⟩,k7,by
     have:(eu B.cells a x.cells).length=B.cells.length:=by simp only [eu,η,Xqm,Xxb];omega
     simp only [this];exact k8⟩
    (fun B0 h0=>by rw [j] at h0;cases h0;exact ⟨rfl,.inl ⟨rfl,rfl⟩⟩)
    (fun o v hv=>by
     have:=(h.own b B j o v hv).1;rw [W] at this;cases this)
   refine ⟨rfl,_,_, ?_,n.1,n.2⟩;have hn:¬ (c.cells.size ≠ i.size):=by simp [F]
   simp [Instr.storeAt,Instr.sureAddr,storeVar,Go.sizeOf,typeInfo,R.info,F,E]
  ·cases hs
 ·cases hs
end
end AM
namespace AM
open Go
section
variable {P:Program} {ap:AP} {g:bD} {m:aB} {S:au} {w:World}
theorem jU (g:bD) (b:Nat) (B:az):bC g [(b,B)] b=some B:=by rw [kF,if_pos rfl]
theorem BX {w w':World} (h:w.grownBy w' none) (r:Option Nat):w.grownBy w' r:=⟨h.os,h.tape,h.output,h.size,fun k a _=>h.block k a (by simp)⟩
theorem lK (w:World) (o:Obj):w.grownBy (w.drew.alloc o) none:=⟨rfl,rfl,rfl,by simp,fun k a _=>Go.RowKit.Below.heap_alloc w.drew o k a⟩
theorem ut {t tx ty e:TypeId} {i:TypeInfo} (d:P.underlying t=some (.slice e)) (c:P.info? e=some i) {x:Value} {a:List Value} (hs:Src P i.size tx x 0 a w):
  (Builtin.append_ #[t,tx] ty #[.slice none 0 0,x]).run P w= .ok (.slice none 0 0) w:=by
 rcases hs.kind with ⟨e',b⟩|b<;>simp [Builtin.append_,run_underlying d,run_underlying b,Go.sizeOf,typeInfo,c,hs.len,hs.cells]
theorem uu {t tx ty e:TypeId} {i:TypeInfo} (h:P.underlying t=some (.slice e)) (f:P.info? e=some i) {k o sLen sCap n:Nat} {x:Value} {a:List Value} (hs:Src P i.size tx x n a w) (hroom:sLen+n≤sCap)
  {cur:Array Value} {e':TypeId} (hk:w.heap[k]? =some (.cells cur e' (0,0))) (hfit:o+sLen*i.size+a.length≤cur.size):
  (Builtin.append_ #[t,tx] ty #[.slice (some ⟨k,o,none⟩) sLen sCap,x]).run P w= .ok (.slice (some ⟨k,o,none⟩) (sLen+n) sCap) (w.setRow k (cur.toList.take (o+sLen*i.size)++a++cur.toList.drop (o+sLen*i.size+a.length)).toArray):=by
 have b:=run_storeCells_at P k (o+sLen*i.size) e' a 0 cur w hk (by simpa using hfit) hs.one;simp only [Xxf] at b;rcases hs.kind with ⟨d,c⟩|c<;>simp [Builtin.append_,run_underlying h,run_underlying c,Go.sizeOf,typeInfo,f,hs.len,hroom,hs.cells,Addr.add_mid,b]
theorem JF (b:Nat):Fg b≤JG:=by
 unfold Fg;split
 ·exact ζ _
 ·decide
theorem y_ {n old bytes tb:Nat} (h:old<n) (a:n≤Fg tb) (c:bytes=tb) (b:bytes≤256):Builtin.nextslicecap n old*bytes≤281474976710656:=by
 refine growslice_fits h ?_;subst c;unfold Fg at a;split at a
 ·rename_i f;have d:=Nat.le_of_ble_eq_true f;have:n*bytes≤JG*128:=Xka a d;have e:JG*128=140737488355328:=by decide
  omega
 ·have:n*bytes≤549755813888*256:=Xka a b;omega
theorem xx:JG=1099511627776:=by decide
theorem Aa {t tx ty e:TypeId} {i:TypeInfo} (f:P.underlying t=some (.slice e)) (d:P.info? e=some i) {x:Value} {base:Option Addr} {sLen sCap:Nat} (hs:Src P i.size tx x 0 [] w) (c:sLen≤sCap):
  (Builtin.append_ #[t,tx] ty #[.slice base sLen sCap,x]).run P w= .ok (.slice base sLen sCap) w:=by
 cases base with
 |none=>rcases hs.kind with ⟨e',b⟩|b<;>simp [Builtin.append_,run_underlying f,run_underlying b,Go.sizeOf,typeInfo,d,hs.len,hs.cells,c]
 |some a=>rcases hs.kind with ⟨e',b⟩|b<;>simp [Builtin.append_,run_underlying f,run_underlying b,Go.sizeOf,typeInfo,d,hs.len,hs.cells,c,storeCells]
theorem uC (h:aZ ap g m S w) {rd:bD} (Q:∀ b B,rd b=some B→g b=some B) {nid:Nat} (hn:g nid=none) {t tx e:Nat} {ti l:TI} {i G:TypeInfo} {z O:Value} {de:TypeDesc} (ht:v_ P t ti i (.slice e) z) (y:v_ P e l G de O)
  {s x v:AV} {cs cx:Value} (hvs:VR g m S s cs) (hvx:VR g m S x cx)
  (hk:((∃ s,x= .str s)∧P.underlying tx=some .string∧l.size=1)∨((∀ s,x ≠ .str s)∧∃ e,P.underlying tx=some (.slice e)))
  {em:Bool} (N:s= .nilS→∃ n,vg x=some n∧Δ n 0=em)
  {ups:List (Nat × az)} {bs:List Bool} (E:wC nid l rd em s x=some (v,ups,bs)) (r:∀ b ∈ bs,b=true) (ty:Nat):
  ∃ cv m' w',(Builtin.append_ #[t,tx] ty #[cs,cx]).run P w= .ok cv w'∧aZ ap (bC g ups) m' S w'∧Fr g m S w (bC g ups) m' S w'∧VR (bC g ups) m' S v cv:=by
 have hcount:∀ L n pr,JZ l.size rd x=some (L,n,pr)→vg x=some n:=by
  intro L n pr a;unfold JZ at a;split at a
  ·cases a;rfl
  ·cases a;rfl
  ·cases a;rfl
  ·have hq:=bind_some a;clear a;obtain ⟨B,hB,a⟩:=hq;split at a
   ·cases a;rfl
   ·cases a
  ·cases a
 unfold wC at E;have hq:=bind_some E;clear E;obtain ⟨⟨L,n,pr⟩,a,E⟩:=hq;simp only at E;split at E
 ·cases E
 ·rename_i W;simp only [ε] at W;have hsz:=dW W.1;have hby:=eG W.2;have d:l.size=G.size:=y.size;have T:l.size ≠ dJ:=fun e=>by have:=y.small;omega
  have hby':l.bytes=G.bytes:=y.bytes;have hzs:O.cells.size=G.size:=y.zsize;split at E
  ·
   obtain ⟨n',hc',N⟩:=N rfl;rw [hcount _ _ _ a] at hc';cases hc';simp only [VR,PR] at hvs;subst hvs;split at E
   ·
    obtain ⟨rfl,rfl,rfl⟩:=aG E;have M:n=0:=aA N;subst M;have hl:=aA (r _ (List.mem_singleton.2 rfl));obtain ⟨c,hs,hv,hp⟩:=qi (P:=P) h Q hvx a hl hk;rw [d] at hs;exact ⟨_,m,w,ut ht.und y.info hs,by rw [dP];exact h,by rw [dP];exact Fr.refl _ _ _ _,by simp [VR,PR]⟩
   ·
    cases E;obtain ⟨b1,r⟩:=bH r;obtain ⟨b2,_⟩:=bH r;have hl:=aA b1;have hroomB:=eG b2;have hroom:=Xqg hroomB (JF _);have M:n ≠ 0:=by intro e;subst e;simp at N
    obtain ⟨c,hs,hv,hp⟩:=qi (P:=P) h Q hvx a hl hk;rw [d] at hs;have f:=run_append_grow_src w t tx ty e G O ht.und y.info y.zero none 0 0 [] (run_firstCells_none w.drew _ _ _ _) cx n c hs (by omega) (by rw [xx] at hroom;omega) (y_ (by omega) (by simpa using hroomB) (by omega) (by omega));have Y:n≤grownCap w n 0 e:=grownCap_ge _ _ _ _;have Z:grownCap w n 0 e≤maxLen:=grownCap_le_maxLen _ _ _ _ (by rw [xx] at hroom;simp only [maxLen];omega);simp only [Φ] at f;have hf:=h.fresh (nid:=nid) hn ⟨L,0,false,0,l.size,pr⟩ T (grownCap w n 0 e) (cur:=([]++c).toArray++Builtin.zeroCells O.cells (grownCap w n 0 e - n)) (e:=e) (lK w _) (heap_alloc_new w.drew _) (fun _=>rfl) (Xqn _)
     (vs:=c) (rest:=(Builtin.zeroCells O.cells (grownCap w n 0 e - n)).toList) (by simp) hp hv hs.one (fun _=> ⟨by
      simp only [Array.size_append,Xxe,Xqj,size_zeroCells,hs.newsLen,hzs,d];rw [← Xzb];congr 1;omega,Z⟩)
    refine ⟨_,_,_,f,hf.1,hf.2, ?_⟩;simp only [VR];refine ⟨_,jU _ _ _,ζ _,⟨_,_,_,rfl⟩,fun _=> ⟨0, ?_, ?_, ?_,hsz,T⟩⟩
    ·simp [setM]
    ·simpa [setM] using Y
    ·simp
  ·rename_i b ver mN;have hq:=bind_some E;clear E;obtain ⟨B,hB,E⟩:=hq;split at E
   ·rename_i F;simp only [ε,Xqe] at F;have hver:=aA F.1.1;have R:=aA F.1.2;have A:B.esz ≠ dJ:=fun e=>by rw [e] at F;exact absurd F.2 (by decide)
    cases E;obtain ⟨b1,r⟩:=bH r;obtain ⟨b2,r⟩:=bH r;obtain ⟨b3,r⟩:=bH r;obtain ⟨b4,_⟩:=bH r;have hl:=aA b1;have hroomB:=eG b2;have hroom:=Xqg hroomB (JF _);have hfit:=eG b3;have D:=Q b B hB;simp only [VR] at hvs;obtain ⟨B',hB',_,_,q⟩:=hvs;rw [D] at hB';cases hB';obtain ⟨o,rfl,hcap,ho,H,hnz1⟩:=q hver;simp only [Φ,Nat.sub_zero,Nat.zero_mul] at hcap ho ⊢;obtain ⟨c,hs,hv,hp⟩:=qi (P:=P) h Q hvx a hl hk;rw [d] at hs;have hbk:=h.blk b B D;obtain ⟨⟨cur,e',vs,rest,k1,k2,k3,k4,k5,k6⟩,k7,k8⟩:=hbk;have k1:=k1.cells A;have k5:=k5 A;obtain ⟨s1,s2⟩:=k6 H A;have hvl:=aU k4;have hcl:cur.toList.length=vs.length+rest.length:=by rw [k2];simp
    simp only [Array.length_toList] at hcl;have hfz:B.fz≤mN*l.size:=by
     cases hf:B.fro with
     |false=>rw [k7 hf];exact Xqn _
     |true=>simp [hf] at b4;exact eG (by simpa using b4)
    have holds:a_ S (B.cells.take (mN*l.size)) (vs.take (mN*l.size))∨B.pr=false:=by
     cases hp:B.pr with
     |false=>exact .inr rfl
     |true=>exact .inl (jo _ (k3 hp))
    have I:(vs.take (mN*l.size)).length=mN*G.size:=by rw [Xqm,d] at*;omega
    have X:aS g m S (B.cells.take (mN*l.size)++L) (vs.take (mN*l.size)++c):=fH (oq _ k4) hv;have V:(B.pr && pr)=true→a_ S (B.cells.take (mN*l.size)++L) (vs.take (mN*l.size)++c):=by
     intro hh;simp only [ε] at hh;exact iP (jo _ (k3 hh.1)) (hp hh.2)
    have h1:∀ u ∈ vs.take (mN*l.size)++c,u.oneCell'=true:=by
     intro u C;rcases List.mem_append.1 C with C|C
     ·exact k5 u (Xx2 C)
     ·exact hs.one u C
    have K:B.fz≤(B.cells.take (mN*l.size)++L).length:=by
     rw [η,Xqm];omega
    by_cases hrm:mN+n≤(m b).2
    ·
     by_cases hc0:(m b).2=0
     ·have hm0:mN=0:=by omega
      have M:n=0:=by omega
      subst hm0;subst M;have hnews:c= []:=by have:=hs.newsLen;simpa using this
      subst hnews;have f:=Aa (P:=P) (w:=w) (ty:=ty) (base:=some ⟨(m b).1,o,none⟩) (sLen:=0) (sCap:=(m b).2) ht.und y.info hs (by omega);have p:=h.put b {B with cells:=B.cells.take (0*l.size)++L,ver:=ver+1,pr:=B.pr && pr} (m b).1 (m b).2 (w':=w) (.inr ⟨B,D,rfl⟩) ⟨rfl,rfl,rfl,ζ _,fun _ _ _=>rfl⟩
       ⟨⟨cur,e',_,vs.drop (0*l.size)++rest,fV.of A k1,by rw [k2];simp,V,X,fun _=>h1,k6⟩,k7,K⟩ (fun B0 h0=>by rw [D] at h0;cases h0;exact ⟨rfl,.inr (by simp only;omega)⟩)
       (fun o' u C=> ⟨h.sealed _ _ _ C,(h.own b B D o' u C)⟩)
      refine ⟨_,_,_,f,p.1,p.2, ?_⟩;simp only [VR];refine ⟨_,jU _ _ _,ζ _,⟨_,_,_,rfl⟩,fun _=> ⟨o,by simp [setM],by simp,by simp [setM,hc0],H,A⟩⟩
     ·have U:o=0:=ho (by omega);subst U;have hnl:=hs.newsLen;have hbig:mN*G.size+n*G.size≤(m b).2*G.size:=by rw [← Xzb];exact Nat.mul_le_mul_right _ hrm
      have hcs:cur.size=(m b).2*G.size:=by rw [s1,R,d]
      have f:=uu (P:=P) (w:=w) (ty:=ty) (o:=0) ht.und y.info hs hrm k1 (by simp only [Φ];omega);simp only [Φ] at f;have hlist:cur.toList.take (mN*G.size)=vs.take (mN*l.size):=by rw [k2,d,Xq3 (by rw [d] at hfit;omega)]
      have p:=h.put b {B with cells:=B.cells.take (mN*l.size)++L,ver:=ver+1,pr:=B.pr && pr} (m b).1 (m b).2 (w':=w.setRow (m b).1 (cur.toList.take (mN*G.size)++c++cur.toList.drop (mN*G.size+c.length)).toArray)
       (.inr ⟨B,D,rfl⟩) ⟨rfl,rfl,rfl,by simp,fun k _ hk=>setRow_other w _ k _ (fun e=>hk (by rw [e]))⟩
       ⟨⟨_,e',_,cur.toList.drop (mN*G.size+c.length),fV.of A (setRow_heap w _ cur _ e' _ k1),by rw [hlist],V,X,fun _=>h1,fun _ _=> ⟨by
        rw [← s1,Xxe];simp only [η,Xqm,Xxb,Array.length_toList];omega,s2⟩⟩,k7,K⟩ (fun B0 h0=>by rw [D] at h0;cases h0;exact ⟨rfl,.inr (by simp only;omega)⟩)
       (fun o' u C=>by
        obtain ⟨f1,f2⟩:=h.own b B D o' u C;refine ⟨?_,f1,f2⟩;have:=h.sealed _ _ _ C;cases J:u.oneCell' with
        |false=>
         obtain ⟨_,_,hm,_⟩:=sU this J;rw [k1] at hm;cases hm
        |true=>
        have this:=sV this J;rw [iI k1] at this;refine (fV.of A (setRow_heap w _ cur _ e' _ k1)).get ?_ (fun _=>J);simp only [Xqi];rw [υ (by simp only [Xqm,Array.length_toList];rw [d] at hfz;omega),List.getElem?_take_of_lt (by rw [d] at hfz;omega)];exact this)
      refine ⟨_,_,_,f,p.1,p.2, ?_⟩;simp only [VR];refine ⟨_,jU _ _ _,ζ _,⟨_,_,_,rfl⟩,fun _=> ⟨0,by simp [setM],by simpa [setM] using hrm,by simp,H,A⟩⟩
    ·
     have hold:(Builtin.firstCells G.size mN (.slice (some ⟨(m b).1,o,none⟩) mN (m b).2)).run P w.drew= .ok (vs.take (mN*l.size)).toArray w.drew:=by
      refine run_firstCells_some w.drew G.size mN ⟨(m b).1,o,none⟩ mN _ _ I ?_;intro j u C;have hjl:=(List.getElem?_eq_some_iff.1 C).1;rw [I] at hjl;have hm0:0<mN:=by
       rcases Xjx mN with h0|h0
       ·subst h0;simp at hjl
       ·exact h0
      have U:o=0:=ho (by omega);subst U;rw [Addr.add_mid,Φ,iI (w:=w.drew) (j:=j) k1,k2];rw [Xxh] at C;split at C
      ·rw [υ (List.getElem?_eq_some_iff.1 C).1];exact C
      ·cases C
     have f:=run_append_grow_src w t tx ty e G O ht.und y.info y.zero (some ⟨(m b).1,o,none⟩) mN (m b).2 _ hold cx n c hs (by omega) (by rw [xx] at hroom;omega) (y_ (by omega) hroomB (by omega) (by omega));have Y:mN+n≤grownCap w (mN+n) (m b).2 e:=grownCap_ge _ _ _ _;have Z:grownCap w (mN+n) (m b).2 e≤maxLen:=grownCap_le_maxLen _ _ _ _ (by rw [xx] at hroom;simp only [maxLen];omega);have p:=h.put b {B with cells:=B.cells.take (mN*l.size)++L,ver:=ver+1,pr:=B.pr && pr} w.heap.size (grownCap w (mN+n) (m b).2 e) (.inl (ζ _))
      (BX (lK w (.cells ((vs.take (mN*l.size)++c).toArray++Builtin.zeroCells O.cells (grownCap w (mN+n) (m b).2 e - (mN+n))) e)) _)
      ⟨⟨(vs.take (mN*l.size)++c).toArray++Builtin.zeroCells O.cells (grownCap w (mN+n) (m b).2 e - (mN+n)),e,_,(Builtin.zeroCells O.cells (grownCap w (mN+n) (m b).2 e - (mN+n))).toList,fV.of A (heap_alloc_new w.drew _),by simp,V,X,fun _=>h1,fun _ _=> ⟨by
       simp only [Array.size_append,Xxe,η,size_zeroCells,hs.newsLen,hzs];rw [I,R,d,← Xzb,← Xzb];congr 1;omega,Z⟩⟩,k7,K⟩ (fun B0 h0=>by rw [D] at h0;cases h0;exact ⟨rfl,.inr (by simp only;omega)⟩)
      (fun o' u C=>absurd (h.seal_lt C) (Xzl _))
     refine ⟨_,_,_,f,p.1,p.2, ?_⟩;simp only [VR];refine ⟨_,jU _ _ _,ζ _,⟨_,_,_,rfl⟩,fun _=> ⟨0,by simp [setM],by simpa [setM] using Y,by simp,H,A⟩⟩
   ·cases E
  ·cases E
end
end AM
namespace AM
open Go
theorem zI (n:Nat) (z:List AV):(gu n z).length=n*z.length:=by simp [gu]
theorem P_ (n:Nat) (z:List AV):gu (n+1) z=z++gu n z:=by simp [gu,Xxm]
theorem JE:∀ (n:Nat) (z:List AV) (i:Nat),i<n*z.length→(gu n z)[i]? =z[i % z.length]?
 |0,z,i,h=>by simp at h
 | n+1,z,i,h=>by
  rw [P_];by_cases a:i<z.length
  ·rw [υ a,Nat.mod_eq_of_lt a]
  ·have a:z.length≤i:=by omega
   rw [List.getElem?_append_right a,JE n z (i - z.length) (by rw [Xzb,Nat.one_mul] at h;omega)];congr 1;rw [← Nat.mod_eq_sub_mod a]
section
variable {P:Program} {ap:AP} {g:bD} {m:aB} {S:au} {w:World}
theorem Bg:∀ {l:List AV} {vs:List Value},l.length=vs.length→(∀ (i:Nat) x v,l[i]? =some x→vs[i]? =some v→VR g m S x v)→aS g m S l vs
 | [],[],_,_=>by simp [aS]
 |x::r,v::vs,hl,h=>by
  simp only [aS];exact ⟨h 0 x v rfl rfl,Bg (by simpa using hl) fun i x v a b=>h (i+1) x v (by simpa using a) (by simpa using b)⟩
 | [],_::_,h,_=>by simp at h
 |_::_,[],h,_=>by simp at h
theorem yC (z:Array Value) (n:Nat):(madeCells z n).toList=(List.range n).map fun i=>z[i % z.size]! :=by simp [madeCells]
theorem nX {t:Nat} {k:TI} {i:TypeInfo} {d:TypeDesc} {z:Value} (f:v_ P t k i d z) (n:Nat):aS g m S (gu n k.zero) (madeCells z.cells (n*i.size)).toList:=by
 have o:=ou (g:=g) (m:=m) (S:=S) f;have a:=aU o;simp only [Array.length_toList,f.zsize] at a;refine Bg (by rw [zI,a,Array.length_toList,size_madeCells]) ?_;intro j x v l c;have e:j<n*i.size:=by
  have:=(List.getElem?_eq_some_iff.1 l).1;rw [zI,a] at this;exact this
 rw [JE n k.zero j (by rw [a];exact e),a] at l;rw [yC,f.zsize,φ,List.getElem?_range e] at c;simp only [Xqu,Option.some.injEq] at c;obtain ⟨q,b,p⟩:=pg o _ l;have hm:j % i.size<z.cells.size:=by rw [f.zsize];exact Nat.mod_lt _ (by
  rcases Xjx i.size with h|h
  ·rw [h,Nat.mul_zero] at e;exact absurd e (Nat.not_lt_zero _)
  ·exact h)
 simp only [Array.getElem?_toList] at b;rw [getElem!_pos z.cells _ hm] at c;rw [Array.getElem?_eq_getElem hm] at b;cases b;rw [← c];exact p
theorem yP {n:Nat} {z:List AV} (h:∀ x ∈ z,kV x=true):∀ x ∈ gu n z,kV x=true:=by
 intro x a;simp only [gu,List.mem_flatten,List.mem_replicate] at a;obtain ⟨l,⟨_,rfl⟩,a⟩:=a;exact h x a
theorem wz:∀ {l:List AV} {vs:List Value},aS g m S l vs→(∀ x ∈ l,kV x=true)→∀ u ∈ vs,u.oneCell'=true
 | [],[],_,_=>by simp
 |x::r,v::vs,h,hl=>by
  simp only [aS] at h;intro u a;rcases List.mem_cons.1 a with rfl|a
  ·exact Ky h.1 (hl x (by simp))
  ·exact wz h.2 (fun y b=>hl y (by simp [b])) u a
 | [],_::_,h,_=>by simp [aS] at h
 |_::_,[],h,_=>by simp [aS] at h
theorem GU {b vs:List AV} {a:Nat} {x:AV} (h:x ∈ eu b a vs):x ∈ b∨x ∈ vs:=by
 simp only [eu,List.mem_append] at h;rcases h with (h|h)|h
 ·exact .inl (Xx2 h)
 ·exact .inr h
 ·exact .inl (Xja h)
theorem BO:∀ {ps:List (Nat × Nat × AV)} {cells cells':List AV},uI cells ps=some cells'→(∀ x ∈ cells,kV x=true)→∀ x ∈ cells',kV x=true
 | [],cells,cells',h,hl=>by simp [uI] at h;subst h;exact hl
 | (off,size,v)::r,cells,cells',h,hl=>by
  simp only [uI] at h;split at h
  ·rename_i b;simp only [ε] at b;refine BO h fun x a=> ?_
   rcases GU a with a|a
   ·exact hl x a
   ·exact List.all_eq_true.1 b.2 x a
  ·cases h
theorem WZ {nid:Nat} {cells:List AV} {a k c n:Nat} (b:n≤c) (hp:0<a) (d:a ≠ dJ):VR (bC g [jQ nid cells a]) (setM m nid (k,c)) S (.ref nid 0 0 n) (.slice (some ⟨k,0,none⟩) n c):=by
 simp only [VR];refine ⟨_,jU _ _ _,Xqn _,⟨_,_,_,rfl⟩,fun _=> ⟨0,by simp [setM],by simpa [setM] using b,by simp,hp,d⟩⟩
theorem Ua {nid:Nat} {cells:List AV} {a k c n:Nat} {p:Bool} (b:n≤c) (hp:0<a) (d:a ≠ dJ):VR (bC g [(nid,⟨cells,0,false,0,a,p⟩)]) (setM m nid (k,c)) S (.ref nid 0 0 n) (.slice (some ⟨k,0,none⟩) n c):=by
 simp only [VR];refine ⟨_,jU _ _ _,Xqn _,⟨_,_,_,rfl⟩,fun _=> ⟨0,by simp [setM],by simpa [setM] using b,by simp,hp,d⟩⟩
theorem qf:∀ (a b:List AV),bg (a++b)=bg a++bg b
 | [],b=>by simp [bg]
 |x::r,b=>by simp [bg,qf r b]
theorem yO (z:List AV) (h:bg z= []):∀ n,bg (gu n z)= []
 |0=>by simp [gu,bg]
 |n+1=>by
  have a:=yO z h n;simp only [gu,Xxm,List.flatten_cons,qf,h,Xqj] at a ⊢;exact a
theorem Gh (h:aZ ap g m S w) {rd:bD} (Y:∀ b B,rd b=some B→g b=some B) {t e:Nat} {ti a:TI} {i V:TypeInfo} {z J:Value} {de:TypeDesc} (X:v_ P t ti i (.slice e) z) (c:v_ P e a V de J) {x v:AV} {cx:Value} (K:VR g m S x cx)
  {ups:List (Nat × az)} {bs:List Bool} (l:KG a rd x=some (v,ups,bs)) (hbs:∀ b ∈ bs,b=true) (ats:Array TypeId) (hat:ats[0]? =some t) (args:Array Value) (harg:args[0]? =some cx) (ty:TypeId):
  ∃ m' w',(Builtin.clear_ ats ty args).run P w= .ok (.tuple #[]) w'∧aZ ap (bC g ups) m' S w'∧Fr g m S w (bC g ups) m' S w'∧v= .tup []:=by
 unfold KG at l;split at l
 ·obtain ⟨rfl,rfl,rfl⟩:=aG l;simp only [VR,PR] at K;subst K;exact ⟨m,w,by simp [Builtin.clear_,hat,harg,run_underlying X.und],by rw [dP];exact h,by rw [dP];exact Fr.refl _ _ _ _,rfl⟩
 ·rename_i b ver j n;have hq:=bind_some l;clear l;obtain ⟨B,hB,l⟩:=hq;split at l
  ·rename_i G;simp only [ε,Xqe] at G;obtain ⟨⟨⟨⟨c1,c2⟩,c3⟩,c4⟩,c5⟩:=G;cases l;have d:=Y b B hB;have D:=aA c1;have f:=aA c3;have Z:=eG (hbs _ (List.mem_singleton.2 rfl));have s:B.esz ≠ dJ:=by have h1:=c.small;have h2:=c.size;omega
   simp only [VR] at K;obtain ⟨B',F,_,_,q⟩:=K;rw [d] at F;cases F;obtain ⟨o,rfl,hjn,W,hpos,_⟩:=q D;have C:aS g m S (gu n a.zero) (madeCells J.cells (n*V.size)).toList:=nX c n;have O:∀ x ∈ gu n a.zero,kV x=true:=yP c.zleaf;have A:=wz C O;have N:bg (gu n a.zero)= []:=yO _ (by simpa using c5) _;have p:=aU C;have I:(gu n a.zero).length=n*a.size:=by rw [p,Array.length_toList,size_madeCells,c.size]
   obtain ⟨⟨cur,L,vs,rest,k1,k2,k3,k4,k5,k6⟩,k7,k8⟩:=h.blk b B d;have k1:=k1.cells s;have k5:=k5 s;have hvl':=aU k4;have H:cur.toList.length=vs.length+rest.length:=by rw [k2];simp
   generalize Q:(madeCells J.cells (n*V.size)).toList=zs at C A p;have T:zs.length=n*a.size:=by rw [← p,I]
   have U:(Builtin.zeroCells J.cells n).toList=zs:=by rw [← Q,← c.zsize];rfl
   have E:=run_storeCells_at P (m b).1 (j*a.size) L zs 0 cur w k1 (by simp only [Array.length_toList] at H;omega) A;simp only [Xxf] at E;have hnewl:(cur.toList.take (j*a.size)++zs++cur.toList.drop (j*a.size+zs.length))=(vs.take (j*a.size)++zs++vs.drop (j*a.size+zs.length))++rest:=by
    rw [k2,Xq3 (by omega),Xzu (by omega)];simp [Xqi]
   have y:=h.put b {B with cells:=eu B.cells (j*a.size) (gu n a.zero)} (m b).1 (m b).2 (w':=w.setRow (m b).1 (cur.toList.take (j*a.size)++zs++cur.toList.drop (j*a.size+zs.length)).toArray)
    (.inr ⟨B,d,rfl⟩) ⟨rfl,rfl,rfl,by simp,fun k _ hk=>setRow_other w _ k _ (fun e=>hk (by rw [e]))⟩
    ⟨⟨_,L,vs.take (j*a.size)++zs++vs.drop (j*a.size+zs.length),rest,fV.of s (setRow_heap w _ cur _ L _ k1),by rw [Xx8,hnewl],fun R=>MJ (k3 R) (dY _ C N),FX k4 C,by
      intro _ u r;rcases List.mem_append.1 r with r|r
      ·rcases List.mem_append.1 r with r|r
       ·exact k5 u (Xx2 r)
       ·exact A u r
      ·exact k5 u (Xja r),fun f _=>by
      obtain ⟨s1,s2⟩:=k6 f s;refine ⟨?_,s2⟩;rw [← s1,Xxe];simp only [η,Xqm,Xxb,Array.length_toList] at p H ⊢;omega⟩,k7,by
     have:(eu B.cells (j*a.size) (gu n a.zero)).length=B.cells.length:=by simp only [eu,η,Xqm,Xxb];omega
     simp only [this];exact k8⟩
    (fun B0 h0=>by rw [d] at h0;cases h0;exact ⟨rfl,.inl ⟨rfl,rfl⟩⟩)
    (fun o v C=>by
     have:=(h.own b B d o v C).1;rw [c2] at this;cases this)
   refine ⟨_,_, ?_,y.1,y.2,rfl⟩;by_cases hn:n=0
   ·subst hn;have M:zs= []:=List.eq_nil_of_length_eq_zero (by simpa using T);subst M;have hsame:w.setRow (m b).1 (cur.toList.take (j*a.size)++ []++cur.toList.drop (j*a.size+([]:List Value).length)).toArray=w:=by
     simp only [μ,List.length_nil,Xxf,List.take_append_drop,Array.toArray_toList];exact setRow_self w _ cur L (0,0) k1
    rw [hsame];simp [Builtin.clear_,hat,harg,run_underlying X.und]
   ·have W:=W (by omega);subst W;rw [f] at harg;cases n with
    |zero=>exact absurd rfl hn
    |succ n=>simp [Builtin.clear_,hat,harg,run_underlying X.und,zeroValue,typeInfo,c.info,c.zero,U,E,Result.andThen]
  ·cases l
 ·cases l
theorem yD (B:di P ap) (h:aZ ap g m S w) {nid:Nat} (W:g nid=none) {t:Nat} {M:TI} {i:TypeInfo} {d:TypeDesc} {z:Value} (O:v_ P t M i d z) {l c:AV} {cl K:Value} (R:VR g m S l cl) (L:VR g m S c K)
  {v:AV} {ups:List (Nat × az)} {bs:List Bool} (hm:vG ap nid M l c=some (v,ups,bs)) (j:∀ b ∈ bs,b=true):
  ∃ cv m' w',(Instr.makeSlice t cl K).run P w= .ok cv w'∧aZ ap (bC g ups) m' S w'∧Fr g m S w (bC g ups) m' S w'∧VR (bC g ups) m' S v cv:=by
 unfold vG at hm;split at hm
 ·rename_i e kl l V c u;have T:=bind_some hm;clear hm;obtain ⟨k,a,hm⟩:=T;obtain ⟨n,X,A,a⟩:=bQ B a;split at hm
  ·rename_i f;simp only [ε] at f;have y:=f.2;have f:=f.1;have r:=dW f.1.1;have I:=eG f.2;have E:bg (gu l.toNat k.zero)= []:=yO _ (by simpa using y) _;generalize k.zero.all TL=p at hm;cases hm;obtain ⟨s,j⟩:=bH j;obtain ⟨H,j⟩:=bH j;obtain ⟨Q,_⟩:=bH j;have s:0≤l:=of_decide_eq_true s;have H:l=c:=of_decide_eq_true H;have Q:l≤2^40:=of_decide_eq_true Q;subst H;simp only [VR,PR] at R L;subst R;subst L;rw [O.d_eq] at u;have u:=fB u;subst u;have o:(n.bytes:Int)*l≤281474976710656:=by
    have C:(n.bytes:Int)≤128:=by rw [← a.bytes];exact_mod_cast I
    have N:(n.bytes:Int)*l≤128*l:=Int.mul_le_mul_of_nonneg_right C s;have U:(2:Int)^40=1099511627776:=by decide
    omega
   have D:l≤9223372036854775807:=by
    have U:(2:Int)^40=1099511627776:=by decide
    omega
   have q:=run_make (P:=P) w t e n A O.und a.info a.zero kl V l l s (Int.le_refl _) o D;have G:aS g m S (gu l.toNat k.zero) (madeCells A.cells (l.toNat*n.size)).toList:=nX a _;have F:∀ x ∈ gu l.toNat k.zero,kV x=true:=yP a.zleaf;have J:=h.fresh (nid:=nid) W ⟨gu l.toNat k.zero,0,false,0,k.size,p⟩ (by have C:=a.small;have N:=a.size;show k.size ≠ dJ;omega) l.toNat (w':=w.alloc (.cells (madeCells A.cells (l.toNat*n.size)) e)) (World.grownBy_alloc w _ none) (heap_alloc_new w _) (fun _=>rfl) (Xqn _)
    (rest:= []) (by rw [μ]) (fun hp=>dY _ G E) G (wz G F) (fun _=> ⟨by rw [size_madeCells];simp [a.size],by simp only [maxLen];omega⟩)
   refine ⟨_,_,_,q,J.1,J.2, ?_⟩;exact Ua (ζ _) r (by have C:=a.small;have N:=a.size;omega)
  ·cases hm
 ·cases hm
theorem l_ {t e:TypeId} {i:TypeInfo} {z:Value} (d:P.underlying t=some (.slice e)) (c:P.info? e=some i) (f:i.zero=some z) {len:Nat} (b:len*i.size≤2^24) (h0:len*i.size ≠ 0) {parts:Array (Nat × Value)} {cells:Array Value}
  (hf:Instr.fill (fun h=>some (h*i.size,i.size)) (madeCells z.cells (len*i.size)) parts.toList=some cells):
  (Instr.buildSlice t len parts).run P w= .ok (.slice (some ⟨w.heap.size,0,none⟩) len len) (w.alloc (.cells cells e)):=by
 have a:¬ (len*i.size>2^24):=by omega
 unfold madeCells at hf;simp only [Instr.buildSlice,Sem.run_bind,run_underlying d,Result.andThen_ok];simp [Go.sizeOf,typeInfo,c,zeroValue,f,h0,newRow];rw [if_neg (by simpa using a)];simp [hf]
theorem Ac {t e:TypeId} {i:TypeInfo} (b:P.underlying t=some (.slice e)) (a:P.info? e=some i) {len:Nat} (h0:len*i.size=0) {parts:Array (Nat × Value)} {cells:Array Value}
  (hf:Instr.fill (fun c=>some (c*i.size,i.size)) #[] parts.toList=some cells):
  (Instr.buildSlice t len parts).run P w= .ok (.slice (some ⟨w.heap.size,0,none⟩) len len) (w.alloc (.cells cells e)):=by
 simp [Instr.buildSlice,run_underlying b,Go.sizeOf,typeInfo,a,h0,newRow,Array.range_zero',hf]
theorem wE (r:di P ap) (h:aZ ap g m S w) {nid:Nat} (J:g nid=none) {t:Nat} {F:TI} {i:TypeInfo} {d:TypeDesc} {z:Value} (C:v_ P t F i d z) {len:Nat} {ps:List (Nat × AV)} {qs:Array (Nat × Value)} (G:ww g m S ps qs.toList)
  {v:AV} {ups:List (Nat × az)} {bs:List Bool} (hm:qZ ap nid F len ps=some (v,ups,bs)):
  ∃ cv m' w',(Instr.buildSlice t len qs).run P w= .ok cv w'∧aZ ap (bC g ups) m' S w'∧Fr g m S w (bC g ups) m' S w'∧VR (bC g ups) m' S v cv:=by
 unfold qZ at hm;split at hm
 ·rename_i e p;have j:=bind_some hm;clear hm;obtain ⟨k,a,hm⟩:=j;obtain ⟨B,M,H,a⟩:=bQ r a;split at hm
  ·rename_i f;simp only [ε] at f;have b:=dW f.1.1;have A:=eG f.1.2;have j:=bind_some hm;clear hm;obtain ⟨cs,l,hm⟩:=j;cases hm;rw [C.d_eq] at p;have p:=fB p;subst p;have u:aS g m S (gu len k.zero) (madeCells H.cells (len*B.size)).toList:=nX a _;obtain ⟨c,o,q,I⟩:=nD _ qs.toList _ cs _ (pW (size:=k.size) G) u l;rw [a.size] at o;have n:(Instr.buildSlice t len qs).run P w= .ok (.slice (some ⟨w.heap.size,0,none⟩) len len) (w.alloc (.cells c e)):=by
    by_cases h0:len*B.size=0
    ·exact Ac C.und a.info h0 (by rw [h0] at o;simpa [madeCells,Array.range_zero'] using o)
    ·exact l_ C.und a.info a.zero (by rw [← a.size];exact A) h0 o
   have y:∀ x ∈ cs,kV x=true:=BO l (yP a.zleaf);have s:c.size=len*B.size:=by rw [I,size_madeCells]
   have D:=h.fresh (nid:=nid) J (jQ nid cs k.size).2 (by have E:=a.small;have K:=a.size;show k.size ≠ dJ;omega) len (w':=w.alloc (.cells c e)) (World.grownBy_alloc w _ none) (heap_alloc_new w _) (fun _=>rfl) (Xqn _)
    (rest:= []) (by rw [μ]) (fun hp=>dY _ q (tq hp)) q (wz q y) (fun _=> ⟨by rw [s];simp [jQ,a.size],by
     have E:len≤len*k.size:=Nat.le_mul_of_pos_right _ b;have L:(2:Nat)^24=16777216:=by decide
     simp only [maxLen];omega⟩)
   refine ⟨_,_,_,n,D.1,D.2, ?_⟩;exact WZ (ζ _) b (by have E:=a.small;have K:=a.size;omega)
  ·cases hm
 ·cases hm
theorem H9 {d:TypeDesc} {k e:Nat} (h:iZ P (some d)= .map k e):d= .map k e:=by cases d<;>simp [iZ] at h;obtain ⟨rfl,rfl⟩:=h;rfl
theorem PT {k:LK} {x y:AV} {u v:Value} (b:EX k x=true) (a:EX k y=true) (c:VR g m S x u) (d:VR g m S y v):
  qF k u v=some (zY x y)∧(zY x y=true→u=v)∧(∀ n,Instr.sameBits n u u=true)∧bZ x= []:=by
 cases k<;>cases x<;>simp [EX] at b<;>cases y<;>simp [EX] at a<;>simp only [VR,PR] at c d<;>subst c<;>subst d
 ·refine ⟨by simp [qF,zY,b,a],fun h=> ?_,fun n=>by simp [Instr.sameBits],rfl⟩;simp only [zY,beq_iff_eq] at h;rw [← eY b,← eY a,h]
 ·refine ⟨by simp [qF,zY],fun h=> ?_,fun n=>by simp [Instr.sameBits],rfl⟩;simp only [zY,beq_iff_eq] at h;rw [h]
 ·refine ⟨by simp [qF,zY,vY],fun h=> ?_,fun n=>by cases n<;>simp [Instr.sameBits,MapKept.bytes_beq],rfl⟩;simp only [zY,beq_iff_eq] at h;rw [h]
theorem lM:∀ {lks:List LK} {a b:List AV} {xs ys:List Value},kM lks a=true→kM lks b=true→aS g m S a xs→aS g m S b ys→
  dC lks xs ys=some (Gq a b)∧(Gq a b=true→xs=ys)∧(∀ n,∀ x ∈ xs,Instr.sameBits n x x=true)∧bg a= []
 | [],[],[],[],[],_,_,_,_=> ⟨rfl,fun _=>rfl,by simp,rfl⟩
 | k::lks,x::a,y::b,u::xs,v::ys,ha,hb,h1,h2=>by
  simp only [kM,ε] at ha hb;simp only [aS] at h1 h2;obtain ⟨f,e,d,p⟩:=PT ha.1 hb.1 h1.1 h2.1;obtain ⟨j,o,i,l⟩:=lM ha.2 hb.2 h1.2 h2.2;refine ⟨by simp [dC,f,j,Gq],fun h=> ?_,fun n z c=> ?_,by simp [bg,p,l]⟩
  ·simp only [Gq,ε] at h;rw [e h.1,o h.2]
  ·rcases List.mem_cons.1 c with rfl|c
   ·exact d n
   ·exact i n z c
 | [],_::_,_,_,_,ha,_,_,_=>by simp [kM] at ha
 |_::_,[],_,_,_,ha,_,_,_=>by simp [kM] at ha
 | [],[],_::_,_,_,_,hb,_,_=>by simp [kM] at hb
 |_::_,_::_,[],_,_,_,hb,_,_=>by simp [kM] at hb
 | [],[],[],_::_,_,_,_,h1,_=>by simp [aS] at h1
 | [],[],[],[],_::_,_,_,_,h2=>by simp [aS] at h2
 |_::_,_::_,_::_,[],_,_,_,h1,_=>by simp [aS] at h1
 |_::_,_::_,_::_,_::_,[],_,_,_,h2=>by simp [aS] at h2
def XE (P:Program) (n:Nat) (t:TypeId) (lks:List LK):Prop:=
 ∀ (em:Bool) (d:Nat) (w:World) (xs:List Value),n≤d→dC lks xs xs=some true→(Instr.checkKey em d t (sK P t xs)).run P w= .ok () w
theorem rF {lks:List LK} {a:List Value} {r:Bool} (h:dC lks a a=some r):dC lks a a=some true:=by
 induction lks generalizing a r with
 |nil=>cases a<;>simp [dC] at h ⊢
 | cons k lks ih=>
  cases a with
  |nil=>simp [dC] at h
  | cons x a=>
   simp only [dC] at h ⊢;obtain ⟨c,b,h⟩:=bind_some h;rw [Ξ] at h;obtain ⟨d,i,rfl⟩:=h;have e:qF k x x=some true:=by
    cases k<;>cases x<;>simp [qF] at b ⊢
    split at b
    ·rename_i f;simp [f]
    ·cases b
   simp [e,ih i]
theorem oP {n:Nat} (u:∀ t lks,iJ P n t=some lks→XE P n t lks):∀ (fs:List Field) (off:Nat) (lks:List LK),wJ P (iJ P n) fs off=some lks→
  ∀ (em:Bool) (d:Nat) (w:World) (xs:List Value),n≤d→xs.length=off+lks.length→dC lks (xs.drop off) (xs.drop off)=some true→
   (forIn (m:=Sem) fs PUnit.unit fun f _=>do
    if f.name ≠ "_" then Instr.checkKey em d f.type (← part f.type xs.toArray f.offset)
    pure (ForInStep.yield PUnit.unit)).run P w= .ok PUnit.unit w
 | [],off,lks,hc,em,d,w,xs,hd,hx,h=>by simp
 | f ::fs,off,lks,hc,em,d,w,xs,hd,hx,h=>by
  simp only [wJ] at hc;cases j:iJ P n f.type with
  |none=>simp [j] at hc
  | some l=>
   simp only [j] at hc;split at hc
   ·rename_i hcond;simp only [ε,Xqe] at hcond;obtain ⟨⟨v,p⟩,c⟩:=hcond;cases s:wJ P (iJ P n) fs (off+l.length) with
    |none=>simp [s] at hc
    | some l'=>
     simp only [s] at hc;cases hc;cases o:P.info? f.type with
     |none=>simp [o] at c
     |some i=>
      simp only [o] at c;have c:=aA c;have p:=aA p;have k:f.name ≠ "_" :=by intro e;rw [e] at v;exact absurd v (by decide)
      simp only [η] at hx;obtain ⟨a,b,q,r,A⟩:=pG l l' _ _ true h;have q:=rF q;have r:=rF r;have x:=sF j o c xs off (by omega) w;have z:=u f.type l j em d w _ hd q;have y:=oP u fs (off+l.length) l' s em d w xs hd (by omega) (by simpa [Xjo,Nat.add_comm] using r);simp only [List.forIn_cons,Sem.run_bind,k,ne_eq,not_false_eq_true,if_true,Result.andThen_ok,p,x,z,Sem.run_pure];simpa using y
   ·cases hc
theorem IA:∀ (n:Nat) (t:TypeId) (lks:List LK),iJ P n t=some lks→XE P n t lks
 |0,_,_,h=>by simp [iJ] at h
 | n +1,t,lks,h=>by
  intro e d w b i c;obtain ⟨d,rfl⟩:∃ k,d=k+1:=⟨d - 1,by omega⟩
  have f:=nU _ _ _ _ c;unfold iJ at h;cases a:P.underlying t with
  |none=>simp [a] at h
  | some ds=>
   unfold Instr.checkKey;simp only [Sem.run_bind,run_underlying a,Result.andThen_ok,sK,a];cases ds<;>simp only [a] at h<;>try cases h
   case struct fs=>
    split at h
    ·cases h
    ·have:=oP (IA n) fs.toList 0 lks h e d w b (by omega) (by simp [f.1]) (by simpa using c);simp only [← Array.forIn_toList];simpa using this
   all_goals (cases b.headD undef<;>simp)
theorem CB (d:di P ap) {t:Nat} {i:TI} (e:ap.tyAt t=some i) {a b:List AV} {c o:List Value} (f:i.cmp=true) (h:kM i.lks a=true) (n:kM i.lks b=true) (s:aS g m S a c) (x:aS g m S b o) (k:∃ v,P.underlying t=some (.struct v)):
  (∀ u,(Instr.checkKey u 10000 t (.agg c.toArray)).run P w= .ok () w)∧(Op.equal t (.agg c.toArray) (.agg o.toArray)).run P w= .ok (Gq a b) w:=by
 obtain ⟨v,k⟩:=k;rw [(xK d e).1] at f;rw [(xK d e).2] at h n;unfold VM at f;cases j:iJ P 8 t with
 |none=>simp [j] at f
 |some l=>
  simp only [j,ε,Xqe] at f;have p:=CU f.1;rw [← p] at h n;have q:=BG 8 t l j 10000 w c o _ (by omega) (lM h n s x).1;have r:=fun u=>IA 8 t l j u 10000 w c (by omega) (rF (lM h h s s).1)
  simp only [sK,k] at q r;exact ⟨r,q⟩
theorem zu {a:TI} {d:TypeDesc} (c:a.d=iZ P (some d)) (hs:∀ fs,d ≠ .struct fs) {x:AV} {v:Value} (h:gW a x=true) (b:VR g m S x v):MapKept.IsKey d v:=by
 unfold gW at h;rw [c] at h;cases d<;>simp only [iZ] at h<;>cases x<;>simp at h<;>simp only [VR,PR] at b<;>first|(exact absurd rfl (hs _))|(subst b;simp only [MapKept.IsKey])
 exact (eY h).symm
theorem Q_ {f:TI} {d:TypeDesc} (j:f.d=iZ P (some d)) (hs:∀ fs,d ≠ .struct fs) {x y:AV} {u v:Value} (c:gW f x=true) (e:gW f y=true) (h:VR g m S x u) (i:VR g m S y v):Instr.sameNow d u v=some (uG x y):=by
 unfold gW at c e;rw [j] at c e;cases d<;>simp only [iZ] at c e<;>cases x<;>simp at c<;>cases y<;>simp at e<;>simp only [VR,PR] at h i<;>first|(exact absurd rfl (hs _))|(subst h;subst i;simp only [Instr.sameNow,uG])
 ·rw [if_pos ((eY c).symm.trans (eY e))]
 ·rename_i a b;congr 1;rw [Bool.eq_iff_iff,MapKept.bytes_beq];simp
theorem vH (h:aZ ap g m S w) {rd:bD} (k:∀ b B,rd b=some B→g b=some B) {x:AV} {r:Value} (n:VR g m S x r) {q:List AV × List AV} (a:PV rd x=some q):
  ∃ es:Array MapEntry,((r= .map none∧es=#[])∨∃ b clk,r= .map (some b)∧w.heap[b]? =some (.map es clk))∧aS g m S q.1 (es.toList.map (·.key))∧aS g m S q.2 (es.toList.map (·.val)):=by
 unfold PV at a;split at a
 ·rename_i ks vs;cases a;simp only [VR,PR] at n;rcases n with ⟨rfl,rfl,rfl⟩|⟨b,u,t,rfl,h0,y,p,o⟩
  ·exact ⟨#[],.inl ⟨rfl,rfl⟩,by simp [aS],by simp [aS]⟩
  ·obtain ⟨es,clk,l,c⟩:=sU (h.sealed _ _ _ h0) rfl;obtain ⟨z,clk',i,d⟩:=sU (h.sealed _ _ _ y) rfl;rw [l] at i;cases i;have c:Value.agg (es.map (·.key))= .agg u.toArray:=Option.some.inj c;have d:Value.agg (es.map (·.val))= .agg t.toArray:=Option.some.inj d;have c:=Value.agg.inj c;have d:=Value.agg.inj d;refine ⟨es,.inr ⟨b,clk,rfl,l⟩, ?_, ?_⟩
   ·rw [← Array.toList_map,c];exact aV _ p
   ·rw [← Array.toList_map,d];exact aV _ o
 ·rename_i b ver;have v:=bind_some a;clear a;obtain ⟨B,s,a⟩:=v;split at a
  ·rename_i f;simp only [ε] at f;split at a
   ·rename_i ks vs hcells;cases a;simp only [VR] at n;obtain ⟨B',j,_,_,q⟩:=n;rw [k b B s] at j;cases j;have q:=q (aA f.1);obtain ⟨⟨cur,e,us,rest,k1,k2,_,k4,_,_⟩,_,_⟩:=h.blk b B (k b B s);obtain ⟨es,clk,l,rfl⟩:=k1.map (aA f.2);rw [hcells] at k4
    match us,k4 with
    | [u0,u1],k4=>
     simp only [aS,VR,and_true] at k4;obtain ⟨⟨u,rfl,p⟩,t,rfl,o⟩:=k4;simp only [jw,Xqz,List.cons.injEq] at k2;have c:=Value.agg.inj k2.1;have d:=Value.agg.inj k2.2.1;refine ⟨es,.inr ⟨_,clk,q,l⟩, ?_, ?_⟩
     ·rw [← Array.toList_map,c];exact p
     ·rw [← Array.toList_map,d];exact o
    | [],k4=>simp [aS] at k4
    | [_],k4=>simp [aS] at k4
    |_::_::_::_,k4=>simp [aS] at k4
   ·cases a
  ·cases a
 ·cases a
structure Vx (P:Program) (g:bD) (m:aB) (S:au) (w:World) (t:Nat) (ti:TI) (d:TypeDesc) (k:AV) (ck:Value):Prop where
 chk:∀ em,(Instr.checkKey em 10000 t ck).run P w= .ok () w
 stay:(Instr.keyThatStays ck ck).run P w= .ok ck w
 eqs:∀ {k' ck'},gW ti k'=true→VR g m S k' ck'→((match d with| .struct _=>(Op.equal t ck ck').run P w= .ok (uG k k') w|_=>Instr.sameNow d ck ck'=some (uG k k'))∧(uG k k'=true→ck=ck'))
theorem yu (B:di P ap) {t:Nat} {u:TI} {i:TypeInfo} {d:TypeDesc} {z:Value} (D:ap.tyAt t=some u) (v:v_ P t u i d z) {k:AV} {ck:Value} (s:gW u k=true) (A:VR g m S k ck):Vx P g m S w t u d k ck:=by
 by_cases hs:∃ o,d= .struct o
 ·obtain ⟨o,rfl⟩:=hs;have V:=v.d_eq;have I:∀ {x:AV},gW u x=true→∃ l,x= .agg l∧u.cmp=true∧kM u.lks l=true:=by
   intro x j;unfold gW at j;rw [V] at j;cases x<;>simp [iZ] at j
   exact ⟨_,rfl,j⟩
  obtain ⟨l,rfl,J,y⟩:=I s;have T:=A;simp only [VR] at A;obtain ⟨F,rfl,j⟩:=A;refine ⟨(CB B D J y y j j ⟨o,v.und⟩).1, ?_, ?_⟩
  ·have R:Instr.sameBits 10000 (.agg F.toArray) (.agg F.toArray)=true:=by
    show Instr.sameBits (9999+1) _ _=true;have O:=(lM y y j j).2.2.1 9999;simp only [Instr.sameBits,beq_self_eq_true,Bool.true_and,List.all_eq_true];intro p hp;obtain ⟨a,b⟩:=p;have U:∀ l:List Value,(a,b) ∈ l.zip l→a=b∧a ∈ l:=by
     intro l
     induction l with
     |nil=>intro h;simp at h
     |cons c l ih=>
      intro h;simp only [List.zip_cons_cons,List.mem_cons,Prod.mk.injEq] at h;rcases h with ⟨rfl,rfl⟩|h
      ·exact ⟨rfl,by simp⟩
      ·exact ⟨(ih h).1,List.mem_cons_of_mem _ (ih h).2⟩
    obtain ⟨rfl,hm⟩:=U F hp;exact O a hm
   simp [Instr.keyThatStays,R]
  ·intro N G f n;obtain ⟨X,rfl,_,E⟩:=I f;simp only [VR] at n;obtain ⟨Y,rfl,L⟩:=n;refine ⟨(CB B D J y E j L ⟨o,v.und⟩).2,fun H=> ?_⟩;rw [(lM y E j L).2.1 H]
 ·have hs:∀ o,d ≠ .struct o:=fun o e=>hs ⟨o,e⟩
  have q:=zu v.d_eq hs s A;refine ⟨fun Q=>MapKept.run_checkKey v.und q Q 9999,MapKept.run_keyThatStays q, ?_⟩;intro N G f n;have K:=Q_ v.d_eq hs s f A n;have W:=MapKept.sameNow_of_keys q (zu v.d_eq hs f n);refine ⟨?_,fun H=> ?_⟩
  ·cases d<;>first|exact K|exact absurd rfl (hs _)
  ·obtain ⟨r,M,C⟩:=W;rw [K] at M;cases M;exact C.1 H
def ja (P:Program) (w:World) (t:Nat) (d:TypeDesc) (ck:Value) (l:List MapEntry) (i:Nat) (r:Option (Nat × Value)):Prop:=
 match d with
 | .struct _=>(Instr.findAsking t ck l i).run P w= .ok r w
 |_=>Instr.findNow d ck l i=some r
theorem ja.nil {t:Nat} {d:TypeDesc} {ck:Value} {i:Nat}:ja P w t d ck [] i none:=by
 unfold ja;cases d<;>first|rfl|simp [Instr.findAsking]
theorem ja.hit {t:Nat} {c:TI} {d:TypeDesc} {k b:AV} {ck:Value} {e:MapEntry} {l:List MapEntry} {i:Nat} (h:Vx P g m S w t c d k ck) (a:gW c b=true) (f:VR g m S b e.key) (j:uG k b=true):ja P w t d ck (e::l) i (some (i,e.val)):=by
 have q:=(h.eqs a f).1;rw [j] at q;unfold ja;cases d<;>simp only at q ⊢ <;>first|(simp [Instr.findAsking,q];done)|(simp [Instr.findNow,q];done)
theorem ja.miss {t:Nat} {f:TI} {d:TypeDesc} {k c:AV} {ck:Value} {e:MapEntry} {l:List MapEntry} {i:Nat} {r:Option (Nat × Value)} (h:Vx P g m S w t f d k ck) (b:gW f c=true) (j:VR g m S c e.key) (n:uG k c=false) (a:ja P w t d ck l (i+1) r):ja P w t d ck (e::l) i r:=by
 have q:=(h.eqs b j).1;rw [n] at q;unfold ja at a ⊢;cases d<;>simp only at q a ⊢ <;>first|(simp [Instr.findAsking,q,a];done)|(simp [Instr.findNow,q,a];done)
theorem ja.run {t:Nat} {c:TI} {i:TypeInfo} {d:TypeDesc} {z:Value} (b:v_ P t c i d z) {ck:Value} {l:List MapEntry} {r:Option (Nat × Value)} (h:ja P w t d ck l 0 r):(Instr.findKey t ck l).run P w= .ok r w:=by
 by_cases hs:∃ a,d= .struct a
 ·obtain ⟨a,rfl⟩:=hs;simp only [ja] at h;cases l with
  |nil=>
   simp [Instr.findAsking] at h;subst h;simp [Instr.findKey,run_underlying b.und,Result.andThen,Instr.findNow]
  |cons e l=>
   simp only [Instr.findKey,Sem.run_bind,run_underlying b.und,Result.andThen_ok,Instr.findNow,Instr.sameNow];exact h
 ·have hs:∀ a,d ≠ .struct a:=fun a e=>hs ⟨a,e⟩
  refine MapKept.run_findKey b.und ?_;unfold ja at h;cases d<;>first|exact h|exact absurd rfl (hs _)
theorem nG {t:Nat} {q:TI} {d:TypeDesc} {k v:AV} {ck cv:Value} (c:Vx P g m S w t q d k ck) (p:VR g m S v cv):∀ (l:List MapEntry) (ks vs:List AV) (i:Nat),aS g m S ks (l.map (·.key))→aS g m S vs (l.map (·.val))→ks.all (gW q)=true→
  (ja P w t d ck l i none∧bu ks vs k=none∧ks.any (uG k)=false∧eH ks vs k v=vs++ [v])∨
  ∃ j e x,ja P w t d ck l i (some (i+j,e.val))∧l[j]? =some e∧e.key=ck∧bu ks vs k=some x∧VR g m S x e.val∧ks.any (uG k)=true∧aS g m S (eH ks vs k v) ((l.set j {e with key:=ck,val:=cv}).map (·.val))
 | [],ks,vs,i,h1,h2,_=>by
  cases ks with
  |cons _ _=>simp [aS] at h1
  |nil=>
   cases vs with
   |cons _ _=>simp [aS] at h2
   |nil=>exact .inl ⟨ja.nil,rfl,rfl,rfl⟩
 | e ::l,ks,vs,i,h1,h2,ha=>by
  cases ks with
  |nil=>simp [aS] at h1
  | cons k0 ks=>
   cases vs with
   |nil=>simp [aS] at h2
   | cons v0 vs=>
    simp only [Γ,aS] at h1 h2;simp only [Xjc,ε] at ha;cases a:uG k k0 with
    |true=>
     have b:e.key=ck:=((c.eqs ha.1 h1.1).2 a).symm;refine .inr ⟨0,e,v0,ja.hit c ha.1 h1.1 a,rfl,b, ?_,h2.1, ?_, ?_⟩
     ·simp [bu,a]
     ·simp [a]
     ·simp only [eH,a,List.set_cons_zero,Γ,aS];exact ⟨p,h2.2⟩
    | false=>
     rcases nG c p l ks vs (i+1) h1.2 h2.2 ha.2 with ⟨o,h,n,f⟩|⟨j,e',x,o,h,n,f,s,r,u⟩
     ·refine .inl ⟨ja.miss c ha.1 h1.1 a o, ?_, ?_, ?_⟩
      ·simp [bu,a,h]
      ·simp only [Xw9,a,n];rfl
      ·simp [eH,a,f]
     ·refine .inr ⟨j+1,e',x, ?_,by simpa using h,n, ?_,s, ?_, ?_⟩
      ·rw [show i+(j+1)=i+1+j by omega];exact ja.miss c ha.1 h1.1 a o
      ·simp [bu,a,f]
      ·simp only [Xw9,a,r];rfl
      ·simp only [eH,a,List.set_cons_succ,Γ,aS];exact ⟨h2.1,u⟩
theorem zx {ok:Bool} {o:Option AV} {z:AV} {u c:Value} {b:Bool} (h:(o=none∧u=c∧b=false)∨∃ x,o=some x∧VR g m S x u∧b=true) (e:VR g m S z c):VR g m S (NQ ok o z) (if ok then .tuple #[u,.bool b] else u):=by
 have a:VR g m S (o.getD z) u∧o.isSome=b:=by
  rcases h with ⟨rfl,rfl,rfl⟩|⟨x,rfl,d,rfl⟩
  ·exact ⟨e,rfl⟩
  ·exact ⟨d,rfl⟩
 cases ok with
 |true=>
  simp only [NQ,if_true,VR];refine ⟨[u,.bool b],rfl, ?_⟩;simp only [aS,VR,PR,and_true];exact ⟨a.1,by rw [a.2]⟩
 |false=>simpa [NQ] using a.1
theorem Em (o:di P ap) (h:aZ ap g m S w) {rd:bD} (H:∀ b B,rd b=some B→g b=some B) {t:Nat} {K:TI} {i:TypeInfo} {d:TypeDesc} {z:Value} (C:v_ P t K i d z) {x k v:AV} {J ck:Value} (O:VR g m S x J) (I:VR g m S k ck) {ok:Bool}
  {ups:List (Nat × az)} {bs:List Bool} (c:GR ap K rd x k ok=some (v,ups,bs)) (r:∀ b ∈ bs,b=true):
  ups= []∧∃ cv,(Instr.lookup t J ck ok).run P w= .ok cv w∧VR g m S v cv:=by
 unfold GR at c;split at c
 ·rename_i X et A;have n:=bind_some c;clear c;obtain ⟨tk,a,c⟩:=n;have n:=bind_some c;clear c;obtain ⟨Z,f,c⟩:=n;have n:=bind_some c;clear c;obtain ⟨q,n,c⟩:=n;have G:=bind_some c;clear c;obtain ⟨T,D,c⟩:=G;obtain ⟨rfl,rfl,rfl⟩:=aG c;have E:=a;obtain ⟨Y,dk,zk,a⟩:=bQ o a;obtain ⟨ie,de,N,f⟩:=bQ o f;rw [C.d_eq] at A;have A:=H9 A;subst A;obtain ⟨Q,r⟩:=bH r;obtain ⟨U,_⟩:=bH r;obtain ⟨es,u,W,V⟩:=vH h H O n;have l:=yu (w:=w) o E a Q I;have s:VR g m S T N:=vI f D;refine ⟨rfl, ?_⟩;rcases nG l I es.toList q.1 q.2 0 W V U with ⟨p,M,_,_⟩|⟨j,e,y,p,_,_,L,R,_,_⟩
  ·refine ⟨_, ?_,zx (.inl ⟨M,rfl,rfl⟩) s⟩;rcases u with ⟨rfl,rfl⟩|⟨b,clk,rfl,F⟩
   ·simp [Instr.lookup,run_underlying C.und,l.chk,p.run a,zeroValue,typeInfo,f.info,f.zero,Result.andThen]
   ·simp [Instr.lookup,run_underlying C.und,MapKept.run_getObj_map F,l.chk,p.run a,zeroValue,typeInfo,f.info,f.zero,Result.andThen]
  ·refine ⟨_, ?_,zx (.inr ⟨y,L,R,rfl⟩) s⟩;rcases u with ⟨rfl,rfl⟩|⟨b,clk,rfl,F⟩
   ·have p:=p.run a;simp [Instr.findKey,run_underlying a.und,Result.andThen,Instr.findNow] at p
   ·simp [Instr.lookup,run_underlying C.und,MapKept.run_getObj_map F,l.chk,p.run a,Result.andThen]
 ·cases c
mutual
theorem MK {S:au}:∀ (x:AV) {v:Value},PR S x v→bZ x= []
 | .int _ _,_,_=>rfl
 | .bool _,_,_=>rfl
 | .str _,_,_=>rfl
 | .nilS,_,_=>rfl
 | .nilP,_,_=>rfl
 | .raw _,_,_=>rfl
 | .nilF,_,_=>rfl
 | .nilI,_,_=>rfl
 | .sl _ _ _,_,_=>rfl
 | .pp _ _,_,_=>rfl
 | .mp _ _,_,_=>rfl
 | .dead,_,_=>rfl
 | .own _ _ _,_,p=>by simp only [PR] at p
 | .ref _ _ _ _,_,p=>by simp only [PR] at p
 | .ptr _ _ _,_,p=>by simp only [PR] at p
 | .mr _ _,_,p=>by simp only [PR] at p
 | .agg l,_,p=>by
  simp only [PR] at p;simp only [bZ];obtain ⟨_,_,q⟩:=p;exact oh l q
 | .tup l,_,p=>by
  simp only [PR] at p;simp only [bZ];obtain ⟨_,_,q⟩:=p;exact oh l q
 | .fn f a c,_,p=>by
  simp only [PR] at p;simp only [bZ];obtain ⟨_,_,_,q,r⟩:=p;rw [oh a q,oh c r];rfl
 | .ifc t x,_,p=>by
  simp only [PR] at p;simp only [bZ];obtain ⟨_,_,q⟩:=p;exact MK x q
theorem oh {S:au}:∀ (l:List AV) {vs:List Value},a_ S l vs→bg l= []
 | [],_,_=>rfl
 |x::r,v::vs,p=>by simp only [a_] at p;simp only [bg,MK x p.1,oh r p.2,μ]
 |_::_,[],p=>by simp [a_] at p
end
theorem Fa (h:aZ ap g m S w) {b:Nat} {B:az} {a:Array MapEntry} {clk':Nat} {k:Nat} {w':World} (p:w'.heap[k]? =some (.map a clk')) (l:B.esz=dJ) {ks vs:List AV} (i:B.cells= [.agg ks,.agg vs]) (n:aS g m S ks (a.toList.map (·.key))) (o:aS g m S vs (a.toList.map (·.val))) (hp:B.pr=true→bg vs= []∧bg ks= []) (f:B.fro=false→B.fz=0) (j:B.fz≤2) (c:Nat):O7 g m S w' B k c:=by
 refine ⟨⟨jw a,0,[.agg (a.map (·.key)),.agg (a.map (·.val))],[],.inr ⟨l,a,clk',p,rfl⟩,rfl, ?_, ?_,fun e=>absurd l e,fun _ e=>absurd l e⟩,f,by rw [i];exact j⟩
 ·intro d;obtain ⟨r,q⟩:=hp d;rw [i];simp only [a_,PR,and_true];exact ⟨⟨(a.map (·.key)).toList,by rw [Array.toArray_toList],by rw [Array.toList_map];exact dY _ n q⟩,(a.map (·.val)).toList,by rw [Array.toArray_toList],by rw [Array.toList_map];exact dY _ o r⟩
 ·rw [i];simp only [aS,VR,and_true];exact ⟨⟨(a.map (·.key)).toList,by rw [Array.toArray_toList],by rw [Array.toList_map];exact n⟩,(a.map (·.val)).toList,by rw [Array.toArray_toList],by rw [Array.toList_map];exact o⟩
theorem En (h:aZ ap g m S w) {nid:Nat} (c:g nid=none) (t:Nat):
  ∃ cv m' w',(Instr.makeMap t none).run P w= .ok cv w'∧aZ ap (bC g [(nid,⟨[.agg [],.agg []],0,false,0,dJ,true⟩)]) m' S w'∧Fr g m S w (bC g [(nid,⟨[.agg [],.agg []],0,false,0,dJ,true⟩)]) m' S w'∧VR (bC g [(nid,⟨[.agg [],.agg []],0,false,0,dJ,true⟩)]) m' S (.mr nid 0) cv:=by
 have a:=h.put nid ⟨[.agg [],.agg []],0,false,0,dJ,true⟩ w.heap.size 0 (w':=w.alloc (.map #[] 0)) (.inl (ζ _)) (World.grownBy_alloc w _ _)
  (Fa h (b:=nid) (heap_alloc_new w _) rfl rfl (by simp [aS]) (by simp [aS]) (fun _=> ⟨rfl,rfl⟩) (fun _=>rfl) (Xqn _) 0)
  (fun B0 h0=>by rw [c] at h0;cases h0) (fun o v d=>absurd (h.seal_lt d) (Xzl _))
 refine ⟨.map (some w.heap.size),_,_, ?_,a.1,a.2, ?_⟩
 ·simp [Instr.makeMap,Result.andThen]
 ·simp only [VR];exact ⟨_,jU _ _ _,ζ _,⟨_,rfl⟩,fun _=>by simp [setM]⟩
theorem Cm:∀ (lks:List LK) (l:List AV),kM lks l=true→bg l= []
 | [],[],_=>rfl
 |k::lks,x::l,h=>by
  simp only [kM,ε] at h;have a:bZ x= []:=by cases k<;>cases x<;>first|rfl|(have:=h.1;simp [EX] at this)
  simp only [bg,a,Cm lks l h.2,μ]
 | [],_::_,h=>by simp [kM] at h
 |_::_,[],h=>by simp [kM] at h
theorem yN:∀ (l:List AV) (ti:TI),l.all (gW ti)=true→bg l= []
 | [],_,_=>rfl
 | x::r,ti,h=>by
  simp only [Xjc,ε] at h;have b:bZ x= []:=by
   have a:=h.1;unfold gW at a;split at a<;>first|rfl|(cases a;done)|skip
   simp only [ε] at a;simp only [bZ];exact Cm _ _ a.2
  simp only [bg,b,yN r ti h.2,μ]
theorem Dx:∀ (ks vs:List AV) (k v:AV),bg vs= []→bZ v= []→bg (eH ks vs k v)= []
 | [],_,k,v,_,h2=>by simp [eH,bg,h2]
 |_::_,[],k,v,_,h2=>by simp [eH,bg,h2]
 |k0::ks,v0::vs,k,v,h1,h2=>by
  simp only [bg,Xjh] at h1;simp only [eH];split
  ·simp [bg,h1.2,h2]
  ·simp [bg,h1.1,Dx ks vs k v h1.2 h2]
theorem uT (K:di P ap) (h:aZ ap g m S w) {rd:bD} (O:∀ b B,rd b=some B→g b=some B) {t:Nat} {ti:TI} {i:TypeInfo} {d:TypeDesc} {z:Value} (ht:v_ P t ti i d z) {x k v r:AV} {cx ck cv:Value} (V:VR g m S x cx) (hk:VR g m S k ck) (hv:VR g m S v cv)
  {ups:List (Nat × az)} {bs:List Bool} (f:AO ap ti rd x k v=some (r,ups,bs)) (I:∀ b ∈ bs,b=true):
  r= .dead∧∃ F w',(Instr.mapUpdate t cx ck cv).run P w= .ok () w'∧aZ ap (bC g ups) F S w'∧Fr g m S w (bC g ups) F S w':=by
 unfold AO at f;split at f
 ·rename_i kt et b ver T;have U:=bind_some f;clear f;obtain ⟨tk,p,f⟩:=U;have U:=bind_some f;clear f;obtain ⟨B,hB,f⟩:=U;split at f
  ·rename_i l;simp only [ε,Xqe] at l;split at f
   ·rename_i ks vs hcells;cases f;have Z:=p;obtain ⟨ik,dk,zk,p⟩:=bQ K p;rw [ht.d_eq] at T;have T:=H9 T;subst T;obtain ⟨b1,I⟩:=bH I;obtain ⟨b2,_⟩:=bH I;have c:=O b B hB;have hz:=aA l.1.2;have W:PV rd (.mr b ver)=some (ks,vs):=by
     unfold PV;simp only [hB,Option.bind_some,l.1.1,l.1.2,Bool.and_self,hcells]
    obtain ⟨es,hes,v1,v2⟩:=vH h O V W;have E:=yu (w:=w) K Z p b1 hk;simp only [VR] at V;obtain ⟨B',L,_,_,q⟩:=V;rw [c] at L;cases L;have q:=q (aA l.1.1);subst q;rcases hes with ⟨e,_⟩|⟨b0,clk,e,M⟩
    ·cases e
    cases e;have X:(m b).1<w.heap.size:=h.lt c;obtain ⟨_,k7,k8⟩:=h.blk b B c;have key:∀ (a:Array MapEntry) (clk':Nat),(uB es clk→uB a clk')→aS g m S (gB ks k) (a.toList.map (·.key))→aS g m S (eH ks vs k v) (a.toList.map (·.val))→
      ∃ F,aZ ap (bC g [(b,{B with cells:= [.agg (gB ks k),.agg (eH ks vs k v)],pr:=B.pr && (bZ v).isEmpty})]) F S {w with heap:=w.heap.setIfInBounds (m b).1 (.map a clk')}∧Fr g m S w (bC g [(b,{B with cells:= [.agg (gB ks k),.agg (eH ks vs k v)],pr:=B.pr && (bZ v).isEmpty})]) F S {w with heap:=w.heap.setIfInBounds (m b).1 (.map a clk')}:=by
     intro a clk' hwf w1 w2;have G:=h.put (hmw:=MW.setM M hwf) b {B with cells:= [.agg (gB ks k),.agg (eH ks vs k v)],pr:=B.pr && (bZ v).isEmpty} (m b).1 (m b).2 (w':={w with heap:=w.heap.setIfInBounds (m b).1 (.map a clk')})
      (.inr ⟨B,c,rfl⟩) ⟨rfl,rfl,rfl,by simp,fun k' _ hk'=>by simp [show (m b).1 ≠ k' from fun e=>hk' (by rw [e])]⟩
      (Fa h (b:=b) (B:={B with cells:= [.agg (gB ks k),.agg (eH ks vs k v)],pr:=B.pr && (bZ v).isEmpty}) (w':={w with heap:=w.heap.setIfInBounds (m b).1 (.map a clk')}) (k:=(m b).1) (clk':=clk') (by simp [X]) hz rfl w1 w2 (fun A=>by
       have A:(B.pr && (bZ v).isEmpty)=true:=A;simp only [ε] at A;obtain ⟨⟨cur,e,us,rest,k1,k2,k3,k4,_,_⟩,_,_⟩:=h.blk b B c;have Y:bg B.cells= []:=oh _ (k3 A.1);rw [hcells] at Y;simp only [bg,bZ,μ,Xjh] at Y;refine ⟨Dx _ _ _ _ Y.2 (tq A.2), ?_⟩;have N:=yN ks _ b2;unfold gB;split
       ·exact N
       ·rw [qf,N];exact yN [k] tk (by simp [b1])) k7 (by rw [hcells] at k8;exact k8) (m b).2)
      (fun B0 h0=>by rw [c] at h0;cases h0;exact ⟨rfl,.inl ⟨rfl,rfl⟩⟩)
      (fun o u hu=>by
       have:=(h.own b B c o u hu).1;rw [l.2] at this;cases this)
     exact ⟨_,G.1,G.2⟩
    refine ⟨rfl, ?_⟩;rcases nG E hv es.toList ks vs 0 v1 v2 b2 with ⟨R,r2,r3,r4⟩|⟨j,e,y,R,Q,rk,r4,r5,r6,r7⟩
    ·obtain ⟨F,s1,s2⟩:=key (es.push {key:=ck,val:=cv,born:=clk}) (clk+1) (uB.push ck cv)
      (by unfold gB;rw [r3,Array.toList_push,Xxp];exact fH v1 (by simp only [Γ,Xje,aS,and_true];exact hk))
      (by rw [r4,Array.toList_push,Xxp];exact fH v2 (by simp only [Γ,Xje,aS,and_true];exact hv))
     refine ⟨F,_, ?_,s1,s2⟩;simp [Instr.mapUpdate,run_underlying ht.und,MapKept.run_getObj_map M,E.chk,R.run p,MapKept.run_setObj_map _ M,Result.andThen]
    ·have s:es[j]? =some e:=by simpa using Q
     have J:(es.modify j fun e=> {e with key:=ck,val:=cv}).toList=es.toList.set j {e with key:=ck,val:=cv}:=by
      apply Xq8;intro n;simp only [Array.getElem?_toList,Array.getElem?_modify,Xxd];by_cases hjn:j=n
      ·subst hjn;have C:j<es.toList.length:=(List.getElem?_eq_some_iff.1 Q).1;rw [if_pos rfl,if_pos rfl,if_pos C,s];rfl
      ·rw [if_neg hjn,if_neg hjn]
     obtain ⟨F,s1,s2⟩:=key (es.modify j fun e=> {e with key:=ck,val:=cv}) clk
      (uB.same (by
       rw [J];apply Xq8;intro n;simp only [φ,Xxd];by_cases hjn:j=n
       ·subst hjn;have C:j<es.toList.length:=(List.getElem?_eq_some_iff.1 Q).1;have D:j<es.size:=by simpa using C
        have H:es[j]=e:=by rw [Array.getElem?_eq_getElem D] at s;exact Option.some.inj s
        simp [D,H]
       ·simp [hjn]))
      (by
       unfold gB;rw [r6,J];have:(es.toList.set j {e with key:=ck,val:=cv}).map (·.key)=es.toList.map (·.key):=by
        apply Xq8;intro n;simp only [φ,Xxd];by_cases hjn:j=n
        ·subst hjn;have C:j<es.toList.length:=(List.getElem?_eq_some_iff.1 Q).1;have D:j<es.size:=by simpa using C
         have H:es[j]=e:=by rw [Array.getElem?_eq_getElem D] at s;exact Option.some.inj s
         simp [D,H,rk]
        ·simp [hjn]
       rw [this];exact v1)
      (by rw [J];exact r7)
     refine ⟨F,_, ?_,s1,s2⟩;rw [Φ] at R;simp [Instr.mapUpdate,run_underlying ht.und,MapKept.run_getObj_map M,E.chk,R.run p,s,rk,E.stay,MapKept.run_setObj_map _ M,Result.andThen]
   ·cases f
  ·cases f
 ·cases f
end
end AM
namespace AM
open Go
section
variable {P:Program} {ap:AP} {g:bD} {m:aB} {S:au} {w:World}
theorem sO {ρ:Operand→AV} {cρ:Operand→Value}:∀ (l:List Operand),(∀ o ∈ l,VR g m S (ρ o) (cρ o))→aS g m S (l.map ρ) (l.map cρ)
 | [],_=>by simp [aS]
 |o::r,h=>by simp only [Γ,aS];exact ⟨h o (by simp),sO r fun o a=>h o (by simp [a])⟩
theorem A7 {ρ:Operand→AV} {cρ:Operand→Value}:∀ (l:List (Nat × Operand)),(∀ o ∈ l.map (·.2),VR g m S (ρ o) (cρ o))→ww g m S (l.map fun (i,x)=>(i,ρ x)) (l.map fun (i,x)=>(i,cρ x))
 | [],_=>by simp [ww]
 |(i,o)::r,h=>by simp only [Γ,ww];exact ⟨trivial,h o (by simp),A7 r fun o a=>h o (by simp [a])⟩
def fO (P:Program) (ap:AP) (g:bD) (m:aB) (S:au) (w:World) (s:Sem Next) (v:AV) (ups:List (Nat × az)):Prop:=
 ∃ nx m' w',s.run P w= .ok nx w'∧aZ ap (bC g ups) m' S w'∧Fr g m S w (bC g ups) m' S w'∧((∃ cv,nx= .value cv∧VR (bC g ups) m' S v cv)∨(nx= .skip∧v= .dead))
theorem fO.pur (h:aZ ap g m S w) {s:Sem Value} {v:AV} {ups:List (Nat × az)} (hs:ups= []∧∃ cv,s.run P w= .ok cv w∧VR g m S v cv):fO P ap g m S w (do pure (.value (← s))) v ups:=by
 obtain ⟨rfl,cv,a,b⟩:=hs;exact ⟨.value cv,m,w,by simp [a],by rw [dP];exact h,by rw [dP];exact Fr.refl _ _ _ _,.inl ⟨cv,rfl,by rw [dP];exact b⟩⟩
theorem fO.full {s:Sem Value} {v:AV} {ups:List (Nat × az)} (hs:∃ cv a w',s.run P w= .ok cv w'∧aZ ap (bC g ups) a S w'∧Fr g m S w (bC g ups) a S w'∧VR (bC g ups) a S v cv):fO P ap g m S w (do pure (.value (← s))) v ups:=by
 obtain ⟨cv,a,w',b,c,d,e⟩:=hs;exact ⟨.value cv,a,w',by simp [b],c,d,.inl ⟨cv,rfl,e⟩⟩
theorem fO.val (h:aZ ap g m S w) {s:Sem Next} {v:AV} {cv:Value} (hs:s.run P w= .ok (.value cv) w) (a:VR g m S v cv):fO P ap g m S w s v []:=
 ⟨.value cv,m,w,hs,by rw [dP];exact h,by rw [dP];exact Fr.refl _ _ _ _,.inl ⟨cv,rfl,by rw [dP];exact a⟩⟩
theorem AX {ρ:Operand→AV} {cρ:Operand→Value} (x:Option Operand) (h:∀ o ∈ x.toArray,VR g m S (ρ o) (cρ o)):AU g m S (x.map ρ) (x.map cρ):=by
 cases x with
 |none=>simp [AU]
 |some o=>simp only [Xqu,AU];exact h o (by simp)
theorem IE (a:di P ap) {t:Nat} {b:TI} (h:ap.tyAt t=some b) (e:b.d ≠ .iface):P.concrete t=true:=by
 obtain ⟨i,d,z,c⟩:=bQ a h;have:=c.d_eq;simp only [Program.concrete,c.und];cases d<;>simp_all [iZ]
set_option maxHeartbeats 1000000 in
theorem P6 (A:di P ap) (F:aZ ap g m S w) {nid:Nat} (hn:g nid=none) {ρ:Operand→AV} {cρ:Operand→Value} {rd:bD} (K:∀ b B,rd b=some B→g b=some B) (o:Oper) (hρ:∀ x ∈ o.op.operands,VR g m S (ρ x) (cρ x))
  {dec:Operand→Option Bool} (hdec:∀ x ∈ o.op.operands,∀ b,dec x=some b→cρ x= .bool b) {em:Bool} (hem:∀ n,wL ρ o.op=some n→Δ n 0=em)
  {v:AV} {ups:List (Nat × az)} {bs:List Bool} (h:opA ap nid ρ rd dec em o.op=some (v,ups,bs)) (hbs:∀ b ∈ bs,b=true):fO P ap g m S w (execOp cρ o) v ups:=by
 unfold opA at h;unfold execOp;split at h<;>rename_i heq<;>simp only [heq,Op.operands] at hρ hdec hem ⊢
 ·obtain ⟨rfl,rfl,rfl⟩:=aG h;exact fO.val F (by simp) (hρ _ (by simp))
 ·obtain ⟨rfl,rfl,rfl⟩:=aG h;exact fO.val F (by simp) (hρ _ (by simp))
 ·
  rename_i c a b;split at h
  ·rename_i J;obtain ⟨rfl,rfl,rfl⟩:=aG h;have:=hdec c (by simp) _ J;exact fO.val F (by simp [this,asBool]) (hρ _ (by simp))
  ·rename_i J;obtain ⟨rfl,rfl,rfl⟩:=aG h;have:=hdec c (by simp) _ J;exact fO.val F (by simp [this,asBool]) (hρ _ (by simp))
  ·split at h
   ·rename_i bc ba bb e1 e2 e3;obtain ⟨rfl,rfl,rfl⟩:=aG h;have G:=hρ c (by simp);have I:=hρ a (by simp);have T:=hρ b (by simp);rw [e1] at G;rw [e2] at I;rw [e3] at T;simp only [VR,PR] at G I T;refine fO.val F (cv:= .bool (cond bc ba bb)) ?_ (by simp only [VR,PR]);rw [G,I,T];cases bc<;>simp [asBool]
   ·cases h
 ·
  rename_i e;have j:=bind_some h;clear h;obtain ⟨te,L,h⟩:=j;obtain ⟨ie,de,ze,D⟩:=bQ A L;split at h
  ·rename_i hok;simp only [ε] at hok;cases h;obtain ⟨O,w',G,I,T,h4⟩:=EJ (P:=P) F hn (cells:=te.zero) (cv:=ze) (ou D) D.zleaf (fun u hu=>wz (g:=g) (m:=m) (S:=S) (ou D) D.zleaf u (by simpa using hu)) e;refine fO.full ⟨.pointer (some ⟨w.heap.size,0,none⟩),O,w', ?_,I,T,Oo h4⟩;simp [Instr.alloc,zeroValue,typeInfo,D.info,D.zero,G]
  ·cases h
 ·
  rename_i e x;have j:=bind_some h;clear h;obtain ⟨te,L,h⟩:=j;obtain ⟨ie,de,ze,D⟩:=bQ A L;simp only at h;split at h
  ·rename_i hok;cases h;have E:=hρ x (by simp);have hl:∀ y ∈ (ρ x).cells,kV y=true:=fun y hy=>List.all_eq_true.1 hok y hy
   obtain ⟨hv1,hv2⟩:=Bh E hl;obtain ⟨O,w',G,I,T,h4⟩:=EJ (P:=P) F hn (cells:=(ρ x).cells) (cv:=cρ x) hv1 hl hv2 e;refine fO.full ⟨.pointer (some ⟨w.heap.size,0,none⟩),O,w', ?_,I,T,Oo h4⟩;simp [Instr.box,G]
  ·cases h
 ·
  rename_i t parts;have j:=bind_some h;clear h;obtain ⟨N,C,h⟩:=j;obtain ⟨i,d,z,D⟩:=bQ A C;refine fO.pur F ?_;refine F6 A D (qs:=parts.map fun (i,x)=>(i,cρ x)) ?_ h;rw [Array.toList_map];exact A7 parts.toList fun x E=>hρ x (by simpa using E)
 ·
  rename_i t len parts;have j:=bind_some h;clear h;obtain ⟨N,C,h⟩:=j;obtain ⟨i,d,z,D⟩:=bQ A C;refine fO.full ?_;refine wE A F hn D (qs:=parts.map fun (i,x)=>(i,cρ x)) ?_ h;rw [Array.toList_map];exact A7 parts.toList fun x E=>hρ x (by simpa using E)
 ·
  rename_i t a;have j:=bind_some h;clear h;obtain ⟨N,C,h⟩:=j;obtain ⟨i,d,z,D⟩:=bQ A C;exact fO.pur F (zy F K D (hρ a (by simp)) h hbs)
 ·
  rename_i t a x;have j:=bind_some h;clear h;obtain ⟨N,C,h⟩:=j;obtain ⟨i,d,z,D⟩:=bQ A C;have ha:=hρ a (by simp);have E:=hρ x (by simp);generalize cρ a=ca at ha ⊢;generalize cρ x=cx at E ⊢;obtain ⟨rfl,O,w',G,I,T⟩:=H8 F K D ha E h hbs;exact ⟨.skip,O,w',by simp [G],I,T,.inr ⟨rfl,rfl⟩⟩
 ·
  rename_i t r;split at h
  ·cases h;obtain ⟨cv,O,w',G,I,T,h4⟩:=En (P:=P) F hn t;exact ⟨.value cv,O,w',by simp [G],I,T,.inl ⟨cv,rfl,h4⟩⟩
  ·cases h
 ·
  rename_i t x k ok;have j:=bind_some h;clear h;obtain ⟨N,C,h⟩:=j;obtain ⟨i,d,z,D⟩:=bQ A C;exact fO.pur F (Em A F K D (hρ x (by simp)) (hρ k (by simp)) h hbs)
 ·
  rename_i t x k v;have j:=bind_some h;clear h;obtain ⟨N,C,h⟩:=j;obtain ⟨i,d,z,D⟩:=bQ A C;obtain ⟨rfl,O,w',G,I,T⟩:=uT A F K D (hρ x (by simp)) (hρ k (by simp)) (hρ v (by simp)) h hbs;exact ⟨.skip,O,w',by simp [G],I,T,.inr ⟨rfl,rfl⟩⟩
 ·
  rename_i t x k v;have j:=bind_some h;clear h;obtain ⟨N,C,h⟩:=j;obtain ⟨i,d,z,D⟩:=bQ A C;obtain ⟨rfl,O,w',G,I,T⟩:=uT A F K D (hρ x (by simp)) (hρ k (by simp)) (hρ v (by simp)) h hbs;exact ⟨.skip,O,w',by simp [G],I,T,.inr ⟨rfl,rfl⟩⟩
 ·
  rename_i x;have E:=hρ x (by simp);split at h
  ·rename_i b ver off e;rw [e] at E;obtain ⟨rfl,rfl,rfl⟩:=aG h;have H:=E;simp only [VR] at H;obtain ⟨_,_,_,⟨k,o,W⟩,_⟩:=H;exact fO.val F (cv:=cρ x) (by rw [W];simp) E
  ·rename_i xs off e;rw [e] at E;obtain ⟨rfl,rfl,rfl⟩:=aG h;have H:=E;simp only [VR,PR] at H;obtain ⟨_,_,_,W,_⟩:=H;exact fO.val F (cv:=cρ x) (by rw [W];simp) E
  ·rename_i f a c e;rw [e] at E;obtain ⟨rfl,rfl,rfl⟩:=aG h;have H:=E;simp only [VR] at H;obtain ⟨_,_,W,_⟩:=H;exact fO.val F (cv:=cρ x) (by rw [W];simp) E
  ·rename_i ty vv e;rw [e] at E;obtain ⟨rfl,rfl,rfl⟩:=aG h;have H:=E;simp only [VR] at H;obtain ⟨u,W,_⟩:=H;exact fO.val F (cv:=cρ x) (by rw [W];simp) E
  ·cases h
 ·
  rename_i op t x y _;have j:=bind_some h;clear h;obtain ⟨N,C,h⟩:=j;exact fO.pur F (KC A C (hρ x (by simp)) (hρ y (by simp)) h hbs x y)
 ·
  exact fO.pur F (Qp (hρ _ (by simp)) h)
 ·
  rename_i s d x;have j:=bind_some h;clear h;obtain ⟨ts,hts,h⟩:=j;have j:=bind_some h;clear h;obtain ⟨td,htd,h⟩:=j;exact fO.pur F (BK A F K hts htd (hρ x (by simp)) h hbs)
 ·
  rename_i t x;have j:=bind_some h;clear h;obtain ⟨N,C,h⟩:=j;split at h
  ·cases h
  ·rename_i J;obtain ⟨rfl,rfl,rfl⟩:=aG h;refine fO.pur F ⟨rfl,.iface t (cρ x),run_makeInterface w t _ (IE A C J), ?_⟩;simp only [VR];exact ⟨_,rfl,hρ x (by simp)⟩
 ·
  rename_i f first cap
  obtain ⟨rfl,rfl,rfl⟩:=aG h;refine fO.pur F ⟨rfl,.func (.func f) (first.map cρ) (cap.map cρ),by simp [Instr.makeFunc], ?_⟩;simp only [VR];refine ⟨(first.map cρ).toList,(cap.map cρ).toList,by rw [Array.toArray_toList,Array.toArray_toList], ?_, ?_⟩
  ·rw [Array.toList_map];exact sO _ fun x E=>hρ x (by simp at E ⊢;exact .inl E)
  ·rw [Array.toList_map];exact sO _ fun x E=>hρ x (by simp at E ⊢;exact .inr E)
 ·
  rename_i t l c;have j:=bind_some h;clear h;obtain ⟨N,C,h⟩:=j;obtain ⟨i,d,z,D⟩:=bQ A C;exact fO.full (yD A F hn D (hρ l (by simp)) (hρ c (by simp)) h hbs)
 ·
  rename_i t x lo hi mx;have j:=bind_some h;clear h;obtain ⟨N,C,h⟩:=j;obtain ⟨i,d,z,D⟩:=bQ A C;exact fO.pur F (Hy A K D (hρ x (by simp)) (AX lo fun o Z=>hρ o (by simp at Z;simp [Z])) (AX hi fun o Z=>hρ o (by simp at Z;simp [Z])) (AX mx fun o Z=>hρ o (by simp at Z;simp [Z])) h hbs)
 ·
  rename_i s x f;have j:=bind_some h;clear h;obtain ⟨N,C,h⟩:=j;obtain ⟨i,d,z,D⟩:=bQ A C;split at h
  ·rename_i fs J;have j:=bind_some h;clear h;obtain ⟨⟨o,ft,sz⟩,hf,h⟩:=j;simp only at h;split at h
   ·rename_i hsz;have j:=bind_some h;clear h;obtain ⟨p,hp,h⟩:=j;obtain ⟨rfl,rfl,rfl⟩:=aG h;exact fO.pur F ⟨rfl,z_ D J hf hsz (hρ x (by simp)) hp⟩
   ·cases h
  ·cases h
 ·
  rename_i t x f;have j:=bind_some h;clear h;obtain ⟨N,C,h⟩:=j;obtain ⟨i,d,z,D⟩:=bQ A C;exact fO.pur F (Gt A D (hρ x (by simp)) h hbs)
 ·
  rename_i t x ix;have j:=bind_some h;clear h;obtain ⟨N,C,h⟩:=j;obtain ⟨i,d,z,D⟩:=bQ A C;exact fO.pur F (yj A K D (hρ x (by simp)) (hρ ix (by simp)) h hbs)
 ·
  rename_i t x ix;have j:=bind_some h;clear h;obtain ⟨N,C,h⟩:=j;obtain ⟨i,d,z,D⟩:=bQ A C;exact fO.pur F (GH A D (hρ x (by simp)) (hρ ix (by simp)) h hbs)
 ·
  exact fO.pur F (Ef A (hρ _ (by simp)) h _)
 ·
  rename_i t i;have D:=hρ t (by simp);split at h
  ·rename_i l e;rw [e] at D;have j:=bind_some h;clear h;obtain ⟨x,E,h⟩:=j;obtain ⟨rfl,rfl,rfl⟩:=aG h;simp only [VR] at D;obtain ⟨vs,W,hl⟩:=D;obtain ⟨cv,G,I⟩:=pg hl i E;refine fO.pur F ⟨rfl,cv, ?_,I⟩;rw [W];simp [Instr.extract,G]
  ·cases h
 ·
  rename_i b args U;simp only [Call.operands] at hρ;have hargs:∀ x ∈ args,VR g m S (ρ x) (cρ x):=fun x E=>hρ x (by simp [E])
  split at h
  ·have j:=bind_some h;clear h;obtain ⟨x,E,h⟩:=j;have j:=bind_some h;clear h;obtain ⟨t,R,h⟩:=j;have j:=bind_some h;clear h;obtain ⟨N,C,h⟩:=j;obtain ⟨i,d,z,D⟩:=bQ A C;split at h
   ·rename_i kt et J;have j:=bind_some h;clear h;obtain ⟨q,hqc,h⟩:=j;obtain ⟨rfl,rfl,rfl⟩:=aG h;rw [D.d_eq] at J;have J:=H9 J;subst J;obtain ⟨es,he,hk,_⟩:=vH F K (hargs x (Array.mem_of_getElem? E)) hqc;have Y:es.size=q.1.length:=by
     have:=aU hk;simpa using this.symm
    refine fO.val F (cv:= .int .i64 q.1.length) ?_ (by simp only [VR,PR]);rcases he with ⟨G,I⟩|⟨b,clk,G,I⟩
    ·subst I;simp [resolve,invoke,builtin,Builtin.len_,R,E,run_underlying D.und,G,goInt,← Y]
    ·simp [resolve,invoke,builtin,Builtin.len_,R,E,run_underlying D.und,G,goInt,MapKept.run_getObj_map I,← Y,Result.andThen]
   ·rename_i d hnm;obtain ⟨hu,cv,G,I⟩:=Ld (P:=P) (w:=w) (hargs x (Array.mem_of_getElem? E)) D h U R (args.map cρ) (by simp [E]) o.type;subst hu;exact fO.val F (cv:=cv) (by simp [resolve,invoke,builtin,G]) I
  ·split at h
   ·rename_i s x t t1 ha R;have hargs':args=#[s,x]:=by apply Array.ext';simpa using ha
    have hats':U=#[t,t1]:=by apply Array.ext';simpa using R
    subst hargs';subst hats';have j:=bind_some h;clear h;obtain ⟨N,C,h⟩:=j;have j:=bind_some h;clear h;obtain ⟨ti1,hti1,h⟩:=j;obtain ⟨i,d,z,D⟩:=bQ A C;obtain ⟨i1,d1,z1,V⟩:=bQ A hti1;have hs:=hargs s (by simp);have E:=hargs x (by simp);have X:ρ s= .nilS→∃ n,vg (ρ x)=some n∧Δ n 0=em:=by
     intro e;cases hc:vg (ρ x) with
     | none=>
      exfalso;split at h
      ·rename_i H;rw [H] at hc;simp [vg] at hc
      ·cases h
      ·rename_i y hy1 _ hy2 hy3;have j:=bind_some h;clear h;obtain ⟨te,L,h⟩:=j;unfold wC at h;have j:=bind_some h;clear h;obtain ⟨⟨xs,n,pr⟩,hsrc,h⟩:=j;cases hxx:ρ x<;>simp [hxx,vg] at hc<;>simp [hxx,JZ] at hsrc
      ·cases h
     |some n=>exact ⟨n,rfl,hem n (by simp [wL,e,hc])⟩
    split at h
    ·rename_i e y J M hy;have j:=bind_some h;clear h;obtain ⟨te,L,h⟩:=j;obtain ⟨ie,de,ze,Q⟩:=bQ A L;split at h
     ·rename_i G;rw [D.d_eq] at J;rw [V.d_eq] at M;have J:=fB J;have M:=vX M;subst J;subst M;obtain ⟨cv,O,w',r1,r2,r3,r4⟩:=uC (P:=P) F K hn D Q hs E (tx:=t1) (.inl ⟨⟨y,hy⟩,V.und,aA G⟩) X (by rw [hy];exact h) hbs o.type;exact ⟨.value cv,O,w',by simp [resolve,invoke,builtin,r1],r2,r3,.inl ⟨cv,rfl,r4⟩⟩
     ·cases h
    ·cases h
    ·rename_i e e1 J M hns;have j:=bind_some h;clear h;obtain ⟨te,L,h⟩:=j;obtain ⟨ie,de,ze,Q⟩:=bQ A L;rw [D.d_eq] at J;rw [V.d_eq] at M;have J:=fB J;have M:=fB M;subst J;subst M;obtain ⟨cv,O,w',r1,r2,r3,r4⟩:=uC (P:=P) F K hn D Q hs E (tx:=t1) (.inr ⟨fun s e=>hns s e,_,V.und⟩) X h hbs o.type;exact ⟨.value cv,O,w',by simp [resolve,invoke,builtin,r1],r2,r3,.inl ⟨cv,rfl,r4⟩⟩
    ·cases h
   ·cases h
  ·
   have j:=bind_some h;clear h;obtain ⟨x,E,h⟩:=j;have j:=bind_some h;clear h;obtain ⟨t,R,h⟩:=j;have j:=bind_some h;clear h;obtain ⟨N,C,h⟩:=j;obtain ⟨i,d,z,D⟩:=bQ A C;split at h
   ·rename_i e J;have j:=bind_some h;clear h;obtain ⟨te,L,h⟩:=j;obtain ⟨ie,de,ze,Q⟩:=bQ A L;rw [D.d_eq] at J;have J:=fB J;subst J;obtain ⟨O,w',r1,r2,r3,rfl⟩:=Gh (P:=P) F K D Q (hargs x (Array.mem_of_getElem? E)) h hbs U R (args.map cρ) (by simp [E]) o.type;exact ⟨.value (.tuple #[]),O,w',by simp [resolve,invoke,builtin,r1],r2,r3,.inl ⟨_,rfl,by simp only [VR];exact ⟨[],rfl,by simp only [aS]⟩⟩⟩
   ·cases h
  ·have j:=bind_some h;clear h;obtain ⟨r,hr,h⟩:=j;obtain ⟨rfl,rfl,rfl⟩:=aG h;obtain ⟨cv,G,I⟩:=PX (P:=P) (w:=w) (sO args.toList fun x E=>hargs x (Array.mem_toList_iff.1 E)) hr U o.type;refine fO.val F (cv:=cv) ?_ I;have:(Xvw cρ args.toList).toArray=args.map cρ:=by apply Array.ext';rw [Xx8,Array.toList_map]
   rw [this] at G;simp [resolve,invoke,builtin,G]
  ·have j:=bind_some h;clear h;obtain ⟨r,hr,h⟩:=j;obtain ⟨rfl,rfl,rfl⟩:=aG h;obtain ⟨cv,G,I⟩:=PW (P:=P) (w:=w) (sO args.toList fun x E=>hargs x (Array.mem_toList_iff.1 E)) hr U o.type;refine fO.val F (cv:=cv) ?_ I;have:(Xvw cρ args.toList).toArray=args.map cρ:=by apply Array.ext';rw [Xx8,Array.toList_map]
   rw [this] at G;simp [resolve,invoke,builtin,G]
  ·cases h
 ·cases h
end
end AM
namespace AM
open Go
structure Cx.Ok (c:Cx):Prop where
 bs:∀ b ∈ c.bs,b=true
 ps:∀ p ∈ c.ps,p
theorem R.bind_ok {α β:Type} {r:R α} {f:α→Cx→R β} {b:β} {c:Cx} (h:r.bind f= .ok b c):∃ a c1,r= .ok a c1∧f a c1= .ok b c:=by
 cases r with
 |ok a c1=>exact ⟨a,c1,rfl,h⟩
 |need=>simp [R.bind] at h
 |bad n=>simp [R.bind] at h
theorem Gn {c c':Cx} {bs:List Bool} {u:Unit} (h:VW c bs= .ok u c') (d:c'.Ok):c.Ok∧∀ b ∈ bs,b=true:=by
 unfold VW at h;split at h
 ·split at h
  ·rename_i a;cases h;exact ⟨d,fun b e=>by simpa using List.all_eq_true.1 a b e⟩
  ·cases h
 ·cases h;exact ⟨⟨fun b a=>d.bs b (by simp [a]),d.ps⟩,fun b a=>d.bs b (by simp [a])⟩
theorem jM {c c':Cx} {b d:Bool} (h:xW c b= .ok d c') (a:c'.Ok):c.Ok∧d=b:=by
 unfold xW at h;split at h
 ·cases h;exact ⟨a,rfl⟩
 ·split at h
  ·cases h
  ·rename_i o r _;cases h;have f:=a.bs (lit d b) (by simp);refine ⟨⟨fun x e=>a.bs x (by simp [e]),a.ps⟩, ?_⟩;cases d<;>cases b<;>simp [lit] at f ⊢
theorem fQ {l:List Nat} {a:Nat}:kY l a=true↔a ∈ l:=by
 simp only [kY,List.any_eq_true];constructor
 ·rintro ⟨x,hx,h⟩;exact aA h ▸ hx
 ·intro h;exact ⟨a,h,Nat.beq_refl a⟩
theorem fA {α β:Type} {f:α→Option β}:∀ {l:List α} {l':List β},fP f l=some l'→l'.length=l.length∧∀ (i:Nat) x,l[i]? =some x→∃ y,l'[i]? =some y∧f x=some y
 | [],l',h=>by simp [fP] at h;subst h;simp
 | a::r,l',h=>by
  simp only [fP] at h;split at h
  ·rename_i y j;split at h
   ·rename_i q c;cases h;obtain ⟨d,e⟩:=fA c;refine ⟨by simp [d], ?_⟩;intro i x b;cases i with
    |zero=>simp at b;subst b;exact ⟨y,by simp,j⟩
    |succ i=>simpa using e i x (by simpa using b)
   ·cases h
  ·cases h
section
variable {P:Program} {ap:AP} {g:bD} {m:aB} {S:au} {w:World}
noncomputable def bP (S:au) (m:aB) (rd:bD) (w:World):au:=fun k o=>
 match S k o with
 |some v=>some v
 |none=>open Classical in if ∃ b B,rd b=some B∧(m b).1=k∧o<B.cells.length then bT w k o else none
theorem jT (S:au) (m:aB) (rd:bD) (w:World):gK S (bP S m rd w):=by
 intro k o v h;simp [bP,h]
theorem eU {rd:bD} {k o:Nat} {v:Value} (h:bP S m rd w k o=some v):S k o=some v∨(bT w k o=some v∧∃ b B,rd b=some B∧(m b).1=k∧o<B.cells.length):=by
 unfold bP at h;split at h
 ·rename_i e c;cases h;exact .inl c
 ·rename_i d;split at h
  ·rename_i a;exact .inr ⟨h,a⟩
  ·cases h
theorem kE (a:aZ ap g m S w) {rd:bD} {k o:Nat} {v:Value} (h:bP S m rd w k o=some v):bT w k o=some v:=by
 rcases eU h with h|h
 ·exact a.sealed _ _ _ h
 ·exact h.1
theorem Qg (e:aZ ap g m S w) {rd:bD} {b:Nat} {B:az} (d:rd b=some B) {o:Nat} (f:o<B.cells.length) {v:Value} (a:bT w (m b).1 o=some v):bP S m rd w (m b).1 o=some v:=by
 unfold bP;split
 ·rename_i h c;have:=e.sealed _ _ _ c;rw [a] at this;cases this;rfl
 ·rw [if_pos ⟨b,B,d,rfl,f⟩];exact a
theorem DR (h:aZ ap g m S w) {rd:bD} (d:∀ b B,rd b=some B→g b=some B) {b:Nat} {B:az} (i:rd b=some B):
  ∃ vs,aS g m S B.cells vs∧(B.pr=true→a_ S B.cells vs)∧(∀ j u,vs[j]? =some u→bP S m rd w (m b).1 j=some u)∧vs.length=B.cells.length∧(B.esz ≠ dJ→∀ u ∈ vs,u.oneCell'=true):=by
 obtain ⟨⟨cur,e,vs,rest,l,n,o,c,k,q⟩,_,_⟩:=h.blk b B (d b B i);refine ⟨vs,c,o, ?_,(aU c).symm,k⟩;intro j u f;have a:=(List.getElem?_eq_some_iff.1 f).1;refine Qg h i (by rw [aU c];exact a) ?_;exact l.get (by rw [n,υ a];exact f) (fun p=>k p u (ο f))
theorem xF (d:aZ ap g m S w) {rd:bD} (a:∀ b B,rd b=some B→g b=some B) {b:Nat} {B:az} (e:rd b=some B) (k:B.esz ≠ dJ):
  ∃ vs,aS g m S B.cells vs∧(B.pr=true→a_ S B.cells vs)∧iQ (bP S m rd w) (m b).1 0 vs∧vs.length=B.cells.length:=by
 obtain ⟨vs,f,h,i,l,n⟩:=DR d a e;refine ⟨vs,f,h,fun j u c=> ?_,l⟩;rw [Φ];exact ⟨i j u c,n k u (ο c)⟩
theorem Fb {S':au} {l:List AV} {y:AV} {vs:List Value} {k:Nat} (h:WL l=some y) (a:a_ S' l vs) (hs:∀ j u,vs[j]? =some u→S' k j=some u):PR S' y (.map (some k)):=by
 unfold WL at h;split at h
 ·rename_i ks f;cases h
  match vs,a with
  | [v0,v1],a=>
   simp only [a_,PR,and_true] at a;obtain ⟨⟨d,rfl,c⟩,e,rfl,b⟩:=a;simp only [PR];exact .inr ⟨k,d,e,rfl,hs 0 _ rfl,hs 1 _ rfl,c,b⟩
  | [],a=>simp [a_] at a
  | [_],a=>simp [a_] at a
  |_::_::_::_,a=>simp [a_] at a
 ·cases h
theorem qR {S':au} {f:AV→Option AV} (a:∀ x v y,f x=some y→VR g m S x v→PR S' y v):∀ {l l':List AV} {vs:List Value},fP f l=some l'→aS g m S l vs→a_ S' l' vs
 | [],l',[],h,_=>by simp [fP] at h;subst h;simp [a_]
 | x::r,l',v::vs,h,hv=>by
  simp only [fP] at h;simp only [aS] at hv;split at h
  ·rename_i y b;split at h
   ·rename_i q c;cases h;simp only [a_];exact ⟨a x v y b hv.1,qR a c hv.2⟩
   ·cases h
  ·cases h
 | [],_,_::_,_,h=>by simp [aS] at h
 |_::_,_,[],_,h=>by simp [aS] at h
theorem jf (K:aZ ap g m S w) {rd:bD} (t:∀ b B,rd b=some B→g b=some B):∀ (p:Nat) (x:AV) (v:Value) (y:AV),frz rd p x=some y→VR g m S x v→PR (bP S m rd w) y v:=by
 intro p
 induction p with
 |zero=>intro x v y h;simp [frz] at h
 | succ p ih=>
  intro x v y h f;have D:=jT S m rd w;have hlist:∀ {l l':List AV} {vs:List Value},fP (frz rd p) l=some l'→aS g m S l vs→a_ (bP S m rd w) l' vs:=fun G H=>qR (fun x v y V f=>ih x v y V f) G H
  unfold frz at h;simp only at h;split at h
  ·
   rename_i b ver i n;have C:=bind_some h;clear h;obtain ⟨B,E,h⟩:=C;split at h
   ·rename_i d;simp only [VR] at f;obtain ⟨B',k,_,_,q⟩:=f;rw [t b B E] at k;cases k;obtain ⟨o,rfl,L,ho,N,F⟩:=q (aA d);obtain ⟨vs,G,H,I,M⟩:=xF K t E F;have hpart:iQ (bP S m rd w) (m b).1 o ((vs.drop (i*B.esz)).take (n*B.esz)):=by
     by_cases hi:i<(m b).2
     ·rw [ho hi];have:=(I.drop (i*B.esz)).take (n*B.esz);rwa [Φ] at this
     ·have hn:n=0:=by omega
      subst hn;intro j u X;simp at X
    have s:∀ l,a_ (bP S m rd w) l ((vs.drop (i*B.esz)).take (n*B.esz))→PR (bP S m rd w) (.sl l n true) (.slice (some ⟨(m b).1,o,none⟩) n ((m b).2 - i)):=by
     intro l z;simp only [PR];exact ⟨_,_,rfl,by omega,.inr ⟨_,_,_,rfl,z,hpart⟩⟩
    split at h
    ·rename_i A;cases h;exact s _ (jo _ (og _ (aW D _ (H A))))
    ·simp only [Ξ] at h;obtain ⟨l,z,rfl⟩:=h;exact s _ (hlist z (oq _ (qX _ G)))
   ·cases h
  ·
   rename_i b ver J;have C:=bind_some h;clear h;obtain ⟨B,E,h⟩:=C;split at h
   ·rename_i d;simp only [ε,Xqe] at d;have F:B.esz ≠ dJ:=fun e=>by rw [e] at d;exact absurd d.2 (by decide)
    simp only [VR] at f;obtain ⟨B',k,_,_,q⟩:=f;rw [t b B E] at k;cases k;have q:=q (aA d.1);subst q;obtain ⟨vs,G,H,I,M⟩:=xF K t E F;have s:∀ l,a_ (bP S m rd w) l vs→PR (bP S m rd w) (.pp l J) (.pointer (some ⟨(m b).1,J,none⟩)):=by
     intro l z;simp only [PR];exact ⟨_,0,_,by rw [Φ],z,I⟩
    split at h
    ·rename_i A;cases h;exact s _ (aW D _ (H A))
    ·simp only [Ξ] at h;obtain ⟨l,z,rfl⟩:=h;exact s _ (hlist z G)
   ·cases h
  ·
   rename_i b ver;have C:=bind_some h;clear h;obtain ⟨B,E,h⟩:=C;split at h
   ·rename_i d;simp only [ε] at d;simp only [VR] at f;obtain ⟨B',k,_,_,q⟩:=f;rw [t b B E] at k;cases k;have q:=q (aA d.1);subst q;obtain ⟨vs,G,H,I,M,_⟩:=DR K t E;split at h
    ·rename_i A;exact Fb h (aW D _ (H A)) I
    ·have C:=bind_some h;clear h;obtain ⟨l,z,h⟩:=C;exact Fb h (hlist z G) I
   ·cases h
  ·simp only [Ξ] at h;obtain ⟨l,z,rfl⟩:=h;simp only [VR] at f;obtain ⟨vs,e,q⟩:=f;simp only [PR];exact ⟨vs,e,hlist z q⟩
  ·simp only [Ξ] at h;obtain ⟨l,z,rfl⟩:=h;simp only [VR] at f;obtain ⟨vs,e,q⟩:=f;simp only [PR];exact ⟨vs,e,hlist z q⟩
  ·have C:=bind_some h;clear h;obtain ⟨a,ha,h⟩:=C;simp only [Ξ] at h;obtain ⟨c,W,rfl⟩:=h;simp only [VR] at f;obtain ⟨va,vc,e,q,r⟩:=f;simp only [PR];exact ⟨va,vc,e,hlist ha q,hlist W r⟩
  ·simp only [Ξ] at h;obtain ⟨u,hu,rfl⟩:=h;simp only [VR] at f;obtain ⟨cu,e,q⟩:=f;simp only [PR];exact ⟨cu,e,ih _ _ _ hu q⟩
  ·cases h
  ·rename_i n1 Q T O Z R U Y;cases h;refine bn D _ ?_;cases x<;>first
    |exact absurd rfl (n1 _ _ _ _)
    |exact absurd rfl (Q _ _ _)
    |exact absurd rfl (T _ _)
    |exact absurd rfl (O _)
    |exact absurd rfl (Z _)
    |exact absurd rfl (R _ _ _)
    |exact absurd rfl (U _ _)
    |exact absurd rfl (Y _ _ _)
    |(simp only [VR] at f;exact f)
    |(simp only [PR])
end
end AM
