/- The abstract machine over the code of the model, and the proof that it is sound. No conditions. -/
import Derived.Test.YtcjindbblhcopaaGreatDoorM1
import Derived.Laws.BytesString
import Derived.Laws.MakeOwn
import Derived.Laws.OwnMore
set_option linter.unusedSimpArgs false
set_option linter.unusedVariables false
open List renaming foldl_cons→Xxg,length_take→Xq5,nil_append→Xqd,drop_drop→Xjl,map_cons→Xqc,getElem?_map→Xqy,getElem?_take→Xju,getElem?_append_left→Xxb,mem_of_mem_drop→Xzo,mem_of_mem_take→Xjm,all_cons→Xj5,cons_append→Xqx,append_eq_nil_iff→Xze,take_append_of_le_length→Xx4,append_assoc→Ψ,toList_toArray→Xvk,size_toArray→Xx9,length_append→κ,length_drop→Xx8,replicate_succ→Xxd,append_nil→Xqa,any_cons→Xwu,map_append→Xxt,map_nil→Xxz,ext_getElem?→Xjx,getElem?_set→Xj9,map→Xwe,mem_of_getElem?→Xqm
open Bool renaming and_eq_true→π,not_eq_true'→Xqq
open Nat renaming add_zero→Xq3,beq→Xqn,le_refl→φ,zero_le→Xxf,zero_add→Θ,add_mul→Xxn,lt_irrefl→Xv2
open Option renaming map_some→Xx1,map_eq_some_iff→Xqp
open UInt8 renaming ofNat→Xqj
namespace AM
open Go
section
variable {P:Program} {ap:AP} {g:bV} {m:aQ} {S:aO} {w:World}
theorem xH {x:AV} {v:Value} (h:VR g m S x v) (e:∀ y ∈ x.cells,kw y=true):aW g m S x.cells v.cells.toList∧∀ u ∈ v.cells,u.oneCell'=true:=by
 cases x
 case agg l=>
  simp only [VR] at h;obtain ⟨vs,rfl,h⟩:=h;refine ⟨by simpa [Value.cells,AV.cells] using h, ?_⟩;intro u d;simp only [Value.cells] at d;simp only [AV.cells] at e;have:∀ (l:List AV) (vs:List Value),aW g m S l vs→(∀ y ∈ l,kw y=true)→∀ u ∈ vs,u.oneCell'=true:=by
   intro l
   induction l with
   |nil=>intro vs f _ u d;cases vs<;>simp [aW] at f d
   | cons a r ih=>
    intro vs f e u d;cases vs with
    |nil=>simp [aW] at f
    |cons b q=>
     simp only [aW] at f;rcases List.mem_cons.1 d with rfl|d
     ·exact Gg f.1 (e a (by simp))
     ·exact ih q f.2 (fun y j=>e y (by simp [j])) u d
  exact this l vs h e u (by simpa using d)
 all_goals
  have c:=Gg h (e _ (by simp [AV.cells]));have i:v.cells=#[v]:=by cases v<;>simp [Value.cells,Value.oneCell'] at c ⊢
  rw [i];refine ⟨by simp only [AV.cells,aW];exact ⟨h,trivial⟩,by simpa using c⟩
theorem BG:∀ (vs:List Value) (i a:Nat) (b:Array Value),a+i+vs.length≤b.size→
  ((vs.zipIdx i).foldl (fun (b:Array Value) (p:Value × Nat)=>b.setIfInBounds (a+p.2) p.1) b).toList=b.toList.take (a+i)++vs++b.toList.drop (a+i+vs.length)
 | [],i,a,b,_=>by simp
 | v::vs,i,a,b,h=>by
  simp only [List.length_cons] at h;simp only [List.zipIdx_cons,Xxg];rw [BG vs (i+1) a (b.setIfInBounds (a+i) v) (by simp;omega)];have c:a+i<b.toList.length:=by simp;omega
  simp only [Array.toList_setIfInBounds];rw [show a+(i+1)=a+i+1 from by omega,List.set_eq_take_append_cons_drop,if_pos c];have d:(b.toList.take (a+i)++v::b.toList.drop (a+i+1)).take (a+i+1)=b.toList.take (a+i)++ [v]:=by
   rw [List.take_append];have f:a+i+1 - (b.toList.take (a+i)).length=1:=by simp [Xq5];omega
   rw [f];simp [List.take_take]
  have e:(b.toList.take (a+i)++v::b.toList.drop (a+i+1)).drop (a+i+1+vs.length)=b.toList.drop (a+i+(v::vs).length):=by
   rw [List.drop_append];have:(b.toList.take (a+i)).length=a+i:=by simp [Xq5];omega
   rw [this,List.drop_eq_nil_of_le (by rw [this];omega),Xqd,show a+i+1+vs.length - (a+i)=vs.length+1 from by omega,List.drop_succ_cons,Xjl];congr 1;simp;omega
  rw [d,e];simp
theorem HX {e vs:List AV} {c b:List Value} {a:Nat} (h:aW g m S e c) (d:aW g m S vs b):aW g m S (fE e a vs) (c.take a++b++c.drop (a+b.length)):=by
 unfold fE;rw [← bI d];exact eS (eS (mi _ h) d) (oL _ h)
theorem PP {e vs:List AV} {c b:List Value} {a:Nat} (h:bZ S e c) (d:bZ S vs b):bZ S (fE e a vs) (c.take a++b++c.drop (a+b.length)):=by
 unfold fE;rw [← rO d];exact jT (jT (iz _ h) d) (mg _ h)
def jV (g:bV) (m:aQ) (S:aO) (place:Nat→Option (Nat × Nat)):List (Nat × Nat × AV)→List (Nat × Value)→Prop
 | [],[]=>True
 |(off,size,v)::r,(i,c)::q=>place i=some (off,size)∧VR g m S v c∧jV g m S place r q
 |_,_=>False
theorem li {place:Nat→Option (Nat × Nat)}:∀ (ps:List (Nat × Nat × AV)) (qs:List (Nat × Value)) (cells cells':List AV) (cs:Array Value),jV g m S place ps qs→aW g m S cells cs.toList→rp cells ps=some cells'→
  ∃ a,Instr.fill place cs qs=some a∧aW g m S cells' a.toList∧a.size=cs.size
 | [],[],cells,cells',cs,_,hv,h=>by simp [rp] at h;subst h;exact ⟨cs,rfl,hv,rfl⟩
 | (off,size,v)::r,(i,c)::q,cells,cells',cs,hp,hv,h=>by
  simp only [jV] at hp;simp only [rp] at h;split at h
  ·rename_i l;simp only [π] at l;obtain ⟨⟨k,n⟩,t⟩:=l;obtain ⟨j,B⟩:=xH hp.2.1 (fun y A=>List.all_eq_true.1 t y A);have x:=bI j;have b:=bI hv;have k:=aK k;have n:=dZ n;have z:c.cells.size=size:=by simp only [Array.length_toList] at x;omega
   have d:off+c.cells.size≤cs.size:=by simp only [Array.length_toList] at b;omega
   have o:=BG c.cells.toList 0 off cs (by simpa using d);have f:aW g m S (fE cells off v.cells) ((c.cells.zipIdx.foldl (fun (cs:Array Value) (p:Value × Nat)=>cs.setIfInBounds (off+p.2) p.1) cs)).toList:=by
    rw [← Array.foldl_toList,Array.toList_zipIdx,o];simp only [Xq3];exact HX hv j
   obtain ⟨a,e,s,u⟩:=li r q _ cells' _ hp.2.2 f h;refine ⟨a, ?_,s, ?_⟩
   ·simp only [Instr.fill,hp.1];rw [if_neg (by simp;omega)];exact e
   ·rw [u,← Array.length_toList,← Array.foldl_toList,Array.toList_zipIdx,o];simp;omega
  ·cases h
 | [],_::_,_,_,_,hp,_,_=>by simp [jV] at hp
 |_::_,[],_,_,_,hp,_,_=>by simp [jV] at hp
theorem mo {t:Nat} {a:TI} {i:TypeInfo} {d:TypeDesc} {z:Value} (b:wR P t a i d z):aW g m S a.zero z.cells.toList:=by
 rw [b.zcells];exact bu _ (qX S _)
def sS (g:bV) (m:aQ) (S:aO):List (Nat × AV)→List (Nat × Value)→Prop
 | [],[]=>True
 |(i,v)::r,(j,c)::q=>i=j∧VR g m S v c∧sS g m S r q
 |_,_=>False
theorem nL {size:Nat}:∀ {ps:List (Nat × AV)} {qs:List (Nat × Value)},sS g m S ps qs→jV g m S (fun i=>some (i*size,size)) (ps.map fun (i,v)=>(i*size,size,v)) qs
 | [],[],_=>by simp [jV]
 |(i,v)::r,(j,c)::q,h=>by
  simp only [sS] at h;obtain ⟨rfl,a,b⟩:=h;simp only [Xqc,jV];exact ⟨trivial,a,nL b⟩
 | [],_::_,h=>by simp [sS] at h
 |_::_,[],h=>by simp [sS] at h
theorem v_ {b:List (Nat × Nat × Nat)} {place:Nat→Option (Nat × Nat)} (hp:∀ i x,b[i]? =some x→place i=some (x.1,x.2.2)):∀ {ps:List (Nat × AV)} {qs:List (Nat × Value)} {rs:List (Nat × Nat × AV)},sS g m S ps qs→
  iq (fun (q:Nat × AV)=>(b[q.1]?).map fun (x:Nat × Nat × Nat)=>(x.1,x.2.2,q.2)) ps=some rs→jV g m S place rs qs
 | [],[],rs,_,h=>by simp [iq] at h;subst h;simp [jV]
 | (i,v)::r,(j,c)::q,rs,hn,h=>by
  simp only [sS] at hn;obtain ⟨rfl,d,f⟩:=hn;simp only [iq] at h;cases a:b[i]? with
  |none=>simp [a] at h
  | some x=>
   simp only [a,Xx1] at h;split at h
   ·rename_i l e;cases h;simp only [jV];exact ⟨hp i x a,d,v_ hp f e⟩
   ·cases h
 | [],_::_,_,h,_=>by simp [sS] at h
 |_::_,[],_,h,_=>by simp [sS] at h
theorem vZ:∀ (fields:List Field),(∀ f ∈ fields,(P.info? f.type).isSome)→fields.mapM (fun f=>(P.info? f.type).map fun i=>(f.offset,i.size))=some (fields.map fun f=>(f.offset,match P.info? f.type with|some i=>i.size|none=>0))
 | [],_=>rfl
 | f::r,h=>by
  cases a:P.info? f.type with
  |none=>have:=h f (by simp);simp [a] at this
  |some i=>
   simp [List.mapM_cons,a,vZ r (fun f b=>h f (by simp [b]))]
theorem CD (A:fe P ap) {t:Nat} {l:TI} {i:TypeInfo} {d:TypeDesc} {z:Value} (b:wR P t l i d z) {ps:List (Nat × AV)} {qs:Array (Nat × Value)} (B:sS g m S ps qs.toList) {v:AV} {ups:List (Nat × aR)} {bs:List Bool}
  (h:Gq ap l ps=some (v,ups,bs)):ups= []∧∃ cv,(Instr.build t qs).run P w= .ok cv w∧VR g m S v cv:=by
 unfold Gq at h;split at h
 ·rename_i G hd;have k:=bind_some h;clear h;obtain ⟨E,u,h⟩:=k;have k:=bind_some h;clear h;obtain ⟨q,j,h⟩:=k;obtain ⟨rfl,rfl,rfl⟩:=aL h;rw [b.d_eq] at hd;obtain ⟨fields,rfl,rfl⟩:=qK hd;by_cases hall:∀ f ∈ fields.toList,(P.info? f.type).isSome
  ·have s:=vZ fields.toList hall;have y:=v_ (place:=((fields.toList.map fun f=>(f.offset,match P.info? f.type with|some i=>i.size|none=>0)).toArray[·]?)) (by
    intro i x C;simp only [Xqy,Xqp] at C;obtain ⟨f,p,rfl⟩:=C;simp [p];rfl) B u
   obtain ⟨a,r,o,_⟩:=li E qs.toList l.zero q z.cells y (mo b) j;refine ⟨rfl,.agg a,run_build w t qs a ?_, ?_⟩
   ·simp only [Program.built,b.info,b.und,b.zero];rw [s];exact r
   ·simp only [VR];exact ⟨a.toList,by simp,o⟩
  ·exfalso;apply hall;intro f p;have:=b.fld;simp only [MV] at this;exact List.all_eq_true.1 this f p
 ·rename_i n e hd;have k:=bind_some h;clear h;obtain ⟨D,c,h⟩:=k;have k:=bind_some h;clear h;obtain ⟨q,j,h⟩:=k;obtain ⟨rfl,rfl,rfl⟩:=aL h;obtain ⟨I,F,H,c⟩:=cO A c;rw [b.d_eq] at hd;have hd:=uy hd;subst hd;obtain ⟨a,r,o,_⟩:=li _ qs.toList l.zero q z.cells (nL (size:=D.size) B) (mo b) j;refine ⟨rfl,.agg a,run_build w t qs a ?_, ?_⟩
  ·simp only [Program.built,b.info,b.und,b.zero,c.info];rw [← c.size];exact r
  ·simp only [VR];exact ⟨a.toList,by simp,o⟩
 ·cases h
end
end AM
namespace AM
open Go
section
variable {P:Program} {ap:AP} {g:bV} {m:aQ} {S:aO} {w:World}
theorem sw {t:Nat} {j:TI} {i:TypeInfo} {d:TypeDesc} {z:Value} (f:wR P t j i d z) {v:AV} (h:mQ j j.zero=some v):VR g m S v z:=by
 have e:=mo (g:=g) (m:=m) (S:=S) f;have b:=f.zagg;unfold mQ at h;rw [f.d_eq,Af] at h;unfold Yy at b;rw [f.zero] at b;split at h
 ·rename_i a;cases h;cases d<;>simp [TypeDesc.isRow] at a<;>cases z<;>simp at b
  all_goals
   simp only [VR];exact ⟨_,rfl,by simpa [Value.cells] using e⟩
 ·rename_i a;split at h
  ·rename_i c l;cases h;have k:z.cells=#[z]:=by
    cases z<;>first|rfl|skip
    cases d<;>simp [TypeDesc.isRow] at a b
   rw [l,k] at e;simp only [aW] at e;exact e.1
  ·cases h
theorem AQ (y:fe P ap) {x v:AV} {C:Value} (o:VR g m S x C) {asserted:Nat} {ok:Bool} {ups:List (Nat × aR)} {bs:List Bool} (h:Cz ap x asserted ok=some (v,ups,bs)) (A:Nat):
  ups= []∧∃ cv,(Instr.typeAssert C A asserted ok).run P w= .ok cv w∧VR g m S v cv:=by
 unfold Cz at h;have n:=bind_some h;clear h;obtain ⟨F,p,h⟩:=n;obtain ⟨i,d,z,b⟩:=cO y p;have a:∀ B,d ≠ .interface B:=by
  intro B e;subst e;rw [b.d_eq] at h;simp [gX] at h
 have key:∀ (c:Value),(∃ t u,c= .iface t u∧t ≠ asserted)∨c= .nilIface→∀ l,VR g m S l z→ok=true→(Instr.typeAssert c A asserted ok).run P w= .ok (.tuple #[z,.bool false]) w:=by
  intro c E l _ q;subst q;rcases E with ⟨t,u,rfl,k⟩|rfl
  ·cases d<;>first|exact absurd rfl (a _)|simp [Instr.typeAssert,run_underlying b.und,k,zeroValue,typeInfo,b.info,b.zero]
  ·cases d<;>first|exact absurd rfl (a _)|simp [Instr.typeAssert,run_underlying b.und,zeroValue,typeInfo,b.info,b.zero]
 split at h
 ·cases h
 ·split at h
  ·rename_i t u;simp only [VR] at o;obtain ⟨r,rfl,D⟩:=o;split at h
   ·rename_i j;have j:=aK j;subst j;obtain ⟨rfl,rfl,rfl⟩:=aL h;cases ok
    ·refine ⟨rfl,r, ?_,D⟩;cases d<;>first|exact absurd rfl (a _)|simp [Instr.typeAssert,run_underlying b.und]
    ·refine ⟨rfl,.tuple #[r,.bool true], ?_, ?_⟩
     ·cases d<;>first|exact absurd rfl (a _)|simp [Instr.typeAssert,run_underlying b.und]
     ·simp only [VR];exact ⟨[r,.bool true],rfl,by simp only [aW,VR,PR];exact ⟨D,trivial,trivial⟩⟩
   ·rename_i j;have k:t ≠ asserted:=by intro e;subst e;simp at j
    cases ok
    ·cases h
    ·simp only at h;have n:=bind_some h;clear h;obtain ⟨l,s,h⟩:=n;obtain ⟨rfl,rfl,rfl⟩:=aL h;have f:=sw (g:=g) (m:=m) (S:=S) b s;refine ⟨rfl,_,key _ (.inl ⟨_,_,rfl,k⟩) l f rfl, ?_⟩;simp only [VR];exact ⟨[z,.bool false],rfl,by simp only [aW,VR,PR];exact ⟨f,trivial,trivial⟩⟩
  ·simp only [VR,PR] at o;subst o;cases ok
   ·cases h
   ·simp only at h;have n:=bind_some h;clear h;obtain ⟨l,s,h⟩:=n;obtain ⟨rfl,rfl,rfl⟩:=aL h;have f:=sw (g:=g) (m:=m) (S:=S) b s;refine ⟨rfl,_,key _ (.inr rfl) l f rfl, ?_⟩;simp only [VR];exact ⟨[z,.bool false],rfl,by simp only [aW,VR,PR];exact ⟨f,trivial,trivial⟩⟩
  ·cases h
theorem nW (O:bF ap g m S w) {rd:bV} (D:∀ b B,rd b=some B→g b=some B) {size:Nat} {x:AV} {Q:Value} (f:VR g m S x Q) {C:List AV} {n:Nat} {pr:Bool} (h:FF size rd x=some (C,n,pr)) (L:C.length=n*size)
  {tx:Nat} (hk:((∃ s,x= .str s)∧P.underlying tx=some .string∧size=1)∨((∀ s,x ≠ .str s)∧∃ e,P.underlying tx=some (.slice e))):
  ∃ news,Src P size tx Q n news w∧aW g m S C news∧(pr=true→bZ S C news):=by
 unfold FF at h;split at h
 ·rename_i X W nn;cases h;obtain ⟨_,e,d⟩:=hk.resolve_left (by rintro ⟨⟨s,hs⟩,_⟩;cases hs);simp only [VR,PR] at f;obtain ⟨a,E,rfl,U,q⟩:=f;rcases q with ⟨rfl,_,rfl,rfl,rfl⟩|⟨b,o,vs,rfl,hp,hs⟩
  ·exact ⟨[],Src.ofNil w d 0,by simp [aW],fun _=>by simp [bZ]⟩
  ·refine ⟨vs,Src.ofSlice w d ⟨b,o,none⟩ n E vs (by rw [← rO hp,L]) (fun j u c=>by rw [Addr.add_mid];exact O.one (hs j u c).1 (hs j u c).2) ?_,bu _ hp,fun _=>hp⟩;intro u H;obtain ⟨j,c⟩:=List.getElem?_of_mem H;exact (hs j u c).2
 ·cases h;obtain ⟨_,e,d⟩:=hk.resolve_left (by rintro ⟨⟨s,hs⟩,_⟩;cases hs);simp only [VR,PR] at f;subst f;exact ⟨[],Src.ofNil w d 0,by simp [aW],fun _=>by simp [bZ]⟩
 ·rename_i s;cases h;obtain ⟨_,d,G⟩:=hk.resolve_right (by rintro ⟨hs,_⟩;exact hs s rfl);simp only [VR,PR] at f;subst f;subst G;have hp:∀ s:List UInt8,bZ S (s.map fun b=>AV.int .u8 b.toNat) (s.map fun b=>Value.int .u8 b.toNat):=by
   intro s
   induction s with
   |nil=>simp [bZ]
   |cons a r ih=>simp only [Xqc,bZ,PR];exact ⟨trivial,ih⟩
  have i:=Src.ofString (P:=P) w d ⟨s.toArray⟩;have Z:byteCells ⟨s.toArray⟩=s.map fun b=>Value.int .u8 b.toNat:=by simp [byteCells]
  rw [Z,uw] at i;exact ⟨_,i,bu _ (hp s),fun _=>hp s⟩
 ·rename_i b ver j W;have T:=bind_some h;clear h;obtain ⟨B,V,h⟩:=T;split at h
  ·rename_i A;cases h;simp only [π,Xqq] at A;obtain ⟨A,z⟩:=A;have l:B.esz ≠ fw:=fun e=>by rw [e] at z;exact absurd z (by decide)
   obtain ⟨_,e,d⟩:=hk.resolve_left (by rintro ⟨⟨s,hs⟩,_⟩;cases hs);simp only [VR] at f;obtain ⟨B',y,_,_,q⟩:=f;have v:=D b B V;rw [v] at y;cases y;obtain ⟨o,rfl,q1,Y,q3⟩:=q (aK A.1);have F:=aK A.2;obtain ⟨cur,e',vs,rest,k,t,hp,K,J,M⟩:=(O.blk b B v).lies;have k:=k.cells l;have J:=J l;have R:=bI K;have I:((vs.drop (j*size)).take (n*size)).length=n*size:=by
    rw [← bI (mi _ (oL _ K))];exact L
   by_cases hn:n=0
   ·subst hn;have N:(vs.drop (j*size)).take (0*size)= []:=by simp
    refine ⟨[], ?_, ?_, ?_⟩
    ·exact Src.ofSlice w d _ 0 _ [] (by simp) (fun _ _ h=>by simp at h) (fun _ h=>by simp at h)
    ·simp [aW]
    ·intro _;simp [bZ]
   ·have p:=Y (by omega);refine ⟨(vs.drop (j*size)).take (n*size),Src.ofSlice w d _ n _ _ I ?_ ?_,mi _ (oL _ K),fun pr=>iz _ (mg _ (hp pr))⟩
    ·intro jj u c;rw [p,Addr.add_mid,F,oP k,t];rw [Xju] at c;split at c
     ·rw [List.getElem?_drop] at c;rw [Xxb (List.getElem?_eq_some_iff.1 c).1];exact c
     ·cases c
    ·intro u H;exact J u (Xzo (Xjm H))
  ·cases h
 ·cases h
theorem BX:∀ (a:List Int) (s:List UInt8),a.foldl (fun (r:ByteArray) n=>r.push (Xqj n.toNat)) ⟨s.toArray⟩=⟨(s++a.map fun n=>Xqj n.toNat).toArray⟩
 | [],s=>by simp
 |n::a,s=>by
  simp only [Xxg];have e:(⟨s.toArray⟩:ByteArray).push (Xqj n.toNat)=⟨(s++ [Xqj n.toNat]).toArray⟩:=by simp [ByteArray.push]
  rw [e,BX a];simp
theorem xV (F:fe P ap) (Y:bF ap g m S w) {rd:bV} (I:∀ b B,rd b=some B→g b=some B) {s d:Nat} {ts V:TI} (K:ap.tyAt s=some ts) (O:ap.tyAt d=some V) {x v:AV} {N:Value} (G:VR g m S x N) {ups:List (Nat × aR)} {bs:List Bool}
  (h:xU ap ts V rd x=some (v,ups,bs)) (hbs:∀ b ∈ bs,b=true):ups= []∧∃ cv,(convert s d N).run P w= .ok cv w∧VR g m S v cv:=by
 obtain ⟨i1,d1,z1,D⟩:=cO F K;obtain ⟨i2,d2,z2,C⟩:=cO F O;unfold xU at h;split at h
 ·rename_i k k' n hd;obtain ⟨rfl,rfl,rfl⟩:=aL h;rw [C.d_eq] at hd;have hd:=Pf hd;subst hd;simp only [VR,PR] at G;subst G;exact ⟨rfl,_,by simp [convert,run_underlying D.und,run_underlying C.und,Conv.intToInt];rfl,by simp only [VR,PR]⟩
 ·rename_i s' j i;obtain ⟨rfl,rfl,rfl⟩:=aL h;rw [D.d_eq] at j;rw [C.d_eq] at i;have j:=sL j;have i:=sL i;subst j;subst i;simp only [VR,PR] at G;subst G;exact ⟨rfl,_,by simp [convert,run_underlying D.und,run_underlying C.und];rfl,by simp only [VR,PR]⟩
 ·rename_i x0 e j i;have J:=bind_some h;clear h;obtain ⟨te,t,h⟩:=J;obtain ⟨ie,de,ze,t⟩:=cO F t;split at h
  ·cases h
  ·rename_i Z xt xb u A;have J:=bind_some h;clear h;obtain ⟨⟨p,n,pr⟩,z,h⟩:=J;obtain ⟨rfl,rfl,rfl⟩:=aL h;obtain ⟨T,Q⟩:=bN hbs;obtain ⟨Q,_⟩:=bN Q;rw [D.d_eq] at j;rw [C.d_eq] at i;have j:=eO j;have i:=sL i;subst j;subst i;rw [t.d_eq] at u;have u:=Pf u;subst u;have T:=aK T;obtain ⟨f,hs,W,_⟩:=nW (P:=P) Y I G z (by omega) (tx:=s) (.inr ⟨fun s e=>A s e,e,D.und⟩);have E:f=(p.map AV.toInt).map (Value.int .u8):=by
    have:∀ (p:List AV) (f:List Value),aW g m S p f→p.all (chk (.int .u8))=true→f=(p.map AV.toInt).map (Value.int .u8):=by
     intro p
     induction p with
     |nil=>intro f h _;cases f<;>simp [aW] at h ⊢
     | cons a r ih=>
      intro f h H;cases f with
      |nil=>simp [aW] at h
      |cons c q=>
       simp only [aW] at h;simp only [Xj5,π] at H;rw [Xqc,Xqc,ih q h.2 H.2];congr 1;cases a<;>simp [chk] at H
       simp only [VR,PR] at h;rw [h.1,dV H.1];rfl
    exact this p f W Q
   refine ⟨rfl,.string ⟨((p.map AV.toInt).map fun n=>Xqj n.toNat).toArray⟩, ?_, ?_⟩
   ·have hcells:=hs.cells;have y:=hs.len w;have o:=G;cases N
    case slice a l c=>
     have X:l=n:=by simpa [Builtin.lenOf] using y
     subst X;cases a with
     | none=>
      have L:f= []:=by simpa [Builtin.firstCells] using hcells.symm
      rw [L] at E;have M:p= []:=by
       have:(p.map AV.toInt).map (Value.int .u8)= []:=E.symm;simpa using this
      subst M;simp [convert,run_underlying D.und,run_underlying C.und,run_underlying t.und,Conv.bytesToString];rfl
     | some a=>
      have R:(loadCells a l).run P w= .ok ((p.map AV.toInt).map (Value.int .u8)).toArray w:=by
       rw [← E];simpa [Builtin.firstCells] using hcells
      have U:=run_bytesToString (P:=P) w a l c _ R;rw [show ByteArray.empty=⟨([]:List UInt8).toArray⟩ from rfl,BX,Xqd] at U;simp only [convert,Sem.run_bind,run_underlying D.und,run_underlying C.und,run_underlying t.und,Result.andThen_ok];exact U
    all_goals (simp [Builtin.lenOf] at y)
    case string s0=>
     exfalso;cases Z<;>simp [FF] at z
     case str s1=>exact A s1 rfl
     case nilS=>simp only [VR,PR] at o;cases o
     case sl a b c=>simp only [VR,PR] at o;obtain ⟨_,_,h,_⟩:=o;cases h
     case ref a b c d=>simp only [VR] at o;obtain ⟨_,_,_,⟨_,_,_,h⟩,_⟩:=o;cases h
   ·simp only [VR,PR];simp [List.map_map,Function.comp_def]
  ·cases h
 ·cases h
end
end AM
namespace AM
open Go
def cD (g:bV) (ups:List (Nat × aR)):bV:=fun b=>match ax ups b with|some B=>some B|none=>g b
def iw (m:aQ) (b:Nat) (x:Nat × Nat):aQ:=fun c=>if c=b then x else m c
theorem eJ {α:Type}:∀ (a b:List (Nat × α)) (t:Nat),ax (a++b) t=match ax a t with|some x=>some x|none=>ax b t
 | [],b,t=>rfl
 |(u,x)::r,b,t=>by
  simp only [Xqx,ax];split
  ·rfl
  ·exact eJ r b t
theorem ig (ups:List (Nat × aR)) (hp:Hp):cD (ax hp) ups=ax (ups++hp):=by
 funext b;rw [eJ];unfold cD;cases ax ups b<;>rfl
theorem dF (g:bV):cD g []=g:=rfl
theorem jq (g:bV) (b:Nat) (B:aR) (c:Nat):cD g [(b,B)] c=if c=b then some B else g c:=by
 simp only [cD,ax];by_cases h:c=b
 ·subst h;simp
 ·have:Xqn b c=false:=by
   cases a:Xqn b c with
   |false=>rfl
   |true=>exact absurd (aK a).symm h
  rw [this,if_neg h]
section
variable {P:Program} {ap:AP} {g:bV} {m:aQ} {S:aO} {w:World}
theorem JK.mono {g g':bV} {m a:aQ} {S S':aO} {w w':World} {B:aR} {k c:Nat} (h:JK g m S w B k c) (b:jF S S') (o:Ge g m g' a) (s:w'.heap[k]? =w.heap[k]?):JK g' a S' w' B k c:=by
 obtain ⟨⟨cur,e,vs,rest,d,i,n,q,f,l⟩,r,j⟩:=h;exact ⟨⟨cur,e,vs,rest,d.same s,i,fun p=>bk b _ (n p),jl b o _ q,f,l⟩,r,j⟩
theorem bF.seal_lt (h:bF ap g m S w) {k o:Nat} {v:Value} (a:S k o=some v):k<w.heap.size:=Ef (h.sealed k o v a)
theorem bF.put (h:bF ap g m S w) (b:Nat) (B:aR) (k c:Nat) {w':World}
  (i:w.heap.size≤k∨∃ B0,g b=some B0∧k=(m b).1) (hw:w.grownBy w' (some k)) (hblk:JK g m S w' B k c)
  (hge:∀ B0,g b=some B0→B.esz=B0.esz∧((B.ver=B0.ver∧(k,c)=m b)∨B0.ver<B.ver))
  (hseal:∀ o v,S k o=some v→cf w' k o=some v∧B.fro=true∧o<B.fz):
  bF ap (cD g [(b,B)]) (iw m b (k,c)) S w'∧Fr g m S w (cD g [(b,B)]) (iw m b (k,c)) S w':=by
 have s:Ge g m (cD g [(b,B)]) (iw m b (k,c)):=by
  intro f B1 p;by_cases e:f=b
  ·subst e;obtain ⟨a,j⟩:=hge B1 p;refine ⟨B,by rw [jq,if_pos rfl],a, ?_⟩;rcases j with ⟨j,C⟩|j
   ·exact .inl ⟨j,by simp [iw,C]⟩
   ·exact .inr j
  ·exact ⟨B1,by rw [jq,if_neg e];exact p,rfl,.inl ⟨rfl,by simp [iw,e]⟩⟩
 have t:∀ f B1,g f=some B1→f ≠ b→(m f).1 ≠ k:=by
  intro f B1 p z e;have r:=h.lt p;rcases i with i|⟨B0,n,i⟩
  ·omega
  ·exact z (h.inj f b B1 B0 p n (e.trans i))
 have l:∀ k0,k0<w.heap.size→k0 ≠ k→w'.heap[k0]? =w.heap[k0]? :=fun k0 r y=>hw.block k0 r (by simpa using y)
 constructor
 ·refine ⟨?_, ?_, ?_, ?_,h.glob⟩
  ·intro f A B1 B2 d x u;rw [jq] at d x;by_cases a:f=b<;>by_cases j:A=b
   ·rw [a,j]
   ·rw [if_neg j] at x;simp only [iw,a,if_true,if_neg j] at u;exact absurd u.symm (t A B2 x j)
   ·rw [if_neg a] at d;simp only [iw,j,if_true,if_neg a] at u;exact absurd u (t f B1 d a)
   ·rw [if_neg a] at d;rw [if_neg j] at x;simp only [iw,if_neg a,if_neg j] at u;exact h.inj f A B1 B2 d x u
  ·intro f B1 d;rw [jq] at d;by_cases a:f=b
   ·rw [if_pos a] at d;cases d;simp only [iw,if_pos a];exact hblk.mono (jF.refl S) s rfl
   ·rw [if_neg a] at d;simp only [iw,if_neg a];exact (h.blk f B1 d).mono (jF.refl S) s (l _ (h.lt d) (t f B1 d a))
  ·intro k0 o v q;by_cases e:k0=k
   ·subst e;exact (hseal o v q).1
   ·rw [Gr (l k0 (h.seal_lt q) e)];exact h.sealed k0 o v q
  ·intro f B1 d o v q;rw [jq] at d;by_cases a:f=b
   ·rw [if_pos a] at d;cases d;simp only [iw,if_pos a] at q;exact (hseal o v q).2
   ·rw [if_neg a] at d;simp only [iw,if_neg a] at q;exact h.own f B1 d o v q
 ·refine ⟨s,jF.refl S,hw.os,hw.tape,hw.output,hw.size, ?_, ?_,fun _ _ _ q=> .inl q⟩
  ·intro k0 r D;refine l k0 r (fun e=> ?_);subst e;rcases i with i|⟨B0,n,i⟩
   ·omega
   ·exact D b B0 n i.symm
  ·intro f B1 d;rw [jq] at d;by_cases a:f=b
   ·subst a;rcases i with i|⟨B0,n,i⟩
    ·exact .inl (by simpa [iw] using i)
    ·exact .inr ⟨B0,n,by simp [iw,i]⟩
   ·rw [if_neg a] at d;exact .inr ⟨B1,d,by simp [iw,a]⟩
end
mutual
theorem D7 {g:bV} {m:aQ} {S:aO}:∀ (x:AV) {v:Value},VR g m S x v→cR x= []→PR S x v
 | .int _ _,_,p,_=>by simpa only [VR] using p
 | .bool _,_,p,_=>by simpa only [VR] using p
 | .str _,_,p,_=>by simpa only [VR] using p
 | .nilS,_,p,_=>by simpa only [VR] using p
 | .nilP,_,p,_=>by simpa only [VR] using p
 | .nilF,_,p,_=>by simpa only [VR] using p
 | .nilI,_,p,_=>by simpa only [VR] using p
 | .sl _ _ _,_,p,_=>by simpa only [VR] using p
 | .pp _ _,_,p,_=>by simpa only [VR] using p
 | .mp _ _,_,p,_=>by simpa only [VR] using p
 | .dead,_,_,_=>by simp only [PR]
 | .own _ _ _,_,p,_=>by simp only [VR] at p
 | .ref _ _ _ _,_,_,h=>by simp [cR] at h
 | .ptr _ _ _,_,_,h=>by simp [cR] at h
 | .mr _ _,_,_,h=>by simp [cR] at h
 | .agg l,_,p,h=>by
  simp only [VR] at p;simp only [PR];simp only [cR] at h;obtain ⟨vs,e,q⟩:=p;exact ⟨vs,e,dR l q h⟩
 | .tup l,_,p,h=>by
  simp only [VR] at p;simp only [PR];simp only [cR] at h;obtain ⟨vs,e,q⟩:=p;exact ⟨vs,e,dR l q h⟩
 | .fn f a c,_,p,h=>by
  simp only [VR] at p;simp only [PR];simp only [cR,Xze] at h;obtain ⟨d,b,e,q,r⟩:=p;exact ⟨d,b,e,dR a q h.1,dR c r h.2⟩
 | .ifc t x,_,p,h=>by
  simp only [VR] at p;simp only [PR];simp only [cR] at h;obtain ⟨u,e,q⟩:=p;exact ⟨u,e,D7 x q h⟩
theorem dR {g:bV} {m:aQ} {S:aO}:∀ (l:List AV) {vs:List Value},aW g m S l vs→bE l= []→bZ S l vs
 | [],[],_,_=>by simp only [bZ]
 |x::r,v::vs,p,h=>by simp only [aW] at p;simp only [bE,Xze] at h;simp only [bZ];exact ⟨D7 x p.1 h.1,dR r p.2 h.2⟩
 | [],_::_,p,_=>by simp [aW] at p
 |_::_,[],p,_=>by simp [aW] at p
end
section
variable {P:Program} {ap:AP} {g:bV} {m:aQ} {S:aO} {w:World}
theorem mF {α:Type} {l:List α} (h:l.isEmpty=true):l= []:=by cases l<;>simp at h ⊢
theorem bF.fresh (h:bF ap g m S w) {nid:Nat} (j:g nid=none) (B:aR) (i:B.esz ≠ fw) (c:Nat) {w':World} {cur:Array Value} {e:TypeId} (b:w.grownBy w' none) (a:w'.heap[w.heap.size]? =some (.cells cur e (0,0)))
  (hver:B.fro=false→B.fz=0) (hfz:B.fz≤B.cells.length) {vs rest:List Value} (hc:cur.toList=vs++rest) (hp:B.pr=true→bZ S B.cells vs) (d:aW g m S B.cells vs) (h1:∀ u ∈ vs,u.oneCell'=true) (hcap:0<B.esz→cur.size=c*B.esz∧c≤maxLen):
  bF ap (cD g [(nid,B)]) (iw m nid (w.heap.size,c)) S w'∧Fr g m S w (cD g [(nid,B)]) (iw m nid (w.heap.size,c)) S w':=by
 refine h.put nid B w.heap.size c (.inl (φ _)) ⟨b.os,b.tape,b.output,b.size,fun k f _=>b.block k f (by simp)⟩ ⟨⟨cur,e,vs,rest,gA.of i a,hc,hp,d,fun _=>h1,fun h0 _=>hcap h0⟩,hver,hfz⟩ (fun B0 h0=>by rw [j] at h0;cases h0) ?_;intro o v d;have:=h.seal_lt d;omega
theorem Bn (h:bF ap g m S w) {nid:Nat} (f:g nid=none) {cells:List AV} {cv:Value} (b:aW g m S cells cv.cells.toList) (_hl:∀ x ∈ cells,kw x=true) (c:∀ u ∈ cv.cells,u.oneCell'=true) (t:TypeId):
  ∃ m' w',(newVar t cv).run P w= .ok ⟨w.heap.size,0,none⟩ w'∧bF ap (cD g [fT nid cells 0]) m' S w'∧Fr g m S w (cD g [fT nid cells 0]) m' S w'∧(m' nid).1=w.heap.size:=by
 have a:=h.fresh (nid:=nid) f (fT nid cells 0).2 (by show 0 ≠ fw;decide) 0 (w':=w.alloc (.cells cv.cells t)) (cur:=cv.cells) (e:=t) (World.grownBy_alloc w _ none) (heap_alloc_new w _) (fun _=>rfl) (Xxf _) (vs:=cv.cells.toList) (rest:= []) (by simp)
  (fun hp=>dR _ b (mF hp)) b (fun u d=>c u (by simpa using d)) (fun h=>by simp [fT] at h)
 refine ⟨_,_, ?_,a.1,a.2,by simp [iw]⟩;simp [newVar,newRow]
theorem I6 {b:aQ} {nid:Nat} {cells:List AV} {a k:Nat} (c:(b nid).1=k):VR (cD g [fT nid cells a]) b S (.ptr nid 0 0) (.pointer (some ⟨k,0,none⟩)):=by
 simp only [VR];refine ⟨(fT nid cells a).2, ?_,Xxf _,⟨_,_,rfl⟩,fun _=>by rw [c]⟩;show cD g [(nid,(fT nid cells a).2)] nid=_;rw [jq,if_pos rfl]
theorem DJ (h:bF ap g m S w) {rd:bV} (J:∀ b B,rd b=some B→g b=some B) {t:Nat} {T:TI} {i:TypeInfo} {d:TypeDesc} {z:Value} (N:wR P t T i d z) {p x v:AV} {M c:Value} (hp:VR g m S p M) (hx:VR g m S x c)
  {ups:List (Nat × aR)} {bs:List Bool} (hs:HF T rd p x=some (v,ups,bs)) (hbs:∀ b ∈ bs,b=true):
  v= .dead∧∃ m' w',(Instr.storeAt t M c).run P w= .ok () w'∧bF ap (cD g ups) m' S w'∧Fr g m S w (cD g ups) m' S w':=by
 unfold HF at hs;split at hs
 ·rename_i b ver a;have W:=bind_some hs;clear hs;obtain ⟨B,X,hs⟩:=W;simp only at hs;split at hs
  ·rename_i Q;simp only [π,Xqq] at Q;obtain ⟨⟨⟨⟨V,c2⟩,c3⟩,c4⟩,K⟩:=Q;have l:B.esz ≠ fw:=fun e=>by rw [e] at K;exact absurd K (by decide)
   cases hs;have f:=J b B X;have F:=aK V;have R:=aK c3;have O:=dZ (hbs _ (List.mem_singleton.2 rfl));simp only [VR] at hp;obtain ⟨B',E,_,_,q⟩:=hp;rw [f] at E;cases E;have q:=q F;subst q;obtain ⟨r,I⟩:=xH hx (fun y Y=>List.all_eq_true.1 c4 y Y);obtain ⟨⟨cur,e,vs,rest,k1,k2,k3,k4,k5,k6⟩,k7,k8⟩:=h.blk b B f;have k1:=k1.cells l;have k5:=k5 l;have s:=bI r;have L:=bI k4;have H:c.cells.size=i.size:=by simp only [Array.length_toList] at s;rw [← N.size];omega
   have G:cur.toList.length=vs.length+rest.length:=by rw [k2];simp
   have C:=run_storeCells_at P (m b).1 a e c.cells.toList 0 cur w k1 (by simp only [Array.length_toList] at s G ⊢;omega) (fun u j=>I u (by simpa using j));simp only [Xq3] at C;have hnewl:(cur.toList.take a++c.cells.toList++cur.toList.drop (a+c.cells.toList.length))=(vs.take a++c.cells.toList++vs.drop (a+c.cells.toList.length))++rest:=by
    rw [k2,Xx4 (by omega),List.drop_append_of_le_length (by omega)];simp [Ψ]
   have n:=h.put b {B with cells:=fE B.cells a x.cells,pr:=B.pr && (bE x.cells).isEmpty} (m b).1 (m b).2 (w':=w.setRow (m b).1 (cur.toList.take a++c.cells.toList++cur.toList.drop (a+c.cells.toList.length)).toArray)
    (.inr ⟨B,f,rfl⟩) ⟨rfl,rfl,rfl,by simp,fun k _ U=>setRow_other w _ k _ (fun e=>U (by rw [e]))⟩
    ⟨⟨_,e,vs.take a++c.cells.toList++vs.drop (a+c.cells.toList.length),rest,gA.of l (setRow_heap w _ cur _ e _ k1),by rw [Xvk,hnewl],fun A=>by
      simp only [π] at A;exact PP (k3 A.1) (dR _ r (mF A.2)),HX k4 r,by
      intro _ u j;rcases List.mem_append.1 j with j|j
      ·rcases List.mem_append.1 j with j|j
       ·exact k5 u (Xjm j)
       ·exact I u (by simpa using j)
      ·exact k5 u (Xzo j),fun D _=>by
      obtain ⟨s1,Z⟩:=k6 D l;refine ⟨?_,Z⟩;rw [← s1,Xx9];simp only [κ,Xq5,Xx8,Array.length_toList] at s G ⊢;omega⟩,k7,by
     have:(fE B.cells a x.cells).length=B.cells.length:=by simp only [fE,κ,Xq5,Xx8];omega
     simp only [this];exact k8⟩
    (fun B0 h0=>by rw [f] at h0;cases h0;exact ⟨rfl,.inl ⟨rfl,rfl⟩⟩)
    (fun o v hv=>by
     have:=(h.own b B f o v hv).1;rw [c2] at this;cases this)
   refine ⟨rfl,_,_, ?_,n.1,n.2⟩;have hn:¬ (c.cells.size ≠ i.size):=by simp [H]
   simp [Instr.storeAt,Instr.sureAddr,storeVar,Go.sizeOf,typeInfo,N.info,H,C]
  ·cases hs
 ·cases hs
end
end AM
namespace AM
open Go
section
variable {P:Program} {ap:AP} {g:bV} {m:aQ} {S:aO} {w:World}
theorem jR (g:bV) (b:Nat) (B:aR):cD g [(b,B)] b=some B:=by rw [jq,if_pos rfl]
theorem yt {w w':World} (h:w.grownBy w' none) (r:Option Nat):w.grownBy w' r:=⟨h.os,h.tape,h.output,h.size,fun k a _=>h.block k a (by simp)⟩
theorem kh (w:World) (o:Obj):w.grownBy (w.drew.alloc o) none:=⟨rfl,rfl,rfl,by simp,fun k a _=>Go.RowKit.Below.heap_alloc w.drew o k a⟩
theorem qU {t tx ty e:TypeId} {i:TypeInfo} (d:P.underlying t=some (.slice e)) (c:P.info? e=some i) {x:Value} {a:List Value} (hs:Src P i.size tx x 0 a w):
  (Builtin.append_ #[t,tx] ty #[.slice none 0 0,x]).run P w= .ok (.slice none 0 0) w:=by
 rcases hs.kind with ⟨e',b⟩|b<;>simp [Builtin.append_,run_underlying d,run_underlying b,Go.sizeOf,typeInfo,c,hs.len,hs.cells]
theorem qV {t tx ty e:TypeId} {i:TypeInfo} (h:P.underlying t=some (.slice e)) (d:P.info? e=some i) {k o sLen sCap n:Nat} {x:Value} {a:List Value} (hs:Src P i.size tx x n a w) (hroom:sLen+n≤sCap)
  {cur:Array Value} {e':TypeId} (hk:w.heap[k]? =some (.cells cur e' (0,0))) (hfit:o+sLen*i.size+a.length≤cur.size):
  (Builtin.append_ #[t,tx] ty #[.slice (some ⟨k,o,none⟩) sLen sCap,x]).run P w= .ok (.slice (some ⟨k,o,none⟩) (sLen+n) sCap) (w.setRow k (cur.toList.take (o+sLen*i.size)++a++cur.toList.drop (o+sLen*i.size+a.length)).toArray):=by
 have b:=run_storeCells_at P k (o+sLen*i.size) e' a 0 cur w hk (by simpa using hfit) hs.one;simp only [Xq3] at b;rcases hs.kind with ⟨f,c⟩|c<;>simp [Builtin.append_,run_underlying h,run_underlying c,Go.sizeOf,typeInfo,d,hs.len,hroom,hs.cells,Addr.add_mid,b]
theorem vJ {n a bytes:Nat} (h:a<n) (c:n≤Cc) (b:bytes≤128):Builtin.nextslicecap n a*bytes≤281474976710656:=by
 refine growslice_fits h ?_;have:n*bytes≤Cc*128:=Nat.mul_le_mul c b;have e:Cc*128=140737488355328:=by decide
 omega
theorem uo:Cc=1099511627776:=by decide
theorem wK {t tx ty e:TypeId} {i:TypeInfo} (f:P.underlying t=some (.slice e)) (d:P.info? e=some i) {x:Value} {base:Option Addr} {sLen sCap:Nat} (hs:Src P i.size tx x 0 [] w) (c:sLen≤sCap):
  (Builtin.append_ #[t,tx] ty #[.slice base sLen sCap,x]).run P w= .ok (.slice base sLen sCap) w:=by
 cases base with
 |none=>rcases hs.kind with ⟨e',b⟩|b<;>simp [Builtin.append_,run_underlying f,run_underlying b,Go.sizeOf,typeInfo,d,hs.len,hs.cells,c]
 |some a=>rcases hs.kind with ⟨e',b⟩|b<;>simp [Builtin.append_,run_underlying f,run_underlying b,Go.sizeOf,typeInfo,d,hs.len,hs.cells,c,storeCells]
theorem qZ (h:bF ap g m S w) {rd:bV} (M:∀ b B,rd b=some B→g b=some B) {nid:Nat} (hn:g nid=none) {t tx e:Nat} {ti l:TI} {i G:TypeInfo} {z N:Value} {de:TypeDesc} (ht:wR P t ti i (.slice e) z) (y:wR P e l G de N)
  {s x v:AV} {cs cx:Value} (hvs:VR g m S s cs) (hvx:VR g m S x cx)
  (hk:((∃ s,x= .str s)∧P.underlying tx=some .string∧l.size=1)∨((∀ s,x ≠ .str s)∧∃ e,P.underlying tx=some (.slice e)))
  {em:Bool} (O:s= .nilS→∃ n,rU x=some n∧Xqn n 0=em)
  {ups:List (Nat × aR)} {bs:List Bool} (E:sZ nid l rd em s x=some (v,ups,bs)) (r:∀ b ∈ bs,b=true) (ty:Nat):
  ∃ cv m' w',(Builtin.append_ #[t,tx] ty #[cs,cx]).run P w= .ok cv w'∧bF ap (cD g ups) m' S w'∧Fr g m S w (cD g ups) m' S w'∧VR (cD g ups) m' S v cv:=by
 have hcount:∀ L n pr,FF l.size rd x=some (L,n,pr)→rU x=some n:=by
  intro L n pr a;unfold FF at a;split at a
  ·cases a;rfl
  ·cases a;rfl
  ·cases a;rfl
  ·have hq:=bind_some a;clear a;obtain ⟨B,hB,a⟩:=hq;split at a
   ·cases a;rfl
   ·cases a
  ·cases a
 unfold sZ at E;have hq:=bind_some E;clear E;obtain ⟨⟨L,n,pr⟩,a,E⟩:=hq;simp only at E;split at E
 ·cases E
 ·rename_i Z;simp only [π] at Z;have hsz:=dG Z.1;have hby:=dZ Z.2;have d:l.size=G.size:=y.size;have T:l.size ≠ fw:=fun e=>by have:=y.small;omega
  have hby':l.bytes=G.bytes:=y.bytes;have hzs:N.cells.size=G.size:=y.zsize;split at E
  ·
   obtain ⟨n',hc',O⟩:=O rfl;rw [hcount _ _ _ a] at hc';cases hc';simp only [VR,PR] at hvs;subst hvs;split at E
   ·
    obtain ⟨rfl,rfl,rfl⟩:=aL E;have Q:n=0:=aK O;subst Q;have hl:=aK (r _ (List.mem_singleton.2 rfl));obtain ⟨c,hs,hv,hp⟩:=nW (P:=P) h M hvx a hl hk;rw [d] at hs;exact ⟨_,m,w,qU ht.und y.info hs,by rw [dF];exact h,by rw [dF];exact Fr.refl _ _ _ _,by simp [VR,PR]⟩
   ·
    cases E;obtain ⟨b1,r⟩:=bN r;obtain ⟨b2,_⟩:=bN r;have hl:=aK b1;have hroom:=dZ b2;have Q:n ≠ 0:=by intro e;subst e;simp at O
    obtain ⟨c,hs,hv,hp⟩:=nW (P:=P) h M hvx a hl hk;rw [d] at hs;have f:=run_append_grow_src w t tx ty e G N ht.und y.info y.zero none 0 0 [] (run_firstCells_none w.drew _ _ _ _) cx n c hs (by omega) (by rw [uo] at hroom;omega) (vJ (by omega) (by simpa using hroom) (by omega));have W:n≤grownCap w n 0 e:=grownCap_ge _ _ _ _;have Y:grownCap w n 0 e≤maxLen:=grownCap_le_maxLen _ _ _ _ (by rw [uo] at hroom;simp only [maxLen];omega);simp only [Θ] at f;have hf:=h.fresh (nid:=nid) hn ⟨L,0,false,0,l.size,pr⟩ T (grownCap w n 0 e) (cur:=([]++c).toArray++Builtin.zeroCells N.cells (grownCap w n 0 e - n)) (e:=e) (kh w _) (heap_alloc_new w.drew _) (fun _=>rfl) (Xxf _)
     (vs:=c) (rest:=(Builtin.zeroCells N.cells (grownCap w n 0 e - n)).toList) (by simp) hp hv hs.one (fun _=> ⟨by
      simp only [Array.size_append,Xx9,Xqd,size_zeroCells,hs.newsLen,hzs,d];rw [← Xxn];congr 1;omega,Y⟩)
    refine ⟨_,_,_,f,hf.1,hf.2, ?_⟩;simp only [VR];refine ⟨_,jR _ _ _,φ _,⟨_,_,_,rfl⟩,fun _=> ⟨0, ?_, ?_, ?_,hsz,T⟩⟩
    ·simp [iw]
    ·simpa [iw] using W
    ·simp
  ·rename_i b ver mN;have hq:=bind_some E;clear E;obtain ⟨B,hB,E⟩:=hq;split at E
   ·rename_i F;simp only [π,Xqq] at F;have hver:=aK F.1.1;have R:=aK F.1.2;have A:B.esz ≠ fw:=fun e=>by rw [e] at F;exact absurd F.2 (by decide)
    cases E;obtain ⟨b1,r⟩:=bN r;obtain ⟨b2,r⟩:=bN r;obtain ⟨b3,r⟩:=bN r;obtain ⟨b4,_⟩:=bN r;have hl:=aK b1;have hroom:=dZ b2;have hfit:=dZ b3;have D:=M b B hB;simp only [VR] at hvs;obtain ⟨B',hB',_,_,q⟩:=hvs;rw [D] at hB';cases hB';obtain ⟨o,rfl,hcap,ho,H,hnz1⟩:=q hver;simp only [Θ,Nat.sub_zero,Nat.zero_mul] at hcap ho ⊢;obtain ⟨c,hs,hv,hp⟩:=nW (P:=P) h M hvx a hl hk;rw [d] at hs;have hbk:=h.blk b B D;obtain ⟨⟨cur,e',vs,rest,k1,k2,k3,k4,k5,k6⟩,k7,k8⟩:=hbk;have k1:=k1.cells A;have k5:=k5 A;obtain ⟨s1,s2⟩:=k6 H A;have hvl:=bI k4;have hcl:cur.toList.length=vs.length+rest.length:=by rw [k2];simp
    simp only [Array.length_toList] at hcl;have hfz:B.fz≤mN*l.size:=by
     cases hf:B.fro with
     |false=>rw [k7 hf];exact Xxf _
     |true=>simp [hf] at b4;exact dZ (by simpa using b4)
    have holds:bZ S (B.cells.take (mN*l.size)) (vs.take (mN*l.size))∨B.pr=false:=by
     cases hp:B.pr with
     |false=>exact .inr rfl
     |true=>exact .inl (iz _ (k3 hp))
    have K:(vs.take (mN*l.size)).length=mN*G.size:=by rw [Xq5,d] at*;omega
    have U:aW g m S (B.cells.take (mN*l.size)++L) (vs.take (mN*l.size)++c):=eS (mi _ k4) hv;have X:(B.pr && pr)=true→bZ S (B.cells.take (mN*l.size)++L) (vs.take (mN*l.size)++c):=by
     intro hh;simp only [π] at hh;exact jT (iz _ (k3 hh.1)) (hp hh.2)
    have h1:∀ u ∈ vs.take (mN*l.size)++c,u.oneCell'=true:=by
     intro u C;rcases List.mem_append.1 C with C|C
     ·exact k5 u (Xjm C)
     ·exact hs.one u C
    have I:B.fz≤(B.cells.take (mN*l.size)++L).length:=by
     rw [κ,Xq5];omega
    by_cases hrm:mN+n≤(m b).2
    ·
     by_cases hc0:(m b).2=0
     ·have hm0:mN=0:=by omega
      have Q:n=0:=by omega
      subst hm0;subst Q;have hnews:c= []:=by have:=hs.newsLen;simpa using this
      subst hnews;have f:=wK (P:=P) (w:=w) (ty:=ty) (base:=some ⟨(m b).1,o,none⟩) (sLen:=0) (sCap:=(m b).2) ht.und y.info hs (by omega);have p:=h.put b {B with cells:=B.cells.take (0*l.size)++L,ver:=ver+1,pr:=B.pr && pr} (m b).1 (m b).2 (w':=w) (.inr ⟨B,D,rfl⟩) ⟨rfl,rfl,rfl,φ _,fun _ _ _=>rfl⟩
       ⟨⟨cur,e',_,vs.drop (0*l.size)++rest,gA.of A k1,by rw [k2];simp,X,U,fun _=>h1,k6⟩,k7,I⟩ (fun B0 h0=>by rw [D] at h0;cases h0;exact ⟨rfl,.inr (by simp only;omega)⟩)
       (fun o' u C=> ⟨h.sealed _ _ _ C,(h.own b B D o' u C)⟩)
      refine ⟨_,_,_,f,p.1,p.2, ?_⟩;simp only [VR];refine ⟨_,jR _ _ _,φ _,⟨_,_,_,rfl⟩,fun _=> ⟨o,by simp [iw],by simp,by simp [iw,hc0],H,A⟩⟩
     ·have V:o=0:=ho (by omega);subst V;have hnl:=hs.newsLen;have hbig:mN*G.size+n*G.size≤(m b).2*G.size:=by rw [← Xxn];exact Nat.mul_le_mul_right _ hrm
      have hcs:cur.size=(m b).2*G.size:=by rw [s1,R,d]
      have f:=qV (P:=P) (w:=w) (ty:=ty) (o:=0) ht.und y.info hs hrm k1 (by simp only [Θ];omega);simp only [Θ] at f;have hlist:cur.toList.take (mN*G.size)=vs.take (mN*l.size):=by rw [k2,d,Xx4 (by rw [d] at hfit;omega)]
      have p:=h.put b {B with cells:=B.cells.take (mN*l.size)++L,ver:=ver+1,pr:=B.pr && pr} (m b).1 (m b).2 (w':=w.setRow (m b).1 (cur.toList.take (mN*G.size)++c++cur.toList.drop (mN*G.size+c.length)).toArray)
       (.inr ⟨B,D,rfl⟩) ⟨rfl,rfl,rfl,by simp,fun k _ hk=>setRow_other w _ k _ (fun e=>hk (by rw [e]))⟩
       ⟨⟨_,e',_,cur.toList.drop (mN*G.size+c.length),gA.of A (setRow_heap w _ cur _ e' _ k1),by rw [hlist],X,U,fun _=>h1,fun _ _=> ⟨by
        rw [← s1,Xx9];simp only [κ,Xq5,Xx8,Array.length_toList];omega,s2⟩⟩,k7,I⟩ (fun B0 h0=>by rw [D] at h0;cases h0;exact ⟨rfl,.inr (by simp only;omega)⟩)
       (fun o' u C=>by
        obtain ⟨f1,f2⟩:=h.own b B D o' u C;refine ⟨?_,f1,f2⟩;have:=h.sealed _ _ _ C;cases J:u.oneCell' with
        |false=>
         obtain ⟨_,_,hm,_⟩:=ql this J;rw [k1] at hm;cases hm
        |true=>
        have this:=qm this J;rw [oP k1] at this;refine (gA.of A (setRow_heap w _ cur _ e' _ k1)).get ?_ (fun _=>J);simp only [Ψ];rw [Xxb (by simp only [Xq5,Array.length_toList];rw [d] at hfz;omega),List.getElem?_take_of_lt (by rw [d] at hfz;omega)];exact this)
      refine ⟨_,_,_,f,p.1,p.2, ?_⟩;simp only [VR];refine ⟨_,jR _ _ _,φ _,⟨_,_,_,rfl⟩,fun _=> ⟨0,by simp [iw],by simpa [iw] using hrm,by simp,H,A⟩⟩
    ·
     have hold:(Builtin.firstCells G.size mN (.slice (some ⟨(m b).1,o,none⟩) mN (m b).2)).run P w.drew= .ok (vs.take (mN*l.size)).toArray w.drew:=by
      refine run_firstCells_some w.drew G.size mN ⟨(m b).1,o,none⟩ mN _ _ K ?_;intro j u C;have hjl:=(List.getElem?_eq_some_iff.1 C).1;rw [K] at hjl;have hm0:0<mN:=by
       rcases Nat.eq_zero_or_pos mN with h0|h0
       ·subst h0;simp at hjl
       ·exact h0
      have V:o=0:=ho (by omega);subst V;rw [Addr.add_mid,Θ,oP (w:=w.drew) (j:=j) k1,k2];rw [Xju] at C;split at C
      ·rw [Xxb (List.getElem?_eq_some_iff.1 C).1];exact C
      ·cases C
     have f:=run_append_grow_src w t tx ty e G N ht.und y.info y.zero (some ⟨(m b).1,o,none⟩) mN (m b).2 _ hold cx n c hs (by omega) (by rw [uo] at hroom;omega) (vJ (by omega) hroom (by omega));have W:mN+n≤grownCap w (mN+n) (m b).2 e:=grownCap_ge _ _ _ _;have Y:grownCap w (mN+n) (m b).2 e≤maxLen:=grownCap_le_maxLen _ _ _ _ (by rw [uo] at hroom;simp only [maxLen];omega);have p:=h.put b {B with cells:=B.cells.take (mN*l.size)++L,ver:=ver+1,pr:=B.pr && pr} w.heap.size (grownCap w (mN+n) (m b).2 e) (.inl (φ _))
      (yt (kh w (.cells ((vs.take (mN*l.size)++c).toArray++Builtin.zeroCells N.cells (grownCap w (mN+n) (m b).2 e - (mN+n))) e)) _)
      ⟨⟨(vs.take (mN*l.size)++c).toArray++Builtin.zeroCells N.cells (grownCap w (mN+n) (m b).2 e - (mN+n)),e,_,(Builtin.zeroCells N.cells (grownCap w (mN+n) (m b).2 e - (mN+n))).toList,gA.of A (heap_alloc_new w.drew _),by simp,X,U,fun _=>h1,fun _ _=> ⟨by
       simp only [Array.size_append,Xx9,κ,size_zeroCells,hs.newsLen,hzs];rw [K,R,d,← Xxn,← Xxn];congr 1;omega,Y⟩⟩,k7,I⟩ (fun B0 h0=>by rw [D] at h0;cases h0;exact ⟨rfl,.inr (by simp only;omega)⟩)
      (fun o' u C=>absurd (h.seal_lt C) (Xv2 _))
     refine ⟨_,_,_,f,p.1,p.2, ?_⟩;simp only [VR];refine ⟨_,jR _ _ _,φ _,⟨_,_,_,rfl⟩,fun _=> ⟨0,by simp [iw],by simpa [iw] using W,by simp,H,A⟩⟩
   ·cases E
  ·cases E
end
end AM
namespace AM
open Go
theorem wo (n:Nat) (z:List AV):(dX n z).length=n*z.length:=by simp [dX]
theorem KU (n:Nat) (z:List AV):dX (n+1) z=z++dX n z:=by simp [dX,Xxd]
theorem Fu:∀ (n:Nat) (z:List AV) (i:Nat),i<n*z.length→(dX n z)[i]? =z[i % z.length]?
 |0,z,i,h=>by simp at h
 | n+1,z,i,h=>by
  rw [KU];by_cases a:i<z.length
  ·rw [Xxb a,Nat.mod_eq_of_lt a]
  ·have a:z.length≤i:=by omega
   rw [List.getElem?_append_right a,Fu n z (i - z.length) (by rw [Xxn,Nat.one_mul] at h;omega)];congr 1;rw [← Nat.mod_eq_sub_mod a]
section
variable {P:Program} {ap:AP} {g:bV} {m:aQ} {S:aO} {w:World}
theorem xG:∀ {l:List AV} {vs:List Value},l.length=vs.length→(∀ (i:Nat) x v,l[i]? =some x→vs[i]? =some v→VR g m S x v)→aW g m S l vs
 | [],[],_,_=>by simp [aW]
 |x::r,v::vs,hl,h=>by
  simp only [aW];exact ⟨h 0 x v rfl rfl,xG (by simpa using hl) fun i x v a b=>h (i+1) x v (by simpa using a) (by simpa using b)⟩
 | [],_::_,h,_=>by simp at h
 |_::_,[],h,_=>by simp at h
theorem uZ (z:Array Value) (n:Nat):(madeCells z n).toList=(List.range n).map fun i=>z[i % z.size]! :=by simp [madeCells]
theorem ry {t:Nat} {f:TI} {i:TypeInfo} {d:TypeDesc} {z:Value} (c:wR P t f i d z) (n:Nat):aW g m S (dX n f.zero) (madeCells z.cells (n*i.size)).toList:=by
 have l:=mo (g:=g) (m:=m) (S:=S) c;have a:=bI l;simp only [Array.length_toList,c.zsize] at a;refine xG (by rw [wo,a,Array.length_toList,size_madeCells]) ?_;intro j x v h e;have k:j<n*i.size:=by
  have:=(List.getElem?_eq_some_iff.1 h).1;rw [wo,a] at this;exact this
 rw [Fu n f.zero j (by rw [a];exact k),a] at h;rw [uZ,c.zsize,Xqy,List.getElem?_range k] at e;simp only [Xx1,Option.some.injEq] at e;obtain ⟨q,b,p⟩:=m_ l _ h;have o:j % i.size<z.cells.size:=by rw [c.zsize];exact Nat.mod_lt _ c.pos
 simp only [Array.getElem?_toList] at b;rw [getElem!_pos z.cells _ o] at e;rw [Array.getElem?_eq_getElem o] at b;cases b;rw [← e];exact p
theorem B_ {n:Nat} {z:List AV} (h:∀ x ∈ z,kw x=true):∀ x ∈ dX n z,kw x=true:=by
 intro x a;simp only [dX,List.mem_flatten,List.mem_replicate] at a;obtain ⟨l,⟨_,rfl⟩,a⟩:=a;exact h x a
theorem wS:∀ {l:List AV} {vs:List Value},aW g m S l vs→(∀ x ∈ l,kw x=true)→∀ u ∈ vs,u.oneCell'=true
 | [],[],_,_=>by simp
 |x::r,v::vs,h,hl=>by
  simp only [aW] at h;intro u a;rcases List.mem_cons.1 a with rfl|a
  ·exact Gg h.1 (hl x (by simp))
  ·exact wS h.2 (fun y b=>hl y (by simp [b])) u a
 | [],_::_,h,_=>by simp [aW] at h
 |_::_,[],h,_=>by simp [aW] at h
theorem Dg {b vs:List AV} {a:Nat} {x:AV} (h:x ∈ fE b a vs):x ∈ b∨x ∈ vs:=by
 simp only [fE,List.mem_append] at h;rcases h with (h|h)|h
 ·exact .inl (Xjm h)
 ·exact .inr h
 ·exact .inl (Xzo h)
theorem yh:∀ {ps:List (Nat × Nat × AV)} {cells cells':List AV},rp cells ps=some cells'→(∀ x ∈ cells,kw x=true)→∀ x ∈ cells',kw x=true
 | [],cells,cells',h,hl=>by simp [rp] at h;subst h;exact hl
 | (off,size,v)::r,cells,cells',h,hl=>by
  simp only [rp] at h;split at h
  ·rename_i b;simp only [π] at b;refine yh h fun x a=> ?_
   rcases Dg a with a|a
   ·exact hl x a
   ·exact List.all_eq_true.1 b.2 x a
  ·cases h
theorem Jd {nid:Nat} {cells:List AV} {a k c n:Nat} (d:n≤c) (hp:0<a) (b:a ≠ fw):VR (cD g [fT nid cells a]) (iw m nid (k,c)) S (.ref nid 0 0 n) (.slice (some ⟨k,0,none⟩) n c):=by
 simp only [VR];refine ⟨_,jR _ _ _,Xxf _,⟨_,_,_,rfl⟩,fun _=> ⟨0,by simp [iw],by simpa [iw] using d,by simp,hp,b⟩⟩
theorem nP:∀ (a b:List AV),bE (a++b)=bE a++bE b
 | [],b=>by simp [bE]
 |x::r,b=>by simp [bE,nP r b]
theorem B6 (z:List AV) (h:bE z= []):∀ n,bE (dX n z)= []
 |0=>by simp [dX,bE]
 |n+1=>by
  have a:=B6 z h n;simp only [dX,Xxd,List.flatten_cons,nP,h,Xqd] at a ⊢;exact a
theorem Hc (nid n a:Nat) (z:List AV) (h:(bE z).isEmpty=true):(nid,(⟨dX n z,0,false,0,a,true⟩:aR))=fT nid (dX n z) a:=by
 have b:bE z= []:=by simpa using h
 simp [fT,B6 z b n]
theorem u_ (G:fe P ap) (h:bF ap g m S w) {nid:Nat} (R:g nid=none) {t:Nat} {N:TI} {i:TypeInfo} {d:TypeDesc} {z:Value} (K:wR P t N i d z) {l c:AV} {cl O:Value} (I:VR g m S l cl) (M:VR g m S c O)
  {v:AV} {ups:List (Nat × aR)} {bs:List Bool} (k:sn ap nid N l c=some (v,ups,bs)) (j:∀ b ∈ bs,b=true):
  ∃ cv m' w',(Instr.makeSlice t cl O).run P w= .ok cv w'∧bF ap (cD g ups) m' S w'∧Fr g m S w (cD g ups) m' S w'∧VR (cD g ups) m' S v cv:=by
 unfold sn at k;split at k
 ·rename_i e T l U c hd;have Q:=bind_some k;clear k;obtain ⟨p,a,k⟩:=Q;obtain ⟨n,W,y,a⟩:=cO G a;split at k
  ·rename_i f;simp only [π] at f;have A:=f.2;have f:=f.1;have o:=dG f.1.1;have C:=dZ f.2;rw [Hc _ _ _ _ A] at k;cases k;obtain ⟨s,j⟩:=bN j;obtain ⟨D,j⟩:=bN j;obtain ⟨L,_⟩:=bN j;have s:0≤l:=of_decide_eq_true s;have D:l=c:=of_decide_eq_true D;have L:l≤2^40:=of_decide_eq_true L;subst D;simp only [VR,PR] at I M;subst I;subst M;rw [K.d_eq] at hd;have hd:=eO hd;subst hd;have q:(n.bytes:Int)*l≤281474976710656:=by
    have B:(n.bytes:Int)≤128:=by rw [← a.bytes];exact_mod_cast C
    have J:(n.bytes:Int)*l≤128*l:=Int.mul_le_mul_of_nonneg_right B s;have V:(2:Int)^40=1099511627776:=by decide
    omega
   have E:l≤9223372036854775807:=by
    have V:(2:Int)^40=1099511627776:=by decide
    omega
   have r:=run_make (P:=P) w t e n y K.und a.info a.zero T U l l s (Int.le_refl _) q E;have F:aW g m S (dX l.toNat p.zero) (madeCells y.cells (l.toNat*n.size)).toList:=ry a _;have u:∀ x ∈ dX l.toNat p.zero,kw x=true:=B_ a.zleaf;have H:=h.fresh (nid:=nid) R (fT nid (dX l.toNat p.zero) p.size).2 (by have B:=a.small;have J:=a.size;show p.size ≠ fw;omega) l.toNat (w':=w.alloc (.cells (madeCells y.cells (l.toNat*n.size)) e)) (World.grownBy_alloc w _ none) (heap_alloc_new w _) (fun _=>rfl) (Xxf _)
    (rest:= []) (by rw [Xqa]) (fun hp=>dR _ F (mF hp)) F (wS F u) (fun _=> ⟨by rw [size_madeCells];simp [fT,a.size],by simp only [maxLen];omega⟩)
   refine ⟨_,_,_,r,H.1,H.2, ?_⟩;exact Jd (φ _) o (by have B:=a.small;have J:=a.size;omega)
  ·cases k
 ·cases k
theorem zQ {t e:TypeId} {i:TypeInfo} {z:Value} (j:P.underlying t=some (.slice e)) (h:P.info? e=some i) (d:i.zero=some z) {a:Nat} (c:a*i.size≤2^24) (h0:a*i.size ≠ 0) {parts:Array (Nat × Value)} {cells:Array Value}
  (hf:Instr.fill (fun f=>some (f*i.size,i.size)) (madeCells z.cells (a*i.size)) parts.toList=some cells):
  (Instr.buildSlice t a parts).run P w= .ok (.slice (some ⟨w.heap.size,0,none⟩) a a) (w.alloc (.cells cells e)):=by
 have b:¬ (a*i.size>2^24):=by omega
 unfold madeCells at hf;simp only [Instr.buildSlice,Sem.run_bind,run_underlying j,Result.andThen_ok];simp [Go.sizeOf,typeInfo,h,zeroValue,d,h0,newRow];rw [if_neg (by simpa using b)];simp [hf]
theorem wL {t e:TypeId} {i:TypeInfo} (d:P.underlying t=some (.slice e)) (c:P.info? e=some i) {a:Nat} (h0:a*i.size=0) {parts:Array (Nat × Value)} {cells:Array Value}
  (hf:Instr.fill (fun b=>some (b*i.size,i.size)) #[] parts.toList=some cells):
  (Instr.buildSlice t a parts).run P w= .ok (.slice (some ⟨w.heap.size,0,none⟩) a a) (w.alloc (.cells cells e)):=by
 simp [Instr.buildSlice,run_underlying d,Go.sizeOf,typeInfo,c,h0,newRow,Array.range_zero',hf]
theorem tw (D:fe P ap) (h:bF ap g m S w) {nid:Nat} (L:g nid=none) {t:Nat} {H:TI} {i:TypeInfo} {d:TypeDesc} {z:Value} (A:wR P t H i d z) {b:Nat} {ps:List (Nat × AV)} {qs:Array (Nat × Value)} (I:sS g m S ps qs.toList)
  {v:AV} {ups:List (Nat × aR)} {bs:List Bool} (c:oM ap nid H b ps=some (v,ups,bs)):
  ∃ cv m' w',(Instr.buildSlice t b qs).run P w= .ok cv w'∧bF ap (cD g ups) m' S w'∧Fr g m S w (cD g ups) m' S w'∧VR (cD g ups) m' S v cv:=by
 unfold oM at c;split at c
 ·rename_i e hd;have j:=bind_some c;clear c;obtain ⟨o,a,c⟩:=j;obtain ⟨B,O,K,a⟩:=cO D a;split at c
  ·rename_i k;simp only [π] at k;have f:=dG k.1.1;have y:=dZ k.1.2;have j:=bind_some c;clear c;obtain ⟨s,n,c⟩:=j;cases c;rw [A.d_eq] at hd;have hd:=eO hd;subst hd;have E:aW g m S (dX b o.zero) (madeCells K.cells (b*B.size)).toList:=ry a _;obtain ⟨l,q,r,M⟩:=li _ qs.toList _ s _ (nL (size:=o.size) I) E n;rw [a.size] at q;have p:(Instr.buildSlice t b qs).run P w= .ok (.slice (some ⟨w.heap.size,0,none⟩) b b) (w.alloc (.cells l e)):=by
    by_cases h0:b*B.size=0
    ·exact wL A.und a.info h0 (by rw [h0] at q;simpa [madeCells,Array.range_zero'] using q)
    ·exact zQ A.und a.info a.zero (by rw [← a.size];exact y) h0 q
   have u:∀ x ∈ s,kw x=true:=yh n (B_ a.zleaf);have C:l.size=b*B.size:=by rw [M,size_madeCells]
   have F:=h.fresh (nid:=nid) L (fT nid s o.size).2 (by have G:=a.small;have J:=a.size;show o.size ≠ fw;omega) b (w':=w.alloc (.cells l e)) (World.grownBy_alloc w _ none) (heap_alloc_new w _) (fun _=>rfl) (Xxf _)
    (rest:= []) (by rw [Xqa]) (fun hp=>dR _ r (mF hp)) r (wS r u) (fun _=> ⟨by rw [C];simp [fT,a.size],by
     have G:b≤b*o.size:=Nat.le_mul_of_pos_right _ f;have N:(2:Nat)^24=16777216:=by decide
     simp only [maxLen];omega⟩)
   refine ⟨_,_,_,p,F.1,F.2, ?_⟩;exact Jd (φ _) f (by have G:=a.small;have J:=a.size;omega)
  ·cases c
 ·cases c
theorem Pg {d:TypeDesc} {k e:Nat} (h:gX P (some d)= .map k e):d= .map k e:=by cases d<;>simp [gX] at h;obtain ⟨rfl,rfl⟩:=h;rfl
theorem Kt {k:LK} {x y:AV} {u v:Value} (a:BM k x=true) (b:BM k y=true) (c:VR g m S x u) (d:VR g m S y v):
  ou k u v=some (yf x y)∧(yf x y=true→u=v)∧(∀ n,Instr.sameBits n u u=true)∧cR x= []:=by
 cases k<;>cases x<;>simp [BM] at a<;>cases y<;>simp [BM] at b<;>simp only [VR,PR] at c d<;>subst c<;>subst d
 ·refine ⟨by simp [ou,yf,a,b],fun h=> ?_,fun n=>by simp [Instr.sameBits],rfl⟩;simp only [yf,beq_iff_eq] at h;rw [← dV a,← dV b,h]
 ·refine ⟨by simp [ou,yf],fun h=> ?_,fun n=>by simp [Instr.sameBits],rfl⟩;simp only [yf,beq_iff_eq] at h;rw [h]
 ·refine ⟨by simp [ou,yf,sM],fun h=> ?_,fun n=>by cases n<;>simp [Instr.sameBits,MapKept.bytes_beq],rfl⟩;simp only [yf,beq_iff_eq] at h;rw [h]
theorem kv:∀ {lks:List LK} {a b:List AV} {c d:List Value},jy lks a=true→jy lks b=true→aW g m S a c→aW g m S b d→
  cG lks c d=some (CS a b)∧(CS a b=true→c=d)∧(∀ n,∀ x ∈ c,Instr.sameBits n x x=true)∧bE a= []
 | [],[],[],[],[],_,_,_,_=> ⟨rfl,fun _=>rfl,by simp,rfl⟩
 | k::lks,x::a,y::b,u::c,v::d,ha,hb,h1,h2=>by
  simp only [jy,π] at ha hb;simp only [aW] at h1 h2;obtain ⟨l,f,j,r⟩:=Kt ha.1 hb.1 h1.1 h2.1;obtain ⟨q,o,p,i⟩:=kv ha.2 hb.2 h1.2 h2.2;refine ⟨by simp [cG,l,q,CS],fun h=> ?_,fun n z e=> ?_,by simp [bE,r,i]⟩
  ·simp only [CS,π] at h;rw [f h.1,o h.2]
  ·rcases List.mem_cons.1 e with rfl|e
   ·exact j n
   ·exact p n z e
 | [],_::_,_,_,_,ha,_,_,_=>by simp [jy] at ha
 |_::_,[],_,_,_,ha,_,_,_=>by simp [jy] at ha
 | [],[],_::_,_,_,_,hb,_,_=>by simp [jy] at hb
 |_::_,_::_,[],_,_,_,hb,_,_=>by simp [jy] at hb
 | [],[],[],_::_,_,_,_,h1,_=>by simp [aW] at h1
 | [],[],[],[],_::_,_,_,_,h2=>by simp [aW] at h2
 |_::_,_::_,_::_,[],_,_,_,h1,_=>by simp [aW] at h1
 |_::_,_::_,_::_,_::_,[],_,_,_,h2=>by simp [aW] at h2
def Ub (P:Program) (n:Nat) (t:TypeId) (lks:List LK):Prop:=
 ∀ (em:Bool) (d:Nat) (w:World) (xs:List Value),n≤d→cG lks xs xs=some true→(Instr.checkKey em d t (qc P t xs)).run P w= .ok () w
theorem oV {lks:List LK} {a:List Value} {r:Bool} (h:cG lks a a=some r):cG lks a a=some true:=by
 induction lks generalizing a r with
 |nil=>cases a<;>simp [cG] at h ⊢
 | cons k lks ih=>
  cases a with
  |nil=>simp [cG] at h
  | cons x a=>
   simp only [cG] at h ⊢;obtain ⟨c,e,h⟩:=bind_some h;rw [Xqp] at h;obtain ⟨d,hd,rfl⟩:=h;have b:ou k x x=some true:=by
    cases k<;>cases x<;>simp [ou] at e ⊢
    split at e
    ·rename_i f;simp [f]
    ·cases e
   simp [b,ih hd]
theorem mU {n:Nat} (v:∀ t lks,gB P n t=some lks→Ub P n t lks):∀ (fs:List Field) (off:Nat) (lks:List LK),tF P (gB P n) fs off=some lks→
  ∀ (em:Bool) (d:Nat) (w:World) (xs:List Value),n≤d→xs.length=off+lks.length→cG lks (xs.drop off) (xs.drop off)=some true→
   (forIn (m:=Sem) fs PUnit.unit fun f _=>do
    if f.name ≠ "_" then Instr.checkKey em d f.type (← part f.type xs.toArray f.offset)
    pure (ForInStep.yield PUnit.unit)).run P w= .ok PUnit.unit w
 | [],off,lks,hc,em,d,w,xs,hd,hx,h=>by simp
 | f ::fs,off,lks,hc,em,d,w,xs,hd,hx,h=>by
  simp only [tF] at hc;cases j:gB P n f.type with
  |none=>simp [j] at hc
  | some l=>
   simp only [j] at hc;split at hc
   ·rename_i hcond;simp only [π,Xqq] at hcond;obtain ⟨⟨u,o⟩,c⟩:=hcond;cases p:tF P (gB P n) fs (off+l.length) with
    |none=>simp [p] at hc
    | some l'=>
     simp only [p] at hc;cases hc;cases q:P.info? f.type with
     |none=>simp [q] at c
     |some i=>
      simp only [q] at c;have c:=aK c;have o:=aK o;have s:f.name ≠ "_" :=by intro e;rw [e] at u;exact absurd u (by decide)
      simp only [κ] at hx;obtain ⟨a,b,k,r,y⟩:=nB l l' _ _ true h;have k:=oV k;have r:=oV r;have x:=pX j q c xs off (by omega) w;have z:=v f.type l j em d w _ hd k;have A:=mU v fs (off+l.length) l' p em d w xs hd (by omega) (by simpa [Xjl,Nat.add_comm] using r);simp only [List.forIn_cons,Sem.run_bind,s,ne_eq,not_false_eq_true,if_true,Result.andThen_ok,o,x,z,Sem.run_pure];simpa using A
   ·cases hc
theorem Eg:∀ (n:Nat) (t:TypeId) (lks:List LK),gB P n t=some lks→Ub P n t lks
 |0,_,_,h=>by simp [gB] at h
 | n +1,t,lks,h=>by
  intro e d w b hd c;obtain ⟨d,rfl⟩:∃ k,d=k+1:=⟨d - 1,by omega⟩
  have f:=lM _ _ _ _ c;unfold gB at h;cases a:P.underlying t with
  |none=>simp [a] at h
  | some ds=>
   unfold Instr.checkKey;simp only [Sem.run_bind,run_underlying a,Result.andThen_ok,qc,a];cases ds<;>simp only [a] at h<;>try cases h
   case struct fs=>
    split at h
    ·cases h
    ·have:=mU (Eg n) fs.toList 0 lks h e d w b (by omega) (by simp [f.1]) (by simpa using c);simp only [← Array.forIn_toList];simpa using this
   all_goals (cases b.headD undef<;>simp)
theorem yH (h:fe P ap) {t:Nat} {j:TI} (f:ap.tyAt t=some j) {a b:List AV} {c u:List Value} (d:j.cmp=true) (e:jy j.lks a=true) (p:jy j.lks b=true) (k:aW g m S a c) (x:aW g m S b u) (o:∃ v,P.underlying t=some (.struct v)):
  (∀ s,(Instr.checkKey s 10000 t (.agg c.toArray)).run P w= .ok () w)∧(Op.equal t (.agg c.toArray) (.agg u.toArray)).run P w= .ok (CS a b) w:=by
 obtain ⟨v,o⟩:=o;rw [(uz h f).1] at d;rw [(uz h f).2] at e p;unfold Qn at d;cases i:gB P 8 t with
 |none=>simp [i] at d
 |some l=>
  simp only [i,π,Xqq] at d;have n:=yQ d.1;rw [← n] at e p;have q:=xS 8 t l i 10000 w c u _ (by omega) (kv e p k x).1;have r:=fun s=>Eg 8 t l i s 10000 w c (by omega) (oV (kv e e k k).1)
  simp only [qc,o] at q r;exact ⟨r,q⟩
theorem vR {b:TI} {d:TypeDesc} (hd:b.d=gX P (some d)) (hs:∀ fs,d ≠ .struct fs) {x:AV} {v:Value} (h:iF b x=true) (a:VR g m S x v):MapKept.IsKey d v:=by
 unfold iF at h;rw [hd] at h;cases d<;>simp only [gX] at h<;>cases x<;>simp at h<;>simp only [VR,PR] at a<;>first|(exact absurd rfl (hs _))|(subst a;simp only [MapKept.IsKey])
 exact (dV h).symm
theorem MO {f:TI} {d:TypeDesc} (hd:f.d=gX P (some d)) (hs:∀ fs,d ≠ .struct fs) {x y:AV} {u v:Value} (c:iF f x=true) (e:iF f y=true) (h:VR g m S x u) (i:VR g m S y v):Instr.sameNow d u v=some (q_ x y):=by
 unfold iF at c e;rw [hd] at c e;cases d<;>simp only [gX] at c e<;>cases x<;>simp at c<;>cases y<;>simp at e<;>simp only [VR,PR] at h i<;>first|(exact absurd rfl (hs _))|(subst h;subst i;simp only [Instr.sameNow,q_])
 ·rw [if_pos ((dV c).symm.trans (dV e))]
 ·rename_i a b;congr 1;rw [Bool.eq_iff_iff,MapKept.bytes_beq];simp
theorem yU (h:bF ap g m S w) {rd:bV} (k:∀ b B,rd b=some B→g b=some B) {x:AV} {t:Value} (p:VR g m S x t) {q:List AV × List AV} (a:NE rd x=some q):
  ∃ d:Array MapEntry,((t= .map none∧d=#[])∨∃ b c,t= .map (some b)∧w.heap[b]? =some (.map d c))∧aW g m S q.1 (d.toList.map (·.key))∧aW g m S q.2 (d.toList.map (·.val)):=by
 unfold NE at a;split at a
 ·rename_i ks vs;cases a;simp only [VR,PR] at p;rcases p with ⟨rfl,rfl,rfl⟩|⟨b,v,y,rfl,h0,D,r,s⟩
  ·exact ⟨#[],.inl ⟨rfl,rfl⟩,by simp [aW],by simp [aW]⟩
  ·obtain ⟨d,c,o,f⟩:=ql (h.sealed _ _ _ h0) rfl;obtain ⟨C,clk',l,i⟩:=ql (h.sealed _ _ _ D) rfl;rw [o] at l;cases l;have f:Value.agg (d.map (·.key))= .agg v.toArray:=Option.some.inj f;have i:Value.agg (d.map (·.val))= .agg y.toArray:=Option.some.inj i;have f:=Value.agg.inj f;have i:=Value.agg.inj i;refine ⟨d,.inr ⟨b,c,rfl,o⟩, ?_, ?_⟩
   ·rw [← Array.toList_map,f];exact bu _ r
   ·rw [← Array.toList_map,i];exact bu _ s
 ·rename_i b ver;have z:=bind_some a;clear a;obtain ⟨B,u,a⟩:=z;split at a
  ·rename_i j;simp only [π] at j;split at a
   ·rename_i ks vs hcells;cases a;simp only [VR] at p;obtain ⟨B',n,_,_,q⟩:=p;rw [k b B u] at n;cases n;have q:=q (aK j.1);obtain ⟨⟨cur,e,A,rest,k1,k2,_,k4,_,_⟩,_,_⟩:=h.blk b B (k b B u);obtain ⟨d,c,o,rfl⟩:=k1.map (aK j.2);rw [hcells] at k4
    match A,k4 with
    | [u0,u1],k4=>
     simp only [aW,VR,and_true] at k4;obtain ⟨⟨v,rfl,r⟩,y,rfl,s⟩:=k4;simp only [su,Xqx,List.cons.injEq] at k2;have f:=Value.agg.inj k2.1;have i:=Value.agg.inj k2.2.1;refine ⟨d,.inr ⟨_,c,q,o⟩, ?_, ?_⟩
     ·rw [← Array.toList_map,f];exact r
     ·rw [← Array.toList_map,i];exact s
    | [],k4=>simp [aW] at k4
    | [_],k4=>simp [aW] at k4
    |_::_::_::_,k4=>simp [aW] at k4
   ·cases a
  ·cases a
 ·cases a
structure PO (P:Program) (g:bV) (m:aQ) (S:aO) (w:World) (t:Nat) (ti:TI) (d:TypeDesc) (k:AV) (ck:Value):Prop where
 chk:∀ em,(Instr.checkKey em 10000 t ck).run P w= .ok () w
 stay:(Instr.keyThatStays ck ck).run P w= .ok ck w
 eqs:∀ {k' ck'},iF ti k'=true→VR g m S k' ck'→((match d with| .struct _=>(Op.equal t ck ck').run P w= .ok (q_ k k') w|_=>Instr.sameNow d ck ck'=some (q_ k k'))∧(q_ k k'=true→ck=ck'))
theorem BN (E:fe P ap) {t:Nat} {v:TI} {i:TypeInfo} {d:TypeDesc} {z:Value} (B:ap.tyAt t=some v) (s:wR P t v i d z) {k:AV} {ck:Value} (q:iF v k=true) (A:VR g m S k ck):PO P g m S w t v d k ck:=by
 by_cases hs:∃ o,d= .struct o
 ·obtain ⟨o,rfl⟩:=hs;have hd:=s.d_eq;have I:∀ {x:AV},iF v x=true→∃ l,x= .agg l∧v.cmp=true∧jy v.lks l=true:=by
   intro x n;unfold iF at n;rw [hd] at n;cases x<;>simp [gX] at n
   exact ⟨_,rfl,n⟩
  obtain ⟨l,rfl,L,y⟩:=I q;have R:=A;simp only [VR] at A;obtain ⟨G,rfl,n⟩:=A;refine ⟨(yH E B L y y n n ⟨o,s.und⟩).1, ?_, ?_⟩
  ·have V:Instr.sameBits 10000 (.agg G.toArray) (.agg G.toArray)=true:=by
    show Instr.sameBits (9999+1) _ _=true;have U:=(kv y y n n).2.2.1 9999;simp only [Instr.sameBits,beq_self_eq_true,Bool.true_and,List.all_eq_true];intro p hp;obtain ⟨a,b⟩:=p;have O:∀ l:List Value,(a,b) ∈ l.zip l→a=b∧a ∈ l:=by
     intro l
     induction l with
     |nil=>intro h;simp at h
     |cons c l ih=>
      intro h;simp only [List.zip_cons_cons,List.mem_cons,Prod.mk.injEq] at h;rcases h with ⟨rfl,rfl⟩|h
      ·exact ⟨rfl,by simp⟩
      ·exact ⟨(ih h).1,List.mem_cons_of_mem _ (ih h).2⟩
    obtain ⟨rfl,T⟩:=O G hp;exact U a T
   simp [Instr.keyThatStays,V]
  ·intro Q H f j;obtain ⟨Y,rfl,_,D⟩:=I f;simp only [VR] at j;obtain ⟨X,rfl,J⟩:=j;refine ⟨(yH E B L y D n J ⟨o,s.und⟩).2,fun F=> ?_⟩;rw [(kv y D n J).2.1 F]
 ·have hs:∀ o,d ≠ .struct o:=fun o e=>hs ⟨o,e⟩
  have u:=vR s.d_eq hs q A;refine ⟨fun W=>MapKept.run_checkKey s.und u W 9999,MapKept.run_keyThatStays u, ?_⟩;intro Q H f j;have K:=MO s.d_eq hs q f A j;have N:=MapKept.sameNow_of_keys u (vR s.d_eq hs f j);refine ⟨?_,fun F=> ?_⟩
  ·cases d<;>first|exact K|exact absurd rfl (hs _)
  ·obtain ⟨r,M,C⟩:=N;rw [K] at M;cases M;exact C.1 F
def gY (P:Program) (w:World) (t:Nat) (d:TypeDesc) (ck:Value) (l:List MapEntry) (i:Nat) (r:Option (Nat × Value)):Prop:=
 match d with
 | .struct _=>(Instr.findAsking t ck l i).run P w= .ok r w
 |_=>Instr.findNow d ck l i=some r
theorem gY.nil {t:Nat} {d:TypeDesc} {ck:Value} {i:Nat}:gY P w t d ck [] i none:=by
 unfold gY;cases d<;>first|rfl|simp [Instr.findAsking]
theorem gY.hit {t:Nat} {c:TI} {d:TypeDesc} {k b:AV} {ck:Value} {e:MapEntry} {l:List MapEntry} {i:Nat} (h:PO P g m S w t c d k ck) (a:iF c b=true) (f:VR g m S b e.key) (j:q_ k b=true):gY P w t d ck (e::l) i (some (i,e.val)):=by
 have q:=(h.eqs a f).1;rw [j] at q;unfold gY;cases d<;>simp only at q ⊢ <;>first|(simp [Instr.findAsking,q];done)|(simp [Instr.findNow,q];done)
theorem gY.miss {t:Nat} {f:TI} {d:TypeDesc} {k c:AV} {ck:Value} {e:MapEntry} {l:List MapEntry} {i:Nat} {r:Option (Nat × Value)} (h:PO P g m S w t f d k ck) (b:iF f c=true) (j:VR g m S c e.key) (n:q_ k c=false) (a:gY P w t d ck l (i+1) r):gY P w t d ck (e::l) i r:=by
 have q:=(h.eqs b j).1;rw [n] at q;unfold gY at a ⊢;cases d<;>simp only at q a ⊢ <;>first|(simp [Instr.findAsking,q,a];done)|(simp [Instr.findNow,q,a];done)
theorem gY.run {t:Nat} {c:TI} {i:TypeInfo} {d:TypeDesc} {z:Value} (b:wR P t c i d z) {ck:Value} {l:List MapEntry} {r:Option (Nat × Value)} (h:gY P w t d ck l 0 r):(Instr.findKey t ck l).run P w= .ok r w:=by
 by_cases hs:∃ a,d= .struct a
 ·obtain ⟨a,rfl⟩:=hs;simp only [gY] at h;cases l with
  |nil=>
   simp [Instr.findAsking] at h;subst h;simp [Instr.findKey,run_underlying b.und,Result.andThen,Instr.findNow]
  |cons e l=>
   simp only [Instr.findKey,Sem.run_bind,run_underlying b.und,Result.andThen_ok,Instr.findNow,Instr.sameNow];exact h
 ·have hs:∀ a,d ≠ .struct a:=fun a e=>hs ⟨a,e⟩
  refine MapKept.run_findKey b.und ?_;unfold gY at h;cases d<;>first|exact h|exact absurd rfl (hs _)
theorem o_ {t:Nat} {p:TI} {d:TypeDesc} {k v:AV} {ck cv:Value} (c:PO P g m S w t p d k ck) (q:VR g m S v cv):∀ (l:List MapEntry) (ks vs:List AV) (i:Nat),aW g m S ks (l.map (·.key))→aW g m S vs (l.map (·.val))→ks.all (iF p)=true→
  (gY P w t d ck l i none∧cE ks vs k=none∧ks.any (q_ k)=false∧kU ks vs k v=vs++ [v])∨
  ∃ j e x,gY P w t d ck l i (some (i+j,e.val))∧l[j]? =some e∧e.key=ck∧cE ks vs k=some x∧VR g m S x e.val∧ks.any (q_ k)=true∧aW g m S (kU ks vs k v) ((l.set j {e with key:=ck,val:=cv}).map (·.val))
 | [],ks,vs,i,h1,h2,_=>by
  cases ks with
  |cons _ _=>simp [aW] at h1
  |nil=>
   cases vs with
   |cons _ _=>simp [aW] at h2
   |nil=>exact .inl ⟨gY.nil,rfl,rfl,rfl⟩
 | e ::l,ks,vs,i,h1,h2,ha=>by
  cases ks with
  |nil=>simp [aW] at h1
  | cons k0 ks=>
   cases vs with
   |nil=>simp [aW] at h2
   | cons v0 vs=>
    simp only [Xqc,aW] at h1 h2;simp only [Xj5,π] at ha;cases a:q_ k k0 with
    |true=>
     have b:e.key=ck:=((c.eqs ha.1 h1.1).2 a).symm;refine .inr ⟨0,e,v0,gY.hit c ha.1 h1.1 a,rfl,b, ?_,h2.1, ?_, ?_⟩
     ·simp [cE,a]
     ·simp [a]
     ·simp only [kU,a,List.set_cons_zero,Xqc,aW];exact ⟨q,h2.2⟩
    | false=>
     rcases o_ c q l ks vs (i+1) h1.2 h2.2 ha.2 with ⟨h,o,f,n⟩|⟨j,e',x,h,o,f,n,r,s,u⟩
     ·refine .inl ⟨gY.miss c ha.1 h1.1 a h, ?_, ?_, ?_⟩
      ·simp [cE,a,o]
      ·simp only [Xwu,a,f];rfl
      ·simp [kU,a,n]
     ·refine .inr ⟨j+1,e',x, ?_,by simpa using o,f, ?_,r, ?_, ?_⟩
      ·rw [show i+(j+1)=i+1+j by omega];exact gY.miss c ha.1 h1.1 a h
      ·simp [cE,a,n]
      ·simp only [Xwu,a,s];rfl
      ·simp only [kU,a,List.set_cons_succ,Xqc,aW];exact ⟨h2.1,u⟩
theorem vU {ok:Bool} {o:Option AV} {z:AV} {u c:Value} {b:Bool} (h:(o=none∧u=c∧b=false)∨∃ x,o=some x∧VR g m S x u∧b=true) (d:VR g m S z c):VR g m S (EU ok o z) (if ok then .tuple #[u,.bool b] else u):=by
 have a:VR g m S (o.getD z) u∧o.isSome=b:=by
  rcases h with ⟨rfl,rfl,rfl⟩|⟨x,rfl,e,rfl⟩
  ·exact ⟨d,rfl⟩
  ·exact ⟨e,rfl⟩
 cases ok with
 |true=>
  simp only [EU,if_true,VR];refine ⟨[u,.bool b],rfl, ?_⟩;simp only [aW,VR,PR,and_true];exact ⟨a.1,by rw [a.2]⟩
 |false=>simpa [EU] using a.1
theorem AX (r:fe P ap) (h:bF ap g m S w) {rd:bV} (C:∀ b B,rd b=some B→g b=some B) {t:Nat} {K:TI} {i:TypeInfo} {d:TypeDesc} {z:Value} (A:wR P t K i d z) {x k v:AV} {J ck:Value} (V:VR g m S x J) (I:VR g m S k ck) {ok:Bool}
  {ups:List (Nat × aR)} {bs:List Bool} (c:Db ap K rd x k ok=some (v,ups,bs)) (p:∀ b ∈ bs,b=true):
  ups= []∧∃ cv,(Instr.lookup t J ck ok).run P w= .ok cv w∧VR g m S v cv:=by
 unfold Db at c;split at c
 ·rename_i Y et hd;have o:=bind_some c;clear c;obtain ⟨Z,a,c⟩:=o;have o:=bind_some c;clear c;obtain ⟨te,f,c⟩:=o;have o:=bind_some c;clear c;obtain ⟨q,o,c⟩:=o;have E:=bind_some c;clear c;obtain ⟨N,G,c⟩:=E;obtain ⟨rfl,rfl,rfl⟩:=aL c;have F:=a;obtain ⟨ik,dk,zk,a⟩:=cO r a;obtain ⟨ie,X,O,f⟩:=cO r f;rw [A.d_eq] at hd;have hd:=Pg hd;subst hd;obtain ⟨M,p⟩:=bN p;obtain ⟨U,_⟩:=bN p;obtain ⟨Q,u,v1,T⟩:=yU h C V o;have l:=BN (w:=w) r F a M I;have s:VR g m S N O:=sw f G;refine ⟨rfl, ?_⟩;rcases o_ l I Q.toList q.1 q.2 0 v1 T U with ⟨n,W,_,_⟩|⟨j,e,y,n,_,_,R,L,_,_⟩
  ·refine ⟨_, ?_,vU (.inl ⟨W,rfl,rfl⟩) s⟩;rcases u with ⟨rfl,rfl⟩|⟨b,D,rfl,H⟩
   ·simp [Instr.lookup,run_underlying A.und,l.chk,n.run a,zeroValue,typeInfo,f.info,f.zero,Result.andThen]
   ·simp [Instr.lookup,run_underlying A.und,MapKept.run_getObj_map H,l.chk,n.run a,zeroValue,typeInfo,f.info,f.zero,Result.andThen]
  ·refine ⟨_, ?_,vU (.inr ⟨y,R,L,rfl⟩) s⟩;rcases u with ⟨rfl,rfl⟩|⟨b,D,rfl,H⟩
   ·have n:=n.run a;simp [Instr.findKey,run_underlying a.und,Result.andThen,Instr.findNow] at n
   ·simp [Instr.lookup,run_underlying A.und,MapKept.run_getObj_map H,l.chk,n.run a,Result.andThen]
 ·cases c
mutual
theorem HW {S:aO}:∀ (x:AV) {v:Value},PR S x v→cR x= []
 | .int _ _,_,_=>rfl
 | .bool _,_,_=>rfl
 | .str _,_,_=>rfl
 | .nilS,_,_=>rfl
 | .nilP,_,_=>rfl
 | .nilF,_,_=>rfl
 | .nilI,_,_=>rfl
 | .sl _ _ _,_,_=>rfl
 | .pp _ _,_,_=>rfl
 | .mp _ _,_,_=>rfl
 | .dead,_,_=>rfl
 | .own _ _ _,_,p=>by simp only [PR] at p
 | .ref _ _ _ _,_,p=>by simp only [PR] at p
 | .ptr _ _ _,_,p=>by simp only [PR] at p
 | .mr _ _,_,p=>by simp only [PR] at p
 | .agg l,_,p=>by
  simp only [PR] at p;simp only [cR];obtain ⟨_,_,q⟩:=p;exact mh l q
 | .tup l,_,p=>by
  simp only [PR] at p;simp only [cR];obtain ⟨_,_,q⟩:=p;exact mh l q
 | .fn f a c,_,p=>by
  simp only [PR] at p;simp only [cR];obtain ⟨_,_,_,q,r⟩:=p;rw [mh a q,mh c r];rfl
 | .ifc t x,_,p=>by
  simp only [PR] at p;simp only [cR];obtain ⟨_,_,q⟩:=p;exact HW x q
theorem mh {S:aO}:∀ (l:List AV) {vs:List Value},bZ S l vs→bE l= []
 | [],_,_=>rfl
 |x::r,v::vs,p=>by simp only [bZ] at p;simp only [bE,HW x p.1,mh r p.2,Xqa]
 |_::_,[],p=>by simp [bZ] at p
end
theorem BS (h:bF ap g m S w) {b:Nat} {B:aR} {a:Array MapEntry} {clk':Nat} {k:Nat} {w':World} (p:w'.heap[k]? =some (.map a clk')) (i:B.esz=fw) {ks vs:List AV} (d:B.cells= [.agg ks,.agg vs]) (n:aW g m S ks (a.toList.map (·.key))) (o:aW g m S vs (a.toList.map (·.val))) (hp:B.pr=true→bE vs= []∧bE ks= []) (j:B.fro=false→B.fz=0) (e:B.fz≤2) (c:Nat):JK g m S w' B k c:=by
 refine ⟨⟨su a,0,[.agg (a.map (·.key)),.agg (a.map (·.val))],[],.inr ⟨i,a,clk',p,rfl⟩,rfl, ?_, ?_,fun l=>absurd i l,fun _ l=>absurd i l⟩,j,by rw [d];exact e⟩
 ·intro f;obtain ⟨r,q⟩:=hp f;rw [d];simp only [bZ,PR,and_true];exact ⟨⟨(a.map (·.key)).toList,by rw [Array.toArray_toList],by rw [Array.toList_map];exact dR _ n q⟩,(a.map (·.val)).toList,by rw [Array.toArray_toList],by rw [Array.toList_map];exact dR _ o r⟩
 ·rw [d];simp only [aW,VR,and_true];exact ⟨⟨(a.map (·.key)).toList,by rw [Array.toArray_toList],by rw [Array.toList_map];exact n⟩,(a.map (·.val)).toList,by rw [Array.toArray_toList],by rw [Array.toList_map];exact o⟩
theorem AY (h:bF ap g m S w) {nid:Nat} (c:g nid=none) (t:Nat):
  ∃ cv m' w',(Instr.makeMap t none).run P w= .ok cv w'∧bF ap (cD g [(nid,⟨[.agg [],.agg []],0,false,0,fw,true⟩)]) m' S w'∧Fr g m S w (cD g [(nid,⟨[.agg [],.agg []],0,false,0,fw,true⟩)]) m' S w'∧VR (cD g [(nid,⟨[.agg [],.agg []],0,false,0,fw,true⟩)]) m' S (.mr nid 0) cv:=by
 have a:=h.put nid ⟨[.agg [],.agg []],0,false,0,fw,true⟩ w.heap.size 0 (w':=w.alloc (.map #[] 0)) (.inl (φ _)) (World.grownBy_alloc w _ _)
  (BS h (b:=nid) (heap_alloc_new w _) rfl rfl (by simp [aW]) (by simp [aW]) (fun _=> ⟨rfl,rfl⟩) (fun _=>rfl) (Xxf _) 0)
  (fun B0 h0=>by rw [c] at h0;cases h0) (fun o v d=>absurd (h.seal_lt d) (Xv2 _))
 refine ⟨.map (some w.heap.size),_,_, ?_,a.1,a.2, ?_⟩
 ·simp [Instr.makeMap,Result.andThen]
 ·simp only [VR];exact ⟨_,jR _ _ _,φ _,⟨_,rfl⟩,fun _=>by simp [iw]⟩
theorem yG:∀ (lks:List LK) (l:List AV),jy lks l=true→bE l= []
 | [],[],_=>rfl
 |k::lks,x::l,h=>by
  simp only [jy,π] at h;have a:cR x= []:=by cases k<;>cases x<;>first|rfl|(have:=h.1;simp [BM] at this)
  simp only [bE,a,yG lks l h.2,Xqa]
 | [],_::_,h=>by simp [jy] at h
 |_::_,[],h=>by simp [jy] at h
theorem vC:∀ (l:List AV) (b:TI),l.all (iF b)=true→bE l= []
 | [],_,_=>rfl
 | x::r,b,h=>by
  simp only [Xj5,π] at h;have c:cR x= []:=by
   have a:=h.1;unfold iF at a;split at a<;>first|rfl|(cases a;done)|skip
   simp only [π] at a;simp only [cR];exact yG _ _ a.2
  simp only [bE,c,vC r b h.2,Xqa]
theorem zJ:∀ (ks vs:List AV) (k v:AV),bE vs= []→cR v= []→bE (kU ks vs k v)= []
 | [],_,k,v,_,h2=>by simp [kU,bE,h2]
 |_::_,[],k,v,_,h2=>by simp [kU,bE,h2]
 |k0::ks,v0::vs,k,v,h1,h2=>by
  simp only [bE,Xze] at h1;simp only [kU];split
  ·simp [bE,h1.2,h2]
  ·simp [bE,h1.1,zJ ks vs k v h1.2 h2]
theorem rM (O:fe P ap) (h:bF ap g m S w) {rd:bV} (K:∀ b B,rd b=some B→g b=some B) {t:Nat} {ti:TI} {i:TypeInfo} {d:TypeDesc} {z:Value} (W:wR P t ti i d z) {x k v r:AV} {cx ck cv:Value} (hx:VR g m S x cx) (hk:VR g m S k ck) (hv:VR g m S v cv)
  {ups:List (Nat × aR)} {bs:List Bool} (f:xy ap ti rd x k v=some (r,ups,bs)) (H:∀ b ∈ bs,b=true):
  r= .dead∧∃ C w',(Instr.mapUpdate t cx ck cv).run P w= .ok () w'∧bF ap (cD g ups) C S w'∧Fr g m S w (cD g ups) C S w':=by
 unfold xy at f;split at f
 ·rename_i kt et b ver hd;have U:=bind_some f;clear f;obtain ⟨tk,l,f⟩:=U;have U:=bind_some f;clear f;obtain ⟨B,hB,f⟩:=U;split at f
  ·rename_i p;simp only [π,Xqq] at p;split at f
   ·rename_i ks vs hcells;cases f;have hkt:=l;obtain ⟨ik,dk,zk,l⟩:=cO O l;rw [W.d_eq] at hd;have hd:=Pg hd;subst hd;obtain ⟨b1,H⟩:=bN H;obtain ⟨b2,_⟩:=bN H;have a:=K b B hB;have hz:=aK p.1.2;have X:NE rd (.mr b ver)=some (ks,vs):=by
     unfold NE;simp only [hB,Option.bind_some,p.1.1,p.1.2,Bool.and_self,hcells]
    obtain ⟨s,hes,v1,v2⟩:=yU h K hx X;have E:=BN (w:=w) O hkt l b1 hk;simp only [VR] at hx;obtain ⟨B',N,_,_,q⟩:=hx;rw [a] at N;cases N;have q:=q (aK p.1.1);subst q;rcases hes with ⟨e,_⟩|⟨b0,G,e,R⟩
    ·cases e
    cases e;have V:(m b).1<w.heap.size:=h.lt a;obtain ⟨_,k7,k8⟩:=h.blk b B a;have key:∀ (c:Array MapEntry) (clk':Nat),aW g m S (sA ks k) (c.toList.map (·.key))→aW g m S (kU ks vs k v) (c.toList.map (·.val))→
      ∃ C,bF ap (cD g [(b,{B with cells:= [.agg (sA ks k),.agg (kU ks vs k v)],pr:=B.pr && (cR v).isEmpty})]) C S {w with heap:=w.heap.setIfInBounds (m b).1 (.map c clk')}∧Fr g m S w (cD g [(b,{B with cells:= [.agg (sA ks k),.agg (kU ks vs k v)],pr:=B.pr && (cR v).isEmpty})]) C S {w with heap:=w.heap.setIfInBounds (m b).1 (.map c clk')}:=by
     intro c clk' w1 w2;have F:=h.put b {B with cells:= [.agg (sA ks k),.agg (kU ks vs k v)],pr:=B.pr && (cR v).isEmpty} (m b).1 (m b).2 (w':={w with heap:=w.heap.setIfInBounds (m b).1 (.map c clk')})
      (.inr ⟨B,a,rfl⟩) ⟨rfl,rfl,rfl,by simp,fun k' _ T=>by simp [show (m b).1 ≠ k' from fun e=>T (by rw [e])]⟩
      (BS h (b:=b) (B:={B with cells:= [.agg (sA ks k),.agg (kU ks vs k v)],pr:=B.pr && (cR v).isEmpty}) (w':={w with heap:=w.heap.setIfInBounds (m b).1 (.map c clk')}) (k:=(m b).1) (clk':=clk') (by simp [V]) hz rfl w1 w2 (fun A=>by
       have A:(B.pr && (cR v).isEmpty)=true:=A;simp only [π] at A;obtain ⟨⟨cur,e,us,rest,k1,k2,k3,k4,_,_⟩,_,_⟩:=h.blk b B a;have Y:bE B.cells= []:=mh _ (k3 A.1);rw [hcells] at Y;simp only [bE,cR,Xqa,Xze] at Y;refine ⟨zJ _ _ _ _ Y.2 (mF A.2), ?_⟩;have J:=vC ks _ b2;unfold sA;split
       ·exact J
       ·rw [nP,J];exact vC [k] tk (by simp [b1])) k7 (by rw [hcells] at k8;exact k8) (m b).2)
      (fun B0 h0=>by rw [a] at h0;cases h0;exact ⟨rfl,.inl ⟨rfl,rfl⟩⟩)
      (fun o u hu=>by
       have:=(h.own b B a o u hu).1;rw [p.2] at this;cases this)
     exact ⟨_,F.1,F.2⟩
    refine ⟨rfl, ?_⟩;rcases o_ E hv s.toList ks vs 0 v1 v2 b2 with ⟨Q,r2,r3,r4⟩|⟨j,e,y,Q,rj,rk,r4,r5,r6,r7⟩
    ·obtain ⟨C,s1,s2⟩:=key (s.push {key:=ck,val:=cv,born:=G}) (G+1)
      (by unfold sA;rw [r3,Array.toList_push,Xxt];exact eS v1 (by simp only [Xqc,Xxz,aW,and_true];exact hk))
      (by rw [r4,Array.toList_push,Xxt];exact eS v2 (by simp only [Xqc,Xxz,aW,and_true];exact hv))
     refine ⟨C,_, ?_,s1,s2⟩;simp [Instr.mapUpdate,run_underlying W.und,MapKept.run_getObj_map R,E.chk,Q.run l,MapKept.run_setObj_map _ R,Result.andThen]
    ·have D:s[j]? =some e:=by simpa using rj
     have M:(s.modify j fun e=> {e with key:=ck,val:=cv}).toList=s.toList.set j {e with key:=ck,val:=cv}:=by
      apply Xjx;intro n;simp only [Array.getElem?_toList,Array.getElem?_modify,Xj9];by_cases hjn:j=n
      ·subst hjn;have I:j<s.toList.length:=(List.getElem?_eq_some_iff.1 rj).1;rw [if_pos rfl,if_pos rfl,if_pos I,D];rfl
      ·rw [if_neg hjn,if_neg hjn]
     obtain ⟨C,s1,s2⟩:=key (s.modify j fun e=> {e with key:=ck,val:=cv}) G
      (by
       unfold sA;rw [r6,M];have:(s.toList.set j {e with key:=ck,val:=cv}).map (·.key)=s.toList.map (·.key):=by
        apply Xjx;intro n;simp only [Xqy,Xj9];by_cases hjn:j=n
        ·subst hjn;have I:j<s.toList.length:=(List.getElem?_eq_some_iff.1 rj).1;have L:j<s.size:=by simpa using I
         have Z:s[j]=e:=by rw [Array.getElem?_eq_getElem L] at D;exact Option.some.inj D
         simp [L,Z,rk]
        ·simp [hjn]
       rw [this];exact v1)
      (by rw [M];exact r7)
     refine ⟨C,_, ?_,s1,s2⟩;rw [Θ] at Q;simp [Instr.mapUpdate,run_underlying W.und,MapKept.run_getObj_map R,E.chk,Q.run l,D,rk,E.stay,MapKept.run_setObj_map _ R,Result.andThen]
   ·cases f
  ·cases f
 ·cases f
end
end AM
namespace AM
open Go
section
variable {P:Program} {ap:AP} {g:bV} {m:aQ} {S:aO} {w:World}
theorem qi {ρ:Operand→AV} {cρ:Operand→Value}:∀ (l:List Operand),(∀ o ∈ l,VR g m S (ρ o) (cρ o))→aW g m S (l.map ρ) (l.map cρ)
 | [],_=>by simp [aW]
 |o::r,h=>by simp only [Xqc,aW];exact ⟨h o (by simp),qi r fun o a=>h o (by simp [a])⟩
theorem xD {ρ:Operand→AV} {cρ:Operand→Value}:∀ (l:List (Nat × Operand)),(∀ o ∈ l.map (·.2),VR g m S (ρ o) (cρ o))→sS g m S (l.map fun (i,x)=>(i,ρ x)) (l.map fun (i,x)=>(i,cρ x))
 | [],_=>by simp [sS]
 |(i,o)::r,h=>by simp only [Xqc,sS];exact ⟨trivial,h o (by simp),xD r fun o a=>h o (by simp [a])⟩
def fG (P:Program) (ap:AP) (g:bV) (m:aQ) (S:aO) (w:World) (s:Sem Next) (v:AV) (ups:List (Nat × aR)):Prop:=
 ∃ nx m' w',s.run P w= .ok nx w'∧bF ap (cD g ups) m' S w'∧Fr g m S w (cD g ups) m' S w'∧((∃ cv,nx= .value cv∧VR (cD g ups) m' S v cv)∨(nx= .skip∧v= .dead))
theorem fG.pur (h:bF ap g m S w) {s:Sem Value} {v:AV} {ups:List (Nat × aR)} (hs:ups= []∧∃ cv,s.run P w= .ok cv w∧VR g m S v cv):fG P ap g m S w (do pure (.value (← s))) v ups:=by
 obtain ⟨rfl,cv,a,b⟩:=hs;exact ⟨.value cv,m,w,by simp [a],by rw [dF];exact h,by rw [dF];exact Fr.refl _ _ _ _,.inl ⟨cv,rfl,by rw [dF];exact b⟩⟩
theorem fG.full {s:Sem Value} {v:AV} {ups:List (Nat × aR)} (hs:∃ cv a w',s.run P w= .ok cv w'∧bF ap (cD g ups) a S w'∧Fr g m S w (cD g ups) a S w'∧VR (cD g ups) a S v cv):fG P ap g m S w (do pure (.value (← s))) v ups:=by
 obtain ⟨cv,a,w',b,e,c,d⟩:=hs;exact ⟨.value cv,a,w',by simp [b],e,c,.inl ⟨cv,rfl,d⟩⟩
theorem fG.val (h:bF ap g m S w) {s:Sem Next} {v:AV} {cv:Value} (hs:s.run P w= .ok (.value cv) w) (a:VR g m S v cv):fG P ap g m S w s v []:=
 ⟨.value cv,m,w,hs,by rw [dF];exact h,by rw [dF];exact Fr.refl _ _ _ _,.inl ⟨cv,rfl,by rw [dF];exact a⟩⟩
theorem xB {ρ:Operand→AV} {cρ:Operand→Value} (x:Option Operand) (h:∀ o ∈ x.toArray,VR g m S (ρ o) (cρ o)):xA g m S (x.map ρ) (x.map cρ):=by
 cases x with
 |none=>simp [xA]
 |some o=>simp only [Xx1,xA];exact h o (by simp)
theorem Ek (a:fe P ap) {t:Nat} {b:TI} (h:ap.tyAt t=some b) (hd:b.d ≠ .iface):P.concrete t=true:=by
 obtain ⟨i,d,z,c⟩:=cO a h;have:=c.d_eq;simp only [Program.concrete,c.und];cases d<;>simp_all [gX]
set_option maxHeartbeats 1000000 in
theorem KM (j:fe P ap) (D:bF ap g m S w) {nid:Nat} (W:g nid=none) {ρ:Operand→AV} {cρ:Operand→Value} {rd:bV} (H:∀ b B,rd b=some B→g b=some B) (o:Oper) (hρ:∀ x ∈ o.op.operands,VR g m S (ρ x) (cρ x))
  {dec:Operand→Option Bool} (hdec:∀ x ∈ o.op.operands,∀ b,dec x=some b→cρ x= .bool b) {em:Bool} (hem:∀ n,tP ρ o.op=some n→Xqn n 0=em)
  {v:AV} {ups:List (Nat × aR)} {bs:List Bool} (h:opA ap nid ρ rd dec em o.op=some (v,ups,bs)) (hbs:∀ b ∈ bs,b=true):fG P ap g m S w (execOp cρ o) v ups:=by
 unfold opA at h;unfold execOp;split at h<;>rename_i heq<;>simp only [heq,Op.operands] at hρ hdec hem ⊢
 ·obtain ⟨rfl,rfl,rfl⟩:=aL h;exact fG.val D (by simp) (hρ _ (by simp))
 ·obtain ⟨rfl,rfl,rfl⟩:=aL h;exact fG.val D (by simp) (hρ _ (by simp))
 ·
  rename_i c a b;split at h
  ·rename_i hd;obtain ⟨rfl,rfl,rfl⟩:=aL h;have:=hdec c (by simp) _ hd;exact fG.val D (by simp [this,asBool]) (hρ _ (by simp))
  ·rename_i hd;obtain ⟨rfl,rfl,rfl⟩:=aL h;have:=hdec c (by simp) _ hd;exact fG.val D (by simp [this,asBool]) (hρ _ (by simp))
  ·split at h
   ·rename_i bc ba bb e1 e2 e3;obtain ⟨rfl,rfl,rfl⟩:=aL h;have F:=hρ c (by simp);have G:=hρ a (by simp);have N:=hρ b (by simp);rw [e1] at F;rw [e2] at G;rw [e3] at N;simp only [VR,PR] at F G N;refine fG.val D (cv:= .bool (cond bc ba bb)) ?_ (by simp only [VR,PR]);rw [F,G,N];cases bc<;>simp [asBool]
   ·cases h
 ·
  rename_i e;have A:=bind_some h;clear h;obtain ⟨te,K,h⟩:=A;obtain ⟨ie,de,ze,C⟩:=cO j K;split at h
  ·rename_i T;simp only [π] at T;cases h;obtain ⟨M,w',F,G,N,h4⟩:=Bn (P:=P) D W (cells:=te.zero) (cv:=ze) (mo C) C.zleaf (fun u hu=>wS (g:=g) (m:=m) (S:=S) (mo C) C.zleaf u (by simpa using hu)) e;refine fG.full ⟨.pointer (some ⟨w.heap.size,0,none⟩),M,w', ?_,G,N,I6 h4⟩;simp [Instr.alloc,zeroValue,typeInfo,C.info,C.zero,F]
  ·cases h
 ·
  rename_i e x;have A:=bind_some h;clear h;obtain ⟨te,K,h⟩:=A;obtain ⟨ie,de,ze,C⟩:=cO j K;simp only at h;split at h
  ·rename_i T;simp only [π] at T;cases h;have E:=hρ x (by simp);have hl:∀ y ∈ (ρ x).cells,kw y=true:=fun y hy=>List.all_eq_true.1 T.2 y hy
   obtain ⟨hv1,hv2⟩:=xH E hl;obtain ⟨M,w',F,G,N,h4⟩:=Bn (P:=P) D W (cells:=(ρ x).cells) (cv:=cρ x) hv1 hl hv2 e;refine fG.full ⟨.pointer (some ⟨w.heap.size,0,none⟩),M,w', ?_,G,N,I6 h4⟩;simp [Instr.box,F]
  ·cases h
 ·
  rename_i t parts;have A:=bind_some h;clear h;obtain ⟨L,q,h⟩:=A;obtain ⟨i,d,z,C⟩:=cO j q;refine fG.pur D ?_;refine CD j C (qs:=parts.map fun (i,x)=>(i,cρ x)) ?_ h;rw [Array.toList_map];exact xD parts.toList fun x E=>hρ x (by simpa using E)
 ·
  rename_i t len parts;have A:=bind_some h;clear h;obtain ⟨L,q,h⟩:=A;obtain ⟨i,d,z,C⟩:=cO j q;refine fG.full ?_;refine tw j D W C (qs:=parts.map fun (i,x)=>(i,cρ x)) ?_ h;rw [Array.toList_map];exact xD parts.toList fun x E=>hρ x (by simpa using E)
 ·
  rename_i t a;have A:=bind_some h;clear h;obtain ⟨L,q,h⟩:=A;obtain ⟨i,d,z,C⟩:=cO j q;exact fG.pur D (vV D H C (hρ a (by simp)) h hbs)
 ·
  rename_i t a x;have A:=bind_some h;clear h;obtain ⟨L,q,h⟩:=A;obtain ⟨i,d,z,C⟩:=cO j q;have ha:=hρ a (by simp);have E:=hρ x (by simp);generalize cρ a=ca at ha ⊢;generalize cρ x=cx at E ⊢;obtain ⟨rfl,M,w',F,G,N⟩:=DJ D H C ha E h hbs;exact ⟨.skip,M,w',by simp [F],G,N,.inr ⟨rfl,rfl⟩⟩
 ·
  rename_i t r;split at h
  ·cases h;obtain ⟨cv,M,w',F,G,N,h4⟩:=AY (P:=P) D W t;exact ⟨.value cv,M,w',by simp [F],G,N,.inl ⟨cv,rfl,h4⟩⟩
  ·cases h
 ·
  rename_i t x k ok;have A:=bind_some h;clear h;obtain ⟨L,q,h⟩:=A;obtain ⟨i,d,z,C⟩:=cO j q;exact fG.pur D (AX j D H C (hρ x (by simp)) (hρ k (by simp)) h hbs)
 ·
  rename_i t x k v;have A:=bind_some h;clear h;obtain ⟨L,q,h⟩:=A;obtain ⟨i,d,z,C⟩:=cO j q;obtain ⟨rfl,M,w',F,G,N⟩:=rM j D H C (hρ x (by simp)) (hρ k (by simp)) (hρ v (by simp)) h hbs;exact ⟨.skip,M,w',by simp [F],G,N,.inr ⟨rfl,rfl⟩⟩
 ·
  rename_i t x k v;have A:=bind_some h;clear h;obtain ⟨L,q,h⟩:=A;obtain ⟨i,d,z,C⟩:=cO j q;obtain ⟨rfl,M,w',F,G,N⟩:=rM j D H C (hρ x (by simp)) (hρ k (by simp)) (hρ v (by simp)) h hbs;exact ⟨.skip,M,w',by simp [F],G,N,.inr ⟨rfl,rfl⟩⟩
 ·
  rename_i x;have E:=hρ x (by simp);split at h
  ·rename_i b ver off e;rw [e] at E;obtain ⟨rfl,rfl,rfl⟩:=aL h;have I:=E;simp only [VR] at I;obtain ⟨_,_,_,⟨k,o,Y⟩,_⟩:=I;exact fG.val D (cv:=cρ x) (by rw [Y];simp) E
  ·rename_i xs off e;rw [e] at E;obtain ⟨rfl,rfl,rfl⟩:=aL h;have I:=E;simp only [VR,PR] at I;obtain ⟨_,_,_,Y,_⟩:=I;exact fG.val D (cv:=cρ x) (by rw [Y];simp) E
  ·rename_i f a c e;rw [e] at E;obtain ⟨rfl,rfl,rfl⟩:=aL h;have I:=E;simp only [VR] at I;obtain ⟨_,_,Y,_⟩:=I;exact fG.val D (cv:=cρ x) (by rw [Y];simp) E
  ·cases h
 ·
  rename_i op t x y _;have A:=bind_some h;clear h;obtain ⟨L,q,h⟩:=A;exact fG.pur D (Gp j q (hρ x (by simp)) (hρ y (by simp)) h hbs x y)
 ·
  exact fG.pur D (Lh (hρ _ (by simp)) h)
 ·
  rename_i s d x;have A:=bind_some h;clear h;obtain ⟨ts,hts,h⟩:=A;have A:=bind_some h;clear h;obtain ⟨td,htd,h⟩:=A;exact fG.pur D (xV j D H hts htd (hρ x (by simp)) h hbs)
 ·
  rename_i t x;have A:=bind_some h;clear h;obtain ⟨L,q,h⟩:=A;split at h
  ·cases h
  ·rename_i hd;obtain ⟨rfl,rfl,rfl⟩:=aL h;refine fG.pur D ⟨rfl,.iface t (cρ x),run_makeInterface w t _ (Ek j q hd), ?_⟩;simp only [VR];exact ⟨_,rfl,hρ x (by simp)⟩
 ·
  rename_i f first Z
  obtain ⟨rfl,rfl,rfl⟩:=aL h;refine fG.pur D ⟨rfl,.func (.func f) (first.map cρ) (Z.map cρ),by simp [Instr.makeFunc], ?_⟩;simp only [VR];refine ⟨(first.map cρ).toList,(Z.map cρ).toList,by rw [Array.toArray_toList,Array.toArray_toList], ?_, ?_⟩
  ·rw [Array.toList_map];exact qi _ fun x E=>hρ x (by simp at E ⊢;exact .inl E)
  ·rw [Array.toList_map];exact qi _ fun x E=>hρ x (by simp at E ⊢;exact .inr E)
 ·
  rename_i t l c;have A:=bind_some h;clear h;obtain ⟨L,q,h⟩:=A;obtain ⟨i,d,z,C⟩:=cO j q;exact fG.full (u_ j D W C (hρ l (by simp)) (hρ c (by simp)) h hbs)
 ·
  rename_i t x lo hi mx;have A:=bind_some h;clear h;obtain ⟨L,q,h⟩:=A;obtain ⟨i,d,z,C⟩:=cO j q;exact fG.pur D (DH j H C (hρ x (by simp)) (xB lo fun o V=>hρ o (by simp at V;simp [V])) (xB hi fun o V=>hρ o (by simp at V;simp [V])) (xB mx fun o V=>hρ o (by simp at V;simp [V])) h hbs)
 ·
  rename_i s x f;have A:=bind_some h;clear h;obtain ⟨L,q,h⟩:=A;obtain ⟨i,d,z,C⟩:=cO j q;split at h
  ·rename_i fs hd;have A:=bind_some h;clear h;obtain ⟨⟨o,ft,sz⟩,hf,h⟩:=A;simp only at h;split at h
   ·rename_i hsz;have A:=bind_some h;clear h;obtain ⟨p,hp,h⟩:=A;obtain ⟨rfl,rfl,rfl⟩:=aL h;exact fG.pur D ⟨rfl,wF C hd hf hsz (hρ x (by simp)) hp⟩
   ·cases h
  ·cases h
 ·
  rename_i t x f;have A:=bind_some h;clear h;obtain ⟨L,q,h⟩:=A;obtain ⟨i,d,z,C⟩:=cO j q;exact fG.pur D (CV j C (hρ x (by simp)) h hbs)
 ·
  rename_i t x ix;have A:=bind_some h;clear h;obtain ⟨L,q,h⟩:=A;obtain ⟨i,d,z,C⟩:=cO j q;exact fG.pur D (uT j H C (hρ x (by simp)) (hρ ix (by simp)) h hbs)
 ·
  rename_i t x ix;have A:=bind_some h;clear h;obtain ⟨L,q,h⟩:=A;obtain ⟨i,d,z,C⟩:=cO j q;exact fG.pur D (C6 j C (hρ x (by simp)) (hρ ix (by simp)) h hbs)
 ·
  exact fG.pur D (AQ j (hρ _ (by simp)) h _)
 ·
  rename_i t i;have C:=hρ t (by simp);split at h
  ·rename_i l e;rw [e] at C;have A:=bind_some h;clear h;obtain ⟨x,E,h⟩:=A;obtain ⟨rfl,rfl,rfl⟩:=aL h;simp only [VR] at C;obtain ⟨vs,Y,hl⟩:=C;obtain ⟨cv,F,G⟩:=m_ hl i E;refine fG.pur D ⟨rfl,cv, ?_,G⟩;rw [Y];simp [Instr.extract,F]
  ·cases h
 ·
  rename_i b args R;simp only [Call.operands] at hρ;have hargs:∀ x ∈ args,VR g m S (ρ x) (cρ x):=fun x E=>hρ x (by simp [E])
  split at h
  ·have A:=bind_some h;clear h;obtain ⟨x,E,h⟩:=A;have A:=bind_some h;clear h;obtain ⟨t,X,h⟩:=A;have A:=bind_some h;clear h;obtain ⟨L,q,h⟩:=A;obtain ⟨i,d,z,C⟩:=cO j q;obtain ⟨hu,cv,F,G⟩:=G6 (P:=P) (w:=w) (hargs x (Array.mem_of_getElem? E)) C h R X (args.map cρ) (by simp [E]) o.type;subst hu;exact fG.val D (cv:=cv) (by simp [resolve,invoke,builtin,F]) G
  ·split at h
   ·rename_i s x t t1 ha X;have hargs':args=#[s,x]:=by apply Array.ext';simpa using ha
    have hats':R=#[t,t1]:=by apply Array.ext';simpa using X
    subst hargs';subst hats';have A:=bind_some h;clear h;obtain ⟨L,q,h⟩:=A;have A:=bind_some h;clear h;obtain ⟨ti1,hti1,h⟩:=A;obtain ⟨i,d,z,C⟩:=cO j q;obtain ⟨i1,d1,z1,Q⟩:=cO j hti1;have hs:=hargs s (by simp);have E:=hargs x (by simp);have U:ρ s= .nilS→∃ n,rU (ρ x)=some n∧Xqn n 0=em:=by
     intro e;cases hc:rU (ρ x) with
     | none=>
      exfalso;split at h
      ·rename_i I;rw [I] at hc;simp [rU] at hc
      ·cases h
      ·rename_i y hy1 _ hy2 hy3;have A:=bind_some h;clear h;obtain ⟨te,K,h⟩:=A;unfold sZ at h;have A:=bind_some h;clear h;obtain ⟨⟨xs,n,pr⟩,hsrc,h⟩:=A;cases hxx:ρ x<;>simp [hxx,rU] at hc<;>simp [hxx,FF] at hsrc
      ·cases h
     |some n=>exact ⟨n,rfl,hem n (by simp [tP,e,hc])⟩
    split at h
    ·rename_i e y hd J hy;have A:=bind_some h;clear h;obtain ⟨te,K,h⟩:=A;obtain ⟨ie,de,ze,O⟩:=cO j K;split at h
     ·rename_i F;rw [C.d_eq] at hd;rw [Q.d_eq] at J;have hd:=eO hd;have J:=sL J;subst hd;subst J;obtain ⟨cv,M,w',r1,r2,r3,r4⟩:=qZ (P:=P) D H W C O hs E (tx:=t1) (.inl ⟨⟨y,hy⟩,Q.und,aK F⟩) U (by rw [hy];exact h) hbs o.type;exact ⟨.value cv,M,w',by simp [resolve,invoke,builtin,r1],r2,r3,.inl ⟨cv,rfl,r4⟩⟩
     ·cases h
    ·cases h
    ·rename_i e e1 hd J hns;have A:=bind_some h;clear h;obtain ⟨te,K,h⟩:=A;obtain ⟨ie,de,ze,O⟩:=cO j K;rw [C.d_eq] at hd;rw [Q.d_eq] at J;have hd:=eO hd;have J:=eO J;subst hd;subst J;obtain ⟨cv,M,w',r1,r2,r3,r4⟩:=qZ (P:=P) D H W C O hs E (tx:=t1) (.inr ⟨fun s e=>hns s e,_,Q.und⟩) U h hbs o.type;exact ⟨.value cv,M,w',by simp [resolve,invoke,builtin,r1],r2,r3,.inl ⟨cv,rfl,r4⟩⟩
    ·cases h
   ·cases h
  ·have A:=bind_some h;clear h;obtain ⟨r,hr,h⟩:=A;obtain ⟨rfl,rfl,rfl⟩:=aL h;obtain ⟨cv,F,G⟩:=KC (P:=P) (w:=w) (qi args.toList fun x E=>hargs x (Array.mem_toList_iff.1 E)) hr R o.type;refine fG.val D (cv:=cv) ?_ G;have:(Xwe cρ args.toList).toArray=args.map cρ:=by apply Array.ext';rw [Xvk,Array.toList_map]
   rw [this] at F;simp [resolve,invoke,builtin,F]
  ·have A:=bind_some h;clear h;obtain ⟨r,hr,h⟩:=A;obtain ⟨rfl,rfl,rfl⟩:=aL h;obtain ⟨cv,F,G⟩:=Kz (P:=P) (w:=w) (qi args.toList fun x E=>hargs x (Array.mem_toList_iff.1 E)) hr R o.type;refine fG.val D (cv:=cv) ?_ G;have:(Xwe cρ args.toList).toArray=args.map cρ:=by apply Array.ext';rw [Xvk,Array.toList_map]
   rw [this] at F;simp [resolve,invoke,builtin,F]
  ·cases h
 ·cases h
end
end AM
namespace AM
open Go
structure Cx.Ok (c:Cx):Prop where
 bs:∀ b ∈ c.bs,b=true
 ps:∀ p ∈ c.ps,p
theorem R.bind_ok {α β:Type} {r:R α} {f:α→Cx→R β} {b:β} {c:Cx} (h:r.bind f= .ok b c):∃ a c1,r= .ok a c1∧f a c1= .ok b c:=by
 cases r with
 |ok a c1=>exact ⟨a,c1,rfl,h⟩
 |need=>simp [R.bind] at h
 |bad n=>simp [R.bind] at h
theorem CQ {c f:Cx} {bs:List Bool} {u:Unit} (h:QM c bs= .ok u f) (d:f.Ok):c.Ok∧∀ b ∈ bs,b=true:=by
 unfold QM at h;split at h
 ·split at h
  ·rename_i a;cases h;exact ⟨d,fun b e=>by simpa using List.all_eq_true.1 a b e⟩
  ·cases h
 ·cases h;exact ⟨⟨fun b a=>d.bs b (by simp [a]),d.ps⟩,fun b a=>d.bs b (by simp [a])⟩
theorem iT {c e:Cx} {b a:Bool} (h:uN c b= .ok a e) (d:e.Ok):c.Ok∧a=b:=by
 unfold uN at h;split at h
 ·cases h;exact ⟨d,rfl⟩
 ·split at h
  ·cases h
  ·rename_i o r _;cases h;have f:=d.bs (lit a b) (by simp);refine ⟨⟨fun x i=>d.bs x (by simp [i]),d.ps⟩, ?_⟩;cases a<;>cases b<;>simp [lit] at f ⊢
theorem fA {l:List Nat} {a:Nat}:lQ l a=true↔a ∈ l:=by
 simp only [lQ,List.any_eq_true];constructor
 ·rintro ⟨x,hx,h⟩;exact aK h ▸ hx
 ·intro h;exact ⟨a,h,Nat.beq_refl a⟩
theorem fS {α β:Type} {f:α→Option β}:∀ {l:List α} {l':List β},iq f l=some l'→l'.length=l.length∧∀ (i:Nat) x,l[i]? =some x→∃ y,l'[i]? =some y∧f x=some y
 | [],l',h=>by simp [iq] at h;subst h;simp
 | a::r,l',h=>by
  simp only [iq] at h;split at h
  ·rename_i y j;split at h
   ·rename_i q d;cases h;obtain ⟨c,e⟩:=fS d;refine ⟨by simp [c], ?_⟩;intro i x b;cases i with
    |zero=>simp at b;subst b;exact ⟨y,by simp,j⟩
    |succ i=>simpa using e i x (by simpa using b)
   ·cases h
  ·cases h
section
variable {P:Program} {ap:AP} {g:bV} {m:aQ} {S:aO} {w:World}
noncomputable def bY (S:aO) (m:aQ) (rd:bV) (w:World):aO:=fun k o=>
 match S k o with
 |some v=>some v
 |none=>open Classical in if ∃ b B,rd b=some B∧(m b).1=k∧o<B.cells.length then cf w k o else none
theorem jP (S:aO) (m:aQ) (rd:bV) (w:World):jF S (bY S m rd w):=by
 intro k o v h;simp [bY,h]
theorem dO {rd:bV} {k o:Nat} {v:Value} (h:bY S m rd w k o=some v):S k o=some v∨(cf w k o=some v∧∃ b B,rd b=some B∧(m b).1=k∧o<B.cells.length):=by
 unfold bY at h;split at h
 ·rename_i e c;cases h;exact .inl c
 ·rename_i d;split at h
  ·rename_i a;exact .inr ⟨h,a⟩
  ·cases h
theorem lD (a:bF ap g m S w) {rd:bV} {k o:Nat} {v:Value} (h:bY S m rd w k o=some v):cf w k o=some v:=by
 rcases dO h with h|h
 ·exact a.sealed _ _ _ h
 ·exact h.1
theorem K0 (c:bF ap g m S w) {rd:bV} {b:Nat} {B:aR} (e:rd b=some B) {o:Nat} (f:o<B.cells.length) {v:Value} (a:cf w (m b).1 o=some v):bY S m rd w (m b).1 o=some v:=by
 unfold bY;split
 ·rename_i h d;have:=c.sealed _ _ _ d;rw [a] at this;cases this;rfl
 ·rw [if_pos ⟨b,B,e,rfl,f⟩];exact a
theorem zX (i:bF ap g m S w) {rd:bV} (d:∀ b B,rd b=some B→g b=some B) {b:Nat} {B:aR} (k:rd b=some B):
  ∃ vs,aW g m S B.cells vs∧(B.pr=true→bZ S B.cells vs)∧(∀ j u,vs[j]? =some u→bY S m rd w (m b).1 j=some u)∧vs.length=B.cells.length∧(B.esz ≠ fw→∀ u ∈ vs,u.oneCell'=true):=by
 obtain ⟨⟨cur,e,vs,rest,l,n,p,f,h,q⟩,_,_⟩:=i.blk b B (d b B k);refine ⟨vs,f,p, ?_,(bI f).symm,h⟩;intro j u c;have a:=(List.getElem?_eq_some_iff.1 c).1;refine K0 i k (by rw [bI f];exact a) ?_;exact l.get (by rw [n,Xxb a];exact c) (fun o=>h o u (Xqm c))
theorem ut (e:bF ap g m S w) {rd:bV} (a:∀ b B,rd b=some B→g b=some B) {b:Nat} {B:aR} (k:rd b=some B) (f:B.esz ≠ fw):
  ∃ vs,aW g m S B.cells vs∧(B.pr=true→bZ S B.cells vs)∧iA (bY S m rd w) (m b).1 0 vs∧vs.length=B.cells.length:=by
 obtain ⟨vs,d,i,h,l,n⟩:=zX e a k;refine ⟨vs,d,i,fun j u c=> ?_,l⟩;rw [Θ];exact ⟨h j u c,n f u (Xqm c)⟩
theorem BU {S':aO} {l:List AV} {y:AV} {vs:List Value} {k:Nat} (h:RV l=some y) (a:bZ S' l vs) (hs:∀ j u,vs[j]? =some u→S' k j=some u):PR S' y (.map (some k)):=by
 unfold RV at h;split at h
 ·rename_i ks f;cases h
  match vs,a with
  | [v0,v1],a=>
   simp only [bZ,PR,and_true] at a;obtain ⟨⟨e,rfl,d⟩,c,rfl,b⟩:=a;simp only [PR];exact .inr ⟨k,e,c,rfl,hs 0 _ rfl,hs 1 _ rfl,d,b⟩
  | [],a=>simp [bZ] at a
  | [_],a=>simp [bZ] at a
  |_::_::_::_,a=>simp [bZ] at a
 ·cases h
theorem oK {S':aO} {f:AV→Option AV} (a:∀ x v y,f x=some y→VR g m S x v→PR S' y v):∀ {l l':List AV} {vs:List Value},iq f l=some l'→aW g m S l vs→bZ S' l' vs
 | [],l',[],h,_=>by simp [iq] at h;subst h;simp [bZ]
 | x::r,l',v::vs,h,hv=>by
  simp only [iq] at h;simp only [aW] at hv;split at h
  ·rename_i y c;split at h
   ·rename_i q b;cases h;simp only [bZ];exact ⟨a x v y c hv.1,oK a b hv.2⟩
   ·cases h
  ·cases h
 | [],_,_::_,_,h=>by simp [aW] at h
 |_::_,_,[],_,h=>by simp [aW] at h
theorem iV (K:bF ap g m S w) {rd:bV} (t:∀ b B,rd b=some B→g b=some B):∀ (p:Nat) (x:AV) (v:Value) (y:AV),frz rd p x=some y→VR g m S x v→PR (bY S m rd w) y v:=by
 intro p
 induction p with
 |zero=>intro x v y h;simp [frz] at h
 | succ p ih=>
  intro x v y h f;have D:=jP S m rd w;have hlist:∀ {l l':List AV} {vs:List Value},iq (frz rd p) l=some l'→aW g m S l vs→bZ (bY S m rd w) l' vs:=fun H G=>oK (fun x v y hx f=>ih x v y hx f) H G
  unfold frz at h;simp only at h;split at h
  ·
   rename_i b ver i n;have C:=bind_some h;clear h;obtain ⟨B,E,h⟩:=C;split at h
   ·rename_i d;simp only [VR] at f;obtain ⟨B',s,_,_,q⟩:=f;rw [t b B E] at s;cases s;obtain ⟨o,rfl,M,ho,L,F⟩:=q (aK d);obtain ⟨vs,H,G,I,N⟩:=ut K t E F;have hpart:iA (bY S m rd w) (m b).1 o ((vs.drop (i*B.esz)).take (n*B.esz)):=by
     by_cases hi:i<(m b).2
     ·rw [ho hi];have:=(I.drop (i*B.esz)).take (n*B.esz);rwa [Θ] at this
     ·have Q:n=0:=by omega
      subst Q;intro j u U;simp at U
    have k:∀ l,bZ (bY S m rd w) l ((vs.drop (i*B.esz)).take (n*B.esz))→PR (bY S m rd w) (.sl l n true) (.slice (some ⟨(m b).1,o,none⟩) n ((m b).2 - i)):=by
     intro l z;simp only [PR];exact ⟨_,_,rfl,by omega,.inr ⟨_,_,_,rfl,z,hpart⟩⟩
    split at h
    ·rename_i A;cases h;exact k _ (iz _ (mg _ (bk D _ (G A))))
    ·simp only [Xqp] at h;obtain ⟨l,z,rfl⟩:=h;exact k _ (hlist z (mi _ (oL _ H)))
   ·cases h
  ·
   rename_i b ver J;have C:=bind_some h;clear h;obtain ⟨B,E,h⟩:=C;split at h
   ·rename_i d;simp only [π,Xqq] at d;have F:B.esz ≠ fw:=fun e=>by rw [e] at d;exact absurd d.2 (by decide)
    simp only [VR] at f;obtain ⟨B',s,_,_,q⟩:=f;rw [t b B E] at s;cases s;have q:=q (aK d.1);subst q;obtain ⟨vs,H,G,I,N⟩:=ut K t E F;have k:∀ l,bZ (bY S m rd w) l vs→PR (bY S m rd w) (.pp l J) (.pointer (some ⟨(m b).1,J,none⟩)):=by
     intro l z;simp only [PR];exact ⟨_,0,_,by rw [Θ],z,I⟩
    split at h
    ·rename_i A;cases h;exact k _ (bk D _ (G A))
    ·simp only [Xqp] at h;obtain ⟨l,z,rfl⟩:=h;exact k _ (hlist z H)
   ·cases h
  ·
   rename_i b ver;have C:=bind_some h;clear h;obtain ⟨B,E,h⟩:=C;split at h
   ·rename_i d;simp only [π] at d;simp only [VR] at f;obtain ⟨B',s,_,_,q⟩:=f;rw [t b B E] at s;cases s;have q:=q (aK d.1);subst q;obtain ⟨vs,H,G,I,N,_⟩:=zX K t E;split at h
    ·rename_i A;exact BU h (bk D _ (G A)) I
    ·have C:=bind_some h;clear h;obtain ⟨l,z,h⟩:=C;exact BU h (hlist z H) I
   ·cases h
  ·simp only [Xqp] at h;obtain ⟨l,z,rfl⟩:=h;simp only [VR] at f;obtain ⟨vs,e,q⟩:=f;simp only [PR];exact ⟨vs,e,hlist z q⟩
  ·simp only [Xqp] at h;obtain ⟨l,z,rfl⟩:=h;simp only [VR] at f;obtain ⟨vs,e,q⟩:=f;simp only [PR];exact ⟨vs,e,hlist z q⟩
  ·have C:=bind_some h;clear h;obtain ⟨a,ha,h⟩:=C;simp only [Xqp] at h;obtain ⟨c,X,rfl⟩:=h;simp only [VR] at f;obtain ⟨R,V,e,q,r⟩:=f;simp only [PR];exact ⟨R,V,e,hlist ha q,hlist X r⟩
  ·simp only [Xqp] at h;obtain ⟨u,hu,rfl⟩:=h;simp only [VR] at f;obtain ⟨W,e,q⟩:=f;simp only [PR];exact ⟨W,e,ih _ _ _ hu q⟩
  ·cases h
  ·rename_i n1 n2 O T n4 Z n6 Y;cases h;refine bP D _ ?_;cases x<;>first
    |exact absurd rfl (n1 _ _ _ _)
    |exact absurd rfl (n2 _ _ _)
    |exact absurd rfl (O _ _)
    |exact absurd rfl (T _)
    |exact absurd rfl (n4 _)
    |exact absurd rfl (Z _ _ _)
    |exact absurd rfl (n6 _ _)
    |exact absurd rfl (Y _ _ _)
    |(simp only [VR] at f;exact f)
    |(simp only [PR])
end
end AM
