/- The abstract machine over the code of the model, and the proof that it is sound. No conditions. -/
import Derived.Test.YtcjindbblhcopaaGreatDoorM1
import Derived.Laws.BytesString
import Derived.Laws.MakeOwn
import Derived.Laws.OwnMore
set_option linter.unusedSimpArgs false
set_option linter.unusedVariables false
namespace AM
open Go
section
variable {P:Program} {ap:AP} {g:HpF} {m:anV} {S:anR} {w:World}
theorem aDZ {x:AV} {v:Value} (h:VR g m S x v) (hl:∀ y ∈ x.cells,ayc y=true):VRL g m S x.cells v.cells.toList∧∀ u ∈ v.cells,u.oneCell'=true:=by
 cases x
 case agg l=>
  simp only [VR] at h
  obtain ⟨vs,rfl,h⟩:=h
  refine ⟨by simpa [Value.cells,AV.cells] using h, ?_⟩
  intro u hu
  simp only [Value.cells] at hu
  simp only [AV.cells] at hl
  have:∀ (l:List AV) (vs:List Value),VRL g m S l vs→(∀ y ∈ l,ayc y=true)→∀ u ∈ vs,u.oneCell'=true:=by
   intro l
   induction l with
   |nil=>intro vs hv _ u hu;cases vs<;>simp [VRL] at hv hu
   | cons a r ih=>
    intro vs hv hl u hu
    cases vs with
    |nil=>simp [VRL] at hv
    |cons b q=>
     simp only [VRL] at hv
     rcases List.mem_cons.1 hu with rfl|hu
     ·exact aJw hv.1 (hl a (by simp))
     ·exact ih q hv.2 (fun y hy=>hl y (by simp [hy])) u hu
  exact this l vs h hl u (by simpa using hu)
 all_goals
  have hone:=aJw h (hl _ (by simp [AV.cells]))
  have hc:v.cells=#[v]:=by cases v<;>simp [Value.cells,Value.oneCell'] at hone ⊢
  rw [hc]
  refine ⟨by simp only [AV.cells,VRL];exact ⟨h,trivial⟩,by simpa using hone⟩
theorem aGl:∀ (vs:List Value) (i off:Nat) (cs:Array Value),off+i+vs.length≤cs.size→
  ((vs.zipIdx i).foldl (fun (cs:Array Value) (p:Value × Nat)=>cs.setIfInBounds (off+p.2) p.1) cs).toList=cs.toList.take (off+i)++vs++cs.toList.drop (off+i+vs.length)
 | [],i,off,cs,_=>by simp
 | v::vs,i,off,cs,h=>by
  simp only [List.length_cons] at h
  simp only [List.zipIdx_cons,List.foldl_cons]
  rw [aGl vs (i+1) off (cs.setIfInBounds (off+i) v) (by simp;omega)]
  have hlt:off+i<cs.toList.length:=by simp;omega
  simp only [Array.toList_setIfInBounds]
  rw [show off+(i+1)=off+i+1 from by omega,List.set_eq_take_append_cons_drop,if_pos hlt]
  have e1:(cs.toList.take (off+i)++v::cs.toList.drop (off+i+1)).take (off+i+1)=cs.toList.take (off+i)++ [v]:=by
   rw [List.take_append]
   have e0:off+i+1 - (cs.toList.take (off+i)).length=1:=by simp [List.length_take];omega
   rw [e0]
   simp [List.take_take]
  have e2:(cs.toList.take (off+i)++v::cs.toList.drop (off+i+1)).drop (off+i+1+vs.length)=cs.toList.drop (off+i+(v::vs).length):=by
   rw [List.drop_append]
   have:(cs.toList.take (off+i)).length=off+i:=by simp [List.length_take];omega
   rw [this,List.drop_eq_nil_of_le (by rw [this];omega),List.nil_append,show off+i+1+vs.length - (off+i)=vs.length+1 from by omega,List.drop_succ_cons,List.drop_drop]
   congr 1
   simp;omega
  rw [e1,e2]
  simp
theorem aKV {xs vs:List AV} {cs us:List Value} {off:Nat} (h:VRL g m S xs cs) (h':VRL g m S vs us):VRL g m S (awj xs off vs) (cs.take off++us++cs.drop (off+us.length)):=by
 unfold awj
 rw [← auc h']
 exact av2 (av2 (ay1 _ h) h') (az4 _ h)
theorem aQl {xs vs:List AV} {cs us:List Value} {off:Nat} (h:PRL S xs cs) (h':PRL S vs us):PRL S (awj xs off vs) (cs.take off++us++cs.drop (off+us.length)):=by
 unfold awj
 rw [← aBg h']
 exact ax1 (ax1 (axa _ h) h') (ayZ _ h)
def ax3 (g:HpF) (m:anV) (S:anR) (place:Nat→Option (Nat × Nat)):List (Nat × Nat × AV)→List (Nat × Value)→Prop
 | [],[]=>True
 |(off,size,v)::r,(i,c)::q=>place i=some (off,size)∧VR g m S v c∧ax3 g m S place r q
 |_,_=>False
theorem ayD {place:Nat→Option (Nat × Nat)}:∀ (ps:List (Nat × Nat × AV)) (qs:List (Nat × Value)) (cells cells':List AV) (cs:Array Value),ax3 g m S place ps qs→VRL g m S cells cs.toList→aA6 cells ps=some cells'→
  ∃ cs',Instr.fill place cs qs=some cs'∧VRL g m S cells' cs'.toList∧cs'.size=cs.size
 | [],[],cells,cells',cs,_,hv,h=>by simp [aA6] at h;subst h;exact ⟨cs,rfl,hv,rfl⟩
 | (off,size,v)::r,(i,c)::q,cells,cells',cs,hp,hv,h=>by
  simp only [ax3] at hp
  simp only [aA6] at h
  split at h
  ·rename_i hc
   simp only [Bool.and_eq_true] at hc
   obtain ⟨⟨c1,c2⟩,c3⟩:=hc
   obtain ⟨h1,h2⟩:=aDZ hp.2.1 (fun y hy=>List.all_eq_true.1 c3 y hy)
   have hl:=auc h1
   have hl':=auc hv
   have c1:=anN c1
   have c2:=avI c2
   have hsz:c.cells.size=size:=by simp only [Array.length_toList] at hl;omega
   have hle:off+c.cells.size≤cs.size:=by simp only [Array.length_toList] at hl';omega
   have hf:=aGl c.cells.toList 0 off cs (by simpa using hle)
   have hv':VRL g m S (awj cells off v.cells) ((c.cells.zipIdx.foldl (fun (cs:Array Value) (p:Value × Nat)=>cs.setIfInBounds (off+p.2) p.1) cs)).toList:=by
    rw [← Array.foldl_toList,Array.toList_zipIdx,hf]
    simp only [Nat.add_zero]
    exact aKV hv h1
   obtain ⟨cs',e,e2,e3⟩:=ayD r q _ cells' _ hp.2.2 hv' h
   refine ⟨cs', ?_,e2, ?_⟩
   ·simp only [Instr.fill,hp.1]
    rw [if_neg (by simp;omega)]
    exact e
   ·rw [e3,← Array.length_toList,← Array.foldl_toList,Array.toList_zipIdx,hf]
    simp
    omega
  ·cases h
 | [],_::_,_,_,_,hp,_,_=>by simp [ax3] at hp
 |_::_,[],_,_,_,hp,_,_=>by simp [ax3] at hp
theorem ay2 {t:Nat} {ti:TI} {i:TypeInfo} {d:TypeDesc} {z:Value} (ht:TyR P t ti i d z):VRL g m S ti.zero z.cells.toList:=by
 rw [ht.zcells];exact aoa _ (aA1 S _)
def aBF (g:HpF) (m:anV) (S:anR):List (Nat × AV)→List (Nat × Value)→Prop
 | [],[]=>True
 |(i,v)::r,(j,c)::q=>i=j∧VR g m S v c∧aBF g m S r q
 |_,_=>False
theorem azC {size:Nat}:∀ {ps:List (Nat × AV)} {qs:List (Nat × Value)},aBF g m S ps qs→ax3 g m S (fun i=>some (i*size,size)) (ps.map fun (i,v)=>(i*size,size,v)) qs
 | [],[],_=>by simp [ax3]
 |(i,v)::r,(j,c)::q,h=>by
  simp only [aBF] at h
  obtain ⟨rfl,h1,h2⟩:=h
  simp only [List.map_cons,ax3]
  exact ⟨trivial,h1,azC h2⟩
 | [],_::_,h=>by simp [aBF] at h
 |_::_,[],h=>by simp [aBF] at h
theorem aC8 {fs:List (Nat × Nat × Nat)} {place:Nat→Option (Nat × Nat)} (hp:∀ i x,fs[i]? =some x→place i=some (x.1,x.2.2)):∀ {ps:List (Nat × AV)} {qs:List (Nat × Value)} {rs:List (Nat × Nat × AV)},aBF g m S ps qs→
  aw8 (fun (q:Nat × AV)=>(fs[q.1]?).map fun (x:Nat × Nat × Nat)=>(x.1,x.2.2,q.2)) ps=some rs→ax3 g m S place rs qs
 | [],[],rs,_,h=>by simp [aw8] at h;subst h;simp [ax3]
 | (i,v)::r,(j,c)::q,rs,hn,h=>by
  simp only [aBF] at hn
  obtain ⟨rfl,h1,h2⟩:=hn
  simp only [aw8] at h
  cases hf:fs[i]? with
  |none=>simp [hf] at h
  | some x=>
   simp only [hf,Option.map_some] at h
   split at h
   ·rename_i l hl
    cases h
    simp only [ax3]
    exact ⟨hp i x hf,h1,aC8 hp h2 hl⟩
   ·cases h
 | [],_::_,_,h,_=>by simp [aBF] at h
 |_::_,[],_,h,_=>by simp [aBF] at h
theorem aC7:∀ (fields:List Field),(∀ f ∈ fields,(P.info? f.type).isSome)→fields.mapM (fun f=>(P.info? f.type).map fun i=>(f.offset,i.size))=some (fields.map fun f=>(f.offset,match P.info? f.type with|some i=>i.size|none=>0))
 | [],_=>rfl
 | f::r,h=>by
  cases hi:P.info? f.type with
  |none=>have:=h f (by simp);simp [hi] at this
  |some i=>
   simp [List.mapM_cons,hi,aC7 r (fun f hf=>h f (by simp [hf]))]
theorem aG3 (hap:awf P ap) {t:Nat} {ti:TI} {i:TypeInfo} {d:TypeDesc} {z:Value} (ht:TyR P t ti i d z) {ps:List (Nat × AV)} {qs:Array (Nat × Value)} (hn:aBF g m S ps qs.toList) {v:AV} {ups:List (Nat × Blk)} {bs:List Bool}
  (h:aJG ap ti ps=some (v,ups,bs)):ups= []∧∃ cv,(Instr.build t qs).run P w= .ok cv w∧VR g m S v cv:=by
 unfold aJG at h
 split at h
 ·rename_i fs hd
  have hq:=bind_some h;clear h;obtain ⟨rs,hrs,h⟩:=hq
  have hq:=bind_some h;clear h;obtain ⟨cs,hcs,h⟩:=hq
  obtain ⟨rfl,rfl,rfl⟩:=anP h
  rw [ht.d_eq] at hd
  obtain ⟨fields,rfl,rfl⟩:=aAQ hd
  by_cases hall:∀ f ∈ fields.toList,(P.info? f.type).isSome
  ·have hpl:=aC7 fields.toList hall
   have hpr:=aC8 (place:=((fields.toList.map fun f=>(f.offset,match P.info? f.type with|some i=>i.size|none=>0)).toArray[·]?)) (by
    intro i x hx
    simp only [List.getElem?_map,Option.map_eq_some_iff] at hx
    obtain ⟨f,hf,rfl⟩:=hx
    simp [hf]
    rfl) hn hrs
   obtain ⟨cs',e1,e2,_⟩:=ayD rs qs.toList ti.zero cs z.cells hpr (ay2 ht) hcs
   refine ⟨rfl,.agg cs',run_build w t qs cs' ?_, ?_⟩
   ·simp only [Program.built,ht.info,ht.und,ht.zero]
    rw [hpl]
    exact e1
   ·simp only [VR];exact ⟨cs'.toList,by simp,e2⟩
  ·exfalso
   apply hall
   intro f hf
   have:=ht.fld
   simp only [aOd] at this
   exact List.all_eq_true.1 this f hf
 ·rename_i n e hd
  have hq:=bind_some h;clear h;obtain ⟨te,hte,h⟩:=hq
  have hq:=bind_some h;clear h;obtain ⟨cs,hcs,h⟩:=hq
  obtain ⟨rfl,rfl,rfl⟩:=anP h
  obtain ⟨ie,de,ze,hte⟩:=ava hap hte
  rw [ht.d_eq] at hd
  have hd:=aCk hd
  subst hd
  obtain ⟨cs',e1,e2,_⟩:=ayD _ qs.toList ti.zero cs z.cells (azC (size:=te.size) hn) (ay2 ht) hcs
  refine ⟨rfl,.agg cs',run_build w t qs cs' ?_, ?_⟩
  ·simp only [Program.built,ht.info,ht.und,ht.zero,hte.info]
   rw [← hte.size]
   exact e1
  ·simp only [VR];exact ⟨cs'.toList,by simp,e2⟩
 ·cases h
end
end AM
namespace AM
open Go
section
variable {P:Program} {ap:AP} {g:HpF} {m:anV} {S:anR} {w:World}
theorem aBu {t:Nat} {ti:TI} {i:TypeInfo} {d:TypeDesc} {z:Value} (ht:TyR P t ti i d z) {v:AV} (h:azg ti ti.zero=some v):VR g m S v z:=by
 have hz:=ay2 (g:=g) (m:=m) (S:=S) ht
 have ha:=ht.zagg
 unfold azg at h
 rw [ht.d_eq,aFo] at h
 unfold aWj at ha
 rw [ht.zero] at ha
 split at h
 ·rename_i hrow
  cases h
  cases d<;>simp [TypeDesc.isRow] at hrow<;>cases z<;>simp at ha
  all_goals
   simp only [VR]
   exact ⟨_,rfl,by simpa [Value.cells] using hz⟩
 ·rename_i hrow
  split at h
  ·rename_i c hc
   cases h
   have hzc:z.cells=#[z]:=by
    cases z<;>first|rfl|skip
    cases d<;>simp [TypeDesc.isRow] at hrow ha
   rw [hc,hzc] at hz
   simp only [VRL] at hz
   exact hz.1
  ·cases h
theorem aFO (hap:awf P ap) {x v:AV} {cx:Value} (hx:VR g m S x cx) {asserted:Nat} {ok:Bool} {ups:List (Nat × Blk)} {bs:List Bool} (h:aG1 ap x asserted ok=some (v,ups,bs)) (xt:Nat):
  ups= []∧∃ cv,(Instr.typeAssert cx xt asserted ok).run P w= .ok cv w∧VR g m S v cv:=by
 unfold aG1 at h
 have hq:=bind_some h;clear h;obtain ⟨ti,hti,h⟩:=hq
 obtain ⟨i,d,z,ht⟩:=ava hap hti
 have hnot:∀ ms,d ≠ .interface ms:=by
  intro ms e;subst e;rw [ht.d_eq] at h;simp [awG] at h
 have key:∀ (c:Value),(∃ t u,c= .iface t u∧t ≠ asserted)∨c= .nilIface→∀ zz,VR g m S zz z→ok=true→(Instr.typeAssert c xt asserted ok).run P w= .ok (.tuple #[z,.bool false]) w:=by
  intro c hc zz _ hok
  subst hok
  rcases hc with ⟨t,u,rfl,hne⟩|rfl
  ·cases d<;>first|exact absurd rfl (hnot _)|simp [Instr.typeAssert,run_underlying ht.und,hne,zeroValue,typeInfo,ht.info,ht.zero]
  ·cases d<;>first|exact absurd rfl (hnot _)|simp [Instr.typeAssert,run_underlying ht.und,zeroValue,typeInfo,ht.info,ht.zero]
 split at h
 ·cases h
 ·split at h
  ·rename_i t u
   simp only [VR] at hx
   obtain ⟨cu,rfl,hu⟩:=hx
   split at h
   ·rename_i ht'
    have ht':=anN ht'
    subst ht'
    obtain ⟨rfl,rfl,rfl⟩:=anP h
    cases ok
    ·refine ⟨rfl,cu, ?_,hu⟩
     cases d<;>first|exact absurd rfl (hnot _)|simp [Instr.typeAssert,run_underlying ht.und]
    ·refine ⟨rfl,.tuple #[cu,.bool true], ?_, ?_⟩
     ·cases d<;>first|exact absurd rfl (hnot _)|simp [Instr.typeAssert,run_underlying ht.und]
     ·simp only [VR];exact ⟨[cu,.bool true],rfl,by simp only [VRL,VR,PR];exact ⟨hu,trivial,trivial⟩⟩
   ·rename_i ht'
    have hne:t ≠ asserted:=by intro e;subst e;simp at ht'
    cases ok
    ·cases h
    ·simp only at h
     have hq:=bind_some h;clear h;obtain ⟨zz,hz,h⟩:=hq
     obtain ⟨rfl,rfl,rfl⟩:=anP h
     have hzz:=aBu (g:=g) (m:=m) (S:=S) ht hz
     refine ⟨rfl,_,key _ (.inl ⟨_,_,rfl,hne⟩) zz hzz rfl, ?_⟩
     simp only [VR];exact ⟨[z,.bool false],rfl,by simp only [VRL,VR,PR];exact ⟨hzz,trivial,trivial⟩⟩
  ·simp only [VR,PR] at hx
   subst hx
   cases ok
   ·cases h
   ·simp only at h
    have hq:=bind_some h;clear h;obtain ⟨zz,hz,h⟩:=hq
    obtain ⟨rfl,rfl,rfl⟩:=anP h
    have hzz:=aBu (g:=g) (m:=m) (S:=S) ht hz
    refine ⟨rfl,_,key _ (.inr rfl) zz hzz rfl, ?_⟩
    simp only [VR];exact ⟨[z,.bool false],rfl,by simp only [VRL,VR,PR];exact ⟨hzz,trivial,trivial⟩⟩
  ·cases h
theorem azJ (hS:apS ap g m S w) {rd:HpF} (hrd:∀ b B,rd b=some B→g b=some B) {size:Nat} {x:AV} {cx:Value} (hx:VR g m S x cx) {xs:List AV} {n:Nat} {pr:Bool} (h:aI5 size rd x=some (xs,n,pr)) (hl:xs.length=n*size)
  {tx:Nat} (hk:((∃ s,x= .str s)∧P.underlying tx=some .string∧size=1)∨((∀ s,x ≠ .str s)∧∃ e,P.underlying tx=some (.slice e))):
  ∃ news,Src P size tx cx n news w∧VRL g m S xs news∧(pr=true→PRL S xs news):=by
 unfold aI5 at h
 split at h
 ·rename_i xs' n' nn
  cases h
  obtain ⟨_,e,he⟩:=hk.resolve_left (by rintro ⟨⟨s,hs⟩,_⟩;cases hs)
  simp only [VR,PR] at hx
  obtain ⟨a,cap,rfl,hle,q⟩:=hx
  rcases q with ⟨rfl,_,rfl,rfl,rfl⟩|⟨b,o,vs,rfl,hp,hs⟩
  ·exact ⟨[],Src.ofNil w he 0,by simp [VRL],fun _=>by simp [PRL]⟩
  ·refine ⟨vs,Src.ofSlice w he ⟨b,o,none⟩ n cap vs (by rw [← aBg hp,hl]) (fun j u hj=>by rw [Addr.add_mid];exact hS.one (hs j u hj).1 (hs j u hj).2) ?_,aoa _ hp,fun _=>hp⟩
   intro u hu
   obtain ⟨j,hj⟩:=List.getElem?_of_mem hu
   exact (hs j u hj).2
 ·cases h
  obtain ⟨_,e,he⟩:=hk.resolve_left (by rintro ⟨⟨s,hs⟩,_⟩;cases hs)
  simp only [VR,PR] at hx
  subst hx
  exact ⟨[],Src.ofNil w he 0,by simp [VRL],fun _=>by simp [PRL]⟩
 ·rename_i s
  cases h
  obtain ⟨_,he,hsz⟩:=hk.resolve_right (by rintro ⟨hs,_⟩;exact hs s rfl)
  simp only [VR,PR] at hx
  subst hx
  subst hsz
  have hp:∀ s:List UInt8,PRL S (s.map fun b=>AV.int .u8 b.toNat) (s.map fun b=>Value.int .u8 b.toNat):=by
   intro s
   induction s with
   |nil=>simp [PRL]
   |cons a r ih=>simp only [List.map_cons,PRL,PR];exact ⟨trivial,ih⟩
  have hsrc:=Src.ofString (P:=P) w he ⟨s.toArray⟩
  have hb:byteCells ⟨s.toArray⟩=s.map fun b=>Value.int .u8 b.toNat:=by simp [byteCells]
  rw [hb,aCi] at hsrc
  exact ⟨_,hsrc,aoa _ (hp s),fun _=>hp s⟩
 ·rename_i b ver j n'
  have hq:=bind_some h;clear h;obtain ⟨B,hB,h⟩:=hq
  split at h
  ·rename_i hc
   cases h
   simp only [Bool.and_eq_true,Bool.not_eq_true'] at hc
   obtain ⟨hc,hc0⟩:=hc
   have hnz:B.esz ≠ awg:=fun e=>by rw [e] at hc0;exact absurd hc0 (by decide)
   obtain ⟨_,e,he⟩:=hk.resolve_left (by rintro ⟨⟨s,hs⟩,_⟩;cases hs)
   simp only [VR] at hx
   obtain ⟨B',hB',_,_,q⟩:=hx
   have hgB:=hrd b B hB
   rw [hgB] at hB';cases hB'
   obtain ⟨o,rfl,q1,q2,q3⟩:=q (anN hc.1)
   have hes:=anN hc.2
   obtain ⟨cur,e',vs,rest,hk',hcur,hp,hv,ho,hcap⟩:=(hS.blk b B hgB).lies
   have hk':=hk'.cells hnz
   have ho:=ho hnz
   have hlen:=auc hv
   have hnl:((vs.drop (j*size)).take (n*size)).length=n*size:=by
    rw [← auc (ay1 _ (az4 _ hv))];exact hl
   by_cases hn:n=0
   ·subst hn
    have hnil:(vs.drop (j*size)).take (0*size)= []:=by simp
    refine ⟨[], ?_, ?_, ?_⟩
    ·exact Src.ofSlice w he _ 0 _ [] (by simp) (fun _ _ h=>by simp at h) (fun _ h=>by simp at h)
    ·simp [VRL]
    ·intro _;simp [PRL]
   ·have hoff:=q2 (by omega)
    refine ⟨(vs.drop (j*size)).take (n*size),Src.ofSlice w he _ n _ _ hnl ?_ ?_,ay1 _ (az4 _ hv),fun pr=>axa _ (ayZ _ (hp pr))⟩
    ·intro jj u hj
     rw [hoff,Addr.add_mid,hes,az9 hk',hcur]
     rw [List.getElem?_take] at hj
     split at hj
     ·rw [List.getElem?_drop] at hj
      rw [List.getElem?_append_left (List.getElem?_eq_some_iff.1 hj).1]
      exact hj
     ·cases hj
    ·intro u hu
     exact ho u (List.mem_of_mem_drop (List.mem_of_mem_take hu))
  ·cases h
 ·cases h
theorem aGC:∀ (ns:List Int) (s:List UInt8),ns.foldl (fun (r:ByteArray) n=>r.push (UInt8.ofNat n.toNat)) ⟨s.toArray⟩=⟨(s++ns.map fun n=>UInt8.ofNat n.toNat).toArray⟩
 | [],s=>by simp
 |n::ns,s=>by
  simp only [List.foldl_cons]
  have e:(⟨s.toArray⟩:ByteArray).push (UInt8.ofNat n.toNat)=⟨(s++ [UInt8.ofNat n.toNat]).toArray⟩:=by simp [ByteArray.push]
  rw [e,aGC ns]
  simp
theorem aEc (hap:awf P ap) (hS:apS ap g m S w) {rd:HpF} (hrd:∀ b B,rd b=some B→g b=some B) {s d:Nat} {ts td:TI} (hts:ap.tyAt s=some ts) (htd:ap.tyAt d=some td) {x v:AV} {cx:Value} (hx:VR g m S x cx) {ups:List (Nat × Blk)} {bs:List Bool}
  (h:aEb ap ts td rd x=some (v,ups,bs)) (hbs:∀ b ∈ bs,b=true):ups= []∧∃ cv,(convert s d cx).run P w= .ok cv w∧VR g m S v cv:=by
 obtain ⟨i1,d1,z1,h1⟩:=ava hap hts
 obtain ⟨i2,d2,z2,h2⟩:=ava hap htd
 unfold aEb at h
 split at h
 ·rename_i k k' n hd
  obtain ⟨rfl,rfl,rfl⟩:=anP h
  rw [h2.d_eq] at hd
  have hd:=aPS hd
  subst hd
  simp only [VR,PR] at hx
  subst hx
  exact ⟨rfl,_,by simp [convert,run_underlying h1.und,run_underlying h2.und,Conv.intToInt];rfl,by simp only [VR,PR]⟩
 ·rename_i s' hd1 hd2
  obtain ⟨rfl,rfl,rfl⟩:=anP h
  rw [h1.d_eq] at hd1
  rw [h2.d_eq] at hd2
  have hd1:=aBA hd1
  have hd2:=aBA hd2
  subst hd1;subst hd2
  simp only [VR,PR] at hx
  subst hx
  exact ⟨rfl,_,by simp [convert,run_underlying h1.und,run_underlying h2.und];rfl,by simp only [VR,PR]⟩
 ·rename_i x0 e hd1 hd2
  have hq:=bind_some h;clear h;obtain ⟨te,hte,h⟩:=hq
  obtain ⟨ie,de,ze,hte⟩:=ava hap hte
  split at h
  ·cases h
  ·rename_i xa xt xb hde hx''
   have hq:=bind_some h;clear h;obtain ⟨⟨xs,n,pr⟩,hsrc,h⟩:=hq
   obtain ⟨rfl,rfl,rfl⟩:=anP h
   obtain ⟨b1,b2⟩:=aui hbs
   obtain ⟨b2,_⟩:=aui b2
   rw [h1.d_eq] at hd1
   rw [h2.d_eq] at hd2
   have hd1:=avY hd1
   have hd2:=aBA hd2
   subst hd1;subst hd2
   rw [hte.d_eq] at hde
   have hde:=aPS hde
   subst hde
   have b1:=anN b1
   obtain ⟨news,hs,hv,_⟩:=azJ (P:=P) hS hrd hx hsrc (by omega) (tx:=s) (.inr ⟨fun s e=>hx'' s e,e,h1.und⟩)
   have hns:news=(xs.map AV.toInt).map (Value.int .u8):=by
    have:∀ (xs:List AV) (news:List Value),VRL g m S xs news→xs.all (chk (.int .u8))=true→news=(xs.map AV.toInt).map (Value.int .u8):=by
     intro xs
     induction xs with
     |nil=>intro news h _;cases news<;>simp [VRL] at h ⊢
     | cons a r ih=>
      intro news h hc
      cases news with
      |nil=>simp [VRL] at h
      |cons c q=>
       simp only [VRL] at h
       simp only [List.all_cons,Bool.and_eq_true] at hc
       rw [List.map_cons,List.map_cons,ih q h.2 hc.2]
       congr 1
       cases a<;>simp [chk] at hc
       simp only [VR,PR] at h
       rw [h.1,awe hc.1]
       rfl
    exact this xs news hv b2
   refine ⟨rfl,.string ⟨((xs.map AV.toInt).map fun n=>UInt8.ofNat n.toNat).toArray⟩, ?_, ?_⟩
   ·have hcells:=hs.cells
    have hlen:=hs.len w
    have hx2:=hx
    cases cx
    case slice a l c=>
     have hl:l=n:=by simpa [Builtin.lenOf] using hlen
     subst hl
     cases a with
     | none=>
      have hn0:news= []:=by simpa [Builtin.firstCells] using hcells.symm
      rw [hn0] at hns
      have hx0:xs= []:=by
       have:(xs.map AV.toInt).map (Value.int .u8)= []:=hns.symm
       simpa using this
      subst hx0
      simp [convert,run_underlying h1.und,run_underlying h2.und,run_underlying hte.und,Conv.bytesToString]
      rfl
     | some a=>
      have hlc:(loadCells a l).run P w= .ok ((xs.map AV.toInt).map (Value.int .u8)).toArray w:=by
       rw [← hns];simpa [Builtin.firstCells] using hcells
      have hb:=run_bytesToString (P:=P) w a l c _ hlc
      rw [show ByteArray.empty=⟨([]:List UInt8).toArray⟩ from rfl,aGC,List.nil_append] at hb
      simp only [convert,Sem.run_bind,run_underlying h1.und,run_underlying h2.und,run_underlying hte.und,Result.andThen_ok]
      exact hb
    all_goals (simp [Builtin.lenOf] at hlen)
    case string s0=>
     exfalso
     cases xa<;>simp [aI5] at hsrc
     case str s1=>exact hx'' s1 rfl
     case nilS=>simp only [VR,PR] at hx2;cases hx2
     case sl a b c=>simp only [VR,PR] at hx2;obtain ⟨_,_,h,_⟩:=hx2;cases h
     case ref a b c d=>simp only [VR] at hx2;obtain ⟨_,_,_,⟨_,_,_,h⟩,_⟩:=hx2;cases h
   ·simp only [VR,PR]
    simp [List.map_map,Function.comp_def]
  ·cases h
 ·cases h
end
end AM
namespace AM
open Go
def au6 (g:HpF) (ups:List (Nat × Blk)):HpF:=fun b=>match ad9 ups b with|some B=>some B|none=>g b
def aw9 (m:anV) (b:Nat) (x:Nat × Nat):anV:=fun c=>if c=b then x else m c
theorem avU {α:Type}:∀ (a b:List (Nat × α)) (t:Nat),ad9 (a++b) t=match ad9 a t with|some x=>some x|none=>ad9 b t
 | [],b,t=>rfl
 |(u,x)::r,b,t=>by
  simp only [List.cons_append,ad9]
  split
  ·rfl
  ·exact avU r b t
theorem aw7 (ups:List (Nat × Blk)) (hp:Hp):au6 (ad9 hp) ups=ad9 (ups++hp):=by
 funext b;rw [avU];unfold au6;cases ad9 ups b<;>rfl
theorem avt (g:HpF):au6 g []=g:=rfl
theorem axC (g:HpF) (b:Nat) (B:Blk) (c:Nat):au6 g [(b,B)] c=if c=b then some B else g c:=by
 simp only [au6,ad9]
 by_cases h:c=b
 ·subst h;simp
 ·have:Nat.beq b c=false:=by
   cases hb:Nat.beq b c with
   |false=>rfl
   |true=>exact absurd (anN hb).symm h
  rw [this,if_neg h]
section
variable {P:Program} {ap:AP} {g:HpF} {m:anV} {S:anR} {w:World}
theorem aLP.mono {g g':HpF} {m m':anV} {S S':anR} {w w':World} {B:Blk} {k c:Nat} (h:aLP g m S w B k c) (hS:SLe S S') (hg:Ge g m g' m') (hw:w'.heap[k]? =w.heap[k]?):aLP g' m' S' w' B k c:=by
 obtain ⟨⟨cur,e,vs,rest,h1,h2,h3,h4,h5,h6⟩,h7,h8⟩:=h
 exact ⟨⟨cur,e,vs,rest,h1.same hw,h2,fun p=>an6 hS _ (h3 p),axx hS hg _ h4,h5,h6⟩,h7,h8⟩
theorem apS.seal_lt (h:apS ap g m S w) {k o:Nat} {v:Value} (hv:S k o=some v):k<w.heap.size:=aId (h.sealed k o v hv)
theorem apS.put (h:apS ap g m S w) (b:Nat) (B:Blk) (k c:Nat) {w':World}
  (hk:w.heap.size≤k∨∃ B0,g b=some B0∧k=(m b).1) (hw:w.grownBy w' (some k)) (hblk:aLP g m S w' B k c)
  (hge:∀ B0,g b=some B0→B.esz=B0.esz∧((B.ver=B0.ver∧(k,c)=m b)∨B0.ver<B.ver))
  (hseal:∀ o v,S k o=some v→au2 w' k o=some v∧B.fro=true∧o<B.fz):
  apS ap (au6 g [(b,B)]) (aw9 m b (k,c)) S w'∧Fr g m S w (au6 g [(b,B)]) (aw9 m b (k,c)) S w':=by
 have hGe:Ge g m (au6 g [(b,B)]) (aw9 m b (k,c)):=by
  intro b1 B1 hB1
  by_cases e:b1=b
  ·subst e
   obtain ⟨e1,e2⟩:=hge B1 hB1
   refine ⟨B,by rw [axC,if_pos rfl],e1, ?_⟩
   rcases e2 with ⟨e2,e3⟩|e2
   ·exact .inl ⟨e2,by simp [aw9,e3]⟩
   ·exact .inr e2
  ·exact ⟨B1,by rw [axC,if_neg e];exact hB1,rfl,.inl ⟨rfl,by simp [aw9,e]⟩⟩
 have hne:∀ b1 B1,g b1=some B1→b1 ≠ b→(m b1).1 ≠ k:=by
  intro b1 B1 hB1 hb1 e
  have hlt:=h.lt hB1
  rcases hk with hk|⟨B0,hB0,hk⟩
  ·omega
  ·exact hb1 (h.inj b1 b B1 B0 hB1 hB0 (e.trans hk))
 have hold:∀ k0,k0<w.heap.size→k0 ≠ k→w'.heap[k0]? =w.heap[k0]? :=fun k0 hlt hk0=>hw.block k0 hlt (by simpa using hk0)
 constructor
 ·refine ⟨?_, ?_, ?_, ?_,h.glob⟩
  ·intro b1 b2 B1 B2 h1 h2 he
   rw [axC] at h1 h2
   by_cases e1:b1=b<;>by_cases e2:b2=b
   ·rw [e1,e2]
   ·rw [if_neg e2] at h2
    simp only [aw9,e1,if_true,if_neg e2] at he
    exact absurd he.symm (hne b2 B2 h2 e2)
   ·rw [if_neg e1] at h1
    simp only [aw9,e2,if_true,if_neg e1] at he
    exact absurd he (hne b1 B1 h1 e1)
   ·rw [if_neg e1] at h1
    rw [if_neg e2] at h2
    simp only [aw9,if_neg e1,if_neg e2] at he
    exact h.inj b1 b2 B1 B2 h1 h2 he
  ·intro b1 B1 h1
   rw [axC] at h1
   by_cases e1:b1=b
   ·rw [if_pos e1] at h1
    cases h1
    simp only [aw9,if_pos e1]
    exact hblk.mono (SLe.refl S) hGe rfl
   ·rw [if_neg e1] at h1
    simp only [aw9,if_neg e1]
    exact (h.blk b1 B1 h1).mono (SLe.refl S) hGe (hold _ (h.lt h1) (hne b1 B1 h1 e1))
  ·intro k0 o v hv
   by_cases e:k0=k
   ·subst e;exact (hseal o v hv).1
   ·rw [aJH (hold k0 (h.seal_lt hv) e)]
    exact h.sealed k0 o v hv
  ·intro b1 B1 h1 o v hv
   rw [axC] at h1
   by_cases e1:b1=b
   ·rw [if_pos e1] at h1
    cases h1
    simp only [aw9,if_pos e1] at hv
    exact (hseal o v hv).2
   ·rw [if_neg e1] at h1
    simp only [aw9,if_neg e1] at hv
    exact h.own b1 B1 h1 o v hv
 ·refine ⟨hGe,SLe.refl S,hw.os,hw.tape,hw.output,hw.size, ?_, ?_,fun _ _ _ hv=> .inl hv⟩
  ·intro k0 hlt hn
   refine hold k0 hlt (fun e=> ?_)
   subst e
   rcases hk with hk|⟨B0,hB0,hk⟩
   ·omega
   ·exact hn b B0 hB0 hk.symm
  ·intro b1 B1 h1
   rw [axC] at h1
   by_cases e1:b1=b
   ·subst e1
    rcases hk with hk|⟨B0,hB0,hk⟩
    ·exact .inl (by simpa [aw9] using hk)
    ·exact .inr ⟨B0,hB0,by simp [aw9,hk]⟩
   ·rw [if_neg e1] at h1
    exact .inr ⟨B1,h1,by simp [aw9,e1]⟩
end
mutual
theorem aH4 {g:HpF} {m:anV} {S:anR}:∀ (x:AV) {v:Value},VR g m S x v→avh x= []→PR S x v
 | .int _ _,_,p,_=>by simpa only [VR] using p
 | .bool _,_,p,_=>by simpa only [VR] using p
 | .str _,_,p,_=>by simpa only [VR] using p
 | .nilS,_,p,_=>by simpa only [VR] using p
 | .nilP,_,p,_=>by simpa only [VR] using p
 | .nilF,_,p,_=>by simpa only [VR] using p
 | .nilI,_,p,_=>by simpa only [VR] using p
 | .sl _ _ _,_,p,_=>by simpa only [VR] using p
 | .pp _ _,_,p,_=>by simpa only [VR] using p
 | .mp _ _,_,p,_=>by simpa only [VR] using p
 | .dead,_,_,_=>by simp only [PR]
 | .own _ _ _,_,p,_=>by simp only [VR] at p
 | .ref _ _ _ _,_,_,h=>by simp [avh] at h
 | .ptr _ _ _,_,_,h=>by simp [avh] at h
 | .mr _ _,_,_,h=>by simp [avh] at h
 | .agg l,_,p,h=>by
  simp only [VR] at p;simp only [PR];simp only [avh] at h
  obtain ⟨vs,e,q⟩:=p
  exact ⟨vs,e,avE l q h⟩
 | .tup l,_,p,h=>by
  simp only [VR] at p;simp only [PR];simp only [avh] at h
  obtain ⟨vs,e,q⟩:=p
  exact ⟨vs,e,avE l q h⟩
 | .fn f a c,_,p,h=>by
  simp only [VR] at p;simp only [PR];simp only [avh,List.append_eq_nil_iff] at h
  obtain ⟨va,vc,e,q,r⟩:=p
  exact ⟨va,vc,e,avE a q h.1,avE c r h.2⟩
 | .ifc t x,_,p,h=>by
  simp only [VR] at p;simp only [PR];simp only [avh] at h
  obtain ⟨u,e,q⟩:=p
  exact ⟨u,e,aH4 x q h⟩
theorem avE {g:HpF} {m:anV} {S:anR}:∀ (l:List AV) {vs:List Value},VRL g m S l vs→auh l= []→PRL S l vs
 | [],[],_,_=>by simp only [PRL]
 |x::r,v::vs,p,h=>by simp only [VRL] at p;simp only [auh,List.append_eq_nil_iff] at h;simp only [PRL];exact ⟨aH4 x p.1 h.1,avE r p.2 h.2⟩
 | [],_::_,p,_=>by simp [VRL] at p
 |_::_,[],p,_=>by simp [VRL] at p
end
section
variable {P:Program} {ap:AP} {g:HpF} {m:anV} {S:anR} {w:World}
theorem ay9 {α:Type} {l:List α} (h:l.isEmpty=true):l= []:=by cases l<;>simp at h ⊢
theorem apS.fresh (h:apS ap g m S w) {nid:Nat} (hn:g nid=none) (B:Blk) (hz:B.esz ≠ awg) (c:Nat) {w':World} {cur:Array Value} {e:TypeId} (hw:w.grownBy w' none) (hnew:w'.heap[w.heap.size]? =some (.cells cur e (0,0)))
  (hver:B.fro=false→B.fz=0) (hfz:B.fz≤B.cells.length) {vs rest:List Value} (hc:cur.toList=vs++rest) (hp:B.pr=true→PRL S B.cells vs) (hv:VRL g m S B.cells vs) (h1:∀ u ∈ vs,u.oneCell'=true) (hcap:0<B.esz→cur.size=c*B.esz∧c≤maxLen):
  apS ap (au6 g [(nid,B)]) (aw9 m nid (w.heap.size,c)) S w'∧Fr g m S w (au6 g [(nid,B)]) (aw9 m nid (w.heap.size,c)) S w':=by
 refine h.put nid B w.heap.size c (.inl (Nat.le_refl _)) ⟨hw.os,hw.tape,hw.output,hw.size,fun k hk _=>hw.block k hk (by simp)⟩ ⟨⟨cur,e,vs,rest,awM.of hz hnew,hc,hp,hv,fun _=>h1,fun h0 _=>hcap h0⟩,hver,hfz⟩ (fun B0 h0=>by rw [hn] at h0;cases h0) ?_
 intro o v hv
 have:=h.seal_lt hv
 omega
theorem aF6 (h:apS ap g m S w) {nid:Nat} (hn:g nid=none) {cells:List AV} {cv:Value} (hv:VRL g m S cells cv.cells.toList) (_hl:∀ x ∈ cells,ayc x=true) (h1:∀ u ∈ cv.cells,u.oneCell'=true) (t:TypeId):
  ∃ m' w',(newVar t cv).run P w= .ok ⟨w.heap.size,0,none⟩ w'∧apS ap (au6 g [awu nid cells 0]) m' S w'∧Fr g m S w (au6 g [awu nid cells 0]) m' S w'∧(m' nid).1=w.heap.size:=by
 have hf:=h.fresh (nid:=nid) hn (awu nid cells 0).2 (by show 0 ≠ awg;decide) 0 (w':=w.alloc (.cells cv.cells t)) (cur:=cv.cells) (e:=t) (World.grownBy_alloc w _ none) (heap_alloc_new w _) (fun _=>rfl) (Nat.zero_le _) (vs:=cv.cells.toList) (rest:= []) (by simp)
  (fun hp=>avE _ hv (ay9 hp)) hv (fun u hu=>h1 u (by simpa using hu)) (fun h=>by simp [awu] at h)
 refine ⟨_,_, ?_,hf.1,hf.2,by simp [aw9]⟩
 simp [newVar,newRow]
theorem aLr {m':anV} {nid:Nat} {cells:List AV} {esz k:Nat} (hk:(m' nid).1=k):VR (au6 g [awu nid cells esz]) m' S (.ptr nid 0 0) (.pointer (some ⟨k,0,none⟩)):=by
 simp only [VR]
 refine ⟨(awu nid cells esz).2, ?_,Nat.zero_le _,⟨_,_,rfl⟩,fun _=>by rw [hk]⟩
 show au6 g [(nid,(awu nid cells esz).2)] nid=_
 rw [axC,if_pos rfl]
theorem aHO (h:apS ap g m S w) {rd:HpF} (hrd:∀ b B,rd b=some B→g b=some B) {t:Nat} {ti:TI} {i:TypeInfo} {d:TypeDesc} {z:Value} (ht:TyR P t ti i d z) {p x v:AV} {cp cx:Value} (hp:VR g m S p cp) (hx:VR g m S x cx)
  {ups:List (Nat × Blk)} {bs:List Bool} (hs:aKG ti rd p x=some (v,ups,bs)) (hbs:∀ b ∈ bs,b=true):
  v= .dead∧∃ m' w',(Instr.storeAt t cp cx).run P w= .ok () w'∧apS ap (au6 g ups) m' S w'∧Fr g m S w (au6 g ups) m' S w':=by
 unfold aKG at hs
 split at hs
 ·rename_i b ver off
  have hq:=bind_some hs;clear hs;obtain ⟨B,hB,hs⟩:=hq
  simp only at hs
  split at hs
  ·rename_i hc
   simp only [Bool.and_eq_true,Bool.not_eq_true'] at hc
   obtain ⟨⟨⟨⟨c1,c2⟩,c3⟩,c4⟩,c5⟩:=hc
   have hnz:B.esz ≠ awg:=fun e=>by rw [e] at c5;exact absurd c5 (by decide)
   cases hs
   have hgB:=hrd b B hB
   have hver:=anN c1
   have hlen:=anN c3
   have hfit:=avI (hbs _ (List.mem_singleton.2 rfl))
   simp only [VR] at hp
   obtain ⟨B',hB',_,_,q⟩:=hp
   rw [hgB] at hB';cases hB'
   have q:=q hver
   subst q
   obtain ⟨hv1,hv2⟩:=aDZ hx (fun y hy=>List.all_eq_true.1 c4 y hy)
   obtain ⟨⟨cur,e,vs,rest,k1,k2,k3,k4,k5,k6⟩,k7,k8⟩:=h.blk b B hgB
   have k1:=k1.cells hnz
   have k5:=k5 hnz
   have hvl:=auc hv1
   have hvl':=auc k4
   have hsz:cx.cells.size=i.size:=by simp only [Array.length_toList] at hvl;rw [← ht.size];omega
   have hcl:cur.toList.length=vs.length+rest.length:=by rw [k2];simp
   have hst:=run_storeCells_at P (m b).1 off e cx.cells.toList 0 cur w k1 (by simp only [Array.length_toList] at hvl hcl ⊢;omega) (fun u hu=>hv2 u (by simpa using hu))
   simp only [Nat.add_zero] at hst
   have hnewl:(cur.toList.take off++cx.cells.toList++cur.toList.drop (off+cx.cells.toList.length))=(vs.take off++cx.cells.toList++vs.drop (off+cx.cells.toList.length))++rest:=by
    rw [k2,List.take_append_of_le_length (by omega),List.drop_append_of_le_length (by omega)]
    simp [List.append_assoc]
   have hput:=h.put b {B with cells:=awj B.cells off x.cells,pr:=B.pr && (auh x.cells).isEmpty} (m b).1 (m b).2 (w':=w.setRow (m b).1 (cur.toList.take off++cx.cells.toList++cur.toList.drop (off+cx.cells.toList.length)).toArray)
    (.inr ⟨B,hgB,rfl⟩) ⟨rfl,rfl,rfl,by simp,fun k _ hk=>setRow_other w _ k _ (fun e=>hk (by rw [e]))⟩
    ⟨⟨_,e,vs.take off++cx.cells.toList++vs.drop (off+cx.cells.toList.length),rest,awM.of hnz (setRow_heap w _ cur _ e _ k1),by rw [List.toList_toArray,hnewl],fun hpr=>by
      simp only [Bool.and_eq_true] at hpr
      exact aQl (k3 hpr.1) (avE _ hv1 (ay9 hpr.2)),aKV k4 hv1,by
      intro _ u hu
      rcases List.mem_append.1 hu with hu|hu
      ·rcases List.mem_append.1 hu with hu|hu
       ·exact k5 u (List.mem_of_mem_take hu)
       ·exact hv2 u (by simpa using hu)
      ·exact k5 u (List.mem_of_mem_drop hu),fun hesz _=>by
      obtain ⟨s1,s2⟩:=k6 hesz hnz
      refine ⟨?_,s2⟩
      rw [← s1,List.size_toArray]
      simp only [List.length_append,List.length_take,List.length_drop,Array.length_toList] at hvl hcl ⊢
      omega⟩,k7,by
     have:(awj B.cells off x.cells).length=B.cells.length:=by simp only [awj,List.length_append,List.length_take,List.length_drop];omega
     simp only [this];exact k8⟩
    (fun B0 h0=>by rw [hgB] at h0;cases h0;exact ⟨rfl,.inl ⟨rfl,rfl⟩⟩)
    (fun o v hv=>by
     have:=(h.own b B hgB o v hv).1
     rw [c2] at this;cases this)
   refine ⟨rfl,_,_, ?_,hput.1,hput.2⟩
   have hn:¬ (cx.cells.size ≠ i.size):=by simp [hsz]
   simp [Instr.storeAt,Instr.sureAddr,storeVar,Go.sizeOf,typeInfo,ht.info,hsz,hst]
  ·cases hs
 ·cases hs
end
end AM
namespace AM
open Go
section
variable {P:Program} {ap:AP} {g:HpF} {m:anV} {S:anR} {w:World}
theorem axY (g:HpF) (b:Nat) (B:Blk):au6 g [(b,B)] b=some B:=by rw [axC,if_pos rfl]
theorem aEo {w w':World} (h:w.grownBy w' none) (r:Option Nat):w.grownBy w' r:=⟨h.os,h.tape,h.output,h.size,fun k hk _=>h.block k hk (by simp)⟩
theorem ax8 (w:World) (o:Obj):w.grownBy (w.drew.alloc o) none:=⟨rfl,rfl,rfl,by simp,fun k hk _=>Go.RowKit.Below.heap_alloc w.drew o k hk⟩
theorem aAY {t tx ty e:TypeId} {i:TypeInfo} (ht:P.underlying t=some (.slice e)) (hi:P.info? e=some i) {x:Value} {news:List Value} (hs:Src P i.size tx x 0 news w):
  (Builtin.append_ #[t,tx] ty #[.slice none 0 0,x]).run P w= .ok (.slice none 0 0) w:=by
 rcases hs.kind with ⟨e',hk⟩|hk<;>simp [Builtin.append_,run_underlying ht,run_underlying hk,Go.sizeOf,typeInfo,hi,hs.len,hs.cells]
theorem aAZ {t tx ty e:TypeId} {i:TypeInfo} (ht:P.underlying t=some (.slice e)) (hi:P.info? e=some i) {k o sLen sCap n:Nat} {x:Value} {news:List Value} (hs:Src P i.size tx x n news w) (hroom:sLen+n≤sCap)
  {cur:Array Value} {e':TypeId} (hk:w.heap[k]? =some (.cells cur e' (0,0))) (hfit:o+sLen*i.size+news.length≤cur.size):
  (Builtin.append_ #[t,tx] ty #[.slice (some ⟨k,o,none⟩) sLen sCap,x]).run P w= .ok (.slice (some ⟨k,o,none⟩) (sLen+n) sCap) (w.setRow k (cur.toList.take (o+sLen*i.size)++news++cur.toList.drop (o+sLen*i.size+news.length)).toArray):=by
 have hst:=run_storeCells_at P k (o+sLen*i.size) e' news 0 cur w hk (by simpa using hfit) hs.one
 simp only [Nat.add_zero] at hst
 rcases hs.kind with ⟨e'',hk'⟩|hk'<;>simp [Builtin.append_,run_underlying ht,run_underlying hk',Go.sizeOf,typeInfo,hi,hs.len,hroom,hs.cells,Addr.add_mid,hst]
theorem aCX {n old bytes:Nat} (h:old<n) (hn:n≤aGI) (hb:bytes≤128):Builtin.nextslicecap n old*bytes≤281474976710656:=by
 refine growslice_fits h ?_
 have:n*bytes≤aGI*128:=Nat.mul_le_mul hn hb
 have e:aGI*128=140737488355328:=by decide
 omega
theorem aCf:aGI=1099511627776:=by decide
theorem aDt {t tx ty e:TypeId} {i:TypeInfo} (ht:P.underlying t=some (.slice e)) (hi:P.info? e=some i) {x:Value} {base:Option Addr} {sLen sCap:Nat} (hs:Src P i.size tx x 0 [] w) (hc:sLen≤sCap):
  (Builtin.append_ #[t,tx] ty #[.slice base sLen sCap,x]).run P w= .ok (.slice base sLen sCap) w:=by
 cases base with
 |none=>rcases hs.kind with ⟨e',hk⟩|hk<;>simp [Builtin.append_,run_underlying ht,run_underlying hk,Go.sizeOf,typeInfo,hi,hs.len,hs.cells,hc]
 |some a=>rcases hs.kind with ⟨e',hk⟩|hk<;>simp [Builtin.append_,run_underlying ht,run_underlying hk,Go.sizeOf,typeInfo,hi,hs.len,hs.cells,hc,storeCells]
theorem aA3 (h:apS ap g m S w) {rd:HpF} (hrd:∀ b B,rd b=some B→g b=some B) {nid:Nat} (hn:g nid=none) {t tx e:Nat} {ti te:TI} {i ie:TypeInfo} {z ze:Value} {de:TypeDesc} (ht:TyR P t ti i (.slice e) z) (hte:TyR P e te ie de ze)
  {s x v:AV} {cs cx:Value} (hvs:VR g m S s cs) (hvx:VR g m S x cx)
  (hk:((∃ s,x= .str s)∧P.underlying tx=some .string∧te.size=1)∨((∀ s,x ≠ .str s)∧∃ e,P.underlying tx=some (.slice e)))
  {em:Bool} (hem:s= .nilS→∃ n,aBl x=some n∧Nat.beq n 0=em)
  {ups:List (Nat × Blk)} {bs:List Bool} (ha:aBJ nid te rd em s x=some (v,ups,bs)) (hbs:∀ b ∈ bs,b=true) (ty:Nat):
  ∃ cv m' w',(Builtin.append_ #[t,tx] ty #[cs,cx]).run P w= .ok cv w'∧apS ap (au6 g ups) m' S w'∧Fr g m S w (au6 g ups) m' S w'∧VR (au6 g ups) m' S v cv:=by
 have hcount:∀ xs n pr,aI5 te.size rd x=some (xs,n,pr)→aBl x=some n:=by
  intro xs n pr hsrc
  unfold aI5 at hsrc
  split at hsrc
  ·cases hsrc;rfl
  ·cases hsrc;rfl
  ·cases hsrc;rfl
  ·have hq:=bind_some hsrc;clear hsrc;obtain ⟨B,hB,hsrc⟩:=hq
   split at hsrc
   ·cases hsrc;rfl
   ·cases hsrc
  ·cases hsrc
 unfold aBJ at ha
 have hq:=bind_some ha;clear ha;obtain ⟨⟨xs,n,pr⟩,hsrc,ha⟩:=hq
 simp only at ha
 split at ha
 ·cases ha
 ·rename_i hok
  simp only [Bool.and_eq_true] at hok
  have hsz:=avv hok.1
  have hby:=avI hok.2
  have hsz':te.size=ie.size:=hte.size
  have hnz0:te.size ≠ awg:=fun e=>by have:=hte.small;omega
  have hby':te.bytes=ie.bytes:=hte.bytes
  have hzs:ze.cells.size=ie.size:=hte.zsize
  split at ha
  ·
   obtain ⟨n',hc',hem⟩:=hem rfl
   rw [hcount _ _ _ hsrc] at hc'
   cases hc'
   simp only [VR,PR] at hvs
   subst hvs
   split at ha
   ·
    obtain ⟨rfl,rfl,rfl⟩:=anP ha
    have hn0:n=0:=anN hem
    subst hn0
    have hl:=anN (hbs _ (List.mem_singleton.2 rfl))
    obtain ⟨news,hs,hv,hp⟩:=azJ (P:=P) h hrd hvx hsrc hl hk
    rw [hsz'] at hs
    exact ⟨_,m,w,aAY ht.und hte.info hs,by rw [avt];exact h,by rw [avt];exact Fr.refl _ _ _ _,by simp [VR,PR]⟩
   ·
    cases ha
    obtain ⟨b1,hbs⟩:=aui hbs
    obtain ⟨b2,_⟩:=aui hbs
    have hl:=anN b1
    have hroom:=avI b2
    have hn0:n ≠ 0:=by intro e;subst e;simp at hem
    obtain ⟨news,hs,hv,hp⟩:=azJ (P:=P) h hrd hvx hsrc hl hk
    rw [hsz'] at hs
    have hrun:=run_append_grow_src w t tx ty e ie ze ht.und hte.info hte.zero none 0 0 [] (run_firstCells_none w.drew _ _ _ _) cx n news hs (by omega) (by rw [aCf] at hroom;omega) (aCX (by omega) (by simpa using hroom) (by omega))
    have hge:n≤grownCap w n 0 e:=grownCap_ge _ _ _ _
    have hle:grownCap w n 0 e≤maxLen:=grownCap_le_maxLen _ _ _ _ (by rw [aCf] at hroom;simp only [maxLen];omega)
    simp only [Nat.zero_add] at hrun
    have hf:=h.fresh (nid:=nid) hn ⟨xs,0,false,0,te.size,pr⟩ hnz0 (grownCap w n 0 e) (cur:=([]++news).toArray++Builtin.zeroCells ze.cells (grownCap w n 0 e - n)) (e:=e) (ax8 w _) (heap_alloc_new w.drew _) (fun _=>rfl) (Nat.zero_le _)
     (vs:=news) (rest:=(Builtin.zeroCells ze.cells (grownCap w n 0 e - n)).toList) (by simp) hp hv hs.one (fun _=> ⟨by
      simp only [Array.size_append,List.size_toArray,List.nil_append,size_zeroCells,hs.newsLen,hzs,hsz']
      rw [← Nat.add_mul];congr 1;omega,hle⟩)
    refine ⟨_,_,_,hrun,hf.1,hf.2, ?_⟩
    simp only [VR]
    refine ⟨_,axY _ _ _,Nat.le_refl _,⟨_,_,_,rfl⟩,fun _=> ⟨0, ?_, ?_, ?_,hsz,hnz0⟩⟩
    ·simp [aw9]
    ·simpa [aw9] using hge
    ·simp
  ·rename_i b ver mN
   have hq:=bind_some ha;clear ha;obtain ⟨B,hB,ha⟩:=hq
   split at ha
   ·rename_i hok2
    simp only [Bool.and_eq_true,Bool.not_eq_true'] at hok2
    have hver:=anN hok2.1.1
    have hesz:=anN hok2.1.2
    have hnz:B.esz ≠ awg:=fun e=>by rw [e] at hok2;exact absurd hok2.2 (by decide)
    cases ha
    obtain ⟨b1,hbs⟩:=aui hbs
    obtain ⟨b2,hbs⟩:=aui hbs
    obtain ⟨b3,hbs⟩:=aui hbs
    obtain ⟨b4,_⟩:=aui hbs
    have hl:=anN b1
    have hroom:=avI b2
    have hfit:=avI b3
    have hgB:=hrd b B hB
    simp only [VR] at hvs
    obtain ⟨B',hB',_,_,q⟩:=hvs
    rw [hgB] at hB';cases hB'
    obtain ⟨o,rfl,hcap,ho,hpos,hnz1⟩:=q hver
    simp only [Nat.zero_add,Nat.sub_zero,Nat.zero_mul] at hcap ho ⊢
    obtain ⟨news,hs,hv,hp⟩:=azJ (P:=P) h hrd hvx hsrc hl hk
    rw [hsz'] at hs
    have hbk:=h.blk b B hgB
    obtain ⟨⟨cur,e',vs,rest,k1,k2,k3,k4,k5,k6⟩,k7,k8⟩:=hbk
    have k1:=k1.cells hnz
    have k5:=k5 hnz
    obtain ⟨s1,s2⟩:=k6 hpos hnz
    have hvl:=auc k4
    have hcl:cur.toList.length=vs.length+rest.length:=by rw [k2];simp
    simp only [Array.length_toList] at hcl
    have hfz:B.fz≤mN*te.size:=by
     cases hf:B.fro with
     |false=>rw [k7 hf];exact Nat.zero_le _
     |true=>simp [hf] at b4;exact avI (by simpa using b4)
    have holds:PRL S (B.cells.take (mN*te.size)) (vs.take (mN*te.size))∨B.pr=false:=by
     cases hp:B.pr with
     |false=>exact .inr rfl
     |true=>exact .inl (axa _ (k3 hp))
    have hvlT:(vs.take (mN*te.size)).length=mN*ie.size:=by rw [List.length_take,hsz'] at*;omega
    have hvv:VRL g m S (B.cells.take (mN*te.size)++xs) (vs.take (mN*te.size)++news):=av2 (ay1 _ k4) hv
    have hpp:(B.pr && pr)=true→PRL S (B.cells.take (mN*te.size)++xs) (vs.take (mN*te.size)++news):=by
     intro hh
     simp only [Bool.and_eq_true] at hh
     exact ax1 (axa _ (k3 hh.1)) (hp hh.2)
    have h1:∀ u ∈ vs.take (mN*te.size)++news,u.oneCell'=true:=by
     intro u hu
     rcases List.mem_append.1 hu with hu|hu
     ·exact k5 u (List.mem_of_mem_take hu)
     ·exact hs.one u hu
    have hfzl:B.fz≤(B.cells.take (mN*te.size)++xs).length:=by
     rw [List.length_append,List.length_take];omega
    by_cases hrm:mN+n≤(m b).2
    ·
     by_cases hc0:(m b).2=0
     ·have hm0:mN=0:=by omega
      have hn0:n=0:=by omega
      subst hm0;subst hn0
      have hnews:news= []:=by have:=hs.newsLen;simpa using this
      subst hnews
      have hrun:=aDt (P:=P) (w:=w) (ty:=ty) (base:=some ⟨(m b).1,o,none⟩) (sLen:=0) (sCap:=(m b).2) ht.und hte.info hs (by omega)
      have hput:=h.put b {B with cells:=B.cells.take (0*te.size)++xs,ver:=ver+1,pr:=B.pr && pr} (m b).1 (m b).2 (w':=w) (.inr ⟨B,hgB,rfl⟩) ⟨rfl,rfl,rfl,Nat.le_refl _,fun _ _ _=>rfl⟩
       ⟨⟨cur,e',_,vs.drop (0*te.size)++rest,awM.of hnz k1,by rw [k2];simp,hpp,hvv,fun _=>h1,k6⟩,k7,hfzl⟩ (fun B0 h0=>by rw [hgB] at h0;cases h0;exact ⟨rfl,.inr (by simp only;omega)⟩)
       (fun o' u hu=> ⟨h.sealed _ _ _ hu,(h.own b B hgB o' u hu)⟩)
      refine ⟨_,_,_,hrun,hput.1,hput.2, ?_⟩
      simp only [VR]
      refine ⟨_,axY _ _ _,Nat.le_refl _,⟨_,_,_,rfl⟩,fun _=> ⟨o,by simp [aw9],by simp,by simp [aw9,hc0],hpos,hnz⟩⟩
     ·have ho0:o=0:=ho (by omega)
      subst ho0
      have hnl:=hs.newsLen
      have hbig:mN*ie.size+n*ie.size≤(m b).2*ie.size:=by rw [← Nat.add_mul];exact Nat.mul_le_mul_right _ hrm
      have hcs:cur.size=(m b).2*ie.size:=by rw [s1,hesz,hsz']
      have hrun:=aAZ (P:=P) (w:=w) (ty:=ty) (o:=0) ht.und hte.info hs hrm k1 (by simp only [Nat.zero_add];omega)
      simp only [Nat.zero_add] at hrun
      have hlist:cur.toList.take (mN*ie.size)=vs.take (mN*te.size):=by rw [k2,hsz',List.take_append_of_le_length (by rw [hsz'] at hfit;omega)]
      have hput:=h.put b {B with cells:=B.cells.take (mN*te.size)++xs,ver:=ver+1,pr:=B.pr && pr} (m b).1 (m b).2 (w':=w.setRow (m b).1 (cur.toList.take (mN*ie.size)++news++cur.toList.drop (mN*ie.size+news.length)).toArray)
       (.inr ⟨B,hgB,rfl⟩) ⟨rfl,rfl,rfl,by simp,fun k _ hk=>setRow_other w _ k _ (fun e=>hk (by rw [e]))⟩
       ⟨⟨_,e',_,cur.toList.drop (mN*ie.size+news.length),awM.of hnz (setRow_heap w _ cur _ e' _ k1),by rw [hlist],hpp,hvv,fun _=>h1,fun _ _=> ⟨by
        rw [← s1,List.size_toArray]
        simp only [List.length_append,List.length_take,List.length_drop,Array.length_toList]
        omega,s2⟩⟩,k7,hfzl⟩ (fun B0 h0=>by rw [hgB] at h0;cases h0;exact ⟨rfl,.inr (by simp only;omega)⟩)
       (fun o' u hu=>by
        obtain ⟨f1,f2⟩:=h.own b B hgB o' u hu
        refine ⟨?_,f1,f2⟩
        have:=h.sealed _ _ _ hu
        cases hone:u.oneCell' with
        |false=>
         obtain ⟨_,_,hm,_⟩:=aAA this hone
         rw [k1] at hm;cases hm
        |true=>
        have this:=aAB this hone
        rw [az9 k1] at this
        refine (awM.of hnz (setRow_heap w _ cur _ e' _ k1)).get ?_ (fun _=>hone)
        simp only [List.append_assoc]
        rw [List.getElem?_append_left (by simp only [List.length_take,Array.length_toList];rw [hsz'] at hfz;omega),List.getElem?_take_of_lt (by rw [hsz'] at hfz;omega)]
        exact this)
      refine ⟨_,_,_,hrun,hput.1,hput.2, ?_⟩
      simp only [VR]
      refine ⟨_,axY _ _ _,Nat.le_refl _,⟨_,_,_,rfl⟩,fun _=> ⟨0,by simp [aw9],by simpa [aw9] using hrm,by simp,hpos,hnz⟩⟩
    ·
     have hold:(Builtin.firstCells ie.size mN (.slice (some ⟨(m b).1,o,none⟩) mN (m b).2)).run P w.drew= .ok (vs.take (mN*te.size)).toArray w.drew:=by
      refine run_firstCells_some w.drew ie.size mN ⟨(m b).1,o,none⟩ mN _ _ hvlT ?_
      intro j u hu
      have hjl:=(List.getElem?_eq_some_iff.1 hu).1
      rw [hvlT] at hjl
      have hm0:0<mN:=by
       rcases Nat.eq_zero_or_pos mN with h0|h0
       ·subst h0;simp at hjl
       ·exact h0
      have ho0:o=0:=ho (by omega)
      subst ho0
      rw [Addr.add_mid,Nat.zero_add,az9 (w:=w.drew) (j:=j) k1,k2]
      rw [List.getElem?_take] at hu
      split at hu
      ·rw [List.getElem?_append_left (List.getElem?_eq_some_iff.1 hu).1];exact hu
      ·cases hu
     have hrun:=run_append_grow_src w t tx ty e ie ze ht.und hte.info hte.zero (some ⟨(m b).1,o,none⟩) mN (m b).2 _ hold cx n news hs (by omega) (by rw [aCf] at hroom;omega) (aCX (by omega) hroom (by omega))
     have hge:mN+n≤grownCap w (mN+n) (m b).2 e:=grownCap_ge _ _ _ _
     have hle:grownCap w (mN+n) (m b).2 e≤maxLen:=grownCap_le_maxLen _ _ _ _ (by rw [aCf] at hroom;simp only [maxLen];omega)
     have hput:=h.put b {B with cells:=B.cells.take (mN*te.size)++xs,ver:=ver+1,pr:=B.pr && pr} w.heap.size (grownCap w (mN+n) (m b).2 e) (.inl (Nat.le_refl _))
      (aEo (ax8 w (.cells ((vs.take (mN*te.size)++news).toArray++Builtin.zeroCells ze.cells (grownCap w (mN+n) (m b).2 e - (mN+n))) e)) _)
      ⟨⟨(vs.take (mN*te.size)++news).toArray++Builtin.zeroCells ze.cells (grownCap w (mN+n) (m b).2 e - (mN+n)),e,_,(Builtin.zeroCells ze.cells (grownCap w (mN+n) (m b).2 e - (mN+n))).toList,awM.of hnz (heap_alloc_new w.drew _),by simp,hpp,hvv,fun _=>h1,fun _ _=> ⟨by
       simp only [Array.size_append,List.size_toArray,List.length_append,size_zeroCells,hs.newsLen,hzs]
       rw [hvlT,hesz,hsz',← Nat.add_mul,← Nat.add_mul];congr 1;omega,hle⟩⟩,k7,hfzl⟩ (fun B0 h0=>by rw [hgB] at h0;cases h0;exact ⟨rfl,.inr (by simp only;omega)⟩)
      (fun o' u hu=>absurd (h.seal_lt hu) (Nat.lt_irrefl _))
     refine ⟨_,_,_,hrun,hput.1,hput.2, ?_⟩
     simp only [VR]
     refine ⟨_,axY _ _ _,Nat.le_refl _,⟨_,_,_,rfl⟩,fun _=> ⟨0,by simp [aw9],by simpa [aw9] using hge,by simp,hpos,hnz⟩⟩
   ·cases ha
  ·cases ha
end
end AM
namespace AM
open Go
theorem aDc (n:Nat) (z:List AV):(awc n z).length=n*z.length:=by simp [awc]
theorem aMH (n:Nat) (z:List AV):awc (n+1) z=z++awc n z:=by simp [awc,List.replicate_succ]
theorem aIV:∀ (n:Nat) (z:List AV) (i:Nat),i<n*z.length→(awc n z)[i]? =z[i % z.length]?
 |0,z,i,h=>by simp at h
 | n+1,z,i,h=>by
  rw [aMH]
  by_cases hi:i<z.length
  ·rw [List.getElem?_append_left hi,Nat.mod_eq_of_lt hi]
  ·have hi:z.length≤i:=by omega
   rw [List.getElem?_append_right hi,aIV n z (i - z.length) (by rw [Nat.add_mul,Nat.one_mul] at h;omega)]
   congr 1
   rw [← Nat.mod_eq_sub_mod hi]
section
variable {P:Program} {ap:AP} {g:HpF} {m:anV} {S:anR} {w:World}
theorem aDY:∀ {l:List AV} {vs:List Value},l.length=vs.length→(∀ (i:Nat) x v,l[i]? =some x→vs[i]? =some v→VR g m S x v)→VRL g m S l vs
 | [],[],_,_=>by simp [VRL]
 |x::r,v::vs,hl,h=>by
  simp only [VRL]
  exact ⟨h 0 x v rfl rfl,aDY (by simpa using hl) fun i x v hx hv=>h (i+1) x v (by simpa using hx) (by simpa using hv)⟩
 | [],_::_,h,_=>by simp at h
 |_::_,[],h,_=>by simp at h
theorem aCF (z:Array Value) (n:Nat):(madeCells z n).toList=(List.range n).map fun i=>z[i % z.size]! :=by simp [madeCells]
theorem aA8 {t:Nat} {ti:TI} {i:TypeInfo} {d:TypeDesc} {z:Value} (ht:TyR P t ti i d z) (n:Nat):VRL g m S (awc n ti.zero) (madeCells z.cells (n*i.size)).toList:=by
 have hz:=ay2 (g:=g) (m:=m) (S:=S) ht
 have hzl:=auc hz
 simp only [Array.length_toList,ht.zsize] at hzl
 refine aDY (by rw [aDc,hzl,Array.length_toList,size_madeCells]) ?_
 intro j x v hx hv
 have hj:j<n*i.size:=by
  have:=(List.getElem?_eq_some_iff.1 hx).1
  rw [aDc,hzl] at this;exact this
 rw [aIV n ti.zero j (by rw [hzl];exact hj),hzl] at hx
 rw [aCF,ht.zsize,List.getElem?_map,List.getElem?_range hj] at hv
 simp only [Option.map_some,Option.some.injEq] at hv
 obtain ⟨v',hv',hr⟩:=azs hz _ hx
 have hm:j % i.size<z.cells.size:=by rw [ht.zsize];exact Nat.mod_lt _ ht.pos
 simp only [Array.getElem?_toList] at hv'
 rw [getElem!_pos z.cells _ hm] at hv
 rw [Array.getElem?_eq_getElem hm] at hv'
 cases hv'
 rw [← hv];exact hr
theorem aGG {n:Nat} {z:List AV} (h:∀ x ∈ z,ayc x=true):∀ x ∈ awc n z,ayc x=true:=by
 intro x hx
 simp only [awc,List.mem_flatten,List.mem_replicate] at hx
 obtain ⟨l,⟨_,rfl⟩,hx⟩:=hx
 exact h x hx
theorem aDx:∀ {l:List AV} {vs:List Value},VRL g m S l vs→(∀ x ∈ l,ayc x=true)→∀ u ∈ vs,u.oneCell'=true
 | [],[],_,_=>by simp
 |x::r,v::vs,h,hl=>by
  simp only [VRL] at h
  intro u hu
  rcases List.mem_cons.1 hu with rfl|hu
  ·exact aJw h.1 (hl x (by simp))
  ·exact aDx h.2 (fun y hy=>hl y (by simp [hy])) u hu
 | [],_::_,h,_=>by simp [VRL] at h
 |_::_,[],h,_=>by simp [VRL] at h
theorem aHt {xs vs:List AV} {off:Nat} {x:AV} (h:x ∈ awj xs off vs):x ∈ xs∨x ∈ vs:=by
 simp only [awj,List.mem_append] at h
 rcases h with (h|h)|h
 ·exact .inl (List.mem_of_mem_take h)
 ·exact .inr h
 ·exact .inl (List.mem_of_mem_drop h)
theorem aEi:∀ {ps:List (Nat × Nat × AV)} {cells cells':List AV},aA6 cells ps=some cells'→(∀ x ∈ cells,ayc x=true)→∀ x ∈ cells',ayc x=true
 | [],cells,cells',h,hl=>by simp [aA6] at h;subst h;exact hl
 | (off,size,v)::r,cells,cells',h,hl=>by
  simp only [aA6] at h
  split at h
  ·rename_i hc
   simp only [Bool.and_eq_true] at hc
   refine aEi h fun x hx=> ?_
   rcases aHt hx with hx|hx
   ·exact hl x hx
   ·exact List.all_eq_true.1 hc.2 x hx
  ·cases h
theorem aLv {nid:Nat} {cells:List AV} {esz k c n:Nat} (hn:n≤c) (hp:0<esz) (hz:esz ≠ awg):VR (au6 g [awu nid cells esz]) (aw9 m nid (k,c)) S (.ref nid 0 0 n) (.slice (some ⟨k,0,none⟩) n c):=by
 simp only [VR]
 refine ⟨_,axY _ _ _,Nat.zero_le _,⟨_,_,_,rfl⟩,fun _=> ⟨0,by simp [aw9],by simpa [aw9] using hn,by simp,hp,hz⟩⟩
theorem azG:∀ (a b:List AV),auh (a++b)=auh a++auh b
 | [],b=>by simp [auh]
 |x::r,b=>by simp [auh,azG r b]
theorem aGF (z:List AV) (h:auh z= []):∀ n,auh (awc n z)= []
 |0=>by simp [awc,auh]
 |n+1=>by
  have ih:=aGF z h n
  simp only [awc,List.replicate_succ,List.flatten_cons,azG,h,List.nil_append] at ih ⊢
  exact ih
theorem aKi (nid n esz:Nat) (z:List AV) (h:(auh z).isEmpty=true):(nid,(⟨awc n z,0,false,0,esz,true⟩:Blk))=awu nid (awc n z) esz:=by
 have h':auh z= []:=by simpa using h
 simp [awu,aGF z h' n]
theorem aCG (hap:awf P ap) (h:apS ap g m S w) {nid:Nat} (hn:g nid=none) {t:Nat} {ti:TI} {i:TypeInfo} {d:TypeDesc} {z:Value} (ht:TyR P t ti i d z) {l c:AV} {cl cc:Value} (hl:VR g m S l cl) (hc:VR g m S c cc)
  {v:AV} {ups:List (Nat × Blk)} {bs:List Bool} (hm:aBs ap nid ti l c=some (v,ups,bs)) (hbs:∀ b ∈ bs,b=true):
  ∃ cv m' w',(Instr.makeSlice t cl cc).run P w= .ok cv w'∧apS ap (au6 g ups) m' S w'∧Fr g m S w (au6 g ups) m' S w'∧VR (au6 g ups) m' S v cv:=by
 unfold aBs at hm
 split at hm
 ·rename_i e kl l kc c hd
  have hq:=bind_some hm;clear hm;obtain ⟨te,hte,hm⟩:=hq
  obtain ⟨ie,de,ze,hte⟩:=ava hap hte
  split at hm
  ·rename_i hok
   simp only [Bool.and_eq_true] at hok
   have hne:=hok.2
   have hok:=hok.1
   have hpos:=avv hok.1.1
   have hby:=avI hok.2
   rw [aKi _ _ _ _ hne] at hm
   cases hm
   obtain ⟨b1,hbs⟩:=aui hbs
   obtain ⟨b2,hbs⟩:=aui hbs
   obtain ⟨b3,_⟩:=aui hbs
   have b1:0≤l:=of_decide_eq_true b1
   have b2:l=c:=of_decide_eq_true b2
   have b3:l≤2^40:=of_decide_eq_true b3
   subst b2
   simp only [VR,PR] at hl hc
   subst hl;subst hc
   rw [ht.d_eq] at hd
   have hd:=avY hd
   subst hd
   have hb48:(ie.bytes:Int)*l≤281474976710656:=by
    have h1:(ie.bytes:Int)≤128:=by rw [← hte.bytes];exact_mod_cast hby
    have h2:(ie.bytes:Int)*l≤128*l:=Int.mul_le_mul_of_nonneg_right h1 b1
    have h3:(2:Int)^40=1099511627776:=by decide
    omega
   have h63:l≤9223372036854775807:=by
    have h3:(2:Int)^40=1099511627776:=by decide
    omega
   have hrun:=run_make (P:=P) w t e ie ze ht.und hte.info hte.zero kl kc l l b1 (Int.le_refl _) hb48 h63
   have hv:VRL g m S (awc l.toNat te.zero) (madeCells ze.cells (l.toNat*ie.size)).toList:=aA8 hte _
   have hlf:∀ x ∈ awc l.toNat te.zero,ayc x=true:=aGG hte.zleaf
   have hf:=h.fresh (nid:=nid) hn (awu nid (awc l.toNat te.zero) te.size).2 (by have h1:=hte.small;have h2:=hte.size;show te.size ≠ awg;omega) l.toNat (w':=w.alloc (.cells (madeCells ze.cells (l.toNat*ie.size)) e)) (World.grownBy_alloc w _ none) (heap_alloc_new w _) (fun _=>rfl) (Nat.zero_le _)
    (rest:= []) (by rw [List.append_nil]) (fun hp=>avE _ hv (ay9 hp)) hv (aDx hv hlf) (fun _=> ⟨by rw [size_madeCells];simp [awu,hte.size],by simp only [maxLen];omega⟩)
   refine ⟨_,_,_,hrun,hf.1,hf.2, ?_⟩
   exact aLv (Nat.le_refl _) hpos (by have h1:=hte.small;have h2:=hte.size;omega)
  ·cases hm
 ·cases hm
theorem aFd {t e:TypeId} {i:TypeInfo} {z:Value} (ht:P.underlying t=some (.slice e)) (hi:P.info? e=some i) (hz:i.zero=some z) {len:Nat} (hle:len*i.size≤2^24) (h0:len*i.size ≠ 0) {parts:Array (Nat × Value)} {cells:Array Value}
  (hf:Instr.fill (fun i'=>some (i'*i.size,i.size)) (madeCells z.cells (len*i.size)) parts.toList=some cells):
  (Instr.buildSlice t len parts).run P w= .ok (.slice (some ⟨w.heap.size,0,none⟩) len len) (w.alloc (.cells cells e)):=by
 have hgt:¬ (len*i.size>2^24):=by omega
 unfold madeCells at hf
 simp only [Instr.buildSlice,Sem.run_bind,run_underlying ht,Result.andThen_ok]
 simp [Go.sizeOf,typeInfo,hi,zeroValue,hz,h0,newRow]
 rw [if_neg (by simpa using hgt)]
 simp [hf]
theorem aDu {t e:TypeId} {i:TypeInfo} (ht:P.underlying t=some (.slice e)) (hi:P.info? e=some i) {len:Nat} (h0:len*i.size=0) {parts:Array (Nat × Value)} {cells:Array Value}
  (hf:Instr.fill (fun i'=>some (i'*i.size,i.size)) #[] parts.toList=some cells):
  (Instr.buildSlice t len parts).run P w= .ok (.slice (some ⟨w.heap.size,0,none⟩) len len) (w.alloc (.cells cells e)):=by
 simp [Instr.buildSlice,run_underlying ht,Go.sizeOf,typeInfo,hi,h0,newRow,Array.range_zero',hf]
theorem aBN (hap:awf P ap) (h:apS ap g m S w) {nid:Nat} (hn:g nid=none) {t:Nat} {ti:TI} {i:TypeInfo} {d:TypeDesc} {z:Value} (ht:TyR P t ti i d z) {len:Nat} {ps:List (Nat × AV)} {qs:Array (Nat × Value)} (hq:aBF g m S ps qs.toList)
  {v:AV} {ups:List (Nat × Blk)} {bs:List Bool} (hm:az5 ap nid ti len ps=some (v,ups,bs)):
  ∃ cv m' w',(Instr.buildSlice t len qs).run P w= .ok cv w'∧apS ap (au6 g ups) m' S w'∧Fr g m S w (au6 g ups) m' S w'∧VR (au6 g ups) m' S v cv:=by
 unfold az5 at hm
 split at hm
 ·rename_i e hd
  have hq':=bind_some hm;clear hm;obtain ⟨te,hte,hm⟩:=hq'
  obtain ⟨ie,de,ze,hte⟩:=ava hap hte
  split at hm
  ·rename_i hok
   simp only [Bool.and_eq_true] at hok
   have hpos:=avv hok.1.1
   have hle:=avI hok.1.2
   have hq':=bind_some hm;clear hm;obtain ⟨cs,hcs,hm⟩:=hq'
   cases hm
   rw [ht.d_eq] at hd
   have hd:=avY hd
   subst hd
   have hv0:VRL g m S (awc len te.zero) (madeCells ze.cells (len*ie.size)).toList:=aA8 hte _
   obtain ⟨cs',e1,e2,e3⟩:=ayD _ qs.toList _ cs _ (azC (size:=te.size) hq) hv0 hcs
   rw [hte.size] at e1
   have hrun:(Instr.buildSlice t len qs).run P w= .ok (.slice (some ⟨w.heap.size,0,none⟩) len len) (w.alloc (.cells cs' e)):=by
    by_cases h0:len*ie.size=0
    ·exact aDu ht.und hte.info h0 (by rw [h0] at e1;simpa [madeCells,Array.range_zero'] using e1)
    ·exact aFd ht.und hte.info hte.zero (by rw [← hte.size];exact hle) h0 e1
   have hlf:∀ x ∈ cs,ayc x=true:=aEi hcs (aGG hte.zleaf)
   have hsz:cs'.size=len*ie.size:=by rw [e3,size_madeCells]
   have hf:=h.fresh (nid:=nid) hn (awu nid cs te.size).2 (by have h1:=hte.small;have h2:=hte.size;show te.size ≠ awg;omega) len (w':=w.alloc (.cells cs' e)) (World.grownBy_alloc w _ none) (heap_alloc_new w _) (fun _=>rfl) (Nat.zero_le _)
    (rest:= []) (by rw [List.append_nil]) (fun hp=>avE _ e2 (ay9 hp)) e2 (aDx e2 hlf) (fun _=> ⟨by rw [hsz];simp [awu,hte.size],by
     have h1:len≤len*te.size:=Nat.le_mul_of_pos_right _ hpos
     have h3:(2:Nat)^24=16777216:=by decide
     simp only [maxLen];omega⟩)
   refine ⟨_,_,_,hrun,hf.1,hf.2, ?_⟩
   exact aLv (Nat.le_refl _) hpos (by have h1:=hte.small;have h2:=hte.size;omega)
  ·cases hm
 ·cases hm
theorem aPT {d:TypeDesc} {k e:Nat} (h:awG P (some d)= .map k e):d= .map k e:=by cases d<;>simp [awG] at h;obtain ⟨rfl,rfl⟩:=h;rfl
theorem ayH {d:TypeDesc} {x:AV} {v:Value} (h:ayG (awG P (some d)) x=true) (hx:VR g m S x v):MapKept.IsKey d v:=by
 cases d<;>simp only [awG] at h<;>cases x<;>simp [ayG] at h<;>simp only [VR,PR] at hx<;>subst hx<;>simp only [MapKept.IsKey]
 exact (awe h).symm
theorem aN_ {d:TypeDesc} {x y:AV} {u v:Value} (hx:ayG (awG P (some d)) x=true) (hy:ayG (awG P (some d)) y=true) (h1:VR g m S x u) (h2:VR g m S y v):Instr.sameNow d u v=some (eqK x y):=by
 cases d<;>simp only [awG] at hx hy<;>cases x<;>simp [ayG] at hx<;>cases y<;>simp [ayG] at hy<;>simp only [VR,PR] at h1 h2<;>subst h1<;>subst h2<;>simp only [Instr.sameNow,eqK]
 ·rw [if_pos ((awe hx).symm.trans (awe hy))]
 ·rename_i a b
  congr 1
  rw [Bool.eq_iff_iff,MapKept.bytes_beq]
  simp
theorem aEJ (h:apS ap g m S w) {rd:HpF} (hrd:∀ b B,rd b=some B→g b=some B) {x:AV} {cx:Value} (hx:VR g m S x cx) {q:List AV × List AV} (hc:aOS rd x=some q):
  ∃ es:Array MapEntry,((cx= .map none∧es=#[])∨∃ b clk,cx= .map (some b)∧w.heap[b]? =some (.map es clk))∧VRL g m S q.1 (es.toList.map (·.key))∧VRL g m S q.2 (es.toList.map (·.val)):=by
 unfold aOS at hc
 split at hc
 ·rename_i ks vs
  cases hc
  simp only [VR,PR] at hx
  rcases hx with ⟨rfl,rfl,rfl⟩|⟨b,kk,vv,rfl,h0,h1,p0,p1⟩
  ·exact ⟨#[],.inl ⟨rfl,rfl⟩,by simp [VRL],by simp [VRL]⟩
  ·obtain ⟨es,clk,hk,e0⟩:=aAA (h.sealed _ _ _ h0) rfl
   obtain ⟨es',clk',hk',e1⟩:=aAA (h.sealed _ _ _ h1) rfl
   rw [hk] at hk';cases hk'
   have e0:Value.agg (es.map (·.key))= .agg kk.toArray:=Option.some.inj e0
   have e1:Value.agg (es.map (·.val))= .agg vv.toArray:=Option.some.inj e1
   have e0:=Value.agg.inj e0
   have e1:=Value.agg.inj e1
   refine ⟨es,.inr ⟨b,clk,rfl,hk⟩, ?_, ?_⟩
   ·rw [← Array.toList_map,e0];exact aoa _ p0
   ·rw [← Array.toList_map,e1];exact aoa _ p1
 ·rename_i b ver
  have hq:=bind_some hc;clear hc;obtain ⟨B,hB,hc⟩:=hq
  split at hc
  ·rename_i hok
   simp only [Bool.and_eq_true] at hok
   split at hc
   ·rename_i ks vs hcells
    cases hc
    simp only [VR] at hx
    obtain ⟨B',hB',_,_,q⟩:=hx
    rw [hrd b B hB] at hB';cases hB'
    have q:=q (anN hok.1)
    obtain ⟨⟨cur,e,us,rest,k1,k2,_,k4,_,_⟩,_,_⟩:=h.blk b B (hrd b B hB)
    obtain ⟨es,clk,hk,rfl⟩:=k1.map (anN hok.2)
    rw [hcells] at k4
    match us,k4 with
    | [u0,u1],k4=>
     simp only [VRL,VR,and_true] at k4
     obtain ⟨⟨kk,rfl,p0⟩,vv,rfl,p1⟩:=k4
     simp only [aBt,List.cons_append,List.cons.injEq] at k2
     have e0:=Value.agg.inj k2.1
     have e1:=Value.agg.inj k2.2.1
     refine ⟨es,.inr ⟨_,clk,q,hk⟩, ?_, ?_⟩
     ·rw [← Array.toList_map,e0];exact p0
     ·rw [← Array.toList_map,e1];exact p1
    | [],k4=>simp [VRL] at k4
    | [_],k4=>simp [VRL] at k4
    |_::_::_::_,k4=>simp [VRL] at k4
   ·cases hc
  ·cases hc
 ·cases hc
theorem aAd {d:TypeDesc} {k v:AV} {ck cv:Value} (hk:VR g m S k ck) (hok:ayG (awG P (some d)) k=true) (hv:VR g m S v cv):∀ (l:List MapEntry) (ks vs:List AV) (i:Nat),VRL g m S ks (l.map (·.key))→VRL g m S vs (l.map (·.val))→ks.all (ayG (awG P (some d)))=true→
  (Instr.findNow d ck l i=some none∧aBY ks vs k=none∧ks.any (eqK k)=false∧aAX ks vs k v=vs++ [v])∨
  ∃ j e x,Instr.findNow d ck l i=some (some (i+j,e.val))∧l[j]? =some e∧e.key=ck∧aBY ks vs k=some x∧VR g m S x e.val∧ks.any (eqK k)=true∧VRL g m S (aAX ks vs k v) ((l.set j {e with key:=ck,val:=cv}).map (·.val))
 | [],ks,vs,i,h1,h2,_=>by
  cases ks with
  |cons _ _=>simp [VRL] at h1
  |nil=>
   cases vs with
   |cons _ _=>simp [VRL] at h2
   |nil=>exact .inl ⟨rfl,rfl,rfl,rfl⟩
 | e ::l,ks,vs,i,h1,h2,ha=>by
  cases ks with
  |nil=>simp [VRL] at h1
  | cons k0 ks=>
   cases vs with
   |nil=>simp [VRL] at h2
   | cons v0 vs=>
    simp only [List.map_cons,VRL] at h1 h2
    simp only [List.all_cons,Bool.and_eq_true] at ha
    have hs:=aN_ hok ha.1 hk h1.1
    cases he:eqK k k0 with
    | true=>
     rw [he] at hs
     have hkey:e.key=ck:=by
      obtain ⟨r,hr,hiff⟩:=MapKept.sameNow_of_keys (ayH hok hk) (ayH ha.1 h1.1)
      rw [hs] at hr;cases hr
      exact (hiff.1 rfl).symm
     refine .inr ⟨0,e,v0, ?_,rfl,hkey, ?_,h2.1, ?_, ?_⟩
     ·simp [Instr.findNow,hs]
     ·simp [aBY,he]
     ·simp [he]
     ·simp only [aAX,he,List.set_cons_zero,List.map_cons,VRL];exact ⟨hv,h2.2⟩
    | false=>
     rw [he] at hs
     rcases aAd hk hok hv l ks vs (i+1) h1.2 h2.2 ha.2 with ⟨r1,r2,r3,r4⟩|⟨j,e',x,r1,r2,r3,r4,r5,r6,r7⟩
     ·refine .inl ⟨?_, ?_, ?_, ?_⟩
      ·simp [Instr.findNow,hs,r1]
      ·simp [aBY,he,r2]
      ·simp only [List.any_cons,he,r3];rfl
      ·simp [aAX,he,r4]
     ·refine .inr ⟨j+1,e',x, ?_,by simpa using r2,r3, ?_,r5, ?_, ?_⟩
      ·simp [Instr.findNow,hs,r1];omega
      ·simp [aBY,he,r4]
      ·simp only [List.any_cons,he,r6];rfl
      ·simp only [aAX,he,List.set_cons_succ,List.map_cons,VRL];exact ⟨h2.1,r7⟩
theorem aC4 {ok:Bool} {o:Option AV} {z:AV} {u cz:Value} {b:Bool} (h:(o=none∧u=cz∧b=false)∨∃ x,o=some x∧VR g m S x u∧b=true) (hz:VR g m S z cz):VR g m S (aIE ok o z) (if ok then .tuple #[u,.bool b] else u):=by
 have h1:VR g m S (o.getD z) u∧o.isSome=b:=by
  rcases h with ⟨rfl,rfl,rfl⟩|⟨x,rfl,hx,rfl⟩
  ·exact ⟨hz,rfl⟩
  ·exact ⟨hx,rfl⟩
 cases ok with
 |true=>
  simp only [aIE,if_true,VR]
  refine ⟨[u,.bool b],rfl, ?_⟩
  simp only [VRL,VR,PR,and_true]
  exact ⟨h1.1,by rw [h1.2]⟩
 |false=>simpa [aIE] using h1.1
theorem aFS (hap:awf P ap) (h:apS ap g m S w) {rd:HpF} (hrd:∀ b B,rd b=some B→g b=some B) {t:Nat} {ti:TI} {i:TypeInfo} {d:TypeDesc} {z:Value} (ht:TyR P t ti i d z) {x k v:AV} {cx ck:Value} (hx:VR g m S x cx) (hk:VR g m S k ck) {ok:Bool}
  {ups:List (Nat × Blk)} {bs:List Bool} (hl:aHs ap ti rd x k ok=some (v,ups,bs)) (hbs:∀ b ∈ bs,b=true):
  ups= []∧∃ cv,(Instr.lookup t cx ck ok).run P w= .ok cv w∧VR g m S v cv:=by
 unfold aHs at hl
 split at hl
 ·rename_i kt et hd
  have hq:=bind_some hl;clear hl;obtain ⟨tk,htk,hl⟩:=hq
  have hq:=bind_some hl;clear hl;obtain ⟨te,hte,hl⟩:=hq
  have hq:=bind_some hl;clear hl;obtain ⟨q,hq,hl⟩:=hq
  have hq':=bind_some hl;clear hl;obtain ⟨zz,hzz,hl⟩:=hq'
  obtain ⟨rfl,rfl,rfl⟩:=anP hl
  obtain ⟨ik,dk,zk,htk⟩:=ava hap htk
  obtain ⟨ie,de,ze,hte⟩:=ava hap hte
  rw [ht.d_eq] at hd
  have hd:=aPT hd
  subst hd
  obtain ⟨b1,hbs⟩:=aui hbs
  obtain ⟨b2,_⟩:=aui hbs
  rw [htk.d_eq] at b1 b2
  obtain ⟨es,hes,v1,v2⟩:=aEJ h hrd hx hq
  have hik:=ayH b1 hk
  have hzv:VR g m S zz ze:=aBu hte hzz
  refine ⟨rfl, ?_⟩
  rcases aAd hk b1 hk es.toList q.1 q.2 0 v1 v2 b2 with ⟨r1,r2,_,_⟩|⟨j,e,y,r1,_,_,r4,r5,_,_⟩
  ·refine ⟨_, ?_,aC4 (.inl ⟨r2,rfl,rfl⟩) hzv⟩
   rcases hes with ⟨rfl,rfl⟩|⟨b,clk,rfl,hb⟩
   ·simp [Instr.lookup,run_underlying ht.und,MapKept.run_checkKey htk.und hik,MapKept.run_findKey htk.und r1,zeroValue,typeInfo,hte.info,hte.zero,Result.andThen]
   ·simp [Instr.lookup,run_underlying ht.und,MapKept.run_getObj_map hb,MapKept.run_checkKey htk.und hik,MapKept.run_findKey htk.und r1,zeroValue,typeInfo,hte.info,hte.zero,Result.andThen]
  ·refine ⟨_, ?_,aC4 (.inr ⟨y,r4,r5,rfl⟩) hzv⟩
   rcases hes with ⟨rfl,rfl⟩|⟨b,clk,rfl,hb⟩
   ·simp [Instr.findNow] at r1
   ·simp [Instr.lookup,run_underlying ht.und,MapKept.run_getObj_map hb,MapKept.run_checkKey htk.und hik,MapKept.run_findKey htk.und r1,Result.andThen]
 ·cases hl
mutual
theorem aKU {S:anR}:∀ (x:AV) {v:Value},PR S x v→avh x= []
 | .int _ _,_,_=>rfl
 | .bool _,_,_=>rfl
 | .str _,_,_=>rfl
 | .nilS,_,_=>rfl
 | .nilP,_,_=>rfl
 | .nilF,_,_=>rfl
 | .nilI,_,_=>rfl
 | .sl _ _ _,_,_=>rfl
 | .pp _ _,_,_=>rfl
 | .mp _ _,_,_=>rfl
 | .dead,_,_=>rfl
 | .own _ _ _,_,p=>by simp only [PR] at p
 | .ref _ _ _ _,_,p=>by simp only [PR] at p
 | .ptr _ _ _,_,p=>by simp only [PR] at p
 | .mr _ _,_,p=>by simp only [PR] at p
 | .agg l,_,p=>by
  simp only [PR] at p;simp only [avh]
  obtain ⟨_,_,q⟩:=p
  exact ay0 l q
 | .tup l,_,p=>by
  simp only [PR] at p;simp only [avh]
  obtain ⟨_,_,q⟩:=p
  exact ay0 l q
 | .fn f a c,_,p=>by
  simp only [PR] at p;simp only [avh]
  obtain ⟨_,_,_,q,r⟩:=p
  rw [ay0 a q,ay0 c r];rfl
 | .ifc t x,_,p=>by
  simp only [PR] at p;simp only [avh]
  obtain ⟨_,_,q⟩:=p
  exact aKU x q
theorem ay0 {S:anR}:∀ (l:List AV) {vs:List Value},PRL S l vs→auh l= []
 | [],_,_=>rfl
 |x::r,v::vs,p=>by simp only [PRL] at p;simp only [auh,aKU x p.1,ay0 r p.2,List.append_nil]
 |_::_,[],p=>by simp [PRL] at p
end
theorem aGw (h:apS ap g m S w) {b:Nat} {B:Blk} {es':Array MapEntry} {clk':Nat} {k:Nat} {w':World} (hk:w'.heap[k]? =some (.map es' clk')) (hz:B.esz=awg) {ks vs:List AV} (hc:B.cells= [.agg ks,.agg vs]) (h1:VRL g m S ks (es'.toList.map (·.key))) (h2:VRL g m S vs (es'.toList.map (·.val))) (hp:B.pr=true→auh vs= []∧auh ks= []) (hf0:B.fro=false→B.fz=0) (hf1:B.fz≤2) (c:Nat):aLP g m S w' B k c:=by
 refine ⟨⟨aBt es',0,[.agg (es'.map (·.key)),.agg (es'.map (·.val))],[],.inr ⟨hz,es',clk',hk,rfl⟩,rfl, ?_, ?_,fun hn=>absurd hz hn,fun _ hn=>absurd hz hn⟩,hf0,by rw [hc];exact hf1⟩
 ·intro hpr
  obtain ⟨p1,p2⟩:=hp hpr
  rw [hc]
  simp only [PRL,PR,and_true]
  exact ⟨⟨(es'.map (·.key)).toList,by rw [Array.toArray_toList],by rw [Array.toList_map];exact avE _ h1 p2⟩,(es'.map (·.val)).toList,by rw [Array.toArray_toList],by rw [Array.toList_map];exact avE _ h2 p1⟩
 ·rw [hc]
  simp only [VRL,VR,and_true]
  exact ⟨⟨(es'.map (·.key)).toList,by rw [Array.toArray_toList],by rw [Array.toList_map];exact h1⟩,(es'.map (·.val)).toList,by rw [Array.toArray_toList],by rw [Array.toList_map];exact h2⟩
theorem aFT (h:apS ap g m S w) {nid:Nat} (hn:g nid=none) (t:Nat):
  ∃ cv m' w',(Instr.makeMap t none).run P w= .ok cv w'∧apS ap (au6 g [(nid,⟨[.agg [],.agg []],0,false,0,awg,true⟩)]) m' S w'∧Fr g m S w (au6 g [(nid,⟨[.agg [],.agg []],0,false,0,awg,true⟩)]) m' S w'∧VR (au6 g [(nid,⟨[.agg [],.agg []],0,false,0,awg,true⟩)]) m' S (.mr nid 0) cv:=by
 have hput:=h.put nid ⟨[.agg [],.agg []],0,false,0,awg,true⟩ w.heap.size 0 (w':=w.alloc (.map #[] 0)) (.inl (Nat.le_refl _)) (World.grownBy_alloc w _ _)
  (aGw h (b:=nid) (heap_alloc_new w _) rfl rfl (by simp [VRL]) (by simp [VRL]) (fun _=> ⟨rfl,rfl⟩) (fun _=>rfl) (Nat.zero_le _) 0)
  (fun B0 h0=>by rw [hn] at h0;cases h0) (fun o v hv=>absurd (h.seal_lt hv) (Nat.lt_irrefl _))
 refine ⟨.map (some w.heap.size),_,_, ?_,hput.1,hput.2, ?_⟩
 ·simp [Instr.makeMap,Result.andThen]
 ·simp only [VR]
  exact ⟨_,axY _ _ _,Nat.le_refl _,⟨_,rfl⟩,fun _=>by simp [aw9]⟩
theorem aCN:∀ (l:List AV) (td:TD),l.all (ayG td)=true→auh l= []
 | [],_,_=>rfl
 |x::r,td,h=>by
  simp only [List.all_cons,Bool.and_eq_true] at h
  have hx:avh x= []:=by cases td<;>cases x<;>first|rfl|(simp [ayG] at h)
  simp only [auh,hx,aCN r td h.2,List.append_nil]
theorem aE9:∀ (ks vs:List AV) (k v:AV),auh vs= []→avh v= []→auh (aAX ks vs k v)= []
 | [],_,k,v,_,h2=>by simp [aAX,auh,h2]
 |_::_,[],k,v,_,h2=>by simp [aAX,auh,h2]
 |k0::ks,v0::vs,k,v,h1,h2=>by
  simp only [auh,List.append_eq_nil_iff] at h1
  simp only [aAX]
  split
  ·simp [auh,h1.2,h2]
  ·simp [auh,h1.1,aE9 ks vs k v h1.2 h2]
theorem aBe (hap:awf P ap) (h:apS ap g m S w) {rd:HpF} (hrd:∀ b B,rd b=some B→g b=some B) {t:Nat} {ti:TI} {i:TypeInfo} {d:TypeDesc} {z:Value} (ht:TyR P t ti i d z) {x k v r:AV} {cx ck cv:Value} (hx:VR g m S x cx) (hk:VR g m S k ck) (hv:VR g m S v cv)
  {ups:List (Nat × Blk)} {bs:List Bool} (hl:aDO ap ti rd x k v=some (r,ups,bs)) (hbs:∀ b ∈ bs,b=true):
  r= .dead∧∃ m' w',(Instr.mapUpdate t cx ck cv).run P w= .ok () w'∧apS ap (au6 g ups) m' S w'∧Fr g m S w (au6 g ups) m' S w':=by
 unfold aDO at hl
 split at hl
 ·rename_i kt et b ver hd
  have hq:=bind_some hl;clear hl;obtain ⟨tk,htk,hl⟩:=hq
  have hq:=bind_some hl;clear hl;obtain ⟨B,hB,hl⟩:=hq
  split at hl
  ·rename_i hok
   simp only [Bool.and_eq_true,Bool.not_eq_true'] at hok
   split at hl
   ·rename_i ks vs hcells
    cases hl
    obtain ⟨ik,dk,zk,htk⟩:=ava hap htk
    rw [ht.d_eq] at hd
    have hd:=aPT hd
    subst hd
    obtain ⟨b1,hbs⟩:=aui hbs
    obtain ⟨b2,_⟩:=aui hbs
    rw [htk.d_eq] at b1 b2
    have hgB:=hrd b B hB
    have hz:=anN hok.1.2
    have hmc:aOS rd (.mr b ver)=some (ks,vs):=by
     unfold aOS
     simp only [hB,Option.bind_some,hok.1.1,hok.1.2,Bool.and_self,hcells]
    obtain ⟨es,hes,v1,v2⟩:=aEJ h hrd hx hmc
    have hik:=ayH b1 hk
    simp only [VR] at hx
    obtain ⟨B',hB',_,_,q⟩:=hx
    rw [hgB] at hB';cases hB'
    have q:=q (anN hok.1.1)
    subst q
    rcases hes with ⟨e,_⟩|⟨b0,clk,e,hb⟩
    ·cases e
    cases e
    have hlt:(m b).1<w.heap.size:=h.lt hgB
    obtain ⟨_,k7,k8⟩:=h.blk b B hgB
    have key:∀ (es':Array MapEntry) (clk':Nat),VRL g m S (aHE ks k) (es'.toList.map (·.key))→VRL g m S (aAX ks vs k v) (es'.toList.map (·.val))→
      ∃ m',apS ap (au6 g [(b,{B with cells:= [.agg (aHE ks k),.agg (aAX ks vs k v)],pr:=B.pr && (avh v).isEmpty})]) m' S {w with heap:=w.heap.setIfInBounds (m b).1 (.map es' clk')}∧Fr g m S w (au6 g [(b,{B with cells:= [.agg (aHE ks k),.agg (aAX ks vs k v)],pr:=B.pr && (avh v).isEmpty})]) m' S {w with heap:=w.heap.setIfInBounds (m b).1 (.map es' clk')}:=by
     intro es' clk' w1 w2
     have hput:=h.put b {B with cells:= [.agg (aHE ks k),.agg (aAX ks vs k v)],pr:=B.pr && (avh v).isEmpty} (m b).1 (m b).2 (w':={w with heap:=w.heap.setIfInBounds (m b).1 (.map es' clk')})
      (.inr ⟨B,hgB,rfl⟩) ⟨rfl,rfl,rfl,by simp,fun k' _ hk'=>by simp [show (m b).1 ≠ k' from fun e=>hk' (by rw [e])]⟩
      (aGw h (b:=b) (B:={B with cells:= [.agg (aHE ks k),.agg (aAX ks vs k v)],pr:=B.pr && (avh v).isEmpty}) (w':={w with heap:=w.heap.setIfInBounds (m b).1 (.map es' clk')}) (k:=(m b).1) (clk':=clk') (by simp [hlt]) hz rfl w1 w2 (fun hpr=>by
       have hpr:(B.pr && (avh v).isEmpty)=true:=hpr
       simp only [Bool.and_eq_true] at hpr
       obtain ⟨⟨cur,e,us,rest,k1,k2,k3,k4,_,_⟩,_,_⟩:=h.blk b B hgB
       have hr:auh B.cells= []:=ay0 _ (k3 hpr.1)
       rw [hcells] at hr
       simp only [auh,avh,List.append_nil,List.append_eq_nil_iff] at hr
       refine ⟨aE9 _ _ _ _ hr.2 (ay9 hpr.2), ?_⟩
       have hks:=aCN ks _ b2
       unfold aHE
       split
       ·exact hks
       ·rw [azG,hks];exact aCN [k] (awG P (some dk)) (by simp [b1])) k7 (by rw [hcells] at k8;exact k8) (m b).2)
      (fun B0 h0=>by rw [hgB] at h0;cases h0;exact ⟨rfl,.inl ⟨rfl,rfl⟩⟩)
      (fun o u hu=>by
       have:=(h.own b B hgB o u hu).1
       rw [hok.2] at this;cases this)
     exact ⟨_,hput.1,hput.2⟩
    refine ⟨rfl, ?_⟩
    rcases aAd hk b1 hv es.toList ks vs 0 v1 v2 b2 with ⟨r1,r2,r3,r4⟩|⟨j,e,y,r1,rj,rk,r4,r5,r6,r7⟩
    ·obtain ⟨m',s1,s2⟩:=key (es.push {key:=ck,val:=cv,born:=clk}) (clk+1)
      (by unfold aHE;rw [r3,Array.toList_push,List.map_append];exact av2 v1 (by simp only [List.map_cons,List.map_nil,VRL,and_true];exact hk))
      (by rw [r4,Array.toList_push,List.map_append];exact av2 v2 (by simp only [List.map_cons,List.map_nil,VRL,and_true];exact hv))
     refine ⟨m',_, ?_,s1,s2⟩
     simp [Instr.mapUpdate,run_underlying ht.und,MapKept.run_getObj_map hb,MapKept.run_checkKey htk.und hik,MapKept.run_findKey htk.und r1,MapKept.run_setObj_map _ hb,Result.andThen]
    ·have hje:es[j]? =some e:=by simpa using rj
     have hl1:(es.modify j fun e=> {e with key:=ck,val:=cv}).toList=es.toList.set j {e with key:=ck,val:=cv}:=by
      apply List.ext_getElem?
      intro n
      simp only [Array.getElem?_toList,Array.getElem?_modify,List.getElem?_set]
      by_cases hjn:j=n
      ·subst hjn
       have hjl:j<es.toList.length:=(List.getElem?_eq_some_iff.1 rj).1
       rw [if_pos rfl,if_pos rfl,if_pos hjl,hje];rfl
      ·rw [if_neg hjn,if_neg hjn]
     obtain ⟨m',s1,s2⟩:=key (es.modify j fun e=> {e with key:=ck,val:=cv}) clk
      (by
       unfold aHE;rw [r6,hl1]
       have:(es.toList.set j {e with key:=ck,val:=cv}).map (·.key)=es.toList.map (·.key):=by
        apply List.ext_getElem?
        intro n
        simp only [List.getElem?_map,List.getElem?_set]
        by_cases hjn:j=n
        ·subst hjn
         have hjl:j<es.toList.length:=(List.getElem?_eq_some_iff.1 rj).1
         have hjs:j<es.size:=by simpa using hjl
         have hge:es[j]=e:=by rw [Array.getElem?_eq_getElem hjs] at hje;exact Option.some.inj hje
         simp [hjs,hge,rk]
        ·simp [hjn]
       rw [this];exact v1)
      (by rw [hl1];exact r7)
     refine ⟨m',_, ?_,s1,s2⟩
     rw [Nat.zero_add] at r1
     simp [Instr.mapUpdate,run_underlying ht.und,MapKept.run_getObj_map hb,MapKept.run_checkKey htk.und hik,MapKept.run_findKey htk.und r1,hje,rk,MapKept.run_keyThatStays hik,MapKept.run_setObj_map _ hb,Result.andThen]
   ·cases hl
  ·cases hl
 ·cases hl
end
end AM
namespace AM
open Go
section
variable {P:Program} {ap:AP} {g:HpF} {m:anV} {S:anR} {w:World}
theorem aAy {ρ:Operand→AV} {cρ:Operand→Value}:∀ (l:List Operand),(∀ o ∈ l,VR g m S (ρ o) (cρ o))→VRL g m S (l.map ρ) (l.map cρ)
 | [],_=>by simp [VRL]
 |o::r,h=>by simp only [List.map_cons,VRL];exact ⟨h o (by simp),aAy r fun o ho=>h o (by simp [ho])⟩
theorem aDV {ρ:Operand→AV} {cρ:Operand→Value}:∀ (l:List (Nat × Operand)),(∀ o ∈ l.map (·.2),VR g m S (ρ o) (cρ o))→aBF g m S (l.map fun (i,x)=>(i,ρ x)) (l.map fun (i,x)=>(i,cρ x))
 | [],_=>by simp [aBF]
 |(i,o)::r,h=>by simp only [List.map_cons,aBF];exact ⟨trivial,h o (by simp),aDV r fun o ho=>h o (by simp [ho])⟩
def awl (P:Program) (ap:AP) (g:HpF) (m:anV) (S:anR) (w:World) (s:Sem Next) (v:AV) (ups:List (Nat × Blk)):Prop:=
 ∃ nx m' w',s.run P w= .ok nx w'∧apS ap (au6 g ups) m' S w'∧Fr g m S w (au6 g ups) m' S w'∧((∃ cv,nx= .value cv∧VR (au6 g ups) m' S v cv)∨(nx= .skip∧v= .dead))
theorem awl.pur (h:apS ap g m S w) {s:Sem Value} {v:AV} {ups:List (Nat × Blk)} (hs:ups= []∧∃ cv,s.run P w= .ok cv w∧VR g m S v cv):awl P ap g m S w (do pure (.value (← s))) v ups:=by
 obtain ⟨rfl,cv,h1,h2⟩:=hs
 exact ⟨.value cv,m,w,by simp [h1],by rw [avt];exact h,by rw [avt];exact Fr.refl _ _ _ _,.inl ⟨cv,rfl,by rw [avt];exact h2⟩⟩
theorem awl.full {s:Sem Value} {v:AV} {ups:List (Nat × Blk)} (hs:∃ cv m' w',s.run P w= .ok cv w'∧apS ap (au6 g ups) m' S w'∧Fr g m S w (au6 g ups) m' S w'∧VR (au6 g ups) m' S v cv):awl P ap g m S w (do pure (.value (← s))) v ups:=by
 obtain ⟨cv,m',w',h1,h2,h3,h4⟩:=hs
 exact ⟨.value cv,m',w',by simp [h1],h2,h3,.inl ⟨cv,rfl,h4⟩⟩
theorem awl.val (h:apS ap g m S w) {s:Sem Next} {v:AV} {cv:Value} (hs:s.run P w= .ok (.value cv) w) (hv:VR g m S v cv):awl P ap g m S w s v []:=
 ⟨.value cv,m,w,hs,by rw [avt];exact h,by rw [avt];exact Fr.refl _ _ _ _,.inl ⟨cv,rfl,by rw [avt];exact hv⟩⟩
theorem aDT {ρ:Operand→AV} {cρ:Operand→Value} (x:Option Operand) (h:∀ o ∈ x.toArray,VR g m S (ρ o) (cρ o)):aDS g m S (x.map ρ) (x.map cρ):=by
 cases x with
 |none=>simp [aDS]
 |some o=>simp only [Option.map_some,aDS];exact h o (by simp)
theorem aIi (hap:awf P ap) {t:Nat} {ti:TI} (h:ap.tyAt t=some ti) (hd:ti.d ≠ .iface):P.concrete t=true:=by
 obtain ⟨i,d,z,ht⟩:=ava hap h
 have:=ht.d_eq
 simp only [Program.concrete,ht.und]
 cases d<;>simp_all [awG]
set_option maxHeartbeats 1000000 in
theorem aMB (hap:awf P ap) (hS:apS ap g m S w) {nid:Nat} (hn:g nid=none) {ρ:Operand→AV} {cρ:Operand→Value} {rd:HpF} (hrd:∀ b B,rd b=some B→g b=some B) (o:Oper) (hρ:∀ x ∈ o.op.operands,VR g m S (ρ x) (cρ x))
  {dec:Operand→Option Bool} (hdec:∀ x ∈ o.op.operands,∀ b,dec x=some b→cρ x= .bool b) {em:Bool} (hem:∀ n,aBV ρ o.op=some n→Nat.beq n 0=em)
  {v:AV} {ups:List (Nat × Blk)} {bs:List Bool} (h:opA ap nid ρ rd dec em o.op=some (v,ups,bs)) (hbs:∀ b ∈ bs,b=true):awl P ap g m S w (execOp cρ o) v ups:=by
 unfold opA at h
 unfold execOp
 split at h<;>rename_i heq<;>simp only [heq,Op.operands] at hρ hdec hem ⊢
 ·obtain ⟨rfl,rfl,rfl⟩:=anP h
  exact awl.val hS (by simp) (hρ _ (by simp))
 ·obtain ⟨rfl,rfl,rfl⟩:=anP h
  exact awl.val hS (by simp) (hρ _ (by simp))
 ·
  rename_i c a b
  split at h
  ·rename_i hd
   obtain ⟨rfl,rfl,rfl⟩:=anP h
   have:=hdec c (by simp) _ hd
   exact awl.val hS (by simp [this,asBool]) (hρ _ (by simp))
  ·rename_i hd
   obtain ⟨rfl,rfl,rfl⟩:=anP h
   have:=hdec c (by simp) _ hd
   exact awl.val hS (by simp [this,asBool]) (hρ _ (by simp))
  ·split at h
   ·rename_i bc ba bb e1 e2 e3
    obtain ⟨rfl,rfl,rfl⟩:=anP h
    have h1:=hρ c (by simp)
    have h2:=hρ a (by simp)
    have h3:=hρ b (by simp)
    rw [e1] at h1;rw [e2] at h2;rw [e3] at h3
    simp only [VR,PR] at h1 h2 h3
    refine awl.val hS (cv:= .bool (cond bc ba bb)) ?_ (by simp only [VR,PR])
    rw [h1,h2,h3]
    cases bc<;>simp [asBool]
   ·cases h
 ·
  rename_i e
  have hq:=bind_some h;clear h;obtain ⟨te,hte,h⟩:=hq
  obtain ⟨ie,de,ze,ht⟩:=ava hap hte
  split at h
  ·rename_i hok
   simp only [Bool.and_eq_true] at hok
   cases h
   obtain ⟨m',w',h1,h2,h3,h4⟩:=aF6 (P:=P) hS hn (cells:=te.zero) (cv:=ze) (ay2 ht) ht.zleaf (fun u hu=>aDx (g:=g) (m:=m) (S:=S) (ay2 ht) ht.zleaf u (by simpa using hu)) e
   refine awl.full ⟨.pointer (some ⟨w.heap.size,0,none⟩),m',w', ?_,h2,h3,aLr h4⟩
   simp [Instr.alloc,zeroValue,typeInfo,ht.info,ht.zero,h1]
  ·cases h
 ·
  rename_i e x
  have hq:=bind_some h;clear h;obtain ⟨te,hte,h⟩:=hq
  obtain ⟨ie,de,ze,ht⟩:=ava hap hte
  simp only at h
  split at h
  ·rename_i hok
   simp only [Bool.and_eq_true] at hok
   cases h
   have hx:=hρ x (by simp)
   have hl:∀ y ∈ (ρ x).cells,ayc y=true:=fun y hy=>List.all_eq_true.1 hok.2 y hy
   obtain ⟨hv1,hv2⟩:=aDZ hx hl
   obtain ⟨m',w',h1,h2,h3,h4⟩:=aF6 (P:=P) hS hn (cells:=(ρ x).cells) (cv:=cρ x) hv1 hl hv2 e
   refine awl.full ⟨.pointer (some ⟨w.heap.size,0,none⟩),m',w', ?_,h2,h3,aLr h4⟩
   simp [Instr.box,h1]
  ·cases h
 ·
  rename_i t parts
  have hq:=bind_some h;clear h;obtain ⟨ti,hti,h⟩:=hq
  obtain ⟨i,d,z,ht⟩:=ava hap hti
  refine awl.pur hS ?_
  refine aG3 hap ht (qs:=parts.map fun (i,x)=>(i,cρ x)) ?_ h
  rw [Array.toList_map]
  exact aDV parts.toList fun x hx=>hρ x (by simpa using hx)
 ·
  rename_i t len parts
  have hq:=bind_some h;clear h;obtain ⟨ti,hti,h⟩:=hq
  obtain ⟨i,d,z,ht⟩:=ava hap hti
  refine awl.full ?_
  refine aBN hap hS hn ht (qs:=parts.map fun (i,x)=>(i,cρ x)) ?_ h
  rw [Array.toList_map]
  exact aDV parts.toList fun x hx=>hρ x (by simpa using hx)
 ·
  rename_i t a
  have hq:=bind_some h;clear h;obtain ⟨ti,hti,h⟩:=hq
  obtain ⟨i,d,z,ht⟩:=ava hap hti
  exact awl.pur hS (aC5 hS hrd ht (hρ a (by simp)) h hbs)
 ·
  rename_i t a x
  have hq:=bind_some h;clear h;obtain ⟨ti,hti,h⟩:=hq
  obtain ⟨i,d,z,ht⟩:=ava hap hti
  have ha:=hρ a (by simp)
  have hx:=hρ x (by simp)
  generalize cρ a=ca at ha ⊢
  generalize cρ x=cx at hx ⊢
  obtain ⟨rfl,m',w',h1,h2,h3⟩:=aHO hS hrd ht ha hx h hbs
  exact ⟨.skip,m',w',by simp [h1],h2,h3,.inr ⟨rfl,rfl⟩⟩
 ·
  rename_i t r
  split at h
  ·cases h
   obtain ⟨cv,m',w',h1,h2,h3,h4⟩:=aFT (P:=P) hS hn t
   exact ⟨.value cv,m',w',by simp [h1],h2,h3,.inl ⟨cv,rfl,h4⟩⟩
  ·cases h
 ·
  rename_i t x k ok
  have hq:=bind_some h;clear h;obtain ⟨ti,hti,h⟩:=hq
  obtain ⟨i,d,z,ht⟩:=ava hap hti
  exact awl.pur hS (aFS hap hS hrd ht (hρ x (by simp)) (hρ k (by simp)) h hbs)
 ·
  rename_i t x k v
  have hq:=bind_some h;clear h;obtain ⟨ti,hti,h⟩:=hq
  obtain ⟨i,d,z,ht⟩:=ava hap hti
  obtain ⟨rfl,m',w',h1,h2,h3⟩:=aBe hap hS hrd ht (hρ x (by simp)) (hρ k (by simp)) (hρ v (by simp)) h hbs
  exact ⟨.skip,m',w',by simp [h1],h2,h3,.inr ⟨rfl,rfl⟩⟩
 ·
  rename_i t x k v
  have hq:=bind_some h;clear h;obtain ⟨ti,hti,h⟩:=hq
  obtain ⟨i,d,z,ht⟩:=ava hap hti
  obtain ⟨rfl,m',w',h1,h2,h3⟩:=aBe hap hS hrd ht (hρ x (by simp)) (hρ k (by simp)) (hρ v (by simp)) h hbs
  exact ⟨.skip,m',w',by simp [h1],h2,h3,.inr ⟨rfl,rfl⟩⟩
 ·
  rename_i x
  have hx:=hρ x (by simp)
  split at h
  ·rename_i b ver off e
   rw [e] at hx
   obtain ⟨rfl,rfl,rfl⟩:=anP h
   have hx':=hx
   simp only [VR] at hx'
   obtain ⟨_,_,_,⟨k,o,hv⟩,_⟩:=hx'
   exact awl.val hS (cv:=cρ x) (by rw [hv];simp) hx
  ·rename_i xs off e
   rw [e] at hx
   obtain ⟨rfl,rfl,rfl⟩:=anP h
   have hx':=hx
   simp only [VR,PR] at hx'
   obtain ⟨_,_,_,hv,_⟩:=hx'
   exact awl.val hS (cv:=cρ x) (by rw [hv];simp) hx
  ·rename_i f a c e
   rw [e] at hx
   obtain ⟨rfl,rfl,rfl⟩:=anP h
   have hx':=hx
   simp only [VR] at hx'
   obtain ⟨_,_,hv,_⟩:=hx'
   exact awl.val hS (cv:=cρ x) (by rw [hv];simp) hx
  ·cases h
 ·
  rename_i op t x y _
  have hq:=bind_some h;clear h;obtain ⟨ti,hti,h⟩:=hq
  exact awl.pur hS (aJD hap hti (hρ x (by simp)) (hρ y (by simp)) h hbs x y)
 ·
  exact awl.pur hS (aM4 (hρ _ (by simp)) h)
 ·
  rename_i s d x
  have hq:=bind_some h;clear h;obtain ⟨ts,hts,h⟩:=hq
  have hq:=bind_some h;clear h;obtain ⟨td,htd,h⟩:=hq
  exact awl.pur hS (aEc hap hS hrd hts htd (hρ x (by simp)) h hbs)
 ·
  rename_i t x
  have hq:=bind_some h;clear h;obtain ⟨ti,hti,h⟩:=hq
  split at h
  ·cases h
  ·rename_i hd
   obtain ⟨rfl,rfl,rfl⟩:=anP h
   refine awl.pur hS ⟨rfl,.iface t (cρ x),run_makeInterface w t _ (aIi hap hti hd), ?_⟩
   simp only [VR]
   exact ⟨_,rfl,hρ x (by simp)⟩
 ·
  rename_i f first cap
  obtain ⟨rfl,rfl,rfl⟩:=anP h
  refine awl.pur hS ⟨rfl,.func (.func f) (first.map cρ) (cap.map cρ),by simp [Instr.makeFunc], ?_⟩
  simp only [VR]
  refine ⟨(first.map cρ).toList,(cap.map cρ).toList,by rw [Array.toArray_toList,Array.toArray_toList], ?_, ?_⟩
  ·rw [Array.toList_map];exact aAy _ fun x hx=>hρ x (by simp at hx ⊢;exact .inl hx)
  ·rw [Array.toList_map];exact aAy _ fun x hx=>hρ x (by simp at hx ⊢;exact .inr hx)
 ·
  rename_i t l c
  have hq:=bind_some h;clear h;obtain ⟨ti,hti,h⟩:=hq
  obtain ⟨i,d,z,ht⟩:=ava hap hti
  exact awl.full (aCG hap hS hn ht (hρ l (by simp)) (hρ c (by simp)) h hbs)
 ·
  rename_i t x lo hi mx
  have hq:=bind_some h;clear h;obtain ⟨ti,hti,h⟩:=hq
  obtain ⟨i,d,z,ht⟩:=ava hap hti
  exact awl.pur hS (aHM hap hrd ht (hρ x (by simp)) (aDT lo fun o ho=>hρ o (by simp at ho;simp [ho])) (aDT hi fun o ho=>hρ o (by simp at ho;simp [ho])) (aDT mx fun o ho=>hρ o (by simp at ho;simp [ho])) h hbs)
 ·
  rename_i s x f
  have hq:=bind_some h;clear h;obtain ⟨ti,hti,h⟩:=hq
  obtain ⟨i,d,z,ht⟩:=ava hap hti
  split at h
  ·rename_i fs hd
   have hq:=bind_some h;clear h;obtain ⟨⟨o,ft,sz⟩,hf,h⟩:=hq
   simp only at h
   split at h
   ·rename_i hsz
    have hq:=bind_some h;clear h;obtain ⟨p,hp,h⟩:=hq
    obtain ⟨rfl,rfl,rfl⟩:=anP h
    exact awl.pur hS ⟨rfl,aDo ht hd hf hsz (hρ x (by simp)) hp⟩
   ·cases h
  ·cases h
 ·
  rename_i t x f
  have hq:=bind_some h;clear h;obtain ⟨ti,hti,h⟩:=hq
  obtain ⟨i,d,z,ht⟩:=ava hap hti
  exact awl.pur hS (aHh hap ht (hρ x (by simp)) h hbs)
 ·
  rename_i t x ix
  have hq:=bind_some h;clear h;obtain ⟨ti,hti,h⟩:=hq
  obtain ⟨i,d,z,ht⟩:=ava hap hti
  exact awl.pur hS (aCz hap hrd ht (hρ x (by simp)) (hρ ix (by simp)) h hbs)
 ·
  rename_i t x ix
  have hq:=bind_some h;clear h;obtain ⟨ti,hti,h⟩:=hq
  obtain ⟨i,d,z,ht⟩:=ava hap hti
  exact awl.pur hS (aHn hap ht (hρ x (by simp)) (hρ ix (by simp)) h hbs)
 ·
  exact awl.pur hS (aFO hap (hρ _ (by simp)) h _)
 ·
  rename_i t i
  have ht:=hρ t (by simp)
  split at h
  ·rename_i l e
   rw [e] at ht
   have hq:=bind_some h;clear h;obtain ⟨x,hx,h⟩:=hq
   obtain ⟨rfl,rfl,rfl⟩:=anP h
   simp only [VR] at ht
   obtain ⟨vs,hv,hl⟩:=ht
   obtain ⟨cv,h1,h2⟩:=azs hl i hx
   refine awl.pur hS ⟨rfl,cv, ?_,h2⟩
   rw [hv]
   simp [Instr.extract,h1]
  ·cases h
 ·
  rename_i b args ats
  simp only [Call.operands] at hρ
  have hargs:∀ x ∈ args,VR g m S (ρ x) (cρ x):=fun x hx=>hρ x (by simp [hx])
  split at h
  ·have hq:=bind_some h;clear h;obtain ⟨x,hx,h⟩:=hq
   have hq:=bind_some h;clear h;obtain ⟨t,hat,h⟩:=hq
   have hq:=bind_some h;clear h;obtain ⟨ti,hti,h⟩:=hq
   obtain ⟨i,d,z,ht⟩:=ava hap hti
   obtain ⟨hu,cv,h1,h2⟩:=aKb (P:=P) (w:=w) (hargs x (Array.mem_of_getElem? hx)) ht h ats hat (args.map cρ) (by simp [hx]) o.type
   subst hu
   exact awl.val hS (cv:=cv) (by simp [resolve,invoke,builtin,h1]) h2
  ·split at h
   ·rename_i s x t t1 ha hat
    have hargs':args=#[s,x]:=by apply Array.ext';simpa using ha
    have hats':ats=#[t,t1]:=by apply Array.ext';simpa using hat
    subst hargs';subst hats'
    have hq:=bind_some h;clear h;obtain ⟨ti,hti,h⟩:=hq
    have hq:=bind_some h;clear h;obtain ⟨ti1,hti1,h⟩:=hq
    obtain ⟨i,d,z,ht⟩:=ava hap hti
    obtain ⟨i1,d1,z1,ht1⟩:=ava hap hti1
    have hs:=hargs s (by simp)
    have hx:=hargs x (by simp)
    have hem':ρ s= .nilS→∃ n,aBl (ρ x)=some n∧Nat.beq n 0=em:=by
     intro e
     cases hc:aBl (ρ x) with
     | none=>
      exfalso
      split at h
      ·rename_i hx';rw [hx'] at hc;simp [aBl] at hc
      ·cases h
      ·rename_i y hy1 _ hy2 hy3
       have hq:=bind_some h;clear h;obtain ⟨te,hte,h⟩:=hq
       unfold aBJ at h
       have hq:=bind_some h;clear h;obtain ⟨⟨xs,n,pr⟩,hsrc,h⟩:=hq
       cases hxx:ρ x<;>simp [hxx,aBl] at hc<;>simp [hxx,aI5] at hsrc
      ·cases h
     |some n=>exact ⟨n,rfl,hem n (by simp [aBV,e,hc])⟩
    split at h
    ·rename_i e y hd hd1 hy
     have hq:=bind_some h;clear h;obtain ⟨te,hte,h⟩:=hq
     obtain ⟨ie,de,ze,hte'⟩:=ava hap hte
     split at h
     ·rename_i h1
      rw [ht.d_eq] at hd
      rw [ht1.d_eq] at hd1
      have hd:=avY hd
      have hd1:=aBA hd1
      subst hd;subst hd1
      obtain ⟨cv,m',w',r1,r2,r3,r4⟩:=aA3 (P:=P) hS hrd hn ht hte' hs hx (tx:=t1) (.inl ⟨⟨y,hy⟩,ht1.und,anN h1⟩) hem' (by rw [hy];exact h) hbs o.type
      exact ⟨.value cv,m',w',by simp [resolve,invoke,builtin,r1],r2,r3,.inl ⟨cv,rfl,r4⟩⟩
     ·cases h
    ·cases h
    ·rename_i e e1 hd hd1 hns
     have hq:=bind_some h;clear h;obtain ⟨te,hte,h⟩:=hq
     obtain ⟨ie,de,ze,hte'⟩:=ava hap hte
     rw [ht.d_eq] at hd
     rw [ht1.d_eq] at hd1
     have hd:=avY hd
     have hd1:=avY hd1
     subst hd;subst hd1
     obtain ⟨cv,m',w',r1,r2,r3,r4⟩:=aA3 (P:=P) hS hrd hn ht hte' hs hx (tx:=t1) (.inr ⟨fun s e=>hns s e,_,ht1.und⟩) hem' h hbs o.type
     exact ⟨.value cv,m',w',by simp [resolve,invoke,builtin,r1],r2,r3,.inl ⟨cv,rfl,r4⟩⟩
    ·cases h
   ·cases h
  ·have hq:=bind_some h;clear h;obtain ⟨r,hr,h⟩:=hq
   obtain ⟨rfl,rfl,rfl⟩:=anP h
   obtain ⟨cv,h1,h2⟩:=aMu (P:=P) (w:=w) (aAy args.toList fun x hx=>hargs x (Array.mem_toList_iff.1 hx)) hr ats o.type
   refine awl.val hS (cv:=cv) ?_ h2
   have:(List.map cρ args.toList).toArray=args.map cρ:=by apply Array.ext';rw [List.toList_toArray,Array.toList_map]
   rw [this] at h1
   simp [resolve,invoke,builtin,h1]
  ·have hq:=bind_some h;clear h;obtain ⟨r,hr,h⟩:=hq
   obtain ⟨rfl,rfl,rfl⟩:=anP h
   obtain ⟨cv,h1,h2⟩:=aMs (P:=P) (w:=w) (aAy args.toList fun x hx=>hargs x (Array.mem_toList_iff.1 hx)) hr ats o.type
   refine awl.val hS (cv:=cv) ?_ h2
   have:(List.map cρ args.toList).toArray=args.map cρ:=by apply Array.ext';rw [List.toList_toArray,Array.toList_map]
   rw [this] at h1
   simp [resolve,invoke,builtin,h1]
  ·cases h
 ·cases h
end
end AM
namespace AM
open Go
structure Cx.Ok (c:Cx):Prop where
 bs:∀ b ∈ c.bs,b=true
 ps:∀ p ∈ c.ps,p
theorem R.bind_ok {α β:Type} {r:R α} {f:α→Cx→R β} {b:β} {c:Cx} (h:r.bind f= .ok b c):∃ a c1,r= .ok a c1∧f a c1= .ok b c:=by
 cases r with
 |ok a c1=>exact ⟨a,c1,rfl,h⟩
 |need=>simp [R.bind] at h
 |bad n=>simp [R.bind] at h
theorem aHe {c c':Cx} {bs:List Bool} {u:Unit} (h:aQ7 c bs= .ok u c') (hc:c'.Ok):c.Ok∧∀ b ∈ bs,b=true:=by
 unfold aQ7 at h
 split at h
 ·split at h
  ·rename_i hb
   cases h
   exact ⟨hc,fun b hb'=>by simpa using List.all_eq_true.1 hb b hb'⟩
  ·cases h
 ·cases h
  exact ⟨⟨fun b hb=>hc.bs b (by simp [hb]),hc.ps⟩,fun b hb=>hc.bs b (by simp [hb])⟩
theorem axm {c c':Cx} {b b':Bool} (h:aCt c b= .ok b' c') (hc:c'.Ok):c.Ok∧b'=b:=by
 unfold aCt at h
 split at h
 ·cases h;exact ⟨hc,rfl⟩
 ·split at h
  ·cases h
  ·rename_i o r _
   cases h
   have h1:=hc.bs (lit b' b) (by simp)
   refine ⟨⟨fun x hx=>hc.bs x (by simp [hx]),hc.ps⟩, ?_⟩
   cases b'<;>cases b<;>simp [lit] at h1 ⊢
theorem awh {l:List Nat} {a:Nat}:ayQ l a=true↔a ∈ l:=by
 simp only [ayQ,List.any_eq_true]
 constructor
 ·rintro ⟨x,hx,h⟩;exact anN h ▸ hx
 ·intro h;exact ⟨a,h,Nat.beq_refl a⟩
theorem awt {α β:Type} {f:α→Option β}:∀ {l:List α} {l':List β},aw8 f l=some l'→l'.length=l.length∧∀ (i:Nat) x,l[i]? =some x→∃ y,l'[i]? =some y∧f x=some y
 | [],l',h=>by simp [aw8] at h;subst h;simp
 | a::r,l',h=>by
  simp only [aw8] at h
  split at h
  ·rename_i y hy
   split at h
   ·rename_i q hq
    cases h
    obtain ⟨h1,h2⟩:=awt hq
    refine ⟨by simp [h1], ?_⟩
    intro i x hx
    cases i with
    |zero=>simp at hx;subst hx;exact ⟨y,by simp,hy⟩
    |succ i=>simpa using h2 i x (by simpa using hx)
   ·cases h
  ·cases h
section
variable {P:Program} {ap:AP} {g:HpF} {m:anV} {S:anR} {w:World}
noncomputable def auZ (S:anR) (m:anV) (rd:HpF) (w:World):anR:=fun k o=>
 match S k o with
 |some v=>some v
 |none=>open Classical in if ∃ b B,rd b=some B∧(m b).1=k∧o<B.cells.length then au2 w k o else none
theorem axW (S:anR) (m:anV) (rd:HpF) (w:World):SLe S (auZ S m rd w):=by
 intro k o v h;simp [auZ,h]
theorem avC {rd:HpF} {k o:Nat} {v:Value} (h:auZ S m rd w k o=some v):S k o=some v∨(au2 w k o=some v∧∃ b B,rd b=some B∧(m b).1=k∧o<B.cells.length):=by
 unfold auZ at h
 split at h
 ·rename_i v' hv;cases h;exact .inl hv
 ·rename_i hS
  split at h
  ·rename_i hh;exact .inr ⟨h,hh⟩
  ·cases h
theorem ayJ (hS:apS ap g m S w) {rd:HpF} {k o:Nat} {v:Value} (h:auZ S m rd w k o=some v):au2 w k o=some v:=by
 rcases avC h with h|h
 ·exact hS.sealed _ _ _ h
 ·exact h.1
theorem aMM (hS:apS ap g m S w) {rd:HpF} {b:Nat} {B:Blk} (hb:rd b=some B) {o:Nat} (ho:o<B.cells.length) {v:Value} (hv:au2 w (m b).1 o=some v):auZ S m rd w (m b).1 o=some v:=by
 unfold auZ
 split
 ·rename_i v' h'
  have:=hS.sealed _ _ _ h'
  rw [hv] at this;cases this;rfl
 ·rw [if_pos ⟨b,B,hb,rfl,ho⟩];exact hv
theorem aFi (hS:apS ap g m S w) {rd:HpF} (hrd:∀ b B,rd b=some B→g b=some B) {b:Nat} {B:Blk} (hb:rd b=some B):
  ∃ vs,VRL g m S B.cells vs∧(B.pr=true→PRL S B.cells vs)∧(∀ j u,vs[j]? =some u→auZ S m rd w (m b).1 j=some u)∧vs.length=B.cells.length∧(B.esz ≠ awg→∀ u ∈ vs,u.oneCell'=true):=by
 obtain ⟨⟨cur,e,vs,rest,h1,h2,h3,h4,h5,h6⟩,_,_⟩:=hS.blk b B (hrd b B hb)
 refine ⟨vs,h4,h3, ?_,(auc h4).symm,h5⟩
 intro j u hj
 have hjl:=(List.getElem?_eq_some_iff.1 hj).1
 refine aMM hS hb (by rw [auc h4];exact hjl) ?_
 exact h1.get (by rw [h2,List.getElem?_append_left hjl];exact hj) (fun hz=>h5 hz u (List.mem_of_getElem? hj))
theorem aCh (hS:apS ap g m S w) {rd:HpF} (hrd:∀ b B,rd b=some B→g b=some B) {b:Nat} {B:Blk} (hb:rd b=some B) (hz:B.esz ≠ awg):
  ∃ vs,VRL g m S B.cells vs∧(B.pr=true→PRL S B.cells vs)∧axb (auZ S m rd w) (m b).1 0 vs∧vs.length=B.cells.length:=by
 obtain ⟨vs,h1,h2,h3,h4,h5⟩:=aFi hS hrd hb
 refine ⟨vs,h1,h2,fun j u hj=> ?_,h4⟩
 rw [Nat.zero_add]
 exact ⟨h3 j u hj,h5 hz u (List.mem_of_getElem? hj)⟩
theorem aGx {S':anR} {l:List AV} {y:AV} {vs:List Value} {k:Nat} (h:aRP l=some y) (hl:PRL S' l vs) (hs:∀ j u,vs[j]? =some u→S' k j=some u):PR S' y (.map (some k)):=by
 unfold aRP at h
 split at h
 ·rename_i ks ws
  cases h
  match vs,hl with
  | [v0,v1],hl=>
   simp only [PRL,PR,and_true] at hl
   obtain ⟨⟨kk,rfl,p1⟩,vv,rfl,p2⟩:=hl
   simp only [PR]
   exact .inr ⟨k,kk,vv,rfl,hs 0 _ rfl,hs 1 _ rfl,p1,p2⟩
  | [],hl=>simp [PRL] at hl
  | [_],hl=>simp [PRL] at hl
  |_::_::_::_,hl=>simp [PRL] at hl
 ·cases h
theorem az3 {S':anR} {f:AV→Option AV} (hf:∀ x v y,f x=some y→VR g m S x v→PR S' y v):∀ {l l':List AV} {vs:List Value},aw8 f l=some l'→VRL g m S l vs→PRL S' l' vs
 | [],l',[],h,_=>by simp [aw8] at h;subst h;simp [PRL]
 | x::r,l',v::vs,h,hv=>by
  simp only [aw8] at h
  simp only [VRL] at hv
  split at h
  ·rename_i y hy
   split at h
   ·rename_i q hq
    cases h
    simp only [PRL]
    exact ⟨hf x v y hy hv.1,az3 hf hq hv.2⟩
   ·cases h
  ·cases h
 | [],_,_::_,_,h=>by simp [VRL] at h
 |_::_,_,[],_,h=>by simp [VRL] at h
theorem axn (hS:apS ap g m S w) {rd:HpF} (hrd:∀ b B,rd b=some B→g b=some B):∀ (fuel:Nat) (x:AV) (v:Value) (y:AV),frz rd fuel x=some y→VR g m S x v→PR (auZ S m rd w) y v:=by
 intro fuel
 induction fuel with
 |zero=>intro x v y h;simp [frz] at h
 | succ fuel ih=>
  intro x v y h hv
  have hle:=axW S m rd w
  have hlist:∀ {l l':List AV} {vs:List Value},aw8 (frz rd fuel) l=some l'→VRL g m S l vs→PRL (auZ S m rd w) l' vs:=fun h1 h2=>az3 (fun x v y hx hv=>ih x v y hx hv) h1 h2
  unfold frz at h
  simp only at h
  split at h
  ·
   rename_i b ver i n
   have hq:=bind_some h;clear h;obtain ⟨B,hB,h⟩:=hq
   split at h
   ·rename_i hver
    simp only [VR] at hv
    obtain ⟨B',hB',_,_,q⟩:=hv
    rw [hrd b B hB] at hB';cases hB'
    obtain ⟨o,rfl,hcap,ho,hpos,hnz⟩:=q (anN hver)
    obtain ⟨vs,h1,h2,h3,h4⟩:=aCh hS hrd hB hnz
    have hpart:axb (auZ S m rd w) (m b).1 o ((vs.drop (i*B.esz)).take (n*B.esz)):=by
     by_cases hi:i<(m b).2
     ·rw [ho hi]
      have:=(h3.drop (i*B.esz)).take (n*B.esz)
      rwa [Nat.zero_add] at this
     ·have hn:n=0:=by omega
      subst hn
      intro j u hj
      simp at hj
    have hfin:∀ l,PRL (auZ S m rd w) l ((vs.drop (i*B.esz)).take (n*B.esz))→PR (auZ S m rd w) (.sl l n true) (.slice (some ⟨(m b).1,o,none⟩) n ((m b).2 - i)):=by
     intro l hl
     simp only [PR]
     exact ⟨_,_,rfl,by omega,.inr ⟨_,_,_,rfl,hl,hpart⟩⟩
    split at h
    ·rename_i hpr
     cases h
     exact hfin _ (axa _ (ayZ _ (an6 hle _ (h2 hpr))))
    ·simp only [Option.map_eq_some_iff] at h
     obtain ⟨l,hl,rfl⟩:=h
     exact hfin _ (hlist hl (ay1 _ (az4 _ h1)))
   ·cases h
  ·
   rename_i b ver off
   have hq:=bind_some h;clear h;obtain ⟨B,hB,h⟩:=hq
   split at h
   ·rename_i hver
    simp only [Bool.and_eq_true,Bool.not_eq_true'] at hver
    have hnz:B.esz ≠ awg:=fun e=>by rw [e] at hver;exact absurd hver.2 (by decide)
    simp only [VR] at hv
    obtain ⟨B',hB',_,_,q⟩:=hv
    rw [hrd b B hB] at hB';cases hB'
    have q:=q (anN hver.1)
    subst q
    obtain ⟨vs,h1,h2,h3,h4⟩:=aCh hS hrd hB hnz
    have hfin:∀ l,PRL (auZ S m rd w) l vs→PR (auZ S m rd w) (.pp l off) (.pointer (some ⟨(m b).1,off,none⟩)):=by
     intro l hl
     simp only [PR]
     exact ⟨_,0,_,by rw [Nat.zero_add],hl,h3⟩
    split at h
    ·rename_i hpr
     cases h
     exact hfin _ (an6 hle _ (h2 hpr))
    ·simp only [Option.map_eq_some_iff] at h
     obtain ⟨l,hl,rfl⟩:=h
     exact hfin _ (hlist hl h1)
   ·cases h
  ·
   rename_i b ver
   have hq:=bind_some h;clear h;obtain ⟨B,hB,h⟩:=hq
   split at h
   ·rename_i hver
    simp only [Bool.and_eq_true] at hver
    simp only [VR] at hv
    obtain ⟨B',hB',_,_,q⟩:=hv
    rw [hrd b B hB] at hB';cases hB'
    have q:=q (anN hver.1)
    subst q
    obtain ⟨vs,h1,h2,h3,h4,_⟩:=aFi hS hrd hB
    split at h
    ·rename_i hpr
     exact aGx h (an6 hle _ (h2 hpr)) h3
    ·have hq:=bind_some h;clear h;obtain ⟨l,hl,h⟩:=hq
     exact aGx h (hlist hl h1) h3
   ·cases h
  ·simp only [Option.map_eq_some_iff] at h
   obtain ⟨l,hl,rfl⟩:=h
   simp only [VR] at hv
   obtain ⟨vs,e,q⟩:=hv
   simp only [PR]
   exact ⟨vs,e,hlist hl q⟩
  ·simp only [Option.map_eq_some_iff] at h
   obtain ⟨l,hl,rfl⟩:=h
   simp only [VR] at hv
   obtain ⟨vs,e,q⟩:=hv
   simp only [PR]
   exact ⟨vs,e,hlist hl q⟩
  ·have hq:=bind_some h;clear h;obtain ⟨a,ha,h⟩:=hq
   simp only [Option.map_eq_some_iff] at h
   obtain ⟨c,hc,rfl⟩:=h
   simp only [VR] at hv
   obtain ⟨va,vc,e,q,r⟩:=hv
   simp only [PR]
   exact ⟨va,vc,e,hlist ha q,hlist hc r⟩
  ·simp only [Option.map_eq_some_iff] at h
   obtain ⟨u,hu,rfl⟩:=h
   simp only [VR] at hv
   obtain ⟨cu,e,q⟩:=hv
   simp only [PR]
   exact ⟨cu,e,ih _ _ _ hu q⟩
  ·cases h
  ·rename_i n1 n2 n8 n3 n4 n5 n6 n7
   cases h
   refine auC hle _ ?_
   cases x<;>first
    |exact absurd rfl (n1 _ _ _ _)
    |exact absurd rfl (n2 _ _ _)
    |exact absurd rfl (n8 _ _)
    |exact absurd rfl (n3 _)
    |exact absurd rfl (n4 _)
    |exact absurd rfl (n5 _ _ _)
    |exact absurd rfl (n6 _ _)
    |exact absurd rfl (n7 _ _ _)
    |(simp only [VR] at hv;exact hv)
    |(simp only [PR])
end
end AM
