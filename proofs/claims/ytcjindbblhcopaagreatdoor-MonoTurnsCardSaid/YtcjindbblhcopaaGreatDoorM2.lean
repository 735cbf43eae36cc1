/- The abstract machine over the code of the model, and the proof that it is sound. No conditions. -/
import Derived.Test.YtcjindbblhcopaaGreatDoorM1
import Derived.Laws.BytesString
import Derived.Laws.MakeOwn
import Derived.Laws.OwnMore
set_option linter.unusedSimpArgs false
set_option linter.unusedVariables false
namespace AM
open Go
section
variable {P:Program} {ap:AP} {g:bL} {m:aN} {S:aJ} {w:World}
theorem ud {x:AV} {v:Value} (h:VR g m S x v) (hl:∀ y ∈ x.cells,ja y=true):aQ g m S x.cells v.cells.toList∧∀ u ∈ v.cells,u.oneCell'=true:=by
 cases x
 case agg l=>
  simp only [VR] at h
  obtain ⟨vs,rfl,h⟩:=h
  refine ⟨by simpa [Value.cells,AV.cells] using h, ?_⟩
  intro u hu
  simp only [Value.cells] at hu
  simp only [AV.cells] at hl
  have:∀ (l:List AV) (vs:List Value),aQ g m S l vs→(∀ y ∈ l,ja y=true)→∀ u ∈ vs,u.oneCell'=true:=by
   intro l
   induction l with
   |nil=>intro vs hv _ u hu;cases vs<;>simp [aQ] at hv hu
   | cons a r ih=>
    intro vs hv hl u hu
    cases vs with
    |nil=>simp [aQ] at hv
    |cons b q=>
     simp only [aQ] at hv
     rcases List.mem_cons.1 hu with rfl|hu
     ·exact Ct hv.1 (hl a (by simp))
     ·exact ih q hv.2 (fun y hy=>hl y (by simp [hy])) u hu
  exact this l vs h hl u (by simpa using hu)
 all_goals
  have hone:=Ct h (hl _ (by simp [AV.cells]))
  have hc:v.cells=#[v]:=by cases v<;>simp [Value.cells,Value.oneCell'] at hone ⊢
  rw [hc]
  refine ⟨by simp only [AV.cells,aQ];exact ⟨h,trivial⟩,by simpa using hone⟩
theorem xP:∀ (vs:List Value) (i off:Nat) (cs:Array Value),off+i+vs.length≤cs.size→
  ((vs.zipIdx i).foldl (fun (cs:Array Value) (p:Value × Nat)=>cs.setIfInBounds (off+p.2) p.1) cs).toList=cs.toList.take (off+i)++vs++cs.toList.drop (off+i+vs.length)
 | [],i,off,cs,_=>by simp
 | v::vs,i,off,cs,h=>by
  simp only [List.length_cons] at h
  simp only [List.zipIdx_cons,List.foldl_cons]
  rw [xP vs (i+1) off (cs.setIfInBounds (off+i) v) (by simp;omega)]
  have hlt:off+i<cs.toList.length:=by simp;omega
  simp only [Array.toList_setIfInBounds]
  rw [show off+(i+1)=off+i+1 from by omega,List.set_eq_take_append_cons_drop,if_pos hlt]
  have e1:(cs.toList.take (off+i)++v::cs.toList.drop (off+i+1)).take (off+i+1)=cs.toList.take (off+i)++ [v]:=by
   rw [List.take_append]
   have e0:off+i+1 - (cs.toList.take (off+i)).length=1:=by simp [List.length_take];omega
   rw [e0]
   simp [List.take_take]
  have e2:(cs.toList.take (off+i)++v::cs.toList.drop (off+i+1)).drop (off+i+1+vs.length)=cs.toList.drop (off+i+(v::vs).length):=by
   rw [List.drop_append]
   have:(cs.toList.take (off+i)).length=off+i:=by simp [List.length_take];omega
   rw [this,List.drop_eq_nil_of_le (by rw [this];omega),List.nil_append,show off+i+1+vs.length - (off+i)=vs.length+1 from by omega,List.drop_succ_cons,List.drop_drop]
   congr 1
   simp;omega
  rw [e1,e2]
  simp
theorem D4 {xs vs:List AV} {cs us:List Value} {off:Nat} (h:aQ g m S xs cs) (h':aQ g m S vs us):aQ g m S (eI xs off vs) (cs.take off++us++cs.drop (off+us.length)):=by
 unfold eI
 rw [← bw h']
 exact dR (dR (jX _ h) h') (lV _ h)
theorem J8 {xs vs:List AV} {cs us:List Value} {off:Nat} (h:bP S xs cs) (h':bP S vs us):bP S (eI xs off vs) (cs.take off++us++cs.drop (off+us.length)):=by
 unfold eI
 rw [← ow h']
 exact iP (iP (gi _ h) h') (jV _ h)
def iR (g:bL) (m:aN) (S:aJ) (place:Nat→Option (Nat × Nat)):List (Nat × Nat × AV)→List (Nat × Value)→Prop
 | [],[]=>True
 |(off,size,v)::r,(i,c)::q=>place i=some (off,size)∧VR g m S v c∧iR g m S place r q
 |_,_=>False
theorem jC {place:Nat→Option (Nat × Nat)}:∀ (ps:List (Nat × Nat × AV)) (qs:List (Nat × Value)) (cells cells':List AV) (cs:Array Value),iR g m S place ps qs→aQ g m S cells cs.toList→nX cells ps=some cells'→
  ∃ cs',Instr.fill place cs qs=some cs'∧aQ g m S cells' cs'.toList∧cs'.size=cs.size
 | [],[],cells,cells',cs,_,hv,h=>by simp [nX] at h;subst h;exact ⟨cs,rfl,hv,rfl⟩
 | (off,size,v)::r,(i,c)::q,cells,cells',cs,hp,hv,h=>by
  simp only [iR] at hp
  simp only [nX] at h
  split at h
  ·rename_i hc
   simp only [Bool.and_eq_true] at hc
   obtain ⟨⟨c1,c2⟩,c3⟩:=hc
   obtain ⟨h1,h2⟩:=ud hp.2.1 (fun y hy=>List.all_eq_true.1 c3 y hy)
   have hl:=bw h1
   have hl':=bw hv
   have c1:=ax c1
   have c2:=dz c2
   have hsz:c.cells.size=size:=by simp only [Array.length_toList] at hl;omega
   have hle:off+c.cells.size≤cs.size:=by simp only [Array.length_toList] at hl';omega
   have hf:=xP c.cells.toList 0 off cs (by simpa using hle)
   have hv':aQ g m S (eI cells off v.cells) ((c.cells.zipIdx.foldl (fun (cs:Array Value) (p:Value × Nat)=>cs.setIfInBounds (off+p.2) p.1) cs)).toList:=by
    rw [← Array.foldl_toList,Array.toList_zipIdx,hf]
    simp only [Nat.add_zero]
    exact D4 hv h1
   obtain ⟨cs',e,e2,e3⟩:=jC r q _ cells' _ hp.2.2 hv' h
   refine ⟨cs', ?_,e2, ?_⟩
   ·simp only [Instr.fill,hp.1]
    rw [if_neg (by simp;omega)]
    exact e
   ·rw [e3,← Array.length_toList,← Array.foldl_toList,Array.toList_zipIdx,hf]
    simp
    omega
  ·cases h
 | [],_::_,_,_,_,hp,_,_=>by simp [iR] at hp
 |_::_,[],_,_,_,hp,_,_=>by simp [iR] at hp
theorem jY {t:Nat} {ti:TI} {i:TypeInfo} {d:TypeDesc} {z:Value} (ht:sW P t ti i d z):aQ g m S ti.zero z.cells.toList:=by
 rw [ht.zcells];exact bh _ (nT S _)
def pz (g:bL) (m:aN) (S:aJ):List (Nat × AV)→List (Nat × Value)→Prop
 | [],[]=>True
 |(i,v)::r,(j,c)::q=>i=j∧VR g m S v c∧pz g m S r q
 |_,_=>False
theorem lc {size:Nat}:∀ {ps:List (Nat × AV)} {qs:List (Nat × Value)},pz g m S ps qs→iR g m S (fun i=>some (i*size,size)) (ps.map fun (i,v)=>(i*size,size,v)) qs
 | [],[],_=>by simp [iR]
 |(i,v)::r,(j,c)::q,h=>by
  simp only [pz] at h
  obtain ⟨rfl,h1,h2⟩:=h
  simp only [List.map_cons,iR]
  exact ⟨trivial,h1,lc h2⟩
 | [],_::_,h=>by simp [pz] at h
 |_::_,[],h=>by simp [pz] at h
theorem sj {fs:List (Nat × Nat × Nat)} {place:Nat→Option (Nat × Nat)} (hp:∀ i x,fs[i]? =some x→place i=some (x.1,x.2.2)):∀ {ps:List (Nat × AV)} {qs:List (Nat × Value)} {rs:List (Nat × Nat × AV)},pz g m S ps qs→
  fZ (fun (q:Nat × AV)=>(fs[q.1]?).map fun (x:Nat × Nat × Nat)=>(x.1,x.2.2,q.2)) ps=some rs→iR g m S place rs qs
 | [],[],rs,_,h=>by simp [fZ] at h;subst h;simp [iR]
 | (i,v)::r,(j,c)::q,rs,hn,h=>by
  simp only [pz] at hn
  obtain ⟨rfl,h1,h2⟩:=hn
  simp only [fZ] at h
  cases hf:fs[i]? with
  |none=>simp [hf] at h
  | some x=>
   simp only [hf,Option.map_some] at h
   split at h
   ·rename_i l hl
    cases h
    simp only [iR]
    exact ⟨hp i x hf,h1,sj hp h2 hl⟩
   ·cases h
 | [],_::_,_,h,_=>by simp [pz] at h
 |_::_,[],_,h,_=>by simp [pz] at h
theorem si:∀ (fields:List Field),(∀ f ∈ fields,(P.info? f.type).isSome)→fields.mapM (fun f=>(P.info? f.type).map fun i=>(f.offset,i.size))=some (fields.map fun f=>(f.offset,match P.info? f.type with|some i=>i.size|none=>0))
 | [],_=>rfl
 | f::r,h=>by
  cases hi:P.info? f.type with
  |none=>have:=h f (by simp);simp [hi] at this
  |some i=>
   simp [List.mapM_cons,hi,si r (fun f hf=>h f (by simp [hf]))]
theorem yR (hap:eB P ap) {t:Nat} {ti:TI} {i:TypeInfo} {d:TypeDesc} {z:Value} (ht:sW P t ti i d z) {ps:List (Nat × AV)} {qs:Array (Nat × Value)} (hn:pz g m S ps qs.toList) {v:AV} {ups:List (Nat × aL)} {bs:List Bool}
  (h:CE ap ti ps=some (v,ups,bs)):ups= []∧∃ cv,(Instr.build t qs).run P w= .ok cv w∧VR g m S v cv:=by
 unfold CE at h
 split at h
 ·rename_i fs hd
  have hq:=bind_some h;clear h;obtain ⟨rs,hrs,h⟩:=hq
  have hq:=bind_some h;clear h;obtain ⟨cs,hcs,h⟩:=hq
  obtain ⟨rfl,rfl,rfl⟩:=aH h
  rw [ht.d_eq] at hd
  obtain ⟨fields,rfl,rfl⟩:=nH hd
  by_cases hall:∀ f ∈ fields.toList,(P.info? f.type).isSome
  ·have hpl:=si fields.toList hall
   have hpr:=sj (place:=((fields.toList.map fun f=>(f.offset,match P.info? f.type with|some i=>i.size|none=>0)).toArray[·]?)) (by
    intro i x hx
    simp only [List.getElem?_map,Option.map_eq_some_iff] at hx
    obtain ⟨f,hf,rfl⟩:=hx
    simp [hf]
    rfl) hn hrs
   obtain ⟨cs',e1,e2,_⟩:=jC rs qs.toList ti.zero cs z.cells hpr (jY ht) hcs
   refine ⟨rfl,.agg cs',run_build w t qs cs' ?_, ?_⟩
   ·simp only [Program.built,ht.info,ht.und,ht.zero]
    rw [hpl]
    exact e1
   ·simp only [VR];exact ⟨cs'.toList,by simp,e2⟩
  ·exfalso
   apply hall
   intro f hf
   have:=ht.fld
   simp only [HW] at this
   exact List.all_eq_true.1 this f hf
 ·rename_i n e hd
  have hq:=bind_some h;clear h;obtain ⟨te,hte,h⟩:=hq
  have hq:=bind_some h;clear h;obtain ⟨cs,hcs,h⟩:=hq
  obtain ⟨rfl,rfl,rfl⟩:=aH h
  obtain ⟨ie,de,ze,hte⟩:=cj hap hte
  rw [ht.d_eq] at hd
  have hd:=qB hd
  subst hd
  obtain ⟨cs',e1,e2,_⟩:=jC _ qs.toList ti.zero cs z.cells (lc (size:=te.size) hn) (jY ht) hcs
  refine ⟨rfl,.agg cs',run_build w t qs cs' ?_, ?_⟩
  ·simp only [Program.built,ht.info,ht.und,ht.zero,hte.info]
   rw [← hte.size]
   exact e1
  ·simp only [VR];exact ⟨cs'.toList,by simp,e2⟩
 ·cases h
end
end AM
namespace AM
open Go
section
variable {P:Program} {ap:AP} {g:bL} {m:aN} {S:aJ} {w:World}
theorem oQ {t:Nat} {ti:TI} {i:TypeInfo} {d:TypeDesc} {z:Value} (ht:sW P t ti i d z) {v:AV} (h:kz ti ti.zero=some v):VR g m S v z:=by
 have hz:=jY (g:=g) (m:=m) (S:=S) ht
 have ha:=ht.zagg
 unfold kz at h
 rw [ht.d_eq,wE] at h
 unfold QH at ha
 rw [ht.zero] at ha
 split at h
 ·rename_i hrow
  cases h
  cases d<;>simp [TypeDesc.isRow] at hrow<;>cases z<;>simp at ha
  all_goals
   simp only [VR]
   exact ⟨_,rfl,by simpa [Value.cells] using hz⟩
 ·rename_i hrow
  split at h
  ·rename_i c hc
   cases h
   have hzc:z.cells=#[z]:=by
    cases z<;>first|rfl|skip
    cases d<;>simp [TypeDesc.isRow] at hrow ha
   rw [hc,hzc] at hz
   simp only [aQ] at hz
   exact hz.1
  ·cases h
theorem xc (hap:eB P ap) {x v:AV} {cx:Value} (hx:VR g m S x cx) {asserted:Nat} {ok:Bool} {ups:List (Nat × aL)} {bs:List Bool} (h:yP ap x asserted ok=some (v,ups,bs)) (xt:Nat):
  ups= []∧∃ cv,(Instr.typeAssert cx xt asserted ok).run P w= .ok cv w∧VR g m S v cv:=by
 unfold yP at h
 have hq:=bind_some h;clear h;obtain ⟨ti,hti,h⟩:=hq
 obtain ⟨i,d,z,ht⟩:=cj hap hti
 have hnot:∀ ms,d ≠ .interface ms:=by
  intro ms e;subst e;rw [ht.d_eq] at h;simp [fM] at h
 have key:∀ (c:Value),(∃ t u,c= .iface t u∧t ≠ asserted)∨c= .nilIface→∀ zz,VR g m S zz z→ok=true→(Instr.typeAssert c xt asserted ok).run P w= .ok (.tuple #[z,.bool false]) w:=by
  intro c hc zz _ hok
  subst hok
  rcases hc with ⟨t,u,rfl,hne⟩|rfl
  ·cases d<;>first|exact absurd rfl (hnot _)|simp [Instr.typeAssert,run_underlying ht.und,hne,zeroValue,typeInfo,ht.info,ht.zero]
  ·cases d<;>first|exact absurd rfl (hnot _)|simp [Instr.typeAssert,run_underlying ht.und,zeroValue,typeInfo,ht.info,ht.zero]
 split at h
 ·cases h
 ·split at h
  ·rename_i t u
   simp only [VR] at hx
   obtain ⟨cu,rfl,hu⟩:=hx
   split at h
   ·rename_i ht'
    have ht':=ax ht'
    subst ht'
    obtain ⟨rfl,rfl,rfl⟩:=aH h
    cases ok
    ·refine ⟨rfl,cu, ?_,hu⟩
     cases d<;>first|exact absurd rfl (hnot _)|simp [Instr.typeAssert,run_underlying ht.und]
    ·refine ⟨rfl,.tuple #[cu,.bool true], ?_, ?_⟩
     ·cases d<;>first|exact absurd rfl (hnot _)|simp [Instr.typeAssert,run_underlying ht.und]
     ·simp only [VR];exact ⟨[cu,.bool true],rfl,by simp only [aQ,VR,PR];exact ⟨hu,trivial,trivial⟩⟩
   ·rename_i ht'
    have hne:t ≠ asserted:=by intro e;subst e;simp at ht'
    cases ok
    ·cases h
    ·simp only at h
     have hq:=bind_some h;clear h;obtain ⟨zz,hz,h⟩:=hq
     obtain ⟨rfl,rfl,rfl⟩:=aH h
     have hzz:=oQ (g:=g) (m:=m) (S:=S) ht hz
     refine ⟨rfl,_,key _ (.inl ⟨_,_,rfl,hne⟩) zz hzz rfl, ?_⟩
     simp only [VR];exact ⟨[z,.bool false],rfl,by simp only [aQ,VR,PR];exact ⟨hzz,trivial,trivial⟩⟩
  ·simp only [VR,PR] at hx
   subst hx
   cases ok
   ·cases h
   ·simp only at h
    have hq:=bind_some h;clear h;obtain ⟨zz,hz,h⟩:=hq
    obtain ⟨rfl,rfl,rfl⟩:=aH h
    have hzz:=oQ (g:=g) (m:=m) (S:=S) ht hz
    refine ⟨rfl,_,key _ (.inr rfl) zz hzz rfl, ?_⟩
    simp only [VR];exact ⟨[z,.bool false],rfl,by simp only [aQ,VR,PR];exact ⟨hzz,trivial,trivial⟩⟩
  ·cases h
theorem lq (hS:br ap g m S w) {rd:bL} (hrd:∀ b B,rd b=some B→g b=some B) {size:Nat} {x:AV} {cx:Value} (hx:VR g m S x cx) {xs:List AV} {n:Nat} {pr:Bool} (h:BQ size rd x=some (xs,n,pr)) (hl:xs.length=n*size)
  {tx:Nat} (hk:((∃ s,x= .str s)∧P.underlying tx=some .string∧size=1)∨((∀ s,x ≠ .str s)∧∃ e,P.underlying tx=some (.slice e))):
  ∃ news,Src P size tx cx n news w∧aQ g m S xs news∧(pr=true→bP S xs news):=by
 unfold BQ at h
 split at h
 ·rename_i xs' n' nn
  cases h
  obtain ⟨_,e,he⟩:=hk.resolve_left (by rintro ⟨⟨s,hs⟩,_⟩;cases hs)
  simp only [VR,PR] at hx
  obtain ⟨a,cap,rfl,hle,q⟩:=hx
  rcases q with ⟨rfl,_,rfl,rfl,rfl⟩|⟨b,o,vs,rfl,hp,hs⟩
  ·exact ⟨[],Src.ofNil w he 0,by simp [aQ],fun _=>by simp [bP]⟩
  ·refine ⟨vs,Src.ofSlice w he ⟨b,o,none⟩ n cap vs (by rw [← ow hp,hl]) (fun j u hj=>by rw [Addr.add_mid];exact hS.one (hs j u hj).1 (hs j u hj).2) ?_,bh _ hp,fun _=>hp⟩
   intro u hu
   obtain ⟨j,hj⟩:=List.getElem?_of_mem hu
   exact (hs j u hj).2
 ·cases h
  obtain ⟨_,e,he⟩:=hk.resolve_left (by rintro ⟨⟨s,hs⟩,_⟩;cases hs)
  simp only [VR,PR] at hx
  subst hx
  exact ⟨[],Src.ofNil w he 0,by simp [aQ],fun _=>by simp [bP]⟩
 ·rename_i s
  cases h
  obtain ⟨_,he,hsz⟩:=hk.resolve_right (by rintro ⟨hs,_⟩;exact hs s rfl)
  simp only [VR,PR] at hx
  subst hx
  subst hsz
  have hp:∀ s:List UInt8,bP S (s.map fun b=>AV.int .u8 b.toNat) (s.map fun b=>Value.int .u8 b.toNat):=by
   intro s
   induction s with
   |nil=>simp [bP]
   |cons a r ih=>simp only [List.map_cons,bP,PR];exact ⟨trivial,ih⟩
  have hsrc:=Src.ofString (P:=P) w he ⟨s.toArray⟩
  have hb:byteCells ⟨s.toArray⟩=s.map fun b=>Value.int .u8 b.toNat:=by simp [byteCells]
  rw [hb,qz] at hsrc
  exact ⟨_,hsrc,bh _ (hp s),fun _=>hp s⟩
 ·rename_i b ver j n'
  have hq:=bind_some h;clear h;obtain ⟨B,hB,h⟩:=hq
  split at h
  ·rename_i hc
   cases h
   simp only [Bool.and_eq_true,Bool.not_eq_true'] at hc
   obtain ⟨hc,hc0⟩:=hc
   have hnz:B.esz ≠ eD:=fun e=>by rw [e] at hc0;exact absurd hc0 (by decide)
   obtain ⟨_,e,he⟩:=hk.resolve_left (by rintro ⟨⟨s,hs⟩,_⟩;cases hs)
   simp only [VR] at hx
   obtain ⟨B',hB',_,_,q⟩:=hx
   have hgB:=hrd b B hB
   rw [hgB] at hB';cases hB'
   obtain ⟨o,rfl,q1,q2,q3⟩:=q (ax hc.1)
   have hes:=ax hc.2
   obtain ⟨cur,e',vs,rest,hk',hcur,hp,hv,ho,hcap⟩:=(hS.blk b B hgB).lies
   have hk':=hk'.cells hnz
   have ho:=ho hnz
   have hlen:=bw hv
   have hnl:((vs.drop (j*size)).take (n*size)).length=n*size:=by
    rw [← bw (jX _ (lV _ hv))];exact hl
   by_cases hn:n=0
   ·subst hn
    have hnil:(vs.drop (j*size)).take (0*size)= []:=by simp
    refine ⟨[], ?_, ?_, ?_⟩
    ·exact Src.ofSlice w he _ 0 _ [] (by simp) (fun _ _ h=>by simp at h) (fun _ h=>by simp at h)
    ·simp [aQ]
    ·intro _;simp [bP]
   ·have hoff:=q2 (by omega)
    refine ⟨(vs.drop (j*size)).take (n*size),Src.ofSlice w he _ n _ _ hnl ?_ ?_,jX _ (lV _ hv),fun pr=>gi _ (jV _ (hp pr))⟩
    ·intro jj u hj
     rw [hoff,Addr.add_mid,hes,l_ hk',hcur]
     rw [List.getElem?_take] at hj
     split at hj
     ·rw [List.getElem?_drop] at hj
      rw [List.getElem?_append_left (List.getElem?_eq_some_iff.1 hj).1]
      exact hj
     ·cases hj
    ·intro u hu
     exact ho u (List.mem_of_mem_drop (List.mem_of_mem_take hu))
  ·cases h
 ·cases h
theorem yl:∀ (ns:List Int) (s:List UInt8),ns.foldl (fun (r:ByteArray) n=>r.push (UInt8.ofNat n.toNat)) ⟨s.toArray⟩=⟨(s++ns.map fun n=>UInt8.ofNat n.toNat).toArray⟩
 | [],s=>by simp
 |n::ns,s=>by
  simp only [List.foldl_cons]
  have e:(⟨s.toArray⟩:ByteArray).push (UInt8.ofNat n.toNat)=⟨(s++ [UInt8.ofNat n.toNat]).toArray⟩:=by simp [ByteArray.push]
  rw [e,yl ns]
  simp
theorem uw (hap:eB P ap) (hS:br ap g m S w) {rd:bL} (hrd:∀ b B,rd b=some B→g b=some B) {s d:Nat} {ts td:TI} (hts:ap.tyAt s=some ts) (htd:ap.tyAt d=some td) {x v:AV} {cx:Value} (hx:VR g m S x cx) {ups:List (Nat × aL)} {bs:List Bool}
  (h:uu ap ts td rd x=some (v,ups,bs)) (hbs:∀ b ∈ bs,b=true):ups= []∧∃ cv,(convert s d cx).run P w= .ok cv w∧VR g m S v cv:=by
 obtain ⟨i1,d1,z1,h1⟩:=cj hap hts
 obtain ⟨i2,d2,z2,h2⟩:=cj hap htd
 unfold uu at h
 split at h
 ·rename_i k k' n hd
  obtain ⟨rfl,rfl,rfl⟩:=aH h
  rw [h2.d_eq] at hd
  have hd:=JE hd
  subst hd
  simp only [VR,PR] at hx
  subst hx
  exact ⟨rfl,_,by simp [convert,run_underlying h1.und,run_underlying h2.und,Conv.intToInt];rfl,by simp only [VR,PR]⟩
 ·rename_i s' hd1 hd2
  obtain ⟨rfl,rfl,rfl⟩:=aH h
  rw [h1.d_eq] at hd1
  rw [h2.d_eq] at hd2
  have hd1:=pg hd1
  have hd2:=pg hd2
  subst hd1;subst hd2
  simp only [VR,PR] at hx
  subst hx
  exact ⟨rfl,_,by simp [convert,run_underlying h1.und,run_underlying h2.und];rfl,by simp only [VR,PR]⟩
 ·rename_i x0 e hd1 hd2
  have hq:=bind_some h;clear h;obtain ⟨te,hte,h⟩:=hq
  obtain ⟨ie,de,ze,hte⟩:=cj hap hte
  split at h
  ·cases h
  ·rename_i xa xt xb hde hx''
   have hq:=bind_some h;clear h;obtain ⟨⟨xs,n,pr⟩,hsrc,h⟩:=hq
   obtain ⟨rfl,rfl,rfl⟩:=aH h
   obtain ⟨b1,b2⟩:=bB hbs
   obtain ⟨b2,_⟩:=bB b2
   rw [h1.d_eq] at hd1
   rw [h2.d_eq] at hd2
   have hd1:=dO hd1
   have hd2:=pg hd2
   subst hd1;subst hd2
   rw [hte.d_eq] at hde
   have hde:=JE hde
   subst hde
   have b1:=ax b1
   obtain ⟨news,hs,hv,_⟩:=lq (P:=P) hS hrd hx hsrc (by omega) (tx:=s) (.inr ⟨fun s e=>hx'' s e,e,h1.und⟩)
   have hns:news=(xs.map AV.toInt).map (Value.int .u8):=by
    have:∀ (xs:List AV) (news:List Value),aQ g m S xs news→xs.all (chk (.int .u8))=true→news=(xs.map AV.toInt).map (Value.int .u8):=by
     intro xs
     induction xs with
     |nil=>intro news h _;cases news<;>simp [aQ] at h ⊢
     | cons a r ih=>
      intro news h hc
      cases news with
      |nil=>simp [aQ] at h
      |cons c q=>
       simp only [aQ] at h
       simp only [List.all_cons,Bool.and_eq_true] at hc
       rw [List.map_cons,List.map_cons,ih q h.2 hc.2]
       congr 1
       cases a<;>simp [chk] at hc
       simp only [VR,PR] at h
       rw [h.1,du hc.1]
       rfl
    exact this xs news hv b2
   refine ⟨rfl,.string ⟨((xs.map AV.toInt).map fun n=>UInt8.ofNat n.toNat).toArray⟩, ?_, ?_⟩
   ·have hcells:=hs.cells
    have hlen:=hs.len w
    have hx2:=hx
    cases cx
    case slice a l c=>
     have hl:l=n:=by simpa [Builtin.lenOf] using hlen
     subst hl
     cases a with
     | none=>
      have hn0:news= []:=by simpa [Builtin.firstCells] using hcells.symm
      rw [hn0] at hns
      have hx0:xs= []:=by
       have:(xs.map AV.toInt).map (Value.int .u8)= []:=hns.symm
       simpa using this
      subst hx0
      simp [convert,run_underlying h1.und,run_underlying h2.und,run_underlying hte.und,Conv.bytesToString]
      rfl
     | some a=>
      have hlc:(loadCells a l).run P w= .ok ((xs.map AV.toInt).map (Value.int .u8)).toArray w:=by
       rw [← hns];simpa [Builtin.firstCells] using hcells
      have hb:=run_bytesToString (P:=P) w a l c _ hlc
      rw [show ByteArray.empty=⟨([]:List UInt8).toArray⟩ from rfl,yl,List.nil_append] at hb
      simp only [convert,Sem.run_bind,run_underlying h1.und,run_underlying h2.und,run_underlying hte.und,Result.andThen_ok]
      exact hb
    all_goals (simp [Builtin.lenOf] at hlen)
    case string s0=>
     exfalso
     cases xa<;>simp [BQ] at hsrc
     case str s1=>exact hx'' s1 rfl
     case nilS=>simp only [VR,PR] at hx2;cases hx2
     case sl a b c=>simp only [VR,PR] at hx2;obtain ⟨_,_,h,_⟩:=hx2;cases h
     case ref a b c d=>simp only [VR] at hx2;obtain ⟨_,_,_,⟨_,_,_,h⟩,_⟩:=hx2;cases h
   ·simp only [VR,PR]
    simp [List.map_map,Function.comp_def]
  ·cases h
 ·cases h
end
end AM
namespace AM
open Go
def bU (g:bL) (ups:List (Nat × aL)):bL:=fun b=>match look ups b with|some B=>some B|none=>g b
def f_ (m:aN) (b:Nat) (x:Nat × Nat):aN:=fun c=>if c=b then x else m c
theorem dJ {α:Type}:∀ (a b:List (Nat × α)) (t:Nat),look (a++b) t=match look a t with|some x=>some x|none=>look b t
 | [],b,t=>rfl
 |(u,x)::r,b,t=>by
  simp only [List.cons_append,look]
  split
  ·rfl
  ·exact dJ r b t
theorem fW (ups:List (Nat × aL)) (hp:Hp):bU (look hp) ups=look (ups++hp):=by
 funext b;rw [dJ];unfold bU;cases look ups b<;>rfl
theorem cW (g:bL):bU g []=g:=rfl
theorem gZ (g:bL) (b:Nat) (B:aL) (c:Nat):bU g [(b,B)] c=if c=b then some B else g c:=by
 simp only [bU,look]
 by_cases h:c=b
 ·subst h;simp
 ·have:Nat.beq b c=false:=by
   cases hb:Nat.beq b c with
   |false=>rfl
   |true=>exact absurd (ax hb).symm h
  rw [this,if_neg h]
section
variable {P:Program} {ap:AP} {g:bL} {m:aN} {S:aJ} {w:World}
theorem Fa.mono {g g':bL} {m m':aN} {S S':aJ} {w w':World} {B:aL} {k c:Nat} (h:Fa g m S w B k c) (hS:iC S S') (hg:Ge g m g' m') (hw:w'.heap[k]? =w.heap[k]?):Fa g' m' S' w' B k c:=by
 obtain ⟨⟨cur,e,vs,rest,h1,h2,h3,h4,h5,h6⟩,h7,h8⟩:=h
 exact ⟨⟨cur,e,vs,rest,h1.same hw,h2,fun p=>aX hS _ (h3 p),gT hS hg _ h4,h5,h6⟩,h7,h8⟩
theorem br.seal_lt (h:br ap g m S w) {k o:Nat} {v:Value} (hv:S k o=some v):k<w.heap.size:=AC (h.sealed k o v hv)
theorem br.put (h:br ap g m S w) (b:Nat) (B:aL) (k c:Nat) {w':World}
  (hk:w.heap.size≤k∨∃ B0,g b=some B0∧k=(m b).1) (hw:w.grownBy w' (some k)) (hblk:Fa g m S w' B k c)
  (hge:∀ B0,g b=some B0→B.esz=B0.esz∧((B.ver=B0.ver∧(k,c)=m b)∨B0.ver<B.ver))
  (hseal:∀ o v,S k o=some v→bQ w' k o=some v∧B.fro=true∧o<B.fz):
  br ap (bU g [(b,B)]) (f_ m b (k,c)) S w'∧Fr g m S w (bU g [(b,B)]) (f_ m b (k,c)) S w':=by
 have hGe:Ge g m (bU g [(b,B)]) (f_ m b (k,c)):=by
  intro b1 B1 hB1
  by_cases e:b1=b
  ·subst e
   obtain ⟨e1,e2⟩:=hge B1 hB1
   refine ⟨B,by rw [gZ,if_pos rfl],e1, ?_⟩
   rcases e2 with ⟨e2,e3⟩|e2
   ·exact .inl ⟨e2,by simp [f_,e3]⟩
   ·exact .inr e2
  ·exact ⟨B1,by rw [gZ,if_neg e];exact hB1,rfl,.inl ⟨rfl,by simp [f_,e]⟩⟩
 have hne:∀ b1 B1,g b1=some B1→b1 ≠ b→(m b1).1 ≠ k:=by
  intro b1 B1 hB1 hb1 e
  have hlt:=h.lt hB1
  rcases hk with hk|⟨B0,hB0,hk⟩
  ·omega
  ·exact hb1 (h.inj b1 b B1 B0 hB1 hB0 (e.trans hk))
 have hold:∀ k0,k0<w.heap.size→k0 ≠ k→w'.heap[k0]? =w.heap[k0]? :=fun k0 hlt hk0=>hw.block k0 hlt (by simpa using hk0)
 constructor
 ·refine ⟨?_, ?_, ?_, ?_,h.glob⟩
  ·intro b1 b2 B1 B2 h1 h2 he
   rw [gZ] at h1 h2
   by_cases e1:b1=b<;>by_cases e2:b2=b
   ·rw [e1,e2]
   ·rw [if_neg e2] at h2
    simp only [f_,e1,if_true,if_neg e2] at he
    exact absurd he.symm (hne b2 B2 h2 e2)
   ·rw [if_neg e1] at h1
    simp only [f_,e2,if_true,if_neg e1] at he
    exact absurd he (hne b1 B1 h1 e1)
   ·rw [if_neg e1] at h1
    rw [if_neg e2] at h2
    simp only [f_,if_neg e1,if_neg e2] at he
    exact h.inj b1 b2 B1 B2 h1 h2 he
  ·intro b1 B1 h1
   rw [gZ] at h1
   by_cases e1:b1=b
   ·rw [if_pos e1] at h1
    cases h1
    simp only [f_,if_pos e1]
    exact hblk.mono (iC.refl S) hGe rfl
   ·rw [if_neg e1] at h1
    simp only [f_,if_neg e1]
    exact (h.blk b1 B1 h1).mono (iC.refl S) hGe (hold _ (h.lt h1) (hne b1 B1 h1 e1))
  ·intro k0 o v hv
   by_cases e:k0=k
   ·subst e;exact (hseal o v hv).1
   ·rw [CF (hold k0 (h.seal_lt hv) e)]
    exact h.sealed k0 o v hv
  ·intro b1 B1 h1 o v hv
   rw [gZ] at h1
   by_cases e1:b1=b
   ·rw [if_pos e1] at h1
    cases h1
    simp only [f_,if_pos e1] at hv
    exact (hseal o v hv).2
   ·rw [if_neg e1] at h1
    simp only [f_,if_neg e1] at hv
    exact h.own b1 B1 h1 o v hv
 ·refine ⟨hGe,iC.refl S,hw.os,hw.tape,hw.output,hw.size, ?_, ?_,fun _ _ _ hv=> .inl hv⟩
  ·intro k0 hlt hn
   refine hold k0 hlt (fun e=> ?_)
   subst e
   rcases hk with hk|⟨B0,hB0,hk⟩
   ·omega
   ·exact hn b B0 hB0 hk.symm
  ·intro b1 B1 h1
   rw [gZ] at h1
   by_cases e1:b1=b
   ·subst e1
    rcases hk with hk|⟨B0,hB0,hk⟩
    ·exact .inl (by simpa [f_] using hk)
    ·exact .inr ⟨B0,hB0,by simp [f_,hk]⟩
   ·rw [if_neg e1] at h1
    exact .inr ⟨B1,h1,by simp [f_,e1]⟩
end
mutual
theorem Aq {g:bL} {m:aN} {S:aJ}:∀ (x:AV) {v:Value},VR g m S x v→ct x= []→PR S x v
 | .int _ _,_,p,_=>by simpa only [VR] using p
 | .bool _,_,p,_=>by simpa only [VR] using p
 | .str _,_,p,_=>by simpa only [VR] using p
 | .nilS,_,p,_=>by simpa only [VR] using p
 | .nilP,_,p,_=>by simpa only [VR] using p
 | .nilF,_,p,_=>by simpa only [VR] using p
 | .nilI,_,p,_=>by simpa only [VR] using p
 | .sl _ _ _,_,p,_=>by simpa only [VR] using p
 | .pp _ _,_,p,_=>by simpa only [VR] using p
 | .mp _ _,_,p,_=>by simpa only [VR] using p
 | .dead,_,_,_=>by simp only [PR]
 | .own _ _ _,_,p,_=>by simp only [VR] at p
 | .ref _ _ _ _,_,_,h=>by simp [ct] at h
 | .ptr _ _ _,_,_,h=>by simp [ct] at h
 | .mr _ _,_,_,h=>by simp [ct] at h
 | .agg l,_,p,h=>by
  simp only [VR] at p;simp only [PR];simp only [ct] at h
  obtain ⟨vs,e,q⟩:=p
  exact ⟨vs,e,dn l q h⟩
 | .tup l,_,p,h=>by
  simp only [VR] at p;simp only [PR];simp only [ct] at h
  obtain ⟨vs,e,q⟩:=p
  exact ⟨vs,e,dn l q h⟩
 | .fn f a c,_,p,h=>by
  simp only [VR] at p;simp only [PR];simp only [ct,List.append_eq_nil_iff] at h
  obtain ⟨va,vc,e,q,r⟩:=p
  exact ⟨va,vc,e,dn a q h.1,dn c r h.2⟩
 | .ifc t x,_,p,h=>by
  simp only [VR] at p;simp only [PR];simp only [ct] at h
  obtain ⟨u,e,q⟩:=p
  exact ⟨u,e,Aq x q h⟩
theorem dn {g:bL} {m:aN} {S:aJ}:∀ (l:List AV) {vs:List Value},aQ g m S l vs→bq l= []→bP S l vs
 | [],[],_,_=>by simp only [bP]
 |x::r,v::vs,p,h=>by simp only [aQ] at p;simp only [bq,List.append_eq_nil_iff] at h;simp only [bP];exact ⟨Aq x p.1 h.1,dn r p.2 h.2⟩
 | [],_::_,p,_=>by simp [aQ] at p
 |_::_,[],p,_=>by simp [aQ] at p
end
section
variable {P:Program} {ap:AP} {g:bL} {m:aN} {S:aJ} {w:World}
theorem ko {α:Type} {l:List α} (h:l.isEmpty=true):l= []:=by cases l<;>simp at h ⊢
theorem br.fresh (h:br ap g m S w) {nid:Nat} (hn:g nid=none) (B:aL) (hz:B.esz ≠ eD) (c:Nat) {w':World} {cur:Array Value} {e:TypeId} (hw:w.grownBy w' none) (hnew:w'.heap[w.heap.size]? =some (.cells cur e (0,0)))
  (hver:B.fro=false→B.fz=0) (hfz:B.fz≤B.cells.length) {vs rest:List Value} (hc:cur.toList=vs++rest) (hp:B.pr=true→bP S B.cells vs) (hv:aQ g m S B.cells vs) (h1:∀ u ∈ vs,u.oneCell'=true) (hcap:0<B.esz→cur.size=c*B.esz∧c≤maxLen):
  br ap (bU g [(nid,B)]) (f_ m nid (w.heap.size,c)) S w'∧Fr g m S w (bU g [(nid,B)]) (f_ m nid (w.heap.size,c)) S w':=by
 refine h.put nid B w.heap.size c (.inl (Nat.le_refl _)) ⟨hw.os,hw.tape,hw.output,hw.size,fun k hk _=>hw.block k hk (by simp)⟩ ⟨⟨cur,e,vs,rest,fw.of hz hnew,hc,hp,hv,fun _=>h1,fun h0 _=>hcap h0⟩,hver,hfz⟩ (fun B0 h0=>by rw [hn] at h0;cases h0) ?_
 intro o v hv
 have:=h.seal_lt hv
 omega
theorem xB (h:br ap g m S w) {nid:Nat} (hn:g nid=none) {cells:List AV} {cv:Value} (hv:aQ g m S cells cv.cells.toList) (_hl:∀ x ∈ cells,ja x=true) (h1:∀ u ∈ cv.cells,u.oneCell'=true) (t:TypeId):
  ∃ m' w',(newVar t cv).run P w= .ok ⟨w.heap.size,0,none⟩ w'∧br ap (bU g [eT nid cells 0]) m' S w'∧Fr g m S w (bU g [eT nid cells 0]) m' S w'∧(m' nid).1=w.heap.size:=by
 have hf:=h.fresh (nid:=nid) hn (eT nid cells 0).2 (by show 0 ≠ eD;decide) 0 (w':=w.alloc (.cells cv.cells t)) (cur:=cv.cells) (e:=t) (World.grownBy_alloc w _ none) (heap_alloc_new w _) (fun _=>rfl) (Nat.zero_le _) (vs:=cv.cells.toList) (rest:= []) (by simp)
  (fun hp=>dn _ hv (ko hp)) hv (fun u hu=>h1 u (by simpa using hu)) (fun h=>by simp [eT] at h)
 refine ⟨_,_, ?_,hf.1,hf.2,by simp [f_]⟩
 simp [newVar,newRow]
theorem EE {m':aN} {nid:Nat} {cells:List AV} {esz k:Nat} (hk:(m' nid).1=k):VR (bU g [eT nid cells esz]) m' S (.ptr nid 0 0) (.pointer (some ⟨k,0,none⟩)):=by
 simp only [VR]
 refine ⟨(eT nid cells esz).2, ?_,Nat.zero_le _,⟨_,_,rfl⟩,fun _=>by rw [hk]⟩
 show bU g [(nid,(eT nid cells esz).2)] nid=_
 rw [gZ,if_pos rfl]
theorem Ab (h:br ap g m S w) {rd:bL} (hrd:∀ b B,rd b=some B→g b=some B) {t:Nat} {ti:TI} {i:TypeInfo} {d:TypeDesc} {z:Value} (ht:sW P t ti i d z) {p x v:AV} {cp cx:Value} (hp:VR g m S p cp) (hx:VR g m S x cx)
  {ups:List (Nat × aL)} {bs:List Bool} (hs:DJ ti rd p x=some (v,ups,bs)) (hbs:∀ b ∈ bs,b=true):
  v= .dead∧∃ m' w',(Instr.storeAt t cp cx).run P w= .ok () w'∧br ap (bU g ups) m' S w'∧Fr g m S w (bU g ups) m' S w':=by
 unfold DJ at hs
 split at hs
 ·rename_i b ver off
  have hq:=bind_some hs;clear hs;obtain ⟨B,hB,hs⟩:=hq
  simp only at hs
  split at hs
  ·rename_i hc
   simp only [Bool.and_eq_true,Bool.not_eq_true'] at hc
   obtain ⟨⟨⟨⟨c1,c2⟩,c3⟩,c4⟩,c5⟩:=hc
   have hnz:B.esz ≠ eD:=fun e=>by rw [e] at c5;exact absurd c5 (by decide)
   cases hs
   have hgB:=hrd b B hB
   have hver:=ax c1
   have hlen:=ax c3
   have hfit:=dz (hbs _ (List.mem_singleton.2 rfl))
   simp only [VR] at hp
   obtain ⟨B',hB',_,_,q⟩:=hp
   rw [hgB] at hB';cases hB'
   have q:=q hver
   subst q
   obtain ⟨hv1,hv2⟩:=ud hx (fun y hy=>List.all_eq_true.1 c4 y hy)
   obtain ⟨⟨cur,e,vs,rest,k1,k2,k3,k4,k5,k6⟩,k7,k8⟩:=h.blk b B hgB
   have k1:=k1.cells hnz
   have k5:=k5 hnz
   have hvl:=bw hv1
   have hvl':=bw k4
   have hsz:cx.cells.size=i.size:=by simp only [Array.length_toList] at hvl;rw [← ht.size];omega
   have hcl:cur.toList.length=vs.length+rest.length:=by rw [k2];simp
   have hst:=run_storeCells_at P (m b).1 off e cx.cells.toList 0 cur w k1 (by simp only [Array.length_toList] at hvl hcl ⊢;omega) (fun u hu=>hv2 u (by simpa using hu))
   simp only [Nat.add_zero] at hst
   have hnewl:(cur.toList.take off++cx.cells.toList++cur.toList.drop (off+cx.cells.toList.length))=(vs.take off++cx.cells.toList++vs.drop (off+cx.cells.toList.length))++rest:=by
    rw [k2,List.take_append_of_le_length (by omega),List.drop_append_of_le_length (by omega)]
    simp [List.append_assoc]
   have hput:=h.put b {B with cells:=eI B.cells off x.cells,pr:=B.pr && (bq x.cells).isEmpty} (m b).1 (m b).2 (w':=w.setRow (m b).1 (cur.toList.take off++cx.cells.toList++cur.toList.drop (off+cx.cells.toList.length)).toArray)
    (.inr ⟨B,hgB,rfl⟩) ⟨rfl,rfl,rfl,by simp,fun k _ hk=>setRow_other w _ k _ (fun e=>hk (by rw [e]))⟩
    ⟨⟨_,e,vs.take off++cx.cells.toList++vs.drop (off+cx.cells.toList.length),rest,fw.of hnz (setRow_heap w _ cur _ e _ k1),by rw [List.toList_toArray,hnewl],fun hpr=>by
      simp only [Bool.and_eq_true] at hpr
      exact J8 (k3 hpr.1) (dn _ hv1 (ko hpr.2)),D4 k4 hv1,by
      intro _ u hu
      rcases List.mem_append.1 hu with hu|hu
      ·rcases List.mem_append.1 hu with hu|hu
       ·exact k5 u (List.mem_of_mem_take hu)
       ·exact hv2 u (by simpa using hu)
      ·exact k5 u (List.mem_of_mem_drop hu),fun hesz _=>by
      obtain ⟨s1,s2⟩:=k6 hesz hnz
      refine ⟨?_,s2⟩
      rw [← s1,List.size_toArray]
      simp only [List.length_append,List.length_take,List.length_drop,Array.length_toList] at hvl hcl ⊢
      omega⟩,k7,by
     have:(eI B.cells off x.cells).length=B.cells.length:=by simp only [eI,List.length_append,List.length_take,List.length_drop];omega
     simp only [this];exact k8⟩
    (fun B0 h0=>by rw [hgB] at h0;cases h0;exact ⟨rfl,.inl ⟨rfl,rfl⟩⟩)
    (fun o v hv=>by
     have:=(h.own b B hgB o v hv).1
     rw [c2] at this;cases this)
   refine ⟨rfl,_,_, ?_,hput.1,hput.2⟩
   have hn:¬ (cx.cells.size ≠ i.size):=by simp [hsz]
   simp [Instr.storeAt,Instr.sureAddr,storeVar,Go.sizeOf,typeInfo,ht.info,hsz,hst]
  ·cases hs
 ·cases hs
end
end AM
namespace AM
open Go
section
variable {P:Program} {ap:AP} {g:bL} {m:aN} {S:aJ} {w:World}
theorem iM (g:bL) (b:Nat) (B:aL):bU g [(b,B)] b=some B:=by rw [gZ,if_pos rfl]
theorem uN {w w':World} (h:w.grownBy w' none) (r:Option Nat):w.grownBy w' r:=⟨h.os,h.tape,h.output,h.size,fun k hk _=>h.block k hk (by simp)⟩
theorem iW (w:World) (o:Obj):w.grownBy (w.drew.alloc o) none:=⟨rfl,rfl,rfl,by simp,fun k hk _=>Go.RowKit.Below.heap_alloc w.drew o k hk⟩
theorem nO {t tx ty e:TypeId} {i:TypeInfo} (ht:P.underlying t=some (.slice e)) (hi:P.info? e=some i) {x:Value} {news:List Value} (hs:Src P i.size tx x 0 news w):
  (Builtin.append_ #[t,tx] ty #[.slice none 0 0,x]).run P w= .ok (.slice none 0 0) w:=by
 rcases hs.kind with ⟨e',hk⟩|hk<;>simp [Builtin.append_,run_underlying ht,run_underlying hk,Go.sizeOf,typeInfo,hi,hs.len,hs.cells]
theorem nP {t tx ty e:TypeId} {i:TypeInfo} (ht:P.underlying t=some (.slice e)) (hi:P.info? e=some i) {k o sLen sCap n:Nat} {x:Value} {news:List Value} (hs:Src P i.size tx x n news w) (hroom:sLen+n≤sCap)
  {cur:Array Value} {e':TypeId} (hk:w.heap[k]? =some (.cells cur e' (0,0))) (hfit:o+sLen*i.size+news.length≤cur.size):
  (Builtin.append_ #[t,tx] ty #[.slice (some ⟨k,o,none⟩) sLen sCap,x]).run P w= .ok (.slice (some ⟨k,o,none⟩) (sLen+n) sCap) (w.setRow k (cur.toList.take (o+sLen*i.size)++news++cur.toList.drop (o+sLen*i.size+news.length)).toArray):=by
 have hst:=run_storeCells_at P k (o+sLen*i.size) e' news 0 cur w hk (by simpa using hfit) hs.one
 simp only [Nat.add_zero] at hst
 rcases hs.kind with ⟨e'',hk'⟩|hk'<;>simp [Builtin.append_,run_underlying ht,run_underlying hk',Go.sizeOf,typeInfo,hi,hs.len,hroom,hs.cells,Addr.add_mid,hst]
theorem rP {n old bytes:Nat} (h:old<n) (hn:n≤yu) (hb:bytes≤128):Builtin.nextslicecap n old*bytes≤281474976710656:=by
 refine growslice_fits h ?_
 have:n*bytes≤yu*128:=Nat.mul_le_mul hn hb
 have e:yu*128=140737488355328:=by decide
 omega
theorem qw:yu=1099511627776:=by decide
theorem sQ {t tx ty e:TypeId} {i:TypeInfo} (ht:P.underlying t=some (.slice e)) (hi:P.info? e=some i) {x:Value} {base:Option Addr} {sLen sCap:Nat} (hs:Src P i.size tx x 0 [] w) (hc:sLen≤sCap):
  (Builtin.append_ #[t,tx] ty #[.slice base sLen sCap,x]).run P w= .ok (.slice base sLen sCap) w:=by
 cases base with
 |none=>rcases hs.kind with ⟨e',hk⟩|hk<;>simp [Builtin.append_,run_underlying ht,run_underlying hk,Go.sizeOf,typeInfo,hi,hs.len,hs.cells,hc]
 |some a=>rcases hs.kind with ⟨e',hk⟩|hk<;>simp [Builtin.append_,run_underlying ht,run_underlying hk,Go.sizeOf,typeInfo,hi,hs.len,hs.cells,hc,storeCells]
theorem nV (h:br ap g m S w) {rd:bL} (hrd:∀ b B,rd b=some B→g b=some B) {nid:Nat} (hn:g nid=none) {t tx e:Nat} {ti te:TI} {i ie:TypeInfo} {z ze:Value} {de:TypeDesc} (ht:sW P t ti i (.slice e) z) (hte:sW P e te ie de ze)
  {s x v:AV} {cs cx:Value} (hvs:VR g m S s cs) (hvx:VR g m S x cx)
  (hk:((∃ s,x= .str s)∧P.underlying tx=some .string∧te.size=1)∨((∀ s,x ≠ .str s)∧∃ e,P.underlying tx=some (.slice e)))
  {em:Bool} (hem:s= .nilS→∃ n,oH x=some n∧Nat.beq n 0=em)
  {ups:List (Nat × aL)} {bs:List Bool} (ha:pF nid te rd em s x=some (v,ups,bs)) (hbs:∀ b ∈ bs,b=true) (ty:Nat):
  ∃ cv m' w',(Builtin.append_ #[t,tx] ty #[cs,cx]).run P w= .ok cv w'∧br ap (bU g ups) m' S w'∧Fr g m S w (bU g ups) m' S w'∧VR (bU g ups) m' S v cv:=by
 have hcount:∀ xs n pr,BQ te.size rd x=some (xs,n,pr)→oH x=some n:=by
  intro xs n pr hsrc
  unfold BQ at hsrc
  split at hsrc
  ·cases hsrc;rfl
  ·cases hsrc;rfl
  ·cases hsrc;rfl
  ·have hq:=bind_some hsrc;clear hsrc;obtain ⟨B,hB,hsrc⟩:=hq
   split at hsrc
   ·cases hsrc;rfl
   ·cases hsrc
  ·cases hsrc
 unfold pF at ha
 have hq:=bind_some ha;clear ha;obtain ⟨⟨xs,n,pr⟩,hsrc,ha⟩:=hq
 simp only at ha
 split at ha
 ·cases ha
 ·rename_i hok
  simp only [Bool.and_eq_true] at hok
  have hsz:=cZ hok.1
  have hby:=dz hok.2
  have hsz':te.size=ie.size:=hte.size
  have hnz0:te.size ≠ eD:=fun e=>by have:=hte.small;omega
  have hby':te.bytes=ie.bytes:=hte.bytes
  have hzs:ze.cells.size=ie.size:=hte.zsize
  split at ha
  ·
   obtain ⟨n',hc',hem⟩:=hem rfl
   rw [hcount _ _ _ hsrc] at hc'
   cases hc'
   simp only [VR,PR] at hvs
   subst hvs
   split at ha
   ·
    obtain ⟨rfl,rfl,rfl⟩:=aH ha
    have hn0:n=0:=ax hem
    subst hn0
    have hl:=ax (hbs _ (List.mem_singleton.2 rfl))
    obtain ⟨news,hs,hv,hp⟩:=lq (P:=P) h hrd hvx hsrc hl hk
    rw [hsz'] at hs
    exact ⟨_,m,w,nO ht.und hte.info hs,by rw [cW];exact h,by rw [cW];exact Fr.refl _ _ _ _,by simp [VR,PR]⟩
   ·
    cases ha
    obtain ⟨b1,hbs⟩:=bB hbs
    obtain ⟨b2,_⟩:=bB hbs
    have hl:=ax b1
    have hroom:=dz b2
    have hn0:n ≠ 0:=by intro e;subst e;simp at hem
    obtain ⟨news,hs,hv,hp⟩:=lq (P:=P) h hrd hvx hsrc hl hk
    rw [hsz'] at hs
    have hrun:=run_append_grow_src w t tx ty e ie ze ht.und hte.info hte.zero none 0 0 [] (run_firstCells_none w.drew _ _ _ _) cx n news hs (by omega) (by rw [qw] at hroom;omega) (rP (by omega) (by simpa using hroom) (by omega))
    have hge:n≤grownCap w n 0 e:=grownCap_ge _ _ _ _
    have hle:grownCap w n 0 e≤maxLen:=grownCap_le_maxLen _ _ _ _ (by rw [qw] at hroom;simp only [maxLen];omega)
    simp only [Nat.zero_add] at hrun
    have hf:=h.fresh (nid:=nid) hn ⟨xs,0,false,0,te.size,pr⟩ hnz0 (grownCap w n 0 e) (cur:=([]++news).toArray++Builtin.zeroCells ze.cells (grownCap w n 0 e - n)) (e:=e) (iW w _) (heap_alloc_new w.drew _) (fun _=>rfl) (Nat.zero_le _)
     (vs:=news) (rest:=(Builtin.zeroCells ze.cells (grownCap w n 0 e - n)).toList) (by simp) hp hv hs.one (fun _=> ⟨by
      simp only [Array.size_append,List.size_toArray,List.nil_append,size_zeroCells,hs.newsLen,hzs,hsz']
      rw [← Nat.add_mul];congr 1;omega,hle⟩)
    refine ⟨_,_,_,hrun,hf.1,hf.2, ?_⟩
    simp only [VR]
    refine ⟨_,iM _ _ _,Nat.le_refl _,⟨_,_,_,rfl⟩,fun _=> ⟨0, ?_, ?_, ?_,hsz,hnz0⟩⟩
    ·simp [f_]
    ·simpa [f_] using hge
    ·simp
  ·rename_i b ver mN
   have hq:=bind_some ha;clear ha;obtain ⟨B,hB,ha⟩:=hq
   split at ha
   ·rename_i hok2
    simp only [Bool.and_eq_true,Bool.not_eq_true'] at hok2
    have hver:=ax hok2.1.1
    have hesz:=ax hok2.1.2
    have hnz:B.esz ≠ eD:=fun e=>by rw [e] at hok2;exact absurd hok2.2 (by decide)
    cases ha
    obtain ⟨b1,hbs⟩:=bB hbs
    obtain ⟨b2,hbs⟩:=bB hbs
    obtain ⟨b3,hbs⟩:=bB hbs
    obtain ⟨b4,_⟩:=bB hbs
    have hl:=ax b1
    have hroom:=dz b2
    have hfit:=dz b3
    have hgB:=hrd b B hB
    simp only [VR] at hvs
    obtain ⟨B',hB',_,_,q⟩:=hvs
    rw [hgB] at hB';cases hB'
    obtain ⟨o,rfl,hcap,ho,hpos,hnz1⟩:=q hver
    simp only [Nat.zero_add,Nat.sub_zero,Nat.zero_mul] at hcap ho ⊢
    obtain ⟨news,hs,hv,hp⟩:=lq (P:=P) h hrd hvx hsrc hl hk
    rw [hsz'] at hs
    have hbk:=h.blk b B hgB
    obtain ⟨⟨cur,e',vs,rest,k1,k2,k3,k4,k5,k6⟩,k7,k8⟩:=hbk
    have k1:=k1.cells hnz
    have k5:=k5 hnz
    obtain ⟨s1,s2⟩:=k6 hpos hnz
    have hvl:=bw k4
    have hcl:cur.toList.length=vs.length+rest.length:=by rw [k2];simp
    simp only [Array.length_toList] at hcl
    have hfz:B.fz≤mN*te.size:=by
     cases hf:B.fro with
     |false=>rw [k7 hf];exact Nat.zero_le _
     |true=>simp [hf] at b4;exact dz (by simpa using b4)
    have holds:bP S (B.cells.take (mN*te.size)) (vs.take (mN*te.size))∨B.pr=false:=by
     cases hp:B.pr with
     |false=>exact .inr rfl
     |true=>exact .inl (gi _ (k3 hp))
    have hvlT:(vs.take (mN*te.size)).length=mN*ie.size:=by rw [List.length_take,hsz'] at*;omega
    have hvv:aQ g m S (B.cells.take (mN*te.size)++xs) (vs.take (mN*te.size)++news):=dR (jX _ k4) hv
    have hpp:(B.pr && pr)=true→bP S (B.cells.take (mN*te.size)++xs) (vs.take (mN*te.size)++news):=by
     intro hh
     simp only [Bool.and_eq_true] at hh
     exact iP (gi _ (k3 hh.1)) (hp hh.2)
    have h1:∀ u ∈ vs.take (mN*te.size)++news,u.oneCell'=true:=by
     intro u hu
     rcases List.mem_append.1 hu with hu|hu
     ·exact k5 u (List.mem_of_mem_take hu)
     ·exact hs.one u hu
    have hfzl:B.fz≤(B.cells.take (mN*te.size)++xs).length:=by
     rw [List.length_append,List.length_take];omega
    by_cases hrm:mN+n≤(m b).2
    ·
     by_cases hc0:(m b).2=0
     ·have hm0:mN=0:=by omega
      have hn0:n=0:=by omega
      subst hm0;subst hn0
      have hnews:news= []:=by have:=hs.newsLen;simpa using this
      subst hnews
      have hrun:=sQ (P:=P) (w:=w) (ty:=ty) (base:=some ⟨(m b).1,o,none⟩) (sLen:=0) (sCap:=(m b).2) ht.und hte.info hs (by omega)
      have hput:=h.put b {B with cells:=B.cells.take (0*te.size)++xs,ver:=ver+1,pr:=B.pr && pr} (m b).1 (m b).2 (w':=w) (.inr ⟨B,hgB,rfl⟩) ⟨rfl,rfl,rfl,Nat.le_refl _,fun _ _ _=>rfl⟩
       ⟨⟨cur,e',_,vs.drop (0*te.size)++rest,fw.of hnz k1,by rw [k2];simp,hpp,hvv,fun _=>h1,k6⟩,k7,hfzl⟩ (fun B0 h0=>by rw [hgB] at h0;cases h0;exact ⟨rfl,.inr (by simp only;omega)⟩)
       (fun o' u hu=> ⟨h.sealed _ _ _ hu,(h.own b B hgB o' u hu)⟩)
      refine ⟨_,_,_,hrun,hput.1,hput.2, ?_⟩
      simp only [VR]
      refine ⟨_,iM _ _ _,Nat.le_refl _,⟨_,_,_,rfl⟩,fun _=> ⟨o,by simp [f_],by simp,by simp [f_,hc0],hpos,hnz⟩⟩
     ·have ho0:o=0:=ho (by omega)
      subst ho0
      have hnl:=hs.newsLen
      have hbig:mN*ie.size+n*ie.size≤(m b).2*ie.size:=by rw [← Nat.add_mul];exact Nat.mul_le_mul_right _ hrm
      have hcs:cur.size=(m b).2*ie.size:=by rw [s1,hesz,hsz']
      have hrun:=nP (P:=P) (w:=w) (ty:=ty) (o:=0) ht.und hte.info hs hrm k1 (by simp only [Nat.zero_add];omega)
      simp only [Nat.zero_add] at hrun
      have hlist:cur.toList.take (mN*ie.size)=vs.take (mN*te.size):=by rw [k2,hsz',List.take_append_of_le_length (by rw [hsz'] at hfit;omega)]
      have hput:=h.put b {B with cells:=B.cells.take (mN*te.size)++xs,ver:=ver+1,pr:=B.pr && pr} (m b).1 (m b).2 (w':=w.setRow (m b).1 (cur.toList.take (mN*ie.size)++news++cur.toList.drop (mN*ie.size+news.length)).toArray)
       (.inr ⟨B,hgB,rfl⟩) ⟨rfl,rfl,rfl,by simp,fun k _ hk=>setRow_other w _ k _ (fun e=>hk (by rw [e]))⟩
       ⟨⟨_,e',_,cur.toList.drop (mN*ie.size+news.length),fw.of hnz (setRow_heap w _ cur _ e' _ k1),by rw [hlist],hpp,hvv,fun _=>h1,fun _ _=> ⟨by
        rw [← s1,List.size_toArray]
        simp only [List.length_append,List.length_take,List.length_drop,Array.length_toList]
        omega,s2⟩⟩,k7,hfzl⟩ (fun B0 h0=>by rw [hgB] at h0;cases h0;exact ⟨rfl,.inr (by simp only;omega)⟩)
       (fun o' u hu=>by
        obtain ⟨f1,f2⟩:=h.own b B hgB o' u hu
        refine ⟨?_,f1,f2⟩
        have:=h.sealed _ _ _ hu
        cases hone:u.oneCell' with
        |false=>
         obtain ⟨_,_,hm,_⟩:=mZ this hone
         rw [k1] at hm;cases hm
        |true=>
        have this:=m_ this hone
        rw [l_ k1] at this
        refine (fw.of hnz (setRow_heap w _ cur _ e' _ k1)).get ?_ (fun _=>hone)
        simp only [List.append_assoc]
        rw [List.getElem?_append_left (by simp only [List.length_take,Array.length_toList];rw [hsz'] at hfz;omega),List.getElem?_take_of_lt (by rw [hsz'] at hfz;omega)]
        exact this)
      refine ⟨_,_,_,hrun,hput.1,hput.2, ?_⟩
      simp only [VR]
      refine ⟨_,iM _ _ _,Nat.le_refl _,⟨_,_,_,rfl⟩,fun _=> ⟨0,by simp [f_],by simpa [f_] using hrm,by simp,hpos,hnz⟩⟩
    ·
     have hold:(Builtin.firstCells ie.size mN (.slice (some ⟨(m b).1,o,none⟩) mN (m b).2)).run P w.drew= .ok (vs.take (mN*te.size)).toArray w.drew:=by
      refine run_firstCells_some w.drew ie.size mN ⟨(m b).1,o,none⟩ mN _ _ hvlT ?_
      intro j u hu
      have hjl:=(List.getElem?_eq_some_iff.1 hu).1
      rw [hvlT] at hjl
      have hm0:0<mN:=by
       rcases Nat.eq_zero_or_pos mN with h0|h0
       ·subst h0;simp at hjl
       ·exact h0
      have ho0:o=0:=ho (by omega)
      subst ho0
      rw [Addr.add_mid,Nat.zero_add,l_ (w:=w.drew) (j:=j) k1,k2]
      rw [List.getElem?_take] at hu
      split at hu
      ·rw [List.getElem?_append_left (List.getElem?_eq_some_iff.1 hu).1];exact hu
      ·cases hu
     have hrun:=run_append_grow_src w t tx ty e ie ze ht.und hte.info hte.zero (some ⟨(m b).1,o,none⟩) mN (m b).2 _ hold cx n news hs (by omega) (by rw [qw] at hroom;omega) (rP (by omega) hroom (by omega))
     have hge:mN+n≤grownCap w (mN+n) (m b).2 e:=grownCap_ge _ _ _ _
     have hle:grownCap w (mN+n) (m b).2 e≤maxLen:=grownCap_le_maxLen _ _ _ _ (by rw [qw] at hroom;simp only [maxLen];omega)
     have hput:=h.put b {B with cells:=B.cells.take (mN*te.size)++xs,ver:=ver+1,pr:=B.pr && pr} w.heap.size (grownCap w (mN+n) (m b).2 e) (.inl (Nat.le_refl _))
      (uN (iW w (.cells ((vs.take (mN*te.size)++news).toArray++Builtin.zeroCells ze.cells (grownCap w (mN+n) (m b).2 e - (mN+n))) e)) _)
      ⟨⟨(vs.take (mN*te.size)++news).toArray++Builtin.zeroCells ze.cells (grownCap w (mN+n) (m b).2 e - (mN+n)),e,_,(Builtin.zeroCells ze.cells (grownCap w (mN+n) (m b).2 e - (mN+n))).toList,fw.of hnz (heap_alloc_new w.drew _),by simp,hpp,hvv,fun _=>h1,fun _ _=> ⟨by
       simp only [Array.size_append,List.size_toArray,List.length_append,size_zeroCells,hs.newsLen,hzs]
       rw [hvlT,hesz,hsz',← Nat.add_mul,← Nat.add_mul];congr 1;omega,hle⟩⟩,k7,hfzl⟩ (fun B0 h0=>by rw [hgB] at h0;cases h0;exact ⟨rfl,.inr (by simp only;omega)⟩)
      (fun o' u hu=>absurd (h.seal_lt hu) (Nat.lt_irrefl _))
     refine ⟨_,_,_,hrun,hput.1,hput.2, ?_⟩
     simp only [VR]
     refine ⟨_,iM _ _ _,Nat.le_refl _,⟨_,_,_,rfl⟩,fun _=> ⟨0,by simp [f_],by simpa [f_] using hge,by simp,hpos,hnz⟩⟩
   ·cases ha
  ·cases ha
end
end AM
namespace AM
open Go
theorem sA (n:Nat) (z:List AV):(dV n z).length=n*z.length:=by simp [dV]
theorem Gb (n:Nat) (z:List AV):dV (n+1) z=z++dV n z:=by simp [dV,List.replicate_succ]
theorem BG:∀ (n:Nat) (z:List AV) (i:Nat),i<n*z.length→(dV n z)[i]? =z[i % z.length]?
 |0,z,i,h=>by simp at h
 | n+1,z,i,h=>by
  rw [Gb]
  by_cases hi:i<z.length
  ·rw [List.getElem?_append_left hi,Nat.mod_eq_of_lt hi]
  ·have hi:z.length≤i:=by omega
   rw [List.getElem?_append_right hi,BG n z (i - z.length) (by rw [Nat.add_mul,Nat.one_mul] at h;omega)]
   congr 1
   rw [← Nat.mod_eq_sub_mod hi]
section
variable {P:Program} {ap:AP} {g:bL} {m:aN} {S:aJ} {w:World}
theorem uc:∀ {l:List AV} {vs:List Value},l.length=vs.length→(∀ (i:Nat) x v,l[i]? =some x→vs[i]? =some v→VR g m S x v)→aQ g m S l vs
 | [],[],_,_=>by simp [aQ]
 |x::r,v::vs,hl,h=>by
  simp only [aQ]
  exact ⟨h 0 x v rfl rfl,uc (by simpa using hl) fun i x v hx hv=>h (i+1) x v (by simpa using hx) (by simpa using hv)⟩
 | [],_::_,h,_=>by simp at h
 |_::_,[],h,_=>by simp at h
theorem rf (z:Array Value) (n:Nat):(madeCells z n).toList=(List.range n).map fun i=>z[i % z.size]! :=by simp [madeCells]
theorem nZ {t:Nat} {ti:TI} {i:TypeInfo} {d:TypeDesc} {z:Value} (ht:sW P t ti i d z) (n:Nat):aQ g m S (dV n ti.zero) (madeCells z.cells (n*i.size)).toList:=by
 have hz:=jY (g:=g) (m:=m) (S:=S) ht
 have hzl:=bw hz
 simp only [Array.length_toList,ht.zsize] at hzl
 refine uc (by rw [sA,hzl,Array.length_toList,size_madeCells]) ?_
 intro j x v hx hv
 have hj:j<n*i.size:=by
  have:=(List.getElem?_eq_some_iff.1 hx).1
  rw [sA,hzl] at this;exact this
 rw [BG n ti.zero j (by rw [hzl];exact hj),hzl] at hx
 rw [rf,ht.zsize,List.getElem?_map,List.getElem?_range hj] at hv
 simp only [Option.map_some,Option.some.injEq] at hv
 obtain ⟨v',hv',hr⟩:=kP hz _ hx
 have hm:j % i.size<z.cells.size:=by rw [ht.zsize];exact Nat.mod_lt _ ht.pos
 simp only [Array.getElem?_toList] at hv'
 rw [getElem!_pos z.cells _ hm] at hv
 rw [Array.getElem?_eq_getElem hm] at hv'
 cases hv'
 rw [← hv];exact hr
theorem yq {n:Nat} {z:List AV} (h:∀ x ∈ z,ja x=true):∀ x ∈ dV n z,ja x=true:=by
 intro x hx
 simp only [dV,List.mem_flatten,List.mem_replicate] at hx
 obtain ⟨l,⟨_,rfl⟩,hx⟩:=hx
 exact h x hx
theorem sZ:∀ {l:List AV} {vs:List Value},aQ g m S l vs→(∀ x ∈ l,ja x=true)→∀ u ∈ vs,u.oneCell'=true
 | [],[],_,_=>by simp
 |x::r,v::vs,h,hl=>by
  simp only [aQ] at h
  intro u hu
  rcases List.mem_cons.1 hu with rfl|hu
  ·exact Ct h.1 (hl x (by simp))
  ·exact sZ h.2 (fun y hy=>hl y (by simp [hy])) u hu
 | [],_::_,h,_=>by simp [aQ] at h
 |_::_,[],h,_=>by simp [aQ] at h
theorem zH {xs vs:List AV} {off:Nat} {x:AV} (h:x ∈ eI xs off vs):x ∈ xs∨x ∈ vs:=by
 simp only [eI,List.mem_append] at h
 rcases h with (h|h)|h
 ·exact .inl (List.mem_of_mem_take h)
 ·exact .inr h
 ·exact .inl (List.mem_of_mem_drop h)
theorem uE:∀ {ps:List (Nat × Nat × AV)} {cells cells':List AV},nX cells ps=some cells'→(∀ x ∈ cells,ja x=true)→∀ x ∈ cells',ja x=true
 | [],cells,cells',h,hl=>by simp [nX] at h;subst h;exact hl
 | (off,size,v)::r,cells,cells',h,hl=>by
  simp only [nX] at h
  split at h
  ·rename_i hc
   simp only [Bool.and_eq_true] at hc
   refine uE h fun x hx=> ?_
   rcases zH hx with hx|hx
   ·exact hl x hx
   ·exact List.all_eq_true.1 hc.2 x hx
  ·cases h
theorem EI {nid:Nat} {cells:List AV} {esz k c n:Nat} (hn:n≤c) (hp:0<esz) (hz:esz ≠ eD):VR (bU g [eT nid cells esz]) (f_ m nid (k,c)) S (.ref nid 0 0 n) (.slice (some ⟨k,0,none⟩) n c):=by
 simp only [VR]
 refine ⟨_,iM _ _ _,Nat.zero_le _,⟨_,_,_,rfl⟩,fun _=> ⟨0,by simp [f_],by simpa [f_] using hn,by simp,hp,hz⟩⟩
theorem li:∀ (a b:List AV),bq (a++b)=bq a++bq b
 | [],b=>by simp [bq]
 |x::r,b=>by simp [bq,li r b]
theorem yp (z:List AV) (h:bq z= []):∀ n,bq (dV n z)= []
 |0=>by simp [dV,bq]
 |n+1=>by
  have ih:=yp z h n
  simp only [dV,List.replicate_succ,List.flatten_cons,li,h,List.nil_append] at ih ⊢
  exact ih
theorem Dp (nid n esz:Nat) (z:List AV) (h:(bq z).isEmpty=true):(nid,(⟨dV n z,0,false,0,esz,true⟩:aL))=eT nid (dV n z) esz:=by
 have h':bq z= []:=by simpa using h
 simp [eT,yp z h' n]
theorem rl (hap:eB P ap) (h:br ap g m S w) {nid:Nat} (hn:g nid=none) {t:Nat} {ti:TI} {i:TypeInfo} {d:TypeDesc} {z:Value} (ht:sW P t ti i d z) {l c:AV} {cl cc:Value} (hl:VR g m S l cl) (hc:VR g m S c cc)
  {v:AV} {ups:List (Nat × aL)} {bs:List Bool} (hm:oO ap nid ti l c=some (v,ups,bs)) (hbs:∀ b ∈ bs,b=true):
  ∃ cv m' w',(Instr.makeSlice t cl cc).run P w= .ok cv w'∧br ap (bU g ups) m' S w'∧Fr g m S w (bU g ups) m' S w'∧VR (bU g ups) m' S v cv:=by
 unfold oO at hm
 split at hm
 ·rename_i e kl l kc c hd
  have hq:=bind_some hm;clear hm;obtain ⟨te,hte,hm⟩:=hq
  obtain ⟨ie,de,ze,hte⟩:=cj hap hte
  split at hm
  ·rename_i hok
   simp only [Bool.and_eq_true] at hok
   have hne:=hok.2
   have hok:=hok.1
   have hpos:=cZ hok.1.1
   have hby:=dz hok.2
   rw [Dp _ _ _ _ hne] at hm
   cases hm
   obtain ⟨b1,hbs⟩:=bB hbs
   obtain ⟨b2,hbs⟩:=bB hbs
   obtain ⟨b3,_⟩:=bB hbs
   have b1:0≤l:=of_decide_eq_true b1
   have b2:l=c:=of_decide_eq_true b2
   have b3:l≤2^40:=of_decide_eq_true b3
   subst b2
   simp only [VR,PR] at hl hc
   subst hl;subst hc
   rw [ht.d_eq] at hd
   have hd:=dO hd
   subst hd
   have hb48:(ie.bytes:Int)*l≤281474976710656:=by
    have h1:(ie.bytes:Int)≤128:=by rw [← hte.bytes];exact_mod_cast hby
    have h2:(ie.bytes:Int)*l≤128*l:=Int.mul_le_mul_of_nonneg_right h1 b1
    have h3:(2:Int)^40=1099511627776:=by decide
    omega
   have h63:l≤9223372036854775807:=by
    have h3:(2:Int)^40=1099511627776:=by decide
    omega
   have hrun:=run_make (P:=P) w t e ie ze ht.und hte.info hte.zero kl kc l l b1 (Int.le_refl _) hb48 h63
   have hv:aQ g m S (dV l.toNat te.zero) (madeCells ze.cells (l.toNat*ie.size)).toList:=nZ hte _
   have hlf:∀ x ∈ dV l.toNat te.zero,ja x=true:=yq hte.zleaf
   have hf:=h.fresh (nid:=nid) hn (eT nid (dV l.toNat te.zero) te.size).2 (by have h1:=hte.small;have h2:=hte.size;show te.size ≠ eD;omega) l.toNat (w':=w.alloc (.cells (madeCells ze.cells (l.toNat*ie.size)) e)) (World.grownBy_alloc w _ none) (heap_alloc_new w _) (fun _=>rfl) (Nat.zero_le _)
    (rest:= []) (by rw [List.append_nil]) (fun hp=>dn _ hv (ko hp)) hv (sZ hv hlf) (fun _=> ⟨by rw [size_madeCells];simp [eT,hte.size],by simp only [maxLen];omega⟩)
   refine ⟨_,_,_,hrun,hf.1,hf.2, ?_⟩
   exact EI (Nat.le_refl _) hpos (by have h1:=hte.small;have h2:=hte.size;omega)
  ·cases hm
 ·cases hm
theorem wk {t e:TypeId} {i:TypeInfo} {z:Value} (ht:P.underlying t=some (.slice e)) (hi:P.info? e=some i) (hz:i.zero=some z) {len:Nat} (hle:len*i.size≤2^24) (h0:len*i.size ≠ 0) {parts:Array (Nat × Value)} {cells:Array Value}
  (hf:Instr.fill (fun i'=>some (i'*i.size,i.size)) (madeCells z.cells (len*i.size)) parts.toList=some cells):
  (Instr.buildSlice t len parts).run P w= .ok (.slice (some ⟨w.heap.size,0,none⟩) len len) (w.alloc (.cells cells e)):=by
 have hgt:¬ (len*i.size>2^24):=by omega
 unfold madeCells at hf
 simp only [Instr.buildSlice,Sem.run_bind,run_underlying ht,Result.andThen_ok]
 simp [Go.sizeOf,typeInfo,hi,zeroValue,hz,h0,newRow]
 rw [if_neg (by simpa using hgt)]
 simp [hf]
theorem sS {t e:TypeId} {i:TypeInfo} (ht:P.underlying t=some (.slice e)) (hi:P.info? e=some i) {len:Nat} (h0:len*i.size=0) {parts:Array (Nat × Value)} {cells:Array Value}
  (hf:Instr.fill (fun i'=>some (i'*i.size,i.size)) #[] parts.toList=some cells):
  (Instr.buildSlice t len parts).run P w= .ok (.slice (some ⟨w.heap.size,0,none⟩) len len) (w.alloc (.cells cells e)):=by
 simp [Instr.buildSlice,run_underlying ht,Go.sizeOf,typeInfo,hi,h0,newRow,Array.range_zero',hf]
theorem pL (hap:eB P ap) (h:br ap g m S w) {nid:Nat} (hn:g nid=none) {t:Nat} {ti:TI} {i:TypeInfo} {d:TypeDesc} {z:Value} (ht:sW P t ti i d z) {len:Nat} {ps:List (Nat × AV)} {qs:Array (Nat × Value)} (hq:pz g m S ps qs.toList)
  {v:AV} {ups:List (Nat × aL)} {bs:List Bool} (hm:lW ap nid ti len ps=some (v,ups,bs)):
  ∃ cv m' w',(Instr.buildSlice t len qs).run P w= .ok cv w'∧br ap (bU g ups) m' S w'∧Fr g m S w (bU g ups) m' S w'∧VR (bU g ups) m' S v cv:=by
 unfold lW at hm
 split at hm
 ·rename_i e hd
  have hq':=bind_some hm;clear hm;obtain ⟨te,hte,hm⟩:=hq'
  obtain ⟨ie,de,ze,hte⟩:=cj hap hte
  split at hm
  ·rename_i hok
   simp only [Bool.and_eq_true] at hok
   have hpos:=cZ hok.1.1
   have hle:=dz hok.1.2
   have hq':=bind_some hm;clear hm;obtain ⟨cs,hcs,hm⟩:=hq'
   cases hm
   rw [ht.d_eq] at hd
   have hd:=dO hd
   subst hd
   have hv0:aQ g m S (dV len te.zero) (madeCells ze.cells (len*ie.size)).toList:=nZ hte _
   obtain ⟨cs',e1,e2,e3⟩:=jC _ qs.toList _ cs _ (lc (size:=te.size) hq) hv0 hcs
   rw [hte.size] at e1
   have hrun:(Instr.buildSlice t len qs).run P w= .ok (.slice (some ⟨w.heap.size,0,none⟩) len len) (w.alloc (.cells cs' e)):=by
    by_cases h0:len*ie.size=0
    ·exact sS ht.und hte.info h0 (by rw [h0] at e1;simpa [madeCells,Array.range_zero'] using e1)
    ·exact wk ht.und hte.info hte.zero (by rw [← hte.size];exact hle) h0 e1
   have hlf:∀ x ∈ cs,ja x=true:=uE hcs (yq hte.zleaf)
   have hsz:cs'.size=len*ie.size:=by rw [e3,size_madeCells]
   have hf:=h.fresh (nid:=nid) hn (eT nid cs te.size).2 (by have h1:=hte.small;have h2:=hte.size;show te.size ≠ eD;omega) len (w':=w.alloc (.cells cs' e)) (World.grownBy_alloc w _ none) (heap_alloc_new w _) (fun _=>rfl) (Nat.zero_le _)
    (rest:= []) (by rw [List.append_nil]) (fun hp=>dn _ e2 (ko hp)) e2 (sZ e2 hlf) (fun _=> ⟨by rw [hsz];simp [eT,hte.size],by
     have h1:len≤len*te.size:=Nat.le_mul_of_pos_right _ hpos
     have h3:(2:Nat)^24=16777216:=by decide
     simp only [maxLen];omega⟩)
   refine ⟨_,_,_,hrun,hf.1,hf.2, ?_⟩
   exact EI (Nat.le_refl _) hpos (by have h1:=hte.small;have h2:=hte.size;omega)
  ·cases hm
 ·cases hm
theorem JF {d:TypeDesc} {k e:Nat} (h:fM P (some d)= .map k e):d= .map k e:=by cases d<;>simp [fM] at h;obtain ⟨rfl,rfl⟩:=h;rfl
theorem FN {k:LK} {x y:AV} {u v:Value} (ha:xW k x=true) (hb:xW k y=true) (h1:VR g m S x u) (h2:VR g m S y v):
  lJ k u v=some (zl x y)∧(zl x y=true→u=v)∧(∀ n,Instr.sameBits n u u=true)∧ct x= []:=by
 cases k<;>cases x<;>simp [xW] at ha<;>cases y<;>simp [xW] at hb<;>simp only [VR,PR] at h1 h2<;>subst h1<;>subst h2
 ·refine ⟨by simp [lJ,zl,ha,hb],fun h=> ?_,fun n=>by simp [Instr.sameBits],rfl⟩
  simp only [zl,beq_iff_eq] at h
  rw [← du ha,← du hb,h]
 ·refine ⟨by simp [lJ,zl],fun h=> ?_,fun n=>by simp [Instr.sameBits],rfl⟩
  simp only [zl,beq_iff_eq] at h
  rw [h]
 ·refine ⟨by simp [lJ,zl,pm],fun h=> ?_,fun n=>by cases n<;>simp [Instr.sameBits,MapKept.bytes_beq],rfl⟩
  simp only [zl,beq_iff_eq] at h
  rw [h]
theorem i_:∀ {lks:List LK} {a b:List AV} {xs ys:List Value},iq lks a=true→iq lks b=true→aQ g m S a xs→aQ g m S b ys→
  bW lks xs ys=some (CT a b)∧(CT a b=true→xs=ys)∧(∀ n,∀ x ∈ xs,Instr.sameBits n x x=true)∧bq a= []
 | [],[],[],[],[],_,_,_,_=> ⟨rfl,fun _=>rfl,by simp,rfl⟩
 | k::lks,x::a,y::b,u::xs,v::ys,ha,hb,h1,h2=>by
  simp only [iq,Bool.and_eq_true] at ha hb
  simp only [aQ] at h1 h2
  obtain ⟨p1,p2,p3,p4⟩:=FN ha.1 hb.1 h1.1 h2.1
  obtain ⟨q1,q2,q3,q4⟩:=i_ ha.2 hb.2 h1.2 h2.2
  refine ⟨by simp [bW,p1,q1,CT],fun h=> ?_,fun n z hz=> ?_,by simp [bq,p4,q4]⟩
  ·simp only [CT,Bool.and_eq_true] at h
   rw [p2 h.1,q2 h.2]
  ·rcases List.mem_cons.1 hz with rfl|hz
   ·exact p3 n
   ·exact q3 n z hz
 | [],_::_,_,_,_,ha,_,_,_=>by simp [iq] at ha
 |_::_,[],_,_,_,ha,_,_,_=>by simp [iq] at ha
 | [],[],_::_,_,_,_,hb,_,_=>by simp [iq] at hb
 |_::_,_::_,[],_,_,_,hb,_,_=>by simp [iq] at hb
 | [],[],[],_::_,_,_,_,h1,_=>by simp [aQ] at h1
 | [],[],[],[],_::_,_,_,_,h2=>by simp [aQ] at h2
 |_::_,_::_,_::_,[],_,_,_,h1,_=>by simp [aQ] at h1
 |_::_,_::_,_::_,_::_,[],_,_,_,h2=>by simp [aQ] at h2
def Nf (P:Program) (n:Nat) (t:TypeId) (lks:List LK):Prop:=
 ∀ (em:Bool) (d:Nat) (w:World) (xs:List Value),n≤d→bW lks xs xs=some true→(Instr.checkKey em d t (mU P t xs)).run P w= .ok () w
theorem mg {lks:List LK} {xs:List Value} {r:Bool} (h:bW lks xs xs=some r):bW lks xs xs=some true:=by
 induction lks generalizing xs r with
 |nil=>cases xs<;>simp [bW] at h ⊢
 | cons k lks ih=>
  cases xs with
  |nil=>simp [bW] at h
  | cons x xs=>
   simp only [bW] at h ⊢
   obtain ⟨c,hc,h⟩:=bind_some h
   rw [Option.map_eq_some_iff] at h
   obtain ⟨d,hd,rfl⟩:=h
   have hc':lJ k x x=some true:=by
    cases k<;>cases x<;>simp [lJ] at hc ⊢
    split at hc
    ·rename_i hk
     simp [hk]
    ·cases hc
   simp [hc',ih hd]
theorem kE {n:Nat} (ih:∀ t lks,fA P n t=some lks→Nf P n t lks):∀ (fs:List Field) (off:Nat) (lks:List LK),pR P (fA P n) fs off=some lks→
  ∀ (em:Bool) (d:Nat) (w:World) (xs:List Value),n≤d→xs.length=off+lks.length→bW lks (xs.drop off) (xs.drop off)=some true→
   (forIn (m:=Sem) fs PUnit.unit fun f _=>do
    if f.name ≠ "_" then Instr.checkKey em d f.type (← part f.type xs.toArray f.offset)
    pure (ForInStep.yield PUnit.unit)).run P w= .ok PUnit.unit w
 | [],off,lks,hc,em,d,w,xs,hd,hx,h=>by simp
 | f ::fs,off,lks,hc,em,d,w,xs,hd,hx,h=>by
  simp only [pR] at hc
  cases hf:fA P n f.type with
  |none=>simp [hf] at hc
  | some l=>
   simp only [hf] at hc
   split at hc
   ·rename_i hcond
    simp only [Bool.and_eq_true,Bool.not_eq_true'] at hcond
    obtain ⟨⟨c1,c2⟩,c3⟩:=hcond
    cases hr:pR P (fA P n) fs (off+l.length) with
    |none=>simp [hr] at hc
    | some l'=>
     simp only [hr] at hc
     cases hc
     cases hi:P.info? f.type with
     |none=>simp [hi] at c3
     |some i=>
      simp only [hi] at c3
      have c3:=ax c3
      have c2:=ax c2
      have hne:f.name ≠ "_" :=by intro e;rw [e] at c1;exact absurd c1 (by decide)
      simp only [List.length_append] at hx
      obtain ⟨a,b,h1,h2,hab⟩:=kV l l' _ _ true h
      have h1:=mg h1
      have h2:=mg h2
      have p1:=mP hf hi c3 xs off (by omega) w
      have p3:=ih f.type l hf em d w _ hd h1
      have p4:=kE ih fs (off+l.length) l' hr em d w xs hd (by omega) (by simpa [List.drop_drop,Nat.add_comm] using h2)
      simp only [List.forIn_cons,Sem.run_bind,hne,ne_eq,not_false_eq_true,if_true,Result.andThen_ok,c2,p1,p3,Sem.run_pure]
      simpa using p4
   ·cases hc
theorem AE:∀ (n:Nat) (t:TypeId) (lks:List LK),fA P n t=some lks→Nf P n t lks
 |0,_,_,h=>by simp [fA] at h
 | n +1,t,lks,h=>by
  intro em d w xs hd hr
  obtain ⟨d,rfl⟩:∃ k,d=k+1:=⟨d - 1,by omega⟩
  have hl:=jJ _ _ _ _ hr
  unfold fA at h
  cases hu:P.underlying t with
  |none=>simp [hu] at h
  | some ds=>
   unfold Instr.checkKey
   simp only [Sem.run_bind,run_underlying hu,Result.andThen_ok,mU,hu]
   cases ds<;>simp only [hu] at h<;>try cases h
   case struct fs=>
    split at h
    ·cases h
    ·have:=kE (AE n) fs.toList 0 lks h em d w xs (by omega) (by simp [hl.1]) (by simpa using hr)
     simp only [← Array.forIn_toList]
     simpa using this
   all_goals (cases xs.headD undef<;>simp)
theorem uZ (hap:eB P ap) {t:Nat} {ti:TI} (hti:ap.tyAt t=some ti) {a b:List AV} {xs ys:List Value} (hc:ti.cmp=true) (ha:iq ti.lks a=true) (hb:iq ti.lks b=true) (h1:aQ g m S a xs) (h2:aQ g m S b ys) (hu:∃ fs,P.underlying t=some (.struct fs)):
  (∀ em,(Instr.checkKey em 10000 t (.agg xs.toArray)).run P w= .ok () w)∧(Op.equal t (.agg xs.toArray) (.agg ys.toArray)).run P w= .ok (CT a b) w:=by
 obtain ⟨fs,hu⟩:=hu
 rw [(qD hap hti).1] at hc
 rw [(qD hap hti).2] at ha hb
 unfold KF at hc
 cases hl:fA P 8 t with
 |none=>simp [hl] at hc
 |some l=>
  simp only [hl,Bool.and_eq_true,Bool.not_eq_true'] at hc
  have hl':=vp hc.1
  rw [← hl'] at ha hb
  have q:=uq 8 t l hl 10000 w xs ys _ (by omega) (i_ ha hb h1 h2).1
  have r:=fun em=>AE 8 t l hl em 10000 w xs (by omega) (mg (i_ ha ha h1 h1).1)
  simp only [mU,hu] at q r
  exact ⟨r,q⟩
theorem rX {ti:TI} {d:TypeDesc} (hd:ti.d=fM P (some d)) (hs:∀ fs,d ≠ .struct fs) {x:AV} {v:Value} (h:gD ti x=true) (hx:VR g m S x v):MapKept.IsKey d v:=by
 unfold gD at h
 rw [hd] at h
 cases d<;>simp only [fM] at h<;>cases x<;>simp at h<;>simp only [VR,PR] at hx<;>first|(exact absurd rfl (hs _))|(subst hx;simp only [MapKept.IsKey])
 exact (du h).symm
theorem HS {ti:TI} {d:TypeDesc} (hd:ti.d=fM P (some d)) (hs:∀ fs,d ≠ .struct fs) {x y:AV} {u v:Value} (hx:gD ti x=true) (hy:gD ti y=true) (h1:VR g m S x u) (h2:VR g m S y v):Instr.sameNow d u v=some (Eg x y):=by
 unfold gD at hx hy
 rw [hd] at hx hy
 cases d<;>simp only [fM] at hx hy<;>cases x<;>simp at hx<;>cases y<;>simp at hy<;>simp only [VR,PR] at h1 h2<;>first|(exact absurd rfl (hs _))|(subst h1;subst h2;simp only [Instr.sameNow,Eg])
 ·rw [if_pos ((du hx).symm.trans (du hy))]
 ·rename_i a b
  congr 1
  rw [Bool.eq_iff_iff,MapKept.bytes_beq]
  simp
theorem vw (h:br ap g m S w) {rd:bL} (hrd:∀ b B,rd b=some B→g b=some B) {x:AV} {cx:Value} (hx:VR g m S x cx) {q:List AV × List AV} (hc:IA rd x=some q):
  ∃ es:Array MapEntry,((cx= .map none∧es=#[])∨∃ b clk,cx= .map (some b)∧w.heap[b]? =some (.map es clk))∧aQ g m S q.1 (es.toList.map (·.key))∧aQ g m S q.2 (es.toList.map (·.val)):=by
 unfold IA at hc
 split at hc
 ·rename_i ks vs
  cases hc
  simp only [VR,PR] at hx
  rcases hx with ⟨rfl,rfl,rfl⟩|⟨b,kk,vv,rfl,h0,h1,p0,p1⟩
  ·exact ⟨#[],.inl ⟨rfl,rfl⟩,by simp [aQ],by simp [aQ]⟩
  ·obtain ⟨es,clk,hk,e0⟩:=mZ (h.sealed _ _ _ h0) rfl
   obtain ⟨es',clk',hk',e1⟩:=mZ (h.sealed _ _ _ h1) rfl
   rw [hk] at hk';cases hk'
   have e0:Value.agg (es.map (·.key))= .agg kk.toArray:=Option.some.inj e0
   have e1:Value.agg (es.map (·.val))= .agg vv.toArray:=Option.some.inj e1
   have e0:=Value.agg.inj e0
   have e1:=Value.agg.inj e1
   refine ⟨es,.inr ⟨b,clk,rfl,hk⟩, ?_, ?_⟩
   ·rw [← Array.toList_map,e0];exact bh _ p0
   ·rw [← Array.toList_map,e1];exact bh _ p1
 ·rename_i b ver
  have hq:=bind_some hc;clear hc;obtain ⟨B,hB,hc⟩:=hq
  split at hc
  ·rename_i hok
   simp only [Bool.and_eq_true] at hok
   split at hc
   ·rename_i ks vs hcells
    cases hc
    simp only [VR] at hx
    obtain ⟨B',hB',_,_,q⟩:=hx
    rw [hrd b B hB] at hB';cases hB'
    have q:=q (ax hok.1)
    obtain ⟨⟨cur,e,us,rest,k1,k2,_,k4,_,_⟩,_,_⟩:=h.blk b B (hrd b B hB)
    obtain ⟨es,clk,hk,rfl⟩:=k1.map (ax hok.2)
    rw [hcells] at k4
    match us,k4 with
    | [u0,u1],k4=>
     simp only [aQ,VR,and_true] at k4
     obtain ⟨⟨kk,rfl,p0⟩,vv,rfl,p1⟩:=k4
     simp only [oP,List.cons_append,List.cons.injEq] at k2
     have e0:=Value.agg.inj k2.1
     have e1:=Value.agg.inj k2.2.1
     refine ⟨es,.inr ⟨_,clk,q,hk⟩, ?_, ?_⟩
     ·rw [← Array.toList_map,e0];exact p0
     ·rw [← Array.toList_map,e1];exact p1
    | [],k4=>simp [aQ] at k4
    | [_],k4=>simp [aQ] at k4
    |_::_::_::_,k4=>simp [aQ] at k4
   ·cases hc
  ·cases hc
 ·cases hc
structure J7 (P:Program) (g:bL) (m:aN) (S:aJ) (w:World) (t:Nat) (ti:TI) (d:TypeDesc) (k:AV) (ck:Value):Prop where
 chk:∀ em,(Instr.checkKey em 10000 t ck).run P w= .ok () w
 stay:(Instr.keyThatStays ck ck).run P w= .ok ck w
 eqs:∀ {k' ck'},gD ti k'=true→VR g m S k' ck'→((match d with| .struct _=>(Op.equal t ck ck').run P w= .ok (Eg k k') w|_=>Instr.sameNow d ck ck'=some (Eg k k'))∧(Eg k k'=true→ck=ck'))
theorem xX (hap:eB P ap) {t:Nat} {ti:TI} {i:TypeInfo} {d:TypeDesc} {z:Value} (hti:ap.tyAt t=some ti) (ht:sW P t ti i d z) {k:AV} {ck:Value} (hok:gD ti k=true) (hk:VR g m S k ck):J7 P g m S w t ti d k ck:=by
 by_cases hs:∃ fs,d= .struct fs
 ·obtain ⟨fs,rfl⟩:=hs
  have hd:=ht.d_eq
  have sh:∀ {x:AV},gD ti x=true→∃ l,x= .agg l∧ti.cmp=true∧iq ti.lks l=true:=by
   intro x hx
   unfold gD at hx
   rw [hd] at hx
   cases x<;>simp [fM] at hx
   exact ⟨_,rfl,hx⟩
  obtain ⟨l,rfl,hc,hl⟩:=sh hok
  have hk0:=hk
  simp only [VR] at hk
  obtain ⟨xs,rfl,hx⟩:=hk
  refine ⟨(uZ hap hti hc hl hl hx hx ⟨fs,ht.und⟩).1, ?_, ?_⟩
  ·have hb:Instr.sameBits 10000 (.agg xs.toArray) (.agg xs.toArray)=true:=by
    show Instr.sameBits (9999+1) _ _=true
    have h3:=(i_ hl hl hx hx).2.2.1 9999
    simp only [Instr.sameBits,beq_self_eq_true,Bool.true_and,List.all_eq_true]
    intro p hp
    obtain ⟨a,b⟩:=p
    have zz:∀ l:List Value,(a,b) ∈ l.zip l→a=b∧a ∈ l:=by
     intro l
     induction l with
     |nil=>intro h;simp at h
     |cons c l ih=>
      intro h
      simp only [List.zip_cons_cons,List.mem_cons,Prod.mk.injEq] at h
      rcases h with ⟨rfl,rfl⟩|h
      ·exact ⟨rfl,by simp⟩
      ·exact ⟨(ih h).1,List.mem_cons_of_mem _ (ih h).2⟩
    obtain ⟨rfl,hm⟩:=zz xs hp
    exact h3 a hm
   simp [Instr.keyThatStays,hb]
  ·intro k' ck' hok' hk'
   obtain ⟨l',rfl,_,hl'⟩:=sh hok'
   simp only [VR] at hk'
   obtain ⟨ys,rfl,hy⟩:=hk'
   refine ⟨(uZ hap hti hc hl hl' hx hy ⟨fs,ht.und⟩).2,fun he=> ?_⟩
   rw [(i_ hl hl' hx hy).2.1 he]
 ·have hs:∀ fs,d ≠ .struct fs:=fun fs e=>hs ⟨fs,e⟩
  have hik:=rX ht.d_eq hs hok hk
  refine ⟨fun em=>MapKept.run_checkKey ht.und hik em 9999,MapKept.run_keyThatStays hik, ?_⟩
  intro k' ck' hok' hk'
  have h1:=HS ht.d_eq hs hok hok' hk hk'
  have h2:=MapKept.sameNow_of_keys hik (rX ht.d_eq hs hok' hk')
  refine ⟨?_,fun he=> ?_⟩
  ·cases d<;>first|exact h1|exact absurd rfl (hs _)
  ·obtain ⟨r,hr,hiff⟩:=h2
   rw [h1] at hr;cases hr
   exact hiff.1 he
def fN (P:Program) (w:World) (t:Nat) (d:TypeDesc) (ck:Value) (l:List MapEntry) (i:Nat) (r:Option (Nat × Value)):Prop:=
 match d with
 | .struct _=>(Instr.findAsking t ck l i).run P w= .ok r w
 |_=>Instr.findNow d ck l i=some r
theorem fN.nil {t:Nat} {d:TypeDesc} {ck:Value} {i:Nat}:fN P w t d ck [] i none:=by
 unfold fN;cases d<;>first|rfl|simp [Instr.findAsking]
theorem fN.hit {t:Nat} {ti:TI} {d:TypeDesc} {k k':AV} {ck:Value} {e:MapEntry} {l:List MapEntry} {i:Nat} (h:J7 P g m S w t ti d k ck) (hok:gD ti k'=true) (hk:VR g m S k' e.key) (he:Eg k k'=true):fN P w t d ck (e::l) i (some (i,e.val)):=by
 have q:=(h.eqs hok hk).1
 rw [he] at q
 unfold fN;cases d<;>simp only at q ⊢ <;>first|(simp [Instr.findAsking,q];done)|(simp [Instr.findNow,q];done)
theorem fN.miss {t:Nat} {ti:TI} {d:TypeDesc} {k k':AV} {ck:Value} {e:MapEntry} {l:List MapEntry} {i:Nat} {r:Option (Nat × Value)} (h:J7 P g m S w t ti d k ck) (hok:gD ti k'=true) (hk:VR g m S k' e.key) (he:Eg k k'=false) (hr:fN P w t d ck l (i+1) r):fN P w t d ck (e::l) i r:=by
 have q:=(h.eqs hok hk).1
 rw [he] at q
 unfold fN at hr ⊢;cases d<;>simp only at q hr ⊢ <;>first|(simp [Instr.findAsking,q,hr];done)|(simp [Instr.findNow,q,hr];done)
theorem fN.run {t:Nat} {ti:TI} {i:TypeInfo} {d:TypeDesc} {z:Value} (ht:sW P t ti i d z) {ck:Value} {l:List MapEntry} {r:Option (Nat × Value)} (h:fN P w t d ck l 0 r):(Instr.findKey t ck l).run P w= .ok r w:=by
 by_cases hs:∃ fs,d= .struct fs
 ·obtain ⟨fs,rfl⟩:=hs
  simp only [fN] at h
  cases l with
  |nil=>
   simp [Instr.findAsking] at h;subst h
   simp [Instr.findKey,run_underlying ht.und,Result.andThen,Instr.findNow]
  |cons e l=>
   simp only [Instr.findKey,Sem.run_bind,run_underlying ht.und,Result.andThen_ok,Instr.findNow,Instr.sameNow]
   exact h
 ·have hs:∀ fs,d ≠ .struct fs:=fun fs e=>hs ⟨fs,e⟩
  refine MapKept.run_findKey ht.und ?_
  unfold fN at h
  cases d<;>first|exact h|exact absurd rfl (hs _)
theorem mo {t:Nat} {ti:TI} {d:TypeDesc} {k v:AV} {ck cv:Value} (hR:J7 P g m S w t ti d k ck) (hv:VR g m S v cv):∀ (l:List MapEntry) (ks vs:List AV) (i:Nat),aQ g m S ks (l.map (·.key))→aQ g m S vs (l.map (·.val))→ks.all (gD ti)=true→
  (fN P w t d ck l i none∧qa ks vs k=none∧ks.any (Eg k)=false∧nN ks vs k v=vs++ [v])∨
  ∃ j e x,fN P w t d ck l i (some (i+j,e.val))∧l[j]? =some e∧e.key=ck∧qa ks vs k=some x∧VR g m S x e.val∧ks.any (Eg k)=true∧aQ g m S (nN ks vs k v) ((l.set j {e with key:=ck,val:=cv}).map (·.val))
 | [],ks,vs,i,h1,h2,_=>by
  cases ks with
  |cons _ _=>simp [aQ] at h1
  |nil=>
   cases vs with
   |cons _ _=>simp [aQ] at h2
   |nil=>exact .inl ⟨fN.nil,rfl,rfl,rfl⟩
 | e ::l,ks,vs,i,h1,h2,ha=>by
  cases ks with
  |nil=>simp [aQ] at h1
  | cons k0 ks=>
   cases vs with
   |nil=>simp [aQ] at h2
   | cons v0 vs=>
    simp only [List.map_cons,aQ] at h1 h2
    simp only [List.all_cons,Bool.and_eq_true] at ha
    cases he:Eg k k0 with
    |true=>
     have hkey:e.key=ck:=((hR.eqs ha.1 h1.1).2 he).symm
     refine .inr ⟨0,e,v0,fN.hit hR ha.1 h1.1 he,rfl,hkey, ?_,h2.1, ?_, ?_⟩
     ·simp [qa,he]
     ·simp [he]
     ·simp only [nN,he,List.set_cons_zero,List.map_cons,aQ];exact ⟨hv,h2.2⟩
    | false=>
     rcases mo hR hv l ks vs (i+1) h1.2 h2.2 ha.2 with ⟨r1,r2,r3,r4⟩|⟨j,e',x,r1,r2,r3,r4,r5,r6,r7⟩
     ·refine .inl ⟨fN.miss hR ha.1 h1.1 he r1, ?_, ?_, ?_⟩
      ·simp [qa,he,r2]
      ·simp only [List.any_cons,he,r3];rfl
      ·simp [nN,he,r4]
     ·refine .inr ⟨j+1,e',x, ?_,by simpa using r2,r3, ?_,r5, ?_, ?_⟩
      ·rw [show i+(j+1)=i+1+j by omega];exact fN.miss hR ha.1 h1.1 he r1
      ·simp [qa,he,r4]
      ·simp only [List.any_cons,he,r6];rfl
      ·simp only [nN,he,List.set_cons_succ,List.map_cons,aQ];exact ⟨h2.1,r7⟩
theorem rY {ok:Bool} {o:Option AV} {z:AV} {u cz:Value} {b:Bool} (h:(o=none∧u=cz∧b=false)∨∃ x,o=some x∧VR g m S x u∧b=true) (hz:VR g m S z cz):VR g m S (Bh ok o z) (if ok then .tuple #[u,.bool b] else u):=by
 have h1:VR g m S (o.getD z) u∧o.isSome=b:=by
  rcases h with ⟨rfl,rfl,rfl⟩|⟨x,rfl,hx,rfl⟩
  ·exact ⟨hz,rfl⟩
  ·exact ⟨hx,rfl⟩
 cases ok with
 |true=>
  simp only [Bh,if_true,VR]
  refine ⟨[u,.bool b],rfl, ?_⟩
  simp only [aQ,VR,PR,and_true]
  exact ⟨h1.1,by rw [h1.2]⟩
 |false=>simpa [Bh] using h1.1
theorem xg (hap:eB P ap) (h:br ap g m S w) {rd:bL} (hrd:∀ b B,rd b=some B→g b=some B) {t:Nat} {ti:TI} {i:TypeInfo} {d:TypeDesc} {z:Value} (ht:sW P t ti i d z) {x k v:AV} {cx ck:Value} (hx:VR g m S x cx) (hk:VR g m S k ck) {ok:Bool}
  {ups:List (Nat × aL)} {bs:List Bool} (hl:zD ap ti rd x k ok=some (v,ups,bs)) (hbs:∀ b ∈ bs,b=true):
  ups= []∧∃ cv,(Instr.lookup t cx ck ok).run P w= .ok cv w∧VR g m S v cv:=by
 unfold zD at hl
 split at hl
 ·rename_i kt et hd
  have hq:=bind_some hl;clear hl;obtain ⟨tk,htk,hl⟩:=hq
  have hq:=bind_some hl;clear hl;obtain ⟨te,hte,hl⟩:=hq
  have hq:=bind_some hl;clear hl;obtain ⟨q,hq,hl⟩:=hq
  have hq':=bind_some hl;clear hl;obtain ⟨zz,hzz,hl⟩:=hq'
  obtain ⟨rfl,rfl,rfl⟩:=aH hl
  have hkt:=htk
  obtain ⟨ik,dk,zk,htk⟩:=cj hap htk
  obtain ⟨ie,de,ze,hte⟩:=cj hap hte
  rw [ht.d_eq] at hd
  have hd:=JF hd
  subst hd
  obtain ⟨b1,hbs⟩:=bB hbs
  obtain ⟨b2,_⟩:=bB hbs
  obtain ⟨es,hes,v1,v2⟩:=vw h hrd hx hq
  have hik:=xX (w:=w) hap hkt htk b1 hk
  have hzv:VR g m S zz ze:=oQ hte hzz
  refine ⟨rfl, ?_⟩
  rcases mo hik hk es.toList q.1 q.2 0 v1 v2 b2 with ⟨r1,r2,_,_⟩|⟨j,e,y,r1,_,_,r4,r5,_,_⟩
  ·refine ⟨_, ?_,rY (.inl ⟨r2,rfl,rfl⟩) hzv⟩
   rcases hes with ⟨rfl,rfl⟩|⟨b,clk,rfl,hb⟩
   ·simp [Instr.lookup,run_underlying ht.und,hik.chk,r1.run htk,zeroValue,typeInfo,hte.info,hte.zero,Result.andThen]
   ·simp [Instr.lookup,run_underlying ht.und,MapKept.run_getObj_map hb,hik.chk,r1.run htk,zeroValue,typeInfo,hte.info,hte.zero,Result.andThen]
  ·refine ⟨_, ?_,rY (.inr ⟨y,r4,r5,rfl⟩) hzv⟩
   rcases hes with ⟨rfl,rfl⟩|⟨b,clk,rfl,hb⟩
   ·have r1:=r1.run htk
    simp [Instr.findKey,run_underlying htk.und,Result.andThen,Instr.findNow] at r1
   ·simp [Instr.lookup,run_underlying ht.und,MapKept.run_getObj_map hb,hik.chk,r1.run htk,Result.andThen]
 ·cases hl
mutual
theorem D3 {S:aJ}:∀ (x:AV) {v:Value},PR S x v→ct x= []
 | .int _ _,_,_=>rfl
 | .bool _,_,_=>rfl
 | .str _,_,_=>rfl
 | .nilS,_,_=>rfl
 | .nilP,_,_=>rfl
 | .nilF,_,_=>rfl
 | .nilI,_,_=>rfl
 | .sl _ _ _,_,_=>rfl
 | .pp _ _,_,_=>rfl
 | .mp _ _,_,_=>rfl
 | .dead,_,_=>rfl
 | .own _ _ _,_,p=>by simp only [PR] at p
 | .ref _ _ _ _,_,p=>by simp only [PR] at p
 | .ptr _ _ _,_,p=>by simp only [PR] at p
 | .mr _ _,_,p=>by simp only [PR] at p
 | .agg l,_,p=>by
  simp only [PR] at p;simp only [ct]
  obtain ⟨_,_,q⟩:=p
  exact jW l q
 | .tup l,_,p=>by
  simp only [PR] at p;simp only [ct]
  obtain ⟨_,_,q⟩:=p
  exact jW l q
 | .fn f a c,_,p=>by
  simp only [PR] at p;simp only [ct]
  obtain ⟨_,_,_,q,r⟩:=p
  rw [jW a q,jW c r];rfl
 | .ifc t x,_,p=>by
  simp only [PR] at p;simp only [ct]
  obtain ⟨_,_,q⟩:=p
  exact D3 x q
theorem jW {S:aJ}:∀ (l:List AV) {vs:List Value},bP S l vs→bq l= []
 | [],_,_=>rfl
 |x::r,v::vs,p=>by simp only [bP] at p;simp only [bq,D3 x p.1,jW r p.2,List.append_nil]
 |_::_,[],p=>by simp [bP] at p
end
theorem yd (h:br ap g m S w) {b:Nat} {B:aL} {es':Array MapEntry} {clk':Nat} {k:Nat} {w':World} (hk:w'.heap[k]? =some (.map es' clk')) (hz:B.esz=eD) {ks vs:List AV} (hc:B.cells= [.agg ks,.agg vs]) (h1:aQ g m S ks (es'.toList.map (·.key))) (h2:aQ g m S vs (es'.toList.map (·.val))) (hp:B.pr=true→bq vs= []∧bq ks= []) (hf0:B.fro=false→B.fz=0) (hf1:B.fz≤2) (c:Nat):Fa g m S w' B k c:=by
 refine ⟨⟨oP es',0,[.agg (es'.map (·.key)),.agg (es'.map (·.val))],[],.inr ⟨hz,es',clk',hk,rfl⟩,rfl, ?_, ?_,fun hn=>absurd hz hn,fun _ hn=>absurd hz hn⟩,hf0,by rw [hc];exact hf1⟩
 ·intro hpr
  obtain ⟨p1,p2⟩:=hp hpr
  rw [hc]
  simp only [bP,PR,and_true]
  exact ⟨⟨(es'.map (·.key)).toList,by rw [Array.toArray_toList],by rw [Array.toList_map];exact dn _ h1 p2⟩,(es'.map (·.val)).toList,by rw [Array.toArray_toList],by rw [Array.toList_map];exact dn _ h2 p1⟩
 ·rw [hc]
  simp only [aQ,VR,and_true]
  exact ⟨⟨(es'.map (·.key)).toList,by rw [Array.toArray_toList],by rw [Array.toList_map];exact h1⟩,(es'.map (·.val)).toList,by rw [Array.toArray_toList],by rw [Array.toList_map];exact h2⟩
theorem xh (h:br ap g m S w) {nid:Nat} (hn:g nid=none) (t:Nat):
  ∃ cv m' w',(Instr.makeMap t none).run P w= .ok cv w'∧br ap (bU g [(nid,⟨[.agg [],.agg []],0,false,0,eD,true⟩)]) m' S w'∧Fr g m S w (bU g [(nid,⟨[.agg [],.agg []],0,false,0,eD,true⟩)]) m' S w'∧VR (bU g [(nid,⟨[.agg [],.agg []],0,false,0,eD,true⟩)]) m' S (.mr nid 0) cv:=by
 have hput:=h.put nid ⟨[.agg [],.agg []],0,false,0,eD,true⟩ w.heap.size 0 (w':=w.alloc (.map #[] 0)) (.inl (Nat.le_refl _)) (World.grownBy_alloc w _ _)
  (yd h (b:=nid) (heap_alloc_new w _) rfl rfl (by simp [aQ]) (by simp [aQ]) (fun _=> ⟨rfl,rfl⟩) (fun _=>rfl) (Nat.zero_le _) 0)
  (fun B0 h0=>by rw [hn] at h0;cases h0) (fun o v hv=>absurd (h.seal_lt hv) (Nat.lt_irrefl _))
 refine ⟨.map (some w.heap.size),_,_, ?_,hput.1,hput.2, ?_⟩
 ·simp [Instr.makeMap,Result.andThen]
 ·simp only [VR]
  exact ⟨_,iM _ _ _,Nat.le_refl _,⟨_,rfl⟩,fun _=>by simp [f_]⟩
theorem uY:∀ (lks:List LK) (l:List AV),iq lks l=true→bq l= []
 | [],[],_=>rfl
 |k::lks,x::l,h=>by
  simp only [iq,Bool.and_eq_true] at h
  have hx:ct x= []:=by cases k<;>cases x<;>first|rfl|(have:=h.1;simp [xW] at this)
  simp only [bq,hx,uY lks l h.2,List.append_nil]
 | [],_::_,h=>by simp [iq] at h
 |_::_,[],h=>by simp [iq] at h
theorem rF:∀ (l:List AV) (ti:TI),l.all (gD ti)=true→bq l= []
 | [],_,_=>rfl
 | x::r,ti,h=>by
  simp only [List.all_cons,Bool.and_eq_true] at h
  have hx:ct x= []:=by
   have h1:=h.1
   unfold gD at h1
   split at h1<;>first|rfl|(cases h1;done)|skip
   simp only [Bool.and_eq_true] at h1
   simp only [ct];exact uY _ _ h1.2
  simp only [bq,hx,rF r ti h.2,List.append_nil]
theorem v_:∀ (ks vs:List AV) (k v:AV),bq vs= []→ct v= []→bq (nN ks vs k v)= []
 | [],_,k,v,_,h2=>by simp [nN,bq,h2]
 |_::_,[],k,v,_,h2=>by simp [nN,bq,h2]
 |k0::ks,v0::vs,k,v,h1,h2=>by
  simp only [bq,List.append_eq_nil_iff] at h1
  simp only [nN]
  split
  ·simp [bq,h1.2,h2]
  ·simp [bq,h1.1,v_ ks vs k v h1.2 h2]
theorem oq (hap:eB P ap) (h:br ap g m S w) {rd:bL} (hrd:∀ b B,rd b=some B→g b=some B) {t:Nat} {ti:TI} {i:TypeInfo} {d:TypeDesc} {z:Value} (ht:sW P t ti i d z) {x k v r:AV} {cx ck cv:Value} (hx:VR g m S x cx) (hk:VR g m S k ck) (hv:VR g m S v cv)
  {ups:List (Nat × aL)} {bs:List Bool} (hl:tO ap ti rd x k v=some (r,ups,bs)) (hbs:∀ b ∈ bs,b=true):
  r= .dead∧∃ m' w',(Instr.mapUpdate t cx ck cv).run P w= .ok () w'∧br ap (bU g ups) m' S w'∧Fr g m S w (bU g ups) m' S w':=by
 unfold tO at hl
 split at hl
 ·rename_i kt et b ver hd
  have hq:=bind_some hl;clear hl;obtain ⟨tk,htk,hl⟩:=hq
  have hq:=bind_some hl;clear hl;obtain ⟨B,hB,hl⟩:=hq
  split at hl
  ·rename_i hok
   simp only [Bool.and_eq_true,Bool.not_eq_true'] at hok
   split at hl
   ·rename_i ks vs hcells
    cases hl
    have hkt:=htk
    obtain ⟨ik,dk,zk,htk⟩:=cj hap htk
    rw [ht.d_eq] at hd
    have hd:=JF hd
    subst hd
    obtain ⟨b1,hbs⟩:=bB hbs
    obtain ⟨b2,_⟩:=bB hbs
    have hgB:=hrd b B hB
    have hz:=ax hok.1.2
    have hmc:IA rd (.mr b ver)=some (ks,vs):=by
     unfold IA
     simp only [hB,Option.bind_some,hok.1.1,hok.1.2,Bool.and_self,hcells]
    obtain ⟨es,hes,v1,v2⟩:=vw h hrd hx hmc
    have hik:=xX (w:=w) hap hkt htk b1 hk
    simp only [VR] at hx
    obtain ⟨B',hB',_,_,q⟩:=hx
    rw [hgB] at hB';cases hB'
    have q:=q (ax hok.1.1)
    subst q
    rcases hes with ⟨e,_⟩|⟨b0,clk,e,hb⟩
    ·cases e
    cases e
    have hlt:(m b).1<w.heap.size:=h.lt hgB
    obtain ⟨_,k7,k8⟩:=h.blk b B hgB
    have key:∀ (es':Array MapEntry) (clk':Nat),aQ g m S (zV ks k) (es'.toList.map (·.key))→aQ g m S (nN ks vs k v) (es'.toList.map (·.val))→
      ∃ m',br ap (bU g [(b,{B with cells:= [.agg (zV ks k),.agg (nN ks vs k v)],pr:=B.pr && (ct v).isEmpty})]) m' S {w with heap:=w.heap.setIfInBounds (m b).1 (.map es' clk')}∧Fr g m S w (bU g [(b,{B with cells:= [.agg (zV ks k),.agg (nN ks vs k v)],pr:=B.pr && (ct v).isEmpty})]) m' S {w with heap:=w.heap.setIfInBounds (m b).1 (.map es' clk')}:=by
     intro es' clk' w1 w2
     have hput:=h.put b {B with cells:= [.agg (zV ks k),.agg (nN ks vs k v)],pr:=B.pr && (ct v).isEmpty} (m b).1 (m b).2 (w':={w with heap:=w.heap.setIfInBounds (m b).1 (.map es' clk')})
      (.inr ⟨B,hgB,rfl⟩) ⟨rfl,rfl,rfl,by simp,fun k' _ hk'=>by simp [show (m b).1 ≠ k' from fun e=>hk' (by rw [e])]⟩
      (yd h (b:=b) (B:={B with cells:= [.agg (zV ks k),.agg (nN ks vs k v)],pr:=B.pr && (ct v).isEmpty}) (w':={w with heap:=w.heap.setIfInBounds (m b).1 (.map es' clk')}) (k:=(m b).1) (clk':=clk') (by simp [hlt]) hz rfl w1 w2 (fun hpr=>by
       have hpr:(B.pr && (ct v).isEmpty)=true:=hpr
       simp only [Bool.and_eq_true] at hpr
       obtain ⟨⟨cur,e,us,rest,k1,k2,k3,k4,_,_⟩,_,_⟩:=h.blk b B hgB
       have hr:bq B.cells= []:=jW _ (k3 hpr.1)
       rw [hcells] at hr
       simp only [bq,ct,List.append_nil,List.append_eq_nil_iff] at hr
       refine ⟨v_ _ _ _ _ hr.2 (ko hpr.2), ?_⟩
       have hks:=rF ks _ b2
       unfold zV
       split
       ·exact hks
       ·rw [li,hks];exact rF [k] tk (by simp [b1])) k7 (by rw [hcells] at k8;exact k8) (m b).2)
      (fun B0 h0=>by rw [hgB] at h0;cases h0;exact ⟨rfl,.inl ⟨rfl,rfl⟩⟩)
      (fun o u hu=>by
       have:=(h.own b B hgB o u hu).1
       rw [hok.2] at this;cases this)
     exact ⟨_,hput.1,hput.2⟩
    refine ⟨rfl, ?_⟩
    rcases mo hik hv es.toList ks vs 0 v1 v2 b2 with ⟨r1,r2,r3,r4⟩|⟨j,e,y,r1,rj,rk,r4,r5,r6,r7⟩
    ·obtain ⟨m',s1,s2⟩:=key (es.push {key:=ck,val:=cv,born:=clk}) (clk+1)
      (by unfold zV;rw [r3,Array.toList_push,List.map_append];exact dR v1 (by simp only [List.map_cons,List.map_nil,aQ,and_true];exact hk))
      (by rw [r4,Array.toList_push,List.map_append];exact dR v2 (by simp only [List.map_cons,List.map_nil,aQ,and_true];exact hv))
     refine ⟨m',_, ?_,s1,s2⟩
     simp [Instr.mapUpdate,run_underlying ht.und,MapKept.run_getObj_map hb,hik.chk,r1.run htk,MapKept.run_setObj_map _ hb,Result.andThen]
    ·have hje:es[j]? =some e:=by simpa using rj
     have hl1:(es.modify j fun e=> {e with key:=ck,val:=cv}).toList=es.toList.set j {e with key:=ck,val:=cv}:=by
      apply List.ext_getElem?
      intro n
      simp only [Array.getElem?_toList,Array.getElem?_modify,List.getElem?_set]
      by_cases hjn:j=n
      ·subst hjn
       have hjl:j<es.toList.length:=(List.getElem?_eq_some_iff.1 rj).1
       rw [if_pos rfl,if_pos rfl,if_pos hjl,hje];rfl
      ·rw [if_neg hjn,if_neg hjn]
     obtain ⟨m',s1,s2⟩:=key (es.modify j fun e=> {e with key:=ck,val:=cv}) clk
      (by
       unfold zV;rw [r6,hl1]
       have:(es.toList.set j {e with key:=ck,val:=cv}).map (·.key)=es.toList.map (·.key):=by
        apply List.ext_getElem?
        intro n
        simp only [List.getElem?_map,List.getElem?_set]
        by_cases hjn:j=n
        ·subst hjn
         have hjl:j<es.toList.length:=(List.getElem?_eq_some_iff.1 rj).1
         have hjs:j<es.size:=by simpa using hjl
         have hge:es[j]=e:=by rw [Array.getElem?_eq_getElem hjs] at hje;exact Option.some.inj hje
         simp [hjs,hge,rk]
        ·simp [hjn]
       rw [this];exact v1)
      (by rw [hl1];exact r7)
     refine ⟨m',_, ?_,s1,s2⟩
     rw [Nat.zero_add] at r1
     simp [Instr.mapUpdate,run_underlying ht.und,MapKept.run_getObj_map hb,hik.chk,r1.run htk,hje,rk,hik.stay,MapKept.run_setObj_map _ hb,Result.andThen]
   ·cases hl
  ·cases hl
 ·cases hl
end
end AM
namespace AM
open Go
section
variable {P:Program} {ap:AP} {g:bL} {m:aN} {S:aJ} {w:World}
theorem mX {ρ:Operand→AV} {cρ:Operand→Value}:∀ (l:List Operand),(∀ o ∈ l,VR g m S (ρ o) (cρ o))→aQ g m S (l.map ρ) (l.map cρ)
 | [],_=>by simp [aQ]
 |o::r,h=>by simp only [List.map_cons,aQ];exact ⟨h o (by simp),mX r fun o ho=>h o (by simp [ho])⟩
theorem tZ {ρ:Operand→AV} {cρ:Operand→Value}:∀ (l:List (Nat × Operand)),(∀ o ∈ l.map (·.2),VR g m S (ρ o) (cρ o))→pz g m S (l.map fun (i,x)=>(i,ρ x)) (l.map fun (i,x)=>(i,cρ x))
 | [],_=>by simp [pz]
 |(i,o)::r,h=>by simp only [List.map_cons,pz];exact ⟨trivial,h o (by simp),tZ r fun o ho=>h o (by simp [ho])⟩
def eK (P:Program) (ap:AP) (g:bL) (m:aN) (S:aJ) (w:World) (s:Sem Next) (v:AV) (ups:List (Nat × aL)):Prop:=
 ∃ nx m' w',s.run P w= .ok nx w'∧br ap (bU g ups) m' S w'∧Fr g m S w (bU g ups) m' S w'∧((∃ cv,nx= .value cv∧VR (bU g ups) m' S v cv)∨(nx= .skip∧v= .dead))
theorem eK.pur (h:br ap g m S w) {s:Sem Value} {v:AV} {ups:List (Nat × aL)} (hs:ups= []∧∃ cv,s.run P w= .ok cv w∧VR g m S v cv):eK P ap g m S w (do pure (.value (← s))) v ups:=by
 obtain ⟨rfl,cv,h1,h2⟩:=hs
 exact ⟨.value cv,m,w,by simp [h1],by rw [cW];exact h,by rw [cW];exact Fr.refl _ _ _ _,.inl ⟨cv,rfl,by rw [cW];exact h2⟩⟩
theorem eK.full {s:Sem Value} {v:AV} {ups:List (Nat × aL)} (hs:∃ cv m' w',s.run P w= .ok cv w'∧br ap (bU g ups) m' S w'∧Fr g m S w (bU g ups) m' S w'∧VR (bU g ups) m' S v cv):eK P ap g m S w (do pure (.value (← s))) v ups:=by
 obtain ⟨cv,m',w',h1,h2,h3,h4⟩:=hs
 exact ⟨.value cv,m',w',by simp [h1],h2,h3,.inl ⟨cv,rfl,h4⟩⟩
theorem eK.val (h:br ap g m S w) {s:Sem Next} {v:AV} {cv:Value} (hs:s.run P w= .ok (.value cv) w) (hv:VR g m S v cv):eK P ap g m S w s v []:=
 ⟨.value cv,m,w,hs,by rw [cW];exact h,by rw [cW];exact Fr.refl _ _ _ _,.inl ⟨cv,rfl,by rw [cW];exact hv⟩⟩
theorem tW {ρ:Operand→AV} {cρ:Operand→Value} (x:Option Operand) (h:∀ o ∈ x.toArray,VR g m S (ρ o) (cρ o)):tV g m S (x.map ρ) (x.map cρ):=by
 cases x with
 |none=>simp [tV]
 |some o=>simp only [Option.map_some,tV];exact h o (by simp)
theorem AK (hap:eB P ap) {t:Nat} {ti:TI} (h:ap.tyAt t=some ti) (hd:ti.d ≠ .iface):P.concrete t=true:=by
 obtain ⟨i,d,z,ht⟩:=cj hap h
 have:=ht.d_eq
 simp only [Program.concrete,ht.und]
 cases d<;>simp_all [fM]
set_option maxHeartbeats 1000000 in
theorem F6 (hap:eB P ap) (hS:br ap g m S w) {nid:Nat} (hn:g nid=none) {ρ:Operand→AV} {cρ:Operand→Value} {rd:bL} (hrd:∀ b B,rd b=some B→g b=some B) (o:Oper) (hρ:∀ x ∈ o.op.operands,VR g m S (ρ x) (cρ x))
  {dec:Operand→Option Bool} (hdec:∀ x ∈ o.op.operands,∀ b,dec x=some b→cρ x= .bool b) {em:Bool} (hem:∀ n,pY ρ o.op=some n→Nat.beq n 0=em)
  {v:AV} {ups:List (Nat × aL)} {bs:List Bool} (h:opA ap nid ρ rd dec em o.op=some (v,ups,bs)) (hbs:∀ b ∈ bs,b=true):eK P ap g m S w (execOp cρ o) v ups:=by
 unfold opA at h
 unfold execOp
 split at h<;>rename_i heq<;>simp only [heq,Op.operands] at hρ hdec hem ⊢
 ·obtain ⟨rfl,rfl,rfl⟩:=aH h
  exact eK.val hS (by simp) (hρ _ (by simp))
 ·obtain ⟨rfl,rfl,rfl⟩:=aH h
  exact eK.val hS (by simp) (hρ _ (by simp))
 ·
  rename_i c a b
  split at h
  ·rename_i hd
   obtain ⟨rfl,rfl,rfl⟩:=aH h
   have:=hdec c (by simp) _ hd
   exact eK.val hS (by simp [this,asBool]) (hρ _ (by simp))
  ·rename_i hd
   obtain ⟨rfl,rfl,rfl⟩:=aH h
   have:=hdec c (by simp) _ hd
   exact eK.val hS (by simp [this,asBool]) (hρ _ (by simp))
  ·split at h
   ·rename_i bc ba bb e1 e2 e3
    obtain ⟨rfl,rfl,rfl⟩:=aH h
    have h1:=hρ c (by simp)
    have h2:=hρ a (by simp)
    have h3:=hρ b (by simp)
    rw [e1] at h1;rw [e2] at h2;rw [e3] at h3
    simp only [VR,PR] at h1 h2 h3
    refine eK.val hS (cv:= .bool (cond bc ba bb)) ?_ (by simp only [VR,PR])
    rw [h1,h2,h3]
    cases bc<;>simp [asBool]
   ·cases h
 ·
  rename_i e
  have hq:=bind_some h;clear h;obtain ⟨te,hte,h⟩:=hq
  obtain ⟨ie,de,ze,ht⟩:=cj hap hte
  split at h
  ·rename_i hok
   simp only [Bool.and_eq_true] at hok
   cases h
   obtain ⟨m',w',h1,h2,h3,h4⟩:=xB (P:=P) hS hn (cells:=te.zero) (cv:=ze) (jY ht) ht.zleaf (fun u hu=>sZ (g:=g) (m:=m) (S:=S) (jY ht) ht.zleaf u (by simpa using hu)) e
   refine eK.full ⟨.pointer (some ⟨w.heap.size,0,none⟩),m',w', ?_,h2,h3,EE h4⟩
   simp [Instr.alloc,zeroValue,typeInfo,ht.info,ht.zero,h1]
  ·cases h
 ·
  rename_i e x
  have hq:=bind_some h;clear h;obtain ⟨te,hte,h⟩:=hq
  obtain ⟨ie,de,ze,ht⟩:=cj hap hte
  simp only at h
  split at h
  ·rename_i hok
   simp only [Bool.and_eq_true] at hok
   cases h
   have hx:=hρ x (by simp)
   have hl:∀ y ∈ (ρ x).cells,ja y=true:=fun y hy=>List.all_eq_true.1 hok.2 y hy
   obtain ⟨hv1,hv2⟩:=ud hx hl
   obtain ⟨m',w',h1,h2,h3,h4⟩:=xB (P:=P) hS hn (cells:=(ρ x).cells) (cv:=cρ x) hv1 hl hv2 e
   refine eK.full ⟨.pointer (some ⟨w.heap.size,0,none⟩),m',w', ?_,h2,h3,EE h4⟩
   simp [Instr.box,h1]
  ·cases h
 ·
  rename_i t parts
  have hq:=bind_some h;clear h;obtain ⟨ti,hti,h⟩:=hq
  obtain ⟨i,d,z,ht⟩:=cj hap hti
  refine eK.pur hS ?_
  refine yR hap ht (qs:=parts.map fun (i,x)=>(i,cρ x)) ?_ h
  rw [Array.toList_map]
  exact tZ parts.toList fun x hx=>hρ x (by simpa using hx)
 ·
  rename_i t len parts
  have hq:=bind_some h;clear h;obtain ⟨ti,hti,h⟩:=hq
  obtain ⟨i,d,z,ht⟩:=cj hap hti
  refine eK.full ?_
  refine pL hap hS hn ht (qs:=parts.map fun (i,x)=>(i,cρ x)) ?_ h
  rw [Array.toList_map]
  exact tZ parts.toList fun x hx=>hρ x (by simpa using hx)
 ·
  rename_i t a
  have hq:=bind_some h;clear h;obtain ⟨ti,hti,h⟩:=hq
  obtain ⟨i,d,z,ht⟩:=cj hap hti
  exact eK.pur hS (rZ hS hrd ht (hρ a (by simp)) h hbs)
 ·
  rename_i t a x
  have hq:=bind_some h;clear h;obtain ⟨ti,hti,h⟩:=hq
  obtain ⟨i,d,z,ht⟩:=cj hap hti
  have ha:=hρ a (by simp)
  have hx:=hρ x (by simp)
  generalize cρ a=ca at ha ⊢
  generalize cρ x=cx at hx ⊢
  obtain ⟨rfl,m',w',h1,h2,h3⟩:=Ab hS hrd ht ha hx h hbs
  exact ⟨.skip,m',w',by simp [h1],h2,h3,.inr ⟨rfl,rfl⟩⟩
 ·
  rename_i t r
  split at h
  ·cases h
   obtain ⟨cv,m',w',h1,h2,h3,h4⟩:=xh (P:=P) hS hn t
   exact ⟨.value cv,m',w',by simp [h1],h2,h3,.inl ⟨cv,rfl,h4⟩⟩
  ·cases h
 ·
  rename_i t x k ok
  have hq:=bind_some h;clear h;obtain ⟨ti,hti,h⟩:=hq
  obtain ⟨i,d,z,ht⟩:=cj hap hti
  exact eK.pur hS (xg hap hS hrd ht (hρ x (by simp)) (hρ k (by simp)) h hbs)
 ·
  rename_i t x k v
  have hq:=bind_some h;clear h;obtain ⟨ti,hti,h⟩:=hq
  obtain ⟨i,d,z,ht⟩:=cj hap hti
  obtain ⟨rfl,m',w',h1,h2,h3⟩:=oq hap hS hrd ht (hρ x (by simp)) (hρ k (by simp)) (hρ v (by simp)) h hbs
  exact ⟨.skip,m',w',by simp [h1],h2,h3,.inr ⟨rfl,rfl⟩⟩
 ·
  rename_i t x k v
  have hq:=bind_some h;clear h;obtain ⟨ti,hti,h⟩:=hq
  obtain ⟨i,d,z,ht⟩:=cj hap hti
  obtain ⟨rfl,m',w',h1,h2,h3⟩:=oq hap hS hrd ht (hρ x (by simp)) (hρ k (by simp)) (hρ v (by simp)) h hbs
  exact ⟨.skip,m',w',by simp [h1],h2,h3,.inr ⟨rfl,rfl⟩⟩
 ·
  rename_i x
  have hx:=hρ x (by simp)
  split at h
  ·rename_i b ver off e
   rw [e] at hx
   obtain ⟨rfl,rfl,rfl⟩:=aH h
   have hx':=hx
   simp only [VR] at hx'
   obtain ⟨_,_,_,⟨k,o,hv⟩,_⟩:=hx'
   exact eK.val hS (cv:=cρ x) (by rw [hv];simp) hx
  ·rename_i xs off e
   rw [e] at hx
   obtain ⟨rfl,rfl,rfl⟩:=aH h
   have hx':=hx
   simp only [VR,PR] at hx'
   obtain ⟨_,_,_,hv,_⟩:=hx'
   exact eK.val hS (cv:=cρ x) (by rw [hv];simp) hx
  ·rename_i f a c e
   rw [e] at hx
   obtain ⟨rfl,rfl,rfl⟩:=aH h
   have hx':=hx
   simp only [VR] at hx'
   obtain ⟨_,_,hv,_⟩:=hx'
   exact eK.val hS (cv:=cρ x) (by rw [hv];simp) hx
  ·cases h
 ·
  rename_i op t x y _
  have hq:=bind_some h;clear h;obtain ⟨ti,hti,h⟩:=hq
  exact eK.pur hS (CB hap hti (hρ x (by simp)) (hρ y (by simp)) h hbs x y)
 ·
  exact eK.pur hS (Gz (hρ _ (by simp)) h)
 ·
  rename_i s d x
  have hq:=bind_some h;clear h;obtain ⟨ts,hts,h⟩:=hq
  have hq:=bind_some h;clear h;obtain ⟨td,htd,h⟩:=hq
  exact eK.pur hS (uw hap hS hrd hts htd (hρ x (by simp)) h hbs)
 ·
  rename_i t x
  have hq:=bind_some h;clear h;obtain ⟨ti,hti,h⟩:=hq
  split at h
  ·cases h
  ·rename_i hd
   obtain ⟨rfl,rfl,rfl⟩:=aH h
   refine eK.pur hS ⟨rfl,.iface t (cρ x),run_makeInterface w t _ (AK hap hti hd), ?_⟩
   simp only [VR]
   exact ⟨_,rfl,hρ x (by simp)⟩
 ·
  rename_i f first cap
  obtain ⟨rfl,rfl,rfl⟩:=aH h
  refine eK.pur hS ⟨rfl,.func (.func f) (first.map cρ) (cap.map cρ),by simp [Instr.makeFunc], ?_⟩
  simp only [VR]
  refine ⟨(first.map cρ).toList,(cap.map cρ).toList,by rw [Array.toArray_toList,Array.toArray_toList], ?_, ?_⟩
  ·rw [Array.toList_map];exact mX _ fun x hx=>hρ x (by simp at hx ⊢;exact .inl hx)
  ·rw [Array.toList_map];exact mX _ fun x hx=>hρ x (by simp at hx ⊢;exact .inr hx)
 ·
  rename_i t l c
  have hq:=bind_some h;clear h;obtain ⟨ti,hti,h⟩:=hq
  obtain ⟨i,d,z,ht⟩:=cj hap hti
  exact eK.full (rl hap hS hn ht (hρ l (by simp)) (hρ c (by simp)) h hbs)
 ·
  rename_i t x lo hi mx
  have hq:=bind_some h;clear h;obtain ⟨ti,hti,h⟩:=hq
  obtain ⟨i,d,z,ht⟩:=cj hap hti
  exact eK.pur hS (z_ hap hrd ht (hρ x (by simp)) (tW lo fun o ho=>hρ o (by simp at ho;simp [ho])) (tW hi fun o ho=>hρ o (by simp at ho;simp [ho])) (tW mx fun o ho=>hρ o (by simp at ho;simp [ho])) h hbs)
 ·
  rename_i s x f
  have hq:=bind_some h;clear h;obtain ⟨ti,hti,h⟩:=hq
  obtain ⟨i,d,z,ht⟩:=cj hap hti
  split at h
  ·rename_i fs hd
   have hq:=bind_some h;clear h;obtain ⟨⟨o,ft,sz⟩,hf,h⟩:=hq
   simp only at h
   split at h
   ·rename_i hsz
    have hq:=bind_some h;clear h;obtain ⟨p,hp,h⟩:=hq
    obtain ⟨rfl,rfl,rfl⟩:=aH h
    exact eK.pur hS ⟨rfl,sM ht hd hf hsz (hρ x (by simp)) hp⟩
   ·cases h
  ·cases h
 ·
  rename_i t x f
  have hq:=bind_some h;clear h;obtain ⟨ti,hti,h⟩:=hq
  obtain ⟨i,d,z,ht⟩:=cj hap hti
  exact eK.pur hS (zn hap ht (hρ x (by simp)) h hbs)
 ·
  rename_i t x ix
  have hq:=bind_some h;clear h;obtain ⟨ti,hti,h⟩:=hq
  obtain ⟨i,d,z,ht⟩:=cj hap hti
  exact eK.pur hS (qV hap hrd ht (hρ x (by simp)) (hρ ix (by simp)) h hbs)
 ·
  rename_i t x ix
  have hq:=bind_some h;clear h;obtain ⟨ti,hti,h⟩:=hq
  obtain ⟨i,d,z,ht⟩:=cj hap hti
  exact eK.pur hS (zw hap ht (hρ x (by simp)) (hρ ix (by simp)) h hbs)
 ·
  exact eK.pur hS (xc hap (hρ _ (by simp)) h _)
 ·
  rename_i t i
  have ht:=hρ t (by simp)
  split at h
  ·rename_i l e
   rw [e] at ht
   have hq:=bind_some h;clear h;obtain ⟨x,hx,h⟩:=hq
   obtain ⟨rfl,rfl,rfl⟩:=aH h
   simp only [VR] at ht
   obtain ⟨vs,hv,hl⟩:=ht
   obtain ⟨cv,h1,h2⟩:=kP hl i hx
   refine eK.pur hS ⟨rfl,cv, ?_,h2⟩
   rw [hv]
   simp [Instr.extract,h1]
  ·cases h
 ·
  rename_i b args ats
  simp only [Call.operands] at hρ
  have hargs:∀ x ∈ args,VR g m S (ρ x) (cρ x):=fun x hx=>hρ x (by simp [hx])
  split at h
  ·have hq:=bind_some h;clear h;obtain ⟨x,hx,h⟩:=hq
   have hq:=bind_some h;clear h;obtain ⟨t,hat,h⟩:=hq
   have hq:=bind_some h;clear h;obtain ⟨ti,hti,h⟩:=hq
   obtain ⟨i,d,z,ht⟩:=cj hap hti
   obtain ⟨hu,cv,h1,h2⟩:=Di (P:=P) (w:=w) (hargs x (Array.mem_of_getElem? hx)) ht h ats hat (args.map cρ) (by simp [hx]) o.type
   subst hu
   exact eK.val hS (cv:=cv) (by simp [resolve,invoke,builtin,h1]) h2
  ·split at h
   ·rename_i s x t t1 ha hat
    have hargs':args=#[s,x]:=by apply Array.ext';simpa using ha
    have hats':ats=#[t,t1]:=by apply Array.ext';simpa using hat
    subst hargs';subst hats'
    have hq:=bind_some h;clear h;obtain ⟨ti,hti,h⟩:=hq
    have hq:=bind_some h;clear h;obtain ⟨ti1,hti1,h⟩:=hq
    obtain ⟨i,d,z,ht⟩:=cj hap hti
    obtain ⟨i1,d1,z1,ht1⟩:=cj hap hti1
    have hs:=hargs s (by simp)
    have hx:=hargs x (by simp)
    have hem':ρ s= .nilS→∃ n,oH (ρ x)=some n∧Nat.beq n 0=em:=by
     intro e
     cases hc:oH (ρ x) with
     | none=>
      exfalso
      split at h
      ·rename_i hx';rw [hx'] at hc;simp [oH] at hc
      ·cases h
      ·rename_i y hy1 _ hy2 hy3
       have hq:=bind_some h;clear h;obtain ⟨te,hte,h⟩:=hq
       unfold pF at h
       have hq:=bind_some h;clear h;obtain ⟨⟨xs,n,pr⟩,hsrc,h⟩:=hq
       cases hxx:ρ x<;>simp [hxx,oH] at hc<;>simp [hxx,BQ] at hsrc
      ·cases h
     |some n=>exact ⟨n,rfl,hem n (by simp [pY,e,hc])⟩
    split at h
    ·rename_i e y hd hd1 hy
     have hq:=bind_some h;clear h;obtain ⟨te,hte,h⟩:=hq
     obtain ⟨ie,de,ze,hte'⟩:=cj hap hte
     split at h
     ·rename_i h1
      rw [ht.d_eq] at hd
      rw [ht1.d_eq] at hd1
      have hd:=dO hd
      have hd1:=pg hd1
      subst hd;subst hd1
      obtain ⟨cv,m',w',r1,r2,r3,r4⟩:=nV (P:=P) hS hrd hn ht hte' hs hx (tx:=t1) (.inl ⟨⟨y,hy⟩,ht1.und,ax h1⟩) hem' (by rw [hy];exact h) hbs o.type
      exact ⟨.value cv,m',w',by simp [resolve,invoke,builtin,r1],r2,r3,.inl ⟨cv,rfl,r4⟩⟩
     ·cases h
    ·cases h
    ·rename_i e e1 hd hd1 hns
     have hq:=bind_some h;clear h;obtain ⟨te,hte,h⟩:=hq
     obtain ⟨ie,de,ze,hte'⟩:=cj hap hte
     rw [ht.d_eq] at hd
     rw [ht1.d_eq] at hd1
     have hd:=dO hd
     have hd1:=dO hd1
     subst hd;subst hd1
     obtain ⟨cv,m',w',r1,r2,r3,r4⟩:=nV (P:=P) hS hrd hn ht hte' hs hx (tx:=t1) (.inr ⟨fun s e=>hns s e,_,ht1.und⟩) hem' h hbs o.type
     exact ⟨.value cv,m',w',by simp [resolve,invoke,builtin,r1],r2,r3,.inl ⟨cv,rfl,r4⟩⟩
    ·cases h
   ·cases h
  ·have hq:=bind_some h;clear h;obtain ⟨r,hr,h⟩:=hq
   obtain ⟨rfl,rfl,rfl⟩:=aH h
   obtain ⟨cv,h1,h2⟩:=FV (P:=P) (w:=w) (mX args.toList fun x hx=>hargs x (Array.mem_toList_iff.1 hx)) hr ats o.type
   refine eK.val hS (cv:=cv) ?_ h2
   have:(List.map cρ args.toList).toArray=args.map cρ:=by apply Array.ext';rw [List.toList_toArray,Array.toList_map]
   rw [this] at h1
   simp [resolve,invoke,builtin,h1]
  ·have hq:=bind_some h;clear h;obtain ⟨r,hr,h⟩:=hq
   obtain ⟨rfl,rfl,rfl⟩:=aH h
   obtain ⟨cv,h1,h2⟩:=FT (P:=P) (w:=w) (mX args.toList fun x hx=>hargs x (Array.mem_toList_iff.1 hx)) hr ats o.type
   refine eK.val hS (cv:=cv) ?_ h2
   have:(List.map cρ args.toList).toArray=args.map cρ:=by apply Array.ext';rw [List.toList_toArray,Array.toList_map]
   rw [this] at h1
   simp [resolve,invoke,builtin,h1]
  ·cases h
 ·cases h
end
end AM
namespace AM
open Go
structure Cx.Ok (c:Cx):Prop where
 bs:∀ b ∈ c.bs,b=true
 ps:∀ p ∈ c.ps,p
theorem R.bind_ok {α β:Type} {r:R α} {f:α→Cx→R β} {b:β} {c:Cx} (h:r.bind f= .ok b c):∃ a c1,r= .ok a c1∧f a c1= .ok b c:=by
 cases r with
 |ok a c1=>exact ⟨a,c1,rfl,h⟩
 |need=>simp [R.bind] at h
 |bad n=>simp [R.bind] at h
theorem zi {c c':Cx} {bs:List Bool} {u:Unit} (h:KX c bs= .ok u c') (hc:c'.Ok):c.Ok∧∀ b ∈ bs,b=true:=by
 unfold KX at h
 split at h
 ·split at h
  ·rename_i hb
   cases h
   exact ⟨hc,fun b hb'=>by simpa using List.all_eq_true.1 hb b hb'⟩
  ·cases h
 ·cases h
  exact ⟨⟨fun b hb=>hc.bs b (by simp [hb]),hc.ps⟩,fun b hb=>hc.bs b (by simp [hb])⟩
theorem gG {c c':Cx} {b b':Bool} (h:qM c b= .ok b' c') (hc:c'.Ok):c.Ok∧b'=b:=by
 unfold qM at h
 split at h
 ·cases h;exact ⟨hc,rfl⟩
 ·split at h
  ·cases h
  ·rename_i o r _
   cases h
   have h1:=hc.bs (lit b' b) (by simp)
   refine ⟨⟨fun x hx=>hc.bs x (by simp [hx]),hc.ps⟩, ?_⟩
   cases b'<;>cases b<;>simp [lit] at h1 ⊢
theorem eF {l:List Nat} {a:Nat}:jN l a=true↔a ∈ l:=by
 simp only [jN,List.any_eq_true]
 constructor
 ·rintro ⟨x,hx,h⟩;exact ax h ▸ hx
 ·intro h;exact ⟨a,h,Nat.beq_refl a⟩
theorem eS {α β:Type} {f:α→Option β}:∀ {l:List α} {l':List β},fZ f l=some l'→l'.length=l.length∧∀ (i:Nat) x,l[i]? =some x→∃ y,l'[i]? =some y∧f x=some y
 | [],l',h=>by simp [fZ] at h;subst h;simp
 | a::r,l',h=>by
  simp only [fZ] at h
  split at h
  ·rename_i y hy
   split at h
   ·rename_i q hq
    cases h
    obtain ⟨h1,h2⟩:=eS hq
    refine ⟨by simp [h1], ?_⟩
    intro i x hx
    cases i with
    |zero=>simp at hx;subst hx;exact ⟨y,by simp,hy⟩
    |succ i=>simpa using h2 i x (by simpa using hx)
   ·cases h
  ·cases h
section
variable {P:Program} {ap:AP} {g:bL} {m:aN} {S:aJ} {w:World}
noncomputable def bO (S:aJ) (m:aN) (rd:bL) (w:World):aJ:=fun k o=>
 match S k o with
 |some v=>some v
 |none=>open Classical in if ∃ b B,rd b=some B∧(m b).1=k∧o<B.cells.length then bQ w k o else none
theorem iJ (S:aJ) (m:aN) (rd:bL) (w:World):iC S (bO S m rd w):=by
 intro k o v h;simp [bO,h]
theorem dh {rd:bL} {k o:Nat} {v:Value} (h:bO S m rd w k o=some v):S k o=some v∨(bQ w k o=some v∧∃ b B,rd b=some B∧(m b).1=k∧o<B.cells.length):=by
 unfold bO at h
 split at h
 ·rename_i v' hv;cases h;exact .inl hv
 ·rename_i hS
  split at h
  ·rename_i hh;exact .inr ⟨h,hh⟩
  ·cases h
theorem jF (hS:br ap g m S w) {rd:bL} {k o:Nat} {v:Value} (h:bO S m rd w k o=some v):bQ w k o=some v:=by
 rcases dh h with h|h
 ·exact hS.sealed _ _ _ h
 ·exact h.1
theorem Gh (hS:br ap g m S w) {rd:bL} {b:Nat} {B:aL} (hb:rd b=some B) {o:Nat} (ho:o<B.cells.length) {v:Value} (hv:bQ w (m b).1 o=some v):bO S m rd w (m b).1 o=some v:=by
 unfold bO
 split
 ·rename_i v' h'
  have:=hS.sealed _ _ _ h'
  rw [hv] at this;cases this;rfl
 ·rw [if_pos ⟨b,B,hb,rfl,ho⟩];exact hv
theorem ww (hS:br ap g m S w) {rd:bL} (hrd:∀ b B,rd b=some B→g b=some B) {b:Nat} {B:aL} (hb:rd b=some B):
  ∃ vs,aQ g m S B.cells vs∧(B.pr=true→bP S B.cells vs)∧(∀ j u,vs[j]? =some u→bO S m rd w (m b).1 j=some u)∧vs.length=B.cells.length∧(B.esz ≠ eD→∀ u ∈ vs,u.oneCell'=true):=by
 obtain ⟨⟨cur,e,vs,rest,h1,h2,h3,h4,h5,h6⟩,_,_⟩:=hS.blk b B (hrd b B hb)
 refine ⟨vs,h4,h3, ?_,(bw h4).symm,h5⟩
 intro j u hj
 have hjl:=(List.getElem?_eq_some_iff.1 hj).1
 refine Gh hS hb (by rw [bw h4];exact hjl) ?_
 exact h1.get (by rw [h2,List.getElem?_append_left hjl];exact hj) (fun hz=>h5 hz u (List.mem_of_getElem? hj))
theorem qy (hS:br ap g m S w) {rd:bL} (hrd:∀ b B,rd b=some B→g b=some B) {b:Nat} {B:aL} (hb:rd b=some B) (hz:B.esz ≠ eD):
  ∃ vs,aQ g m S B.cells vs∧(B.pr=true→bP S B.cells vs)∧gj (bO S m rd w) (m b).1 0 vs∧vs.length=B.cells.length:=by
 obtain ⟨vs,h1,h2,h3,h4,h5⟩:=ww hS hrd hb
 refine ⟨vs,h1,h2,fun j u hj=> ?_,h4⟩
 rw [Nat.zero_add]
 exact ⟨h3 j u hj,h5 hz u (List.mem_of_getElem? hj)⟩
theorem ye {S':aJ} {l:List AV} {y:AV} {vs:List Value} {k:Nat} (h:LJ l=some y) (hl:bP S' l vs) (hs:∀ j u,vs[j]? =some u→S' k j=some u):PR S' y (.map (some k)):=by
 unfold LJ at h
 split at h
 ·rename_i ks ws
  cases h
  match vs,hl with
  | [v0,v1],hl=>
   simp only [bP,PR,and_true] at hl
   obtain ⟨⟨kk,rfl,p1⟩,vv,rfl,p2⟩:=hl
   simp only [PR]
   exact .inr ⟨k,kk,vv,rfl,hs 0 _ rfl,hs 1 _ rfl,p1,p2⟩
  | [],hl=>simp [bP] at hl
  | [_],hl=>simp [bP] at hl
  |_::_::_::_,hl=>simp [bP] at hl
 ·cases h
theorem lU {S':aJ} {f:AV→Option AV} (hf:∀ x v y,f x=some y→VR g m S x v→PR S' y v):∀ {l l':List AV} {vs:List Value},fZ f l=some l'→aQ g m S l vs→bP S' l' vs
 | [],l',[],h,_=>by simp [fZ] at h;subst h;simp [bP]
 | x::r,l',v::vs,h,hv=>by
  simp only [fZ] at h
  simp only [aQ] at hv
  split at h
  ·rename_i y hy
   split at h
   ·rename_i q hq
    cases h
    simp only [bP]
    exact ⟨hf x v y hy hv.1,lU hf hq hv.2⟩
   ·cases h
  ·cases h
 | [],_,_::_,_,h=>by simp [aQ] at h
 |_::_,_,[],_,h=>by simp [aQ] at h
theorem gH (hS:br ap g m S w) {rd:bL} (hrd:∀ b B,rd b=some B→g b=some B):∀ (fuel:Nat) (x:AV) (v:Value) (y:AV),frz rd fuel x=some y→VR g m S x v→PR (bO S m rd w) y v:=by
 intro fuel
 induction fuel with
 |zero=>intro x v y h;simp [frz] at h
 | succ fuel ih=>
  intro x v y h hv
  have hle:=iJ S m rd w
  have hlist:∀ {l l':List AV} {vs:List Value},fZ (frz rd fuel) l=some l'→aQ g m S l vs→bP (bO S m rd w) l' vs:=fun h1 h2=>lU (fun x v y hx hv=>ih x v y hx hv) h1 h2
  unfold frz at h
  simp only at h
  split at h
  ·
   rename_i b ver i n
   have hq:=bind_some h;clear h;obtain ⟨B,hB,h⟩:=hq
   split at h
   ·rename_i hver
    simp only [VR] at hv
    obtain ⟨B',hB',_,_,q⟩:=hv
    rw [hrd b B hB] at hB';cases hB'
    obtain ⟨o,rfl,hcap,ho,hpos,hnz⟩:=q (ax hver)
    obtain ⟨vs,h1,h2,h3,h4⟩:=qy hS hrd hB hnz
    have hpart:gj (bO S m rd w) (m b).1 o ((vs.drop (i*B.esz)).take (n*B.esz)):=by
     by_cases hi:i<(m b).2
     ·rw [ho hi]
      have:=(h3.drop (i*B.esz)).take (n*B.esz)
      rwa [Nat.zero_add] at this
     ·have hn:n=0:=by omega
      subst hn
      intro j u hj
      simp at hj
    have hfin:∀ l,bP (bO S m rd w) l ((vs.drop (i*B.esz)).take (n*B.esz))→PR (bO S m rd w) (.sl l n true) (.slice (some ⟨(m b).1,o,none⟩) n ((m b).2 - i)):=by
     intro l hl
     simp only [PR]
     exact ⟨_,_,rfl,by omega,.inr ⟨_,_,_,rfl,hl,hpart⟩⟩
    split at h
    ·rename_i hpr
     cases h
     exact hfin _ (gi _ (jV _ (aX hle _ (h2 hpr))))
    ·simp only [Option.map_eq_some_iff] at h
     obtain ⟨l,hl,rfl⟩:=h
     exact hfin _ (hlist hl (jX _ (lV _ h1)))
   ·cases h
  ·
   rename_i b ver off
   have hq:=bind_some h;clear h;obtain ⟨B,hB,h⟩:=hq
   split at h
   ·rename_i hver
    simp only [Bool.and_eq_true,Bool.not_eq_true'] at hver
    have hnz:B.esz ≠ eD:=fun e=>by rw [e] at hver;exact absurd hver.2 (by decide)
    simp only [VR] at hv
    obtain ⟨B',hB',_,_,q⟩:=hv
    rw [hrd b B hB] at hB';cases hB'
    have q:=q (ax hver.1)
    subst q
    obtain ⟨vs,h1,h2,h3,h4⟩:=qy hS hrd hB hnz
    have hfin:∀ l,bP (bO S m rd w) l vs→PR (bO S m rd w) (.pp l off) (.pointer (some ⟨(m b).1,off,none⟩)):=by
     intro l hl
     simp only [PR]
     exact ⟨_,0,_,by rw [Nat.zero_add],hl,h3⟩
    split at h
    ·rename_i hpr
     cases h
     exact hfin _ (aX hle _ (h2 hpr))
    ·simp only [Option.map_eq_some_iff] at h
     obtain ⟨l,hl,rfl⟩:=h
     exact hfin _ (hlist hl h1)
   ·cases h
  ·
   rename_i b ver
   have hq:=bind_some h;clear h;obtain ⟨B,hB,h⟩:=hq
   split at h
   ·rename_i hver
    simp only [Bool.and_eq_true] at hver
    simp only [VR] at hv
    obtain ⟨B',hB',_,_,q⟩:=hv
    rw [hrd b B hB] at hB';cases hB'
    have q:=q (ax hver.1)
    subst q
    obtain ⟨vs,h1,h2,h3,h4,_⟩:=ww hS hrd hB
    split at h
    ·rename_i hpr
     exact ye h (aX hle _ (h2 hpr)) h3
    ·have hq:=bind_some h;clear h;obtain ⟨l,hl,h⟩:=hq
     exact ye h (hlist hl h1) h3
   ·cases h
  ·simp only [Option.map_eq_some_iff] at h
   obtain ⟨l,hl,rfl⟩:=h
   simp only [VR] at hv
   obtain ⟨vs,e,q⟩:=hv
   simp only [PR]
   exact ⟨vs,e,hlist hl q⟩
  ·simp only [Option.map_eq_some_iff] at h
   obtain ⟨l,hl,rfl⟩:=h
   simp only [VR] at hv
   obtain ⟨vs,e,q⟩:=hv
   simp only [PR]
   exact ⟨vs,e,hlist hl q⟩
  ·have hq:=bind_some h;clear h;obtain ⟨a,ha,h⟩:=hq
   simp only [Option.map_eq_some_iff] at h
   obtain ⟨c,hc,rfl⟩:=h
   simp only [VR] at hv
   obtain ⟨va,vc,e,q,r⟩:=hv
   simp only [PR]
   exact ⟨va,vc,e,hlist ha q,hlist hc r⟩
  ·simp only [Option.map_eq_some_iff] at h
   obtain ⟨u,hu,rfl⟩:=h
   simp only [VR] at hv
   obtain ⟨cu,e,q⟩:=hv
   simp only [PR]
   exact ⟨cu,e,ih _ _ _ hu q⟩
  ·cases h
  ·rename_i n1 n2 n8 n3 n4 n5 n6 n7
   cases h
   refine bF hle _ ?_
   cases x<;>first
    |exact absurd rfl (n1 _ _ _ _)
    |exact absurd rfl (n2 _ _ _)
    |exact absurd rfl (n8 _ _)
    |exact absurd rfl (n3 _)
    |exact absurd rfl (n4 _)
    |exact absurd rfl (n5 _ _ _)
    |exact absurd rfl (n6 _ _)
    |exact absurd rfl (n7 _ _ _)
    |(simp only [VR] at hv;exact hv)
    |(simp only [PR])
end
end AM
