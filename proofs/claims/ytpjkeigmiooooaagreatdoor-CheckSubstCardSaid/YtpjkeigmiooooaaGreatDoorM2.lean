/- The abstract machine over the code of the model, and the proof that it is sound. No conditions. -/
import Derived.Test.YtpjkeigmiooooaaGreatDoorM1
import Derived.Laws.BytesString
import Derived.Laws.MakeOwn
import Derived.Laws.OwnMore
set_option linter.unusedSimpArgs false
set_option linter.unusedVariables false
namespace AM
open Go
section
variable {P:Program} {ap:AP} {g:bX} {m:aX} {S:aS} {w:World}
theorem qO {x:AV} {v:Value} (h:VR g m S x v) (hl:∀ y ∈ x.cells,ia y=true):bn g m S x.cells v.cells.toList∧∀ u ∈ v.cells,u.oneCell'=true:=by
 cases x
 case agg l=>
  simp only [VR] at h
  obtain ⟨vs,rfl,h⟩:=h
  refine ⟨by simpa [Value.cells,AV.cells] using h, ?_⟩
  intro u hu
  simp only [Value.cells] at hu
  simp only [AV.cells] at hl
  have:∀ (l:List AV) (vs:List Value),bn g m S l vs→(∀ y ∈ l,ia y=true)→∀ u ∈ vs,u.oneCell'=true:=by
   intro l
   induction l with
   |nil=>intro vs hv _ u hu;cases vs<;>simp [bn] at hv hu
   | cons a r ih=>
    intro vs hv hl u hu
    cases vs with
    |nil=>simp [bn] at hv
    |cons b q=>
     simp only [bn] at hv
     rcases List.mem_cons.1 hu with rfl|hu
     ·exact yo hv.1 (hl a (by simp))
     ·exact ih q hv.2 (fun y hy=>hl y (by simp [hy])) u hu
  exact this l vs h hl u (by simpa using hu)
 all_goals
  have hone:=yo h (hl _ (by simp [AV.cells]))
  have hc:v.cells=#[v]:=by cases v<;>simp [Value.cells,Value.oneCell'] at hone ⊢
  rw [hc]
  refine ⟨by simp only [AV.cells,bn];exact ⟨h,trivial⟩,by simpa using hone⟩
theorem ur:∀ (vs:List Value) (i off:Nat) (cs:Array Value),off+i+vs.length≤cs.size→
  ((vs.zipIdx i).foldl (fun (cs:Array Value) (p:Value × Nat)=>cs.setIfInBounds (off+p.2) p.1) cs).toList=cs.toList.take (off+i)++vs++cs.toList.drop (off+i+vs.length)
 | [],i,off,cs,_=>by simp
 | v::vs,i,off,cs,h=>by
  simp only [List.length_cons] at h
  simp only [List.zipIdx_cons,List.foldl_cons]
  rw [ur vs (i+1) off (cs.setIfInBounds (off+i) v) (by simp;omega)]
  have hlt:off+i<cs.toList.length:=by simp;omega
  simp only [Array.toList_setIfInBounds]
  rw [show off+(i+1)=off+i+1 from by omega,List.set_eq_take_append_cons_drop,if_pos hlt]
  have e1:(cs.toList.take (off+i)++v::cs.toList.drop (off+i+1)).take (off+i+1)=cs.toList.take (off+i)++ [v]:=by
   rw [List.take_append]
   have e0:off+i+1 - (cs.toList.take (off+i)).length=1:=by simp [List.length_take];omega
   rw [e0]
   simp [List.take_take]
  have e2:(cs.toList.take (off+i)++v::cs.toList.drop (off+i+1)).drop (off+i+1+vs.length)=cs.toList.drop (off+i+(v::vs).length):=by
   rw [List.drop_append]
   have:(cs.toList.take (off+i)).length=off+i:=by simp [List.length_take];omega
   rw [this,List.drop_eq_nil_of_le (by rw [this];omega),List.nil_append,show off+i+1+vs.length - (off+i)=vs.length+1 from by omega,List.drop_succ_cons,List.drop_drop]
   congr 1
   simp;omega
  rw [e1,e2]
  simp
theorem zW {xs vs:List AV} {cs us:List Value} {off:Nat} (h:bn g m S xs cs) (h':bn g m S vs us):bn g m S (dO xs off vs) (cs.take off++us++cs.drop (off+us.length)):=by
 unfold dO
 rw [← bz h']
 exact dW (dW (jd _ h) h') (kw _ h)
theorem FN {xs vs:List AV} {cs us:List Value} {off:Nat} (h:cZ S xs cs) (h':cZ S vs us):cZ S (dO xs off vs) (cs.take off++us++cs.drop (off+us.length)):=by
 unfold dO
 rw [← lX h']
 exact gU (gU (fu _ h) h') (jc _ h)
def gW (g:bX) (m:aX) (S:aS) (place:Nat→Option (Nat × Nat)):List (Nat × Nat × AV)→List (Nat × Value)→Prop
 | [],[]=>True
 |(off,size,v)::r,(i,c)::q=>place i=some (off,size)∧VR g m S v c∧gW g m S place r q
 |_,_=>False
theorem iO {place:Nat→Option (Nat × Nat)}:∀ (ps:List (Nat × Nat × AV)) (qs:List (Nat × Value)) (cells cells':List AV) (cs:Array Value),gW g m S place ps qs→bn g m S cells cs.toList→lQ cells ps=some cells'→
  ∃ cs',Instr.fill place cs qs=some cs'∧bn g m S cells' cs'.toList∧cs'.size=cs.size
 | [],[],cells,cells',cs,_,hv,h=>by simp [lQ] at h;subst h;exact ⟨cs,rfl,hv,rfl⟩
 | (off,size,v)::r,(i,c)::q,cells,cells',cs,hp,hv,h=>by
  simp only [gW] at hp
  simp only [lQ] at h
  split at h
  ·rename_i hc
   simp only [Bool.and_eq_true] at hc
   obtain ⟨⟨c1,c2⟩,c3⟩:=hc
   obtain ⟨h1,h2⟩:=qO hp.2.1 (fun y hy=>List.all_eq_true.1 c3 y hy)
   have hl:=bz h1
   have hl':=bz hv
   have c1:=aL c1
   have c2:=dw c2
   have hsz:c.cells.size=size:=by simp only [Array.length_toList] at hl;omega
   have hle:off+c.cells.size≤cs.size:=by simp only [Array.length_toList] at hl';omega
   have hf:=ur c.cells.toList 0 off cs (by simpa using hle)
   have hv':bn g m S (dO cells off v.cells) ((c.cells.zipIdx.foldl (fun (cs:Array Value) (p:Value × Nat)=>cs.setIfInBounds (off+p.2) p.1) cs)).toList:=by
    rw [← Array.foldl_toList,Array.toList_zipIdx,hf]
    simp only [Nat.add_zero]
    exact zW hv h1
   obtain ⟨cs',e,e2,e3⟩:=iO r q _ cells' _ hp.2.2 hv' h
   refine ⟨cs', ?_,e2, ?_⟩
   ·simp only [Instr.fill,hp.1]
    rw [if_neg (by simp;omega)]
    exact e
   ·rw [e3,← Array.length_toList,← Array.foldl_toList,Array.toList_zipIdx,hf]
    simp
    omega
  ·cases h
 | [],_::_,_,_,_,hp,_,_=>by simp [gW] at hp
 |_::_,[],_,_,_,hp,_,_=>by simp [gW] at hp
theorem je {t:Nat} {ti:TI} {i:TypeInfo} {d:TypeDesc} {z:Value} (ht:tV P t ti i d z):bn g m S ti.zero z.cells.toList:=by
 rw [ht.zcells];exact bH _ (lJ S _)
def mO (g:bX) (m:aX) (S:aS):List (Nat × AV)→List (Nat × Value)→Prop
 | [],[]=>True
 |(i,v)::r,(j,c)::q=>i=j∧VR g m S v c∧mO g m S r q
 |_,_=>False
theorem jS {size:Nat}:∀ {ps:List (Nat × AV)} {qs:List (Nat × Value)},mO g m S ps qs→gW g m S (fun i=>some (i*size,size)) (ps.map fun (i,v)=>(i*size,size,v)) qs
 | [],[],_=>by simp [gW]
 |(i,v)::r,(j,c)::q,h=>by
  simp only [mO] at h
  obtain ⟨rfl,h1,h2⟩:=h
  simp only [List.map_cons,gW]
  exact ⟨trivial,h1,jS h2⟩
 | [],_::_,h=>by simp [mO] at h
 |_::_,[],h=>by simp [mO] at h
theorem pA {fs:List (Nat × Nat × Nat)} {place:Nat→Option (Nat × Nat)} (hp:∀ i x,fs[i]? =some x→place i=some (x.1,x.2.2)):∀ {ps:List (Nat × AV)} {qs:List (Nat × Value)} {rs:List (Nat × Nat × AV)},mO g m S ps qs→
  fj (fun (q:Nat × AV)=>(fs[q.1]?).map fun (x:Nat × Nat × Nat)=>(x.1,x.2.2,q.2)) ps=some rs→gW g m S place rs qs
 | [],[],rs,_,h=>by simp [fj] at h;subst h;simp [gW]
 | (i,v)::r,(j,c)::q,rs,hn,h=>by
  simp only [mO] at hn
  obtain ⟨rfl,h1,h2⟩:=hn
  simp only [fj] at h
  cases hf:fs[i]? with
  |none=>simp [hf] at h
  | some x=>
   simp only [hf,Option.map_some] at h
   split at h
   ·rename_i l hl
    cases h
    simp only [gW]
    exact ⟨hp i x hf,h1,pA hp h2 hl⟩
   ·cases h
 | [],_::_,_,h,_=>by simp [mO] at h
 |_::_,[],_,h,_=>by simp [mO] at h
theorem pz:∀ (fields:List Field),(∀ f ∈ fields,(P.info? f.type).isSome)→fields.mapM (fun f=>(P.info? f.type).map fun i=>(f.offset,i.size))=some (fields.map fun f=>(f.offset,match P.info? f.type with|some i=>i.size|none=>0))
 | [],_=>rfl
 | f::r,h=>by
  cases hi:P.info? f.type with
  |none=>have:=h f (by simp);simp [hi] at this
  |some i=>
   simp [List.mapM_cons,hi,pz r (fun f hf=>h f (by simp [hf]))]
theorem uU (hap:eJ P ap) {t:Nat} {ti:TI} {i:TypeInfo} {d:TypeDesc} {z:Value} (ht:tV P t ti i d z) {ps:List (Nat × AV)} {qs:Array (Nat × Value)} (hn:mO g m S ps qs.toList) {v:AV} {ups:List (Nat × a_)} {bs:List Bool}
  (h:yA ap ti ps=some (v,ups,bs)):ups= []∧∃ cv,(Instr.build t qs).run P w= .ok cv w∧VR g m S v cv:=by
 unfold yA at h
 split at h
 ·rename_i fs hd
  have hq:=bind_some h;clear h;obtain ⟨rs,hrs,h⟩:=hq
  have hq:=bind_some h;clear h;obtain ⟨cs,hcs,h⟩:=hq
  obtain ⟨rfl,rfl,rfl⟩:=aN h
  rw [ht.d_eq] at hd
  obtain ⟨fields,rfl,rfl⟩:=lz hd
  by_cases hall:∀ f ∈ fields.toList,(P.info? f.type).isSome
  ·have hpl:=pz fields.toList hall
   have hpr:=pA (place:=((fields.toList.map fun f=>(f.offset,match P.info? f.type with|some i=>i.size|none=>0)).toArray[·]?)) (by
    intro i x hx
    simp only [List.getElem?_map,Option.map_eq_some_iff] at hx
    obtain ⟨f,hf,rfl⟩:=hx
    simp [hf]
    rfl) hn hrs
   obtain ⟨cs',e1,e2,_⟩:=iO rs qs.toList ti.zero cs z.cells hpr (je ht) hcs
   refine ⟨rfl,.agg cs',run_build w t qs cs' ?_, ?_⟩
   ·simp only [Program.built,ht.info,ht.und,ht.zero]
    rw [hpl]
    exact e1
   ·simp only [VR];exact ⟨cs'.toList,by simp,e2⟩
  ·exfalso
   apply hall
   intro f hf
   have:=ht.fld
   simp only [D2] at this
   exact List.all_eq_true.1 this f hf
 ·rename_i n e hd
  have hq:=bind_some h;clear h;obtain ⟨te,hte,h⟩:=hq
  have hq:=bind_some h;clear h;obtain ⟨cs,hcs,h⟩:=hq
  obtain ⟨rfl,rfl,rfl⟩:=aN h
  obtain ⟨ie,de,ze,hte⟩:=cL hap hte
  rw [ht.d_eq] at hd
  have hd:=nO hd
  subst hd
  obtain ⟨cs',e1,e2,_⟩:=iO _ qs.toList ti.zero cs z.cells (jS (size:=te.size) hn) (je ht) hcs
  refine ⟨rfl,.agg cs',run_build w t qs cs' ?_, ?_⟩
  ·simp only [Program.built,ht.info,ht.und,ht.zero,hte.info]
   rw [← hte.size]
   exact e1
  ·simp only [VR];exact ⟨cs'.toList,by simp,e2⟩
 ·cases h
end
end AM
namespace AM
open Go
section
variable {P:Program} {ap:AP} {g:bX} {m:aX} {S:aS} {w:World}
theorem rS {t:Nat} {ti:TI} {i:TypeInfo} {d:TypeDesc} {z:Value} (ht:tV P t ti i d z) {v:AV} (h:km ti ti.zero=some v):VR g m S v z:=by
 have hz:=je (g:=g) (m:=m) (S:=S) ht
 have ha:=ht.zagg
 unfold km at h
 rw [ht.d_eq,sK] at h
 unfold LF at ha
 rw [ht.zero] at ha
 split at h
 ·rename_i hrow
  cases h
  cases d<;>simp [TypeDesc.isRow] at hrow<;>cases z<;>simp at ha
  all_goals
   simp only [VR]
   exact ⟨_,rfl,by simpa [Value.cells] using hz⟩
 ·rename_i hrow
  split at h
  ·rename_i c hc
   cases h
   have hzc:z.cells=#[z]:=by
    cases z<;>first|rfl|skip
    cases d<;>simp [TypeDesc.isRow] at hrow ha
   rw [hc,hzc] at hz
   simp only [bn] at hz
   exact hz.1
  ·cases h
theorem tF (hap:eJ P ap) {x v:AV} {cx:Value} (hx:VR g m S x cx) {asserted:Nat} {ok:Bool} {ups:List (Nat × a_)} {bs:List Bool} (h:uT ap x asserted ok=some (v,ups,bs)) (xt:Nat):
  ups= []∧∃ cv,(Instr.typeAssert cx xt asserted ok).run P w= .ok cv w∧VR g m S v cv:=by
 unfold uT at h
 have hq:=bind_some h;clear h;obtain ⟨ti,hti,h⟩:=hq
 obtain ⟨i,d,z,ht⟩:=cL hap hti
 have hnot:∀ ms,d ≠ .interface ms:=by
  intro ms e;subst e;rw [ht.d_eq] at h;simp [gJ] at h
 have key:∀ (c:Value),(∃ t u,c= .iface t u∧t ≠ asserted)∨c= .nilIface→∀ zz,VR g m S zz z→ok=true→(Instr.typeAssert c xt asserted ok).run P w= .ok (.tuple #[z,.bool false]) w:=by
  intro c hc zz _ hok
  subst hok
  rcases hc with ⟨t,u,rfl,hne⟩|rfl
  ·cases d<;>first|exact absurd rfl (hnot _)|simp [Instr.typeAssert,run_underlying ht.und,hne,zeroValue,typeInfo,ht.info,ht.zero]
  ·cases d<;>first|exact absurd rfl (hnot _)|simp [Instr.typeAssert,run_underlying ht.und,zeroValue,typeInfo,ht.info,ht.zero]
 split at h
 ·cases h
 ·split at h
  ·rename_i t u
   simp only [VR] at hx
   obtain ⟨cu,rfl,hu⟩:=hx
   split at h
   ·rename_i ht'
    have ht':=aL ht'
    subst ht'
    obtain ⟨rfl,rfl,rfl⟩:=aN h
    cases ok
    ·refine ⟨rfl,cu, ?_,hu⟩
     cases d<;>first|exact absurd rfl (hnot _)|simp [Instr.typeAssert,run_underlying ht.und]
    ·refine ⟨rfl,.tuple #[cu,.bool true], ?_, ?_⟩
     ·cases d<;>first|exact absurd rfl (hnot _)|simp [Instr.typeAssert,run_underlying ht.und]
     ·simp only [VR];exact ⟨[cu,.bool true],rfl,by simp only [bn,VR,PR];exact ⟨hu,trivial,trivial⟩⟩
   ·rename_i ht'
    have hne:t ≠ asserted:=by intro e;subst e;simp at ht'
    cases ok
    ·cases h
    ·simp only at h
     have hq:=bind_some h;clear h;obtain ⟨zz,hz,h⟩:=hq
     obtain ⟨rfl,rfl,rfl⟩:=aN h
     have hzz:=rS (g:=g) (m:=m) (S:=S) ht hz
     refine ⟨rfl,_,key _ (.inl ⟨_,_,rfl,hne⟩) zz hzz rfl, ?_⟩
     simp only [VR];exact ⟨[z,.bool false],rfl,by simp only [bn,VR,PR];exact ⟨hzz,trivial,trivial⟩⟩
  ·simp only [VR,PR] at hx
   subst hx
   cases ok
   ·cases h
   ·simp only at h
    have hq:=bind_some h;clear h;obtain ⟨zz,hz,h⟩:=hq
    obtain ⟨rfl,rfl,rfl⟩:=aN h
    have hzz:=rS (g:=g) (m:=m) (S:=S) ht hz
    refine ⟨rfl,_,key _ (.inr rfl) zz hzz rfl, ?_⟩
    simp only [VR];exact ⟨[z,.bool false],rfl,by simp only [bn,VR,PR];exact ⟨hzz,trivial,trivial⟩⟩
  ·cases h
theorem jY (hS:bJ ap g m S w) {rd:bX} (hrd:∀ b B,rd b=some B→g b=some B) {size:Nat} {x:AV} {cx:Value} (hx:VR g m S x cx) {xs:List AV} {n:Nat} {pr:Bool} (h:xS size rd x=some (xs,n,pr)) (hl:xs.length=n*size)
  {tx:Nat} (hk:((∃ s,x= .str s)∧P.underlying tx=some .string∧size=1)∨((∀ s,x ≠ .str s)∧∃ e,P.underlying tx=some (.slice e))):
  ∃ news,Src P size tx cx n news w∧bn g m S xs news∧(pr=true→cZ S xs news):=by
 unfold xS at h
 split at h
 ·rename_i xs' n' nn
  cases h
  obtain ⟨_,e,he⟩:=hk.resolve_left (by rintro ⟨⟨s,hs⟩,_⟩;cases hs)
  simp only [VR,PR] at hx
  obtain ⟨a,cap,rfl,hle,q⟩:=hx
  rcases q with ⟨rfl,_,rfl,rfl,rfl⟩|⟨b,o,vs,rfl,hp,hs⟩
  ·exact ⟨[],Src.ofNil w he 0,by simp [bn],fun _=>by simp [cZ]⟩
  ·refine ⟨vs,Src.ofSlice w he ⟨b,o,none⟩ n cap vs (by rw [← lX hp,hl]) (fun j u hj=>by rw [Addr.add_mid];exact hS.sealed _ _ _ (hs j u hj).1) ?_,bH _ hp,fun _=>hp⟩
   intro u hu
   obtain ⟨j,hj⟩:=List.getElem?_of_mem hu
   exact (hs j u hj).2
 ·cases h
  obtain ⟨_,e,he⟩:=hk.resolve_left (by rintro ⟨⟨s,hs⟩,_⟩;cases hs)
  simp only [VR,PR] at hx
  subst hx
  exact ⟨[],Src.ofNil w he 0,by simp [bn],fun _=>by simp [cZ]⟩
 ·rename_i s
  cases h
  obtain ⟨_,he,hsz⟩:=hk.resolve_right (by rintro ⟨hs,_⟩;exact hs s rfl)
  simp only [VR,PR] at hx
  subst hx
  subst hsz
  have hp:∀ s:List UInt8,cZ S (s.map fun b=>AV.int .u8 b.toNat) (s.map fun b=>Value.int .u8 b.toNat):=by
   intro s
   induction s with
   |nil=>simp [cZ]
   |cons a r ih=>simp only [List.map_cons,cZ,PR];exact ⟨trivial,ih⟩
  have hsrc:=Src.ofString (P:=P) w he ⟨s.toArray⟩
  have hb:byteCells ⟨s.toArray⟩=s.map fun b=>Value.int .u8 b.toNat:=by simp [byteCells]
  rw [hb,nN] at hsrc
  exact ⟨_,hsrc,bH _ (hp s),fun _=>hp s⟩
 ·rename_i b ver j n'
  have hq:=bind_some h;clear h;obtain ⟨B,hB,h⟩:=hq
  split at h
  ·rename_i hc
   cases h
   simp only [Bool.and_eq_true] at hc
   obtain ⟨_,e,he⟩:=hk.resolve_left (by rintro ⟨⟨s,hs⟩,_⟩;cases hs)
   simp only [VR] at hx
   obtain ⟨B',hB',_,_,q⟩:=hx
   have hgB:=hrd b B hB
   rw [hgB] at hB';cases hB'
   obtain ⟨o,rfl,q1,q2,q3⟩:=q (aL hc.1)
   have hes:=aL hc.2
   obtain ⟨cur,e',vs,rest,hk',hcur,hp,hv,ho,hcap⟩:=(hS.blk b B hgB).lies
   have hlen:=bz hv
   have hnl:((vs.drop (j*size)).take (n*size)).length=n*size:=by
    rw [← bz (jd _ (kw _ hv))];exact hl
   by_cases hn:n=0
   ·subst hn
    have hnil:(vs.drop (j*size)).take (0*size)= []:=by simp
    refine ⟨[], ?_, ?_, ?_⟩
    ·exact Src.ofSlice w he _ 0 _ [] (by simp) (fun _ _ h=>by simp at h) (fun _ h=>by simp at h)
    ·simp [bn]
    ·intro _;simp [cZ]
   ·have hoff:=q2 (by omega)
    refine ⟨(vs.drop (j*size)).take (n*size),Src.ofSlice w he _ n _ _ hnl ?_ ?_,jd _ (kw _ hv),fun pr=>fu _ (jc _ (hp pr))⟩
    ·intro jj u hj
     rw [hoff,Addr.add_mid,hes,jh hk',hcur]
     rw [List.getElem?_take] at hj
     split at hj
     ·rw [List.getElem?_drop] at hj
      rw [List.getElem?_append_left (List.getElem?_eq_some_iff.1 hj).1]
      exact hj
     ·cases hj
    ·intro u hu
     exact ho u (List.mem_of_mem_drop (List.mem_of_mem_take hu))
  ·cases h
 ·cases h
theorem uG:∀ (ns:List Int) (s:List UInt8),ns.foldl (fun (r:ByteArray) n=>r.push (UInt8.ofNat n.toNat)) ⟨s.toArray⟩=⟨(s++ns.map fun n=>UInt8.ofNat n.toNat).toArray⟩
 | [],s=>by simp
 |n::ns,s=>by
  simp only [List.foldl_cons]
  have e:(⟨s.toArray⟩:ByteArray).push (UInt8.ofNat n.toNat)=⟨(s++ [UInt8.ofNat n.toNat]).toArray⟩:=by simp [ByteArray.push]
  rw [e,uG ns]
  simp
theorem ri (hap:eJ P ap) (hS:bJ ap g m S w) {rd:bX} (hrd:∀ b B,rd b=some B→g b=some B) {s d:Nat} {ts td:TI} (hts:ap.tyAt s=some ts) (htd:ap.tyAt d=some td) {x v:AV} {cx:Value} (hx:VR g m S x cx) {ups:List (Nat × a_)} {bs:List Bool}
  (h:rf ap ts td rd x=some (v,ups,bs)) (hbs:∀ b ∈ bs,b=true):ups= []∧∃ cv,(convert s d cx).run P w= .ok cv w∧VR g m S v cv:=by
 obtain ⟨i1,d1,z1,h1⟩:=cL hap hts
 obtain ⟨i2,d2,z2,h2⟩:=cL hap htd
 unfold rf at h
 split at h
 ·rename_i k k' n hd
  obtain ⟨rfl,rfl,rfl⟩:=aN h
  rw [h2.d_eq] at hd
  have hd:=Fp hd
  subst hd
  simp only [VR,PR] at hx
  subst hx
  exact ⟨rfl,_,by simp [convert,run_underlying h1.und,run_underlying h2.und,Conv.intToInt];rfl,by simp only [VR,PR]⟩
 ·rename_i s' hd1 hd2
  obtain ⟨rfl,rfl,rfl⟩:=aN h
  rw [h1.d_eq] at hd1
  rw [h2.d_eq] at hd2
  have hd1:=mI hd1
  have hd2:=mI hd2
  subst hd1;subst hd2
  simp only [VR,PR] at hx
  subst hx
  exact ⟨rfl,_,by simp [convert,run_underlying h1.und,run_underlying h2.und];rfl,by simp only [VR,PR]⟩
 ·rename_i x0 e hd1 hd2
  have hq:=bind_some h;clear h;obtain ⟨te,hte,h⟩:=hq
  obtain ⟨ie,de,ze,hte⟩:=cL hap hte
  split at h
  ·cases h
  ·rename_i xa xt xb hde hx''
   have hq:=bind_some h;clear h;obtain ⟨⟨xs,n,pr⟩,hsrc,h⟩:=hq
   obtain ⟨rfl,rfl,rfl⟩:=aN h
   obtain ⟨b1,b2⟩:=bV hbs
   obtain ⟨b2,_⟩:=bV b2
   rw [h1.d_eq] at hd1
   rw [h2.d_eq] at hd2
   have hd1:=dq hd1
   have hd2:=mI hd2
   subst hd1;subst hd2
   rw [hte.d_eq] at hde
   have hde:=Fp hde
   subst hde
   have b1:=aL b1
   obtain ⟨news,hs,hv,_⟩:=jY (P:=P) hS hrd hx hsrc (by omega) (tx:=s) (.inr ⟨fun s e=>hx'' s e,e,h1.und⟩)
   have hns:news=(xs.map AV.toInt).map (Value.int .u8):=by
    have:∀ (xs:List AV) (news:List Value),bn g m S xs news→xs.all (chk (.int .u8))=true→news=(xs.map AV.toInt).map (Value.int .u8):=by
     intro xs
     induction xs with
     |nil=>intro news h _;cases news<;>simp [bn] at h ⊢
     | cons a r ih=>
      intro news h hc
      cases news with
      |nil=>simp [bn] at h
      |cons c q=>
       simp only [bn] at h
       simp only [List.all_cons,Bool.and_eq_true] at hc
       rw [List.map_cons,List.map_cons,ih q h.2 hc.2]
       congr 1
       cases a<;>simp [chk] at hc
       simp only [VR,PR] at h
       rw [h.1,fQ hc.1]
       rfl
    exact this xs news hv b2
   refine ⟨rfl,.string ⟨((xs.map AV.toInt).map fun n=>UInt8.ofNat n.toNat).toArray⟩, ?_, ?_⟩
   ·have hcells:=hs.cells
    have hlen:=hs.len w
    have hx2:=hx
    cases cx
    case slice a l c=>
     have hl:l=n:=by simpa [Builtin.lenOf] using hlen
     subst hl
     cases a with
     | none=>
      have hn0:news= []:=by simpa [Builtin.firstCells] using hcells.symm
      rw [hn0] at hns
      have hx0:xs= []:=by
       have:(xs.map AV.toInt).map (Value.int .u8)= []:=hns.symm
       simpa using this
      subst hx0
      simp [convert,run_underlying h1.und,run_underlying h2.und,run_underlying hte.und,Conv.bytesToString]
      rfl
     | some a=>
      have hlc:(loadCells a l).run P w= .ok ((xs.map AV.toInt).map (Value.int .u8)).toArray w:=by
       rw [← hns];simpa [Builtin.firstCells] using hcells
      have hb:=run_bytesToString (P:=P) w a l c _ hlc
      rw [show ByteArray.empty=⟨([]:List UInt8).toArray⟩ from rfl,uG,List.nil_append] at hb
      simp only [convert,Sem.run_bind,run_underlying h1.und,run_underlying h2.und,run_underlying hte.und,Result.andThen_ok]
      exact hb
    all_goals (simp [Builtin.lenOf] at hlen)
    case string s0=>
     exfalso
     cases xa<;>simp [xS] at hsrc
     case str s1=>exact hx'' s1 rfl
     case nilS=>simp only [VR,PR] at hx2;cases hx2
     case sl a b c=>simp only [VR,PR] at hx2;obtain ⟨_,_,h,_⟩:=hx2;cases h
     case ref a b c d=>simp only [VR] at hx2;obtain ⟨_,_,_,⟨_,_,_,h⟩,_⟩:=hx2;cases h
   ·simp only [VR,PR]
    simp [List.map_map,Function.comp_def]
  ·cases h
 ·cases h
end
end AM
namespace AM
open Go
def cD (g:bX) (ups:List (Nat × a_)):bX:=fun b=>match av ups b with|some B=>some B|none=>g b
def fG (m:aX) (b:Nat) (x:Nat × Nat):aX:=fun c=>if c=b then x else m c
theorem dH {α:Type}:∀ (a b:List (Nat × α)) (t:Nat),av (a++b) t=match av a t with|some x=>some x|none=>av b t
 | [],b,t=>rfl
 |(u,x)::r,b,t=>by
  simp only [List.cons_append,av]
  split
  ·rfl
  ·exact dH r b t
theorem fe (ups:List (Nat × a_)) (hp:Hp):cD (av hp) ups=av (ups++hp):=by
 funext b;rw [dH];unfold cD;cases av ups b<;>rfl
theorem cP (g:bX):cD g []=g:=rfl
theorem gx (g:bX) (b:Nat) (B:a_) (c:Nat):cD g [(b,B)] c=if c=b then some B else g c:=by
 simp only [cD,av]
 by_cases h:c=b
 ·subst h;simp
 ·have:Nat.beq b c=false:=by
   cases hb:Nat.beq b c with
   |false=>rfl
   |true=>exact absurd (aL hb).symm h
  rw [this,if_neg h]
section
variable {P:Program} {ap:AP} {g:bX} {m:aX} {S:aS} {w:World}
theorem Dd.mono {g g':bX} {m m':aX} {S S':aS} {w w':World} {B:a_} {k c:Nat} (h:Dd g m S w B k c) (hS:iC S S') (hg:Ge g m g' m') (hw:w'.heap[k]? =w.heap[k]?):Dd g' m' S' w' B k c:=by
 obtain ⟨⟨cur,e,vs,rest,h1,h2,h3,h4,h5,h6⟩,h7,h8⟩:=h
 exact ⟨⟨cur,e,vs,rest,by rw [hw];exact h1,h2,fun p=>bU hS _ (h3 p),f_ hS hg _ h4,h5,h6⟩,h7,h8⟩
theorem bJ.seal_lt (h:bJ ap g m S w) {k o:Nat} {v:Value} (hv:S k o=some v):k<w.heap.size:=World.block_lt_of_cell? w _ (h.sealed k o v hv)
theorem bJ.put (h:bJ ap g m S w) (b:Nat) (B:a_) (k c:Nat) {w':World}
  (hk:w.heap.size≤k∨∃ B0,g b=some B0∧k=(m b).1) (hw:w.grownBy w' (some k)) (hblk:Dd g m S w' B k c)
  (hge:∀ B0,g b=some B0→B.esz=B0.esz∧((B.ver=B0.ver∧(k,c)=m b)∨B0.ver<B.ver))
  (hseal:∀ o v,S k o=some v→w'.cell? ⟨k,o,none⟩=some v∧B.fro=true∧o<B.fz):
  bJ ap (cD g [(b,B)]) (fG m b (k,c)) S w'∧Fr g m S w (cD g [(b,B)]) (fG m b (k,c)) S w':=by
 have hGe:Ge g m (cD g [(b,B)]) (fG m b (k,c)):=by
  intro b1 B1 hB1
  by_cases e:b1=b
  ·subst e
   obtain ⟨e1,e2⟩:=hge B1 hB1
   refine ⟨B,by rw [gx,if_pos rfl],e1, ?_⟩
   rcases e2 with ⟨e2,e3⟩|e2
   ·exact .inl ⟨e2,by simp [fG,e3]⟩
   ·exact .inr e2
  ·exact ⟨B1,by rw [gx,if_neg e];exact hB1,rfl,.inl ⟨rfl,by simp [fG,e]⟩⟩
 have hne:∀ b1 B1,g b1=some B1→b1 ≠ b→(m b1).1 ≠ k:=by
  intro b1 B1 hB1 hb1 e
  have hlt:=h.lt hB1
  rcases hk with hk|⟨B0,hB0,hk⟩
  ·omega
  ·exact hb1 (h.inj b1 b B1 B0 hB1 hB0 (e.trans hk))
 have hold:∀ k0,k0<w.heap.size→k0 ≠ k→w'.heap[k0]? =w.heap[k0]? :=fun k0 hlt hk0=>hw.block k0 hlt (by simpa using hk0)
 constructor
 ·refine ⟨?_, ?_, ?_, ?_,h.glob⟩
  ·intro b1 b2 B1 B2 h1 h2 he
   rw [gx] at h1 h2
   by_cases e1:b1=b<;>by_cases e2:b2=b
   ·rw [e1,e2]
   ·rw [if_neg e2] at h2
    simp only [fG,e1,if_true,if_neg e2] at he
    exact absurd he.symm (hne b2 B2 h2 e2)
   ·rw [if_neg e1] at h1
    simp only [fG,e2,if_true,if_neg e1] at he
    exact absurd he (hne b1 B1 h1 e1)
   ·rw [if_neg e1] at h1
    rw [if_neg e2] at h2
    simp only [fG,if_neg e1,if_neg e2] at he
    exact h.inj b1 b2 B1 B2 h1 h2 he
  ·intro b1 B1 h1
   rw [gx] at h1
   by_cases e1:b1=b
   ·rw [if_pos e1] at h1
    cases h1
    simp only [fG,if_pos e1]
    exact hblk.mono (iC.refl S) hGe rfl
   ·rw [if_neg e1] at h1
    simp only [fG,if_neg e1]
    exact (h.blk b1 B1 h1).mono (iC.refl S) hGe (hold _ (h.lt h1) (hne b1 B1 h1 e1))
  ·intro k0 o v hv
   by_cases e:k0=k
   ·subst e;exact (hseal o v hv).1
   ·rw [World.cell?_of_block (w:=w) (a:=⟨k0,o,none⟩) (hold k0 (h.seal_lt hv) e)]
    exact h.sealed k0 o v hv
  ·intro b1 B1 h1 o v hv
   rw [gx] at h1
   by_cases e1:b1=b
   ·rw [if_pos e1] at h1
    cases h1
    simp only [fG,if_pos e1] at hv
    exact (hseal o v hv).2
   ·rw [if_neg e1] at h1
    simp only [fG,if_neg e1] at hv
    exact h.own b1 B1 h1 o v hv
 ·refine ⟨hGe,iC.refl S,hw.os,hw.tape,hw.output,hw.size, ?_, ?_,fun _ _ _ hv=> .inl hv⟩
  ·intro k0 hlt hn
   refine hold k0 hlt (fun e=> ?_)
   subst e
   rcases hk with hk|⟨B0,hB0,hk⟩
   ·omega
   ·exact hn b B0 hB0 hk.symm
  ·intro b1 B1 h1
   rw [gx] at h1
   by_cases e1:b1=b
   ·subst e1
    rcases hk with hk|⟨B0,hB0,hk⟩
    ·exact .inl (by simpa [fG] using hk)
    ·exact .inr ⟨B0,hB0,by simp [fG,hk]⟩
   ·rw [if_neg e1] at h1
    exact .inr ⟨B1,h1,by simp [fG,e1]⟩
end
mutual
theorem wB {g:bX} {m:aX} {S:aS}:∀ (x:AV) {v:Value},VR g m S x v→dF x= []→PR S x v
 | .int _ _,_,p,_=>by simpa only [VR] using p
 | .bool _,_,p,_=>by simpa only [VR] using p
 | .str _,_,p,_=>by simpa only [VR] using p
 | .nilS,_,p,_=>by simpa only [VR] using p
 | .nilP,_,p,_=>by simpa only [VR] using p
 | .nilF,_,p,_=>by simpa only [VR] using p
 | .nilI,_,p,_=>by simpa only [VR] using p
 | .sl _ _ _,_,p,_=>by simpa only [VR] using p
 | .pp _ _,_,p,_=>by simpa only [VR] using p
 | .dead,_,_,_=>by simp only [PR]
 | .own _ _ _,_,p,_=>by simp only [VR] at p
 | .ref _ _ _ _,_,_,h=>by simp [dF] at h
 | .ptr _ _ _,_,_,h=>by simp [dF] at h
 | .agg l,_,p,h=>by
  simp only [VR] at p;simp only [PR];simp only [dF] at h
  obtain ⟨vs,e,q⟩:=p
  exact ⟨vs,e,dI l q h⟩
 | .tup l,_,p,h=>by
  simp only [VR] at p;simp only [PR];simp only [dF] at h
  obtain ⟨vs,e,q⟩:=p
  exact ⟨vs,e,dI l q h⟩
 | .fn f a c,_,p,h=>by
  simp only [VR] at p;simp only [PR];simp only [dF,List.append_eq_nil_iff] at h
  obtain ⟨va,vc,e,q,r⟩:=p
  exact ⟨va,vc,e,dI a q h.1,dI c r h.2⟩
 | .ifc t x,_,p,h=>by
  simp only [VR] at p;simp only [PR];simp only [dF] at h
  obtain ⟨u,e,q⟩:=p
  exact ⟨u,e,wB x q h⟩
theorem dI {g:bX} {m:aX} {S:aS}:∀ (l:List AV) {vs:List Value},bn g m S l vs→cA l= []→cZ S l vs
 | [],[],_,_=>by simp only [cZ]
 |x::r,v::vs,p,h=>by simp only [bn] at p;simp only [cA,List.append_eq_nil_iff] at h;simp only [cZ];exact ⟨wB x p.1 h.1,dI r p.2 h.2⟩
 | [],_::_,p,_=>by simp [bn] at p
 |_::_,[],p,_=>by simp [bn] at p
end
section
variable {P:Program} {ap:AP} {g:bX} {m:aX} {S:aS} {w:World}
theorem lg {α:Type} {l:List α} (h:l.isEmpty=true):l= []:=by cases l<;>simp at h ⊢
theorem bJ.fresh (h:bJ ap g m S w) {nid:Nat} (hn:g nid=none) (B:a_) (c:Nat) {w':World} {cur:Array Value} {e:TypeId} (hw:w.grownBy w' none) (hnew:w'.heap[w.heap.size]? =some (.cells cur e (0,0)))
  (hver:B.fro=false→B.fz=0) (hfz:B.fz≤B.cells.length) {vs rest:List Value} (hc:cur.toList=vs++rest) (hp:B.pr=true→cZ S B.cells vs) (hv:bn g m S B.cells vs) (h1:∀ u ∈ vs,u.oneCell'=true) (hcap:0<B.esz→cur.size=c*B.esz∧c≤maxLen):
  bJ ap (cD g [(nid,B)]) (fG m nid (w.heap.size,c)) S w'∧Fr g m S w (cD g [(nid,B)]) (fG m nid (w.heap.size,c)) S w':=by
 refine h.put nid B w.heap.size c (.inl (Nat.le_refl _)) ⟨hw.os,hw.tape,hw.output,hw.size,fun k hk _=>hw.block k hk (by simp)⟩ ⟨⟨cur,e,vs,rest,hnew,hc,hp,hv,h1,hcap⟩,hver,hfz⟩ (fun B0 h0=>by rw [hn] at h0;cases h0) ?_
 intro o v hv
 have:=h.seal_lt hv
 omega
theorem t_ (h:bJ ap g m S w) {nid:Nat} (hn:g nid=none) {cells:List AV} {cv:Value} (hv:bn g m S cells cv.cells.toList) (_hl:∀ x ∈ cells,ia x=true) (h1:∀ u ∈ cv.cells,u.oneCell'=true) (t:TypeId):
  ∃ m' w',(newVar t cv).run P w= .ok ⟨w.heap.size,0,none⟩ w'∧bJ ap (cD g [d_ nid cells 0]) m' S w'∧Fr g m S w (cD g [d_ nid cells 0]) m' S w'∧(m' nid).1=w.heap.size:=by
 have hf:=h.fresh (nid:=nid) hn (d_ nid cells 0).2 0 (w':=w.alloc (.cells cv.cells t)) (cur:=cv.cells) (e:=t) (World.grownBy_alloc w _ none) (heap_alloc_new w _) (fun _=>rfl) (Nat.zero_le _) (vs:=cv.cells.toList) (rest:= []) (by simp)
  (fun hp=>dI _ hv (lg hp)) hv (fun u hu=>h1 u (by simpa using hu)) (fun h=>by simp [d_] at h)
 refine ⟨_,_, ?_,hf.1,hf.2,by simp [fG]⟩
 simp [newVar,newRow]
theorem AK {m':aX} {nid:Nat} {cells:List AV} {esz k:Nat} (hk:(m' nid).1=k):VR (cD g [d_ nid cells esz]) m' S (.ptr nid 0 0) (.pointer (some ⟨k,0,none⟩)):=by
 simp only [VR]
 refine ⟨(d_ nid cells esz).2, ?_,Nat.zero_le _,⟨_,_,rfl⟩,fun _=>by rw [hk]⟩
 show cD g [(nid,(d_ nid cells esz).2)] nid=_
 rw [gx,if_pos rfl]
theorem vX (h:bJ ap g m S w) {rd:bX} (hrd:∀ b B,rd b=some B→g b=some B) {t:Nat} {ti:TI} {i:TypeInfo} {d:TypeDesc} {z:Value} (ht:tV P t ti i d z) {p x v:AV} {cp cx:Value} (hp:VR g m S p cp) (hx:VR g m S x cx)
  {ups:List (Nat × a_)} {bs:List Bool} (hs:zH ti rd p x=some (v,ups,bs)) (hbs:∀ b ∈ bs,b=true):
  v= .dead∧∃ m' w',(Instr.storeAt t cp cx).run P w= .ok () w'∧bJ ap (cD g ups) m' S w'∧Fr g m S w (cD g ups) m' S w':=by
 unfold zH at hs
 split at hs
 ·rename_i b ver off
  have hq:=bind_some hs;clear hs;obtain ⟨B,hB,hs⟩:=hq
  simp only at hs
  split at hs
  ·rename_i hc
   simp only [Bool.and_eq_true,Bool.not_eq_true'] at hc
   obtain ⟨⟨⟨c1,c2⟩,c3⟩,c4⟩:=hc
   cases hs
   have hgB:=hrd b B hB
   have hver:=aL c1
   have hlen:=aL c3
   have hfit:=dw (hbs _ (List.mem_singleton.2 rfl))
   simp only [VR] at hp
   obtain ⟨B',hB',_,_,q⟩:=hp
   rw [hgB] at hB';cases hB'
   have q:=q hver
   subst q
   obtain ⟨hv1,hv2⟩:=qO hx (fun y hy=>List.all_eq_true.1 c4 y hy)
   obtain ⟨⟨cur,e,vs,rest,k1,k2,k3,k4,k5,k6⟩,k7,k8⟩:=h.blk b B hgB
   have hvl:=bz hv1
   have hvl':=bz k4
   have hsz:cx.cells.size=i.size:=by simp only [Array.length_toList] at hvl;rw [← ht.size];omega
   have hcl:cur.toList.length=vs.length+rest.length:=by rw [k2];simp
   have hst:=run_storeCells_at P (m b).1 off e cx.cells.toList 0 cur w k1 (by simp only [Array.length_toList] at hvl hcl ⊢;omega) (fun u hu=>hv2 u (by simpa using hu))
   simp only [Nat.add_zero] at hst
   have hnewl:(cur.toList.take off++cx.cells.toList++cur.toList.drop (off+cx.cells.toList.length))=(vs.take off++cx.cells.toList++vs.drop (off+cx.cells.toList.length))++rest:=by
    rw [k2,List.take_append_of_le_length (by omega),List.drop_append_of_le_length (by omega)]
    simp [List.append_assoc]
   have hput:=h.put b {B with cells:=dO B.cells off x.cells,pr:=B.pr && (cA x.cells).isEmpty} (m b).1 (m b).2 (w':=w.setRow (m b).1 (cur.toList.take off++cx.cells.toList++cur.toList.drop (off+cx.cells.toList.length)).toArray)
    (.inr ⟨B,hgB,rfl⟩) ⟨rfl,rfl,rfl,by simp,fun k _ hk=>setRow_other w _ k _ (fun e=>hk (by rw [e]))⟩
    ⟨⟨_,e,vs.take off++cx.cells.toList++vs.drop (off+cx.cells.toList.length),rest,setRow_heap w _ cur _ e _ k1,by rw [List.toList_toArray,hnewl],fun hpr=>by
      simp only [Bool.and_eq_true] at hpr
      exact FN (k3 hpr.1) (dI _ hv1 (lg hpr.2)),zW k4 hv1,by
      intro u hu
      rcases List.mem_append.1 hu with hu|hu
      ·rcases List.mem_append.1 hu with hu|hu
       ·exact k5 u (List.mem_of_mem_take hu)
       ·exact hv2 u (by simpa using hu)
      ·exact k5 u (List.mem_of_mem_drop hu),fun hesz=>by
      obtain ⟨s1,s2⟩:=k6 hesz
      refine ⟨?_,s2⟩
      rw [← s1,List.size_toArray]
      simp only [List.length_append,List.length_take,List.length_drop,Array.length_toList] at hvl hcl ⊢
      omega⟩,k7,by
     have:(dO B.cells off x.cells).length=B.cells.length:=by simp only [dO,List.length_append,List.length_take,List.length_drop];omega
     simp only [this];exact k8⟩
    (fun B0 h0=>by rw [hgB] at h0;cases h0;exact ⟨rfl,.inl ⟨rfl,rfl⟩⟩)
    (fun o v hv=>by
     have:=(h.own b B hgB o v hv).1
     rw [c2] at this;cases this)
   refine ⟨rfl,_,_, ?_,hput.1,hput.2⟩
   have hn:¬ (cx.cells.size ≠ i.size):=by simp [hsz]
   simp [Instr.storeAt,Instr.sureAddr,storeVar,Go.sizeOf,typeInfo,ht.info,hsz,hst]
  ·cases hs
 ·cases hs
end
end AM
namespace AM
open Go
section
variable {P:Program} {ap:AP} {g:bX} {m:aX} {S:aS} {w:World}
theorem jD (g:bX) (b:Nat) (B:a_):cD g [(b,B)] b=some B:=by rw [gx,if_pos rfl]
theorem rB {w w':World} (h:w.grownBy w' none) (r:Option Nat):w.grownBy w' r:=⟨h.os,h.tape,h.output,h.size,fun k hk _=>h.block k hk (by simp)⟩
theorem g_ (w:World) (o:Obj):w.grownBy (w.drew.alloc o) none:=⟨rfl,rfl,rfl,by simp,fun k hk _=>Go.RowKit.Below.heap_alloc w.drew o k hk⟩
theorem lH {t tx ty e:TypeId} {i:TypeInfo} (ht:P.underlying t=some (.slice e)) (hi:P.info? e=some i) {x:Value} {news:List Value} (hs:Src P i.size tx x 0 news w):
  (Builtin.append_ #[t,tx] ty #[.slice none 0 0,x]).run P w= .ok (.slice none 0 0) w:=by
 rcases hs.kind with ⟨e',hk⟩|hk<;>simp [Builtin.append_,run_underlying ht,run_underlying hk,Go.sizeOf,typeInfo,hi,hs.len,hs.cells]
theorem lI {t tx ty e:TypeId} {i:TypeInfo} (ht:P.underlying t=some (.slice e)) (hi:P.info? e=some i) {k o sLen sCap n:Nat} {x:Value} {news:List Value} (hs:Src P i.size tx x n news w) (hroom:sLen+n≤sCap)
  {cur:Array Value} {e':TypeId} (hk:w.heap[k]? =some (.cells cur e' (0,0))) (hfit:o+sLen*i.size+news.length≤cur.size):
  (Builtin.append_ #[t,tx] ty #[.slice (some ⟨k,o,none⟩) sLen sCap,x]).run P w= .ok (.slice (some ⟨k,o,none⟩) (sLen+n) sCap) (w.setRow k (cur.toList.take (o+sLen*i.size)++news++cur.toList.drop (o+sLen*i.size+news.length)).toArray):=by
 have hst:=run_storeCells_at P k (o+sLen*i.size) e' news 0 cur w hk (by simpa using hfit) hs.one
 simp only [Nat.add_zero] at hst
 rcases hs.kind with ⟨e'',hk'⟩|hk'<;>simp [Builtin.append_,run_underlying ht,run_underlying hk',Go.sizeOf,typeInfo,hi,hs.len,hroom,hs.cells,Addr.add_mid,hst]
theorem oV {n old bytes:Nat} (h:old<n) (hn:n≤uM) (hb:bytes≤128):Builtin.nextslicecap n old*bytes≤281474976710656:=by
 refine growslice_fits h ?_
 have:n*bytes≤uM*128:=Nat.mul_le_mul hn hb
 have e:uM*128=140737488355328:=by decide
 omega
theorem nK:uM=1099511627776:=by decide
theorem qa {t tx ty e:TypeId} {i:TypeInfo} (ht:P.underlying t=some (.slice e)) (hi:P.info? e=some i) {x:Value} {base:Option Addr} {sLen sCap:Nat} (hs:Src P i.size tx x 0 [] w) (hc:sLen≤sCap):
  (Builtin.append_ #[t,tx] ty #[.slice base sLen sCap,x]).run P w= .ok (.slice base sLen sCap) w:=by
 cases base with
 |none=>rcases hs.kind with ⟨e',hk⟩|hk<;>simp [Builtin.append_,run_underlying ht,run_underlying hk,Go.sizeOf,typeInfo,hi,hs.len,hs.cells,hc]
 |some a=>rcases hs.kind with ⟨e',hk⟩|hk<;>simp [Builtin.append_,run_underlying ht,run_underlying hk,Go.sizeOf,typeInfo,hi,hs.len,hs.cells,hc,storeCells]
theorem lL (h:bJ ap g m S w) {rd:bX} (hrd:∀ b B,rd b=some B→g b=some B) {nid:Nat} (hn:g nid=none) {t tx e:Nat} {ti te:TI} {i ie:TypeInfo} {z ze:Value} {de:TypeDesc} (ht:tV P t ti i (.slice e) z) (hte:tV P e te ie de ze)
  {s x v:AV} {cs cx:Value} (hvs:VR g m S s cs) (hvx:VR g m S x cx)
  (hk:((∃ s,x= .str s)∧P.underlying tx=some .string∧te.size=1)∨((∀ s,x ≠ .str s)∧∃ e,P.underlying tx=some (.slice e)))
  {em:Bool} (hem:s= .nilS→∃ n,mg x=some n∧Nat.beq n 0=em)
  {ups:List (Nat × a_)} {bs:List Bool} (ha:mR nid te rd em s x=some (v,ups,bs)) (hbs:∀ b ∈ bs,b=true) (ty:Nat):
  ∃ cv m' w',(Builtin.append_ #[t,tx] ty #[cs,cx]).run P w= .ok cv w'∧bJ ap (cD g ups) m' S w'∧Fr g m S w (cD g ups) m' S w'∧VR (cD g ups) m' S v cv:=by
 have hcount:∀ xs n pr,xS te.size rd x=some (xs,n,pr)→mg x=some n:=by
  intro xs n pr hsrc
  unfold xS at hsrc
  split at hsrc
  ·cases hsrc;rfl
  ·cases hsrc;rfl
  ·cases hsrc;rfl
  ·have hq:=bind_some hsrc;clear hsrc;obtain ⟨B,hB,hsrc⟩:=hq
   split at hsrc
   ·cases hsrc;rfl
   ·cases hsrc
  ·cases hsrc
 unfold mR at ha
 have hq:=bind_some ha;clear ha;obtain ⟨⟨xs,n,pr⟩,hsrc,ha⟩:=hq
 simp only at ha
 split at ha
 ·cases ha
 ·rename_i hok
  simp only [Bool.and_eq_true] at hok
  have hsz:=di hok.1
  have hby:=dw hok.2
  have hsz':te.size=ie.size:=hte.size
  have hby':te.bytes=ie.bytes:=hte.bytes
  have hzs:ze.cells.size=ie.size:=hte.zsize
  split at ha
  ·
   obtain ⟨n',hc',hem⟩:=hem rfl
   rw [hcount _ _ _ hsrc] at hc'
   cases hc'
   simp only [VR,PR] at hvs
   subst hvs
   split at ha
   ·
    obtain ⟨rfl,rfl,rfl⟩:=aN ha
    have hn0:n=0:=aL hem
    subst hn0
    have hl:=aL (hbs _ (List.mem_singleton.2 rfl))
    obtain ⟨news,hs,hv,hp⟩:=jY (P:=P) h hrd hvx hsrc hl hk
    rw [hsz'] at hs
    exact ⟨_,m,w,lH ht.und hte.info hs,by rw [cP];exact h,by rw [cP];exact Fr.refl _ _ _ _,by simp [VR,PR]⟩
   ·
    cases ha
    obtain ⟨b1,hbs⟩:=bV hbs
    obtain ⟨b2,_⟩:=bV hbs
    have hl:=aL b1
    have hroom:=dw b2
    have hn0:n ≠ 0:=by intro e;subst e;simp at hem
    obtain ⟨news,hs,hv,hp⟩:=jY (P:=P) h hrd hvx hsrc hl hk
    rw [hsz'] at hs
    have hrun:=run_append_grow_src w t tx ty e ie ze ht.und hte.info hte.zero none 0 0 [] (run_firstCells_none w.drew _ _ _ _) cx n news hs (by omega) (by rw [nK] at hroom;omega) (oV (by omega) (by simpa using hroom) (by omega))
    have hge:n≤grownCap w n 0 e:=grownCap_ge _ _ _ _
    have hle:grownCap w n 0 e≤maxLen:=grownCap_le_maxLen _ _ _ _ (by rw [nK] at hroom;simp only [maxLen];omega)
    simp only [Nat.zero_add] at hrun
    have hf:=h.fresh (nid:=nid) hn ⟨xs,0,false,0,te.size,pr⟩ (grownCap w n 0 e) (cur:=([]++news).toArray++Builtin.zeroCells ze.cells (grownCap w n 0 e - n)) (e:=e) (g_ w _) (heap_alloc_new w.drew _) (fun _=>rfl) (Nat.zero_le _)
     (vs:=news) (rest:=(Builtin.zeroCells ze.cells (grownCap w n 0 e - n)).toList) (by simp) hp hv hs.one (fun _=> ⟨by
      simp only [Array.size_append,List.size_toArray,List.nil_append,size_zeroCells,hs.newsLen,hzs,hsz']
      rw [← Nat.add_mul];congr 1;omega,hle⟩)
    refine ⟨_,_,_,hrun,hf.1,hf.2, ?_⟩
    simp only [VR]
    refine ⟨_,jD _ _ _,Nat.le_refl _,⟨_,_,_,rfl⟩,fun _=> ⟨0, ?_, ?_, ?_,hsz⟩⟩
    ·simp [fG]
    ·simpa [fG] using hge
    ·simp
  ·rename_i b ver mN
   have hq:=bind_some ha;clear ha;obtain ⟨B,hB,ha⟩:=hq
   split at ha
   ·rename_i hok2
    simp only [Bool.and_eq_true] at hok2
    have hver:=aL hok2.1
    have hesz:=aL hok2.2
    cases ha
    obtain ⟨b1,hbs⟩:=bV hbs
    obtain ⟨b2,hbs⟩:=bV hbs
    obtain ⟨b3,hbs⟩:=bV hbs
    obtain ⟨b4,_⟩:=bV hbs
    have hl:=aL b1
    have hroom:=dw b2
    have hfit:=dw b3
    have hgB:=hrd b B hB
    simp only [VR] at hvs
    obtain ⟨B',hB',_,_,q⟩:=hvs
    rw [hgB] at hB';cases hB'
    obtain ⟨o,rfl,hcap,ho,hpos⟩:=q hver
    simp only [Nat.zero_add,Nat.sub_zero,Nat.zero_mul] at hcap ho ⊢
    obtain ⟨news,hs,hv,hp⟩:=jY (P:=P) h hrd hvx hsrc hl hk
    rw [hsz'] at hs
    have hbk:=h.blk b B hgB
    obtain ⟨⟨cur,e',vs,rest,k1,k2,k3,k4,k5,k6⟩,k7,k8⟩:=hbk
    obtain ⟨s1,s2⟩:=k6 hpos
    have hvl:=bz k4
    have hcl:cur.toList.length=vs.length+rest.length:=by rw [k2];simp
    simp only [Array.length_toList] at hcl
    have hfz:B.fz≤mN*te.size:=by
     cases hf:B.fro with
     |false=>rw [k7 hf];exact Nat.zero_le _
     |true=>simp [hf] at b4;exact dw (by simpa using b4)
    have holds:cZ S (B.cells.take (mN*te.size)) (vs.take (mN*te.size))∨B.pr=false:=by
     cases hp:B.pr with
     |false=>exact .inr rfl
     |true=>exact .inl (fu _ (k3 hp))
    have hvlT:(vs.take (mN*te.size)).length=mN*ie.size:=by rw [List.length_take,hsz'] at*;omega
    have hvv:bn g m S (B.cells.take (mN*te.size)++xs) (vs.take (mN*te.size)++news):=dW (jd _ k4) hv
    have hpp:(B.pr && pr)=true→cZ S (B.cells.take (mN*te.size)++xs) (vs.take (mN*te.size)++news):=by
     intro hh
     simp only [Bool.and_eq_true] at hh
     exact gU (fu _ (k3 hh.1)) (hp hh.2)
    have h1:∀ u ∈ vs.take (mN*te.size)++news,u.oneCell'=true:=by
     intro u hu
     rcases List.mem_append.1 hu with hu|hu
     ·exact k5 u (List.mem_of_mem_take hu)
     ·exact hs.one u hu
    have hfzl:B.fz≤(B.cells.take (mN*te.size)++xs).length:=by
     rw [List.length_append,List.length_take];omega
    by_cases hrm:mN+n≤(m b).2
    ·
     by_cases hc0:(m b).2=0
     ·have hm0:mN=0:=by omega
      have hn0:n=0:=by omega
      subst hm0;subst hn0
      have hnews:news= []:=by have:=hs.newsLen;simpa using this
      subst hnews
      have hrun:=qa (P:=P) (w:=w) (ty:=ty) (base:=some ⟨(m b).1,o,none⟩) (sLen:=0) (sCap:=(m b).2) ht.und hte.info hs (by omega)
      have hput:=h.put b {B with cells:=B.cells.take (0*te.size)++xs,ver:=ver+1,pr:=B.pr && pr} (m b).1 (m b).2 (w':=w) (.inr ⟨B,hgB,rfl⟩) ⟨rfl,rfl,rfl,Nat.le_refl _,fun _ _ _=>rfl⟩
       ⟨⟨cur,e',_,vs.drop (0*te.size)++rest,k1,by rw [k2];simp,hpp,hvv,h1,k6⟩,k7,hfzl⟩ (fun B0 h0=>by rw [hgB] at h0;cases h0;exact ⟨rfl,.inr (by simp only;omega)⟩)
       (fun o' u hu=> ⟨h.sealed _ _ _ hu,(h.own b B hgB o' u hu)⟩)
      refine ⟨_,_,_,hrun,hput.1,hput.2, ?_⟩
      simp only [VR]
      refine ⟨_,jD _ _ _,Nat.le_refl _,⟨_,_,_,rfl⟩,fun _=> ⟨o,by simp [fG],by simp,by simp [fG,hc0],hpos⟩⟩
     ·have ho0:o=0:=ho (by omega)
      subst ho0
      have hnl:=hs.newsLen
      have hbig:mN*ie.size+n*ie.size≤(m b).2*ie.size:=by rw [← Nat.add_mul];exact Nat.mul_le_mul_right _ hrm
      have hcs:cur.size=(m b).2*ie.size:=by rw [s1,hesz,hsz']
      have hrun:=lI (P:=P) (w:=w) (ty:=ty) (o:=0) ht.und hte.info hs hrm k1 (by simp only [Nat.zero_add];omega)
      simp only [Nat.zero_add] at hrun
      have hlist:cur.toList.take (mN*ie.size)=vs.take (mN*te.size):=by rw [k2,hsz',List.take_append_of_le_length (by rw [hsz'] at hfit;omega)]
      have hput:=h.put b {B with cells:=B.cells.take (mN*te.size)++xs,ver:=ver+1,pr:=B.pr && pr} (m b).1 (m b).2 (w':=w.setRow (m b).1 (cur.toList.take (mN*ie.size)++news++cur.toList.drop (mN*ie.size+news.length)).toArray)
       (.inr ⟨B,hgB,rfl⟩) ⟨rfl,rfl,rfl,by simp,fun k _ hk=>setRow_other w _ k _ (fun e=>hk (by rw [e]))⟩
       ⟨⟨_,e',_,cur.toList.drop (mN*ie.size+news.length),setRow_heap w _ cur _ e' _ k1,by rw [hlist],hpp,hvv,h1,fun _=> ⟨by
        rw [← s1,List.size_toArray]
        simp only [List.length_append,List.length_take,List.length_drop,Array.length_toList]
        omega,s2⟩⟩,k7,hfzl⟩ (fun B0 h0=>by rw [hgB] at h0;cases h0;exact ⟨rfl,.inr (by simp only;omega)⟩)
       (fun o' u hu=>by
        obtain ⟨f1,f2⟩:=h.own b B hgB o' u hu
        refine ⟨?_,f1,f2⟩
        have:=h.sealed _ _ _ hu
        rw [jh k1] at this
        rw [jh (setRow_heap w _ cur _ e' _ k1)]
        simp only [List.append_assoc]
        rw [List.getElem?_append_left (by simp only [List.length_take,Array.length_toList];rw [hsz'] at hfz;omega),List.getElem?_take_of_lt (by rw [hsz'] at hfz;omega)]
        exact this)
      refine ⟨_,_,_,hrun,hput.1,hput.2, ?_⟩
      simp only [VR]
      refine ⟨_,jD _ _ _,Nat.le_refl _,⟨_,_,_,rfl⟩,fun _=> ⟨0,by simp [fG],by simpa [fG] using hrm,by simp,hpos⟩⟩
    ·
     have hold:(Builtin.firstCells ie.size mN (.slice (some ⟨(m b).1,o,none⟩) mN (m b).2)).run P w.drew= .ok (vs.take (mN*te.size)).toArray w.drew:=by
      refine run_firstCells_some w.drew ie.size mN ⟨(m b).1,o,none⟩ mN _ _ hvlT ?_
      intro j u hu
      have hjl:=(List.getElem?_eq_some_iff.1 hu).1
      rw [hvlT] at hjl
      have hm0:0<mN:=by
       rcases Nat.eq_zero_or_pos mN with h0|h0
       ·subst h0;simp at hjl
       ·exact h0
      have ho0:o=0:=ho (by omega)
      subst ho0
      rw [Addr.add_mid,Nat.zero_add,jh (w:=w.drew) (j:=j) k1,k2]
      rw [List.getElem?_take] at hu
      split at hu
      ·rw [List.getElem?_append_left (List.getElem?_eq_some_iff.1 hu).1];exact hu
      ·cases hu
     have hrun:=run_append_grow_src w t tx ty e ie ze ht.und hte.info hte.zero (some ⟨(m b).1,o,none⟩) mN (m b).2 _ hold cx n news hs (by omega) (by rw [nK] at hroom;omega) (oV (by omega) hroom (by omega))
     have hge:mN+n≤grownCap w (mN+n) (m b).2 e:=grownCap_ge _ _ _ _
     have hle:grownCap w (mN+n) (m b).2 e≤maxLen:=grownCap_le_maxLen _ _ _ _ (by rw [nK] at hroom;simp only [maxLen];omega)
     have hput:=h.put b {B with cells:=B.cells.take (mN*te.size)++xs,ver:=ver+1,pr:=B.pr && pr} w.heap.size (grownCap w (mN+n) (m b).2 e) (.inl (Nat.le_refl _))
      (rB (g_ w (.cells ((vs.take (mN*te.size)++news).toArray++Builtin.zeroCells ze.cells (grownCap w (mN+n) (m b).2 e - (mN+n))) e)) _)
      ⟨⟨(vs.take (mN*te.size)++news).toArray++Builtin.zeroCells ze.cells (grownCap w (mN+n) (m b).2 e - (mN+n)),e,_,(Builtin.zeroCells ze.cells (grownCap w (mN+n) (m b).2 e - (mN+n))).toList,heap_alloc_new w.drew _,by simp,hpp,hvv,h1,fun _=> ⟨by
       simp only [Array.size_append,List.size_toArray,List.length_append,size_zeroCells,hs.newsLen,hzs]
       rw [hvlT,hesz,hsz',← Nat.add_mul,← Nat.add_mul];congr 1;omega,hle⟩⟩,k7,hfzl⟩ (fun B0 h0=>by rw [hgB] at h0;cases h0;exact ⟨rfl,.inr (by simp only;omega)⟩)
      (fun o' u hu=>absurd (h.seal_lt hu) (Nat.lt_irrefl _))
     refine ⟨_,_,_,hrun,hput.1,hput.2, ?_⟩
     simp only [VR]
     refine ⟨_,jD _ _ _,Nat.le_refl _,⟨_,_,_,rfl⟩,fun _=> ⟨0,by simp [fG],by simpa [fG] using hge,by simp,hpos⟩⟩
   ·cases ha
  ·cases ha
end
end AM
namespace AM
open Go
theorem pG (n:Nat) (z:List AV):(dK n z).length=n*z.length:=by simp [dK]
theorem CD (n:Nat) (z:List AV):dK (n+1) z=z++dK n z:=by simp [dK,List.replicate_succ]
theorem xJ:∀ (n:Nat) (z:List AV) (i:Nat),i<n*z.length→(dK n z)[i]? =z[i % z.length]?
 |0,z,i,h=>by simp at h
 | n+1,z,i,h=>by
  rw [CD]
  by_cases hi:i<z.length
  ·rw [List.getElem?_append_left hi,Nat.mod_eq_of_lt hi]
  ·have hi:z.length≤i:=by omega
   rw [List.getElem?_append_right hi,xJ n z (i - z.length) (by rw [Nat.add_mul,Nat.one_mul] at h;omega)]
   congr 1
   rw [← Nat.mod_eq_sub_mod hi]
section
variable {P:Program} {ap:AP} {g:bX} {m:aX} {S:aS} {w:World}
theorem qM:∀ {l:List AV} {vs:List Value},l.length=vs.length→(∀ (i:Nat) x v,l[i]? =some x→vs[i]? =some v→VR g m S x v)→bn g m S l vs
 | [],[],_,_=>by simp [bn]
 |x::r,v::vs,hl,h=>by
  simp only [bn]
  exact ⟨h 0 x v rfl rfl,qM (by simpa using hl) fun i x v hx hv=>h (i+1) x v (by simpa using hx) (by simpa using hv)⟩
 | [],_::_,h,_=>by simp at h
 |_::_,[],h,_=>by simp at h
theorem oC (z:Array Value) (n:Nat):(madeCells z n).toList=(List.range n).map fun i=>z[i % z.size]! :=by simp [madeCells]
theorem lS {t:Nat} {ti:TI} {i:TypeInfo} {d:TypeDesc} {z:Value} (ht:tV P t ti i d z) (n:Nat):bn g m S (dK n ti.zero) (madeCells z.cells (n*i.size)).toList:=by
 have hz:=je (g:=g) (m:=m) (S:=S) ht
 have hzl:=bz hz
 simp only [Array.length_toList,ht.zsize] at hzl
 refine qM (by rw [pG,hzl,Array.length_toList,size_madeCells]) ?_
 intro j x v hx hv
 have hj:j<n*i.size:=by
  have:=(List.getElem?_eq_some_iff.1 hx).1
  rw [pG,hzl] at this;exact this
 rw [xJ n ti.zero j (by rw [hzl];exact hj),hzl] at hx
 rw [oC,ht.zsize,List.getElem?_map,List.getElem?_range hj] at hv
 simp only [Option.map_some,Option.some.injEq] at hv
 obtain ⟨v',hv',hr⟩:=jH hz _ hx
 have hm:j % i.size<z.cells.size:=by rw [ht.zsize];exact Nat.mod_lt _ ht.pos
 simp only [Array.getElem?_toList] at hv'
 rw [getElem!_pos z.cells _ hm] at hv
 rw [Array.getElem?_eq_getElem hm] at hv'
 cases hv'
 rw [← hv];exact hr
theorem uL {n:Nat} {z:List AV} (h:∀ x ∈ z,ia x=true):∀ x ∈ dK n z,ia x=true:=by
 intro x hx
 simp only [dK,List.mem_flatten,List.mem_replicate] at hx
 obtain ⟨l,⟨_,rfl⟩,hx⟩:=hx
 exact h x hx
theorem qg:∀ {l:List AV} {vs:List Value},bn g m S l vs→(∀ x ∈ l,ia x=true)→∀ u ∈ vs,u.oneCell'=true
 | [],[],_,_=>by simp
 |x::r,v::vs,h,hl=>by
  simp only [bn] at h
  intro u hu
  rcases List.mem_cons.1 hu with rfl|hu
  ·exact yo h.1 (hl x (by simp))
  ·exact qg h.2 (fun y hy=>hl y (by simp [hy])) u hu
 | [],_::_,h,_=>by simp [bn] at h
 |_::_,[],h,_=>by simp [bn] at h
theorem vF {xs vs:List AV} {off:Nat} {x:AV} (h:x ∈ dO xs off vs):x ∈ xs∨x ∈ vs:=by
 simp only [dO,List.mem_append] at h
 rcases h with (h|h)|h
 ·exact .inl (List.mem_of_mem_take h)
 ·exact .inr h
 ·exact .inl (List.mem_of_mem_drop h)
theorem rq:∀ {ps:List (Nat × Nat × AV)} {cells cells':List AV},lQ cells ps=some cells'→(∀ x ∈ cells,ia x=true)→∀ x ∈ cells',ia x=true
 | [],cells,cells',h,hl=>by simp [lQ] at h;subst h;exact hl
 | (off,size,v)::r,cells,cells',h,hl=>by
  simp only [lQ] at h
  split at h
  ·rename_i hc
   simp only [Bool.and_eq_true] at hc
   refine rq h fun x hx=> ?_
   rcases vF hx with hx|hx
   ·exact hl x hx
   ·exact List.all_eq_true.1 hc.2 x hx
  ·cases h
theorem AQ {nid:Nat} {cells:List AV} {esz k c n:Nat} (hn:n≤c) (hp:0<esz):VR (cD g [d_ nid cells esz]) (fG m nid (k,c)) S (.ref nid 0 0 n) (.slice (some ⟨k,0,none⟩) n c):=by
 simp only [VR]
 refine ⟨_,jD _ _ _,Nat.zero_le _,⟨_,_,_,rfl⟩,fun _=> ⟨0,by simp [fG],by simpa [fG] using hn,by simp,hp⟩⟩
theorem nI:∀ (a b:List AV),cA (a++b)=cA a++cA b
 | [],b=>by simp [cA]
 |x::r,b=>by simp [cA,nI r b]
theorem uK (z:List AV) (h:cA z= []):∀ n,cA (dK n z)= []
 |0=>by simp [dK,cA]
 |n+1=>by
  have ih:=uK z h n
  simp only [dK,List.replicate_succ,List.flatten_cons,nI,h,List.nil_append] at ih ⊢
  exact ih
theorem zm (nid n esz:Nat) (z:List AV) (h:(cA z).isEmpty=true):(nid,(⟨dK n z,0,false,0,esz,true⟩:a_))=d_ nid (dK n z) esz:=by
 have h':cA z= []:=by simpa using h
 simp [d_,uK z h' n]
theorem oD (hap:eJ P ap) (h:bJ ap g m S w) {nid:Nat} (hn:g nid=none) {t:Nat} {ti:TI} {i:TypeInfo} {d:TypeDesc} {z:Value} (ht:tV P t ti i d z) {l c:AV} {cl cc:Value} (hl:VR g m S l cl) (hc:VR g m S c cc)
  {v:AV} {ups:List (Nat × a_)} {bs:List Bool} (hm:mB ap nid ti l c=some (v,ups,bs)) (hbs:∀ b ∈ bs,b=true):
  ∃ cv m' w',(Instr.makeSlice t cl cc).run P w= .ok cv w'∧bJ ap (cD g ups) m' S w'∧Fr g m S w (cD g ups) m' S w'∧VR (cD g ups) m' S v cv:=by
 unfold mB at hm
 split at hm
 ·rename_i e kl l kc c hd
  have hq:=bind_some hm;clear hm;obtain ⟨te,hte,hm⟩:=hq
  obtain ⟨ie,de,ze,hte⟩:=cL hap hte
  split at hm
  ·rename_i hok
   simp only [Bool.and_eq_true] at hok
   have hne:=hok.2
   have hok:=hok.1
   have hpos:=di hok.1.1
   have hby:=dw hok.2
   rw [zm _ _ _ _ hne] at hm
   cases hm
   obtain ⟨b1,hbs⟩:=bV hbs
   obtain ⟨b2,hbs⟩:=bV hbs
   obtain ⟨b3,_⟩:=bV hbs
   have b1:0≤l:=of_decide_eq_true b1
   have b2:l=c:=of_decide_eq_true b2
   have b3:l≤2^40:=of_decide_eq_true b3
   subst b2
   simp only [VR,PR] at hl hc
   subst hl;subst hc
   rw [ht.d_eq] at hd
   have hd:=dq hd
   subst hd
   have hb48:(ie.bytes:Int)*l≤281474976710656:=by
    have h1:(ie.bytes:Int)≤128:=by rw [← hte.bytes];exact_mod_cast hby
    have h2:(ie.bytes:Int)*l≤128*l:=Int.mul_le_mul_of_nonneg_right h1 b1
    have h3:(2:Int)^40=1099511627776:=by decide
    omega
   have h63:l≤9223372036854775807:=by
    have h3:(2:Int)^40=1099511627776:=by decide
    omega
   have hrun:=run_make (P:=P) w t e ie ze ht.und hte.info hte.zero kl kc l l b1 (Int.le_refl _) hb48 h63
   have hv:bn g m S (dK l.toNat te.zero) (madeCells ze.cells (l.toNat*ie.size)).toList:=lS hte _
   have hlf:∀ x ∈ dK l.toNat te.zero,ia x=true:=uL hte.zleaf
   have hf:=h.fresh (nid:=nid) hn (d_ nid (dK l.toNat te.zero) te.size).2 l.toNat (w':=w.alloc (.cells (madeCells ze.cells (l.toNat*ie.size)) e)) (World.grownBy_alloc w _ none) (heap_alloc_new w _) (fun _=>rfl) (Nat.zero_le _)
    (rest:= []) (by rw [List.append_nil]) (fun hp=>dI _ hv (lg hp)) hv (qg hv hlf) (fun _=> ⟨by rw [size_madeCells];simp [d_,hte.size],by simp only [maxLen];omega⟩)
   refine ⟨_,_,_,hrun,hf.1,hf.2, ?_⟩
   exact AQ (Nat.le_refl _) hpos
  ·cases hm
 ·cases hm
theorem sG {t e:TypeId} {i:TypeInfo} {z:Value} (ht:P.underlying t=some (.slice e)) (hi:P.info? e=some i) (hz:i.zero=some z) {len:Nat} (hle:len*i.size≤2^24) (h0:len*i.size ≠ 0) {parts:Array (Nat × Value)} {cells:Array Value}
  (hf:Instr.fill (fun i'=>some (i'*i.size,i.size)) (madeCells z.cells (len*i.size)) parts.toList=some cells):
  (Instr.buildSlice t len parts).run P w= .ok (.slice (some ⟨w.heap.size,0,none⟩) len len) (w.alloc (.cells cells e)):=by
 have hgt:¬ (len*i.size>2^24):=by omega
 unfold madeCells at hf
 simp only [Instr.buildSlice,Sem.run_bind,run_underlying ht,Result.andThen_ok]
 simp [Go.sizeOf,typeInfo,hi,zeroValue,hz,h0,newRow]
 rw [if_neg (by simpa using hgt)]
 simp [hf]
theorem qb {t e:TypeId} {i:TypeInfo} (ht:P.underlying t=some (.slice e)) (hi:P.info? e=some i) {len:Nat} (h0:len*i.size=0) {parts:Array (Nat × Value)} {cells:Array Value}
  (hf:Instr.fill (fun i'=>some (i'*i.size,i.size)) #[] parts.toList=some cells):
  (Instr.buildSlice t len parts).run P w= .ok (.slice (some ⟨w.heap.size,0,none⟩) len len) (w.alloc (.cells cells e)):=by
 simp [Instr.buildSlice,run_underlying ht,Go.sizeOf,typeInfo,hi,h0,newRow,Array.range_zero',hf]
theorem mT (hap:eJ P ap) (h:bJ ap g m S w) {nid:Nat} (hn:g nid=none) {t:Nat} {ti:TI} {i:TypeInfo} {d:TypeDesc} {z:Value} (ht:tV P t ti i d z) {len:Nat} {ps:List (Nat × AV)} {qs:Array (Nat × Value)} (hq:mO g m S ps qs.toList)
  {v:AV} {ups:List (Nat × a_)} {bs:List Bool} (hm:ky ap nid ti len ps=some (v,ups,bs)):
  ∃ cv m' w',(Instr.buildSlice t len qs).run P w= .ok cv w'∧bJ ap (cD g ups) m' S w'∧Fr g m S w (cD g ups) m' S w'∧VR (cD g ups) m' S v cv:=by
 unfold ky at hm
 split at hm
 ·rename_i e hd
  have hq':=bind_some hm;clear hm;obtain ⟨te,hte,hm⟩:=hq'
  obtain ⟨ie,de,ze,hte⟩:=cL hap hte
  split at hm
  ·rename_i hok
   simp only [Bool.and_eq_true] at hok
   have hpos:=di hok.1.1
   have hle:=dw hok.1.2
   have hq':=bind_some hm;clear hm;obtain ⟨cs,hcs,hm⟩:=hq'
   cases hm
   rw [ht.d_eq] at hd
   have hd:=dq hd
   subst hd
   have hv0:bn g m S (dK len te.zero) (madeCells ze.cells (len*ie.size)).toList:=lS hte _
   obtain ⟨cs',e1,e2,e3⟩:=iO _ qs.toList _ cs _ (jS (size:=te.size) hq) hv0 hcs
   rw [hte.size] at e1
   have hrun:(Instr.buildSlice t len qs).run P w= .ok (.slice (some ⟨w.heap.size,0,none⟩) len len) (w.alloc (.cells cs' e)):=by
    by_cases h0:len*ie.size=0
    ·exact qb ht.und hte.info h0 (by rw [h0] at e1;simpa [madeCells,Array.range_zero'] using e1)
    ·exact sG ht.und hte.info hte.zero (by rw [← hte.size];exact hle) h0 e1
   have hlf:∀ x ∈ cs,ia x=true:=rq hcs (uL hte.zleaf)
   have hsz:cs'.size=len*ie.size:=by rw [e3,size_madeCells]
   have hf:=h.fresh (nid:=nid) hn (d_ nid cs te.size).2 len (w':=w.alloc (.cells cs' e)) (World.grownBy_alloc w _ none) (heap_alloc_new w _) (fun _=>rfl) (Nat.zero_le _)
    (rest:= []) (by rw [List.append_nil]) (fun hp=>dI _ e2 (lg hp)) e2 (qg e2 hlf) (fun _=> ⟨by rw [hsz];simp [d_,hte.size],by
     have h1:len≤len*te.size:=Nat.le_mul_of_pos_right _ hpos
     have h3:(2:Nat)^24=16777216:=by decide
     simp only [maxLen];omega⟩)
   refine ⟨_,_,_,hrun,hf.1,hf.2, ?_⟩
   exact AQ (Nat.le_refl _) hpos
  ·cases hm
 ·cases hm
end
end AM
namespace AM
open Go
section
variable {P:Program} {ap:AP} {g:bX} {m:aX} {S:aS} {w:World}
theorem kZ {ρ:Operand→AV} {cρ:Operand→Value}:∀ (l:List Operand),(∀ o ∈ l,VR g m S (ρ o) (cρ o))→bn g m S (l.map ρ) (l.map cρ)
 | [],_=>by simp [bn]
 |o::r,h=>by simp only [List.map_cons,bn];exact ⟨h o (by simp),kZ r fun o ho=>h o (by simp [ho])⟩
theorem qK {ρ:Operand→AV} {cρ:Operand→Value}:∀ (l:List (Nat × Operand)),(∀ o ∈ l.map (·.2),VR g m S (ρ o) (cρ o))→mO g m S (l.map fun (i,x)=>(i,ρ x)) (l.map fun (i,x)=>(i,cρ x))
 | [],_=>by simp [mO]
 |(i,o)::r,h=>by simp only [List.map_cons,mO];exact ⟨trivial,h o (by simp),qK r fun o ho=>h o (by simp [ho])⟩
def dU (P:Program) (ap:AP) (g:bX) (m:aX) (S:aS) (w:World) (s:Sem Next) (v:AV) (ups:List (Nat × a_)):Prop:=
 ∃ nx m' w',s.run P w= .ok nx w'∧bJ ap (cD g ups) m' S w'∧Fr g m S w (cD g ups) m' S w'∧((∃ cv,nx= .value cv∧VR (cD g ups) m' S v cv)∨(nx= .skip∧v= .dead))
theorem dU.pur (h:bJ ap g m S w) {s:Sem Value} {v:AV} {ups:List (Nat × a_)} (hs:ups= []∧∃ cv,s.run P w= .ok cv w∧VR g m S v cv):dU P ap g m S w (do pure (.value (← s))) v ups:=by
 obtain ⟨rfl,cv,h1,h2⟩:=hs
 exact ⟨.value cv,m,w,by simp [h1],by rw [cP];exact h,by rw [cP];exact Fr.refl _ _ _ _,.inl ⟨cv,rfl,by rw [cP];exact h2⟩⟩
theorem dU.full {s:Sem Value} {v:AV} {ups:List (Nat × a_)} (hs:∃ cv m' w',s.run P w= .ok cv w'∧bJ ap (cD g ups) m' S w'∧Fr g m S w (cD g ups) m' S w'∧VR (cD g ups) m' S v cv):dU P ap g m S w (do pure (.value (← s))) v ups:=by
 obtain ⟨cv,m',w',h1,h2,h3,h4⟩:=hs
 exact ⟨.value cv,m',w',by simp [h1],h2,h3,.inl ⟨cv,rfl,h4⟩⟩
theorem dU.val (h:bJ ap g m S w) {s:Sem Next} {v:AV} {cv:Value} (hs:s.run P w= .ok (.value cv) w) (hv:VR g m S v cv):dU P ap g m S w s v []:=
 ⟨.value cv,m,w,hs,by rw [cP];exact h,by rw [cP];exact Fr.refl _ _ _ _,.inl ⟨cv,rfl,by rw [cP];exact hv⟩⟩
theorem qG {ρ:Operand→AV} {cρ:Operand→Value} (x:Option Operand) (h:∀ o ∈ x.toArray,VR g m S (ρ o) (cρ o)):qF g m S (x.map ρ) (x.map cρ):=by
 cases x with
 |none=>simp [qF]
 |some o=>simp only [Option.map_some,qF];exact h o (by simp)
theorem wN (hap:eJ P ap) {t:Nat} {ti:TI} (h:ap.tyAt t=some ti) (hd:ti.d ≠ .iface):P.concrete t=true:=by
 obtain ⟨i,d,z,ht⟩:=cL hap h
 have:=ht.d_eq
 simp only [Program.concrete,ht.und]
 cases d<;>simp_all [gJ]
set_option maxHeartbeats 1000000 in
theorem Cs (hap:eJ P ap) (hS:bJ ap g m S w) {nid:Nat} (hn:g nid=none) {ρ:Operand→AV} {cρ:Operand→Value} {rd:bX} (hrd:∀ b B,rd b=some B→g b=some B) (o:Oper) (hρ:∀ x ∈ o.op.operands,VR g m S (ρ x) (cρ x))
  {dec:Operand→Option Bool} (hdec:∀ x ∈ o.op.operands,∀ b,dec x=some b→cρ x= .bool b) {em:Bool} (hem:∀ n,m_ ρ o.op=some n→Nat.beq n 0=em)
  {v:AV} {ups:List (Nat × a_)} {bs:List Bool} (h:Sc ap nid ρ rd dec em o.op=some (v,ups,bs)) (hbs:∀ b ∈ bs,b=true):dU P ap g m S w (execOp cρ o) v ups:=by
 unfold Sc at h
 unfold execOp
 split at h<;>rename_i heq<;>simp only [heq,Op.operands] at hρ hdec hem ⊢
 ·obtain ⟨rfl,rfl,rfl⟩:=aN h
  exact dU.val hS (by simp) (hρ _ (by simp))
 ·obtain ⟨rfl,rfl,rfl⟩:=aN h
  exact dU.val hS (by simp) (hρ _ (by simp))
 ·
  rename_i c a b
  split at h
  ·rename_i hd
   obtain ⟨rfl,rfl,rfl⟩:=aN h
   have:=hdec c (by simp) _ hd
   exact dU.val hS (by simp [this,asBool]) (hρ _ (by simp))
  ·rename_i hd
   obtain ⟨rfl,rfl,rfl⟩:=aN h
   have:=hdec c (by simp) _ hd
   exact dU.val hS (by simp [this,asBool]) (hρ _ (by simp))
  ·split at h
   ·rename_i bc ba bb e1 e2 e3
    obtain ⟨rfl,rfl,rfl⟩:=aN h
    have h1:=hρ c (by simp)
    have h2:=hρ a (by simp)
    have h3:=hρ b (by simp)
    rw [e1] at h1;rw [e2] at h2;rw [e3] at h3
    simp only [VR,PR] at h1 h2 h3
    refine dU.val hS (cv:= .bool (cond bc ba bb)) ?_ (by simp only [VR,PR])
    rw [h1,h2,h3]
    cases bc<;>simp [asBool]
   ·cases h
 ·
  rename_i e
  have hq:=bind_some h;clear h;obtain ⟨te,hte,h⟩:=hq
  obtain ⟨ie,de,ze,ht⟩:=cL hap hte
  split at h
  ·rename_i hok
   simp only [Bool.and_eq_true] at hok
   cases h
   obtain ⟨m',w',h1,h2,h3,h4⟩:=t_ (P:=P) hS hn (cells:=te.zero) (cv:=ze) (je ht) ht.zleaf (fun u hu=>qg (g:=g) (m:=m) (S:=S) (je ht) ht.zleaf u (by simpa using hu)) e
   refine dU.full ⟨.pointer (some ⟨w.heap.size,0,none⟩),m',w', ?_,h2,h3,AK h4⟩
   simp [Instr.alloc,zeroValue,typeInfo,ht.info,ht.zero,h1]
  ·cases h
 ·
  rename_i e x
  have hq:=bind_some h;clear h;obtain ⟨te,hte,h⟩:=hq
  obtain ⟨ie,de,ze,ht⟩:=cL hap hte
  simp only at h
  split at h
  ·rename_i hok
   simp only [Bool.and_eq_true] at hok
   cases h
   have hx:=hρ x (by simp)
   have hl:∀ y ∈ (ρ x).cells,ia y=true:=fun y hy=>List.all_eq_true.1 hok.2 y hy
   obtain ⟨hv1,hv2⟩:=qO hx hl
   obtain ⟨m',w',h1,h2,h3,h4⟩:=t_ (P:=P) hS hn (cells:=(ρ x).cells) (cv:=cρ x) hv1 hl hv2 e
   refine dU.full ⟨.pointer (some ⟨w.heap.size,0,none⟩),m',w', ?_,h2,h3,AK h4⟩
   simp [Instr.box,h1]
  ·cases h
 ·
  rename_i t parts
  have hq:=bind_some h;clear h;obtain ⟨ti,hti,h⟩:=hq
  obtain ⟨i,d,z,ht⟩:=cL hap hti
  refine dU.pur hS ?_
  refine uU hap ht (qs:=parts.map fun (i,x)=>(i,cρ x)) ?_ h
  rw [Array.toList_map]
  exact qK parts.toList fun x hx=>hρ x (by simpa using hx)
 ·
  rename_i t len parts
  have hq:=bind_some h;clear h;obtain ⟨ti,hti,h⟩:=hq
  obtain ⟨i,d,z,ht⟩:=cL hap hti
  refine dU.full ?_
  refine mT hap hS hn ht (qs:=parts.map fun (i,x)=>(i,cρ x)) ?_ h
  rw [Array.toList_map]
  exact qK parts.toList fun x hx=>hρ x (by simpa using hx)
 ·
  rename_i t a
  have hq:=bind_some h;clear h;obtain ⟨ti,hti,h⟩:=hq
  obtain ⟨i,d,z,ht⟩:=cL hap hti
  exact dU.pur hS (pw hS hrd ht (hρ a (by simp)) h hbs)
 ·
  rename_i t a x
  have hq:=bind_some h;clear h;obtain ⟨ti,hti,h⟩:=hq
  obtain ⟨i,d,z,ht⟩:=cL hap hti
  have ha:=hρ a (by simp)
  have hx:=hρ x (by simp)
  generalize cρ a=ca at ha ⊢
  generalize cρ x=cx at hx ⊢
  obtain ⟨rfl,m',w',h1,h2,h3⟩:=vX hS hrd ht ha hx h hbs
  exact ⟨.skip,m',w',by simp [h1],h2,h3,.inr ⟨rfl,rfl⟩⟩
 ·
  rename_i x
  have hx:=hρ x (by simp)
  split at h
  ·rename_i b ver off e
   rw [e] at hx
   obtain ⟨rfl,rfl,rfl⟩:=aN h
   have hx':=hx
   simp only [VR] at hx'
   obtain ⟨_,_,_,⟨k,o,hv⟩,_⟩:=hx'
   exact dU.val hS (cv:=cρ x) (by rw [hv];simp) hx
  ·rename_i xs off e
   rw [e] at hx
   obtain ⟨rfl,rfl,rfl⟩:=aN h
   have hx':=hx
   simp only [VR,PR] at hx'
   obtain ⟨_,_,_,hv,_⟩:=hx'
   exact dU.val hS (cv:=cρ x) (by rw [hv];simp) hx
  ·rename_i f a c e
   rw [e] at hx
   obtain ⟨rfl,rfl,rfl⟩:=aN h
   have hx':=hx
   simp only [VR] at hx'
   obtain ⟨_,_,hv,_⟩:=hx'
   exact dU.val hS (cv:=cρ x) (by rw [hv];simp) hx
  ·cases h
 ·
  rename_i op t x y _
  have hq:=bind_some h;clear h;obtain ⟨ti,hti,h⟩:=hq
  exact dU.pur hS (yz hap hti (hρ x (by simp)) (hρ y (by simp)) h hbs x y)
 ·
  exact dU.pur hS (C4 (hρ _ (by simp)) h)
 ·
  rename_i s d x
  have hq:=bind_some h;clear h;obtain ⟨ts,hts,h⟩:=hq
  have hq:=bind_some h;clear h;obtain ⟨td,htd,h⟩:=hq
  exact dU.pur hS (ri hap hS hrd hts htd (hρ x (by simp)) h hbs)
 ·
  rename_i t x
  have hq:=bind_some h;clear h;obtain ⟨ti,hti,h⟩:=hq
  split at h
  ·cases h
  ·rename_i hd
   obtain ⟨rfl,rfl,rfl⟩:=aN h
   refine dU.pur hS ⟨rfl,.iface t (cρ x),run_makeInterface w t _ (wN hap hti hd), ?_⟩
   simp only [VR]
   exact ⟨_,rfl,hρ x (by simp)⟩
 ·
  rename_i f first cap
  obtain ⟨rfl,rfl,rfl⟩:=aN h
  refine dU.pur hS ⟨rfl,.func (.func f) (first.map cρ) (cap.map cρ),by simp [Instr.makeFunc], ?_⟩
  simp only [VR]
  refine ⟨(first.map cρ).toList,(cap.map cρ).toList,by rw [Array.toArray_toList,Array.toArray_toList], ?_, ?_⟩
  ·rw [Array.toList_map];exact kZ _ fun x hx=>hρ x (by simp at hx ⊢;exact .inl hx)
  ·rw [Array.toList_map];exact kZ _ fun x hx=>hρ x (by simp at hx ⊢;exact .inr hx)
 ·
  rename_i t l c
  have hq:=bind_some h;clear h;obtain ⟨ti,hti,h⟩:=hq
  obtain ⟨i,d,z,ht⟩:=cL hap hti
  exact dU.full (oD hap hS hn ht (hρ l (by simp)) (hρ c (by simp)) h hbs)
 ·
  rename_i t x lo hi mx
  have hq:=bind_some h;clear h;obtain ⟨ti,hti,h⟩:=hq
  obtain ⟨i,d,z,ht⟩:=cL hap hti
  exact dU.pur hS (vV hap hrd ht (hρ x (by simp)) (qG lo fun o ho=>hρ o (by simp at ho;simp [ho])) (qG hi fun o ho=>hρ o (by simp at ho;simp [ho])) (qG mx fun o ho=>hρ o (by simp at ho;simp [ho])) h hbs)
 ·
  rename_i s x f
  have hq:=bind_some h;clear h;obtain ⟨ti,hti,h⟩:=hq
  obtain ⟨i,d,z,ht⟩:=cL hap hti
  split at h
  ·rename_i fs hd
   have hq:=bind_some h;clear h;obtain ⟨⟨o,ft,sz⟩,hf,h⟩:=hq
   simp only at h
   split at h
   ·rename_i hsz
    have hq:=bind_some h;clear h;obtain ⟨p,hp,h⟩:=hq
    obtain ⟨rfl,rfl,rfl⟩:=aN h
    exact dU.pur hS ⟨rfl,pX ht hd hf hsz (hρ x (by simp)) hp⟩
   ·cases h
  ·cases h
 ·
  rename_i t x f
  have hq:=bind_some h;clear h;obtain ⟨ti,hti,h⟩:=hq
  obtain ⟨i,d,z,ht⟩:=cL hap hti
  exact dU.pur hS (vo hap ht (hρ x (by simp)) h hbs)
 ·
  rename_i t x ix
  have hq:=bind_some h;clear h;obtain ⟨ti,hti,h⟩:=hq
  obtain ⟨i,d,z,ht⟩:=cL hap hti
  exact dU.pur hS (oo hap hrd ht (hρ x (by simp)) (hρ ix (by simp)) h hbs)
 ·
  rename_i t x ix
  have hq:=bind_some h;clear h;obtain ⟨ti,hti,h⟩:=hq
  obtain ⟨i,d,z,ht⟩:=cL hap hti
  exact dU.pur hS (vw hap ht (hρ x (by simp)) (hρ ix (by simp)) h hbs)
 ·
  exact dU.pur hS (tF hap (hρ _ (by simp)) h _)
 ·
  rename_i t i
  have ht:=hρ t (by simp)
  split at h
  ·rename_i l e
   rw [e] at ht
   have hq:=bind_some h;clear h;obtain ⟨x,hx,h⟩:=hq
   obtain ⟨rfl,rfl,rfl⟩:=aN h
   simp only [VR] at ht
   obtain ⟨vs,hv,hl⟩:=ht
   obtain ⟨cv,h1,h2⟩:=jH hl i hx
   refine dU.pur hS ⟨rfl,cv, ?_,h2⟩
   rw [hv]
   simp [Instr.extract,h1]
  ·cases h
 ·
  rename_i b args ats
  simp only [Call.operands] at hρ
  have hargs:∀ x ∈ args,VR g m S (ρ x) (cρ x):=fun x hx=>hρ x (by simp [hx])
  split at h
  ·have hq:=bind_some h;clear h;obtain ⟨x,hx,h⟩:=hq
   have hq:=bind_some h;clear h;obtain ⟨t,hat,h⟩:=hq
   have hq:=bind_some h;clear h;obtain ⟨ti,hti,h⟩:=hq
   obtain ⟨i,d,z,ht⟩:=cL hap hti
   obtain ⟨hu,cv,h1,h2⟩:=y_ (P:=P) (w:=w) (hargs x (Array.mem_of_getElem? hx)) ht h ats hat (args.map cρ) (by simp [hx]) o.type
   subst hu
   exact dU.val hS (cv:=cv) (by simp [resolve,invoke,builtin,h1]) h2
  ·split at h
   ·rename_i s x t t1 ha hat
    have hargs':args=#[s,x]:=by apply Array.ext';simpa using ha
    have hats':ats=#[t,t1]:=by apply Array.ext';simpa using hat
    subst hargs';subst hats'
    have hq:=bind_some h;clear h;obtain ⟨ti,hti,h⟩:=hq
    have hq:=bind_some h;clear h;obtain ⟨ti1,hti1,h⟩:=hq
    obtain ⟨i,d,z,ht⟩:=cL hap hti
    obtain ⟨i1,d1,z1,ht1⟩:=cL hap hti1
    have hs:=hargs s (by simp)
    have hx:=hargs x (by simp)
    have hem':ρ s= .nilS→∃ n,mg (ρ x)=some n∧Nat.beq n 0=em:=by
     intro e
     cases hc:mg (ρ x) with
     | none=>
      exfalso
      split at h
      ·rename_i hx';rw [hx'] at hc;simp [mg] at hc
      ·cases h
      ·rename_i y hy1 _ hy2 hy3
       have hq:=bind_some h;clear h;obtain ⟨te,hte,h⟩:=hq
       unfold mR at h
       have hq:=bind_some h;clear h;obtain ⟨⟨xs,n,pr⟩,hsrc,h⟩:=hq
       cases hxx:ρ x<;>simp [hxx,mg] at hc<;>simp [hxx,xS] at hsrc
      ·cases h
     |some n=>exact ⟨n,rfl,hem n (by simp [m_,e,hc])⟩
    split at h
    ·rename_i e y hd hd1 hy
     have hq:=bind_some h;clear h;obtain ⟨te,hte,h⟩:=hq
     obtain ⟨ie,de,ze,hte'⟩:=cL hap hte
     split at h
     ·rename_i h1
      rw [ht.d_eq] at hd
      rw [ht1.d_eq] at hd1
      have hd:=dq hd
      have hd1:=mI hd1
      subst hd;subst hd1
      obtain ⟨cv,m',w',r1,r2,r3,r4⟩:=lL (P:=P) hS hrd hn ht hte' hs hx (tx:=t1) (.inl ⟨⟨y,hy⟩,ht1.und,aL h1⟩) hem' (by rw [hy];exact h) hbs o.type
      exact ⟨.value cv,m',w',by simp [resolve,invoke,builtin,r1],r2,r3,.inl ⟨cv,rfl,r4⟩⟩
     ·cases h
    ·cases h
    ·rename_i e e1 hd hd1 hns
     have hq:=bind_some h;clear h;obtain ⟨te,hte,h⟩:=hq
     obtain ⟨ie,de,ze,hte'⟩:=cL hap hte
     rw [ht.d_eq] at hd
     rw [ht1.d_eq] at hd1
     have hd:=dq hd
     have hd1:=dq hd1
     subst hd;subst hd1
     obtain ⟨cv,m',w',r1,r2,r3,r4⟩:=lL (P:=P) hS hrd hn ht hte' hs hx (tx:=t1) (.inr ⟨fun s e=>hns s e,_,ht1.und⟩) hem' h hbs o.type
     exact ⟨.value cv,m',w',by simp [resolve,invoke,builtin,r1],r2,r3,.inl ⟨cv,rfl,r4⟩⟩
    ·cases h
   ·cases h
  ·have hq:=bind_some h;clear h;obtain ⟨r,hr,h⟩:=hq
   obtain ⟨rfl,rfl,rfl⟩:=aN h
   obtain ⟨cv,h1,h2⟩:=Cl (P:=P) (w:=w) (kZ args.toList fun x hx=>hargs x (Array.mem_toList_iff.1 hx)) hr ats o.type
   refine dU.val hS (cv:=cv) ?_ h2
   have:(List.map cρ args.toList).toArray=args.map cρ:=by apply Array.ext';rw [List.toList_toArray,Array.toList_map]
   rw [this] at h1
   simp [resolve,invoke,builtin,h1]
  ·have hq:=bind_some h;clear h;obtain ⟨r,hr,h⟩:=hq
   obtain ⟨rfl,rfl,rfl⟩:=aN h
   obtain ⟨cv,h1,h2⟩:=Cj (P:=P) (w:=w) (kZ args.toList fun x hx=>hargs x (Array.mem_toList_iff.1 hx)) hr ats o.type
   refine dU.val hS (cv:=cv) ?_ h2
   have:(List.map cρ args.toList).toArray=args.map cρ:=by apply Array.ext';rw [List.toList_toArray,Array.toList_map]
   rw [this] at h1
   simp [resolve,invoke,builtin,h1]
  ·cases h
 ·cases h
end
end AM
namespace AM
open Go
structure Cx.Ok (c:Cx):Prop where
 bs:∀ b ∈ c.bs,b=true
 ps:∀ p ∈ c.ps,p
theorem R.bind_ok {α β:Type} {r:R α} {f:α→Cx→R β} {b:β} {c:Cx} (h:r.bind f= .ok b c):∃ a c1,r= .ok a c1∧f a c1= .ok b c:=by
 cases r with
 |ok a c1=>exact ⟨a,c1,rfl,h⟩
 |need=>simp [R.bind] at h
 |bad n=>simp [R.bind] at h
theorem vg {c c':Cx} {bs:List Bool} {u:Unit} (h:GF c bs= .ok u c') (hc:c'.Ok):c.Ok∧∀ b ∈ bs,b=true:=by
 unfold GF at h
 split at h
 ·split at h
  ·rename_i hb
   cases h
   exact ⟨hc,fun b hb'=>by simpa using List.all_eq_true.1 hb b hb'⟩
  ·cases h
 ·cases h
  exact ⟨⟨fun b hb=>hc.bs b (by simp [hb]),hc.ps⟩,fun b hb=>hc.bs b (by simp [hb])⟩
theorem fM {c c':Cx} {b b':Bool} (h:nZ c b= .ok b' c') (hc:c'.Ok):c.Ok∧b'=b:=by
 unfold nZ at h
 split at h
 ·cases h;exact ⟨hc,rfl⟩
 ·split at h
  ·cases h
  ·rename_i o r _
   cases h
   have h1:=hc.bs (lit b' b) (by simp)
   refine ⟨⟨fun x hx=>hc.bs x (by simp [hx]),hc.ps⟩, ?_⟩
   cases b'<;>cases b<;>simp [lit] at h1 ⊢
theorem fD {l:List Nat} {a:Nat}:kq l a=true↔a ∈ l:=by
 simp only [kq,List.any_eq_true]
 constructor
 ·rintro ⟨x,hx,h⟩;exact aL h ▸ hx
 ·intro h;exact ⟨a,h,Nat.beq_refl a⟩
theorem dZ {α β:Type} {f:α→Option β}:∀ {l:List α} {l':List β},fj f l=some l'→l'.length=l.length∧∀ (i:Nat) x,l[i]? =some x→∃ y,l'[i]? =some y∧f x=some y
 | [],l',h=>by simp [fj] at h;subst h;simp
 | a::r,l',h=>by
  simp only [fj] at h
  split at h
  ·rename_i y hy
   split at h
   ·rename_i q hq
    cases h
    obtain ⟨h1,h2⟩:=dZ hq
    refine ⟨by simp [h1], ?_⟩
    intro i x hx
    cases i with
    |zero=>simp at hx;subst hx;exact ⟨y,by simp,hy⟩
    |succ i=>simpa using h2 i x (by simpa using hx)
   ·cases h
  ·cases h
section
variable {P:Program} {ap:AP} {g:bX} {m:aX} {S:aS} {w:World}
noncomputable def bQ (S:aS) (m:aX) (rd:bX) (w:World):aS:=fun k o=>
 match S k o with
 |some v=>some v
 |none=>open Classical in if ∃ b B,rd b=some B∧(m b).1=k∧o<B.cells.length then w.cell? ⟨k,o,none⟩ else none
theorem gP (S:aS) (m:aX) (rd:bX) (w:World):iC S (bQ S m rd w):=by
 intro k o v h;simp [bQ,h]
theorem cS {rd:bX} {k o:Nat} {v:Value} (h:bQ S m rd w k o=some v):S k o=some v∨(w.cell? ⟨k,o,none⟩=some v∧∃ b B,rd b=some B∧(m b).1=k∧o<B.cells.length):=by
 unfold bQ at h
 split at h
 ·rename_i v' hv;cases h;exact .inl hv
 ·rename_i hS
  split at h
  ·rename_i hh;exact .inr ⟨h,hh⟩
  ·cases h
theorem iS (hS:bJ ap g m S w) {rd:bX} {k o:Nat} {v:Value} (h:bQ S m rd w k o=some v):w.cell? ⟨k,o,none⟩=some v:=by
 rcases cS h with h|h
 ·exact hS.sealed _ _ _ h
 ·exact h.1
theorem CH (hS:bJ ap g m S w) {rd:bX} {b:Nat} {B:a_} (hb:rd b=some B) {o:Nat} (ho:o<B.cells.length) {v:Value} (hv:w.cell? ⟨(m b).1,o,none⟩=some v):bQ S m rd w (m b).1 o=some v:=by
 unfold bQ
 split
 ·rename_i v' h'
  have:=hS.sealed _ _ _ h'
  rw [hv] at this;cases this;rfl
 ·rw [if_pos ⟨b,B,hb,rfl,ho⟩];exact hv
theorem nM (hS:bJ ap g m S w) {rd:bX} (hrd:∀ b B,rd b=some B→g b=some B) {b:Nat} {B:a_} (hb:rd b=some B):
  ∃ vs,bn g m S B.cells vs∧(B.pr=true→cZ S B.cells vs)∧fw (bQ S m rd w) (m b).1 0 vs∧vs.length=B.cells.length:=by
 obtain ⟨⟨cur,e,vs,rest,h1,h2,h3,h4,h5,h6⟩,_,_⟩:=hS.blk b B (hrd b B hb)
 refine ⟨vs,h4,h3, ?_,(bz h4).symm⟩
 intro j u hj
 have hjl:=(List.getElem?_eq_some_iff.1 hj).1
 rw [Nat.zero_add]
 refine ⟨CH hS hb (by rw [bz h4];exact hjl) ?_,h5 u (List.mem_of_getElem? hj)⟩
 rw [jh h1,h2,List.getElem?_append_left hjl];exact hj
theorem kv {S':aS} {f:AV→Option AV} (hf:∀ x v y,f x=some y→VR g m S x v→PR S' y v):∀ {l l':List AV} {vs:List Value},fj f l=some l'→bn g m S l vs→cZ S' l' vs
 | [],l',[],h,_=>by simp [fj] at h;subst h;simp [cZ]
 | x::r,l',v::vs,h,hv=>by
  simp only [fj] at h
  simp only [bn] at hv
  split at h
  ·rename_i y hy
   split at h
   ·rename_i q hq
    cases h
    simp only [cZ]
    exact ⟨hf x v y hy hv.1,kv hf hq hv.2⟩
   ·cases h
  ·cases h
 | [],_,_::_,_,h=>by simp [bn] at h
 |_::_,_,[],_,h=>by simp [bn] at h
theorem fP (hS:bJ ap g m S w) {rd:bX} (hrd:∀ b B,rd b=some B→g b=some B):∀ (fuel:Nat) (x:AV) (v:Value) (y:AV),frz rd fuel x=some y→VR g m S x v→PR (bQ S m rd w) y v:=by
 intro fuel
 induction fuel with
 |zero=>intro x v y h;simp [frz] at h
 | succ fuel ih=>
  intro x v y h hv
  have hle:=gP S m rd w
  have hlist:∀ {l l':List AV} {vs:List Value},fj (frz rd fuel) l=some l'→bn g m S l vs→cZ (bQ S m rd w) l' vs:=fun h1 h2=>kv (fun x v y hx hv=>ih x v y hx hv) h1 h2
  unfold frz at h
  simp only at h
  split at h
  ·
   rename_i b ver i n
   have hq:=bind_some h;clear h;obtain ⟨B,hB,h⟩:=hq
   split at h
   ·rename_i hver
    simp only [VR] at hv
    obtain ⟨B',hB',_,_,q⟩:=hv
    rw [hrd b B hB] at hB';cases hB'
    obtain ⟨o,rfl,hcap,ho,hpos⟩:=q (aL hver)
    obtain ⟨vs,h1,h2,h3,h4⟩:=nM hS hrd hB
    have hpart:fw (bQ S m rd w) (m b).1 o ((vs.drop (i*B.esz)).take (n*B.esz)):=by
     by_cases hi:i<(m b).2
     ·rw [ho hi]
      have:=(h3.drop (i*B.esz)).take (n*B.esz)
      rwa [Nat.zero_add] at this
     ·have hn:n=0:=by omega
      subst hn
      intro j u hj
      simp at hj
    have hfin:∀ l,cZ (bQ S m rd w) l ((vs.drop (i*B.esz)).take (n*B.esz))→PR (bQ S m rd w) (.sl l n true) (.slice (some ⟨(m b).1,o,none⟩) n ((m b).2 - i)):=by
     intro l hl
     simp only [PR]
     exact ⟨_,_,rfl,by omega,.inr ⟨_,_,_,rfl,hl,hpart⟩⟩
    split at h
    ·rename_i hpr
     cases h
     exact hfin _ (fu _ (jc _ (bU hle _ (h2 hpr))))
    ·simp only [Option.map_eq_some_iff] at h
     obtain ⟨l,hl,rfl⟩:=h
     exact hfin _ (hlist hl (jd _ (kw _ h1)))
   ·cases h
  ·
   rename_i b ver off
   have hq:=bind_some h;clear h;obtain ⟨B,hB,h⟩:=hq
   split at h
   ·rename_i hver
    simp only [VR] at hv
    obtain ⟨B',hB',_,_,q⟩:=hv
    rw [hrd b B hB] at hB';cases hB'
    have q:=q (aL hver)
    subst q
    obtain ⟨vs,h1,h2,h3,h4⟩:=nM hS hrd hB
    have hfin:∀ l,cZ (bQ S m rd w) l vs→PR (bQ S m rd w) (.pp l off) (.pointer (some ⟨(m b).1,off,none⟩)):=by
     intro l hl
     simp only [PR]
     exact ⟨_,0,_,by rw [Nat.zero_add],hl,h3⟩
    split at h
    ·rename_i hpr
     cases h
     exact hfin _ (bU hle _ (h2 hpr))
    ·simp only [Option.map_eq_some_iff] at h
     obtain ⟨l,hl,rfl⟩:=h
     exact hfin _ (hlist hl h1)
   ·cases h
  ·simp only [Option.map_eq_some_iff] at h
   obtain ⟨l,hl,rfl⟩:=h
   simp only [VR] at hv
   obtain ⟨vs,e,q⟩:=hv
   simp only [PR]
   exact ⟨vs,e,hlist hl q⟩
  ·simp only [Option.map_eq_some_iff] at h
   obtain ⟨l,hl,rfl⟩:=h
   simp only [VR] at hv
   obtain ⟨vs,e,q⟩:=hv
   simp only [PR]
   exact ⟨vs,e,hlist hl q⟩
  ·have hq:=bind_some h;clear h;obtain ⟨a,ha,h⟩:=hq
   simp only [Option.map_eq_some_iff] at h
   obtain ⟨c,hc,rfl⟩:=h
   simp only [VR] at hv
   obtain ⟨va,vc,e,q,r⟩:=hv
   simp only [PR]
   exact ⟨va,vc,e,hlist ha q,hlist hc r⟩
  ·simp only [Option.map_eq_some_iff] at h
   obtain ⟨u,hu,rfl⟩:=h
   simp only [VR] at hv
   obtain ⟨cu,e,q⟩:=hv
   simp only [PR]
   exact ⟨cu,e,ih _ _ _ hu q⟩
  ·cases h
  ·rename_i n1 n2 n3 n4 n5 n6 n7
   cases h
   refine bR hle _ ?_
   cases x<;>first
    |exact absurd rfl (n1 _ _ _ _)
    |exact absurd rfl (n2 _ _ _)
    |exact absurd rfl (n3 _)
    |exact absurd rfl (n4 _)
    |exact absurd rfl (n5 _ _ _)
    |exact absurd rfl (n6 _ _)
    |exact absurd rfl (n7 _ _ _)
    |(simp only [VR] at hv;exact hv)
    |(simp only [PR])
end
end AM
