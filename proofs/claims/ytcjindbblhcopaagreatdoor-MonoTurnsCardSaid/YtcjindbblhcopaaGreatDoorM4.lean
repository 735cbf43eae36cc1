/- The abstract machine over the code of the model, and the proof that it is sound. No conditions. -/
import Derived.Test.YtcjindbblhcopaaGreatDoorM3
import Derived.Recover
import Derived.ProofKit
import Derived.OpenShut
import Derived.LaidLaws
import Derived.LaidSub
import Derived.Lib.LaidTab
set_option linter.unusedSimpArgs false
set_option linter.unusedVariables false
namespace AM
open Go
theorem og {α:Type} {P:Program} {w:World} (f:α→Sem Value):∀ (l:List α) (vs:List Value),l.length=vs.length→(∀ (i:Nat) (x:α) (v:Value),l[i]? =some x→vs[i]? =some v→(f x).run P w= .ok v w)→(l.mapM f).run P w= .ok vs w
 | [],[],_,_=>rfl
 |a::l,v::vs,hl,h=>by
  rw [List.mapM_cons,Sem.run_bind,h 0 a v rfl rfl,Result.andThen_ok,Sem.run_bind,og f l vs (by simpa using hl) fun i x u hx hu=>h (i+1) x u (by simpa using hx) (by simpa using hu),Result.andThen_ok]
  rfl
 | [],_::_,hl,_=>by simp at hl
 |_::_,[],hl,_=>by simp at hl
def yt (tmps:Array Value):ResultVar→Sem Value
 | .tmp t=>pure (tmps.getD t undef)
 | .cell a t=>do loadVar t (← asAddr (tmps.getD a undef))
def I4 (vs:List Value):Value:=match vs with| [v]=>v|vs=> .tuple vs.toArray
theorem Dy (fn:Func) (tmps:Array Value):results fn tmps=(do let vs ← fn.results.mapM (yt tmps);pure (if h:vs.size=1 then vs[0] else .tuple vs)):=by
 unfold results
 congr 2
theorem mQ {P:Program} {w:World} {fn:Func} {tmps:Array Value} {vs:List Value} (hl:fn.results.toList.length=vs.length)
  (h:∀ (i:Nat) (r:ResultVar) (v:Value),fn.results.toList[i]? =some r→vs[i]? =some v→(yt tmps r).run P w= .ok v w):
  (results fn tmps).run P w= .ok (I4 vs) w:=by
 rw [Dy,Array.mapM_eq_mapM_toList]
 simp only [bind_map_left]
 rw [Sem.run_bind,og _ _ vs hl h,Result.andThen_ok]
 match vs with
 | []=>rfl
 | [v]=>rfl
 |_::_::_=>simp [I4]
theorem BK {S:aJ} {m:aN} {rd rd':bL} {w:World} (h:∀ b B,rd b=some B→rd' b=some B):iC (bO S m rd w) (bO S m rd' w):=by
 intro k o v hv
 unfold bO at hv ⊢
 split at hv
 ·rename_i u hu;exact hv
 ·rename_i hu
  split at hv
  ·rename_i hc
   obtain ⟨b,B,h1,h2,h3⟩:=hc
   rw [if_pos ⟨b,B,h b B h1,h2,h3⟩]
   exact hv
  ·cases hv
def cl (rd:bL) (v:AV):List Nat:=lN rd 6 (eU (ct v))
inductive xq (base:Nat) (rd:bL) (all:List Nat):AV→AV→Prop
 |own {b n:Nat} {B:aL}:rd b=some B→base≤b→B.fro=false→B.pr=true→dq all b=1→0<B.esz→xq base rd all (.ref b B.ver 0 n) (.own (B.cells.take (n*B.esz)) n B.esz)
 |low {v:AV}:(∀ b ∈ ct v,b<base)→xq base rd all v v
 |frz {v v':AV}:(∀ b ∈ cl rd v,base≤b)→frz (fun b=>match jN (cl rd v) b with|true=>rd b|false=>none) 6 v=some v'→xq base rd all v v'
theorem FH {base:Nat} {rd:bL} {v v':AV} (h:K2 base rd v=some v'):(∀ b ∈ cl rd v,base≤b)∧frz (fun b=>match jN (cl rd v) b with|true=>rd b|false=>none) 6 v=some v':=by
 unfold K2 at h
 dsimp only at h
 split at h
 ·rename_i ha
  exact ⟨fun b hb=>dz (List.all_eq_true.1 ha b hb),h⟩
 ·cases h
theorem xR {base:Nat} {rd:bL} {all:List Nat} {v v':AV} (h:(match (ct v).all (fun b=>Nat.blt b base) with|true=>some v|false=>K2 base rd v)=some v'):xq base rd all v v':=by
 split at h
 ·rename_i ha
  cases h
  exact .low fun b hb=>cZ (List.all_eq_true.1 ha b hb)
 ·obtain ⟨h1,h2⟩:=FH h
  exact .frz h1 h2
theorem qf {base:Nat} {rd:bL} {all:List Nat} {v v':AV} (h:kW base rd all v=some v'):xq base rd all v v':=by
 unfold kW at h
 dsimp only at h
 split at h
 ·rename_i b ver n
  split at h
  ·rename_i B hB
   split at h
   ·rename_i hc
    cases h
    simp only [Bool.and_eq_true,Bool.not_eq_true'] at hc
    obtain ⟨⟨⟨⟨⟨h1,h2⟩,h3⟩,h4⟩,h5⟩,h6⟩:=hc
    have h2:=ax h2
    subst h2
    exact .own hB (dz h1) h3 h4 (ax h5) (cZ h6)
   ·exact xR h
  ·cases h
 ·exact xR h
theorem ng {l:List Nat} {b:Nat} (h:b ∈ l):1≤dq l b:=by
 unfold dq
 have:b ∈ l.filter (Nat.beq b):=by rw [List.mem_filter];exact ⟨h,Nat.beq_refl b⟩
 exact List.length_pos_of_mem this
theorem kT {l l':List Nat} {b:Nat}:dq (l++l') b=dq l b+dq l' b:=by simp [dq,List.filter_append]
theorem qP {α:Type} {f:α→List Nat} {b:Nat}:∀ (vs:List α) (i j:Nat) (v v':α),vs[i]? =some v→vs[j]? =some v'→i ≠ j→b ∈ f v→b ∈ f v'→2≤dq (vs.flatMap f) b
 | [],i,j,v,v',h,_,_,_,_=>by simp at h
 | a::r,i,j,v,v',hi,hj,hne,hb,hb'=>by
  have hone:∀ (k:Nat) (u:α),r[k]? =some u→b ∈ f u→1≤dq (r.flatMap f) b:=by
   intro k u hk hu
   exact ng (List.mem_flatMap.2 ⟨u,List.mem_of_getElem? hk,hu⟩)
  rw [List.flatMap_cons,kT]
  cases i with
  |zero=>
   simp at hi;subst hi
   cases j with
   |zero=>exact absurd rfl hne
   |succ j=>have:=hone j v' (by simpa using hj) hb';have:=ng hb;omega
  | succ i=>
   cases j with
   |zero=>simp at hj;subst hj;have:=hone i v (by simpa using hi) hb;have:=ng hb';omega
   |succ j=>
    have:=qP r i j v v' (by simpa using hi) (by simpa using hj) (by omega) hb hb'
    omega
def gA:List AV→List AV→List (Nat × aL)
 |v::r,.own xs _ esz::q=>(match v with| .ref b _ _ _=> [(b,zR xs esz)]|_=> [])++gA r q
 |_::r,_::q=>gA r q
 |_,_=> []
theorem fg {v x:AV} {r q:List AV} (h:∀ xs k e,x ≠ .own xs k e):gA (v::r) (x::q)=gA r q:=by
 cases x<;>first|rfl|exact absurd rfl (h _ _ _)
section
variable {P:Program} {ap:AP} {base:Nat} {rd:bL} {all:List Nat}
theorem oz {g:bL} {m:aN} {S:aJ} {x:AV} {v:Value} (h:VR g m S x v):∀ xs k e,x ≠ .own xs k e:=by
 rintro xs k e rfl;simp [VR] at h
theorem t_ {S:aJ} {x:AV} {v:Value} (h:PR S x v):∀ xs k e,x ≠ .own xs k e:=by
 rintro xs k e rfl;simp [PR] at h
end
end AM
namespace AM
open Go
theorem vC {b:Nat}:∀ (l acc:List Nat),(b ∈ l∨b ∈ acc)→b ∈ l.foldl sJ acc
 | [],acc,h=>by simpa using h
 | a::r,acc,h=>by
  simp only [List.foldl_cons]
  refine vC r _ ?_
  rcases h with h|h
  ·rcases List.mem_cons.1 h with rfl|h
   ·right
    unfold sJ
    split
    ·rename_i hm;exact eF.1 hm
    ·simp
   ·exact .inl h
  ·right
   obtain h':=h
   unfold sJ
   split
   ·exact h
   ·simp [h]
theorem Dl {l:List Nat} {b:Nat} (h:b ∈ l):b ∈ eU l:=vC l [] (.inl h)
theorem zM (l:List Nat):(eU l).Nodup:=(ju l [] (by simp)).1
theorem IB {rd:bL} {v:AV} {b:Nat} (h:b ∈ ct v):b ∈ cl rd v:=by
 obtain ⟨_,t,ht⟩:=mb rd 6 (eU (ct v)) (zM _)
 unfold cl
 rw [ht]
 exact List.mem_append.2 (.inl (Dl h))
theorem ry:∀ {vs l:List AV} {b:Nat} {Bo:aL},(b,Bo) ∈ gA vs l→∃ ver i n xs k e,(AV.ref b ver i n,AV.own xs k e) ∈ vs.zip l∧Bo=zR xs e
 | [],l,b,Bo,h=>by cases l<;>simp [gA] at h
 |v::r,[],b,Bo,h=>by simp [gA] at h
 | v ::r,x::q,b,Bo,h=>by
  rcases fo x with ⟨xs,k,e,rfl⟩|hx
  ·simp only [gA,List.mem_append] at h
   rcases h with h|h
   ·cases v with
    |ref b' ver i n=>
     simp at h
     obtain ⟨rfl,rfl⟩:=h
     exact ⟨ver,i,n,xs,k,e,by simp,rfl⟩
    |_=>simp at h
   ·obtain ⟨ver,i,n,xs',k',e',h1,h2⟩:=ry h
    exact ⟨ver,i,n,xs',k',e',by simp [h1],h2⟩
  ·rw [fg hx] at h
   obtain ⟨ver,i,n,xs',k',e',h1,h2⟩:=ry h
   exact ⟨ver,i,n,xs',k',e',by simp [h1],h2⟩
theorem vM {rd:bL} {b:Nat}:∀ (vs l:List AV),dq ((gA vs l).flatMap fun q=> [q.1]) b≤dq (vs.flatMap (cl rd)) b
 | [],l=>by cases l<;>simp [gA,dq]
 |v::r,[]=>by simp [gA,dq]
 | v :: r,x::q=>by
  have ih:=vM (rd:=rd) (b:=b) r q
  rw [List.flatMap_cons,kT]
  rcases fo x with ⟨xs,k,e,rfl⟩|hx
  ·simp only [gA,List.flatMap_append,kT]
   cases v with
   | ref b' ver i n=>
    simp only [List.flatMap_cons,List.flatMap_nil,List.append_nil]
    have:dq [b'] b≤dq (cl rd (.ref b' ver i n)) b:=by
     by_cases hb:b=b'
     ·subst hb
      have h1:dq [b] b=1:=by simp [dq]
      rw [h1]
      exact ng (IB (by simp [ct]))
     ·have h1:dq [b'] b=0:=by
       have:Nat.beq b b'=false:=by
        cases hh:Nat.beq b b' with
        |false=>rfl
        |true=>exact absurd (ax hh) hb
       simp [dq,this]
      omega
    omega
   |_=>simp [dq] at*;omega
  ·rw [fg hx];omega
theorem vX:∀ (vs l:List AV) (n:Nat),vs.length=l.length→(∀ v x,(v,x) ∈ vs.zip l→(∃ xs k e,x= .own xs k e)→∃ b ver i n,v= .ref b ver i n)→(dc n l).2=(gA vs l).map (·.2)
 | [],[],n,_,_=>by simp [dc,gA]
 | v::r,x::q,n,hl,h=>by
  have ih:=fun n=>vX r q n (by simpa using hl) fun v x hm hx=>h v x (by simp [hm]) hx
  rcases fo x with ⟨xs,k,e,rfl⟩|hx
  ·obtain ⟨b,ver,i,n',rfl⟩:=h v _ (by simp) ⟨xs,k,e,rfl⟩
   simp only [dc,gA,ih]
   simp
  ·rw [aT n hx,fg hx]
   exact ih n
 | [],_::_,_,hl,_=>by simp at hl
 |_::_,[],_,hl,_=>by simp at hl
theorem zQ {rd gh gf:bL} {m m':aN} {S S':aJ}:∀ (vs l:List AV) (cvs:List Value) (n:Nat),vs.length=l.length→aQ rd m S vs cvs→
  (∀ v x,(v,x) ∈ vs.zip l→(∃ xs k e,x= .own xs k e)→∃ b ver n,v= .ref b ver 0 n∧∃ xs e,x= .own xs n e)→
  (∀ v x c,(v,x) ∈ vs.zip l→(∀ xs k e,x ≠ .own xs k e)→VR rd m S v c→VR gh m' S' x c)→
  (∀ (k b:Nat) (Bo:aL),(gA vs l)[k]? =some (b,Bo)→∀ ver n' c,VR rd m S (.ref b ver 0 n') c→(∃ xs e,(AV.ref b ver 0 n',AV.own xs n' e) ∈ vs.zip l)→VR gf m' S' (.ref (n+k) 0 0 n') c)→fu gh gf m' S' n l cvs
 | [],[],[],n,_,_,_,_,_=>by simp [fu]
 | v::r,x::q,c::cs,n,hl,hv,ho,hx,hr=>by
  simp only [aQ] at hv
  rcases fo x with ⟨xs,k,e,rfl⟩|hxo
  ·obtain ⟨b,ver,n',rfl,xs',e',he⟩:=ho v _ (by simp) ⟨xs,k,e,rfl⟩
   cases he
   simp only [fu]
   refine ⟨?_, ?_⟩
   ·have:=hr 0 b (zR xs e) (by simp [gA]) ver k c hv.1 ⟨xs,e,by simp⟩
    rwa [Nat.add_zero] at this
   ·refine zQ r q cs (n+1) (by simpa using hl) hv.2 (fun v x hm=>ho v x (by simp [hm])) (fun v x c hm=>hx v x c (by simp [hm])) ?_
    intro j b' Bo hj ver' n'' c' hc' hz
    have:=hr (j+1) b' Bo (by simpa [gA] using hj) ver' n'' c' hc' (by obtain ⟨xs,e,hz⟩:=hz;exact ⟨xs,e,by simp [hz]⟩)
    rwa [show n+(j+1)=n+1+j by omega] at this
  ·rw [bu hxo]
   refine ⟨hx v x c (by simp) hxo hv.1, ?_⟩
   refine zQ r q cs n (by simpa using hl) hv.2 (fun v x hm=>ho v x (by simp [hm])) (fun v x c hm=>hx v x c (by simp [hm])) ?_
   intro j b' Bo hj ver' n'' c' hc' hz
   exact hr j b' Bo (by rw [fg hxo];exact hj) ver' n'' c' hc' (by obtain ⟨xs,e,hz⟩:=hz;exact ⟨xs,e,by simp [hz]⟩)
 | [],_::_,_,_,hl,_,_,_,_=>by simp at hl
 |_::_,[],_,_,hl,_,_,_,_=>by simp at hl
 | [],[],_::_,_,_,hv,_,_,_=>by simp [aQ] at hv
 |_::_,_::_,[],_,_,hv,_,_,_=>by simp [aQ] at hv
theorem Bm {α β:Type} {f:α→Option β}:∀ {l:List α} {l':List β},fZ f l=some l'→∀ x y,(x,y) ∈ l.zip l'→f x=some y
 | [],l',h,x,y,hm=>by simp at hm
 | a::r,l',h,x,y,hm=>by
  simp only [fZ] at h
  split at h
  ·rename_i b hb
   split at h
   ·rename_i q hq
    cases h
    simp only [List.zip_cons_cons,List.mem_cons,Prod.mk.injEq] at hm
    rcases hm with ⟨rfl,rfl⟩|hm
    ·exact hb
    ·exact Bm hq x y hm
   ·cases h
  ·cases h
theorem E8 {α β:Type} {l:List α} {l':List β} {x:α} {y:β} (h:(x,y) ∈ l.zip l'):∃ i:Nat,l[i]? =some x∧l'[i]? =some y:=by
 obtain ⟨i,hi⟩:=List.mem_iff_getElem?.1 h
 rw [List.getElem?_zip_eq_some] at hi
 exact ⟨i,hi⟩
theorem J9 {g:bL} {m:aN} {S:aJ} {l:List AV} {vs:List Value} (h:aQ g m S l vs) {x:AV} (hx:x ∈ l):∃ v,VR g m S x v:=by
 obtain ⟨i,hi⟩:=List.mem_iff_getElem?.1 hx
 obtain ⟨v,_,hv⟩:=kP h i hi
 exact ⟨v,hv⟩
end AM
namespace AM
open Go
section
variable {P:Program} {ap:AP}
theorem oK {h0 h':List aL} {hp:Hp} {m m0:aN} {S S0:aJ} {w w0:World} {vs l:List AV} {cvs:List Value} (hS:br ap (look hp) m S w) (hfr:Fr (aS h0) m0 S0 w0 (look hp) m S w) (hv:aQ (look hp) m S vs cvs)
  {N:Nat} (hN:h0.length≤N) (hl:fZ (kW N (look hp) (vs.flatMap (cl (look hp)))) vs=some l) (hh':fZ (look hp) (List.range N)=some h') (hbase:h'.all (fun B=>B.pr||(bq B.cells).all fun b=>Nat.blt b N)=true):
  ∃ m' S',br ap (aS (h'++(dc h'.length l).2)) m' S' w∧Fr (aS h0) m0 S0 w0 (aS (h'++(dc h'.length l).2)) m' S' w∧fu (aS h') (aS (h'++(dc h'.length l).2)) m' S' h'.length l cvs:=by
 have hlen:=(eS hl).1
 have hz:∀ v x,(v,x) ∈ vs.zip l→xq N (look hp) (vs.flatMap (cl (look hp))) v x:=fun v x hm=>qf (Bm hl v x hm)
 have hown:∀ v x,(v,x) ∈ vs.zip l→(∃ xs k e,x= .own xs k e)→∃ (b n:Nat) (B:aL),v= .ref b B.ver 0 n∧look hp b=some B∧N≤b∧B.fro=false∧B.pr=true∧dq (vs.flatMap (cl (look hp))) b=1∧0<B.esz∧x= .own (B.cells.take (n*B.esz)) n B.esz:=by
  rintro v x hm ⟨xs,k,e,rfl⟩
  obtain ⟨c,hc⟩:=J9 hv (List.of_mem_zip hm).1
  generalize hxe:AV.own xs k e=x at hm
  cases hz v x hm with
  |own h1 h2 h3 h4 h5 h6=>exact ⟨_,_,_,rfl,h1,h2,h3,h4,h5,h6,rfl⟩
  |low h1=>exact absurd hxe.symm (oz hc _ _ _)
  |frz h1 h2=>
   refine absurd hxe.symm (t_ (gH hS (fun b B hb=> ?_) 6 v c x h2 hc) _ _ _)
   split at hb
   ·exact hb
   ·cases hb
 generalize hobs:gA vs l=obs
 have hbs:∀ n,(dc n l).2=obs.map (·.2):=by
  intro n
  rw [← hobs]
  refine vX vs l n hlen.symm fun v x hm hx=> ?_
  obtain ⟨b,n',B,h1,_⟩:=hown v x hm hx
  exact ⟨b,_,0,n',h1⟩
 rw [hbs]
 have hobm:∀ b Bo,(b,Bo) ∈ obs→∃ (n:Nat) (B:aL),look hp b=some B∧N≤b∧B.fro=false∧B.pr=true∧dq (vs.flatMap (cl (look hp))) b=1∧0<B.esz∧Bo=zR (B.cells.take (n*B.esz)) B.esz∧(AV.ref b B.ver 0 n,AV.own (B.cells.take (n*B.esz)) n B.esz) ∈ vs.zip l:=by
  intro b Bo hm
  rw [← hobs] at hm
  obtain ⟨ver,i,n,xs,k,e,h1,h2⟩:=ry hm
  obtain ⟨b',n',B,h3,h4,h5,h6,h7,h8,h9,h10⟩:=hown _ _ h1 ⟨xs,k,e,rfl⟩
  cases h3
  cases h10
  exact ⟨_,B,h4,h5,h6,h7,h8,h9,h2,h1⟩
 have hobd:∀ (k k' b:Nat) (Bo Bo':aL),obs[k]? =some (b,Bo)→obs[k']? =some (b,Bo')→k=k':=by
  intro k k' b Bo Bo' h1 h2
  obtain ⟨n,B,_,_,_,_,h5,_⟩:=hobm b Bo (List.mem_of_getElem? h1)
  by_cases hk:k=k'
  ·exact hk
  ·have h3:=qP (f:=fun q:Nat × aL=> [q.1]) obs k k' _ _ h1 h2 hk (b:=b) (by simp) (by simp)
   have h4:=vM (rd:=look hp) (b:=b) vs l
   rw [hobs] at h4
   omega
 have hobx:∀ b Bo,(b,Bo) ∈ obs→∀ v x,(v,x) ∈ vs.zip l→(∀ xs k e,x ≠ .own xs k e)→b ∉ cl (look hp) v:=by
  intro b Bo hm v x hvx hx hb
  obtain ⟨n,B,_,_,_,_,h5,_,_,h6⟩:=hobm b Bo hm
  obtain ⟨i,h7,h8⟩:=E8 h6
  obtain ⟨j,h9,h10⟩:=E8 hvx
  have hne:i ≠ j:=by
   rintro rfl
   rw [h8] at h10
   cases h10
   exact hx _ _ _ rfl
  have:=qP (f:=cl (look hp)) vs i j _ _ h7 h9 hne (b:=b) (IB (by simp [ct])) hb
  omega
 have hl0:h'.length=N:=by rw [(eS hh').1];simp
 have hlow:∀ b,b<N→∃ B,look hp b=some B∧aS h' b=some B:=by
  intro b hb
  obtain ⟨B,h1,h2⟩:=(eS hh').2 b b (by simp [hb])
  exact ⟨B,h2,h1⟩
 have hlow':∀ b B,aS h' b=some B→b<N∧look hp b=some B:=by
  intro b B hb
  have hlt:b<N:=by
   have:=(List.getElem?_eq_some_iff.1 hb).1
   omega
  obtain ⟨B',h1,h2⟩:=hlow b hlt
  rw [hb] at h2;cases h2
  exact ⟨hlt,h1⟩
 let rdF:bL:=open Classical in fun b=>if ∃ v x,(v,x) ∈ vs.zip l∧(∀ xs k e,x ≠ .own xs k e)∧b ∈ cl (look hp) v∧∀ y ∈ cl (look hp) v,N≤y then look hp b else none
 have hrdF:∀ b B,rdF b=some B→look hp b=some B∧N≤b∧∀ Bo,(b,Bo) ∉ obs:=by
  intro b B hb
  dsimp only [rdF] at hb
  split at hb
  ·rename_i hc
   obtain ⟨v,x,h1,h2,h3,h4⟩:=hc
   exact ⟨hb,h4 b h3,fun Bo hm=>hobx b Bo hm v x h1 h2 h3⟩
  ·cases hb
 have hSle:=iJ S m rdF w
 let m':aN:=fun i=>if i<N then m i else m ((obs.map (·.1)).getD (i - N) 0)
 have hm'lo:∀ i,i<N→m' i=m i:=fun i hi=>if_pos hi
 have hm'hi:∀ (k b:Nat) (Bo:aL),obs[k]? =some (b,Bo)→m' (N+k)=m b:=by
  intro k b Bo hk
  show (if _ then _ else _)=_
  rw [if_neg (by omega),show N+k - N=k by omega,List.getD_eq_getElem?_getD,List.getElem?_map,hk]
  rfl
 have hgf:∀ i Bi,aS (h'++obs.map (·.2)) i=some Bi→(i<N∧look hp i=some Bi∧aS h' i=some Bi)∨(∃ k b,i=N+k∧obs[k]? =some (b,Bi)):=by
  intro i Bi hi
  by_cases hlt:i<N
  ·rw [cT (by omega)] at hi
   exact .inl ⟨hlt,(hlow' i Bi hi).2,hi⟩
  ·rw [eQ (by omega),hl0] at hi
   right
   refine ⟨i - N, ?_⟩
   have hi':(obs.map (·.2))[i - N]? =some Bi:=hi
   rw [List.getElem?_map,Option.map_eq_some_iff] at hi'
   obtain ⟨⟨b,Bo⟩,h1,h2⟩:=hi'
   exact ⟨b,by omega,by rw [h1];simp at h2;rw [h2]⟩
 have hgfk:∀ (k b:Nat) (Bo:aL),obs[k]? =some (b,Bo)→aS (h'++obs.map (·.2)) (N+k)=some Bo:=by
  intro k b Bo hk
  rw [eQ (by omega),hl0,show N+k - N=k by omega]
  show (obs.map (·.2))[k]? =_
  rw [List.getElem?_map,hk];rfl
 have hsrc:∀ i Bi,aS (h'++obs.map (·.2)) i=some Bi→∃ b B,look hp b=some B∧m' i=m b∧((i<N∧b=i∧Bi=B)∨(N≤b∧∃ k,i=N+k∧obs[k]? =some (b,Bi))):=by
  intro i Bi hi
  rcases hgf i Bi hi with ⟨h1,h2,h3⟩|⟨k,b,rfl,hk⟩
  ·exact ⟨i,Bi,h2,hm'lo i h1,.inl ⟨h1,rfl,rfl⟩⟩
  ·obtain ⟨n,B,h1,h2,_⟩:=hobm b Bi (List.mem_of_getElem? hk)
   exact ⟨b,B,h1,hm'hi k b Bi hk,.inr ⟨h2,k,rfl,hk⟩⟩
 refine ⟨m',bO S m rdF w, ?_, ?_, ?_⟩
 ·refine ⟨?_, ?_,fun k o v h=>jF hS h, ?_, ?_⟩
  ·intro i j Bi Bj hi hj e
   obtain ⟨b,B,h1,h2,h3⟩:=hsrc i Bi hi
   obtain ⟨b',B',h1',h2',h3'⟩:=hsrc j Bj hj
   rw [h2,h2'] at e
   have:=hS.inj b b' B B' h1 h1' e
   subst this
   rcases h3 with ⟨h4,rfl,_⟩|⟨h4,k,rfl,hk⟩<;>rcases h3' with ⟨h4',rfl,_⟩|⟨h4',k',rfl,hk'⟩
   ·rfl
   ·omega
   ·omega
   ·rw [hobd k k' b _ _ hk hk']
  ·intro i Bi hi
   rcases hgf i Bi hi with ⟨h1,h2,h3⟩|⟨k,b,rfl,hk⟩
   ·rw [hm'lo i h1]
    obtain ⟨⟨cur,e,us,rest,k1,k2,k3,k4,k5,k6⟩,k7,k8⟩:=hS.blk i Bi h2
    refine ⟨⟨cur,e,us,rest,k1,k2,fun hp=>aX hSle _ (k3 hp), ?_,k5,k6⟩,k7,k8⟩
    cases hpr:Bi.pr with
    |true=>exact bh _ (aX hSle _ (k3 hpr))
    |false=>
     refine iG hSle _ (fun b hb=> ?_) k4
     have h5:=List.all_eq_true.1 hbase Bi (List.mem_of_getElem? h3)
     rw [hpr] at h5
     simp only [Bool.false_or] at h5
     have h6:=cZ (List.all_eq_true.1 h5 b hb)
     obtain ⟨B,h7,h8⟩:=hlow b h6
     exact ⟨by rw [cT (by omega),h8,h7],hm'lo b h6⟩
   ·obtain ⟨n,B,h1,h2,h3,h4,h5,h6,rfl,_⟩:=hobm b Bi (List.mem_of_getElem? hk)
    rw [hm'hi k b _ hk]
    obtain ⟨⟨cur,e,us,rest,k1,k2,k3,k4,k5,k6⟩,k7,k8⟩:=hS.blk b B h1
    have hp:=aX hSle _ (gi (n*B.esz) (k3 h4))
    refine ⟨⟨cur,e,us.take (n*B.esz),us.drop (n*B.esz)++rest,k1, ?_,fun _=>hp,bh _ hp,fun hz u hu=>k5 hz u (List.mem_of_mem_take hu),k6⟩,fun _=>rfl,Nat.zero_le _⟩
    rw [← List.append_assoc,List.take_append_drop];exact k2
  ·intro i Bi hi o v ho
   obtain ⟨b,B,h1,h2,h3⟩:=hsrc i Bi hi
   rw [h2] at ho
   have hno:rdF b=none:=by
    cases hr:rdF b with
    |none=>rfl
    |some B'=>
     obtain ⟨_,h4,h5⟩:=hrdF b B' hr
     rcases h3 with ⟨h6,rfl,_⟩|⟨_,k,_,hk⟩
     ·omega
     ·exact absurd (List.mem_of_getElem? hk) (h5 _)
   have hSo:S (m b).1 o=some v:=by
    rcases dh ho with h|⟨_,b',B',h4,h5,_⟩
    ·exact h
    ·have:=hS.inj b' b B' B (hrdF b' B' h4).1 h1 h5
     subst this
     rw [hno] at h4;cases h4
   obtain ⟨h7,h8⟩:=hS.own b B h1 o v hSo
   rcases h3 with ⟨_,rfl,rfl⟩|⟨_,k,_,hk⟩
   ·exact ⟨h7,h8⟩
   ·obtain ⟨n,B2,h9,_,h10,_⟩:=hobm b _ (List.mem_of_getElem? hk)
    rw [h1] at h9;cases h9
    rw [h7] at h10;cases h10
  ·intro k xs hk
   obtain ⟨us,h1,h2⟩:=hS.glob k xs hk
   exact ⟨us,aX hSle _ h1,h2.mono hSle⟩
 ·refine ⟨?_,hfr.sle.trans hSle,hfr.os,hfr.tape,hfr.output,hfr.size,hfr.rest, ?_, ?_⟩
  ·intro b B0 hb
   have hlt:b<N:=Nat.lt_of_lt_of_le (List.getElem?_eq_some_iff.1 hb).1 hN
   obtain ⟨B,h1,h2,h3⟩:=hfr.ge b B0 hb
   obtain ⟨B',h4,h5⟩:=hlow b hlt
   rw [h1] at h4;cases h4
   exact ⟨B,by rw [cT (by omega)];exact h5,h2,by rw [hm'lo b hlt];exact h3⟩
  ·intro i Bi hi
   obtain ⟨b,B,h1,h2,h3⟩:=hsrc i Bi hi
   rw [h2]
   rcases hfr.img b B h1 with h|⟨B0,h4,h5⟩
   ·exact .inl h
   ·have hlt:b<N:=Nat.lt_of_lt_of_le (List.getElem?_eq_some_iff.1 h4).1 hN
    rcases h3 with ⟨_,rfl,_⟩|⟨h6,_⟩
    ·exact .inr ⟨B0,h4,h5⟩
    ·omega
  ·intro k o v hv
   rcases dh hv with h|⟨_,b,B,h1,h2,_⟩
   ·exact hfr.sealN k o v h
   ·obtain ⟨h3,h4,_⟩:=hrdF b B h1
    rcases hfr.img b B h3 with h|⟨B0,h5,_⟩
    ·exact .inr (.inl (h2 ▸ h))
    ·have:=(List.getElem?_eq_some_iff.1 h5).1
     omega
 ·rw [hl0]
  refine zQ (rd:=look hp) (m:=m) (S:=S) vs l cvs N hlen.symm hv ?_ ?_ ?_
  ·intro v x hm hx
   obtain ⟨b,n,B,h1,_,_,_,_,_,_,h2⟩:=hown v x hm hx
   exact ⟨b,B.ver,n,h1,_,_,h2⟩
  ·intro v x c hm hx hc
   cases hz v x hm with
   |own _ _ _ _ _ _=>exact absurd rfl (hx _ _ _)
   |low h1=>
    refine pE hSle v (fun b hb=> ?_) hc
    obtain ⟨B,h2,h3⟩:=hlow b (h1 b hb)
    exact ⟨by rw [h3,h2],hm'lo b (h1 b hb)⟩
   | frz h1 h2=>
    have h3:=gH hS (fun b B hb=>by split at hb;exact hb;cases hb) 6 v c x h2 hc
    refine d_ x (bF (BK fun b B hb=> ?_) x h3)
    split at hb
    ·rename_i hm2
     dsimp only [rdF]
     rw [if_pos ⟨v,x,hm,hx,eF.1 hm2,h1⟩]
     exact hb
    ·cases hb
  ·rw [hobs]
   intro k b Bo hk ver n' c hc hzz
   obtain ⟨n,B,h1,h2,h3,h4,h5,h6,rfl,h7⟩:=hobm b Bo (List.mem_of_getElem? hk)
   obtain ⟨xs,e,hzz⟩:=hzz
   have hver:ver=B.ver:=by
    obtain ⟨b2,n2,B2,e1,e2,_⟩:=hown _ _ hzz ⟨xs,_,e,rfl⟩
    cases e1
    rw [h1] at e2;cases e2;rfl
   subst hver
   simp only [VR] at hc ⊢
   obtain ⟨B',h8,_,h9,h10⟩:=hc
   rw [h1] at h8;cases h8
   refine ⟨_,hgfk k b _ hk,Nat.zero_le _,h9,fun _=> ?_⟩
   rw [hm'hi k b _ hk]
   exact h10 rfl
end
end AM
namespace AM
open Go
section
variable {P:Program} {ap:AP}
theorem xm (hap:eB P ap) {env:dY} {hp:Hp} {m:aN} {S:aJ} {w:World} {tmps:Array Value} (hS:br ap (look hp) m S w) (he:∀ t,VR (look hp) m S (env.get t) (tmps.getD t undef)) {r:ResultVar} {v:AV} {bs:List Bool}
  (h:qu ap env hp r=some (v,bs)) (hbs:∀ b ∈ bs,b=true):∃ cv,(yt tmps r).run P w= .ok cv w∧VR (look hp) m S v cv:=by
 cases r with
 |tmp t=>
  simp only [qu,Option.some.injEq,Prod.mk.injEq] at h
  obtain ⟨rfl,rfl⟩:=h
  exact ⟨_,rfl,he t⟩
 | cell a t=>
  simp only [qu] at h
  have hq:=bind_some h;clear h;obtain ⟨ti,hti,h⟩:=hq
  simp only [Option.map_eq_some_iff] at h
  obtain ⟨⟨v',ups,bs'⟩,h1,h2⟩:=h
  simp only [Prod.mk.injEq] at h2
  obtain ⟨rfl,rfl⟩:=h2
  obtain ⟨i,d,z,ht⟩:=cj hap hti
  have hva:=he a
  obtain ⟨_,cv,h3,h4⟩:=rZ hS (fun b B hb=>hb) ht hva h1 hbs
  refine ⟨cv, ?_,h4⟩
  have hptr:∃ x,tmps.getD a undef= .pointer (some x):=by
   unfold Bk at h1
   split at h1
   ·rename_i xs off heq
    rw [heq] at hva
    simp only [VR,PR] at hva
    obtain ⟨b,o,vs,e,_⟩:=hva
    exact ⟨_,e⟩
   ·rename_i b ver off heq
    rw [heq] at hva
    simp only [VR] at hva
    obtain ⟨B,_,_,⟨k,o,e⟩,_⟩:=hva
    exact ⟨_,e⟩
   ·cases h1
  obtain ⟨x,hx⟩:=hptr
  rw [hx] at h3
  simp only [yt,hx]
  exact h3
theorem jR (hap:eB P ap) {env:dY} {hp:Hp} {m:aN} {S:aJ} {w:World} {tmps:Array Value} (hS:br ap (look hp) m S w) (he:∀ t,VR (look hp) m S (env.get t) (tmps.getD t undef)):
  ∀ {rs:List ResultVar} {vs:List (AV × List Bool)},fZ (qu ap env hp) rs=some vs→(∀ b ∈ vs.flatMap (·.2),b=true)→∃ cvs:List Value,rs.length=cvs.length∧aQ (look hp) m S (vs.map (·.1)) cvs∧∀ (i:Nat) (r:ResultVar) (v:Value),rs[i]? =some r→cvs[i]? =some v→(yt tmps r).run P w= .ok v w
 | [],vs,h,_=>by
  simp [fZ] at h
  subst h
  exact ⟨[],rfl,by simp [aQ],fun i r v h=>by simp at h⟩
 | r::rs,vs,h,hbs=>by
  simp only [fZ] at h
  split at h
  ·rename_i q hq
   split at h
   ·rename_i l hl
    cases h
    obtain ⟨v,bs⟩:=q
    obtain ⟨cv,h1,h2⟩:=xm hap hS he hq (fun b hb=>hbs b (by simp [hb]))
    obtain ⟨cvs,h3,h4,h5⟩:=jR hap hS he hl (fun b hb=>hbs b (by rw [List.flatMap_cons];exact List.mem_append.2 (.inr hb)))
    refine ⟨cv::cvs,by simp [h3],by simp only [List.map_cons,aQ];exact ⟨h2,h4⟩, ?_⟩
    intro i r' v' hi hv
    cases i with
    |zero=>simp at hi hv;subst hi;subst hv;exact h1
    |succ i=>exact h5 i r' v' (by simpa using hi) (by simpa using hv)
   ·cases h
  ·cases h
theorem Ha {gh gf:bL} {m:aN} {S:aJ} {n:Nat} {x:AV} {v:Value} (h:fu gh gf m S n [x] [v]):pA gh gf m S n x v∧(fL n x).2=(dc n [x]).2:=by
 rcases fo x with ⟨xs,k,e,rfl⟩|hx
 ·simp only [fu] at h
  exact ⟨h.1,rfl⟩
 ·rw [bu hx] at h
  rcases rK x with ⟨l,rfl⟩|ht
  ·have h1:=h.1
   simp only [VR] at h1
   obtain ⟨vs,rfl,h2⟩:=h1
   have key:∀ (l:List AV) (vs:List Value) (n:Nat),aQ gh m S l vs→fu gh gf m S n l vs∧(dc n l).2= []:=by
    intro l
    induction l with
    |nil=>intro vs n hv;cases vs with
     |nil=>exact ⟨by simp [fu],rfl⟩
     |cons _ _=>simp [aQ] at hv
    | cons y r ih=>intro vs n hv;cases vs with
     |nil=>simp [aQ] at hv
     |cons u us=>
      simp only [aQ] at hv
      have hno:=oz hv.1
      obtain ⟨h3,h4⟩:=ih us n hv.2
      rw [bu hno,aT n hno]
      exact ⟨⟨hv.1,h3⟩,h4⟩
   obtain ⟨h3,h4⟩:=key l vs n h2
   refine ⟨?_, ?_⟩
   ·simp only [pA]
    exact ⟨vs,rfl,h3⟩
   ·simp only [fL,dc]
    exact h4
  ·rw [gF hx ht,eW n hx ht,aT n hx]
   exact ⟨h.1,rfl⟩
theorem nI (rd:bL) (n:Nat):n≤Gu rd n:=by
 obtain ⟨_,t,ht⟩:=mb rd 20 (List.range n) List.nodup_range
 unfold Gu
 rw [ht,List.length_append,List.length_range]
 exact Nat.le_add_right _ _
theorem gQ (hap:eB P ap) {h0 h':List aL} {fn:Func} {env:dY} {hp:Hp} {m m0:aN} {S S0:aJ} {w w0:World} {tmps:Array Value} {c c':Cx} {out:gb} (h:nD ap h0.length fn env hp c= .ok (out,h') c') (hc:c'.Ok):
  c.Ok∧h0.length≤h'.length∧(br ap (look hp) m S w→Fr (aS h0) m0 S0 w0 (look hp) m S w→(∀ t,VR (look hp) m S (env.get t) (tmps.getD t undef))→
   ∃ cv,(results fn tmps).run P w= .ok cv w∧∃ m' S',wZ ap h0 m0 S0 w0 out h' m' S' w (.returned cv)):=by
 unfold nD at h
 dsimp only at h
 split at h
 ·rename_i vs h1' hvs hh'
  split at h
  ·cases h
  ·rename_i hbase
   obtain ⟨_,c1,e1,h⟩:=R.bind_ok h
   split at h
   ·rename_i v hl
    cases h
    obtain ⟨hc0,hbs⟩:=zi e1 hc
    have hlen':h0.length≤h'.length:=by rw [(eS hh').1];simpa using nI _ _
    refine ⟨hc0,hlen',fun hS hfr he=> ?_⟩
    obtain ⟨cvs,h1,h2,h3⟩:=jR hap hS he hvs hbs
    have hall:(vs.flatMap fun q=>lN (look hp) 6 (eU (ct q.1)))=(vs.map (·.1)).flatMap (cl (look hp)):=by rw [List.flatMap_map];rfl
    rw [hall] at hl
    obtain ⟨m',S',h4,h5,h6⟩:=oK hS hfr h2 (nI _ _) hl hh' hbase
    have hcl:cvs.length=1:=by
     have:=bw h2
     have h7:=(eS hl).1
     simp at h7 this
     omega
    match cvs,hcl with
    | [cv],_=>
     obtain ⟨h7,h8⟩:=Ha h6
     refine ⟨cv,mQ h1 h3,m',S', ?_⟩
     rw [← h8] at h4 h5
     refine ⟨h4,h5,cv,rfl, ?_⟩
     rw [h8]
     exact h7
   ·rename_i l hne hl
    cases h
    obtain ⟨hc0,hbs⟩:=zi e1 hc
    have hlen':h0.length≤h'.length:=by rw [(eS hh').1];simpa using nI _ _
    refine ⟨hc0,hlen',fun hS hfr he=> ?_⟩
    obtain ⟨cvs,h1,h2,h3⟩:=jR hap hS he hvs hbs
    have hall:(vs.flatMap fun q=>lN (look hp) 6 (eU (ct q.1)))=(vs.map (·.1)).flatMap (cl (look hp)):=by rw [List.flatMap_map];rfl
    rw [hall] at hl
    obtain ⟨m',S',h4,h5,h6⟩:=oK hS hfr h2 (nI _ _) hl hh' hbase
    have hone:I4 cvs= .tuple cvs.toArray:=by
     match cvs with
     | []=>rfl
     | [cv]=>
      exfalso
      have:=bw h2
      have h7:=(eS hl).1
      simp at h7 this
      match l,hne with
      | [],_=>simp at h7;omega
      | [v],hne=>exact hne v rfl
      |_::_::_,_=>simp at h7;omega
     |_::_::_=>rfl
    refine ⟨_,mQ h1 h3,m',S',h4,h5, ?_⟩
    rw [hone]
    exact ⟨_,rfl,cvs,rfl,h6⟩
   ·cases h
 ·cases h
theorem qp {h0 h':List aL} {v:AV} {hp:Hp} {m m0:aN} {S S0:aJ} {w w0:World} {c c':Cx} {out:gb} (h:zT h0.length v hp c= .ok (out,h') c'):
  c=c'∧h0.length≤h'.length∧(br ap (look hp) m S w→Fr (aS h0) m0 S0 w0 (look hp) m S w→∀ cv,VR (look hp) m S v cv→(∀ b ver n,v ≠ .ref b ver 0 n)→
   ∃ m' S',wZ ap h0 m0 S0 w0 out h' m' S' w (.panicked [{v:=cv,recovered:=false}])):=by
 unfold zT at h
 dsimp only at h
 split at h
 ·rename_i v' h1' hv' hh'
  split at h
  ·cases h
  ·rename_i hbase
   cases h
   have hlen':h0.length≤h'.length:=by rw [(eS hh').1];simpa using nI _ _
   refine ⟨rfl,hlen',fun hS hfr cv hv hnr=> ?_⟩
   have hl:fZ (kW (Gu (look hp) h0.length) (look hp) ([v].flatMap (cl (look hp)))) [v]=some [v']:=by
    simp only [List.flatMap_cons,List.flatMap_nil,List.append_nil,fZ]
    have he:kW (Gu (look hp) h0.length) (look hp) (cl (look hp) v) v=some v':=hv'
    rw [he]
   obtain ⟨m',S',h4,h5,h6⟩:=oK hS hfr (vs:= [v]) (cvs:= [cv]) (by simp only [aQ];exact ⟨hv,trivial⟩) (nI _ _) hl hh' hbase
   have hno:∀ xs k e,v' ≠ .own xs k e:=by
    rintro xs k e rfl
    cases qf hv' with
    |own h1 h2 h3 h4 h5 h6=>exact hnr _ _ _ rfl
    |low h1=>exact oz hv _ _ _ rfl
    |frz h1 h2=>
     exact t_ (gH hS (fun b B hb=>by split at hb;exact hb;cases hb) 6 v cv _ h2 hv) _ _ _ rfl
   rw [bu hno] at h6
   rw [aT _ hno] at h4 h5
   exact ⟨m',S',h4,h5,cv,rfl,h6.1⟩
 ·cases h
end
end AM
namespace AM
open Go
def lG (S:aJ):AV→FrameMode→Prop
 | .nilI,u=>u= .returning
 | .ifc t v,u=> ∃ cv,u= .panicking [{v:=cv,recovered:=false}]∧PR S (.ifc t v) cv
 |_,_=>False
def Co (md md':AV) (u u':FrameMode):Prop:=(md'=md∧u'=u)∨(md'= .nilI∧settle u'= .returning)
structure J5 (P:Program) (ap:AP) (f:Nat) (args:List AV) (h:List aL) (out:gb) (h':List aL) (md md':AV):Prop where
 ent:qJ P f
 calls:∀ m S w cargs u,br ap (aS h) m S w→aQ (aS h) m S args cargs→lG S md u→CallsD P f cargs.toArray u w fun e u' w'=>(∃ m' S',wZ ap h m S w out h' m' S' w' e)∧Co md md' u u'
def mW (P:Program) (ap:AP) (H:bA):Prop:=∀ c md f args h out h' md' c',md ≠ .dead→H c md f args h= .ok (out,h',md') c'→c'.Ok→c.Ok∧J5 P ap f args h out h' md md'
structure Al (P:Program) (ap:AP):Prop where
 fn:∀ (f:Nat) (F:AF),ap.fnAt f=some F→P.funcs[f]? =some F.fn
 body:∀ (f:Nat) (F:AF),ap.fnAt f=some F→∃ c,F.fn.body=some c∧bR F.fn.ntmps c=true
 name:∀ (f:Nat) (F:AF),ap.fnAt f=some F→(F.fn.name== "runtime.NumGoroutine")=false
section
variable {P:Program} {ap:AP} {H:bA}
theorem qL (hfn:Al P ap) {f:Nat} {F:AF} (hF:ap.fnAt f=some F):qJ P f:=by
 intro args w
 obtain ⟨c,hb,_⟩:=hfn.body f F hF
 unfold callFunc
 rw [Sem.run_bind]
 have:(program).run P w= .ok P w:=rfl
 rw [this,Result.andThen_ok,hfn.fn f F hF]
 dsimp only
 rw [hfn.name f F hF]
 simp [hb]
theorem BO {S:aJ} {md:AV} {u:FrameMode} (h:lG S md u):settle u=u∧u ≠ .run:=by
 cases md<;>simp only [lG] at h
 ·obtain ⟨cv,rfl,_⟩:=h;exact ⟨rfl,by simp⟩
 ·subst h;exact ⟨rfl,by simp⟩
theorem mD (hap:eB P ap) (hD:mW P ap H):
  ∀ (dfs:List (Nat × List AV)) (mode mode':AV) (hp hp':Hp) (c c':Cx),u_ ap H dfs mode hp c= .ok (mode',hp') c'→c'.Ok→c.Ok∧
   ∀ (h0:List aL) (fn:Func) (tmps:Array Value) (env:dY) (RR:Ending→World→Prop) (m0:aN) (S0:aJ) (w0:World) m S w ds u,br ap (look hp) m S w→Fr (aS h0) m0 S0 w0 (look hp) m S w→(∀ t,VR (look hp) m S (env.get t) (tmps.getD t undef))→dQ (look hp) m S dfs ds→lG S mode u→
   (∀ m' S' w' u',br ap (look hp') m' S' w'→Fr (aS h0) m0 S0 w0 (look hp') m' S' w'→(∀ t,VR (look hp') m' S' (env.get t) (tmps.getD t undef))→lG S' mode' u'→Leaves P fn tmps RR [] u' w')→Leaves P fn tmps RR ds u w
 | [],mode,mode',hp,hp',c,c',h,hc=>by
  cases h
  refine ⟨hc,fun h0 fn tmps env RR m0 S0 w0 m S w ds u hS hfr he hd hm hk=> ?_⟩
  cases ds with
  |nil=>exact hk m S w u hS hfr he hm
  |cons _ _=>simp [dQ] at hd
 | (f, args)::r,mode,mode',hp,hp',c,c',h,hc=>by
  simp only [u_] at h
  split at h
  ·cases h
  ·rename_i hrefs
   simp only [Bool.and_eq_true] at hrefs
   have hmd:mode ≠ .dead:=by rintro rfl;cases hrefs.1
   obtain ⟨q,c1,e1,h⟩:=R.bind_ok h
   split at h
   ·rename_i v hout
    obtain ⟨hc1,ih⟩:=mD hap hD r q.md mode' (q.ups++hp) hp' c1 c' h hc
    obtain ⟨args0,hh0,out0,hh0',e2,hret,hg⟩:=pQ e1
    obtain ⟨hc0,hq⟩:=hD _ _ _ _ _ _ _ _ _ hmd e2 hc1
    refine ⟨hc0,fun h0 fn tmps env RR m0 S0 w0 m S w ds u hS hfr he hd hm hk=> ?_⟩
    cases ds with
    |nil=>simp [dQ] at hd
    | cons d ds=>
     simp only [dQ] at hd
     obtain ⟨⟨cap,h1,h2⟩,h3⟩:=hd
     have hfresh:∀ i,i<4→look hp (dU hp+i)=none:=by
      intro i _
      cases hb:look hp (dU hp+i) with
      |none=>rfl
      |some B=>have:=kC hb;omega
     have hcall:=hg (look hp) m S w (d.args++cap).toList (fun cargs R=>CallsD P f cargs.toArray u w fun e u' w'=>R e w'∧Co mode q.md u u')
      (fun cargs R R' h4 h5=>CallsD.mono h4 fun e u' w' h6=> ⟨h5 e w' h6.1,h6.2⟩) hS (fun b _ B hB=>hB) hfresh h2
      (fun m1 S1 hle h4 h5=>hq.calls m1 S1 w _ u h4 h5 (by
       cases mode<;>simp only [lG] at hm ⊢
       ·obtain ⟨cv,e3,h6⟩:=hm;exact ⟨cv,e3,bF hle _ h6⟩
       ·exact hm))
     obtain ⟨hset,hnr⟩:=BO hm
     refine ⟨hnr,.func f,cap,f,d.args++cap,h1, ?_, ?_⟩
     ·rw [h1]
      exact hq.ent _ w
     ·rw [Array.toArray_toList] at hcall
      refine CallsD.mono hcall ?_
      rintro e u' w' ⟨⟨m',S',h4,h5,h6⟩,h7⟩
      rw [hout] at h6
      obtain ⟨cv,rfl,h6⟩:=h6
      rw [fW] at h4 h5 h6
      refine ih h0 fn tmps env RR m0 S0 w0 m' S' w' ds (settle u') h4 (hfr.trans h5) (fun t=>jt h5.sle h5.ge _ (he t)) (mV h5.sle h5.ge h3) ?_ hk
      rcases h7 with ⟨h8,rfl⟩|⟨h8,h9⟩
      ·rw [hset,h8]
       cases mode<;>simp only [lG] at hm ⊢
       ·obtain ⟨cv,e3,h10⟩:=hm;exact ⟨cv,e3,bF h5.sle _ h10⟩
       ·exact hm
      ·rw [h8,h9];rfl
   ·cases h
theorem cE {n n':Nat} (h:n≤n'):∀ (c:Code),bR n c=true→bR n' c=true
 | .region _ ops _,hd=>by
  simp only [bR,List.all_eq_true] at hd ⊢
  intro o ho
  have:=hd o ho
  unfold xK at this ⊢
  split
  ·rename_i d hdd
   rw [hdd] at this
   exact Nat.ble_eq_true_of_le (Nat.le_trans (dz this) h)
  ·rfl
 | .seq a b,hd=>by simp only [bR,Bool.and_eq_true] at hd ⊢;exact ⟨cE h a hd.1,cE h b hd.2⟩
 | .cond _ a b,hd=>by simp only [bR,Bool.and_eq_true] at hd ⊢;exact ⟨cE h a hd.1,cE h b hd.2⟩
 | .block _ b,hd=>by simp only [bR] at hd ⊢;exact cE h b hd
 | .loop b,hd=>by simp only [bR] at hd ⊢;exact cE h b hd
 | .scope b,hd=>by simp only [bR] at hd ⊢;exact cE h b hd
 | .skip,_=>rfl
 | .label _,_=>rfl
 | .exit _,_=>rfl
 | .ret,_=>rfl
 | .rangeFunc _ _ _ _,_=>rfl
 | .goto _,_=>rfl
 | .refuse _,_=>rfl
theorem q_ {α:Type}:∀ (l:List α) (j t:Nat),look ((l.zipIdx j).map fun (x,i)=>(i,x)) t=if j≤t then l[t - j]? else none
 | [],j,t=>by simp [look]
 | a::r,j,t=>by
  rw [List.zipIdx_cons,List.map_cons]
  simp only [look]
  cases h:Nat.beq j t with
  |true=>have:=ax h;subst this;simp
  | false=>
   have hne:j ≠ t:=by intro e;subst e;simp at h
   simp only [q_ r (j+1) t]
   by_cases hj:j+1≤t
   ·rw [if_pos hj,if_pos (by omega)]
    obtain ⟨d,hd⟩:∃ d,t - j=d+1:=⟨t - j - 1,by omega⟩
    rw [hd,List.getElem?_cons_succ,show t - (j+1)=d by omega]
   ·rw [if_neg hj,if_neg (by omega)]
theorem zx {h:List aL} {args:List AV} {cargs:List Value} {m:aN} {S:aJ} {w:World} {md:AV} (hS:br ap (aS h) m S w) (hv:aQ (aS h) m S args cargs) (n:Nat):
  look (iZ md args h).hp=aS h∧FR ap (iZ md args h).env (iZ md args h).hp [] (cargs.toArray++Array.replicate (n - cargs.toArray.size) undef).size m S w {tmps:=cargs.toArray++Array.replicate (n - cargs.toArray.size) undef,defers:= []}:=by
 have hh:look (iZ md args h).hp=aS h:=by
  funext b
  have:=q_ h 0 b
  simp only [iZ,aS]
  rw [this,if_pos (Nat.zero_le _),Nat.sub_zero]
 refine ⟨hh,⟨hh ▸ hS, ?_,by simp [dQ],rfl⟩⟩
 intro t
 rw [hh]
 have he:(iZ md args h).env.get t=(args[t]?).getD .dead:=by
  have:=q_ args 0 t
  simp only [iZ,dY.get]
  rw [this,if_pos (Nat.zero_le _),Nat.sub_zero]
 rw [he]
 cases ha:args[t]? with
 |none=>simp [VR]
 | some x=>
  obtain ⟨v,h1,h2⟩:=kP hv t ha
  have hlt:=(List.getElem?_eq_some_iff.1 h1).1
  have:(cargs.toArray++Array.replicate (n - cargs.toArray.size) undef).getD t undef=v:=by
   rw [Array.getD_eq_getD_getElem?,Array.getElem?_append_left (by simpa using hlt)]
   simp [h1]
  rw [this]
  exact h2
theorem qb (hap:eB P ap) (hD:mW P ap H) {h0 h':List aL} {fn:Func} {e:a_} {s:St} {c c':Cx} {out:gb} {md':AV} (h:tz ap H h0.length fn e s c= .ok (out,h',md') c') (hc:c'.Ok):
  c.Ok∧h0.length≤h'.length∧∀ m0 S0 w0 m S w a nt,Fr (aS h0) m0 S0 w0 (look s.hp) m S w→FR ap s.env s.hp s.dfs nt m S w a→G9 s.hp m S (bodyPostD P fn fun e w'=> ∃ m' S',wZ ap h0 m0 S0 w0 out h' m' S' w' e) a w e:=by
 have hgo:∀ mode,((u_ ap H s.dfs mode s.hp c).bind fun (mode,hp) c=>
   match mode with
   | .nilI=>(nD ap h0.length fn s.env hp c).bind fun (o,h) c=> .ok (o,h,s.md) c
   | .ifc t v=>(zT h0.length (.ifc t v) hp c).bind fun (o,h) c=> .ok (o,h,s.md) c
   |_=> .bad 74)= .ok (out,h',md') c'→c.Ok∧h0.length≤h'.length∧∀ m0 S0 w0 m S w a nt u,Fr (aS h0) m0 S0 w0 (look s.hp) m S w→FR ap s.env s.hp s.dfs nt m S w a→lG S mode u→Leaves P fn a.tmps (fun e w'=> ∃ m' S',wZ ap h0 m0 S0 w0 out h' m' S' w' e) a.defers u w:=by
  intro mode hh
  obtain ⟨⟨mode',hp'⟩,c1,e1,hh⟩:=R.bind_ok hh
  dsimp only at hh
  split at hh
  ·obtain ⟨⟨o,h1⟩,c2,e2,hh⟩:=R.bind_ok hh
   cases hh
   obtain ⟨hc1,hlen,hro⟩:=gQ (P:=P) (m:=fun _=>(0,0)) (m0:=fun _=>(0,0)) (S:=fun _ _=>none) (S0:=fun _ _=>none) (w:=default) (w0:=default) (tmps:=#[]) hap e2 hc
   obtain ⟨hc0,hl⟩:=mD hap hD s.dfs mode _ s.hp hp' c c1 e1 hc1
   refine ⟨hc0,hlen,fun m0 S0 w0 m S w a nt u hfr hF hm=> ?_⟩
   refine hl h0 fn a.tmps s.env _ m0 S0 w0 m S w a.defers u hF.srel hfr hF.env hF.dfs hm ?_
   intro m' S' w' u' h2 h3 h4 h5
   simp only [lG] at h5
   subst h5
   obtain ⟨_,_,hro⟩:=gQ (P:=P) (m:=m') (m0:=m0) (S:=S') (S0:=S0) (w:=w') (w0:=w0) (tmps:=a.tmps) hap e2 hc
   obtain ⟨cv,h6,h7⟩:=hro h2 h3 h4
   exact ⟨cv,h6,h7⟩
  ·rename_i t v
   obtain ⟨⟨o,h1⟩,c2,e2,hh⟩:=R.bind_ok hh
   cases hh
   obtain ⟨rfl,hlen,_⟩:=qp (ap:=ap) (m:=fun _=>(0,0)) (m0:=fun _=>(0,0)) (S:=fun _ _=>none) (S0:=fun _ _=>none) (w:=default) (w0:=default) e2
   obtain ⟨hc0,hl⟩:=mD hap hD s.dfs mode _ s.hp hp' c _ e1 hc
   refine ⟨hc0,hlen,fun m0 S0 w0 m S w a nt u hfr hF hm=> ?_⟩
   refine hl h0 fn a.tmps s.env _ m0 S0 w0 m S w a.defers u hF.srel hfr hF.env hF.dfs hm ?_
   intro m' S' w' u' h2 h3 h4 h5
   simp only [lG] at h5
   obtain ⟨cv,rfl,h6⟩:=h5
   obtain ⟨_,_,hpo⟩:=qp (ap:=ap) (m:=m') (m0:=m0) (S:=S') (S0:=S0) (w:=w') (w0:=w0) e2
   exact hpo h2 h3 cv (d_ _ h6) (fun b ver n h=>by cases h)
  ·cases hh
 unfold tz at h
 dsimp only at h
 split at h
 ·obtain ⟨h1,h2,h3⟩:=hgo .nilI h
  exact ⟨h1,h2,fun m0 S0 w0 m S w a nt hfr hF=>h3 m0 S0 w0 m S w a nt .returning hfr hF rfl⟩
 ·obtain ⟨h1,h2,h3⟩:=hgo .nilI h
  exact ⟨h1,h2,fun m0 S0 w0 m S w a nt hfr hF=>h3 m0 S0 w0 m S w a nt .returning hfr hF rfl⟩
 ·rename_i t v
  split at h
  ·rename_i hr
   obtain ⟨h1,h2,h3⟩:=hgo (.ifc t v) h
   refine ⟨h1,h2,fun m0 S0 w0 m S w a nt hfr hF cv hv=>h3 m0 S0 w0 m S w a nt _ hfr hF ⟨cv,rfl, ?_⟩⟩
   exact iB (by simpa [ct] using hr) hv
  ·cases h
 ·cases h
theorem AB (hap:eB P ap) (hmix:P.follows .mixedOrders=true) (hfn:Al P ap) (hH:fH P ap H) (hD:mW P ap H) (lf:Nat):fH P ap fun c md f args h=>lX ap H lf md f args h c:=by
 intro c f args h out h' md' c' he hc
 have he:lX ap H lf .dead f args h c= .ok (out,h',md') c':=he
 unfold lX at he
 split at he
 ·cases he
 ·rename_i F hF
  dsimp only at he
  obtain ⟨⟨e,s⟩,c1,e1,he⟩:=R.bind_ok he
  dsimp only at he
  obtain ⟨body,hb,hdst⟩:=hfn.body f F hF
  have hbody:af F.fn=body:=by simp [af,hb]
  rw [hbody] at e1
  obtain ⟨hc1,hlen,hfin⟩:=qb hap hD he hc
  obtain ⟨hc0,_⟩:=cP (nt:=F.fn.ntmps) hap hmix hH body hdst _ _ _ _ _ e1 hc1
  refine ⟨hc0,hlen,qL hfn hF,fun m S w cargs hS hv=> ?_⟩
  obtain ⟨hh,hFR⟩:=zx (md:= .dead) hS hv F.fn.ntmps
  have hle:F.fn.ntmps≤(cargs.toArray++Array.replicate (F.fn.ntmps - cargs.toArray.size) undef).size:=by simp;omega
  obtain ⟨_,hx⟩:=cP hap hmix hH body (cE hle body hdst) _ _ _ _ _ e1 hc1
  obtain ⟨_,hx⟩:=hx rfl
  refine calls_of_wp_defers (hfn.fn f F hF) hb ?_
  refine hx m S w m S w _ (by rw [hh];exact Fr.refl _ _ _ _) hFR _ ?_
  intro m' S' w' a' h1 h2
  exact hfin m S w m' S' w' a' _ h1 h2
end
end AM
namespace AM
open Go
section
variable {P:Program} {ap:AP} {H:bA}
theorem GF {o:Oper} {a:Act} {K K':Act→World→Prop} {Q Q':Exit→Act→World→Prop} {r:Result Next} (hK:∀ a w,K a w→K' a w) (hQ:∀ e a w,Q e a w→Q' e a w) (hL:¬ LetsOut Q) (h:o.upon P a K Q r):o.upon P a K' Q' r:=by
 cases r with
 | ok n w'=>
  cases n<;>simp only [Oper.upon] at h ⊢ <;>
   first
    |exact hK _ _ h
    |exact Calls.mono h (fun e w'' he=>by cases e<;>first|exact hK _ _ he|exact hQ _ _ _ he|exact absurd he hL)
    |exact Rows.mono h (fun _ _ he=>hK _ _ he)
 |halt x w'=>cases x<;>simp only [Oper.upon] at h ⊢ <;>exact hQ _ _ _ h
theorem fG {ops:Array Oper} {Q:Exit→Act→List Frame→World→Prop} {cs:List Frame} {Q':Exit→Act→World→Prop} (hQ:∀ e a w,Q' e a w→Q e a cs w) (hL:¬ LetsOut Q'):∀ (l:List Nat) (a:Act) (w:World),wpOps P ops Q' l a w→wpOpsS P ops Q l a cs w
 | [],a,w,h=>hQ _ _ _ h
 | i ::rest,a,w,h=>by
  simp only [wpOps] at h
  simp only [wpOpsS]
  cases ho:ops[i]? with
  |none=>
   simp only [ho] at h ⊢
   exact fG hQ hL rest a w h
  | some o=>
   simp only [ho] at h ⊢
   by_cases hw:Region.wanted o (yielded ops a.tmps)=true
   ·rw [if_pos hw] at h ⊢
    rcases h with h|⟨_,h⟩
    ·unfold Oper.wp at h
     split
     ·rename_i w' hr
      rw [hr] at h
      exact h.elim
     ·exact GF (fun a w hh=>fG hQ hL rest a w hh) (fun e a w hh=>hQ e a w hh) hL h
    ·exact absurd h hL
   ·rw [if_neg hw] at h ⊢
    exact fG hQ hL rest _ w h
theorem Vz {Q:Exit→Act→World→Prop}:¬ LetsOut (fun e a w=>e ≠ .outgrown∧Q e a w):=fun ⟨_,_,h,_⟩=>h rfl
theorem BI {a:Act} {o:Oper} {args:Array Operand} {argTypes:Array TypeId} (h:o.op= .call {callee:= .builtin .recover,args,argTypes}) (w:World):(execOp a.eval o).run P w= .ok .recover w:=by
 unfold execOp
 rw [h]
 rfl
theorem FR.env_cons {env:dY} {hp:Hp} {dfs:List (Nat × List AV)} {nt:Nat} {m:aN} {S:aJ} {w:World} {a:Act} (h:FR ap env hp dfs nt m S w a) {d:Nat} (hd:d<nt) {v:AV} {cv:Value} (hv:VR (look hp) m S v cv):FR ap ((d,v)::env) hp dfs nt m S w (a.put (some d) cv):=by
 refine ⟨h.srel,fun t=> ?_,by rw [vR];exact h.dfs,by rw [BA];exact h.size⟩
 by_cases ht:d=t
 ·subst ht
  rw [vS _ _ _ (by rw [h.size];exact hd)]
  have:dY.get ((d,v)::env) d=v:=eP (env:=env)
  rw [this];exact hv
 ·rw [vT _ _ _ (fun e=>ht (by cases e;rfl))]
  have:dY.get ((d,v)::env) t=env.get t:=qc (env:=env) (dst:=some d) (fun e=>ht (by cases e;rfl))
  rw [this];exact h.env t
theorem yS (hap:eB P ap) (hmix:P.follows .mixedOrders=true) (hfn:Al P ap) (hH:fH P ap H) (lf:Nat):mW P ap fun c md f args h=>lX ap H lf md f args h c:=by
 intro c md f args h out h' md' c' hmd he hc
 have he:lX ap H lf md f args h c= .ok (out,h',md') c':=he
 unfold lX at he
 split at he
 ·cases he
 ·rename_i F hF
  split at he
  ·exact absurd rfl hmd
  ·split at he
   ·rename_i hrefs
    simp only [Bool.and_eq_true] at hrefs
    obtain ⟨body,hb,hdst⟩:=hfn.body f F hF
    have hbody:af F.fn=body:=by simp [af,hb]
    unfold Hf at he
    rw [hbody] at he
    split at he
    ·rename_i id ops rest
     split at he
     ·rename_i o r hops
      split at he
      ·rename_i args' argTypes d hop hg hd
       dsimp only at he
       obtain ⟨⟨s1,p⟩,c1,e1,he⟩:=R.bind_ok he
       dsimp only at he
       split at he
       ·cases he
       ·obtain ⟨⟨e,s2⟩,c2,e2,he⟩:=R.bind_ok he
        dsimp only at he
        split at he
        ·cases he
        ·rename_i hdfs
         have hend:∃ c3,(e= .normal∨e= .ret)∧nD ap h.length F.fn s2.env s2.hp c2= .ok (out,h') c3∧md'= .nilI∧c3=c':=by
          split at he
          ·obtain ⟨⟨o1,h1⟩,c3,e3,he⟩:=R.bind_ok he
           cases he
           exact ⟨_,.inl rfl,e3,rfl,rfl⟩
          ·obtain ⟨⟨o1,h1⟩,c3,e3,he⟩:=R.bind_ok he
           cases he
           exact ⟨_,.inr rfl,e3,rfl,rfl⟩
          ·cases he
         obtain ⟨c3,hend,e3,rfl,rfl⟩:=hend
         obtain ⟨hc2,hlen,_⟩:=gQ (P:=P) (m:=fun _=>(0,0)) (m0:=fun _=>(0,0)) (S:=fun _ _=>none) (S0:=fun _ _=>none) (w:=default) (w0:=default) (tmps:=#[]) hap e3 hc
         simp only [bR,Bool.and_eq_true] at hdst
         obtain ⟨hc1,_⟩:=cP (nt:=F.fn.ntmps) hap hmix hH rest hdst.2 _ _ _ _ _ e2 hc2
         have hnt':∀ nt,F.fn.ntmps≤nt→∀ o' ∈ o::r,∀ d,o'.dst=some d→d<nt:=by
          intro nt hle o' ho' d' hd'
          have:=List.all_eq_true.1 hdst.1 o' (by rw [hops];exact ho')
          simp only [xK,hd'] at this
          exact Nat.lt_of_lt_of_le (cZ this) hle
         obtain ⟨hc0,_⟩:=iK (nt:=F.fn.ntmps) hap hH (ops:=o::r) (hnt' _ (Nat.le_refl _)) r 1 _ _ _ _ _ _ e1 hc1
         refine ⟨hc0,qL hfn hF,fun m S w cargs u hS hv hm=> ?_⟩
         obtain ⟨hh,hFR⟩:=zx (md:= .dead) hS hv F.fn.ntmps
         have hle:F.fn.ntmps≤(cargs.toArray++Array.replicate (F.fn.ntmps - cargs.toArray.size) undef).size:=by simp;omega
         obtain ⟨_,hx⟩:=cP hap hmix hH rest (cE hle rest hdst.2) _ _ _ _ _ e2 hc2
         obtain ⟨_,hs⟩:=iK hap hH (ops:=o::r) (hnt' _ hle) r 1 _ _ _ _ _ _ e1 hc1
         obtain ⟨hmd1,hs⟩:=hs rfl (fun t b hb=>by cases hb) rfl (fun b B hb=>kC hb)
         obtain ⟨_,hx⟩:=hx hmd1
         have hdlt:=hnt' _ hle o (by simp) d hd
         refine callsD_of_wpS (hfn.fn f F hF) hb fun c₀ cs hc₀=> ?_
         have hrec:∃ cv u',lG S md u∧VR (look (iZ .dead args h).hp) m S md cv∧settle u'= .returning∧((recoverD (c₀::cs)=some (cv,{c₀ with mode:=u'}::cs))∨(recoverD (c₀::cs)=none∧cv= .nilIface∧{c₀ with mode:=u'}=c₀)):=by
          cases md<;>simp only [lG] at hm
          ·obtain ⟨cv,rfl,hp⟩:=hm
           exact ⟨cv,.panicking [{v:=cv,recovered:=true}],⟨cv,rfl,hp⟩,d_ _ hp,rfl,.inl (by simp [recoverD,hc₀])⟩
          ·subst hm
           exact ⟨.nilIface,.returning,rfl,by simp only [VR,PR],rfl,.inr ⟨by simp [recoverD,hc₀],rfl,by rw [← hc₀]⟩⟩
         obtain ⟨cv,u',_,hvcv,hset,hrec⟩:=hrec
         have hcont:∀ (Q:Exit→Act→List Frame→World→Prop),(∀ e a w',(∃ m' S',Fr (aS h) m S w (look s2.hp) m' S' w'∧FR ap s2.env s2.hp s2.dfs (cargs.toArray++Array.replicate (F.fn.ntmps - cargs.toArray.size) undef).size m' S' w' a)→(e= .normal∨e= .ret)→Q e a ({c₀ with mode:=u'}::cs) w')→
           wpOpsS P ops (Exit.thenS (rest.wpS P Q) Q) (List.range' 1 r.length) (({tmps:=cargs.toArray++Array.replicate (F.fn.ntmps - cargs.toArray.size) undef,defers:= []}:Act).put (some d) cv) ({c₀ with mode:=u'}::cs) w:=by
          intro Q hQ
          have hopsA:ops=(o::r).toArray:=by rw [← hops]
          rw [hopsA]
          refine fG (Q':=fun e a w'=>e ≠ .outgrown∧e= .normal∧rest.wpS P Q a ({c₀ with mode:=u'}::cs) w') ?_ Vz _ _ _ ?_
          ·rintro e a w' ⟨_,rfl,hh⟩
           exact hh
          ·refine hs m S w _ (hFR.env_cons hdlt hvcv) _ ?_
           intro m1 S1 w1 a1 h3 h4
           refine ⟨by simp,rfl,wpS_of_wp ?_⟩
           rw [hh] at h3
           obtain ⟨m2,h5,h6⟩:=gI (keep:=F.keep) (s:=⟨s1.env,s1.hp,s1.md,s1.dfs⟩) h3 h4
           refine hx m S w m2 S1 w1 a1 h5 h6 _ ?_
           intro m3 S3 w3 a3 h7 h8
           rcases hend with rfl|rfl
           ·exact hQ .normal a3 w3 ⟨m3,S3,h7,h8⟩ (.inl rfl)
           ·exact hQ .ret a3 w3 ⟨m3,S3,h7,h8⟩ (.inr rfl)
         have hfin:∀ e a w',(∃ m' S',Fr (aS h) m S w (look s2.hp) m' S' w'∧FR ap s2.env s2.hp s2.dfs (cargs.toArray++Array.replicate (F.fn.ntmps - cargs.toArray.size) undef).size m' S' w' a)→(e= .normal∨e= .ret)→
           bodyPostS P F.fn c₀ cs (fun e u' w'=>(∃ m' S',wZ ap h m S w out h' m' S' w' e)∧Co md .nilI u u') e a ({c₀ with mode:=u'}::cs) w':=by
          rintro e a w' ⟨m',S',h3,h4⟩ hee
          obtain ⟨_,_,hro⟩:=gQ (P:=P) (m:=m') (m0:=m) (S:=S') (S0:=S) (w:=w') (w0:=w) (tmps:=a.tmps) hap e3 hc
          obtain ⟨cv',h5,h6⟩:=hro h4.srel h3 h4.env
          have hdf:a.defers= []:=by
           have:=h4.dfs
           rw [hdfs] at this
           cases hd:a.defers with
           |nil=>rfl
           |cons x y=>rw [hd] at this;simp [dQ] at this
          rcases hee with rfl|rfl
          ·exact ⟨hdf,u',rfl,cv',h5,h6,.inr ⟨rfl,hset⟩⟩
          ·exact ⟨hdf,u',rfl,cv',h5,h6,.inr ⟨rfl,hset⟩⟩
         refine wpS_seq (wpS_region ?_)
         have hrange:List.range ops.size=0::List.range' 1 r.length:=by
          have:ops.size=r.length+1:=by rw [← Array.length_toList,hops];simp
          rw [this,List.range_eq_range',List.range'_succ]
         rw [hrange]
         have ho0:ops[0]? =some o:=by
          have:ops.toList[0]? =some o:=by rw [hops];rfl
          simpa using this
         simp only [wpOpsS,ho0,Region.wanted,hg,if_true,BI hop]
         rw [hd]
         rcases hrec with hrec|⟨hrec,rfl,hsame⟩
         ·rw [hrec]
          exact hcont _ hfin
         ·rw [hrec]
          have:=hcont _ hfin
          rw [hsame] at this
          exact this
      ·cases he
     ·cases he
    ·cases he
   ·cases he
end
end AM
namespace AM
open Go
def uI:Option AF→Bool
 |some F=>(match F.fn.body with|some c=>bR F.fn.ntmps c|none=>false) && !(F.fn.name== "runtime.NumGoroutine")
 |none=>true
theorem Ki {P:Program} {ap:AP} (h:(List.range ap.nty).map ap.ty.get=(List.range ap.nty).map (JG P)):eB P ap:=by
 constructor
 intro t ti ht
 unfold AP.tyAt at ht
 split at ht
 ·rename_i hlt
  have hn:=cZ hlt
  have h1:((List.range ap.nty).map ap.ty.get)[t]? =some (some ti):=by rw [List.getElem?_map,List.getElem?_range hn];simp [ht]
  rw [h,List.getElem?_map,List.getElem?_range hn] at h1
  simpa using h1
 ·cases ht
theorem K1 {P:Program} {ap:AP} {keep:Nat→Bool} (h:(List.range ap.nfn).map (fun i=>(ap.fn.get i).map AF.fn)=(List.range ap.nfn).map fun i=>match keep i with|true=>P.funcs[i]? |false=>none) (hg:(List.range ap.nfn).all (fun i=>uI (ap.fn.get i))=true):Al P ap:=by
 have hfn:∀ (f:Nat) (F:AF),ap.fnAt f=some F→f<ap.nfn∧ap.fn.get f=some F:=by
  intro f F hF
  unfold AP.fnAt at hF
  split at hF
  ·rename_i hlt;exact ⟨cZ hlt,hF⟩
  ·cases hF
 have hgood:∀ (f:Nat) (F:AF),ap.fnAt f=some F→uI (some F)=true:=by
  intro f F hF
  obtain ⟨h1,h2⟩:=hfn f F hF
  have:=List.all_eq_true.1 hg f (by simpa using h1)
  rwa [h2] at this
 constructor
 ·intro f F hF
  obtain ⟨h1,h2⟩:=hfn f F hF
  have h3:((List.range ap.nfn).map fun i=>(ap.fn.get i).map AF.fn)[f]? =some (some F.fn):=by rw [List.getElem?_map,List.getElem?_range h1];simp [h2]
  rw [h,List.getElem?_map,List.getElem?_range h1] at h3
  simp only [Option.map_some,Option.some.injEq] at h3
  split at h3
  ·exact h3
  ·cases h3
 ·intro f F hF
  have:=hgood f F hF
  simp only [uI,Bool.and_eq_true] at this
  cases hb:F.fn.body with
  |none=>rw [hb] at this;cases this.1
  |some c=>rw [hb] at this;exact ⟨c,rfl,this.1⟩
 ·intro f F hF
  have:=hgood f F hF
  simp only [uI,Bool.and_eq_true,Bool.not_eq_true'] at this
  exact this.2
end AM
namespace AM
open Go
def az (P:Program) (ap:AP) (h0:List aL) (n:Nat) (code:Code) (s:St) (e:a_) (s':St):Prop:=∀ nt,n≤nt→ah P ap h0 nt code s e s'
abbrev py:=List (a_ × St)
def gU (P:Program) (ap:AP) (H:bA) (h0:List aL) (keep:List Nat) (lf nt:Nat) (ls:List Nat):Code→St→py→Cx→R ((a_ × St) × py)
 | .seq a b,s,l,c=>(gU P ap H h0 keep lf nt ls a s l c).bind fun r c=>match r.1.1 with
  | .normal=>gU P ap H h0 keep lf nt ls b r.1.2 r.2 c
  |e=> .ok ((e,r.1.2),r.2) c
 | .cond t a b,s,l,c=>match kr ap s.env t with
  | .bool x=>(qM c x).bind fun x c=>match x with
   |true=>gU P ap H h0 keep lf nt ls a s l c
   |false=>gU P ap H h0 keep lf nt ls b s l c
  |_=> .bad 60
 | .block id b,s,l,c=>match jN ls id with
  |true=>match l with
   |(e,s')::r=> .ok ((e,s'),r) {c with ps:=az P ap h0 nt (.block id b) s e s'::c.ps}
   | []=> .bad 62
  |false=>(gU P ap H h0 keep lf nt ls b s l c).bind fun r c=>match r.1.1 with
   | .exit id'=>match Nat.beq id' id with|true=> .ok ((.normal,r.1.2),r.2) c|false=> .ok ((.exit id',r.1.2),r.2) c
   |e=> .ok ((e,r.1.2),r.2) c
 | .scope b,s,l,c=>gU P ap H h0 keep lf nt ls b s l c
 | .region id ops draw,s,l,c=>match jN ls (id+1000) with
  |true=>match l with
   |(e,s')::r=> .ok ((e,s'),r) {c with ps:=az P ap h0 nt (.region id ops draw) s e s'::c.ps}
   | []=> .bad 63
  |false=>(gC ap H h0.length keep lf (.region id ops draw) s c).bind fun r c=> .ok (r,l) c
 |code,s,l,c=>(gC ap H h0.length keep lf code s c).bind fun r c=> .ok (r,l) c
section
variable {P:Program} {ap:AP} {H:bA}
theorem ah.seq {h0:List aL} {nt:Nat} {x y:Code} {s s1 s2:St} {e:a_} (hx:ah P ap h0 nt x s .normal s1) (hy:ah P ap h0 nt y s1 e s2):ah P ap h0 nt (.seq x y) s e s2:=by
 intro hmd
 obtain ⟨h3,h4⟩:=hx hmd
 obtain ⟨h5,h6⟩:=hy h3
 refine ⟨h5,fun m0 S0 w0 m S w a hfr hF Q hQ=>wp_seq (h4 m0 S0 w0 m S w a hfr hF _ ?_)⟩
 intro m' S' w' a' h7 h8
 exact h6 m0 S0 w0 m' S' w' a' h7 h8 Q hQ
theorem ah.seq_out {h0:List aL} {nt:Nat} {x y:Code} {s s1:St} {e:a_} (hne:e ≠ .normal) (hx:ah P ap h0 nt x s e s1):ah P ap h0 nt (.seq x y) s e s1:=by
 intro hmd
 obtain ⟨h3,h4⟩:=hx hmd
 refine ⟨h3,fun m0 S0 w0 m S w a hfr hF Q hQ=>wp_seq (h4 m0 S0 w0 m S w a hfr hF _ ?_)⟩
 intro m' S' w' a' h5 h6
 have:=hQ m' S' w' a' h5 h6
 cases e with
 |normal=>exact absurd rfl hne
 |exit id=>exact this
 |ret=>exact this
 |panic v=>exact this
theorem ah.cond {h0:List aL} {nt:Nat} {t:Operand} {x y:Code} {s s':St} {e:a_} {bv:Bool} (hb:kr ap s.env t= .bool bv) (h:ah P ap h0 nt (if bv then x else y) s e s'):ah P ap h0 nt (.cond t x y) s e s':=by
 intro hmd
 obtain ⟨h5,h6⟩:=h hmd
 refine ⟨h5,fun m0 S0 w0 m S w a hfr hF Q hQ=>wp_cond (t:=bv) ?_ (h6 m0 S0 w0 m S w a hfr hF Q hQ)⟩
 have:=oJ hF.srel (a:=a) (env:=s.env) t (fun t _=>hF.env t)
 rw [hb] at this
 simpa only [VR,PR] using this
def jz (id:Nat):a_→a_
 | .exit id'=>match Nat.beq id' id with|true=> .normal|false=> .exit id'
 |e=>e
theorem ah.block {h0:List aL} {nt:Nat} {id:Nat} {b:Code} {s s':St} {e:a_} (h:ah P ap h0 nt b s e s'):ah P ap h0 nt (.block id b) s (jz id e) s':=by
 intro hmd
 obtain ⟨h3,h4⟩:=h hmd
 refine ⟨h3,fun m0 S0 w0 m S w a hfr hF Q hQ=>wp_block (h4 m0 S0 w0 m S w a hfr hF _ ?_)⟩
 intro m' S' w' a' h5 h6
 have hq:=hQ m' S' w' a' h5 h6
 cases e with
 |normal=>exact hq
 |ret=>exact hq
 |panic v=>exact hq
 | exit id'=>
  simp only [jz] at hq
  split at hq
  ·rename_i he
   show Exit.inBlock id Q (.exit id') a' w'
   simp only [Exit.inBlock,if_pos (ax he)]
   exact hq
  ·rename_i he
   show Exit.inBlock id Q (.exit id') a' w'
   have hne:id' ≠ id:=by intro e;subst e;simp at he
   simp only [Exit.inBlock,if_neg hne]
   exact hq
theorem ah.scope {h0:List aL} {nt:Nat} {b:Code} {s s':St} {e:a_} (h:ah P ap h0 nt b s e s'):ah P ap h0 nt (.scope b) s e s':=by
 intro hmd
 obtain ⟨h3,h4⟩:=h hmd
 refine ⟨h3,fun m0 S0 w0 m S w a hfr hF Q hQ=>wp_scope_straight (h4 m0 S0 w0 m S w a hfr hF _ ?_)⟩
 intro m' S' w' a' h5 h6
 have hq:=hQ m' S' w' a' h5 h6
 cases e with
 |normal=>exact hq
 |exit id=>exact hq
 |ret=>exact hq
 |panic v=>exact hq
theorem mh (hap:eB P ap) (hmix:P.follows .mixedOrders=true) (hH:fH P ap H) {h0:List aL} {keep:List Nat} {lf n nt:Nat} (hn:n≤nt) {ls:List Nat}:∀ (code:Code),bR nt code=true→∀ (s:St) (l:py) (r:(a_ × St) × py) (c c':Cx),gU P ap H h0 keep lf n ls code s l c= .ok r c'→c'.Ok→c.Ok∧ah P ap h0 nt code s r.1.1 r.1.2:=by
 have hbase:∀ (code:Code),bR nt code=true→∀ (s:St) (l:py) (r:(a_ × St) × py) (c c':Cx),((gC ap H h0.length keep lf code s c).bind fun r c=> .ok (r,l) c)= .ok r c'→c'.Ok→c.Ok∧ah P ap h0 nt code s r.1.1 r.1.2:=by
  intro code hd s l r c c' h hc
  obtain ⟨⟨e,s'⟩,c1,h1,h⟩:=R.bind_ok h
  cases h
  exact cP hap hmix hH code hd s e s' c _ h1 hc
 intro code
 induction code with
 | seq x y ihx ihy=>
  intro hd s l r c c' h hc
  simp only [bR,Bool.and_eq_true] at hd
  simp only [gU] at h
  obtain ⟨⟨⟨e1,s1⟩,l1⟩,c1,h1,h⟩:=R.bind_ok h
  dsimp only at h
  have hother:e1 ≠ .normal→R.ok ((e1,s1),l1) c1=R.ok r c'→c.Ok∧ah P ap h0 nt (.seq x y) s r.1.1 r.1.2:=by
   intro hne he
   cases he
   obtain ⟨hc0,hx⟩:=ihx hd.1 _ _ _ _ _ h1 hc
   exact ⟨hc0,hx.seq_out hne⟩
  cases e1 with
  |normal=>
   dsimp only at h
   obtain ⟨hc1,hy⟩:=ihy hd.2 _ _ _ _ _ h hc
   obtain ⟨hc0,hx⟩:=ihx hd.1 _ _ _ _ _ h1 hc1
   exact ⟨hc0,hx.seq hy⟩
  |exit id=>exact hother (by simp) h
  |ret=>exact hother (by simp) h
  |panic v=>exact hother (by simp) h
 | cond t x y ihx ihy=>
  intro hd s l r c c' h hc
  simp only [bR,Bool.and_eq_true] at hd
  simp only [gU] at h
  split at h
  ·rename_i bv hbv
   obtain ⟨b',c1,h1,h⟩:=R.bind_ok h
   cases b' with
   |true=>
    obtain ⟨hc1,hx⟩:=ihx hd.1 _ _ _ _ _ h hc
    obtain ⟨hc0,hb⟩:=gG h1 hc1
    exact ⟨hc0,ah.cond hbv (by rw [← hb];exact hx)⟩
   |false=>
    obtain ⟨hc1,hx⟩:=ihy hd.2 _ _ _ _ _ h hc
    obtain ⟨hc0,hb⟩:=gG h1 hc1
    exact ⟨hc0,ah.cond hbv (by rw [← hb];exact hx)⟩
  ·cases h
 | block id b ih=>
  intro hd s l r c c' h hc
  simp only [bR] at hd
  simp only [gU] at h
  split at h
  ·split at h
   ·rename_i e0 s0 l0
    cases h
    have hp:az P ap h0 n (.block id b) s e0 s0:=hc.ps _ (List.mem_cons_self ..)
    exact ⟨⟨hc.bs,fun p hp=>hc.ps p (List.mem_cons_of_mem _ hp)⟩,hp nt hn⟩
   ·cases h
  ·obtain ⟨⟨⟨e1,s1⟩,l1⟩,c1,h1,h⟩:=R.bind_ok h
   dsimp only at h
   have hres:r=((jz id e1,s1),l1)∧c1=c':=by
    cases e1<;>dsimp only at h
    ·cases h;exact ⟨rfl,rfl⟩
    ·unfold jz
     split at h<;>cases h<;>rename_i hb<;>dsimp only<;>rw [hb]<;>exact ⟨rfl,rfl⟩
    ·cases h;exact ⟨rfl,rfl⟩
    ·cases h;exact ⟨rfl,rfl⟩
   obtain ⟨rfl,rfl⟩:=hres
   obtain ⟨hc0,hx⟩:=ih hd _ _ _ _ _ h1 hc
   exact ⟨hc0,hx.block⟩
 |scope b ih=>
  intro hd s l r c c' h hc
  simp only [bR] at hd
  simp only [gU] at h
  obtain ⟨hc0,hx⟩:=ih hd _ _ _ _ _ h hc
  exact ⟨hc0,hx.scope⟩
 |skip=>exact fun hd s l r c c' h hc=>hbase _ hd s l r c c' h hc
 | region id ops draw=>
  intro hd s l r c c' h hc
  simp only [gU] at h
  split at h
  ·split at h
   ·rename_i e0 s0 l0
    cases h
    have hp:az P ap h0 n (.region id ops draw) s e0 s0:=hc.ps _ (List.mem_cons_self ..)
    exact ⟨⟨hc.bs,fun p hp=>hc.ps p (List.mem_cons_of_mem _ hp)⟩,hp nt hn⟩
   ·cases h
  ·exact hbase _ hd s l r c c' h hc
 |loop _ _=>exact fun hd s l r c c' h hc=>hbase _ hd s l r c c' h hc
 |rangeFunc _ _ _ _=>exact fun hd s l r c c' h hc=>hbase _ hd s l r c c' h hc
 |exit _=>exact fun hd s l r c c' h hc=>hbase _ hd s l r c c' h hc
 |label _=>exact fun hd s l r c c' h hc=>hbase _ hd s l r c c' h hc
 |goto _=>exact fun hd s l r c c' h hc=>hbase _ hd s l r c c' h hc
 |ret=>exact fun hd s l r c c' h hc=>hbase _ hd s l r c c' h hc
 |refuse _=>exact fun hd s l r c c' h hc=>hbase _ hd s l r c c' h hc
def D_ (P:Program) (ap:AP) (H:bA) (lf:Nat) (ls:List Nat) (f:Nat) (args:List AV) (h:List aL) (l:py) (c:Cx):R (gb × List aL × AV):=
 match ap.fnAt f with
 |none=> .bad 80
 |some F=>(gU P ap H h F.keep lf F.fn.ntmps ls (af F.fn) (iZ .dead args h) l c).bind fun r c=>tz ap H h.length F.fn r.1.1 r.1.2 c
theorem Hg (hap:eB P ap) (hmix:P.follows .mixedOrders=true) (hfn:Al P ap) (hH:fH P ap H) (hD:mW P ap H) {lf:Nat} {ls:List Nat} {f:Nat} {args:List AV} {h h':List aL} {l:py} {c c':Cx} {out:gb} {md':AV}
  (he:D_ P ap H lf ls f args h l c= .ok (out,h',md') c') (hc:c'.Ok):ai P ap f args h out h':=by
 unfold D_ at he
 split at he
 ·cases he
 ·rename_i F hF
  obtain ⟨⟨⟨e,s⟩,l1⟩,c1,e1,he⟩:=R.bind_ok he
  dsimp only at he
  obtain ⟨body,hb,hdst⟩:=hfn.body f F hF
  have hbody:af F.fn=body:=by simp [af,hb]
  rw [hbody] at e1
  obtain ⟨hc1,hlen,hfin⟩:=qb hap hD he hc
  refine ⟨hlen,qL hfn hF,fun m S w cargs hS hv=> ?_⟩
  obtain ⟨hh,hFR⟩:=zx (md:= .dead) hS hv F.fn.ntmps
  have hle:F.fn.ntmps≤(cargs.toArray++Array.replicate (F.fn.ntmps - cargs.toArray.size) undef).size:=by simp;omega
  obtain ⟨_,hx⟩:=mh hap hmix hH hle body (cE hle body hdst) _ _ _ _ _ e1 hc1
  obtain ⟨_,hx⟩:=hx rfl
  refine calls_of_wp_defers (hfn.fn f F hF) hb ?_
  refine hx m S w m S w _ (by rw [hh];exact Fr.refl _ _ _ _) hFR _ ?_
  intro m' S' w' a' h1 h2
  exact hfin m S w m' S' w' a' _ h1 h2
end
end AM
namespace AM
open Go
def o_ (P:Program) (ap:AP) (lf:Nat):Nat→bA
 |0=>fun _ _ _ _ _=> .bad 90
 | n+1=>fun c md f args h=>
  match md with
  | .dead=>match c.ans with
   |(out,h')::r=> .ok (out,h',.dead) {c with ans:=r,ps:=ai P ap f args h out h'::c.ps}
   |_=> .bad 91
  |md=>lX ap (o_ P ap lf n) lf md f args h c
theorem gJ {P:Program} {ap:AP} (hap:eB P ap) (hmix:P.follows .mixedOrders=true) (hfn:Al P ap) (lf:Nat):∀ n,fH P ap (o_ P ap lf n)∧mW P ap (o_ P ap lf n)
 |0=> ⟨fun _ _ _ _ _ _ _ _ h=>(by cases h),fun _ _ _ _ _ _ _ _ _ _ h=>(by cases h)⟩
 | n+1=>by
  obtain ⟨h1,h2⟩:=gJ hap hmix hfn lf n
  constructor
  ·intro c f args h out h' md' c' he hc
   simp only [o_] at he
   split at he
   ·cases he
    exact ⟨⟨hc.bs,fun p hp=>hc.ps p (by simp [hp])⟩,hc.ps _ (by simp)⟩
   ·cases he
  ·intro c md f args h out h' md' c' hmd he hc
   have he:lX ap (o_ P ap lf n) lf md f args h c= .ok (out,h',md') c':=by
    cases md<;>first|exact absurd rfl hmd|exact he
   exact yS hap hmix hfn h1 lf c md f args h out h' md' c' hmd he hc
inductive Aj:List Prop→Prop where
 |nil:Aj []
 |cons {p:Prop} {l:List Prop}:p→Aj l→Aj (p::l)
theorem Aj.mem {l:List Prop} (h:Aj l):∀ p ∈ l,p:=by
 induction h with
 |nil=>intro p hp;cases hp
 |cons hp _ ih=>
  intro q hq
  rcases List.mem_cons.1 hq with rfl|hq
  ·exact hp
  ·exact ih q hq
inductive gR:List Bool→Prop where
 |nil:gR []
 |t {l:List Bool}:gR l→gR (true::l)
 |c {b:Bool} {l:List Bool}:b=true→gR l→gR (b::l)
theorem gR.mem {l:List Bool} (h:gR l):∀ b ∈ l,b=true:=by
 induction h with
 |nil=>intro p hp;cases hp
 |t _ ih=>
  intro q hq
  rcases List.mem_cons.1 hq with rfl|hq
  ·rfl
  ·exact ih q hq
 |c hp _ ih=>
  intro q hq
  rcases List.mem_cons.1 hq with rfl|hq
  ·exact hp
  ·exact ih q hq
structure tX (P:Program) (ap:AP):Prop where
 apok:eB P ap
 mixed:P.follows .mixedOrders=true
 fnok:Al P ap
theorem xF {P:Program} {ap:AP} (g:tX P ap) {lf n:Nat} {ans:List (gb × List aL)} {ps:List Prop} {f:Nat} {args:List AV} {h h':List aL} {out:gb} (hp:Aj ps)
  (he:lX ap (o_ P ap lf n) lf .dead f args h ⟨true,[],[],[],ans,[]⟩= .ok (out,h',.dead) ⟨true,[],[],ps,[],[]⟩):ai P ap f args h out h':=by
 obtain ⟨h1,h2⟩:=gJ g.apok g.mixed g.fnok lf n
 exact (AB g.apok g.mixed g.fnok h1 h2 lf _ f args h out h' .dead _ he ⟨fun b hb=>(by cases hb),hp.mem⟩).2
end AM
namespace AM
open Go Go.ChangeShapes Go.WideShapes Go.ChangeAt Go.RowKit
def jL:Lit→Value
 | .int k n=> .int k n
 | .bool b=> .bool b
 | .string s=> .string ⟨s.toArray⟩
 |_=> .nilFunc
def Bf:Lit→AV
 | .int k n=> .int k n
 | .bool b=> .bool b
 | .string s=> .str s
 |_=> .dead
def vk:Lit→Bool
 | .int _ _=>true
 | .bool _=>true
 | .string _=>true
 |_=>false
def Bg (f:TypeId→DataW Unit→Nat→Option (List (Nat × Lit))):List (TypeId × Nat)→List (DataW Unit)→Option (List (Nat × Lit))
 | [],[]=>some []
 |(t,o)::r,d::ds=>match f t d o,Bg f r ds with
  |some a,some b=>some (a++b)
  |_,_=>none
 |_,_=>none
def gX (P:Program):Nat→TypeId→DataW Unit→Nat→Option (List (Nat × Lit))
 |0,_,_,_=>none
 |n+1,t,d,off=>match P.underlying t,d with
  |some (.struct fs),.agg ds=>Bg (gX P n) (fs.toList.map fun f=>(f.type,off+f.offset)) ds
  |some (.array m e),.agg ds=>Bg (gX P n) ((List.range m).map fun i=>(e,off+i*P.cellsOf e)) ds
  |some (.int _),.lit (.int k n)=>some [(off,.int k n)]
  |some .bool,.lit (.bool b)=>some [(off,.bool b)]
  |some .string,.lit (.string s)=>some [(off,.string s)]
  |_,_=>none
theorem vh {f:TypeId→DataW Unit→Nat→Option (List (Nat × Lit))}:∀ {ts:List (TypeId × Nat)} {ds:List (DataW Unit)} {l:List (Nat × Lit)},Bg f ts ds=some l→ts.length=ds.length∧∀ x ∈ l,∃ (i:Nat) (t o:Nat) (d:DataW Unit) (a:List (Nat × Lit)),ts[i]? =some (t,o)∧ds[i]? =some d∧f t d o=some a∧x ∈ a
 | [],[],l,h=>by simp [Bg] at h;subst h;simp
 | (t,o)::r,d::ds,l,h=>by
  simp only [Bg] at h
  split at h
  ·rename_i a b ha hb
   cases h
   obtain ⟨h1,h2⟩:=vh hb
   refine ⟨by simp [h1],fun x hx=> ?_⟩
   rcases List.mem_append.1 hx with hx|hx
   ·exact ⟨0,t,o,d,a,rfl,rfl,ha,hx⟩
   ·obtain ⟨i,t',o',d',a',h3,h4,h5,h6⟩:=h2 x hx
    exact ⟨i+1,t',o',d',a',by simpa using h3,by simpa using h4,h5,h6⟩
  ·cases h
 | [],_::_,_,h=>by simp [Bg] at h
 |_::_,[],_,h=>by simp [Bg] at h
theorem jb {P:Program} {w:World} {base:Nat} {sp:Nat→Bool} {held:Bool}:∀ (n:Nat) (t:TypeId) (d:DataW Unit) (off:Nat) (l:List (Nat × Lit)),gX P n t d off=some l→∀ (fuel:Nat) (cs:List Value) (p:List MemPlace),DataW.trod (fun _=>()) P w base sp held fuel t cs=some (d,p)→∀ x ∈ l,∃ j,x.1=off+j∧cs[j]? =some (jL x.2)
 |0,_,_,_,_,h=>by simp [gX] at h
 | n +1,t,d,off,l,h=>by
  intro fuel cs p hd x hx
  simp only [gX] at h
  split at h
  ·rename_i fs ds ht
   cases fuel with
   |zero=>simp [DataW.trod] at hd
   | succ m=>
    simp only [DataW.trod,ht] at hd
    split at hd
    ·obtain ⟨xs,hm,hxs⟩:=Option.map_eq_some_iff.1 hd
     simp only [Prod.mk.injEq,DataW.agg.injEq] at hxs
     obtain ⟨rfl,rfl⟩:=hxs
     obtain ⟨h1,h2⟩:=vh h
     obtain ⟨i,t',o',d',a,h3,h4,h5,h6⟩:=h2 x hx
     rw [List.getElem?_map,Option.map_eq_some_iff] at h3
     obtain ⟨f,hf,he⟩:=h3
     simp only [Prod.mk.injEq] at he
     obtain ⟨rfl,rfl⟩:=he
     obtain ⟨b,hb,hg⟩:=Lib.mapM_at hm i f hf
     rw [List.getElem?_map,hb] at h4
     simp only [Option.map_some,Option.some.injEq] at h4
     subst h4
     obtain ⟨j,e1,e2⟩:=jb n _ _ _ _ h5 m _ b.2 hg x h6
     refine ⟨f.offset+j,by omega, ?_⟩
     rw [List.getElem?_take] at e2
     split at e2
     ·rwa [List.getElem?_drop] at e2
     ·cases e2
    ·cases hd
  ·rename_i k e ds ht
   cases fuel with
   |zero=>simp [DataW.trod] at hd
   | succ m=>
    simp only [DataW.trod,ht] at hd
    split at hd
    ·obtain ⟨xs,hm,hxs⟩:=Option.map_eq_some_iff.1 hd
     simp only [Prod.mk.injEq,DataW.agg.injEq] at hxs
     obtain ⟨rfl,rfl⟩:=hxs
     obtain ⟨h1,h2⟩:=vh h
     obtain ⟨i,t',o',d',a,h3,h4,h5,h6⟩:=h2 x hx
     rw [List.getElem?_map,Option.map_eq_some_iff] at h3
     obtain ⟨f,hf,he⟩:=h3
     simp only [Prod.mk.injEq] at he
     obtain ⟨rfl,rfl⟩:=he
     obtain ⟨b,hb,hg⟩:=Lib.mapM_at hm i f hf
     rw [List.getElem?_map,hb] at h4
     simp only [Option.map_some,Option.some.injEq] at h4
     subst h4
     obtain ⟨j,e1,e2⟩:=jb n _ _ _ _ h5 m _ b.2 hg x h6
     refine ⟨f*P.cellsOf e+j,by omega, ?_⟩
     rw [List.getElem?_take] at e2
     split at e2
     ·rwa [List.getElem?_drop] at e2
     ·cases e2
    ·cases hd
  ·rename_i k' k n' ht
   cases h
   simp at hx
   subst hx
   obtain ⟨n2,rfl,hx2,_⟩:=DataW.trod_int ht hd
   simp only [Prod.mk.injEq,DataW.lit.injEq,Lit.int.injEq] at hx2
   obtain ⟨⟨rfl,rfl⟩,_⟩:=hx2
   exact ⟨0,rfl,rfl⟩
  ·rename_i b ht
   cases h
   simp at hx
   subst hx
   cases fuel with
   |zero=>simp [DataW.trod] at hd
   |succ m=>
    unfold DataW.trod at hd
    rw [ht] at hd
    split at hd<;>simp_all
    rfl
  ·rename_i s ht
   cases h
   simp at hx
   subst hx
   cases fuel with
   |zero=>simp [DataW.trod] at hd
   |succ m=>
    unfold DataW.trod at hd
    rw [ht] at hd
    split at hd<;>simp_all
    obtain ⟨_,rfl,_⟩:=hd
    rfl
  ·cases h
theorem qi {P:Program} {w:World}:∀ {l:List (String × DataW Unit)} {ps:List MemPlace},DataW.LaidVars P w l ps→∀ n d,(n,d) ∈ l→∃ g t cs fuel p,P.globalNamed n=some g∧(P.globals[g]?).map (·.type)=some t∧w.var? P n=some cs∧DataW.trod (fun _=>()) P w 0 (fun _=>true) false fuel t cs.toList=some (d,p)
 | [],_,_,n,d,hm=>by cases hm
 | (n',d')::r,ps,h,n,d,hm=>by
  obtain ⟨g,t,cs,fuel,p,q,h1,h2,h3,h4,h5,_⟩:=h
  rcases List.mem_cons.1 hm with he|hm
  ·cases he
   exact ⟨g,t,cs,fuel,p,h1,h2,h3,h4⟩
  ·exact qi h5 n d hm
theorem Dh {P:Program} {W:World} {laid:List (String × DataW Unit)} (h:laidMetH P laid W) (hno:laid.filter (fun x=>x.2.handleName?.isSome)= []) {n:String} {d:DataW Unit} (hm:(n,d) ∈ laid) {g:Nat} {t:TypeId} (hg:P.globalNamed n=some g) (ht:(P.globals[g]?).map (·.type)=some t)
  {ls:List Lit} (hl:gX P 6 t d 0=some (ls.zipIdx.map fun (l,i)=>(i,l))):∀ (j:Nat) (l:Lit),ls[j]? =some l→W.cell? ⟨g,j,none⟩=some (jL l):=by
 have hmet:laidMet P laid W:=by
  unfold laidMetH at h
  rw [hno] at h
  exact h
 obtain ⟨ps,hv,_⟩:=hmet
 obtain ⟨g',t',cs,fuel,p,h1,h2,h3,h4⟩:=qi hv n d hm
 obtain rfl:=Option.some.inj (hg.symm.trans h1)
 obtain rfl:=Option.some.inj (ht.symm.trans h2)
 intro j l hj
 obtain ⟨j',e1,e2⟩:=jb 6 t d 0 _ hl fuel cs.toList p h4 (j,l) (by
  rw [List.mem_map]
  exact ⟨(l,j),by rw [List.mem_zipIdx_iff_getElem?];exact hj,rfl⟩)
 have:j'=j:=by simp at e1;exact e1.symm
 subst this
 rw [World.var?_cell hg h3 j']
 simpa using e2
def jS (W:World):aJ:=fun k o=>match W.cell? ⟨k,o,none⟩ with|some v=>if v.oneCell' then some v else none|none=>none
theorem yG {W:World} {k o:Nat} {v:Value} (h:W.cell? ⟨k,o,none⟩=some v) (hv:v.oneCell'=true):jS W k o=some v:=by
 unfold jS;rw [h];simp only;rw [if_pos hv]
theorem Cf {W:World} {k o:Nat} {v:Value} (h:jS W k o=some v):bQ W k o=some v:=by
 unfold jS at h
 split at h
 ·rename_i v' hc
  split at h
  ·rename_i h1;cases h;exact ul hc h1
  ·cases h
 ·cases h
theorem Ao (S:aJ):∀ (ls:List Lit),ls.all vk=true→bP S (ls.map Bf) (ls.map jL)
 | [],_=>by simp [bP]
 |l::r,h=>by
  simp only [List.all_cons,Bool.and_eq_true] at h
  simp only [List.map_cons,bP]
  refine ⟨?_,Ao S r h.2⟩
  cases l<;>simp only [Bf,jL,PR]<;>first|rfl|(exact absurd h.1 (by simp [vk]))
theorem Dj {l:Lit} (h:vk l=true):(jL l).oneCell'=true:=by
 cases l<;>first|rfl|(exact absurd h (by simp [vk]))
def G_ (ap:AP) (W:World):Prop:=∀ k xs,(ap.gl[k]?).join=some xs→∃ ls:List Lit,xs=ls.map Bf∧ls.all vk=true∧∀ (j:Nat) (l:Lit),ls[j]? =some l→W.cell? ⟨k,j,none⟩=some (jL l)
theorem K4 {ap:AP} {W:World} (h:G_ ap W):h_ ap (jS W):=by
 intro k xs hk
 obtain ⟨ls,rfl,h1,h2⟩:=h k xs hk
 refine ⟨ls.map jL,Ao _ _ h1, ?_⟩
 intro j u hj
 rw [List.getElem?_map,Option.map_eq_some_iff] at hj
 obtain ⟨l,hl,rfl⟩:=hj
 have ho:=Dj (List.all_eq_true.1 h1 l (List.mem_of_getElem? hl))
 refine ⟨?_,ho⟩
 rw [Nat.zero_add]
 exact yG (h2 j l hl) ho
theorem Ox {P:Program} {ap:AP} {f:Nat} {args:List AV} {b:Bool} (hc:ai P ap f args [] (.ret (.bool b)) []) {W:World} (hg:G_ ap W) {cargs:List Value} (hv:bP (jS W) args cargs):
  Calls P f cargs.toArray W fun e W'=>e= .returned (.bool b)∧Below W.heap.size W W':=by
 have hS:br ap (aS []) (fun _=>(0,0)) (jS W) W:=
  ⟨fun b b' B B' h=>by simp [aS] at h,fun b B h=>by simp [aS] at h,fun k o v h=>Cf h,fun b B h=>by simp [aS] at h,K4 hg⟩
 refine (hc.calls (fun _=>(0,0)) (jS W) W cargs hS (bh _ hv)).mono ?_
 rintro e W' ⟨m',S',hF⟩
 obtain ⟨_,hfr,hout⟩:=hF
 obtain ⟨cv,rfl,h1⟩:=hout
 simp only [pA,VR,PR] at h1
 subst h1
 exact ⟨rfl,hfr.os,hfr.tape,hfr.output,hfr.size,fun k hk=>hfr.rest k hk fun b B h=>by simp [aS] at h⟩
def tN (P:Program) (ts:List TypeId):Bool:=ts.all fun t=>P.readableRec t && decide (t<P.types.size)
theorem oo {H:Type} {enc:TypeId × Value→H} {P:Program} (hl:laidOutB P=true) {W W':World} {sp:Nat→Bool}:∀ {ts:List TypeId} {vs:List Value} {ds:List (DataW H)} {ps:List MemPlace},tN P ts=true→DataW.TrodAll enc P W 0 (fun _=>true) true ts vs ds ps→(∀ p ∈ ps,W.sameAt W' p)→(∀ p ∈ ps,sp p.block=true)→DataW.TrodAll enc P W' 0 sp true ts vs ds ps
 | [],vs,ds,ps,_,h,_,_=>by
  obtain ⟨rfl,rfl,rfl⟩:=trodAll_nil h
  rfl
 |t::ts,vs,ds,ps,hf,h,hs,hsp=>by
  obtain ⟨v,vs',d,ds',p,q,rfl,rfl,rfl,h1,h2⟩:=trodAll_cons h
  simp only [tN,List.all_cons,Bool.and_eq_true,decide_eq_true_eq] at hf
  exact trodAll_cons_mk (WideElems.Trod_stays hl hf.1.1 hf.1.2 h1 (fun x hx=>hs x (by simp [hx])) (fun x hx=>hsp x (by simp [hx]))) (oo hl (by simpa [tN] using hf.2) h2 (fun x hx=>hs x (by simp [hx])) (fun x hx=>hsp x (by simp [hx])))
theorem Va {H:Type} {enc:TypeId × Value→H} {P:Program} {f:Func} {s:ChangeSpec} {apart fresh handsOn again:Bool} {W W':World} {args:Array Value} {ds gs:List (DataW H)} {before:List MemPlace} (hl:laidOutB P=true) (hf:tN P f.params.toList=true)
  (hW:DataW.Whole enc P f.params.toList s.vars apart W args.toList ds gs before) (hvars:s.vars= []) {tb:TypeId} (hr:f.resultTypes=#[tb]) (htb:P.underlying tb=some .bool) (hfn:s.fn H (ds++gs)={results:= [.lit (.bool true)],args:=ds,vars:= []})
  (hb:Below W.heap.size W W'):s.post enc P f apart fresh handsOn again W args (.bool true) W':=by
 have hlt:∀ p ∈ before,p.block<W.heap.size:=fun p hp=>hW.lt p hp
 have hold:∀ p ∈ before,(fun b=>decide (b<W.heap.size)) p.block=true:=fun p hp=>by simpa using hW.lt p hp
 have hW0:=hW
 obtain ⟨p,q,hA,hV,rfl,hz,hn⟩:=hW
 rw [hvars] at hV
 obtain ⟨rfl,rfl⟩:=trodVars_none hV
 simp only [List.append_nil] at hlt hold hz hn hW0 hfn ⊢
 have hargs:∀ sp:Nat→Bool,(∀ x ∈ p,sp x.block=true)→DataW.TrodAll enc P W' 0 sp true f.params.toList args.toList (s.fn H ds).args p:=by
  intro sp hsp
  rw [hfn]
  exact oo hl hf hA (fun x hx=>hb.same (hlt x hx)) hsp
 have hres:∀ (b:Nat) (sp:Nat→Bool) (hd:Bool),DataW.TrodAll enc P W' b sp hd f.resultTypes.toList ((Value.bool true).resultList f.resultTypes.size) (s.fn H ds).results []:=by
  intro b sp hd
  rw [hfn,hr]
  exact trodAll_cons_mk (p:= []) (shut_bool htb true) trodAll_mk0
 have hv':∀ sp:Nat→Bool,DataW.TrodVars enc P W' sp s.vars (s.fn H ds).vars []:=by
  intro sp
  rw [hvars,hfn]
  rfl
 refine ⟨ds,[],p,[],p,[],hW0,by rw [List.append_nil];exact hres _ _ _,by rw [List.append_nil];exact hargs _ hold,by rw [List.append_nil];exact hv' _,World.keptBut_mono (fun x hx=>hx) (hb.frame _),fun _=> ?_⟩
 refine ⟨ok_one hr rfl (okWide_bool_mk htb _),_,_,([]++p)++ [],⟨[]++p,[],trodAll_append (hargs _ (fun _ _=>rfl)) (hres _ _ _),by simpa using hv' _,rfl, ?_, ?_⟩, ?_⟩
 ·intro b off hp
  have hp':MemPlace.cell b off ∈ p:=by simpa using hp
  rw [hb.frozen (hlt _ hp')]
  exact hz b off hp'
 ·intro ha
  simpa using hn ha
 ·intro x hx _
  simpa using hx
end AM
