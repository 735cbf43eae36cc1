/- The abstract machine over the code of the model, and the proof that it is sound. No conditions. -/
import Derived.Test.YtdmfgmmooalfnaaGreatDoorM3
import Derived.Recover
import Derived.ProofKit
import Derived.OpenShut
import Derived.LaidLaws
import Derived.LaidSub
import Derived.Lib.LaidTab
set_option linter.unusedSimpArgs false
set_option linter.unusedVariables false
namespace AM
open Go
theorem wZ {α:Type} {P:Program} {w:World} (f:α→Sem Value):∀ (l:List α) (vs:List Value),l.length=vs.length→(∀ (i:Nat) (x:α) (v:Value),l[i]? =some x→vs[i]? =some v→(f x).run P w= .ok v w)→(l.mapM f).run P w= .ok vs w
 | [],[],_,_=>rfl
 |a::l,v::vs,hl,h=>by
  rw [List.mapM_cons,Sem.run_bind,h 0 a v rfl rfl,Result.andThen_ok,Sem.run_bind,wZ f l vs (by simpa using hl) fun i x u c b=>h (i+1) x u (by simpa using c) (by simpa using b),Result.andThen_ok]
  rfl
 | [],_::_,hl,_=>by simp at hl
 |_::_,[],hl,_=>by simp at hl
def MJ (tmps:Array Value):ResultVar→Sem Value
 | .tmp t=>pure (tmps.getD t undef)
 | .cell a t=>do loadVar t (← asAddr (tmps.getD a undef))
def QX (vs:List Value):Value:=match vs with| [v]=>v|vs=> .tuple vs.toArray
theorem O_ (a:Func) (tmps:Array Value):results a tmps=(do let vs ← a.results.mapM (MJ tmps);pure (if h:vs.size=1 then vs[0] else .tuple vs)):=by
 unfold results
 congr 2
theorem vz {P:Program} {w:World} {a:Func} {tmps:Array Value} {vs:List Value} (b:a.results.toList.length=vs.length)
  (h:∀ (i:Nat) (r:ResultVar) (v:Value),a.results.toList[i]? =some r→vs[i]? =some v→(MJ tmps r).run P w= .ok v w):
  (results a tmps).run P w= .ok (QX vs) w:=by
 rw [O_,Array.mapM_eq_mapM_toList]
 simp only [bind_map_left]
 rw [Sem.run_bind,wZ _ _ vs b h,Result.andThen_ok]
 match vs with
 | []=>rfl
 | [v]=>rfl
 |_::_::_=>simp [QX]
theorem MP {S:aU} {m:aX} {rd c:dF} {w:World} (h:∀ b B,rd b=some B→c b=some B):oW (dH S m rd w) (dH S m c w):=by
 intro k o v a
 unfold dH at a ⊢
 split at a
 ·rename_i u i;exact a
 ·rename_i i
  split at a
  ·rename_i d
   obtain ⟨b,B,g,f,e⟩:=d
   rw [if_pos ⟨b,B,h b B g,f,e⟩]
   exact a
  ·cases a
def cl (rd:dF) (v:AV):List Nat:=sG rd 6 (iO (dO v))
inductive G5 (base:Nat) (rd:dF) (all:List Nat):AV→AV→Prop
 |own {b n:Nat} {B:bi}:rd b=some B→base≤b→B.fro=false→B.pr=true→fU all b=1→0<B.esz→G5 base rd all (.ref b B.ver 0 n) (.own (B.cells.take (n*B.esz)) n B.esz)
 |low {v:AV}:(∀ b ∈ dO v,b<base)→G5 base rd all v v
 |frz {v v':AV}:(∀ b ∈ cl rd v,base≤b)→frz (fun b=>match rE (cl rd v) b with|true=>rd b|false=>none) 6 v=some v'→G5 base rd all v v'
theorem TM {base:Nat} {rd:dF} {v a:AV} (h:aag base rd v=some a):(∀ b ∈ cl rd v,base≤b)∧frz (fun b=>match rE (cl rd v) b with|true=>rd b|false=>none) 6 v=some a:=by
 unfold aag at h
 dsimp only at h
 split at h
 ·rename_i c
  exact ⟨fun b d=>fH (List.all_eq_true.1 c b d),h⟩
 ·cases h
theorem H5 {base:Nat} {rd:dF} {all:List Nat} {v a:AV} (h:(match (dO v).all (fun b=>Nat.blt b base) with|true=>some v|false=>aag base rd v)=some a):G5 base rd all v a:=by
 split at h
 ·rename_i e
  cases h
  exact .low fun b f=>f_ (List.all_eq_true.1 e b f)
 ·obtain ⟨d,c⟩:=TM h
  exact .frz d c
theorem yP {base:Nat} {rd:dF} {all:List Nat} {v c:AV} (h:qc base rd all v=some c):G5 base rd all v c:=by
 unfold qc at h
 dsimp only at h
 split at h
 ·rename_i b ver n
  split at h
  ·rename_i B j
   split at h
   ·rename_i d
    cases h
    simp only [Bool.and_eq_true,Bool.not_eq_true'] at d
    obtain ⟨⟨⟨⟨⟨f,a⟩,i⟩,e⟩,k⟩,g⟩:=d
    have a:=aP a
    subst a
    exact .own j (fH f) i e (aP k) (f_ g)
   ·exact H5 h
  ·cases h
 ·exact H5 h
theorem vP {l:List Nat} {b:Nat} (h:b ∈ l):1≤fU l b:=by
 unfold fU
 have:b ∈ l.filter (Nat.beq b):=by rw [List.mem_filter];exact ⟨h,Nat.beq_refl b⟩
 exact List.length_pos_of_mem this
theorem sH {l a:List Nat} {b:Nat}:fU (l++a) b=fU l b+fU a b:=by simp [fU,List.filter_append]
theorem zZ {α:Type} {f:α→List Nat} {b:Nat}:∀ (vs:List α) (i j:Nat) (v v':α),vs[i]? =some v→vs[j]? =some v'→i ≠ j→b ∈ f v→b ∈ f v'→2≤fU (vs.flatMap f) b
 | [],i,j,v,v',h,_,_,_,_=>by simp at h
 | a::r,i,j,v,v',hi,hj,hne,hb,hb'=>by
  have c:∀ (k:Nat) (u:α),r[k]? =some u→b ∈ f u→1≤fU (r.flatMap f) b:=by
   intro k u e d
   exact vP (List.mem_flatMap.2 ⟨u,List.mem_of_getElem? e,d⟩)
  rw [List.flatMap_cons,sH]
  cases i with
  |zero=>
   simp at hi;subst hi
   cases j with
   |zero=>exact absurd rfl hne
   |succ j=>have:=c j v' (by simpa using hj) hb';have:=vP hb;omega
  | succ i=>
   cases j with
   |zero=>simp at hj;subst hj;have:=c i v (by simpa using hi) hb;have:=vP hb';omega
   |succ j=>
    have:=zZ r i j v v' (by simpa using hi) (by simpa using hj) (by omega) hb hb'
    omega
def kP:List AV→List AV→List (Nat × bi)
 |v::r,.own xs _ esz::q=>(match v with| .ref b _ _ _=> [(b,JE xs esz)]|_=> [])++kP r q
 |_::r,_::q=>kP r q
 |_,_=> []
theorem jh {v x:AV} {r q:List AV} (h:∀ xs k e,x ≠ .own xs k e):kP (v::r) (x::q)=kP r q:=by
 cases x<;>first|rfl|exact absurd rfl (h _ _ _)
section
variable {P:Program} {ap:AP} {base:Nat} {rd:dF} {all:List Nat}
theorem xk {g:dF} {m:aX} {S:aU} {x:AV} {v:Value} (h:VR g m S x v):∀ xs k e,x ≠ .own xs k e:=by
 rintro xs k e rfl;simp [VR] at h
theorem DL {S:aU} {x:AV} {v:Value} (h:PR S x v):∀ xs k e,x ≠ .own xs k e:=by
 rintro xs k e rfl;simp [PR] at h
end
end AM
namespace AM
open Go
theorem ET {b:Nat}:∀ (l acc:List Nat),(b ∈ l∨b ∈ acc)→b ∈ l.foldl Cc acc
 | [],acc,h=>by simpa using h
 | a::r,acc,h=>by
  simp only [List.foldl_cons]
  refine ET r _ ?_
  rcases h with h|h
  ·rcases List.mem_cons.1 h with rfl|h
   ·right
    unfold Cc
    split
    ·rename_i c;exact jB.1 c
    ·simp
   ·exact .inl h
  ·right
   obtain h':=h
   unfold Cc
   split
   ·exact h
   ·simp [h]
theorem OM {l:List Nat} {b:Nat} (h:b ∈ l):b ∈ iO l:=ET l [] (.inl h)
theorem Jy (l:List Nat):(iO l).Nodup:=(pU l [] (by simp)).1
theorem Xe {rd:dF} {v:AV} {b:Nat} (h:b ∈ dO v):b ∈ cl rd v:=by
 obtain ⟨_,t,a⟩:=uC rd 6 (iO (dO v)) (Jy _)
 unfold cl
 rw [a]
 exact List.mem_append.2 (.inl (OM h))
theorem AA:∀ {vs l:List AV} {b:Nat} {Bo:bi},(b,Bo) ∈ kP vs l→∃ ver i n xs k e,(AV.ref b ver i n,AV.own xs k e) ∈ vs.zip l∧Bo=JE xs e
 | [],l,b,Bo,h=>by cases l<;>simp [kP] at h
 |v::r,[],b,Bo,h=>by simp [kP] at h
 | v ::r,x::q,b,Bo,h=>by
  rcases jm x with ⟨xs,k,e,rfl⟩|hx
  ·simp only [kP,List.mem_append] at h
   rcases h with h|h
   ·cases v with
    |ref b' ver i n=>
     simp at h
     obtain ⟨rfl,rfl⟩:=h
     exact ⟨ver,i,n,xs,k,e,by simp,rfl⟩
    |_=>simp at h
   ·obtain ⟨ver,i,n,a,d,e',c,f⟩:=AA h
    exact ⟨ver,i,n,a,d,e',by simp [c],f⟩
  ·rw [jh hx] at h
   obtain ⟨ver,i,n,a,d,e',c,f⟩:=AA h
   exact ⟨ver,i,n,a,d,e',by simp [c],f⟩
theorem Ff {rd:dF} {b:Nat}:∀ (vs l:List AV),fU ((kP vs l).flatMap fun q=> [q.1]) b≤fU (vs.flatMap (cl rd)) b
 | [],l=>by cases l<;>simp [kP,fU]
 |v::r,[]=>by simp [kP,fU]
 | v :: r,x::q=>by
  have d:=Ff (rd:=rd) (b:=b) r q
  rw [List.flatMap_cons,sH]
  rcases jm x with ⟨xs,k,e,rfl⟩|hx
  ·simp only [kP,List.flatMap_append,sH]
   cases v with
   | ref b' ver i n=>
    simp only [List.flatMap_cons,List.flatMap_nil,List.append_nil]
    have:fU [b'] b≤fU (cl rd (.ref b' ver i n)) b:=by
     by_cases hb:b=b'
     ·subst hb
      have a:fU [b] b=1:=by simp [fU]
      rw [a]
      exact vP (Xe (by simp [dO]))
     ·have a:fU [b'] b=0:=by
       have:Nat.beq b b'=false:=by
        cases c:Nat.beq b b' with
        |false=>rfl
        |true=>exact absurd (aP c) hb
       simp [fU,this]
      omega
    omega
   |_=>simp [fU] at*;omega
  ·rw [jh hx];omega
theorem FH:∀ (vs l:List AV) (n:Nat),vs.length=l.length→(∀ v x,(v,x) ∈ vs.zip l→(∃ xs k e,x= .own xs k e)→∃ b ver i n,v= .ref b ver i n)→(dU n l).2=(kP vs l).map (·.2)
 | [],[],n,_,_=>by simp [dU,kP]
 | v::r,x::q,n,hl,h=>by
  have c:=fun n=>FH r q n (by simpa using hl) fun v x d a=>h v x (by simp [d]) a
  rcases jm x with ⟨xs,k,e,rfl⟩|a
  ·obtain ⟨b,ver,i,f,rfl⟩:=h v _ (by simp) ⟨xs,k,e,rfl⟩
   simp only [dU,kP,c]
   simp
  ·rw [bD n a,jh a]
   exact c n
 | [],_::_,_,hl,_=>by simp at hl
 |_::_,[],_,hl,_=>by simp at hl
theorem JD {rd gh u:dF} {m s:aX} {S S':aU}:∀ (vs l:List AV) (cvs:List Value) (n:Nat),vs.length=l.length→aY rd m S vs cvs→
  (∀ v x,(v,x) ∈ vs.zip l→(∃ xs k e,x= .own xs k e)→∃ b ver n,v= .ref b ver 0 n∧∃ xs e,x= .own xs n e)→
  (∀ v x c,(v,x) ∈ vs.zip l→(∀ xs k e,x ≠ .own xs k e)→VR rd m S v c→VR gh s S' x c)→
  (∀ (k b:Nat) (Bo:bi),(kP vs l)[k]? =some (b,Bo)→∀ ver i c,VR rd m S (.ref b ver 0 i) c→(∃ xs e,(AV.ref b ver 0 i,AV.own xs i e) ∈ vs.zip l)→VR u s S' (.ref (n+k) 0 0 i) c)→jl gh u s S' n l cvs
 | [],[],[],n,_,_,_,_,_=>by simp [jl]
 | v::r,x::q,c::cs,n,hl,hv,ho,hx,hr=>by
  simp only [aY] at hv
  rcases jm x with ⟨xs,k,e,rfl⟩|hxo
  ·obtain ⟨b,ver,i,rfl,y,e',w⟩:=ho v _ (by simp) ⟨xs,k,e,rfl⟩
   cases w
   simp only [jl]
   refine ⟨?_, ?_⟩
   ·have:=hr 0 b (JE xs e) (by simp [kP]) ver k c hv.1 ⟨xs,e,by simp⟩
    rwa [Nat.add_zero] at this
   ·refine JD r q cs (n+1) (by simpa using hl) hv.2 (fun v x f=>ho v x (by simp [f])) (fun v x c f=>hx v x c (by simp [f])) ?_
    intro j p Bo o a g t h d
    have:=hr (j+1) p Bo (by simpa [kP] using o) a g t h (by obtain ⟨xs,e,d⟩:=d;exact ⟨xs,e,by simp [d]⟩)
    rwa [show n+(j+1)=n+1+j by omega] at this
  ·rw [bU hxo]
   refine ⟨hx v x c (by simp) hxo hv.1, ?_⟩
   refine JD r q cs n (by simpa using hl) hv.2 (fun v x f=>ho v x (by simp [f])) (fun v x c f=>hx v x c (by simp [f])) ?_
   intro j p Bo o a g t h d
   exact hr j p Bo (by rw [jh hxo];exact o) a g t h (by obtain ⟨xs,e,d⟩:=d;exact ⟨xs,e,by simp [d]⟩)
 | [],_::_,_,_,hl,_,_,_,_=>by simp at hl
 |_::_,[],_,_,hl,_,_,_,_=>by simp at hl
 | [],[],_::_,_,_,hv,_,_,_=>by simp [aY] at hv
 |_::_,_::_,[],_,_,hv,_,_,_=>by simp [aY] at hv
theorem LM {α β:Type} {f:α→Option β}:∀ {l:List α} {l':List β},jP f l=some l'→∀ x y,(x,y) ∈ l.zip l'→f x=some y
 | [],l',h,x,y,hm=>by simp at hm
 | a::r,l',h,x,y,hm=>by
  simp only [jP] at h
  split at h
  ·rename_i b d
   split at h
   ·rename_i q c
    cases h
    simp only [List.zip_cons_cons,List.mem_cons,Prod.mk.injEq] at hm
    rcases hm with ⟨rfl,rfl⟩|hm
    ·exact d
    ·exact LM c x y hm
   ·cases h
  ·cases h
theorem Sv {α β:Type} {l:List α} {b:List β} {x:α} {y:β} (h:(x,y) ∈ l.zip b):∃ i:Nat,l[i]? =some x∧b[i]? =some y:=by
 obtain ⟨i,a⟩:=List.mem_iff_getElem?.1 h
 rw [List.getElem?_zip_eq_some] at a
 exact ⟨i,a⟩
theorem YY {g:dF} {m:aX} {S:aU} {l:List AV} {vs:List Value} (h:aY g m S l vs) {x:AV} (c:x ∈ l):∃ v,VR g m S x v:=by
 obtain ⟨i,b⟩:=List.mem_iff_getElem?.1 c
 obtain ⟨v,_,a⟩:=rY h i b
 exact ⟨v,a⟩
end AM
namespace AM
open Go
section
variable {P:Program} {ap:AP}
theorem sN {h0 F:List bi} {hp:Hp} {m m0:aX} {S S0:aU} {w w0:World} {vs l:List AV} {cvs:List Value} (V:bV ap (aA hp) m S w) (A:Fr (bH h0) m0 S0 w0 (aA hp) m S w) (hv:aY (aA hp) m S vs cvs)
  {N:Nat} (hN:h0.length≤N) (hl:jP (qc N (aA hp) (vs.flatMap (cl (aA hp)))) vs=some l) (hh':jP (aA hp) (List.range N)=some F) (hbase:F.all (fun B=>B.pr||(bT B.cells).all fun b=>Nat.blt b N)=true):
  ∃ m' S',bV ap (bH (F++(dU F.length l).2)) m' S' w∧Fr (bH h0) m0 S0 w0 (bH (F++(dU F.length l).2)) m' S' w∧jl (bH F) (bH (F++(dU F.length l).2)) m' S' F.length l cvs:=by
 have X:=(iF hl).1
 have hz:∀ v x,(v,x) ∈ vs.zip l→G5 N (aA hp) (vs.flatMap (cl (aA hp))) v x:=fun v x D=>yP (LM hl v x D)
 have J:∀ v x,(v,x) ∈ vs.zip l→(∃ xs k e,x= .own xs k e)→∃ (b n:Nat) (B:bi),v= .ref b B.ver 0 n∧aA hp b=some B∧N≤b∧B.fro=false∧B.pr=true∧fU (vs.flatMap (cl (aA hp))) b=1∧0<B.esz∧x= .own (B.cells.take (n*B.esz)) n B.esz:=by
  rintro v x D ⟨xs,k,e,rfl⟩
  obtain ⟨c,T⟩:=YY hv (List.of_mem_zip D).1
  generalize hxe:AV.own xs k e=x at D
  cases hz v x D with
  |own a d p t z O=>exact ⟨_,_,_,rfl,a,d,p,t,z,O,rfl⟩
  |low a=>exact absurd hxe.symm (xk T _ _ _)
  |frz a d=>
   refine absurd hxe.symm (DL (lG V (fun b B g=> ?_) 6 v c x d T) _ _ _)
   split at g
   ·exact g
   ·cases g
 generalize L:kP vs l=obs
 have hbs:∀ n,(dU n l).2=obs.map (·.2):=by
  intro n
  rw [← L]
  refine FH vs l n X.symm fun v x D Y=> ?_
  obtain ⟨b,n',B,a,_⟩:=J v x D Y
  exact ⟨b,_,0,n',a⟩
 rw [hbs]
 have C:∀ b Bo,(b,Bo) ∈ obs→∃ (n:Nat) (B:bi),aA hp b=some B∧N≤b∧B.fro=false∧B.pr=true∧fU (vs.flatMap (cl (aA hp))) b=1∧0<B.esz∧Bo=JE (B.cells.take (n*B.esz)) B.esz∧(AV.ref b B.ver 0 n,AV.own (B.cells.take (n*B.esz)) n B.esz) ∈ vs.zip l:=by
  intro b Bo D
  rw [← L] at D
  obtain ⟨ver,i,n,xs,k,e,a,d⟩:=AA D
  obtain ⟨b',n',B,p,t,z,O,U,R,W,E⟩:=J _ _ a ⟨xs,k,e,rfl⟩
  cases p
  cases E
  exact ⟨_,B,t,z,O,U,R,W,d,a⟩
 have hobd:∀ (k k' b:Nat) (Bo Bo':bi),obs[k]? =some (b,Bo)→obs[k']? =some (b,Bo')→k=k':=by
  intro k k' b Bo Bo' a d
  obtain ⟨n,B,_,_,_,_,z,_⟩:=C b Bo (List.mem_of_getElem? a)
  by_cases s:k=k'
  ·exact s
  ·have p:=zZ (f:=fun q:Nat × bi=> [q.1]) obs k k' _ _ a d s (b:=b) (by simp) (by simp)
   have t:=Ff (rd:=aA hp) (b:=b) vs l
   rw [L] at t
   omega
 have hobx:∀ b Bo,(b,Bo) ∈ obs→∀ v x,(v,x) ∈ vs.zip l→(∀ xs k e,x ≠ .own xs k e)→b ∉ cl (aA hp) v:=by
  intro b Bo D v x hvx Y g
  obtain ⟨n,B,_,_,_,_,z,_,_,O⟩:=C b Bo D
  obtain ⟨i,U,R⟩:=Sv O
  obtain ⟨j,W,E⟩:=Sv hvx
  have hne:i ≠ j:=by
   rintro rfl
   rw [R] at E
   cases E
   exact Y _ _ _ rfl
  have:=zZ (f:=cl (aA hp)) vs i j _ _ U W hne (b:=b) (Xe (by simp [dO])) g
  omega
 have Z:F.length=N:=by rw [(iF hh').1];simp
 have M:∀ b,b<N→∃ B,aA hp b=some B∧bH F b=some B:=by
  intro b g
  obtain ⟨B,a,d⟩:=(iF hh').2 b b (by simp [g])
  exact ⟨B,d,a⟩
 have hlow':∀ b B,bH F b=some B→b<N∧aA hp b=some B:=by
  intro b B g
  have G:b<N:=by
   have:=(List.getElem?_eq_some_iff.1 g).1
   omega
  obtain ⟨B',a,d⟩:=M b G
  rw [g] at d;cases d
  exact ⟨G,a⟩
 let rdF:dF:=open Classical in fun b=>if ∃ v x,(v,x) ∈ vs.zip l∧(∀ xs k e,x ≠ .own xs k e)∧b ∈ cl (aA hp) v∧∀ y ∈ cl (aA hp) v,N≤y then aA hp b else none
 have Q:∀ b B,rdF b=some B→aA hp b=some B∧N≤b∧∀ Bo,(b,Bo) ∉ obs:=by
  intro b B g
  dsimp only [rdF] at g
  split at g
  ·rename_i T
   obtain ⟨v,x,a,d,p,t⟩:=T
   exact ⟨g,t b p,fun Bo D=>hobx b Bo D v x a d p⟩
  ·cases g
 have r:=nT S m rdF w
 let m':aX:=fun i=>if i<N then m i else m ((obs.map (·.1)).getD (i - N) 0)
 have hm'lo:∀ i,i<N→m' i=m i:=fun i I=>if_pos I
 have hm'hi:∀ (k b:Nat) (Bo:bi),obs[k]? =some (b,Bo)→m' (N+k)=m b:=by
  intro k b Bo s
  show (if _ then _ else _)=_
  rw [if_neg (by omega),show N+k - N=k by omega,List.getD_eq_getElem?_getD,List.getElem?_map,s]
  rfl
 have hgf:∀ i Bi,bH (F++obs.map (·.2)) i=some Bi→(i<N∧aA hp i=some Bi∧bH F i=some Bi)∨(∃ k b,i=N+k∧obs[k]? =some (b,Bi)):=by
  intro i Bi I
  by_cases G:i<N
  ·rw [eQ (by omega)] at I
   exact .inl ⟨G,(hlow' i Bi I).2,I⟩
  ·rw [iW (by omega),Z] at I
   right
   refine ⟨i - N, ?_⟩
   have hi':(obs.map (·.2))[i - N]? =some Bi:=I
   rw [List.getElem?_map,Option.map_eq_some_iff] at hi'
   obtain ⟨⟨b,Bo⟩,a,d⟩:=hi'
   exact ⟨b,by omega,by rw [a];simp at d;rw [d]⟩
 have hgfk:∀ (k b:Nat) (Bo:bi),obs[k]? =some (b,Bo)→bH (F++obs.map (·.2)) (N+k)=some Bo:=by
  intro k b Bo s
  rw [iW (by omega),Z,show N+k - N=k by omega]
  show (obs.map (·.2))[k]? =_
  rw [List.getElem?_map,s];rfl
 have K:∀ i Bi,bH (F++obs.map (·.2)) i=some Bi→∃ b B,aA hp b=some B∧m' i=m b∧((i<N∧b=i∧Bi=B)∨(N≤b∧∃ k,i=N+k∧obs[k]? =some (b,Bi))):=by
  intro i Bi I
  rcases hgf i Bi I with ⟨a,d,p⟩|⟨k,b,rfl,s⟩
  ·exact ⟨i,Bi,d,hm'lo i a,.inl ⟨a,rfl,rfl⟩⟩
  ·obtain ⟨n,B,a,d,_⟩:=C b Bi (List.mem_of_getElem? s)
   exact ⟨b,B,a,hm'hi k b Bi s,.inr ⟨d,k,rfl,s⟩⟩
 refine ⟨m',dH S m rdF w, ?_, ?_, ?_⟩
 ·refine ⟨?_, ?_,fun k o v h=>qi V h, ?_, ?_⟩
  ·intro i j Bi Bj I hj e
   obtain ⟨b,B,a,d,p⟩:=K i Bi I
   obtain ⟨b',B',h1',h2',h3'⟩:=K j Bj hj
   rw [d,h2'] at e
   have:=V.inj b b' B B' a h1' e
   subst this
   rcases p with ⟨t,rfl,_⟩|⟨t,k,rfl,s⟩<;>rcases h3' with ⟨h4',rfl,_⟩|⟨h4',k',rfl,hk'⟩
   ·rfl
   ·omega
   ·omega
   ·rw [hobd k k' b _ _ s hk']
  ·intro i Bi I
   rcases hgf i Bi I with ⟨a,d,p⟩|⟨k,b,rfl,s⟩
   ·rw [hm'lo i a]
    obtain ⟨⟨cur,e,us,rest,k1,k2,k3,k4,k5,k6⟩,k7,k8⟩:=V.blk i Bi d
    refine ⟨⟨cur,e,us,rest,k1,k2,fun hp=>dm r _ (k3 hp), ?_,k5,k6⟩,k7,k8⟩
    cases hpr:Bi.pr with
    |true=>exact bW _ (dm r _ (k3 hpr))
    |false=>
     refine nK r _ (fun b g=> ?_) k4
     have z:=List.all_eq_true.1 hbase Bi (List.mem_of_getElem? p)
     rw [hpr] at z
     simp only [Bool.false_or] at z
     have O:=f_ (List.all_eq_true.1 z b g)
     obtain ⟨B,U,R⟩:=M b O
     exact ⟨by rw [eQ (by omega),R,U],hm'lo b O⟩
   ·obtain ⟨n,B,a,d,p,t,z,O,rfl,_⟩:=C b Bi (List.mem_of_getElem? s)
    rw [hm'hi k b _ s]
    obtain ⟨⟨cur,e,us,rest,k1,k2,k3,k4,k5,k6⟩,k7,k8⟩:=V.blk b B a
    have hp:=dm r _ (kD (n*B.esz) (k3 t))
    refine ⟨⟨cur,e,us.take (n*B.esz),us.drop (n*B.esz)++rest,k1, ?_,fun _=>hp,bW _ hp,fun hz u hu=>k5 hz u (List.mem_of_mem_take hu),k6⟩,fun _=>rfl,Nat.zero_le _⟩
    rw [← List.append_assoc,List.take_append_drop];exact k2
  ·intro i Bi I o v ho
   obtain ⟨b,B,a,d,p⟩:=K i Bi I
   rw [d] at ho
   have hno:rdF b=none:=by
    cases hr:rdF b with
    |none=>rfl
    |some B'=>
     obtain ⟨_,t,z⟩:=Q b B' hr
     rcases p with ⟨O,rfl,_⟩|⟨_,k,_,s⟩
     ·omega
     ·exact absurd (List.mem_of_getElem? s) (z _)
   have hSo:S (m b).1 o=some v:=by
    rcases fJ ho with h|⟨_,b',B',t,z,_⟩
    ·exact h
    ·have:=V.inj b' b B' B (Q b' B' t).1 a z
     subst this
     rw [hno] at t;cases t
   obtain ⟨U,R⟩:=V.own b B a o v hSo
   rcases p with ⟨_,rfl,rfl⟩|⟨_,k,_,s⟩
   ·exact ⟨U,R⟩
   ·obtain ⟨n,B2,W,_,E,_⟩:=C b _ (List.mem_of_getElem? s)
    rw [a] at W;cases W
    rw [U] at E;cases E
  ·intro k xs s
   obtain ⟨us,a,d⟩:=V.glob k xs s
   exact ⟨us,dm r _ a,d.mono r⟩
 ·refine ⟨?_,A.sle.trans r,A.os,A.tape,A.output,A.size,A.rest, ?_, ?_⟩
  ·intro b B0 g
   have G:b<N:=Nat.lt_of_lt_of_le (List.getElem?_eq_some_iff.1 g).1 hN
   obtain ⟨B,a,d,p⟩:=A.ge b B0 g
   obtain ⟨B',t,z⟩:=M b G
   rw [a] at t;cases t
   exact ⟨B,by rw [eQ (by omega)];exact z,d,by rw [hm'lo b G];exact p⟩
  ·intro i Bi I
   obtain ⟨b,B,a,d,p⟩:=K i Bi I
   rw [d]
   rcases A.img b B a with h|⟨B0,t,z⟩
   ·exact .inl h
   ·have G:b<N:=Nat.lt_of_lt_of_le (List.getElem?_eq_some_iff.1 t).1 hN
    rcases p with ⟨_,rfl,_⟩|⟨O,_⟩
    ·exact .inr ⟨B0,t,z⟩
    ·omega
  ·intro k o v hv
   rcases fJ hv with h|⟨_,b,B,a,d,_⟩
   ·exact A.sealN k o v h
   ·obtain ⟨p,t,_⟩:=Q b B a
    rcases A.img b B p with h|⟨B0,z,_⟩
    ·exact .inr (.inl (d ▸ h))
    ·have:=(List.getElem?_eq_some_iff.1 z).1
     omega
 ·rw [Z]
  refine JD (rd:=aA hp) (m:=m) (S:=S) vs l cvs N X.symm hv ?_ ?_ ?_
  ·intro v x D Y
   obtain ⟨b,n,B,a,_,_,_,_,_,_,d⟩:=J v x D Y
   exact ⟨b,B.ver,n,a,_,_,d⟩
  ·intro v x c D Y T
   cases hz v x D with
   |own _ _ _ _ _ _=>exact absurd rfl (Y _ _ _)
   |low a=>
    refine yh r v (fun b g=> ?_) T
    obtain ⟨B,d,p⟩:=M b (a b g)
    exact ⟨by rw [p,d],hm'lo b (a b g)⟩
   | frz a d=>
    have p:=lG V (fun b B g=>by split at g;exact g;cases g) 6 v c x d T
    refine gG x (dn (MP fun b B g=> ?_) x p)
    split at g
    ·rename_i hm2
     dsimp only [rdF]
     rw [if_pos ⟨v,x,D,Y,jB.1 hm2,a⟩]
     exact g
    ·cases g
  ·rw [L]
   intro k b Bo s ver n' c T hzz
   obtain ⟨n,B,a,d,p,t,z,O,rfl,U⟩:=C b Bo (List.mem_of_getElem? s)
   obtain ⟨xs,e,hzz⟩:=hzz
   have hver:ver=B.ver:=by
    obtain ⟨b2,n2,B2,e1,e2,_⟩:=J _ _ hzz ⟨xs,_,e,rfl⟩
    cases e1
    rw [a] at e2;cases e2;rfl
   subst hver
   simp only [VR] at T ⊢
   obtain ⟨B',R,_,W,E⟩:=T
   rw [a] at R;cases R
   refine ⟨_,hgfk k b _ s,Nat.zero_le _,W,fun _=> ?_⟩
   rw [hm'hi k b _ s]
   exact E rfl
end
end AM
namespace AM
open Go
section
variable {P:Program} {ap:AP}
theorem GU (n:iJ P ap) {env:iP} {hp:Hp} {m:aX} {S:aU} {w:World} {tmps:Array Value} (F:bV ap (aA hp) m S w) (u:∀ t,VR (aA hp) m S (env.get t) (tmps.getD t undef)) {r:ResultVar} {v:AV} {bs:List Bool}
  (h:zq ap env hp r=some (v,bs)) (hbs:∀ b ∈ bs,b=true):∃ cv,(MJ tmps r).run P w= .ok cv w∧VR (aA hp) m S v cv:=by
 cases r with
 |tmp t=>
  simp only [zq,Option.some.injEq,Prod.mk.injEq] at h
  obtain ⟨rfl,rfl⟩:=h
  exact ⟨_,rfl,u t⟩
 | cell a t=>
  simp only [zq] at h
  have G:=bind_some h;clear h;obtain ⟨I,p,h⟩:=G
  simp only [Option.map_eq_some_iff] at h
  obtain ⟨⟨J,ups,A⟩,j,s⟩:=h
  simp only [Prod.mk.injEq] at s
  obtain ⟨rfl,rfl⟩:=s
  obtain ⟨i,d,z,D⟩:=dQ n p
  have c:=u a
  obtain ⟨_,cv,y,C⟩:=BC F (fun b B E=>E) D c j hbs
  refine ⟨cv, ?_,C⟩
  have g:∃ x,tmps.getD a undef= .pointer (some x):=by
   unfold LH at j
   split at j
   ·rename_i xs l f
    rw [f] at c
    simp only [VR,PR] at c
    obtain ⟨b,o,vs,e,_⟩:=c
    exact ⟨_,e⟩
   ·rename_i b ver l f
    rw [f] at c
    simp only [VR] at c
    obtain ⟨B,_,_,⟨k,o,e⟩,_⟩:=c
    exact ⟨_,e⟩
   ·cases j
  obtain ⟨x,q⟩:=g
  rw [q] at y
  simp only [MJ,q]
  exact y
theorem lS (a:iJ P ap) {env:iP} {hp:Hp} {m:aX} {S:aU} {w:World} {tmps:Array Value} (f:bV ap (aA hp) m S w) (g:∀ t,VR (aA hp) m S (env.get t) (tmps.getD t undef)):
  ∀ {rs:List ResultVar} {vs:List (AV × List Bool)},jP (zq ap env hp) rs=some vs→(∀ b ∈ vs.flatMap (·.2),b=true)→∃ cvs:List Value,rs.length=cvs.length∧aY (aA hp) m S (vs.map (·.1)) cvs∧∀ (i:Nat) (r:ResultVar) (v:Value),rs[i]? =some r→cvs[i]? =some v→(MJ tmps r).run P w= .ok v w
 | [],vs,h,_=>by
  simp [jP] at h
  subst h
  exact ⟨[],rfl,by simp [aY],fun i r v h=>by simp at h⟩
 | r::rs,vs,h,hbs=>by
  simp only [jP] at h
  split at h
  ·rename_i q s
   split at h
   ·rename_i l p
    cases h
    obtain ⟨v,bs⟩:=q
    obtain ⟨cv,k,u⟩:=GU a f g s (fun b d=>hbs b (by simp [d]))
    obtain ⟨cvs,x,j,y⟩:=lS a f g p (fun b d=>hbs b (by rw [List.flatMap_cons];exact List.mem_append.2 (.inr d)))
    refine ⟨cv::cvs,by simp [x],by simp only [List.map_cons,aY];exact ⟨u,j⟩, ?_⟩
    intro i n o c e
    cases i with
    |zero=>simp at c e;subst c;subst e;exact k
    |succ i=>exact y i n o (by simpa using c) (by simpa using e)
   ·cases h
  ·cases h
theorem U8 {gh d:dF} {m:aX} {S:aU} {n:Nat} {x:AV} {v:Value} (h:jl gh d m S n [x] [v]):Cb gh d m S n x v∧(lJ n x).2=(dU n [x]).2:=by
 rcases jm x with ⟨xs,k,e,rfl⟩|hx
 ·simp only [jl] at h
  exact ⟨h.1,rfl⟩
 ·rw [bU hx] at h
  rcases A_ x with ⟨l,rfl⟩|ht
  ·have g:=h.1
   simp only [VR] at g
   obtain ⟨vs,rfl,i⟩:=g
   have key:∀ (l:List AV) (vs:List Value) (n:Nat),aY gh m S l vs→jl gh d m S n l vs∧(dU n l).2= []:=by
    intro l
    induction l with
    |nil=>intro vs n a;cases vs with
     |nil=>exact ⟨by simp [jl],rfl⟩
     |cons _ _=>simp [aY] at a
    | cons y r ih=>intro vs n a;cases vs with
     |nil=>simp [aY] at a
     |cons u us=>
      simp only [aY] at a
      have b:=xk a.1
      obtain ⟨f,c⟩:=ih us n a.2
      rw [bU b,bD n b]
      exact ⟨⟨a.1,f⟩,c⟩
   obtain ⟨f,c⟩:=key l vs n i
   refine ⟨?_, ?_⟩
   ·simp only [Cb]
    exact ⟨vs,rfl,f⟩
   ·simp only [lJ,dU]
    exact c
  ·rw [lh hx ht,ja n hx ht,bD n hx]
   exact ⟨h.1,rfl⟩
theorem ql (rd:dF) (n:Nat):n≤UL rd n:=by
 obtain ⟨_,t,a⟩:=uC rd 20 (List.range n) List.nodup_range
 unfold UL
 rw [a,List.length_append,List.length_range]
 exact Nat.le_add_right _ _
theorem Lh {g:dF} {m:aX} {S:aU}:∀ {v0:List AV} {cvs:List Value},aY g m S v0 cvs→∃ ws,aY g m S (flD v0) ws∧lV (Yh v0) ws cvs
 | [],[],_=> ⟨[],by simp [flD,aY],by simp [Yh,lV]⟩
 | x::r,c::cs,h=>by
  simp only [aY] at h
  obtain ⟨ws,d,a⟩:=Lh h.2
  have other:flD (x::r)=x::flD r→Yh (x::r)=none::Yh r→∃ ws,aY g m S (flD (x::r)) ws∧lV (Yh (x::r)) ws (c::cs):=fun i f=>by
   rw [i,f]
   exact ⟨c::ws,by simp only [aY];exact ⟨h.1,d⟩,by simp only [lV];exact ⟨trivial,a⟩⟩
  cases x with
  |agg ys=>
   simp only [VR] at h
   obtain ⟨⟨j,rfl,b⟩,_⟩:=h
   have e:=bK b
   refine ⟨j++ws,by simp only [flD];exact fQ b d, ?_⟩
   simp only [Yh,lV]
   rw [e]
   simp only [List.take_left',List.drop_left']
   exact ⟨trivial,a⟩
  |_=>exact other rfl rfl
 | [],_::_,h=>by simp [aY] at h
 |_::_,[],h=>by simp [aY] at h
theorem Xl {g:dF} {m:aX} {S:aU} {v0:List AV} {cvs ws:List Value} (h:aY g m S v0 cvs) (a:lV (Yh v0) ws cvs):J5 (ajN v0) (Yh v0) ws (QX cvs):=by
 unfold J5
 match v0,cvs,h,a with
 | [],[],_,a=>exact ⟨[],rfl,a⟩
 | [x],[c],_,a=>exact a
 |x::y::r,c::d::cs,_,a=>exact ⟨c::d::cs,rfl,a⟩
 | [],_::_,h,_=>simp [aY] at h
 | [_],[],h,_=>simp [aY] at h
 | [_],_::_::_,h,_=>simp [aY] at h
 |_::_::_,[],h,_=>simp [aY] at h
 |_::_::_,[_],h,_=>simp [aY] at h
theorem lQ (n:iJ P ap) {s y:List bi} {J:Func} {env:iP} {hp:Hp} {m m0:aX} {S S0:aU} {w w0:World} {tmps:Array Value} {c I:Cx} {out:jT} {L:Bool} (h:wB ap L s.length J env hp c= .ok (out,y) I) (F:I.Ok):
  c.Ok∧s.length≤y.length∧(bV ap (aA hp) m S w→Fr (bH s) m0 S0 w0 (aA hp) m S w→(∀ t,VR (aA hp) m S (env.get t) (tmps.getD t undef))→
   ∃ cv,(results J tmps).run P w= .ok cv w∧∃ r S',Gv ap s m0 S0 w0 out y r S' w (.returned cv)):=by
 unfold wB at h
 dsimp only at h
 split at h
 ·rename_i vs O k a
  split at h
  ·cases h
  ·rename_i hbase
   obtain ⟨_,Q,G,h⟩:=R.bind_ok h
   cases L with
   | true=>
    dsimp only at h
    split at h
    ·rename_i l g
     cases h
     obtain ⟨b,e⟩:=C_ G F
     have hlen':s.length≤y.length:=by rw [(iF a).1];simpa using ql _ _
     refine ⟨b,hlen',fun i d C=> ?_⟩
     obtain ⟨cvs,B,j,D⟩:=lS n i C k e
     obtain ⟨ws,M,N⟩:=Lh j
     obtain ⟨r,S',x,u,A⟩:=sN i d M (ql _ _) g a hbase
     exact ⟨_,vz B D,r,S',x,u,_,ws,rfl,Xl j N,A⟩
    ·cases h
   | false=>
    dsimp only at h
    split at h
    ·rename_i v g
     cases h
     obtain ⟨b,e⟩:=C_ G F
     have hlen':s.length≤y.length:=by rw [(iF a).1];simpa using ql _ _
     refine ⟨b,hlen',fun i d C=> ?_⟩
     obtain ⟨cvs,B,j,D⟩:=lS n i C k e
     have f:(vs.flatMap fun q=>sG (aA hp) 6 (iO (dO q.1)))=(vs.map (·.1)).flatMap (cl (aA hp)):=by rw [List.flatMap_map];rfl
     rw [f] at g
     obtain ⟨r,S',x,u,A⟩:=sN i d j (ql _ _) g a hbase
     have E:cvs.length=1:=by
      have:=bK j
      have p:=(iF g).1
      simp at p this
      omega
     match cvs,E with
     | [cv],_=>
      obtain ⟨p,K⟩:=U8 A
      refine ⟨cv,vz B D,r,S', ?_⟩
      rw [← K] at x u
      refine ⟨x,u,cv,rfl, ?_⟩
      rw [K]
      exact p
    ·rename_i l o g
     cases h
     obtain ⟨b,e⟩:=C_ G F
     have hlen':s.length≤y.length:=by rw [(iF a).1];simpa using ql _ _
     refine ⟨b,hlen',fun i d C=> ?_⟩
     obtain ⟨cvs,B,j,D⟩:=lS n i C k e
     have f:(vs.flatMap fun q=>sG (aA hp) 6 (iO (dO q.1)))=(vs.map (·.1)).flatMap (cl (aA hp)):=by rw [List.flatMap_map];rfl
     rw [f] at g
     obtain ⟨r,S',x,u,A⟩:=sN i d j (ql _ _) g a hbase
     have z:QX cvs= .tuple cvs.toArray:=by
      match cvs with
      | []=>rfl
      | [cv]=>
       exfalso
       have:=bK j
       have p:=(iF g).1
       simp at p this
       match l,o with
       | [],_=>simp at p;omega
       | [v],o=>exact o v rfl
       |_::_::_,_=>simp at p;omega
      |_::_::_=>rfl
     refine ⟨_,vz B D,r,S',x,u, ?_⟩
     rw [z]
     exact ⟨_,rfl,cvs,rfl,A⟩
    ·cases h
 ·cases h
theorem zo {a i:List bi} {v:AV} {hp:Hp} {m m0:aX} {S S0:aU} {w w0:World} {c y:Cx} {out:jT} (h:JF a.length v hp c= .ok (out,i) y):
  c=y∧a.length≤i.length∧(bV ap (aA hp) m S w→Fr (bH a) m0 S0 w0 (aA hp) m S w→∀ cv,VR (aA hp) m S v cv→(∀ b ver n,v ≠ .ref b ver 0 n)→
   ∃ t S',Gv ap a m0 S0 w0 out i t S' w (.panicked [{v:=cv,recovered:=false}])):=by
 unfold JF at h
 dsimp only at h
 split at h
 ·rename_i o z d f
  split at h
  ·cases h
  ·rename_i hbase
   cases h
   have hlen':a.length≤i.length:=by rw [(iF f).1];simpa using ql _ _
   refine ⟨rfl,hlen',fun x s cv r u=> ?_⟩
   have A:jP (qc (UL (aA hp) a.length) (aA hp) ([v].flatMap (cl (aA hp)))) [v]=some [o]:=by
    simp only [List.flatMap_cons,List.flatMap_nil,List.append_nil,jP]
    have C:qc (UL (aA hp) a.length) (aA hp) (cl (aA hp) v) v=some o:=d
    rw [C]
   obtain ⟨t,S',j,l,q⟩:=sN x s (vs:= [v]) (cvs:= [cv]) (by simp only [aY];exact ⟨r,trivial⟩) (ql _ _) A f hbase
   have g:∀ xs k e,o ≠ .own xs k e:=by
    rintro xs k e rfl
    cases yP d with
    |own h1 h2 h3 j l q=>exact u _ _ _ rfl
    |low h1=>exact xk r _ _ _ rfl
    |frz h1 h2=>
     exact DL (lG x (fun b B p=>by split at p;exact p;cases p) 6 v cv _ h2 r) _ _ _ rfl
   rw [bU g] at q
   rw [bD _ g] at j l
   exact ⟨t,S',j,l,cv,rfl,q.1⟩
 ·cases h
end
end AM
namespace AM
open Go
def tV (S:aU):AV→FrameMode→Prop
 | .nilI,u=>u= .returning
 | .ifc t v,u=> ∃ cv,u= .panicking [{v:=cv,recovered:=false}]∧PR S (.ifc t v) cv
 |_,_=>False
def NF (md md':AV) (u u':FrameMode):Prop:=(md'=md∧u'=u)∨(md'= .nilI∧settle u'= .returning)
structure YS (P:Program) (ap:AP) (f:Nat) (args:List AV) (h:List bi) (out:jT) (h':List bi) (md md':AV):Prop where
 ent:DF P f
 calls:∀ m S w cargs u,bV ap (bH h) m S w→aY (bH h) m S args cargs→tV S md u→CallsD P f cargs.toArray u w fun e u' w'=>(∃ m' S',Gv ap h m S w out h' m' S' w' e)∧NF md md' u u'
def vK (P:Program) (ap:AP) (H:di):Prop:=∀ c md f args h out h' md' c',md ≠ .dead→H c md f args h= .ok (out,h',md') c'→c'.Ok→c.Ok∧YS P ap f args h out h' md md'
structure J4 (P:Program) (ap:AP):Prop where
 fn:∀ (f:Nat) (F:AF),ap.fnAt f=some F→P.funcs[f]? =some F.fn
 body:∀ (f:Nat) (F:AF),ap.fnAt f=some F→∃ c,F.fn.body=some c∧dJ F.fn.ntmps c=true
 name:∀ (f:Nat) (F:AF),ap.fnAt f=some F→(F.fn.name== "runtime.NumGoroutine")=false
section
variable {P:Program} {ap:AP} {H:di}
theorem zU (a:J4 P ap) {f:Nat} {F:AF} (b:ap.fnAt f=some F):DF P f:=by
 intro args w
 obtain ⟨c,d,_⟩:=a.body f F b
 unfold callFunc
 rw [Sem.run_bind]
 have:(program).run P w= .ok P w:=rfl
 rw [this,Result.andThen_ok,a.fn f F b]
 dsimp only
 rw [a.name f F b]
 simp [d]
theorem MQ {S:aU} {md:AV} {u:FrameMode} (h:tV S md u):settle u=u∧u ≠ .run:=by
 cases md<;>simp only [tV] at h
 ·obtain ⟨cv,rfl,_⟩:=h;exact ⟨rfl,by simp⟩
 ·subst h;exact ⟨rfl,by simp⟩
theorem uQ (C:iJ P ap) (W:vK P ap H):
  ∀ (dfs:List (Nat × List AV)) (mode mode':AV) (hp hp':Hp) (c c':Cx),EE ap H dfs mode hp c= .ok (mode',hp') c'→c'.Ok→c.Ok∧
   ∀ (z:List bi) (y:Func) (tmps:Array Value) (env:iP) (RR:Ending→World→Prop) (m0:aX) (S0:aU) (w0:World) m S w k u,bV ap (aA hp) m S w→Fr (bH z) m0 S0 w0 (aA hp) m S w→(∀ t,VR (aA hp) m S (env.get t) (tmps.getD t undef))→gW (aA hp) m S dfs k→tV S mode u→
   (∀ m' S' w' l,bV ap (aA hp') m' S' w'→Fr (bH z) m0 S0 w0 (aA hp') m' S' w'→(∀ t,VR (aA hp') m' S' (env.get t) (tmps.getD t undef))→tV S' mode' l→Leaves P y tmps RR [] l w')→Leaves P y tmps RR k u w
 | [],mode,mode',hp,hp',c,c',h,hc=>by
  cases h
  refine ⟨hc,fun z y tmps env RR m0 S0 w0 m S w k u L o M hd j F=> ?_⟩
  cases k with
  |nil=>exact F m S w u L o M j
  |cons _ _=>simp [gW] at hd
 | (f, args)::r,mode,mode',hp,hp',c,c',h,hc=>by
  simp only [EE] at h
  split at h
  ·cases h
  ·rename_i hrefs
   simp only [Bool.and_eq_true] at hrefs
   have K:mode ≠ .dead:=by rintro rfl;cases hrefs.1
   obtain ⟨q,c1,e1,h⟩:=R.bind_ok h
   split at h
   ·cases h
   ·rename_i v x
    obtain ⟨G,Y⟩:=uQ C W r q.md mode' (q.ups++hp) hp' c1 c' h hc
    obtain ⟨args0,X,U,O,e2,Q,hg⟩:=yA e1
    obtain ⟨A,V⟩:=W _ _ _ _ _ _ _ _ _ K e2 G
    refine ⟨A,fun z y tmps env RR m0 S0 w0 m S w k u L o M hd j F=> ?_⟩
    cases k with
    |nil=>simp [gW] at hd
    | cons d k=>
     simp only [gW] at hd
     obtain ⟨⟨n,T,h2⟩,h3⟩:=hd
     have hfresh:∀ i,i<4→aA hp (kM hp+i)=none:=by
      intro i _
      cases hb:aA hp (kM hp+i) with
      |none=>rfl
      |some B=>have:=v_ hb;omega
     have hcall:=hg (aA hp) m S w (d.args++n).toList (fun cargs R=>CallsD P f cargs.toArray u w fun e l w'=>R e w'∧NF mode q.md u l)
      (fun cargs R R' p a=>CallsD.mono p fun e l w' g=> ⟨a e w' g.1,g.2⟩) L (fun b _ B hB=>hB) hfresh h2
      (fun m1 S1 I p a=>V.calls m1 S1 w _ u p a (by
       cases mode<;>simp only [tV] at j ⊢
       ·obtain ⟨cv,D,g⟩:=j;exact ⟨cv,D,dn I _ g⟩
       ·exact j))
     obtain ⟨s,E⟩:=MQ j
     refine ⟨E,.func f,n,f,d.args++n,T, ?_, ?_⟩
     ·rw [T]
      exact V.ent _ w
     ·rw [Array.toArray_toList] at hcall
      refine CallsD.mono hcall ?_
      rintro e l w' ⟨⟨m',S',p,a,g⟩,h7⟩
      rw [x] at g
      obtain ⟨cv,rfl,g⟩:=g
      rw [kw] at p a g
      refine Y z y tmps env RR m0 S0 w0 m' S' w' k (settle l) p (o.trans a) (fun t=>pR a.sle a.ge _ (M t)) (vJ a.sle a.ge h3) ?_ F
      rcases h7 with ⟨N,rfl⟩|⟨N,Z⟩
      ·rw [s,N]
       cases mode<;>simp only [tV] at j ⊢
       ·obtain ⟨cv,D,J⟩:=j;exact ⟨cv,D,dn a.sle _ J⟩
       ·exact j
      ·rw [N,Z];rfl
   ·cases h
theorem dW {n f:Nat} (h:n≤f):∀ (c:Code),dJ n c=true→dJ f c=true
 | .region _ ops _,hd=>by
  simp only [dJ,List.all_eq_true] at hd ⊢
  intro o g
  have:=hd o g
  unfold Ql at this ⊢
  split
  ·rename_i d e
   rw [e] at this
   exact Nat.ble_eq_true_of_le (Nat.le_trans (fH this) h)
  ·rfl
 | .seq a b,hd=>by simp only [dJ,Bool.and_eq_true] at hd ⊢;exact ⟨dW h a hd.1,dW h b hd.2⟩
 | .cond _ a b,hd=>by simp only [dJ,Bool.and_eq_true] at hd ⊢;exact ⟨dW h a hd.1,dW h b hd.2⟩
 | .block _ b,hd=>by simp only [dJ] at hd ⊢;exact dW h b hd
 | .loop b,hd=>by simp only [dJ] at hd ⊢;exact dW h b hd
 | .scope b,hd=>by simp only [dJ] at hd ⊢;exact dW h b hd
 | .skip,_=>rfl
 | .label _,_=>rfl
 | .exit _,_=>rfl
 | .ret,_=>rfl
 | .rangeFunc _ _ _ _,_=>rfl
 | .goto _,_=>rfl
 | .refuse _,_=>rfl
theorem Ak {α:Type}:∀ (l:List α) (j t:Nat),aA ((l.zipIdx j).map fun (x,i)=>(i,x)) t=if j≤t then l[t - j]? else none
 | [],j,t=>by simp [aA]
 | a::r,j,t=>by
  rw [List.zipIdx_cons,List.map_cons]
  simp only [aA]
  cases h:Nat.beq j t with
  |true=>have:=aP h;subst this;simp
  | false=>
   have b:j ≠ t:=by intro e;subst e;simp at h
   simp only [Ak r (j+1) t]
   by_cases hj:j+1≤t
   ·rw [if_pos hj,if_pos (by omega)]
    obtain ⟨d,hd⟩:∃ d,t - j=d+1:=⟨t - j - 1,by omega⟩
    rw [hd,List.getElem?_cons_succ,show t - (j+1)=d by omega]
   ·rw [if_neg hj,if_neg (by omega)]
theorem Jk {h:List bi} {args:List AV} {cargs:List Value} {m:aX} {S:aU} {w:World} {md:AV} (f:bV ap (bH h) m S w) (e:aY (bH h) m S args cargs) (n:Nat):
  aA (oC md args h).hp=bH h∧FR ap (oC md args h).env (oC md args h).hp [] (cargs.toArray++Array.replicate (n - cargs.toArray.size) undef).size m S w {tmps:=cargs.toArray++Array.replicate (n - cargs.toArray.size) undef,defers:= []}:=by
 have a:aA (oC md args h).hp=bH h:=by
  funext b
  have:=Ak h 0 b
  simp only [oC,bH]
  rw [this,if_pos (Nat.zero_le _),Nat.sub_zero]
 refine ⟨a,⟨a ▸ f, ?_,by simp [gW],rfl⟩⟩
 intro t
 rw [a]
 have i:(oC md args h).env.get t=(args[t]?).getD .dead:=by
  have:=Ak args 0 t
  simp only [oC,iP.get]
  rw [this,if_pos (Nat.zero_le _),Nat.sub_zero]
 rw [i]
 cases j:args[t]? with
 |none=>simp [VR]
 | some x=>
  obtain ⟨v,d,g⟩:=rY e t j
  have c:=(List.getElem?_eq_some_iff.1 d).1
  have:(cargs.toArray++Array.replicate (n - cargs.toArray.size) undef).getD t undef=v:=by
   rw [Array.getD_eq_getD_getElem?,Array.getElem?_append_left (by simpa using c)]
   simp [d]
  rw [this]
  exact g
theorem yM (k:iJ P ap) (T:vK P ap H) {j z:List bi} {U:Bool} {A:Func} {e:bJ} {s:St} {c J:Cx} {out:jT} {D:AV} (h:Dc ap H U j.length A e s c= .ok (out,z,D) J) (N:J.Ok):
  c.Ok∧j.length≤z.length∧∀ m0 S0 w0 m S w a nt,Fr (bH j) m0 S0 w0 (aA s.hp) m S w→FR ap s.env s.hp s.dfs nt m S w a→U5 s.hp m S (bodyPostD P A fun e w'=> ∃ y S',Gv ap j m0 S0 w0 out z y S' w' e) a w e:=by
 have r:∀ mode,((EE ap H s.dfs mode s.hp c).bind fun (mode,hp) c=>
   match mode with
   | .nilI=>(wB ap U j.length A s.env hp c).bind fun (o,h) c=> .ok (o,h,s.md) c
   | .ifc t v=>(JF j.length (.ifc t v) hp c).bind fun (o,h) c=> .ok (o,h,s.md) c
   |_=> .bad 74)= .ok (out,z,D) J→c.Ok∧j.length≤z.length∧∀ m0 S0 w0 m S w a nt u,Fr (bH j) m0 S0 w0 (aA s.hp) m S w→FR ap s.env s.hp s.dfs nt m S w a→tV S mode u→Leaves P A a.tmps (fun e w'=> ∃ y S',Gv ap j m0 S0 w0 out z y S' w' e) a.defers u w:=by
  intro mode i
  obtain ⟨⟨mode',B⟩,c1,Q,i⟩:=R.bind_ok i
  dsimp only at i
  split at i
  ·obtain ⟨⟨o,x⟩,Z,F,i⟩:=R.bind_ok i
   cases i
   obtain ⟨M,g,C⟩:=lQ (P:=P) (m:=fun _=>(0,0)) (m0:=fun _=>(0,0)) (S:=fun _ _=>none) (S0:=fun _ _=>none) (w:=default) (w0:=default) (tmps:=#[]) k F N
   obtain ⟨q,I⟩:=uQ k T s.dfs mode _ s.hp B c c1 Q M
   refine ⟨q,g,fun m0 S0 w0 m S w a nt u d f K=> ?_⟩
   refine I j A a.tmps s.env _ m0 S0 w0 m S w a.defers u f.srel d f.env f.dfs K ?_
   intro y S' w' V l p O E
   simp only [tV] at E
   subst E
   obtain ⟨_,_,C⟩:=lQ (P:=P) (m:=y) (m0:=m0) (S:=S') (S0:=S0) (w:=w') (w0:=w0) (tmps:=a.tmps) k F N
   obtain ⟨cv,G,X⟩:=C l p O
   exact ⟨cv,G,X⟩
  ·rename_i t v
   obtain ⟨⟨o,x⟩,Z,F,i⟩:=R.bind_ok i
   cases i
   obtain ⟨rfl,g,_⟩:=zo (ap:=ap) (m:=fun _=>(0,0)) (m0:=fun _=>(0,0)) (S:=fun _ _=>none) (S0:=fun _ _=>none) (w:=default) (w0:=default) F
   obtain ⟨q,I⟩:=uQ k T s.dfs mode _ s.hp B c _ Q N
   refine ⟨q,g,fun m0 S0 w0 m S w a nt u d f K=> ?_⟩
   refine I j A a.tmps s.env _ m0 S0 w0 m S w a.defers u f.srel d f.env f.dfs K ?_
   intro y S' w' V l p O E
   simp only [tV] at E
   obtain ⟨cv,rfl,G⟩:=E
   obtain ⟨_,_,L⟩:=zo (ap:=ap) (m:=y) (m0:=m0) (S:=S') (S0:=S0) (w:=w') (w0:=w0) F
   exact L l p cv (gG _ G) (fun b ver n h=>by cases h)
  ·cases i
 unfold Dc at h
 dsimp only at h
 split at h
 ·obtain ⟨x,l,p⟩:=r .nilI h
  exact ⟨x,l,fun m0 S0 w0 m S w a nt d f=>p m0 S0 w0 m S w a nt .returning d f rfl⟩
 ·obtain ⟨x,l,p⟩:=r .nilI h
  exact ⟨x,l,fun m0 S0 w0 m S w a nt d f=>p m0 S0 w0 m S w a nt .returning d f rfl⟩
 ·rename_i t v
  split at h
  ·rename_i Y
   obtain ⟨x,l,p⟩:=r (.ifc t v) h
   refine ⟨x,l,fun m0 S0 w0 m S w a nt d f cv W=>p m0 S0 w0 m S w a nt _ d f ⟨cv,rfl, ?_⟩⟩
   exact m_ (by simpa [dO] using Y) W
  ·cases h
 ·cases h
theorem Kz (i:iJ P ap) (g:P.follows .mixedOrders=true) (j:J4 P ap) (x:mO P ap H) (L:vK P ap H) (lf:Nat):mO P ap fun c md f args h=>uw ap H lf md f args h c:=by
 intro c f args h out E p C b G
 have b:uw ap H lf .dead f args h c= .ok (out,E,p) C:=b
 unfold uw at b
 split at b
 ·cases b
 ·rename_i F v
  dsimp only at b
  obtain ⟨⟨e,s⟩,M,u,b⟩:=R.bind_ok b
  dsimp only at b
  obtain ⟨a,y,d⟩:=j.body f F v
  have hbody:ai F.fn=a:=by simp [ai,y]
  rw [hbody] at u
  obtain ⟨n,k,l⟩:=yM i L b G
  obtain ⟨o,_⟩:=eH (nt:=F.fn.ntmps) i g x a d _ _ _ _ _ u n
  refine ⟨o,k,zU j v,fun m S w cargs I B=> ?_⟩
  obtain ⟨A,q⟩:=Jk (md:= .dead) I B F.fn.ntmps
  have t:F.fn.ntmps≤(cargs.toArray++Array.replicate (F.fn.ntmps - cargs.toArray.size) undef).size:=by simp;omega
  obtain ⟨_,r⟩:=eH i g x a (dW t a d) _ _ _ _ _ u n
  obtain ⟨_,r⟩:=r rfl
  refine calls_of_wp_defers (j.fn f F v) y ?_
  refine r m S w m S w _ (by rw [A];exact Fr.refl _ _ _ _) q _ ?_
  intro K S' w' z D J
  exact l m S w K S' w' z _ D J
end
end AM
namespace AM
open Go
section
variable {P:Program} {ap:AP} {H:di}
theorem UU {o:Oper} {a:Act} {K K':Act→World→Prop} {Q Q':Exit→Act→World→Prop} {r:Result Next} (c:∀ a w,K a w→K' a w) (d:∀ e a w,Q e a w→Q' e a w) (f:¬ LetsOut Q) (h:o.upon P a K Q r):o.upon P a K' Q' r:=by
 cases r with
 | ok n w'=>
  cases n<;>simp only [Oper.upon] at h ⊢ <;>
   first
    |exact c _ _ h
    |exact Calls.mono h (fun e g b=>by cases e<;>first|exact c _ _ b|exact d _ _ _ b|exact absurd b f)
    |exact Rows.mono h (fun _ _ b=>c _ _ b)
 |halt x w'=>cases x<;>simp only [Oper.upon] at h ⊢ <;>exact d _ _ _ h
theorem jK {ops:Array Oper} {Q:Exit→Act→List Frame→World→Prop} {f:List Frame} {Q':Exit→Act→World→Prop} (c:∀ e a w,Q' e a w→Q e a f w) (b:¬ LetsOut Q'):∀ (l:List Nat) (a:Act) (w:World),wpOps P ops Q' l a w→wpOpsS P ops Q l a f w
 | [],a,w,h=>c _ _ _ h
 | i ::rest,a,w,h=>by
  simp only [wpOps] at h
  simp only [wpOpsS]
  cases g:ops[i]? with
  |none=>
   simp only [g] at h ⊢
   exact jK c b rest a w h
  | some o=>
   simp only [g] at h ⊢
   by_cases hw:Region.wanted o (yielded ops a.tmps)=true
   ·rw [if_pos hw] at h ⊢
    rcases h with h|⟨_,h⟩
    ·unfold Oper.wp at h
     split
     ·rename_i w' j
      rw [j] at h
      exact h.elim
     ·exact UU (fun a w d=>jK c b rest a w d) (fun e a w d=>c e a w d) b h
    ·exact absurd h b
   ·rw [if_neg hw] at h ⊢
    exact jK c b rest _ w h
theorem ajv {Q:Exit→Act→World→Prop}:¬ LetsOut (fun e a w=>e ≠ .outgrown∧Q e a w):=fun ⟨_,_,h,_⟩=>h rfl
theorem MM {a:Act} {o:Oper} {args:Array Operand} {argTypes:Array TypeId} (h:o.op= .call {callee:= .builtin .recover,args,argTypes}) (w:World):(execOp a.eval o).run P w= .ok .recover w:=by
 unfold execOp
 rw [h]
 rfl
theorem FR.env_cons {env:iP} {hp:Hp} {dfs:List (Nat × List AV)} {nt:Nat} {m:aX} {S:aU} {w:World} {a:Act} (h:FR ap env hp dfs nt m S w a) {d:Nat} (hd:d<nt) {v:AV} {cv:Value} (b:VR (aA hp) m S v cv):FR ap ((d,v)::env) hp dfs nt m S w (a.put (some d) cv):=by
 refine ⟨h.srel,fun t=> ?_,by rw [Fp];exact h.dfs,by rw [Mc];exact h.size⟩
 by_cases ht:d=t
 ·subst ht
  rw [Fq _ _ _ (by rw [h.size];exact hd)]
  have:iP.get ((d,v)::env) d=v:=l_ (env:=env)
  rw [this];exact b
 ·rw [Fv _ _ _ (fun e=>ht (by cases e;rfl))]
  have:iP.get ((d,v)::env) t=env.get t:=yN (env:=env) (dst:=some d) (fun e=>ht (by cases e;rfl))
  rw [this];exact h.env t
theorem IV (l:iJ P ap) (I:P.follows .mixedOrders=true) (J:J4 P ap) (hH:mO P ap H) (lf:Nat):vK P ap fun c md f args h=>uw ap H lf md f args h c:=by
 intro c md f args h out h' N c' hmd g hc
 have g:uw ap H lf md f args h c= .ok (out,h',N) c':=g
 unfold uw at g
 split at g
 ·cases g
 ·rename_i F hF
  split at g
  ·exact absurd rfl hmd
  ·split at g
   ·rename_i hrefs
    simp only [Bool.and_eq_true] at hrefs
    obtain ⟨body,L,k⟩:=J.body f F hF
    have hbody:ai F.fn=body:=by simp [ai,L]
    unfold Vp at g
    rw [hbody] at g
    split at g
    ·rename_i id ops rest
     split at g
     ·rename_i o r j
      split at g
      ·rename_i args' argTypes d hop hg hd
       dsimp only at g
       obtain ⟨⟨s1,p⟩,c1,e1,g⟩:=R.bind_ok g
       dsimp only at g
       split at g
       ·cases g
       ·obtain ⟨⟨e,C⟩,c2,e2,g⟩:=R.bind_ok g
        dsimp only at g
        split at g
        ·cases g
        ·rename_i X
         have z:∃ c3,(e= .normal∨e= .ret)∧wB ap (Qe F.keep) h.length F.fn C.env C.hp c2= .ok (out,h') c3∧N= .nilI∧c3=c':=by
          split at g
          ·obtain ⟨⟨o1,h1⟩,c3,K,g⟩:=R.bind_ok g
           cases g
           exact ⟨_,.inl rfl,K,rfl,rfl⟩
          ·obtain ⟨⟨o1,h1⟩,c3,K,g⟩:=R.bind_ok g
           cases g
           exact ⟨_,.inr rfl,K,rfl,rfl⟩
          ·cases g
         obtain ⟨c3,z,K,rfl,rfl⟩:=z
         obtain ⟨M,hlen,_⟩:=lQ (P:=P) (m:=fun _=>(0,0)) (m0:=fun _=>(0,0)) (S:=fun _ _=>none) (S0:=fun _ _=>none) (w:=default) (w0:=default) (tmps:=#[]) l K hc
         simp only [dJ,Bool.and_eq_true] at k
         obtain ⟨Z,_⟩:=eH (nt:=F.fn.ntmps) l I hH rest k.2 _ _ _ _ _ e2 M
         have q:∀ nt,F.fn.ntmps≤nt→∀ o' ∈ o::r,∀ d,o'.dst=some d→d<nt:=by
          intro nt A o' ho' d' hd'
          have:=List.all_eq_true.1 k.1 o' (by rw [j];exact ho')
          simp only [Ql,hd'] at this
          exact Nat.lt_of_lt_of_le (f_ this) A
         obtain ⟨hc0,_⟩:=nU (nt:=F.fn.ntmps) l hH (ops:=o::r) (q _ (Nat.le_refl _)) r 1 _ _ _ _ _ _ e1 Z
         refine ⟨hc0,zU J hF,fun m S w cargs u hS hv hm=> ?_⟩
         obtain ⟨hh,hFR⟩:=Jk (md:= .dead) hS hv F.fn.ntmps
         have A:F.fn.ntmps≤(cargs.toArray++Array.replicate (F.fn.ntmps - cargs.toArray.size) undef).size:=by simp;omega
         obtain ⟨_,hx⟩:=eH l I hH rest (dW A rest k.2) _ _ _ _ _ e2 M
         obtain ⟨_,hs⟩:=nU l hH (ops:=o::r) (q _ A) r 1 _ _ _ _ _ _ e1 Z
         obtain ⟨U,hs⟩:=hs rfl (fun t b L=>by cases L) rfl (fun b B L=>v_ L)
         obtain ⟨_,hx⟩:=hx U
         have Y:=q _ A o (by simp) d hd
         refine callsD_of_wpS (J.fn f F hF) L fun c₀ D hc₀=> ?_
         have i:∃ cv n,tV S md u∧VR (aA (oC .dead args h).hp) m S md cv∧settle n= .returning∧((recoverD (c₀::D)=some (cv,{c₀ with mode:=n}::D))∨(recoverD (c₀::D)=none∧cv= .nilIface∧{c₀ with mode:=n}=c₀)):=by
          cases md<;>simp only [tV] at hm
          ·obtain ⟨cv,rfl,hp⟩:=hm
           exact ⟨cv,.panicking [{v:=cv,recovered:=true}],⟨cv,rfl,hp⟩,gG _ hp,rfl,.inl (by simp [recoverD,hc₀])⟩
          ·subst hm
           exact ⟨.nilIface,.returning,rfl,by simp only [VR,PR],rfl,.inr ⟨by simp [recoverD,hc₀],rfl,by rw [← hc₀]⟩⟩
         obtain ⟨cv,n,_,O,G,i⟩:=i
         have hcont:∀ (Q:Exit→Act→List Frame→World→Prop),(∀ e a w',(∃ m' S',Fr (bH h) m S w (aA C.hp) m' S' w'∧FR ap C.env C.hp C.dfs (cargs.toArray++Array.replicate (F.fn.ntmps - cargs.toArray.size) undef).size m' S' w' a)→(e= .normal∨e= .ret)→Q e a ({c₀ with mode:=n}::D) w')→
           wpOpsS P ops (Exit.thenS (rest.wpS P Q) Q) (List.range' 1 r.length) (({tmps:=cargs.toArray++Array.replicate (F.fn.ntmps - cargs.toArray.size) undef,defers:= []}:Act).put (some d) cv) ({c₀ with mode:=n}::D) w:=by
          intro Q hQ
          have hopsA:ops=(o::r).toArray:=by rw [← j]
          rw [hopsA]
          refine jK (Q':=fun e a w'=>e ≠ .outgrown∧e= .normal∧rest.wpS P Q a ({c₀ with mode:=n}::D) w') ?_ ajv _ _ _ ?_
          ·rintro e a w' ⟨_,rfl,hh⟩
           exact hh
          ·refine hs m S w _ (hFR.env_cons Y O) _ ?_
           intro m1 S1 w1 a1 h3 T
           refine ⟨by simp,rfl,wpS_of_wp ?_⟩
           rw [hh] at h3
           obtain ⟨m2,h5,h6⟩:=sV (keep:=F.keep) (s:=⟨s1.env,s1.hp,s1.md,s1.dfs⟩) h3 T
           refine hx m S w m2 S1 w1 a1 h5 h6 _ ?_
           intro m3 S3 w3 a3 h7 h8
           rcases z with rfl|rfl
           ·exact hQ .normal a3 w3 ⟨m3,S3,h7,h8⟩ (.inl rfl)
           ·exact hQ .ret a3 w3 ⟨m3,S3,h7,h8⟩ (.inr rfl)
         have E:∀ e a w',(∃ m' S',Fr (bH h) m S w (aA C.hp) m' S' w'∧FR ap C.env C.hp C.dfs (cargs.toArray++Array.replicate (F.fn.ntmps - cargs.toArray.size) undef).size m' S' w' a)→(e= .normal∨e= .ret)→
           bodyPostS P F.fn c₀ D (fun e n w'=>(∃ m' S',Gv ap h m S w out h' m' S' w' e)∧NF md .nilI u n) e a ({c₀ with mode:=n}::D) w':=by
          rintro e a w' ⟨m',S',h3,T⟩ hee
          obtain ⟨_,_,hro⟩:=lQ (P:=P) (m:=m') (m0:=m) (S:=S') (S0:=S) (w:=w') (w0:=w) (tmps:=a.tmps) l K hc
          obtain ⟨V,h5,h6⟩:=hro T.srel h3 T.env
          have W:a.defers= []:=by
           have:=T.dfs
           rw [X] at this
           cases hd:a.defers with
           |nil=>rfl
           |cons x y=>rw [hd] at this;simp [gW] at this
          rcases hee with rfl|rfl
          ·exact ⟨W,n,rfl,V,h5,h6,.inr ⟨rfl,G⟩⟩
          ·exact ⟨W,n,rfl,V,h5,h6,.inr ⟨rfl,G⟩⟩
         refine wpS_seq (wpS_region ?_)
         have hrange:List.range ops.size=0::List.range' 1 r.length:=by
          have:ops.size=r.length+1:=by rw [← Array.length_toList,j];simp
          rw [this,List.range_eq_range',List.range'_succ]
         rw [hrange]
         have ho0:ops[0]? =some o:=by
          have:ops.toList[0]? =some o:=by rw [j];rfl
          simpa using this
         simp only [wpOpsS,ho0,Region.wanted,hg,if_true,MM hop]
         rw [hd]
         rcases i with i|⟨i,rfl,hsame⟩
         ·rw [i]
          exact hcont _ E
         ·rw [i]
          have:=hcont _ E
          rw [hsame] at this
          exact this
      ·cases g
     ·cases g
    ·cases g
   ·cases g
end
end AM
namespace AM
open Go
def En:Option AF→Bool
 |some F=>(match F.fn.body with|some c=>dJ F.fn.ntmps c|none=>false) && !(F.fn.name== "runtime.NumGoroutine")
 |none=>true
theorem Y5 {P:Program} {ap:AP} (h:(List.range ap.nty).map ap.ty.get=(List.range ap.nty).map (Yx P)):iJ P ap:=by
 constructor
 intro t e a
 unfold AP.tyAt at a
 split at a
 ·rename_i b
  have d:=f_ b
  have c:((List.range ap.nty).map ap.ty.get)[t]? =some (some e):=by rw [List.getElem?_map,List.getElem?_range d];simp [a]
  rw [h,List.getElem?_map,List.getElem?_range d] at c
  simpa using c
 ·cases a
theorem aad {P:Program} {ap:AP} {keep:Nat→Bool} (h:(List.range ap.nfn).map (fun i=>(ap.fn.get i).map AF.fn)=(List.range ap.nfn).map fun i=>match keep i with|true=>P.funcs[i]? |false=>none) (l:(List.range ap.nfn).all (fun i=>En (ap.fn.get i))=true):J4 P ap:=by
 have d:∀ (f:Nat) (F:AF),ap.fnAt f=some F→f<ap.nfn∧ap.fn.get f=some F:=by
  intro f F a
  unfold AP.fnAt at a
  split at a
  ·rename_i j;exact ⟨f_ j,a⟩
  ·cases a
 have hgood:∀ (f:Nat) (F:AF),ap.fnAt f=some F→En (some F)=true:=by
  intro f F a
  obtain ⟨e,g⟩:=d f F a
  have:=List.all_eq_true.1 l f (by simpa using e)
  rwa [g] at this
 constructor
 ·intro f F a
  obtain ⟨e,g⟩:=d f F a
  have b:((List.range ap.nfn).map fun i=>(ap.fn.get i).map AF.fn)[f]? =some (some F.fn):=by rw [List.getElem?_map,List.getElem?_range e];simp [g]
  rw [h,List.getElem?_map,List.getElem?_range e] at b
  simp only [Option.map_some,Option.some.injEq] at b
  split at b
  ·exact b
  ·cases b
 ·intro f F a
  have:=hgood f F a
  simp only [En,Bool.and_eq_true] at this
  cases k:F.fn.body with
  |none=>rw [k] at this;cases this.1
  |some c=>rw [k] at this;exact ⟨c,rfl,this.1⟩
 ·intro f F a
  have:=hgood f F a
  simp only [En,Bool.and_eq_true,Bool.not_eq_true'] at this
  exact this.2
end AM
namespace AM
open Go
def aO (P:Program) (ap:AP) (h0:List bi) (n:Nat) (code:Code) (s:St) (e:bJ) (s':St):Prop:=∀ nt,n≤nt→ax P ap h0 nt code s e s'
abbrev xZ:=List (bJ × St)
def lZ (P:Program) (ap:AP) (H:di) (h0:List bi) (keep:List Nat) (lf nt:Nat) (ls:List Nat):Code→St→xZ→Cx→R ((bJ × St) × xZ)
 | .seq a b,s,l,c=>(lZ P ap H h0 keep lf nt ls a s l c).bind fun r c=>match r.1.1 with
  | .normal=>lZ P ap H h0 keep lf nt ls b r.1.2 r.2 c
  |e=> .ok ((e,r.1.2),r.2) c
 | .cond t a b,s,l,c=>match qW ap s.env t with
  | .bool x=>(zV c x).bind fun x c=>match x with
   |true=>lZ P ap H h0 keep lf nt ls a s l c
   |false=>lZ P ap H h0 keep lf nt ls b s l c
  |_=> .bad 60
 | .block id b,s,l,c=>match rE ls id with
  |true=>match l with
   |(e,s')::r=> .ok ((e,s'),r) {c with ps:=aO P ap h0 nt (.block id b) s e s'::c.ps}
   | []=> .bad 62
  |false=>(lZ P ap H h0 keep lf nt ls b s l c).bind fun r c=>match r.1.1 with
   | .exit id'=>match Nat.beq id' id with|true=> .ok ((.normal,r.1.2),r.2) c|false=> .ok ((.exit id',r.1.2),r.2) c
   |e=> .ok ((e,r.1.2),r.2) c
 | .scope b,s,l,c=>lZ P ap H h0 keep lf nt ls b s l c
 | .region id ops draw,s,l,c=>match rE ls (id+1000) with
  |true=>match l with
   |(e,s')::r=> .ok ((e,s'),r) {c with ps:=aO P ap h0 nt (.region id ops draw) s e s'::c.ps}
   | []=> .bad 63
  |false=>(kZ ap H h0.length keep lf (.region id ops draw) s c).bind fun r c=> .ok (r,l) c
 |code,s,l,c=>(kZ ap H h0.length keep lf code s c).bind fun r c=> .ok (r,l) c
section
variable {P:Program} {ap:AP} {H:di}
theorem ax.seq {d:List bi} {nt:Nat} {x y:Code} {s g f:St} {e:bJ} (q:ax P ap d nt x s .normal g) (h:ax P ap d nt y g e f):ax P ap d nt (.seq x y) s e f:=by
 intro b
 obtain ⟨n,i⟩:=q b
 obtain ⟨t,l⟩:=h n
 refine ⟨t,fun m0 S0 w0 m S w a c r Q u=>wp_seq (i m0 S0 w0 m S w a c r _ ?_)⟩
 intro o S' w' j k p
 exact l m0 S0 w0 o S' w' j k p Q u
theorem ax.seq_out {g:List bi} {nt:Nat} {x y:Code} {s f:St} {e:bJ} (b:e ≠ .normal) (n:ax P ap g nt x s e f):ax P ap g nt (.seq x y) s e f:=by
 intro c
 obtain ⟨k,h⟩:=n c
 refine ⟨k,fun m0 S0 w0 m S w a d o Q q=>wp_seq (h m0 S0 w0 m S w a d o _ ?_)⟩
 intro l S' w' i p j
 have:=q l S' w' i p j
 cases e with
 |normal=>exact absurd rfl b
 |exit id=>exact this
 |ret=>exact this
 |panic v=>exact this
theorem ax.cond {g:List bi} {nt:Nat} {t:Operand} {x y:Code} {s s':St} {e:bJ} {c:Bool} (i:qW ap s.env t= .bool c) (h:ax P ap g nt (if c then x else y) s e s'):ax P ap g nt (.cond t x y) s e s':=by
 intro b
 obtain ⟨k,j⟩:=h b
 refine ⟨k,fun m0 S0 w0 m S w a d f Q l=>wp_cond (t:=c) ?_ (j m0 S0 w0 m S w a d f Q l)⟩
 have:=xB f.srel (a:=a) (env:=s.env) t (fun t _=>f.env t)
 rw [i] at this
 simpa only [VR,PR] using this
def pY (id:Nat):bJ→bJ
 | .exit id'=>match Nat.beq id' id with|true=> .normal|false=> .exit id'
 |e=>e
theorem ax.block {k:List bi} {nt:Nat} {id:Nat} {b:Code} {s s':St} {e:bJ} (h:ax P ap k nt b s e s'):ax P ap k nt (.block id b) s (pY id e) s':=by
 intro g
 obtain ⟨o,l⟩:=h g
 refine ⟨o,fun m0 S0 w0 m S w a i q Q t=>wp_block (l m0 S0 w0 m S w a i q _ ?_)⟩
 intro p S' w' f r n
 have c:=t p S' w' f r n
 cases e with
 |normal=>exact c
 |ret=>exact c
 |panic v=>exact c
 | exit id'=>
  simp only [pY] at c
  split at c
  ·rename_i j
   show Exit.inBlock id Q (.exit id') f w'
   simp only [Exit.inBlock,if_pos (aP j)]
   exact c
  ·rename_i j
   show Exit.inBlock id Q (.exit id') f w'
   have d:id' ≠ id:=by intro e;subst e;simp at j
   simp only [Exit.inBlock,if_neg d]
   exact c
theorem ax.scope {g:List bi} {nt:Nat} {b:Code} {s s':St} {e:bJ} (h:ax P ap g nt b s e s'):ax P ap g nt (.scope b) s e s':=by
 intro d
 obtain ⟨l,i⟩:=h d
 refine ⟨l,fun m0 S0 w0 m S w a f o Q q=>wp_scope_straight (i m0 S0 w0 m S w a f o _ ?_)⟩
 intro n S' w' j p k
 have c:=q n S' w' j p k
 cases e with
 |normal=>exact c
 |exit id=>exact c
 |ret=>exact c
 |panic v=>exact c
theorem uH (C:iJ P ap) (z:P.follows .mixedOrders=true) (M:mO P ap H) {m:List bi} {keep:List Nat} {lf n nt:Nat} (I:n≤nt) {ls:List Nat}:∀ (a:Code),dJ nt a=true→∀ (s:St) (l:xZ) (r:(bJ × St) × xZ) (c f:Cx),lZ P ap H m keep lf n ls a s l c= .ok r f→f.Ok→c.Ok∧ax P ap m nt a s r.1.1 r.1.2:=by
 have hbase:∀ (a:Code),dJ nt a=true→∀ (s:St) (l:xZ) (r:(bJ × St) × xZ) (c f:Cx),((kZ ap H m.length keep lf a s c).bind fun r c=> .ok (r,l) c)= .ok r f→f.Ok→c.Ok∧ax P ap m nt a s r.1.1 r.1.2:=by
  intro a hd s l r c f h d
  obtain ⟨⟨e,s'⟩,A,k,h⟩:=R.bind_ok h
  cases h
  exact eH C z M a hd s e s' c _ k d
 intro a
 induction a with
 | seq x y ihx ihy=>
  intro hd s l r c f h d
  simp only [dJ,Bool.and_eq_true] at hd
  simp only [lZ] at h
  obtain ⟨⟨⟨o,G⟩,E⟩,A,k,h⟩:=R.bind_ok h
  dsimp only at h
  have hother:o ≠ .normal→R.ok ((o,G),E) A=R.ok r f→c.Ok∧ax P ap m nt (.seq x y) s r.1.1 r.1.2:=by
   intro D N
   cases N
   obtain ⟨g,i⟩:=ihx hd.1 _ _ _ _ _ k d
   exact ⟨g,i.seq_out D⟩
  cases o with
  |normal=>
   dsimp only at h
   obtain ⟨j,J⟩:=ihy hd.2 _ _ _ _ _ h d
   obtain ⟨g,i⟩:=ihx hd.1 _ _ _ _ _ k j
   exact ⟨g,i.seq J⟩
  |exit id=>exact hother (by simp) h
  |ret=>exact hother (by simp) h
  |panic v=>exact hother (by simp) h
 | cond t x y ihx ihy=>
  intro hd s l r c f h d
  simp only [dJ,Bool.and_eq_true] at hd
  simp only [lZ] at h
  split at h
  ·rename_i O q
   obtain ⟨K,A,k,h⟩:=R.bind_ok h
   cases K with
   |true=>
    obtain ⟨j,i⟩:=ihx hd.1 _ _ _ _ _ h d
    obtain ⟨g,u⟩:=lu k j
    exact ⟨g,ax.cond q (by rw [← u];exact i)⟩
   |false=>
    obtain ⟨j,i⟩:=ihy hd.2 _ _ _ _ _ h d
    obtain ⟨g,u⟩:=lu k j
    exact ⟨g,ax.cond q (by rw [← u];exact i)⟩
  ·cases h
 | block id b ih=>
  intro hd s l r c f h d
  simp only [dJ] at hd
  simp only [lZ] at h
  split at h
  ·split at h
   ·rename_i F B L
    cases h
    have hp:aO P ap m n (.block id b) s F B:=d.ps _ (List.mem_cons_self ..)
    exact ⟨⟨d.bs,fun p hp=>d.ps p (List.mem_cons_of_mem _ hp)⟩,hp nt I⟩
   ·cases h
  ·obtain ⟨⟨⟨o,G⟩,E⟩,A,k,h⟩:=R.bind_ok h
   dsimp only at h
   have w:r=((pY id o,G),E)∧A=f:=by
    cases o<;>dsimp only at h
    ·cases h;exact ⟨rfl,rfl⟩
    ·unfold pY
     split at h<;>cases h<;>rename_i u<;>dsimp only<;>rw [u]<;>exact ⟨rfl,rfl⟩
    ·cases h;exact ⟨rfl,rfl⟩
    ·cases h;exact ⟨rfl,rfl⟩
   obtain ⟨rfl,rfl⟩:=w
   obtain ⟨g,i⟩:=ih hd _ _ _ _ _ k d
   exact ⟨g,i.block⟩
 |scope b ih=>
  intro hd s l r c f h d
  simp only [dJ] at hd
  simp only [lZ] at h
  obtain ⟨g,i⟩:=ih hd _ _ _ _ _ h d
  exact ⟨g,i.scope⟩
 |skip=>exact fun hd s l r c f h d=>hbase _ hd s l r c f h d
 | region id ops draw=>
  intro hd s l r c f h d
  simp only [lZ] at h
  split at h
  ·split at h
   ·rename_i F B L
    cases h
    have hp:aO P ap m n (.region id ops draw) s F B:=d.ps _ (List.mem_cons_self ..)
    exact ⟨⟨d.bs,fun p hp=>d.ps p (List.mem_cons_of_mem _ hp)⟩,hp nt I⟩
   ·cases h
  ·exact hbase _ hd s l r c f h d
 |loop _ _=>exact fun hd s l r c f h d=>hbase _ hd s l r c f h d
 |rangeFunc _ _ _ _=>exact fun hd s l r c f h d=>hbase _ hd s l r c f h d
 |exit _=>exact fun hd s l r c f h d=>hbase _ hd s l r c f h d
 |label _=>exact fun hd s l r c f h d=>hbase _ hd s l r c f h d
 |goto _=>exact fun hd s l r c f h d=>hbase _ hd s l r c f h d
 |ret=>exact fun hd s l r c f h d=>hbase _ hd s l r c f h d
 |refuse _=>exact fun hd s l r c f h d=>hbase _ hd s l r c f h d
def KA (P:Program) (ap:AP) (H:di) (lf:Nat) (ls:List Nat) (f:Nat) (args:List AV) (h:List bi) (l:xZ) (c:Cx):R (jT × List bi × AV):=
 match ap.fnAt f with
 |none=> .bad 80
 |some F=>(lZ P ap H h F.keep lf F.fn.ntmps ls (ai F.fn) (oC .dead args h) l c).bind fun r c=>Dc ap H (Qe F.keep) h.length F.fn r.1.1 r.1.2 c
theorem KC (j:iJ P ap) (o:P.follows .mixedOrders=true) (b:J4 P ap) (D:mO P ap H) (K:vK P ap H) {lf:Nat} {ls:List Nat} {f:Nat} {args:List AV} {h x:List bi} {l:xZ} {c v:Cx} {out:jT} {p:AV}
  (d:KA P ap H lf ls f args h l c= .ok (out,x,p) v) (hc:v.Ok):aC P ap f args h out x:=by
 unfold KA at d
 split at d
 ·cases d
 ·rename_i F u
  obtain ⟨⟨⟨e,s⟩,L⟩,M,z,d⟩:=R.bind_ok d
  dsimp only at d
  obtain ⟨a,y,n⟩:=b.body f F u
  have hbody:ai F.fn=a:=by simp [ai,y]
  rw [hbody] at z
  obtain ⟨t,g,i⟩:=yM j K d hc
  refine ⟨g,zU b u,fun m S w cargs G C=> ?_⟩
  obtain ⟨B,q⟩:=Jk (md:= .dead) G C F.fn.ntmps
  have k:F.fn.ntmps≤(cargs.toArray++Array.replicate (F.fn.ntmps - cargs.toArray.size) undef).size:=by simp;omega
  obtain ⟨_,r⟩:=uH j o D k a (dW k a n) _ _ _ _ _ z t
  obtain ⟨_,r⟩:=r rfl
  refine calls_of_wp_defers (b.fn f F u) y ?_
  refine r m S w m S w _ (by rw [B];exact Fr.refl _ _ _ _) q _ ?_
  intro J S' w' A E I
  exact i m S w J S' w' A _ E I
end
end AM
namespace AM
open Go
def xO (P:Program) (ap:AP) (lf:Nat):Nat→di
 |0=>fun _ _ _ _ _=> .bad 90
 | n+1=>fun c md f args h=>
  match md with
  | .dead=>match c.ans with
   |(out,h')::r=> .ok (out,h',.dead) {c with ans:=r,ps:=aC P ap f args h out h'::c.ps}
   |_=> .bad 91
  |md=>uw ap (xO P ap lf n) lf md f args h c
theorem lK {P:Program} {ap:AP} (j:iJ P ap) (b:P.follows .mixedOrders=true) (e:J4 P ap) (lf:Nat):∀ n,mO P ap (xO P ap lf n)∧vK P ap (xO P ap lf n)
 |0=> ⟨fun _ _ _ _ _ _ _ _ h=>(by cases h),fun _ _ _ _ _ _ _ _ _ _ h=>(by cases h)⟩
 | n+1=>by
  obtain ⟨m,o⟩:=lK j b e lf n
  constructor
  ·intro c f args h out k d l a g
   simp only [xO] at a
   split at a
   ·cases a
    exact ⟨⟨g.bs,fun p hp=>g.ps p (by simp [hp])⟩,g.ps _ (by simp)⟩
   ·cases a
  ·intro c md f args h out k d l i a g
   have a:uw ap (xO P ap lf n) lf md f args h c= .ok (out,k,d) l:=by
    cases md<;>first|exact absurd rfl i|exact a
   exact IV j b e m lf c md f args h out k d l i a g
inductive qH:List Prop→Prop where
 |nil:qH []
 |cons {p:Prop} {l:List Prop}:p→qH l→qH (p::l)
theorem qH.mem {l:List Prop} (h:qH l):∀ p ∈ l,p:=by
 induction h with
 |nil=>intro p hp;cases hp
 |cons hp _ ih=>
  intro q a
  rcases List.mem_cons.1 a with rfl|a
  ·exact hp
  ·exact ih q a
inductive jd:List Bool→Prop where
 |nil:jd []
 |t {l:List Bool}:jd l→jd (true::l)
 |c {b:Bool} {l:List Bool}:b=true→jd l→jd (b::l)
theorem jd.mem {l:List Bool} (h:jd l):∀ b ∈ l,b=true:=by
 induction h with
 |nil=>intro p hp;cases hp
 |t _ ih=>
  intro q a
  rcases List.mem_cons.1 a with rfl|a
  ·rfl
  ·exact ih q a
 |c hp _ ih=>
  intro q a
  rcases List.mem_cons.1 a with rfl|a
  ·exact hp
  ·exact ih q a
structure DJ (P:Program) (ap:AP):Prop where
 apok:iJ P ap
 mixed:P.follows .mixedOrders=true
 fnok:J4 P ap
theorem lC {P:Program} {ap:AP} (g:DJ P ap) {lf n:Nat} {ans:List (jT × List bi)} {ps:List Prop} {f:Nat} {args:List AV} {h a:List bi} {out:jT} (hp:qH ps)
  (he:uw ap (xO P ap lf n) lf .dead f args h ⟨true,[],[],[],ans,[]⟩= .ok (out,a,.dead) ⟨true,[],[],ps,[],[]⟩):aC P ap f args h out a:=by
 obtain ⟨d,c⟩:=lK g.apok g.mixed g.fnok lf n
 exact (Kz g.apok g.mixed g.fnok d c lf _ f args h out a .dead _ he ⟨fun b e=>(by cases e),hp.mem⟩).2
theorem sZ {P:Program} {ap:AP} (g:DJ P ap) {lf n:Nat} {ls:List Nat} {orc:List Bool} {ans:List (jT × List bi)} {lps:xZ} {bs:List Bool} {ps:List Prop} {f:Nat} {args:List AV} {h a:List bi} {out:jT}
  (hb:jd bs) (hp:qH ps) (he:KA P ap (xO P ap lf n) lf ls f args h lps ⟨false,orc,[],[],ans,[]⟩= .ok (out,a,.dead) ⟨false,[],bs,ps,[],[]⟩):aC P ap f args h out a:=by
 obtain ⟨c,b⟩:=lK g.apok g.mixed g.fnok lf n
 exact KC g.apok g.mixed g.fnok c b he ⟨hb.mem,hp.mem⟩
end AM
namespace AM
open Go Go.ChangeShapes Go.WideShapes Go.ChangeAt Go.RowKit
def qB:Lit→Value
 | .int k n=> .int k n
 | .bool b=> .bool b
 | .string s=> .string ⟨s.toArray⟩
 |_=> .nilFunc
def LC:Lit→AV
 | .int k n=> .int k n
 | .bool b=> .bool b
 | .string s=> .str s
 |_=> .dead
def EJ:Lit→Bool
 | .int _ _=>true
 | .bool _=>true
 | .string _=>true
 |_=>false
def LD (f:TypeId→DataW Unit→Nat→Option (List (Nat × Lit))):List (TypeId × Nat)→List (DataW Unit)→Option (List (Nat × Lit))
 | [],[]=>some []
 |(t,o)::r,d::ds=>match f t d o,LD f r ds with
  |some a,some b=>some (a++b)
  |_,_=>none
 |_,_=>none
def mf (P:Program):Nat→TypeId→DataW Unit→Nat→Option (List (Nat × Lit))
 |0,_,_,_=>none
 |n+1,t,d,off=>match P.underlying t,d with
  |some (.struct fs),.agg ds=>LD (mf P n) (fs.toList.map fun f=>(f.type,off+f.offset)) ds
  |some (.array m e),.agg ds=>LD (mf P n) ((List.range m).map fun i=>(e,off+i*P.cellsOf e)) ds
  |some (.int _),.lit (.int k n)=>some [(off,.int k n)]
  |some .bool,.lit (.bool b)=>some [(off,.bool b)]
  |some .string,.lit (.string s)=>some [(off,.string s)]
  |_,_=>none
theorem EI {f:TypeId→DataW Unit→Nat→Option (List (Nat × Lit))}:∀ {ts:List (TypeId × Nat)} {ds:List (DataW Unit)} {l:List (Nat × Lit)},LD f ts ds=some l→ts.length=ds.length∧∀ x ∈ l,∃ (i:Nat) (t o:Nat) (d:DataW Unit) (a:List (Nat × Lit)),ts[i]? =some (t,o)∧ds[i]? =some d∧f t d o=some a∧x ∈ a
 | [],[],l,h=>by simp [LD] at h;subst h;simp
 | (t,o)::r,d::ds,l,h=>by
  simp only [LD] at h
  split at h
  ·rename_i a b u w
   cases h
   obtain ⟨p,j⟩:=EI w
   refine ⟨by simp [p],fun x c=> ?_⟩
   rcases List.mem_append.1 c with c|c
   ·exact ⟨0,t,o,d,a,rfl,rfl,u,c⟩
   ·obtain ⟨i,g,n,s,q,k,m,v,e⟩:=j x c
    exact ⟨i+1,g,n,s,q,by simpa using k,by simpa using m,v,e⟩
  ·cases h
 | [],_::_,_,h=>by simp [LD] at h
 |_::_,[],_,h=>by simp [LD] at h
theorem oJ {P:Program} {w:World} {base:Nat} {Q:Nat→Bool} {v:Bool}:∀ (n:Nat) (t:TypeId) (d:DataW Unit) (off:Nat) (l:List (Nat × Lit)),mf P n t d off=some l→∀ (c:Nat) (J:List Value) (p:List MemPlace),DataW.trod (fun _=>()) P w base Q v c t J=some (d,p)→∀ x ∈ l,∃ j,x.1=off+j∧J[j]? =some (qB x.2)
 |0,_,_,_,_,h=>by simp [mf] at h
 | n +1,t,d,off,l,h=>by
  intro c J p hd x r
  simp only [mf] at h
  split at h
  ·rename_i U R q
   cases c with
   |zero=>simp [DataW.trod] at hd
   | succ m=>
    simp only [DataW.trod,q] at hd
    split at hd
    ·obtain ⟨xs,E,g⟩:=Option.map_eq_some_iff.1 hd
     simp only [Prod.mk.injEq,DataW.agg.injEq] at g
     obtain ⟨rfl,rfl⟩:=g
     obtain ⟨M,I⟩:=EI h
     obtain ⟨i,K,L,N,a,z,u,D,C⟩:=I x r
     rw [List.getElem?_map,Option.map_eq_some_iff] at z
     obtain ⟨f,B,A⟩:=z
     simp only [Prod.mk.injEq] at A
     obtain ⟨rfl,rfl⟩:=A
     obtain ⟨b,G,F⟩:=Lib.mapM_at E i f B
     rw [List.getElem?_map,G] at u
     simp only [Option.map_some,Option.some.injEq] at u
     subst u
     obtain ⟨j,O,o⟩:=oJ n _ _ _ _ D m _ b.2 F x C
     refine ⟨f.offset+j,by omega, ?_⟩
     rw [List.getElem?_take] at o
     split at o
     ·rwa [List.getElem?_drop] at o
     ·cases o
    ·cases hd
  ·rename_i k e R q
   cases c with
   |zero=>simp [DataW.trod] at hd
   | succ m=>
    simp only [DataW.trod,q] at hd
    split at hd
    ·obtain ⟨xs,E,g⟩:=Option.map_eq_some_iff.1 hd
     simp only [Prod.mk.injEq,DataW.agg.injEq] at g
     obtain ⟨rfl,rfl⟩:=g
     obtain ⟨M,I⟩:=EI h
     obtain ⟨i,K,L,N,a,z,u,D,C⟩:=I x r
     rw [List.getElem?_map,Option.map_eq_some_iff] at z
     obtain ⟨f,B,A⟩:=z
     simp only [Prod.mk.injEq] at A
     obtain ⟨rfl,rfl⟩:=A
     obtain ⟨b,G,F⟩:=Lib.mapM_at E i f B
     rw [List.getElem?_map,G] at u
     simp only [Option.map_some,Option.some.injEq] at u
     subst u
     obtain ⟨j,O,o⟩:=oJ n _ _ _ _ D m _ b.2 F x C
     refine ⟨f*P.cellsOf e+j,by omega, ?_⟩
     rw [List.getElem?_take] at o
     split at o
     ·rwa [List.getElem?_drop] at o
     ·cases o
    ·cases hd
  ·rename_i S k T q
   cases h
   simp at r
   subst r
   obtain ⟨V,rfl,y,_⟩:=DataW.trod_int q hd
   simp only [Prod.mk.injEq,DataW.lit.injEq,Lit.int.injEq] at y
   obtain ⟨⟨rfl,rfl⟩,_⟩:=y
   exact ⟨0,rfl,rfl⟩
  ·rename_i b q
   cases h
   simp at r
   subst r
   cases c with
   |zero=>simp [DataW.trod] at hd
   |succ m=>
    unfold DataW.trod at hd
    rw [q] at hd
    split at hd<;>simp_all
    rfl
  ·rename_i s q
   cases h
   simp at r
   subst r
   cases c with
   |zero=>simp [DataW.trod] at hd
   |succ m=>
    unfold DataW.trod at hd
    rw [q] at hd
    split at hd<;>simp_all
    obtain ⟨_,rfl,_⟩:=hd
    rfl
  ·cases h
theorem yT {P:Program} {w:World}:∀ {l:List (String × DataW Unit)} {ps:List MemPlace},DataW.LaidVars P w l ps→∀ n d,(n,d) ∈ l→∃ g t b a p,P.globalNamed n=some g∧(P.globals[g]?).map (·.type)=some t∧w.var? P n=some b∧DataW.trod (fun _=>()) P w 0 (fun _=>true) false a t b.toList=some (d,p)
 | [],_,_,n,d,hm=>by cases hm
 | (n',d')::r,ps,h,n,d,hm=>by
  obtain ⟨g,t,b,a,p,q,i,c,e,f,j,_⟩:=h
  rcases List.mem_cons.1 hm with he|hm
  ·cases he
   exact ⟨g,t,b,a,p,i,c,e,f⟩
  ·exact yT j n d hm
theorem OE {P:Program} {W:World} {a:List (String × DataW Unit)} (h:laidMetH P a W) (e:a.filter (fun x=>x.2.handleName?.isSome)= []) {n:String} {d:DataW Unit} (o:(n,d) ∈ a) {g:Nat} {t:TypeId} (f:P.globalNamed n=some g) (v:(P.globals[g]?).map (·.type)=some t)
  {ls:List Lit} (hl:mf P 6 t d 0=some (ls.zipIdx.map fun (l,i)=>(i,l))):∀ (j:Nat) (l:Lit),ls[j]? =some l→W.cell? ⟨g,j,none⟩=some (qB l):=by
 have c:laidMet P a W:=by
  unfold laidMetH at h
  rw [e] at h
  exact h
 obtain ⟨ps,w,_⟩:=c
 obtain ⟨g',B,A,b,p,s,y,z,r⟩:=yT w n d o
 obtain rfl:=Option.some.inj (f.symm.trans s)
 obtain rfl:=Option.some.inj (v.symm.trans y)
 intro j l u
 obtain ⟨k,m,q⟩:=oJ 6 t d 0 _ hl b A.toList p r (j,l) (by
  rw [List.mem_map]
  exact ⟨(l,j),by rw [List.mem_zipIdx_iff_getElem?];exact u,rfl⟩)
 have:k=j:=by simp at m;exact m.symm
 subst this
 rw [World.var?_cell f z k]
 simpa using q
def lL (W:World):aU:=fun k o=>match W.cell? ⟨k,o,none⟩ with|some v=>if v.oneCell' then some v else none|none=>none
theorem IE {W:World} {k o:Nat} {v:Value} (h:W.cell? ⟨k,o,none⟩=some v) (a:v.oneCell'=true):lL W k o=some v:=by
 unfold lL;rw [h];simp only;rw [if_pos a]
theorem Ny {W:World} {k o:Nat} {v:Value} (h:lL W k o=some v):kG W k o=some v:=by
 unfold lL at h
 split at h
 ·rename_i c a
  split at h
  ·rename_i b;cases h;exact DZ a b
  ·cases h
 ·cases h
theorem J7 (S:aU):∀ (ls:List Lit),ls.all EJ=true→dV S (ls.map LC) (ls.map qB)
 | [],_=>by simp [dV]
 |l::r,h=>by
  simp only [List.all_cons,Bool.and_eq_true] at h
  simp only [List.map_cons,dV]
  refine ⟨?_,J7 S r h.2⟩
  cases l<;>simp only [LC,qB,PR]<;>first|rfl|(exact absurd h.1 (by simp [EJ]))
theorem OJ {l:Lit} (h:EJ l=true):(qB l).oneCell'=true:=by
 cases l<;>first|rfl|(exact absurd h (by simp [EJ]))
def U7 (ap:AP) (W:World):Prop:=∀ k xs,(ap.gl[k]?).join=some xs→∃ ls:List Lit,xs=ls.map LC∧ls.all EJ=true∧∀ (j:Nat) (l:Lit),ls[j]? =some l→W.cell? ⟨k,j,none⟩=some (qB l)
theorem aai {ap:AP} {W:World} (h:U7 ap W):U6 ap (lL W):=by
 intro k xs f
 obtain ⟨ls,rfl,c,e⟩:=h k xs f
 refine ⟨ls.map qB,J7 _ _ c, ?_⟩
 intro j u d
 rw [List.getElem?_map,Option.map_eq_some_iff] at d
 obtain ⟨l,a,rfl⟩:=d
 have b:=OJ (List.all_eq_true.1 c l (List.mem_of_getElem? a))
 refine ⟨?_,b⟩
 rw [Nat.zero_add]
 exact IE (e j l a) b
theorem ael {P:Program} {ap:AP} {f:Nat} {args:List AV} {b:Bool} (i:aC P ap f args [] (.ret (.bool b)) []) {W:World} (g:U7 ap W) {cargs:List Value} (j:dV (lL W) args cargs):
  Calls P f cargs.toArray W fun e W'=>e= .returned (.bool b)∧Below W.heap.size W W':=by
 have l:bV ap (bH []) (fun _=>(0,0)) (lL W) W:=
  ⟨fun b n B B' h=>by simp [bH] at h,fun b B h=>by simp [bH] at h,fun k o v h=>Ny h,fun b B h=>by simp [bH] at h,aai g⟩
 refine (i.calls (fun _=>(0,0)) (lL W) W cargs l (bW _ j)).mono ?_
 rintro e W' ⟨m',S',hF⟩
 obtain ⟨_,a,c⟩:=hF
 obtain ⟨cv,rfl,d⟩:=c
 simp only [Cb,VR,PR] at d
 subst d
 exact ⟨rfl,a.os,a.tape,a.output,a.size,fun k m=>a.rest k m fun b B h=>by simp [bH] at h⟩
def Dx (P:Program) (ts:List TypeId):Bool:=ts.all fun t=>P.readableRec t && decide (t<P.types.size)
theorem xe {H:Type} {enc:TypeId × Value→H} {P:Program} (b:laidOutB P=true) {W W':World} {c:Nat→Bool}:∀ {ts:List TypeId} {vs:List Value} {ds:List (DataW H)} {ps:List MemPlace},Dx P ts=true→DataW.TrodAll enc P W 0 (fun _=>true) true ts vs ds ps→(∀ p ∈ ps,W.sameAt W' p)→(∀ p ∈ ps,c p.block=true)→DataW.TrodAll enc P W' 0 c true ts vs ds ps
 | [],vs,ds,ps,_,h,_,_=>by
  obtain ⟨rfl,rfl,rfl⟩:=trodAll_nil h
  rfl
 |t::ts,vs,ds,ps,hf,h,hs,hsp=>by
  obtain ⟨v,i,d,g,p,q,rfl,rfl,rfl,e,f⟩:=trodAll_cons h
  simp only [Dx,List.all_cons,Bool.and_eq_true,decide_eq_true_eq] at hf
  exact trodAll_cons_mk (WideElems.Trod_stays b hf.1.1 hf.1.2 e (fun x a=>hs x (by simp [a])) (fun x a=>hsp x (by simp [a]))) (xe b (by simpa [Dx] using hf.2) f (fun x a=>hs x (by simp [a])) (fun x a=>hsp x (by simp [a])))
theorem ajc {H:Type} {enc:TypeId × Value→H} {P:Program} {f:Func} {s:ChangeSpec} {apart fresh handsOn again:Bool} {W W':World} {args:Array Value} {g t:List (DataW H)} {before:List MemPlace} (w:laidOutB P=true) (u:Dx P f.params.toList=true)
  (hW:DataW.Whole enc P f.params.toList s.vars apart W args.toList g t before) (hvars:s.vars= []) {tb:TypeId} (hr:f.resultTypes=#[tb]) (htb:P.underlying tb=some .bool) (hfn:s.fn H (g++t)={results:= [.lit (.bool true)],args:=g,vars:= []})
  (hb:Below W.heap.size W W'):s.post enc P f apart fresh handsOn again W args (.bool true) W':=by
 have e:∀ p ∈ before,p.block<W.heap.size:=fun p hp=>hW.lt p hp
 have c:∀ p ∈ before,(fun b=>decide (b<W.heap.size)) p.block=true:=fun p hp=>by simpa using hW.lt p hp
 have k:=hW
 obtain ⟨p,q,v,o,rfl,n,r⟩:=hW
 rw [hvars] at o
 obtain ⟨rfl,rfl⟩:=trodVars_none o
 simp only [List.append_nil] at e c n r k hfn ⊢
 have hargs:∀ a:Nat→Bool,(∀ x ∈ p,a x.block=true)→DataW.TrodAll enc P W' 0 a true f.params.toList args.toList (s.fn H g).args p:=by
  intro a m
  rw [hfn]
  exact xe w u v (fun x j=>hb.same (e x j)) m
 have d:∀ (b:Nat) (a:Nat→Bool) (hd:Bool),DataW.TrodAll enc P W' b a hd f.resultTypes.toList ((Value.bool true).resultList f.resultTypes.size) (s.fn H g).results []:=by
  intro b a hd
  rw [hfn,hr]
  exact trodAll_cons_mk (p:= []) (shut_bool htb true) trodAll_mk0
 have l:∀ a:Nat→Bool,DataW.TrodVars enc P W' a s.vars (s.fn H g).vars []:=by
  intro a
  rw [hvars,hfn]
  rfl
 refine ⟨g,[],p,[],p,[],k,by rw [List.append_nil];exact d _ _ _,by rw [List.append_nil];exact hargs _ c,by rw [List.append_nil];exact l _,World.keptBut_mono (fun x j=>j) (hb.frame _),fun _=> ?_⟩
 refine ⟨ok_one hr rfl (okWide_bool_mk htb _),_,_,([]++p)++ [],⟨[]++p,[],trodAll_append (hargs _ (fun _ _=>rfl)) (d _ _ _),by simpa using l _,rfl, ?_, ?_⟩, ?_⟩
 ·intro b h hp
  have i:MemPlace.cell b h ∈ p:=by simpa using hp
  rw [hb.frozen (e _ i)]
  exact n b h i
 ·intro y
  simpa using r y
 ·intro x j _
  simpa using j
end AM
