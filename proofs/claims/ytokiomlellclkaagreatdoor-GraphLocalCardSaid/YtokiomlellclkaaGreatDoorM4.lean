/- The abstract machine over the code of the model, and the proof that it is sound. No conditions. -/
import Derived.Test.YtokiomlellclkaaGreatDoorM3
import Derived.Recover
import Derived.ProofKit
import Derived.OpenShut
import Derived.LaidLaws
import Derived.LaidSub
import Derived.Lib.LaidTab
set_option linter.unusedSimpArgs false
set_option linter.unusedVariables false
namespace AM
open Go
theorem qG {α:Type} {P:Program} {w:World} (f:α→Sem Value):∀ (l:List α) (vs:List Value),l.length=vs.length→(∀ (i:Nat) (x:α) (v:Value),l[i]? =some x→vs[i]? =some v→(f x).run P w= .ok v w)→(l.mapM f).run P w= .ok vs w
 | [],[],_,_=>rfl
 |a::l,v::vs,hl,h=>by
  rw [List.mapM_cons,Sem.run_bind,h 0 a v rfl rfl,Result.andThen_ok,Sem.run_bind,qG f l vs (by simpa using hl) fun i x u c b=>h (i+1) x u (by simpa using c) (by simpa using b),Result.andThen_ok]
  rfl
 | [],_::_,hl,_=>by simp at hl
 |_::_,[],hl,_=>by simp at hl
def Bl (tmps:Array Value):ResultVar→Sem Value
 | .tmp t=>pure (tmps.getD t undef)
 | .cell a t=>do loadVar t (← asAddr (tmps.getD a undef))
def H8 (vs:List Value):Value:=match vs with| [v]=>v|vs=> .tuple vs.toArray
theorem Gj (a:Func) (tmps:Array Value):results a tmps=(do let vs ← a.results.mapM (Bl tmps);pure (if h:vs.size=1 then vs[0] else .tuple vs)):=by
 unfold results
 congr 2
theorem jf {P:Program} {w:World} {a:Func} {tmps:Array Value} {vs:List Value} (b:a.results.toList.length=vs.length)
  (h:∀ (i:Nat) (r:ResultVar) (v:Value),a.results.toList[i]? =some r→vs[i]? =some v→(Bl tmps r).run P w= .ok v w):
  (results a tmps).run P w= .ok (H8 vs) w:=by
 rw [Gj,Array.mapM_eq_mapM_toList]
 simp only [bind_map_left]
 rw [Sem.run_bind,qG _ _ vs b h,Result.andThen_ok]
 match vs with
 | []=>rfl
 | [v]=>rfl
 |_::_::_=>simp [H8]
theorem ES {S:ay} {m:aF} {rd c:bD} {w:World} (h:∀ b B,rd b=some B→c b=some B):gy (bI S m rd w) (bI S m c w):=by
 intro k o v a
 unfold bI at a ⊢
 split at a
 ·rename_i u i;exact a
 ·rename_i i
  split at a
  ·rename_i d
   obtain ⟨b,B,g,e,f⟩:=d
   rw [if_pos ⟨b,B,h b B g,e,f⟩]
   exact a
  ·cases a
def cl (rd:bD) (v:AV):List Nat:=kV rd 6 (eF (bU v))
inductive Ag (base:Nat) (rd:bD) (all:List Nat):AV→AV→Prop
 |own {b n:Nat} {B:aJ}:rd b=some B→base≤b→B.fro=false→B.pr=true→dN all b=1→0<B.esz→Ag base rd all (.ref b B.ver 0 n) (.own (B.cells.take (n*B.esz)) n B.esz)
 |low {v:AV}:(∀ b ∈ bU v,b<base)→Ag base rd all v v
 |frz {v v':AV}:(∀ b ∈ cl rd v,base≤b)→frz (fun b=>match j_ (cl rd v) b with|true=>rd b|false=>none) 6 v=some v'→Ag base rd all v v'
theorem IW {base:Nat} {rd:bD} {v a:AV} (h:Og base rd v=some a):(∀ b ∈ cl rd v,base≤b)∧frz (fun b=>match j_ (cl rd v) b with|true=>rd b|false=>none) 6 v=some a:=by
 unfold Og at h
 dsimp only at h
 split at h
 ·rename_i c
  exact ⟨fun b d=>dK (List.all_eq_true.1 c b d),h⟩
 ·cases h
theorem AQ {base:Nat} {rd:bD} {all:List Nat} {v a:AV} (h:(match (bU v).all (fun b=>Nat.blt b base) with|true=>some v|false=>Og base rd v)=some a):Ag base rd all v a:=by
 split at h
 ·rename_i d
  cases h
  exact .low fun b f=>dL (List.all_eq_true.1 d b f)
 ·obtain ⟨e,c⟩:=IW h
  exact .frz e c
theorem sK {base:Nat} {rd:bD} {all:List Nat} {v d:AV} (h:kP base rd all v=some d):Ag base rd all v d:=by
 unfold kP at h
 dsimp only at h
 split at h
 ·rename_i b ver n
  split at h
  ·rename_i B g
   split at h
   ·rename_i c
    cases h
    simp only [Bool.and_eq_true,Bool.not_eq_true'] at c
    obtain ⟨⟨⟨⟨⟨e,a⟩,k⟩,f⟩,i⟩,j⟩:=c
    have a:=az a
    subst a
    exact .own g (dK e) k f (az i) (dL j)
   ·exact AQ h
  ·cases h
 ·exact AQ h
theorem pg {l:List Nat} {b:Nat} (h:b ∈ l):1≤dN l b:=by
 unfold dN
 have:b ∈ l.filter (Nat.beq b):=by rw [List.mem_filter];exact ⟨h,Nat.beq_refl b⟩
 exact List.length_pos_of_mem this
theorem mi {l a:List Nat} {b:Nat}:dN (l++a) b=dN l b+dN a b:=by simp [dN,List.filter_append]
theorem uo {α:Type} {f:α→List Nat} {b:Nat}:∀ (vs:List α) (i j:Nat) (v v':α),vs[i]? =some v→vs[j]? =some v'→i ≠ j→b ∈ f v→b ∈ f v'→2≤dN (vs.flatMap f) b
 | [],i,j,v,v',h,_,_,_,_=>by simp at h
 | a::r,i,j,v,v',hi,hj,hne,hb,hb'=>by
  have c:∀ (k:Nat) (u:α),r[k]? =some u→b ∈ f u→1≤dN (r.flatMap f) b:=by
   intro k u e d
   exact pg (List.mem_flatMap.2 ⟨u,List.mem_of_getElem? e,d⟩)
  rw [List.flatMap_cons,mi]
  cases i with
  |zero=>
   simp at hi;subst hi
   cases j with
   |zero=>exact absurd rfl hne
   |succ j=>have:=c j v' (by simpa using hj) hb';have:=pg hb;omega
  | succ i=>
   cases j with
   |zero=>simp at hj;subst hj;have:=c i v (by simpa using hi) hb;have:=pg hb';omega
   |succ j=>
    have:=uo r i j v v' (by simpa using hi) (by simpa using hj) (by omega) hb hb'
    omega
def iE:List AV→List AV→List (Nat × aJ)
 |v::r,.own xs _ esz::q=>(match v with| .ref b _ _ _=> [(b,uP xs esz)]|_=> [])++iE r q
 |_::r,_::q=>iE r q
 |_,_=> []
theorem fO {v x:AV} {r q:List AV} (h:∀ xs k e,x ≠ .own xs k e):iE (v::r) (x::q)=iE r q:=by
 cases x<;>first|rfl|exact absurd rfl (h _ _ _)
section
variable {P:Program} {ap:AP} {base:Nat} {rd:bD} {all:List Nat}
theorem qM {g:bD} {m:aF} {S:ay} {x:AV} {v:Value} (h:VR g m S x v):∀ xs k e,x ≠ .own xs k e:=by
 rintro xs k e rfl;simp [VR] at h
theorem xA {S:ay} {x:AV} {v:Value} (h:PR S x v):∀ xs k e,x ≠ .own xs k e:=by
 rintro xs k e rfl;simp [PR] at h
end
end AM
namespace AM
open Go
theorem yQ {b:Nat}:∀ (l acc:List Nat),(b ∈ l∨b ∈ acc)→b ∈ l.foldl wH acc
 | [],acc,h=>by simpa using h
 | a::r,acc,h=>by
  simp only [List.foldl_cons]
  refine yQ r _ ?_
  rcases h with h|h
  ·rcases List.mem_cons.1 h with rfl|h
   ·right
    unfold wH
    split
    ·rename_i hm;exact eX.1 hm
    ·simp
   ·exact .inl h
  ·right
   obtain h':=h
   unfold wH
   split
   ·exact h
   ·simp [h]
theorem F5 {l:List Nat} {b:Nat} (h:b ∈ l):b ∈ eF l:=yQ l [] (.inl h)
theorem CS (l:List Nat):(eF l).Nodup:=(kE l [] (by simp)).1
theorem Ld {rd:bD} {v:AV} {b:Nat} (h:b ∈ bU v):b ∈ cl rd v:=by
 obtain ⟨_,t,a⟩:=og rd 6 (eF (bU v)) (CS _)
 unfold cl
 rw [a]
 exact List.mem_append.2 (.inl (F5 h))
theorem uQ:∀ {vs l:List AV} {b:Nat} {Bo:aJ},(b,Bo) ∈ iE vs l→∃ ver i n c k e,(AV.ref b ver i n,AV.own c k e) ∈ vs.zip l∧Bo=uP c e
 | [],l,b,Bo,h=>by cases l<;>simp [iE] at h
 |v::r,[],b,Bo,h=>by simp [iE] at h
 | v ::r,x::q,b,Bo,h=>by
  rcases iD x with ⟨c,k,e,rfl⟩|hx
  ·simp only [iE,List.mem_append] at h
   rcases h with h|h
   ·cases v with
    |ref b' ver i n=>
     simp at h
     obtain ⟨rfl,rfl⟩:=h
     exact ⟨ver,i,n,c,k,e,by simp,rfl⟩
    |_=>simp at h
   ·obtain ⟨ver,i,n,a,g,e',f,d⟩:=uQ h
    exact ⟨ver,i,n,a,g,e',by simp [f],d⟩
  ·rw [fO hx] at h
   obtain ⟨ver,i,n,a,g,e',f,d⟩:=uQ h
   exact ⟨ver,i,n,a,g,e',by simp [f],d⟩
theorem y_ {rd:bD} {b:Nat}:∀ (vs l:List AV),dN ((iE vs l).flatMap fun q=> [q.1]) b≤dN (vs.flatMap (cl rd)) b
 | [],l=>by cases l<;>simp [iE,dN]
 |v::r,[]=>by simp [iE,dN]
 | v :: r,x::q=>by
  have d:=y_ (rd:=rd) (b:=b) r q
  rw [List.flatMap_cons,mi]
  rcases iD x with ⟨f,k,e,rfl⟩|hx
  ·simp only [iE,List.flatMap_append,mi]
   cases v with
   | ref b' ver i n=>
    simp only [List.flatMap_cons,List.flatMap_nil,List.append_nil]
    have:dN [b'] b≤dN (cl rd (.ref b' ver i n)) b:=by
     by_cases hb:b=b'
     ·subst hb
      have a:dN [b] b=1:=by simp [dN]
      rw [a]
      exact pg (Ld (by simp [bU]))
     ·have a:dN [b'] b=0:=by
       have:Nat.beq b b'=false:=by
        cases c:Nat.beq b b' with
        |false=>rfl
        |true=>exact absurd (az c) hb
       simp [dN,this]
      omega
    omega
   |_=>simp [dN] at*;omega
  ·rw [fO hx];omega
theorem zn:∀ (vs l:List AV) (n:Nat),vs.length=l.length→(∀ v x,(v,x) ∈ vs.zip l→(∃ c k e,x= .own c k e)→∃ b ver i n,v= .ref b ver i n)→(dS n l).2=(iE vs l).map (·.2)
 | [],[],n,_,_=>by simp [dS,iE]
 | v::r,x::q,n,hl,h=>by
  have d:=fun n=>zn r q n (by simpa using hl) fun v x hm a=>h v x (by simp [hm]) a
  rcases iD x with ⟨c,k,e,rfl⟩|a
  ·obtain ⟨b,ver,i,f,rfl⟩:=h v _ (by simp) ⟨c,k,e,rfl⟩
   simp only [dS,iE,d]
   simp
  ·rw [bG n a,fO a]
   exact d n
 | [],_::_,_,hl,_=>by simp at hl
 |_::_,[],_,hl,_=>by simp at hl
theorem CV {rd gh gf:bD} {m o:aF} {S S':ay}:∀ (vs l:List AV) (cvs:List Value) (n:Nat),vs.length=l.length→aO rd m S vs cvs→
  (∀ v x,(v,x) ∈ vs.zip l→(∃ a k e,x= .own a k e)→∃ b ver n,v= .ref b ver 0 n∧∃ a e,x= .own a n e)→
  (∀ v x c,(v,x) ∈ vs.zip l→(∀ a k e,x ≠ .own a k e)→VR rd m S v c→VR gh o S' x c)→
  (∀ (k b:Nat) (Bo:aJ),(iE vs l)[k]? =some (b,Bo)→∀ ver i c,VR rd m S (.ref b ver 0 i) c→(∃ a e,(AV.ref b ver 0 i,AV.own a i e) ∈ vs.zip l)→VR gf o S' (.ref (n+k) 0 0 i) c)→fF gh gf o S' n l cvs
 | [],[],[],n,_,_,_,_,_=>by simp [fF]
 | v::r,x::q,c::cs,n,hl,hv,ho,hx,hr=>by
  simp only [aO] at hv
  rcases iD x with ⟨a,k,e,rfl⟩|hxo
  ·obtain ⟨b,ver,i,rfl,u,e',t⟩:=ho v _ (by simp) ⟨a,k,e,rfl⟩
   cases t
   simp only [fF]
   refine ⟨?_, ?_⟩
   ·have:=hr 0 b (uP a e) (by simp [iE]) ver k c hv.1 ⟨a,e,by simp⟩
    rwa [Nat.add_zero] at this
   ·refine CV r q cs (n+1) (by simpa using hl) hv.2 (fun v x hm=>ho v x (by simp [hm])) (fun v x c hm=>hx v x c (by simp [hm])) ?_
    intro j p Bo s d g c' f h
    have:=hr (j+1) p Bo (by simpa [iE] using s) d g c' f (by obtain ⟨a,e,h⟩:=h;exact ⟨a,e,by simp [h]⟩)
    rwa [show n+(j+1)=n+1+j by omega] at this
  ·rw [bV hxo]
   refine ⟨hx v x c (by simp) hxo hv.1, ?_⟩
   refine CV r q cs n (by simpa using hl) hv.2 (fun v x hm=>ho v x (by simp [hm])) (fun v x c hm=>hx v x c (by simp [hm])) ?_
   intro j p Bo s d g c' f h
   exact hr j p Bo (by rw [fO hxo];exact s) d g c' f (by obtain ⟨a,e,h⟩:=h;exact ⟨a,e,by simp [h]⟩)
 | [],_::_,_,_,hl,_,_,_,_=>by simp at hl
 |_::_,[],_,_,hl,_,_,_,_=>by simp at hl
 | [],[],_::_,_,_,hv,_,_,_=>by simp [aO] at hv
 |_::_,_::_,[],_,_,hv,_,_,_=>by simp [aO] at hv
theorem Eo {α β:Type} {f:α→Option β}:∀ {l:List α} {l':List β},eH f l=some l'→∀ x y,(x,y) ∈ l.zip l'→f x=some y
 | [],l',h,x,y,hm=>by simp at hm
 | a::r,l',h,x,y,hm=>by
  simp only [eH] at h
  split at h
  ·rename_i b c
   split at h
   ·rename_i q d
    cases h
    simp only [List.zip_cons_cons,List.mem_cons,Prod.mk.injEq] at hm
    rcases hm with ⟨rfl,rfl⟩|hm
    ·exact c
    ·exact Eo d x y hm
   ·cases h
  ·cases h
theorem IB {α β:Type} {l:List α} {b:List β} {x:α} {y:β} (h:(x,y) ∈ l.zip b):∃ i:Nat,l[i]? =some x∧b[i]? =some y:=by
 obtain ⟨i,a⟩:=List.mem_iff_getElem?.1 h
 rw [List.getElem?_zip_eq_some] at a
 exact ⟨i,a⟩
theorem NP {g:bD} {m:aF} {S:ay} {l:List AV} {vs:List Value} (h:aO g m S l vs) {x:AV} (a:x ∈ l):∃ v,VR g m S x v:=by
 obtain ⟨i,c⟩:=List.mem_iff_getElem?.1 a
 obtain ⟨v,_,b⟩:=mf h i c
 exact ⟨v,b⟩
end AM
namespace AM
open Go
section
variable {P:Program} {ap:AP}
theorem jM {h0 I:List aJ} {hp:Hp} {m m0:aF} {S S0:ay} {w w0:World} {vs l:List AV} {cvs:List Value} (V:aV ap (ai hp) m S w) (z:Fr (aC h0) m0 S0 w0 (ai hp) m S w) (hv:aO (ai hp) m S vs cvs)
  {N:Nat} (hN:h0.length≤N) (hl:eH (kP N (ai hp) (vs.flatMap (cl (ai hp)))) vs=some l) (hh':eH (ai hp) (List.range N)=some I) (hbase:I.all (fun B=>B.pr||(a_ B.cells).all fun b=>Nat.blt b N)=true):
  ∃ m' S',aV ap (aC (I++(dS I.length l).2)) m' S' w∧Fr (aC h0) m0 S0 w0 (aC (I++(dS I.length l).2)) m' S' w∧fF (aC I) (aC (I++(dS I.length l).2)) m' S' I.length l cvs:=by
 have Y:=(dQ hl).1
 have hz:∀ v x,(v,x) ∈ vs.zip l→Ag N (ai hp) (vs.flatMap (cl (ai hp))) v x:=fun v x hm=>sK (Eo hl v x hm)
 have J:∀ v x,(v,x) ∈ vs.zip l→(∃ M k e,x= .own M k e)→∃ (b n:Nat) (B:aJ),v= .ref b B.ver 0 n∧ai hp b=some B∧N≤b∧B.fro=false∧B.pr=true∧dN (vs.flatMap (cl (ai hp))) b=1∧0<B.esz∧x= .own (B.cells.take (n*B.esz)) n B.esz:=by
  rintro v x hm ⟨M,k,e,rfl⟩
  obtain ⟨c,R⟩:=NP hv (List.of_mem_zip hm).1
  generalize hxe:AV.own M k e=x at hm
  cases hz v x hm with
  |own a d p t A O=>exact ⟨_,_,_,rfl,a,d,p,t,A,O,rfl⟩
  |low a=>exact absurd hxe.symm (qM R _ _ _)
  |frz a d=>
   refine absurd hxe.symm (xA (gW V (fun b B g=> ?_) 6 v c x d R) _ _ _)
   split at g
   ·exact g
   ·cases g
 generalize K:iE vs l=obs
 have hbs:∀ n,(dS n l).2=obs.map (·.2):=by
  intro n
  rw [← K]
  refine zn vs l n Y.symm fun v x hm X=> ?_
  obtain ⟨b,n',B,a,_⟩:=J v x hm X
  exact ⟨b,_,0,n',a⟩
 rw [hbs]
 have C:∀ b Bo,(b,Bo) ∈ obs→∃ (n:Nat) (B:aJ),ai hp b=some B∧N≤b∧B.fro=false∧B.pr=true∧dN (vs.flatMap (cl (ai hp))) b=1∧0<B.esz∧Bo=uP (B.cells.take (n*B.esz)) B.esz∧(AV.ref b B.ver 0 n,AV.own (B.cells.take (n*B.esz)) n B.esz) ∈ vs.zip l:=by
  intro b Bo hm
  rw [← K] at hm
  obtain ⟨ver,i,n,M,k,e,a,d⟩:=uQ hm
  obtain ⟨b',n',B,p,t,A,O,U,T,W,E⟩:=J _ _ a ⟨M,k,e,rfl⟩
  cases p
  cases E
  exact ⟨_,B,t,A,O,U,T,W,d,a⟩
 have hobd:∀ (k k' b:Nat) (Bo Bo':aJ),obs[k]? =some (b,Bo)→obs[k']? =some (b,Bo')→k=k':=by
  intro k k' b Bo Bo' a d
  obtain ⟨n,B,_,_,_,_,A,_⟩:=C b Bo (List.mem_of_getElem? a)
  by_cases s:k=k'
  ·exact s
  ·have p:=uo (f:=fun q:Nat × aJ=> [q.1]) obs k k' _ _ a d s (b:=b) (by simp) (by simp)
   have t:=y_ (rd:=ai hp) (b:=b) vs l
   rw [K] at t
   omega
 have hobx:∀ b Bo,(b,Bo) ∈ obs→∀ v x,(v,x) ∈ vs.zip l→(∀ M k e,x ≠ .own M k e)→b ∉ cl (ai hp) v:=by
  intro b Bo hm v x hvx X g
  obtain ⟨n,B,_,_,_,_,A,_,_,O⟩:=C b Bo hm
  obtain ⟨i,U,T⟩:=IB O
  obtain ⟨j,W,E⟩:=IB hvx
  have hne:i ≠ j:=by
   rintro rfl
   rw [T] at E
   cases E
   exact X _ _ _ rfl
  have:=uo (f:=cl (ai hp)) vs i j _ _ U W hne (b:=b) (Ld (by simp [bU])) g
  omega
 have Z:I.length=N:=by rw [(dQ hh').1];simp
 have L:∀ b,b<N→∃ B,ai hp b=some B∧aC I b=some B:=by
  intro b g
  obtain ⟨B,a,d⟩:=(dQ hh').2 b b (by simp [g])
  exact ⟨B,d,a⟩
 have hlow':∀ b B,aC I b=some B→b<N∧ai hp b=some B:=by
  intro b B g
  have F:b<N:=by
   have:=(List.getElem?_eq_some_iff.1 g).1
   omega
  obtain ⟨B',a,d⟩:=L b F
  rw [g] at d;cases d
  exact ⟨F,a⟩
 let rdF:bD:=open Classical in fun b=>if ∃ v x,(v,x) ∈ vs.zip l∧(∀ M k e,x ≠ .own M k e)∧b ∈ cl (ai hp) v∧∀ y ∈ cl (ai hp) v,N≤y then ai hp b else none
 have Q:∀ b B,rdF b=some B→ai hp b=some B∧N≤b∧∀ Bo,(b,Bo) ∉ obs:=by
  intro b B g
  dsimp only [rdF] at g
  split at g
  ·rename_i R
   obtain ⟨v,x,a,d,p,t⟩:=R
   exact ⟨g,t b p,fun Bo hm=>hobx b Bo hm v x a d p⟩
  ·cases g
 have r:=iW S m rdF w
 let m':aF:=fun i=>if i<N then m i else m ((obs.map (·.1)).getD (i - N) 0)
 have hm'lo:∀ i,i<N→m' i=m i:=fun i D=>if_pos D
 have hm'hi:∀ (k b:Nat) (Bo:aJ),obs[k]? =some (b,Bo)→m' (N+k)=m b:=by
  intro k b Bo s
  show (if _ then _ else _)=_
  rw [if_neg (by omega),show N+k - N=k by omega,List.getD_eq_getElem?_getD,List.getElem?_map,s]
  rfl
 have hgf:∀ i Bi,aC (I++obs.map (·.2)) i=some Bi→(i<N∧ai hp i=some Bi∧aC I i=some Bi)∨(∃ k b,i=N+k∧obs[k]? =some (b,Bi)):=by
  intro i Bi D
  by_cases F:i<N
  ·rw [dD (by omega)] at D
   exact .inl ⟨F,(hlow' i Bi D).2,D⟩
  ·rw [fH (by omega),Z] at D
   right
   refine ⟨i - N, ?_⟩
   have hi':(obs.map (·.2))[i - N]? =some Bi:=D
   rw [List.getElem?_map,Option.map_eq_some_iff] at hi'
   obtain ⟨⟨b,Bo⟩,a,d⟩:=hi'
   exact ⟨b,by omega,by rw [a];simp at d;rw [d]⟩
 have hgfk:∀ (k b:Nat) (Bo:aJ),obs[k]? =some (b,Bo)→aC (I++obs.map (·.2)) (N+k)=some Bo:=by
  intro k b Bo s
  rw [fH (by omega),Z,show N+k - N=k by omega]
  show (obs.map (·.2))[k]? =_
  rw [List.getElem?_map,s];rfl
 have G:∀ i Bi,aC (I++obs.map (·.2)) i=some Bi→∃ b B,ai hp b=some B∧m' i=m b∧((i<N∧b=i∧Bi=B)∨(N≤b∧∃ k,i=N+k∧obs[k]? =some (b,Bi))):=by
  intro i Bi D
  rcases hgf i Bi D with ⟨a,d,p⟩|⟨k,b,rfl,s⟩
  ·exact ⟨i,Bi,d,hm'lo i a,.inl ⟨a,rfl,rfl⟩⟩
  ·obtain ⟨n,B,a,d,_⟩:=C b Bi (List.mem_of_getElem? s)
   exact ⟨b,B,a,hm'hi k b Bi s,.inr ⟨d,k,rfl,s⟩⟩
 refine ⟨m',bI S m rdF w, ?_, ?_, ?_⟩
 ·refine ⟨?_, ?_,fun k o v h=>jg V h, ?_, ?_⟩
  ·intro i j Bi Bj D hj e
   obtain ⟨b,B,a,d,p⟩:=G i Bi D
   obtain ⟨b',B',h1',h2',h3'⟩:=G j Bj hj
   rw [d,h2'] at e
   have:=V.inj b b' B B' a h1' e
   subst this
   rcases p with ⟨t,rfl,_⟩|⟨t,k,rfl,s⟩<;>rcases h3' with ⟨h4',rfl,_⟩|⟨h4',k',rfl,hk'⟩
   ·rfl
   ·omega
   ·omega
   ·rw [hobd k k' b _ _ s hk']
  ·intro i Bi D
   rcases hgf i Bi D with ⟨a,d,p⟩|⟨k,b,rfl,s⟩
   ·rw [hm'lo i a]
    obtain ⟨⟨cur,e,us,rest,k1,k2,k3,k4,k5,k6⟩,k7,k8⟩:=V.blk i Bi d
    refine ⟨⟨cur,e,us,rest,k1,k2,fun hp=>aP r _ (k3 hp), ?_,k5,k6⟩,k7,k8⟩
    cases hpr:Bi.pr with
    |true=>exact aX _ (aP r _ (k3 hpr))
    |false=>
     refine iQ r _ (fun b g=> ?_) k4
     have A:=List.all_eq_true.1 hbase Bi (List.mem_of_getElem? p)
     rw [hpr] at A
     simp only [Bool.false_or] at A
     have O:=dL (List.all_eq_true.1 A b g)
     obtain ⟨B,U,T⟩:=L b O
     exact ⟨by rw [dD (by omega),T,U],hm'lo b O⟩
   ·obtain ⟨n,B,a,d,p,t,A,O,rfl,_⟩:=C b Bi (List.mem_of_getElem? s)
    rw [hm'hi k b _ s]
    obtain ⟨⟨cur,e,us,rest,k1,k2,k3,k4,k5,k6⟩,k7,k8⟩:=V.blk b B a
    have hp:=aP r _ (h_ (n*B.esz) (k3 t))
    refine ⟨⟨cur,e,us.take (n*B.esz),us.drop (n*B.esz)++rest,k1, ?_,fun _=>hp,aX _ hp,fun hz u hu=>k5 hz u (List.mem_of_mem_take hu),k6⟩,fun _=>rfl,Nat.zero_le _⟩
    rw [← List.append_assoc,List.take_append_drop];exact k2
  ·intro i Bi D o v ho
   obtain ⟨b,B,a,d,p⟩:=G i Bi D
   rw [d] at ho
   have hno:rdF b=none:=by
    cases hr:rdF b with
    |none=>rfl
    |some B'=>
     obtain ⟨_,t,A⟩:=Q b B' hr
     rcases p with ⟨O,rfl,_⟩|⟨_,k,_,s⟩
     ·omega
     ·exact absurd (List.mem_of_getElem? s) (A _)
   have hSo:S (m b).1 o=some v:=by
    rcases dM ho with h|⟨_,b',B',t,A,_⟩
    ·exact h
    ·have:=V.inj b' b B' B (Q b' B' t).1 a A
     subst this
     rw [hno] at t;cases t
   obtain ⟨U,T⟩:=V.own b B a o v hSo
   rcases p with ⟨_,rfl,rfl⟩|⟨_,k,_,s⟩
   ·exact ⟨U,T⟩
   ·obtain ⟨n,B2,W,_,E,_⟩:=C b _ (List.mem_of_getElem? s)
    rw [a] at W;cases W
    rw [U] at E;cases E
  ·intro k M s
   obtain ⟨us,a,d⟩:=V.glob k M s
   exact ⟨us,aP r _ a,d.mono r⟩
 ·refine ⟨?_,z.sle.trans r,z.os,z.tape,z.output,z.size,z.rest, ?_, ?_,fun i Bi D=>by
   obtain ⟨b,B,a,d,_⟩:=G i Bi D
   rw [d]
   exact z.mw b B a⟩
  ·intro b B0 g
   have F:b<N:=Nat.lt_of_lt_of_le (List.getElem?_eq_some_iff.1 g).1 hN
   obtain ⟨B,a,d,p⟩:=z.ge b B0 g
   obtain ⟨B',t,A⟩:=L b F
   rw [a] at t;cases t
   exact ⟨B,by rw [dD (by omega)];exact A,d,by rw [hm'lo b F];exact p⟩
  ·intro i Bi D
   obtain ⟨b,B,a,d,p⟩:=G i Bi D
   rw [d]
   rcases z.img b B a with h|⟨B0,t,A⟩
   ·exact .inl h
   ·have F:b<N:=Nat.lt_of_lt_of_le (List.getElem?_eq_some_iff.1 t).1 hN
    rcases p with ⟨_,rfl,_⟩|⟨O,_⟩
    ·exact .inr ⟨B0,t,A⟩
    ·omega
  ·intro k o v hv
   rcases dM hv with h|⟨_,b,B,a,d,_⟩
   ·exact z.sealN k o v h
   ·obtain ⟨p,t,_⟩:=Q b B a
    rcases z.img b B p with h|⟨B0,A,_⟩
    ·exact .inr (.inl (d ▸ h))
    ·have:=(List.getElem?_eq_some_iff.1 A).1
     omega
 ·rw [Z]
  refine CV (rd:=ai hp) (m:=m) (S:=S) vs l cvs N Y.symm hv ?_ ?_ ?_
  ·intro v x hm X
   obtain ⟨b,n,B,a,_,_,_,_,_,_,d⟩:=J v x hm X
   exact ⟨b,B.ver,n,a,_,_,d⟩
  ·intro v x c hm X R
   cases hz v x hm with
   |own _ _ _ _ _ _=>exact absurd rfl (X _ _ _)
   |low a=>
    refine nX r v (fun b g=> ?_) R
    obtain ⟨B,d,p⟩:=L b (a b g)
    exact ⟨by rw [p,d],hm'lo b (a b g)⟩
   | frz a d=>
    have p:=gW V (fun b B g=>by split at g;exact g;cases g) 6 v c x d R
    refine dG x (bn (ES fun b B g=> ?_) x p)
    split at g
    ·rename_i hm2
     dsimp only [rdF]
     rw [if_pos ⟨v,x,hm,X,eX.1 hm2,a⟩]
     exact g
    ·cases g
  ·rw [K]
   intro k b Bo s ver n' c R hzz
   obtain ⟨n,B,a,d,p,t,A,O,rfl,U⟩:=C b Bo (List.mem_of_getElem? s)
   obtain ⟨M,e,hzz⟩:=hzz
   have hver:ver=B.ver:=by
    obtain ⟨b2,n2,B2,e1,e2,_⟩:=J _ _ hzz ⟨M,_,e,rfl⟩
    cases e1
    rw [a] at e2;cases e2;rfl
   subst hver
   simp only [VR] at R ⊢
   obtain ⟨B',T,_,W,E⟩:=R
   rw [a] at T;cases T
   refine ⟨_,hgfk k b _ s,Nat.zero_le _,W,fun _=> ?_⟩
   rw [hm'hi k b _ s]
   exact E rfl
end
end AM
namespace AM
open Go
section
variable {P:Program} {ap:AP}
theorem Aa (p:dn P ap) {env:dF} {hp:Hp} {m:aF} {S:ay} {w:World} {tmps:Array Value} (E:aV ap (ai hp) m S w) (u:∀ t,VR (ai hp) m S (env.get t) (tmps.getD t undef)) {r:ResultVar} {v:AV} {bs:List Bool}
  (h:pV ap env hp r=some (v,bs)) (hbs:∀ b ∈ bs,b=true):∃ cv,(Bl tmps r).run P w= .ok cv w∧VR (ai hp) m S v cv:=by
 cases r with
 |tmp t=>
  simp only [pV,Option.some.injEq,Prod.mk.injEq] at h
  obtain ⟨rfl,rfl⟩:=h
  exact ⟨_,rfl,u t⟩
 | cell a t=>
  simp only [pV] at h
  have G:=bind_some h;clear h;obtain ⟨K,l,h⟩:=G
  simp only [Option.map_eq_some_iff] at h
  obtain ⟨⟨J,ups,F⟩,j,q⟩:=h
  simp only [Prod.mk.injEq] at q
  obtain ⟨rfl,rfl⟩:=q
  obtain ⟨i,d,z,C⟩:=bJ p l
  have c:=u a
  obtain ⟨_,cv,s,A⟩:=vS E (fun b B D=>D) C c j hbs
  refine ⟨cv, ?_,A⟩
  have g:∃ x,tmps.getD a undef= .pointer (some x):=by
   unfold Em at j
   split at j
   ·rename_i I n f
    rw [f] at c
    simp only [VR,PR] at c
    obtain ⟨b,o,vs,e,_⟩:=c
    exact ⟨_,e⟩
   ·rename_i b ver n f
    rw [f] at c
    simp only [VR] at c
    obtain ⟨B,_,_,⟨k,o,e⟩,_⟩:=c
    exact ⟨_,e⟩
   ·cases j
  obtain ⟨x,y⟩:=g
  rw [y] at s
  simp only [Bl,y]
  exact s
theorem gm (a:dn P ap) {env:dF} {hp:Hp} {m:aF} {S:ay} {w:World} {tmps:Array Value} (f:aV ap (ai hp) m S w) (g:∀ t,VR (ai hp) m S (env.get t) (tmps.getD t undef)):
  ∀ {rs:List ResultVar} {vs:List (AV × List Bool)},eH (pV ap env hp) rs=some vs→(∀ b ∈ vs.flatMap (·.2),b=true)→∃ cvs:List Value,rs.length=cvs.length∧aO (ai hp) m S (vs.map (·.1)) cvs∧∀ (i:Nat) (r:ResultVar) (v:Value),rs[i]? =some r→cvs[i]? =some v→(Bl tmps r).run P w= .ok v w
 | [],vs,h,_=>by
  simp [eH] at h
  subst h
  exact ⟨[],rfl,by simp [aO],fun i r v h=>by simp at h⟩
 | r::rs,vs,h,hbs=>by
  simp only [eH] at h
  split at h
  ·rename_i q x
   split at h
   ·rename_i l o
    cases h
    obtain ⟨v,bs⟩:=q
    obtain ⟨cv,n,j⟩:=Aa a f g x (fun b e=>hbs b (by simp [e]))
    obtain ⟨cvs,u,p,s⟩:=gm a f g o (fun b e=>hbs b (by rw [List.flatMap_cons];exact List.mem_append.2 (.inr e)))
    refine ⟨cv::cvs,by simp [u],by simp only [List.map_cons,aO];exact ⟨j,p⟩, ?_⟩
    intro i r' k d c
    cases i with
    |zero=>simp at d c;subst d;subst c;exact n
    |succ i=>exact s i r' k (by simpa using d) (by simpa using c)
   ·cases h
  ·cases h
theorem Dx {gh gf:bD} {m:aF} {S:ay} {n:Nat} {x:AV} {v:Value} (h:fF gh gf m S n [x] [v]):qL gh gf m S n x v∧(gG n x).2=(dS n [x]).2:=by
 rcases iD x with ⟨i,k,e,rfl⟩|hx
 ·simp only [fF] at h
  exact ⟨h.1,rfl⟩
 ·rw [bV hx] at h
  rcases uZ x with ⟨l,rfl⟩|ht
  ·have f:=h.1
   simp only [VR] at f
   obtain ⟨vs,rfl,g⟩:=f
   have key:∀ (l:List AV) (vs:List Value) (n:Nat),aO gh m S l vs→fF gh gf m S n l vs∧(dS n l).2= []:=by
    intro l
    induction l with
    |nil=>intro vs n a;cases vs with
     |nil=>exact ⟨by simp [fF],rfl⟩
     |cons _ _=>simp [aO] at a
    | cons y r ih=>intro vs n a;cases vs with
     |nil=>simp [aO] at a
     |cons u us=>
      simp only [aO] at a
      have b:=qM a.1
      obtain ⟨d,c⟩:=ih us n a.2
      rw [bV b,bG n b]
      exact ⟨⟨a.1,d⟩,c⟩
   obtain ⟨d,c⟩:=key l vs n g
   refine ⟨?_, ?_⟩
   ·simp only [qL]
    exact ⟨vs,rfl,d⟩
   ·simp only [gG,dS]
    exact c
  ·rw [iO hx ht,fJ n hx ht,bG n hx]
   exact ⟨h.1,rfl⟩
theorem pY (rd:bD) (n:Nat):n≤Jr rd n:=by
 obtain ⟨_,t,a⟩:=og rd 20 (List.range n) List.nodup_range
 unfold Jr
 rw [a,List.length_append,List.length_range]
 exact Nat.le_add_right _ _
theorem jc (u:dn P ap) {h0 n:List aJ} {I:Func} {env:dF} {hp:Hp} {m m0:aF} {S S0:ay} {w w0:World} {tmps:Array Value} {c c':Cx} {out:fP} (h:pU ap h0.length I env hp c= .ok (out,n) c') (F:c'.Ok):
  c.Ok∧h0.length≤n.length∧(aV ap (ai hp) m S w→Fr (aC h0) m0 S0 w0 (ai hp) m S w→(∀ t,VR (ai hp) m S (env.get t) (tmps.getD t undef))→
   ∃ cv,(results I tmps).run P w= .ok cv w∧∃ o S',wG ap h0 m0 S0 w0 out n o S' w (.returned cv)):=by
 unfold pU at h
 dsimp only at h
 split at h
 ·rename_i vs J s b
  split at h
  ·cases h
  ·rename_i hbase
   obtain ⟨_,K,E,h⟩:=R.bind_ok h
   split at h
   ·rename_i v d
    cases h
    obtain ⟨g,j⟩:=B_ E F
    have hlen':h0.length≤n.length:=by rw [(dQ b).1];simpa using pY _ _
    refine ⟨g,hlen',fun r i D=> ?_⟩
    obtain ⟨cvs,z,p,C⟩:=gm u r D s j
    have a:(vs.flatMap fun q=>kV (ai hp) 6 (eF (bU q.1)))=(vs.map (·.1)).flatMap (cl (ai hp)):=by rw [List.flatMap_map];rfl
    rw [a] at d
    obtain ⟨o,S',x,y,A⟩:=jM r i p (pY _ _) d b hbase
    have B:cvs.length=1:=by
     have:=aW p
     have f:=(dQ d).1
     simp at f this
     omega
    match cvs,B with
    | [cv],_=>
     obtain ⟨f,G⟩:=Dx A
     refine ⟨cv,jf z C,o,S', ?_⟩
     rw [← G] at x y
     refine ⟨x,y,cv,rfl, ?_⟩
     rw [G]
     exact f
   ·rename_i l e d
    cases h
    obtain ⟨g,j⟩:=B_ E F
    have hlen':h0.length≤n.length:=by rw [(dQ b).1];simpa using pY _ _
    refine ⟨g,hlen',fun r i D=> ?_⟩
    obtain ⟨cvs,z,p,C⟩:=gm u r D s j
    have a:(vs.flatMap fun q=>kV (ai hp) 6 (eF (bU q.1)))=(vs.map (·.1)).flatMap (cl (ai hp)):=by rw [List.flatMap_map];rfl
    rw [a] at d
    obtain ⟨o,S',x,y,A⟩:=jM r i p (pY _ _) d b hbase
    have k:H8 cvs= .tuple cvs.toArray:=by
     match cvs with
     | []=>rfl
     | [cv]=>
      exfalso
      have:=aW p
      have f:=(dQ d).1
      simp at f this
      match l,e with
      | [],_=>simp at f;omega
      | [v],e=>exact e v rfl
      |_::_::_,_=>simp at f;omega
     |_::_::_=>rfl
    refine ⟨_,jf z C,o,S',x,y, ?_⟩
    rw [k]
    exact ⟨_,rfl,cvs,rfl,A⟩
   ·cases h
 ·cases h
theorem tq {h0 g:List aJ} {v:AV} {hp:Hp} {m m0:aF} {S S0:ay} {w w0:World} {c c':Cx} {out:fP} (h:CY h0.length v hp c= .ok (out,g) c'):
  c=c'∧h0.length≤g.length∧(aV ap (ai hp) m S w→Fr (aC h0) m0 S0 w0 (ai hp) m S w→∀ cv,VR (ai hp) m S v cv→(∀ b ver n,v ≠ .ref b ver 0 n)→
   ∃ i S',wG ap h0 m0 S0 w0 out g i S' w (.panicked [{v:=cv,recovered:=false}])):=by
 unfold CY at h
 dsimp only at h
 split at h
 ·rename_i j z f a
  split at h
  ·cases h
  ·rename_i hbase
   cases h
   have hlen':h0.length≤g.length:=by rw [(dQ a).1];simpa using pY _ _
   refine ⟨rfl,hlen',fun u l cv r t=> ?_⟩
   have x:eH (kP (Jr (ai hp) h0.length) (ai hp) ([v].flatMap (cl (ai hp)))) [v]=some [j]:=by
    simp only [List.flatMap_cons,List.flatMap_nil,List.append_nil,eH]
    have y:kP (Jr (ai hp) h0.length) (ai hp) (cl (ai hp) v) v=some j:=f
    rw [y]
   obtain ⟨i,S',o,p,q⟩:=jM u l (vs:= [v]) (cvs:= [cv]) (by simp only [aO];exact ⟨r,trivial⟩) (pY _ _) x a hbase
   have d:∀ xs k e,j ≠ .own xs k e:=by
    rintro xs k e rfl
    cases sK f with
    |own h1 h2 h3 o p q=>exact t _ _ _ rfl
    |low h1=>exact qM r _ _ _ rfl
    |frz h1 h2=>
     exact xA (gW u (fun b B s=>by split at s;exact s;cases s) 6 v cv _ h2 r) _ _ _ rfl
   rw [bV d] at q
   rw [bG _ d] at o p
   exact ⟨i,S',o,p,cv,rfl,q.1⟩
 ·cases h
end
end AM
namespace AM
open Go
def lw (S:ay):AV→FrameMode→Prop
 | .nilI,u=>u= .returning
 | .ifc t v,u=> ∃ cv,u= .panicking [{v:=cv,recovered:=false}]∧PR S (.ifc t v) cv
 |_,_=>False
def Fe (md md':AV) (u u':FrameMode):Prop:=(md'=md∧u'=u)∨(md'= .nilI∧settle u'= .returning)
structure NI (P:Program) (ap:AP) (f:Nat) (args:List AV) (h:List aJ) (out:fP) (h':List aJ) (md md':AV):Prop where
 ent:nT P f
 calls:∀ m S w cargs u,aV ap (aC h) m S w→aO (aC h) m S args cargs→lw S md u→CallsD P f cargs.toArray u w fun e u' w'=>(∃ m' S',wG ap h m S w out h' m' S' w' e)∧Fe md md' u u'
def lY (P:Program) (ap:AP) (H:bg):Prop:=∀ c md f args h out h' md' c',md ≠ .dead→H c md f args h= .ok (out,h',md') c'→c'.Ok→c.Ok∧NI P ap f args h out h' md md'
structure zS (P:Program) (ap:AP):Prop where
 fn:∀ (f:Nat) (F:AF),ap.fnAt f=some F→P.funcs[f]? =some F.fn
 body:∀ (f:Nat) (F:AF),ap.fnAt f=some F→∃ c,F.fn.body=some c∧bW F.fn.ntmps c=true
 name:∀ (f:Nat) (F:AF),ap.fnAt f=some F→(F.fn.name== "runtime.NumGoroutine")=false
section
variable {P:Program} {ap:AP} {H:bg}
theorem oV (a:zS P ap) {f:Nat} {F:AF} (b:ap.fnAt f=some F):nT P f:=by
 intro args w
 obtain ⟨c,d,_⟩:=a.body f F b
 unfold callFunc
 rw [Sem.run_bind]
 have:(program).run P w= .ok P w:=rfl
 rw [this,Result.andThen_ok,a.fn f F b]
 dsimp only
 rw [a.name f F b]
 simp [d]
theorem EW {S:ay} {md:AV} {u:FrameMode} (h:lw S md u):settle u=u∧u ≠ .run:=by
 cases md<;>simp only [lw] at h
 ·obtain ⟨cv,rfl,_⟩:=h;exact ⟨rfl,by simp⟩
 ·subst h;exact ⟨rfl,by simp⟩
theorem kR (L:dn P ap) (T:lY P ap H):
  ∀ (dfs:List (Nat × List AV)) (mode mode':AV) (hp hp':Hp) (c c':Cx),yI ap H dfs mode hp c= .ok (mode',hp') c'→c'.Ok→c.Ok∧
   ∀ (h0:List aJ) (s:Func) (tmps:Array Value) (env:dF) (RR:Ending→World→Prop) (m0:aF) (S0:ay) (w0:World) m S w j u,aV ap (ai hp) m S w→Fr (aC h0) m0 S0 w0 (ai hp) m S w→(∀ t,VR (ai hp) m S (env.get t) (tmps.getD t undef))→dJ (ai hp) m S dfs j→lw S mode u→
   (∀ m' S' w' k,aV ap (ai hp') m' S' w'→Fr (aC h0) m0 S0 w0 (ai hp') m' S' w'→(∀ t,VR (ai hp') m' S' (env.get t) (tmps.getD t undef))→lw S' mode' k→Leaves P s tmps RR [] k w')→Leaves P s tmps RR j u w
 | [],mode,mode',hp,hp',c,c',h,hc=>by
  cases h
  refine ⟨hc,fun h0 s tmps env RR m0 S0 w0 m S w j u F n K y hm I=> ?_⟩
  cases j with
  |nil=>exact I m S w u F n K hm
  |cons _ _=>simp [dJ] at y
 | (f, args)::r,mode,mode',hp,hp',c,c',h,hc=>by
  simp only [yI] at h
  split at h
  ·cases h
  ·rename_i hrefs
   simp only [Bool.and_eq_true] at hrefs
   have E:mode ≠ .dead:=by rintro rfl;cases hrefs.1
   obtain ⟨q,c1,e1,h⟩:=R.bind_ok h
   split at h
   ·rename_i v x
    obtain ⟨A,Z⟩:=kR L T r q.md mode' (q.ups++hp) hp' c1 c' h hc
    obtain ⟨args0,hh0,O,Q,W,V,hg⟩:=rV e1
    obtain ⟨J,U⟩:=T _ _ _ _ _ _ _ _ _ E W A
    refine ⟨J,fun h0 s tmps env RR m0 S0 w0 m S w j u F n K y hm I=> ?_⟩
    cases j with
    |nil=>simp [dJ] at y
    | cons d j=>
     simp only [dJ] at y
     obtain ⟨⟨l,N,h2⟩,h3⟩:=y
     have hfresh:∀ i,i<4→ai hp (dR hp+i)=none:=by
      intro i _
      cases hb:ai hp (dR hp+i) with
      |none=>rfl
      |some B=>have:=jC hb;omega
     have hcall:=hg (ai hp) m S w (d.args++l).toList (fun cargs R=>CallsD P f cargs.toArray u w fun e k w'=>R e w'∧Fe mode q.md u k)
      (fun cargs R R' o a=>CallsD.mono o fun e k w' g=> ⟨a e w' g.1,g.2⟩) F (fun b _ B X=>X) hfresh h2
      (fun m1 S1 D o a=>U.calls m1 S1 w _ u o a (by
       cases mode<;>simp only [lw] at hm ⊢
       ·obtain ⟨cv,C,g⟩:=hm;exact ⟨cv,C,bn D _ g⟩
       ·exact hm))
     obtain ⟨p,M⟩:=EW hm
     refine ⟨M,.func f,l,f,d.args++l,N, ?_, ?_⟩
     ·rw [N]
      exact U.ent _ w
     ·rw [Array.toArray_toList] at hcall
      refine CallsD.mono hcall ?_
      rintro e k w' ⟨⟨m',S',o,a,g⟩,h7⟩
      rw [x] at g
      obtain ⟨cv,rfl,g⟩:=g
      rw [g_] at o a g
      refine Z h0 s tmps env RR m0 S0 w0 m' S' w' j (settle k) o (n.trans a) (fun t=>jb a.sle a.ge _ (K t)) (oQ a.sle a.ge h3) ?_ I
      rcases h7 with ⟨G,rfl⟩|⟨G,Y⟩
      ·rw [p,G]
       cases mode<;>simp only [lw] at hm ⊢
       ·obtain ⟨cv,C,z⟩:=hm;exact ⟨cv,C,bn a.sle _ z⟩
       ·exact hm
      ·rw [G,Y];rfl
   ·cases h
theorem dC {n f:Nat} (h:n≤f):∀ (c:Code),bW n c=true→bW f c=true
 | .region _ ops _,hd=>by
  simp only [bW,List.all_eq_true] at hd ⊢
  intro o g
  have:=hd o g
  unfold qx at this ⊢
  split
  ·rename_i d e
   rw [e] at this
   exact Nat.ble_eq_true_of_le (Nat.le_trans (dK this) h)
  ·rfl
 | .seq a b,hd=>by simp only [bW,Bool.and_eq_true] at hd ⊢;exact ⟨dC h a hd.1,dC h b hd.2⟩
 | .cond _ a b,hd=>by simp only [bW,Bool.and_eq_true] at hd ⊢;exact ⟨dC h a hd.1,dC h b hd.2⟩
 | .block _ b,hd=>by simp only [bW] at hd ⊢;exact dC h b hd
 | .loop b,hd=>by simp only [bW] at hd ⊢;exact dC h b hd
 | .scope b,hd=>by simp only [bW] at hd ⊢;exact dC h b hd
 | .skip,_=>rfl
 | .label _,_=>rfl
 | .exit _,_=>rfl
 | .ret,_=>rfl
 | .rangeFunc _ _ _ _,_=>rfl
 | .goto _,_=>rfl
 | .refuse _,_=>rfl
theorem uF {α:Type}:∀ (l:List α) (j t:Nat),ai ((l.zipIdx j).map fun (x,i)=>(i,x)) t=if j≤t then l[t - j]? else none
 | [],j,t=>by simp [ai]
 | a::r,j,t=>by
  rw [List.zipIdx_cons,List.map_cons]
  simp only [ai]
  cases h:Nat.beq j t with
  |true=>have:=az h;subst this;simp
  | false=>
   have b:j ≠ t:=by intro e;subst e;simp at h
   simp only [uF r (j+1) t]
   by_cases hj:j+1≤t
   ·rw [if_pos hj,if_pos (by omega)]
    obtain ⟨d,c⟩:∃ d,t - j=d+1:=⟨t - j - 1,by omega⟩
    rw [c,List.getElem?_cons_succ,show t - (j+1)=d by omega]
   ·rw [if_neg hj,if_neg (by omega)]
theorem wZ {h:List aJ} {args:List AV} {cargs:List Value} {m:aF} {S:ay} {w:World} {md:AV} (f:aV ap (aC h) m S w) (j:aO (aC h) m S args cargs) (n:Nat):
  ai (dO md args h).hp=aC h∧FR ap (dO md args h).env (dO md args h).hp [] (cargs.toArray++Array.replicate (n - cargs.toArray.size) undef).size m S w {tmps:=cargs.toArray++Array.replicate (n - cargs.toArray.size) undef,defers:= []}:=by
 have a:ai (dO md args h).hp=aC h:=by
  funext b
  have:=uF h 0 b
  simp only [dO,aC]
  rw [this,if_pos (Nat.zero_le _),Nat.sub_zero]
 refine ⟨a,⟨a ▸ f, ?_,by simp [dJ],rfl⟩⟩
 intro t
 rw [a]
 have i:(dO md args h).env.get t=(args[t]?).getD .dead:=by
  have:=uF args 0 t
  simp only [dO,dF.get]
  rw [this,if_pos (Nat.zero_le _),Nat.sub_zero]
 rw [i]
 cases g:args[t]? with
 |none=>simp [VR]
 | some x=>
  obtain ⟨v,d,e⟩:=mf j t g
  have c:=(List.getElem?_eq_some_iff.1 d).1
  have:(cargs.toArray++Array.replicate (n - cargs.toArray.size) undef).getD t undef=v:=by
   rw [Array.getD_eq_getD_getElem?,Array.getElem?_append_left (by simpa using c)]
   simp [d]
  rw [this]
  exact e
theorem sF (l:dn P ap) (M:lY P ap H) {h0 y:List aJ} {z:Func} {e:bf} {s:St} {c c':Cx} {out:fP} {A:AV} (h:wX ap H h0.length z e s c= .ok (out,y,A) c') (I:c'.Ok):
  c.Ok∧h0.length≤y.length∧∀ m0 S0 w0 m S w a nt,Fr (aC h0) m0 S0 w0 (ai s.hp) m S w→FR ap s.env s.hp s.dfs nt m S w a→vk s.hp m S (bodyPostD P z fun e w'=> ∃ r S',wG ap h0 m0 S0 w0 out y r S' w' e) a w e:=by
 have p:∀ mode,((yI ap H s.dfs mode s.hp c).bind fun (mode,hp) c=>
   match mode with
   | .nilI=>(pU ap h0.length z s.env hp c).bind fun (o,h) c=> .ok (o,h,s.md) c
   | .ifc t v=>(CY h0.length (.ifc t v) hp c).bind fun (o,h) c=> .ok (o,h,s.md) c
   |_=> .bad 74)= .ok (out,y,A) c'→c.Ok∧h0.length≤y.length∧∀ m0 S0 w0 m S w a nt u,Fr (aC h0) m0 S0 w0 (ai s.hp) m S w→FR ap s.env s.hp s.dfs nt m S w a→lw S mode u→Leaves P z a.tmps (fun e w'=> ∃ r S',wG ap h0 m0 S0 w0 out y r S' w' e) a.defers u w:=by
  intro mode i
  obtain ⟨⟨mode',hp'⟩,U,L,i⟩:=R.bind_ok i
  dsimp only at i
  split at i
  ·obtain ⟨⟨o,q⟩,V,B,i⟩:=R.bind_ok i
   cases i
   obtain ⟨F,g,C⟩:=jc (P:=P) (m:=fun _=>(0,0)) (m0:=fun _=>(0,0)) (S:=fun _ _=>none) (S0:=fun _ _=>none) (w:=default) (w0:=default) (tmps:=#[]) l B I
   obtain ⟨x,E⟩:=kR l M s.dfs mode _ s.hp hp' c U L F
   refine ⟨x,g,fun m0 S0 w0 m S w a nt u d f hm=> ?_⟩
   refine E h0 z a.tmps s.env _ m0 S0 w0 m S w a.defers u f.srel d f.env f.dfs hm ?_
   intro r S' w' N j k K D
   simp only [lw] at D
   subst D
   obtain ⟨_,_,C⟩:=jc (P:=P) (m:=r) (m0:=m0) (S:=S') (S0:=S0) (w:=w') (w0:=w0) (tmps:=a.tmps) l B I
   obtain ⟨cv,G,T⟩:=C j k K
   exact ⟨cv,G,T⟩
  ·rename_i t v
   obtain ⟨⟨o,q⟩,V,B,i⟩:=R.bind_ok i
   cases i
   obtain ⟨rfl,g,_⟩:=tq (ap:=ap) (m:=fun _=>(0,0)) (m0:=fun _=>(0,0)) (S:=fun _ _=>none) (S0:=fun _ _=>none) (w:=default) (w0:=default) B
   obtain ⟨x,E⟩:=kR l M s.dfs mode _ s.hp hp' c _ L I
   refine ⟨x,g,fun m0 S0 w0 m S w a nt u d f hm=> ?_⟩
   refine E h0 z a.tmps s.env _ m0 S0 w0 m S w a.defers u f.srel d f.env f.dfs hm ?_
   intro r S' w' N j k K D
   simp only [lw] at D
   obtain ⟨cv,rfl,G⟩:=D
   obtain ⟨_,_,J⟩:=tq (ap:=ap) (m:=r) (m0:=m0) (S:=S') (S0:=S0) (w:=w') (w0:=w0) B
   exact J j k cv (dG _ G) (fun b ver n h=>by cases h)
  ·cases i
 unfold wX at h
 dsimp only at h
 split at h
 ·obtain ⟨q,j,k⟩:=p .nilI h
  exact ⟨q,j,fun m0 S0 w0 m S w a nt d f=>k m0 S0 w0 m S w a nt .returning d f rfl⟩
 ·obtain ⟨q,j,k⟩:=p .nilI h
  exact ⟨q,j,fun m0 S0 w0 m S w a nt d f=>k m0 S0 w0 m S w a nt .returning d f rfl⟩
 ·rename_i t v
  split at h
  ·rename_i O
   obtain ⟨q,j,k⟩:=p (.ifc t v) h
   refine ⟨q,j,fun m0 S0 w0 m S w a nt d f cv Q=>k m0 S0 w0 m S w a nt _ d f ⟨cv,rfl, ?_⟩⟩
   exact jr (by simpa [bU] using O) Q
  ·cases h
 ·cases h
theorem nZ (i:dn P ap) (b:P.follows .mixedOrders=true) (g:zS P ap) (v:fC P ap H) (I:lY P ap H) (lf:Nat):fC P ap fun c md f args h=>jH ap H lf md f args h c:=by
 intro c f args h out z n c' a B
 have a:jH ap H lf .dead f args h c= .ok (out,z,n) c':=a
 unfold jH at a
 split at a
 ·cases a
 ·rename_i F r
  dsimp only at a
  obtain ⟨⟨e,s⟩,J,p,a⟩:=R.bind_ok a
  dsimp only at a
  obtain ⟨body,x,d⟩:=g.body f F r
  have hbody:ag F.fn=body:=by simp [ag,x]
  rw [hbody] at p
  obtain ⟨l,j,k⟩:=sF i I a B
  obtain ⟨t,_⟩:=di (nt:=F.fn.ntmps) i b v body d _ _ _ _ _ p l
  refine ⟨t,j,oV g r,fun m S w cargs E A=> ?_⟩
  obtain ⟨G,o⟩:=wZ (md:= .dead) E A F.fn.ntmps
  have q:F.fn.ntmps≤(cargs.toArray++Array.replicate (F.fn.ntmps - cargs.toArray.size) undef).size:=by simp;omega
  obtain ⟨_,u⟩:=di i b v body (dC q body d) _ _ _ _ _ p l
  obtain ⟨_,u⟩:=u rfl
  refine calls_of_wp_defers (g.fn f F r) x ?_
  refine u m S w m S w _ (by rw [G];exact Fr.refl _ _ _ _) o _ ?_
  intro C S' w' a' y D
  exact k m S w C S' w' a' _ y D
end
end AM
namespace AM
open Go
section
variable {P:Program} {ap:AP} {H:bg}
theorem Jv {o:Oper} {a:Act} {K K':Act→World→Prop} {Q Q':Exit→Act→World→Prop} {r:Result Next} (c:∀ a w,K a w→K' a w) (d:∀ e a w,Q e a w→Q' e a w) (g:¬ LetsOut Q) (h:o.upon P a K Q r):o.upon P a K' Q' r:=by
 cases r with
 | ok n w'=>
  cases n<;>simp only [Oper.upon] at h ⊢ <;>
   first
    |exact c _ _ h
    |exact Calls.mono h (fun e f b=>by cases e<;>first|exact c _ _ b|exact d _ _ _ b|exact absurd b g)
    |exact Rows.mono h (fun _ _ b=>c _ _ b)
 |halt x w'=>cases x<;>simp only [Oper.upon] at h ⊢ <;>exact d _ _ _ h
theorem gq {ops:Array Oper} {Q:Exit→Act→List Frame→World→Prop} {cs:List Frame} {Q':Exit→Act→World→Prop} (c:∀ e a w,Q' e a w→Q e a cs w) (b:¬ LetsOut Q'):∀ (l:List Nat) (a:Act) (w:World),wpOps P ops Q' l a w→wpOpsS P ops Q l a cs w
 | [],a,w,h=>c _ _ _ h
 | i ::rest,a,w,h=>by
  simp only [wpOps] at h
  simp only [wpOpsS]
  cases f:ops[i]? with
  |none=>
   simp only [f] at h ⊢
   exact gq c b rest a w h
  | some o=>
   simp only [f] at h ⊢
   by_cases hw:Region.wanted o (yielded ops a.tmps)=true
   ·rw [if_pos hw] at h ⊢
    rcases h with h|⟨_,h⟩
    ·unfold Oper.wp at h
     split
     ·rename_i w' g
      rw [g] at h
      exact h.elim
     ·exact Jv (fun a w d=>gq c b rest a w d) (fun e a w d=>c e a w d) b h
    ·exact absurd h b
   ·rw [if_neg hw] at h ⊢
    exact gq c b rest _ w h
theorem Wi {Q:Exit→Act→World→Prop}:¬ LetsOut (fun e a w=>e ≠ .outgrown∧Q e a w):=fun ⟨_,_,h,_⟩=>h rfl
theorem EK {a:Act} {o:Oper} {args:Array Operand} {argTypes:Array TypeId} (h:o.op= .call {callee:= .builtin .recover,args,argTypes}) (w:World):(execOp a.eval o).run P w= .ok .recover w:=by
 unfold execOp
 rw [h]
 rfl
theorem FR.env_cons {env:dF} {hp:Hp} {dfs:List (Nat × List AV)} {nt:Nat} {m:aF} {S:ay} {w:World} {a:Act} (h:FR ap env hp dfs nt m S w a) {d:Nat} (c:d<nt) {v:AV} {cv:Value} (b:VR (ai hp) m S v cv):FR ap ((d,v)::env) hp dfs nt m S w (a.put (some d) cv):=by
 refine ⟨h.srel,fun t=> ?_,by rw [jU];exact h.dfs,by rw [aA];exact h.size⟩
 by_cases ht:d=t
 ·subst ht
  rw [bT _ _ _ (by rw [h.size];exact c)]
  have:dF.get ((d,v)::env) d=v:=fG (env:=env)
  rw [this];exact b
 ·rw [iV _ _ _ (fun e=>ht (by cases e;rfl))]
  have:dF.get ((d,v)::env) t=env.get t:=sG (env:=env) (dst:=some d) (fun e=>ht (by cases e;rfl))
  rw [this];exact h.env t
theorem rU (l:dn P ap) (G:P.follows .mixedOrders=true) (I:zS P ap) (hH:fC P ap H) (lf:Nat):lY P ap fun c md f args h=>jH ap H lf md f args h c:=by
 intro c md f args h out h' M c' hmd g hc
 have g:jH ap H lf md f args h c= .ok (out,h',M) c':=g
 unfold jH at g
 split at g
 ·cases g
 ·rename_i F hF
  split at g
  ·exact absurd rfl hmd
  ·split at g
   ·rename_i hrefs
    simp only [Bool.and_eq_true] at hrefs
    obtain ⟨body,J,j⟩:=I.body f F hF
    have hbody:ag F.fn=body:=by simp [ag,J]
    unfold JM at g
    rw [hbody] at g
    split at g
    ·rename_i id ops rest
     split at g
     ·rename_i o r k
      split at g
      ·rename_i args' argTypes d hop hg hd
       dsimp only at g
       obtain ⟨⟨s1,p⟩,c1,e1,g⟩:=R.bind_ok g
       dsimp only at g
       split at g
       ·cases g
       ·obtain ⟨⟨e,C⟩,c2,e2,g⟩:=R.bind_ok g
        dsimp only at g
        split at g
        ·cases g
        ·rename_i X
         have A:∃ L,(e= .normal∨e= .ret)∧pU ap h.length F.fn C.env C.hp c2= .ok (out,h') L∧M= .nilI∧L=c':=by
          split at g
          ·obtain ⟨⟨o1,h1⟩,L,K,g⟩:=R.bind_ok g
           cases g
           exact ⟨_,.inl rfl,K,rfl,rfl⟩
          ·obtain ⟨⟨o1,h1⟩,L,K,g⟩:=R.bind_ok g
           cases g
           exact ⟨_,.inr rfl,K,rfl,rfl⟩
          ·cases g
         obtain ⟨L,A,K,rfl,rfl⟩:=A
         obtain ⟨U,hlen,_⟩:=jc (P:=P) (m:=fun _=>(0,0)) (m0:=fun _=>(0,0)) (S:=fun _ _=>none) (S0:=fun _ _=>none) (w:=default) (w0:=default) (tmps:=#[]) l K hc
         simp only [bW,Bool.and_eq_true] at j
         obtain ⟨Y,_⟩:=di (nt:=F.fn.ntmps) l G hH rest j.2 _ _ _ _ _ e2 U
         have q:∀ nt,F.fn.ntmps≤nt→∀ o' ∈ o::r,∀ d,o'.dst=some d→d<nt:=by
          intro nt z o' ho' d' hd'
          have:=List.all_eq_true.1 j.1 o' (by rw [k];exact ho')
          simp only [qx,hd'] at this
          exact Nat.lt_of_lt_of_le (dL this) z
         obtain ⟨hc0,_⟩:=iY (nt:=F.fn.ntmps) l hH (ops:=o::r) (q _ (Nat.le_refl _)) r 1 _ _ _ _ _ _ e1 Y
         refine ⟨hc0,oV I hF,fun m S w cargs u hS hv hm=> ?_⟩
         obtain ⟨hh,hFR⟩:=wZ (md:= .dead) hS hv F.fn.ntmps
         have z:F.fn.ntmps≤(cargs.toArray++Array.replicate (F.fn.ntmps - cargs.toArray.size) undef).size:=by simp;omega
         obtain ⟨_,hx⟩:=di l G hH rest (dC z rest j.2) _ _ _ _ _ e2 U
         obtain ⟨_,hs⟩:=iY l hH (ops:=o::r) (q _ z) r 1 _ _ _ _ _ _ e1 Y
         obtain ⟨Z,hs⟩:=hs rfl (fun t b J=>by cases J) rfl (fun b B J=>jC J)
         obtain ⟨_,hx⟩:=hx Z
         have N:=q _ z o (by simp) d hd
         refine callsD_of_wpS (I.fn f F hF) J fun c₀ cs hc₀=> ?_
         have i:∃ cv n,lw S md u∧VR (ai (dO .dead args h).hp) m S md cv∧settle n= .returning∧((recoverD (c₀::cs)=some (cv,{c₀ with mode:=n}::cs))∨(recoverD (c₀::cs)=none∧cv= .nilIface∧{c₀ with mode:=n}=c₀)):=by
          cases md<;>simp only [lw] at hm
          ·obtain ⟨cv,rfl,hp⟩:=hm
           exact ⟨cv,.panicking [{v:=cv,recovered:=true}],⟨cv,rfl,hp⟩,dG _ hp,rfl,.inl (by simp [recoverD,hc₀])⟩
          ·subst hm
           exact ⟨.nilIface,.returning,rfl,by simp only [VR,PR],rfl,.inr ⟨by simp [recoverD,hc₀],rfl,by rw [← hc₀]⟩⟩
         obtain ⟨cv,n,_,V,D,i⟩:=i
         have hcont:∀ (Q:Exit→Act→List Frame→World→Prop),(∀ e a w',(∃ m' S',Fr (aC h) m S w (ai C.hp) m' S' w'∧FR ap C.env C.hp C.dfs (cargs.toArray++Array.replicate (F.fn.ntmps - cargs.toArray.size) undef).size m' S' w' a)→(e= .normal∨e= .ret)→Q e a ({c₀ with mode:=n}::cs) w')→
           wpOpsS P ops (Exit.thenS (rest.wpS P Q) Q) (List.range' 1 r.length) (({tmps:=cargs.toArray++Array.replicate (F.fn.ntmps - cargs.toArray.size) undef,defers:= []}:Act).put (some d) cv) ({c₀ with mode:=n}::cs) w:=by
          intro Q hQ
          have hopsA:ops=(o::r).toArray:=by rw [← k]
          rw [hopsA]
          refine gq (Q':=fun e a w'=>e ≠ .outgrown∧e= .normal∧rest.wpS P Q a ({c₀ with mode:=n}::cs) w') ?_ Wi _ _ _ ?_
          ·rintro e a w' ⟨_,rfl,hh⟩
           exact hh
          ·refine hs m S w _ (hFR.env_cons N V) _ ?_
           intro m1 S1 w1 a1 h3 W
           refine ⟨by simp,rfl,wpS_of_wp ?_⟩
           rw [hh] at h3
           obtain ⟨m2,h5,h6⟩:=iU (keep:=F.keep) (s:=⟨s1.env,s1.hp,s1.md,s1.dfs⟩) h3 W
           refine hx m S w m2 S1 w1 a1 h5 h6 _ ?_
           intro m3 S3 w3 a3 h7 h8
           rcases A with rfl|rfl
           ·exact hQ .normal a3 w3 ⟨m3,S3,h7,h8⟩ (.inl rfl)
           ·exact hQ .ret a3 w3 ⟨m3,S3,h7,h8⟩ (.inr rfl)
         have E:∀ e a w',(∃ m' S',Fr (aC h) m S w (ai C.hp) m' S' w'∧FR ap C.env C.hp C.dfs (cargs.toArray++Array.replicate (F.fn.ntmps - cargs.toArray.size) undef).size m' S' w' a)→(e= .normal∨e= .ret)→
           bodyPostS P F.fn c₀ cs (fun e n w'=>(∃ m' S',wG ap h m S w out h' m' S' w' e)∧Fe md .nilI u n) e a ({c₀ with mode:=n}::cs) w':=by
          rintro e a w' ⟨m',S',h3,W⟩ hee
          obtain ⟨_,_,hro⟩:=jc (P:=P) (m:=m') (m0:=m) (S:=S') (S0:=S) (w:=w') (w0:=w) (tmps:=a.tmps) l K hc
          obtain ⟨O,h5,h6⟩:=hro W.srel h3 W.env
          have T:a.defers= []:=by
           have:=W.dfs
           rw [X] at this
           cases hd:a.defers with
           |nil=>rfl
           |cons x y=>rw [hd] at this;simp [dJ] at this
          rcases hee with rfl|rfl
          ·exact ⟨T,n,rfl,O,h5,h6,.inr ⟨rfl,D⟩⟩
          ·exact ⟨T,n,rfl,O,h5,h6,.inr ⟨rfl,D⟩⟩
         refine wpS_seq (wpS_region ?_)
         have hrange:List.range ops.size=0::List.range' 1 r.length:=by
          have:ops.size=r.length+1:=by rw [← Array.length_toList,k];simp
          rw [this,List.range_eq_range',List.range'_succ]
         rw [hrange]
         have ho0:ops[0]? =some o:=by
          have:ops.toList[0]? =some o:=by rw [k];rfl
          simpa using this
         simp only [wpOpsS,ho0,Region.wanted,hg,if_true,EK hop]
         rw [hd]
         rcases i with i|⟨i,rfl,hsame⟩
         ·rw [i]
          exact hcont _ E
         ·rw [i]
          have:=hcont _ E
          rw [hsame] at this
          exact this
      ·cases g
     ·cases g
    ·cases g
   ·cases g
end
end AM
namespace AM
open Go
def Dh (P:Program) (ap:AP) (lf:Nat) (fs:List Nat):Nat→bg
 |0=>fun _ _ _ _ _=> .bad 90
 | n+1=>fun c md f args h=>
  match j_ fs f with
  |false=>jH ap (Dh P ap lf fs n) lf md f args h c
  |true=>match md,c.ans with
   | .dead,(out,h')::r=> .ok (out,h',.dead) {c with ans:=r,ps:=ae P ap f args h out h'::c.ps}
   |_,_=> .bad 91
theorem zx {P:Program} {ap:AP} (g:dn P ap) (b:P.follows .mixedOrders=true) (d:zS P ap) (lf:Nat) (k:List Nat):∀ n,fC P ap (Dh P ap lf k n)∧lY P ap (Dh P ap lf k n)
 |0=> ⟨fun _ _ _ _ _ _ _ _ h=>(by cases h),fun _ _ _ _ _ _ _ _ _ _ h=>(by cases h)⟩
 | n +1=>by
  obtain ⟨m,o⟩:=zx g b d lf k n
  constructor
  ·intro c f args h out l e c' a i
   simp only [Dh] at a
   split at a
   ·exact nZ g b d m o lf c f args h out l e c' a i
   ·split at a
    ·cases a
     exact ⟨⟨i.bs,fun p hp=>i.ps p (by simp [hp])⟩,i.ps _ (by simp)⟩
    ·cases a
  ·intro c md f args h out l e c' j a i
   simp only [Dh] at a
   split at a
   ·exact rU g b d m lf c md f args h out l e c' j a i
   ·split at a
    ·exact absurd rfl j
    ·cases a
theorem Gp {P:Program} {ap:AP} (d:dn P ap) (a:P.follows .mixedOrders=true) (b:zS P ap) {lf:Nat} {g:List Nat} {n:Nat} {c c':Cx} {f:Nat} {args:List AV} {h e:List aJ} {out:fP} {md:AV}
  (he:jH ap (Dh P ap lf g n) lf .dead f args h c= .ok (out,e,md) c') (hc:c'.Ok):ae P ap f args h out e:=by
 obtain ⟨j,i⟩:=zx d a b lf g n
 exact (nZ d a b j i lf c f args h out e md c' he hc).2
def yf:Option AF→Bool
 |some F=>(match F.fn.body with|some c=>bW F.fn.ntmps c|none=>false) && !(F.fn.name== "runtime.NumGoroutine")
 |none=>true
theorem NR {P:Program} {ap:AP} (h:(List.range ap.nty).map ap.ty.get=(List.range ap.nty).map (Nr P)) (hm:ap.mt.all (mtB P)=true:=by rfl):dn P ap:=by
 refine ⟨?_,hm⟩
 intro t e a
 unfold AP.tyAt at a
 split at a
 ·rename_i b
  have d:=dL b
  have c:((List.range ap.nty).map ap.ty.get)[t]? =some (some e):=by rw [List.getElem?_map,List.getElem?_range d];simp [a]
  rw [h,List.getElem?_map,List.getElem?_range d] at c
  simpa using c
 ·cases a
theorem Oe {P:Program} {ap:AP} {keep:Nat→Bool} (h:(List.range ap.nfn).map (fun i=>(ap.fn.get i).map AF.fn)=(List.range ap.nfn).map fun i=>match keep i with|true=>P.funcs[i]? |false=>none) (l:(List.range ap.nfn).all (fun i=>yf (ap.fn.get i))=true):zS P ap:=by
 have d:∀ (f:Nat) (F:AF),ap.fnAt f=some F→f<ap.nfn∧ap.fn.get f=some F:=by
  intro f F a
  unfold AP.fnAt at a
  split at a
  ·rename_i g;exact ⟨dL g,a⟩
  ·cases a
 have hgood:∀ (f:Nat) (F:AF),ap.fnAt f=some F→yf (some F)=true:=by
  intro f F a
  obtain ⟨e,j⟩:=d f F a
  have:=List.all_eq_true.1 l f (by simpa using e)
  rwa [j] at this
 constructor
 ·intro f F a
  obtain ⟨e,j⟩:=d f F a
  have b:((List.range ap.nfn).map fun i=>(ap.fn.get i).map AF.fn)[f]? =some (some F.fn):=by rw [List.getElem?_map,List.getElem?_range e];simp [j]
  rw [h,List.getElem?_map,List.getElem?_range e] at b
  simp only [Option.map_some,Option.some.injEq] at b
  split at b
  ·exact b
  ·cases b
 ·intro f F a
  have:=hgood f F a
  simp only [yf,Bool.and_eq_true] at this
  cases k:F.fn.body with
  |none=>rw [k] at this;cases this.1
  |some c=>rw [k] at this;exact ⟨c,rfl,this.1⟩
 ·intro f F a
  have:=hgood f F a
  simp only [yf,Bool.and_eq_true,Bool.not_eq_true'] at this
  exact this.2
end AM
namespace AM
open Go
def aK (P:Program) (ap:AP) (h0:List aJ) (n:Nat) (code:Code) (s:St) (e:bf) (s':St):Prop:=∀ nt,n≤nt→ah P ap h0 nt code s e s'
abbrev wR:=List (bf × St)
def jK (P:Program) (ap:AP) (H:bg) (h0:List aJ) (keep:List Nat) (lf nt:Nat) (ls:List Nat):Code→St→wR→Cx→R ((bf × St) × wR)
 | .seq a b,s,l,c=>(jK P ap H h0 keep lf nt ls a s l c).bind fun r c=>match r.1.1 with
  | .normal=>jK P ap H h0 keep lf nt ls b r.1.2 r.2 c
  |e=> .ok ((e,r.1.2),r.2) c
 | .cond t a b,s,l,c=>match nK ap s.env t with
  | .bool x=>(ui c x).bind fun x c=>match x with
   |true=>jK P ap H h0 keep lf nt ls a s l c
   |false=>jK P ap H h0 keep lf nt ls b s l c
  |_=> .bad 60
 | .block id b,s,l,c=>match j_ ls id with
  |true=>match l with
   |(e,s')::r=> .ok ((e,s'),r) {c with ps:=aK P ap h0 nt (.block id b) s e s'::c.ps}
   | []=> .bad 62
  |false=>(jK P ap H h0 keep lf nt ls b s l c).bind fun r c=>match r.1.1 with
   | .exit id'=>match Nat.beq id' id with|true=> .ok ((.normal,r.1.2),r.2) c|false=> .ok ((.exit id',r.1.2),r.2) c
   |e=> .ok ((e,r.1.2),r.2) c
 | .scope b,s,l,c=>jK P ap H h0 keep lf nt ls b s l c
 | .region id ops draw,s,l,c=>match j_ ls (id+1000) with
  |true=>match l with
   |(e,s')::r=> .ok ((e,s'),r) {c with ps:=aK P ap h0 nt (.region id ops draw) s e s'::c.ps}
   | []=> .bad 63
  |false=>(iK ap H h0.length keep lf (.region id ops draw) s c).bind fun r c=> .ok (r,l) c
 |code,s,l,c=>(iK ap H h0.length keep lf code s c).bind fun r c=> .ok (r,l) c
section
variable {P:Program} {ap:AP} {H:bg}
theorem ah.seq {h0:List aJ} {nt:Nat} {x y:Code} {s d f:St} {e:bf} (r:ah P ap h0 nt x s .normal d) (i:ah P ap h0 nt y d e f):ah P ap h0 nt (.seq x y) s e f:=by
 intro b
 obtain ⟨q,k⟩:=r b
 obtain ⟨o,p⟩:=i q
 refine ⟨o,fun m0 S0 w0 m S w a c j Q l=>wp_seq (k m0 S0 w0 m S w a c j _ ?_)⟩
 intro g S' w' a' n h
 exact p m0 S0 w0 g S' w' a' n h Q l
theorem ah.seq_out {h0:List aJ} {nt:Nat} {x y:Code} {s f:St} {e:bf} (c:e ≠ .normal) (o:ah P ap h0 nt x s e f):ah P ap h0 nt (.seq x y) s e f:=by
 intro b
 obtain ⟨n,i⟩:=o b
 refine ⟨n,fun m0 S0 w0 m S w a d h Q j=>wp_seq (i m0 S0 w0 m S w a d h _ ?_)⟩
 intro g S' w' a' k l
 have:=j g S' w' a' k l
 cases e with
 |normal=>exact absurd rfl c
 |exit id=>exact this
 |ret=>exact this
 |panic v=>exact this
theorem ah.cond {h0:List aJ} {nt:Nat} {t:Operand} {x y:Code} {s s':St} {e:bf} {d:Bool} (k:nK ap s.env t= .bool d) (h:ah P ap h0 nt (if d then x else y) s e s'):ah P ap h0 nt (.cond t x y) s e s':=by
 intro b
 obtain ⟨i,j⟩:=h b
 refine ⟨i,fun m0 S0 w0 m S w a f c Q g=>wp_cond (t:=d) ?_ (j m0 S0 w0 m S w a f c Q g)⟩
 have:=qR c.srel (a:=a) (env:=s.env) t (fun t _=>c.env t)
 rw [k] at this
 simpa only [VR,PR] using this
def rO (id:Nat):bf→bf
 | .exit id'=>match Nat.beq id' id with|true=> .normal|false=> .exit id'
 |e=>e
theorem ah.block {h0:List aJ} {nt:Nat} {id:Nat} {b:Code} {s s':St} {e:bf} (h:ah P ap h0 nt b s e s'):ah P ap h0 nt (.block id b) s (rO id e) s':=by
 intro d
 obtain ⟨q,n⟩:=h d
 refine ⟨q,fun m0 S0 w0 m S w a i k Q l=>wp_block (n m0 S0 w0 m S w a i k _ ?_)⟩
 intro j S' w' a' o p
 have c:=l j S' w' a' o p
 cases e with
 |normal=>exact c
 |ret=>exact c
 |panic v=>exact c
 | exit id'=>
  simp only [rO] at c
  split at c
  ·rename_i g
   show Exit.inBlock id Q (.exit id') a' w'
   simp only [Exit.inBlock,if_pos (az g)]
   exact c
  ·rename_i g
   show Exit.inBlock id Q (.exit id') a' w'
   have f:id' ≠ id:=by intro e;subst e;simp at g
   simp only [Exit.inBlock,if_neg f]
   exact c
theorem ah.scope {h0:List aJ} {nt:Nat} {b:Code} {s s':St} {e:bf} (h:ah P ap h0 nt b s e s'):ah P ap h0 nt (.scope b) s e s':=by
 intro d
 obtain ⟨o,j⟩:=h d
 refine ⟨o,fun m0 S0 w0 m S w a f i Q k=>wp_scope_straight (j m0 S0 w0 m S w a f i _ ?_)⟩
 intro g S' w' a' l n
 have c:=k g S' w' a' l n
 cases e with
 |normal=>exact c
 |exit id=>exact c
 |ret=>exact c
 |panic v=>exact c
theorem vK (E:dn P ap) (w:P.follows .mixedOrders=true) (G:fC P ap H) {h0:List aJ} {keep:List Nat} {lf n nt:Nat} (F:n≤nt) {L:List Nat}:∀ (a:Code),bW nt a=true→∀ (s:St) (l:wR) (r:(bf × St) × wR) (c c':Cx),jK P ap H h0 keep lf n L a s l c= .ok r c'→c'.Ok→c.Ok∧ah P ap h0 nt a s r.1.1 r.1.2:=by
 have hbase:∀ (a:Code),bW nt a=true→∀ (s:St) (l:wR) (r:(bf × St) × wR) (c c':Cx),((iK ap H h0.length keep lf a s c).bind fun r c=> .ok (r,l) c)= .ok r c'→c'.Ok→c.Ok∧ah P ap h0 nt a s r.1.1 r.1.2:=by
  intro a f s l r c c' h d
  obtain ⟨⟨e,s'⟩,z,k,h⟩:=R.bind_ok h
  cases h
  exact di E w G a f s e s' c _ k d
 intro a
 induction a with
 | seq x y ihx ihy=>
  intro f s l r c c' h d
  simp only [bW,Bool.and_eq_true] at f
  simp only [jK] at h
  obtain ⟨⟨⟨m,A⟩,D⟩,z,k,h⟩:=R.bind_ok h
  dsimp only at h
  have hother:m ≠ .normal→R.ok ((m,A),D) z=R.ok r c'→c.Ok∧ah P ap h0 nt (.seq x y) s r.1.1 r.1.2:=by
   intro B M
   cases M
   obtain ⟨g,j⟩:=ihx f.1 _ _ _ _ _ k d
   exact ⟨g,j.seq_out B⟩
  cases m with
  |normal=>
   dsimp only at h
   obtain ⟨i,J⟩:=ihy f.2 _ _ _ _ _ h d
   obtain ⟨g,j⟩:=ihx f.1 _ _ _ _ _ k i
   exact ⟨g,j.seq J⟩
  |exit id=>exact hother (by simp) h
  |ret=>exact hother (by simp) h
  |panic v=>exact hother (by simp) h
 | cond t x y ihx ihy=>
  intro f s l r c c' h d
  simp only [bW,Bool.and_eq_true] at f
  simp only [jK] at h
  split at h
  ·rename_i N q
   obtain ⟨K,z,k,h⟩:=R.bind_ok h
   cases K with
   |true=>
    obtain ⟨i,j⟩:=ihx f.1 _ _ _ _ _ h d
    obtain ⟨g,o⟩:=iR k i
    exact ⟨g,ah.cond q (by rw [← o];exact j)⟩
   |false=>
    obtain ⟨i,j⟩:=ihy f.2 _ _ _ _ _ h d
    obtain ⟨g,o⟩:=iR k i
    exact ⟨g,ah.cond q (by rw [← o];exact j)⟩
  ·cases h
 | block id b ih=>
  intro f s l r c c' h d
  simp only [bW] at f
  simp only [jK] at h
  split at h
  ·split at h
   ·rename_i C s0 I
    cases h
    have hp:aK P ap h0 n (.block id b) s C s0:=d.ps _ (List.mem_cons_self ..)
    exact ⟨⟨d.bs,fun p hp=>d.ps p (List.mem_cons_of_mem _ hp)⟩,hp nt F⟩
   ·cases h
  ·obtain ⟨⟨⟨m,A⟩,D⟩,z,k,h⟩:=R.bind_ok h
   dsimp only at h
   have u:r=((rO id m,A),D)∧z=c':=by
    cases m<;>dsimp only at h
    ·cases h;exact ⟨rfl,rfl⟩
    ·unfold rO
     split at h<;>cases h<;>rename_i o<;>dsimp only<;>rw [o]<;>exact ⟨rfl,rfl⟩
    ·cases h;exact ⟨rfl,rfl⟩
    ·cases h;exact ⟨rfl,rfl⟩
   obtain ⟨rfl,rfl⟩:=u
   obtain ⟨g,j⟩:=ih f _ _ _ _ _ k d
   exact ⟨g,j.block⟩
 |scope b ih=>
  intro f s l r c c' h d
  simp only [bW] at f
  simp only [jK] at h
  obtain ⟨g,j⟩:=ih f _ _ _ _ _ h d
  exact ⟨g,j.scope⟩
 |skip=>exact fun f s l r c c' h d=>hbase _ f s l r c c' h d
 | region id ops draw=>
  intro f s l r c c' h d
  simp only [jK] at h
  split at h
  ·split at h
   ·rename_i C s0 I
    cases h
    have hp:aK P ap h0 n (.region id ops draw) s C s0:=d.ps _ (List.mem_cons_self ..)
    exact ⟨⟨d.bs,fun p hp=>d.ps p (List.mem_cons_of_mem _ hp)⟩,hp nt F⟩
   ·cases h
  ·exact hbase _ f s l r c c' h d
 |loop _ _=>exact fun f s l r c c' h d=>hbase _ f s l r c c' h d
 |rangeFunc _ _ _ _=>exact fun f s l r c c' h d=>hbase _ f s l r c c' h d
 |exit _=>exact fun f s l r c c' h d=>hbase _ f s l r c c' h d
 |label _=>exact fun f s l r c c' h d=>hbase _ f s l r c c' h d
 |goto _=>exact fun f s l r c c' h d=>hbase _ f s l r c c' h d
 |ret=>exact fun f s l r c c' h d=>hbase _ f s l r c c' h d
 |refuse _=>exact fun f s l r c c' h d=>hbase _ f s l r c c' h d
def GL (P:Program) (ap:AP) (H:bg) (lf:Nat) (ls:List Nat) (f:Nat) (args:List AV) (h:List aJ) (l:wR) (c:Cx):R (fP × List aJ × AV):=
 match ap.fnAt f with
 |none=> .bad 80
 |some F=>(jK P ap H h F.keep lf F.fn.ntmps ls (ag F.fn) (dO .dead args h) l c).bind fun r c=>wX ap H h.length F.fn r.1.1 r.1.2 c
theorem JO (n:dn P ap) (j:P.follows .mixedOrders=true) (a:zS P ap) (z:fC P ap H) (G:lY P ap H) {lf:Nat} {I:List Nat} {f:Nat} {args:List AV} {h u:List aJ} {l:wR} {c c':Cx} {out:fP} {o:AV}
  (b:GL P ap H lf I f args h l c= .ok (out,u,o) c') (hc:c'.Ok):ae P ap f args h out u:=by
 unfold GL at b
 split at b
 ·cases b
 ·rename_i F r
  obtain ⟨⟨⟨e,s⟩,J⟩,K,v,b⟩:=R.bind_ok b
  dsimp only at b
  obtain ⟨body,x,k⟩:=a.body f F r
  have hbody:ag F.fn=body:=by simp [ag,x]
  rw [hbody] at v
  obtain ⟨q,d,g⟩:=sF n G b hc
  refine ⟨d,oV a r,fun m S w cargs D A=> ?_⟩
  obtain ⟨E,p⟩:=wZ (md:= .dead) D A F.fn.ntmps
  have i:F.fn.ntmps≤(cargs.toArray++Array.replicate (F.fn.ntmps - cargs.toArray.size) undef).size:=by simp;omega
  obtain ⟨_,t⟩:=vK n j z i body (dC i body k) _ _ _ _ _ v q
  obtain ⟨_,t⟩:=t rfl
  refine calls_of_wp_defers (a.fn f F r) x ?_
  refine t m S w m S w _ (by rw [E];exact Fr.refl _ _ _ _) p _ ?_
  intro B S' w' a' y C
  exact g m S w B S' w' a' _ y C
end
end AM
namespace AM
open Go
def uY (P:Program) (ap:AP) (lf:Nat):Nat→bg
 |0=>fun _ _ _ _ _=> .bad 90
 | n+1=>fun c md f args h=>
  match md with
  | .dead=>match c.ans with
   |(out,h')::r=> .ok (out,h',.dead) {c with ans:=r,ps:=ae P ap f args h out h'::c.ps}
   |_=> .bad 91
  |md=>jH ap (uY P ap lf n) lf md f args h c
theorem gI {P:Program} {ap:AP} (j:dn P ap) (a:P.follows .mixedOrders=true) (i:zS P ap) (lf:Nat):∀ n,fC P ap (uY P ap lf n)∧lY P ap (uY P ap lf n)
 |0=> ⟨fun _ _ _ _ _ _ _ _ h=>(by cases h),fun _ _ _ _ _ _ _ _ _ _ h=>(by cases h)⟩
 | n+1=>by
  obtain ⟨l,m⟩:=gI j a i lf n
  constructor
  ·intro c f args h out k d c' b e
   simp only [uY] at b
   split at b
   ·cases b
    exact ⟨⟨e.bs,fun p hp=>e.ps p (by simp [hp])⟩,e.ps _ (by simp)⟩
   ·cases b
  ·intro c md f args h out k d c' g b e
   have b:jH ap (uY P ap lf n) lf md f args h c= .ok (out,k,d) c':=by
    cases md<;>first|exact absurd rfl g|exact b
   exact rU j a i l lf c md f args h out k d c' g b e
inductive Dv:List Prop→Prop where
 |nil:Dv []
 |cons {p:Prop} {l:List Prop}:p→Dv l→Dv (p::l)
theorem Dv.mem {l:List Prop} (h:Dv l):∀ p ∈ l,p:=by
 induction h with
 |nil=>intro p hp;cases hp
 |cons hp _ ih=>
  intro q a
  rcases List.mem_cons.1 a with rfl|a
  ·exact hp
  ·exact ih q a
inductive jq:List Bool→Prop where
 |nil:jq []
 |t {l:List Bool}:jq l→jq (true::l)
 |c {b:Bool} {l:List Bool}:b=true→jq l→jq (b::l)
theorem jq.mem {l:List Bool} (h:jq l):∀ b ∈ l,b=true:=by
 induction h with
 |nil=>intro p hp;cases hp
 |t _ ih=>
  intro q a
  rcases List.mem_cons.1 a with rfl|a
  ·rfl
  ·exact ih q a
 |c hp _ ih=>
  intro q a
  rcases List.mem_cons.1 a with rfl|a
  ·exact hp
  ·exact ih q a
structure xu (P:Program) (ap:AP):Prop where
 apok:dn P ap
 mixed:P.follows .mixedOrders=true
 fnok:zS P ap
theorem Az {P:Program} {ap:AP} (g:xu P ap) {lf n:Nat} {ans:List (fP × List aJ)} {ps:List Prop} {f:Nat} {args:List AV} {h a:List aJ} {out:fP} (hp:Dv ps)
  (he:jH ap (uY P ap lf n) lf .dead f args h ⟨true,[],[],[],ans,[]⟩= .ok (out,a,.dead) ⟨true,[],[],ps,[],[]⟩):ae P ap f args h out a:=by
 obtain ⟨d,c⟩:=gI g.apok g.mixed g.fnok lf n
 exact (nZ g.apok g.mixed g.fnok d c lf _ f args h out a .dead _ he ⟨fun b e=>(by cases e),hp.mem⟩).2
end AM
namespace AM
open Go Go.ChangeShapes Go.WideShapes Go.ChangeAt Go.RowKit
def kZ:Lit→Value
 | .int k n=> .int k n
 | .bool b=> .bool b
 | .string s=> .string ⟨s.toArray⟩
 |_=> .nilFunc
def Ei:Lit→AV
 | .int k n=> .int k n
 | .bool b=> .bool b
 | .string s=> .str s
 |_=> .dead
def yK:Lit→Bool
 | .int _ _=>true
 | .bool _=>true
 | .string _=>true
 |_=>false
def Ej (f:TypeId→DataW Unit→Nat→Option (List (Nat × Lit))):List (TypeId × Nat)→List (DataW Unit)→Option (List (Nat × Lit))
 | [],[]=>some []
 |(t,o)::r,d::ds=>match f t d o,Ej f r ds with
  |some a,some b=>some (a++b)
  |_,_=>none
 |_,_=>none
def je (P:Program):Nat→TypeId→DataW Unit→Nat→Option (List (Nat × Lit))
 |0,_,_,_=>none
 |n+1,t,d,off=>match P.underlying t,d with
  |some (.struct fs),.agg ds=>Ej (je P n) (fs.toList.map fun f=>(f.type,off+f.offset)) ds
  |some (.array m e),.agg ds=>Ej (je P n) ((List.range m).map fun i=>(e,off+i*P.cellsOf e)) ds
  |some (.int _),.lit (.int k n)=>some [(off,.int k n)]
  |some .bool,.lit (.bool b)=>some [(off,.bool b)]
  |some .string,.lit (.string s)=>some [(off,.string s)]
  |_,_=>none
theorem yJ {f:TypeId→DataW Unit→Nat→Option (List (Nat × Lit))}:∀ {ts:List (TypeId × Nat)} {ds:List (DataW Unit)} {l:List (Nat × Lit)},Ej f ts ds=some l→ts.length=ds.length∧∀ x ∈ l,∃ (i:Nat) (t o:Nat) (d:DataW Unit) (a:List (Nat × Lit)),ts[i]? =some (t,o)∧ds[i]? =some d∧f t d o=some a∧x ∈ a
 | [],[],l,h=>by simp [Ej] at h;subst h;simp
 | (t,o)::r,d::ds,l,h=>by
  simp only [Ej] at h
  split at h
  ·rename_i a b m s
   cases h
   obtain ⟨p,j⟩:=yJ s
   refine ⟨by simp [p],fun x c=> ?_⟩
   rcases List.mem_append.1 c with c|c
   ·exact ⟨0,t,o,d,a,rfl,rfl,m,c⟩
   ·obtain ⟨i,e,q,g,a',n,u,v,k⟩:=j x c
    exact ⟨i+1,e,q,g,a',by simpa using n,by simpa using u,v,k⟩
  ·cases h
 | [],_::_,_,h=>by simp [Ej] at h
 |_::_,[],_,h=>by simp [Ej] at h
theorem jQ {P:Program} {w:World} {base:Nat} {L:Nat→Bool} {y:Bool}:∀ (n:Nat) (t:TypeId) (d:DataW Unit) (off:Nat) (l:List (Nat × Lit)),je P n t d off=some l→∀ (c:Nat) (cs:List Value) (p:List MemPlace),DataW.trod (fun _=>()) P w base L y c t cs=some (d,p)→∀ x ∈ l,∃ j,x.1=off+j∧cs[j]? =some (kZ x.2)
 |0,_,_,_,_,h=>by simp [je] at h
 | n +1,t,d,off,l,h=>by
  intro c cs p g x u
  simp only [je] at h
  split at h
  ·rename_i S O r
   cases c with
   |zero=>simp [DataW.trod] at g
   | succ m=>
    simp only [DataW.trod,r] at g
    split at g
    ·obtain ⟨M,hm,o⟩:=Option.map_eq_some_iff.1 g
     simp only [Prod.mk.injEq,DataW.agg.injEq] at o
     obtain ⟨rfl,rfl⟩:=o
     obtain ⟨K,G⟩:=yJ h
     obtain ⟨i,J,Q,R,a,A,v,C,D⟩:=G x u
     rw [List.getElem?_map,Option.map_eq_some_iff] at A
     obtain ⟨f,I,B⟩:=A
     simp only [Prod.mk.injEq] at B
     obtain ⟨rfl,rfl⟩:=B
     obtain ⟨b,F,E⟩:=Lib.mapM_at hm i f I
     rw [List.getElem?_map,F] at v
     simp only [Option.map_some,Option.some.injEq] at v
     subst v
     obtain ⟨j,N,q⟩:=jQ n _ _ _ _ C m _ b.2 E x D
     refine ⟨f.offset+j,by omega, ?_⟩
     rw [List.getElem?_take] at q
     split at q
     ·rwa [List.getElem?_drop] at q
     ·cases q
    ·cases g
  ·rename_i k e O r
   cases c with
   |zero=>simp [DataW.trod] at g
   | succ m=>
    simp only [DataW.trod,r] at g
    split at g
    ·obtain ⟨M,hm,o⟩:=Option.map_eq_some_iff.1 g
     simp only [Prod.mk.injEq,DataW.agg.injEq] at o
     obtain ⟨rfl,rfl⟩:=o
     obtain ⟨K,G⟩:=yJ h
     obtain ⟨i,J,Q,R,a,A,v,C,D⟩:=G x u
     rw [List.getElem?_map,Option.map_eq_some_iff] at A
     obtain ⟨f,I,B⟩:=A
     simp only [Prod.mk.injEq] at B
     obtain ⟨rfl,rfl⟩:=B
     obtain ⟨b,F,E⟩:=Lib.mapM_at hm i f I
     rw [List.getElem?_map,F] at v
     simp only [Option.map_some,Option.some.injEq] at v
     subst v
     obtain ⟨j,N,q⟩:=jQ n _ _ _ _ C m _ b.2 E x D
     refine ⟨f*P.cellsOf e+j,by omega, ?_⟩
     rw [List.getElem?_take] at q
     split at q
     ·rwa [List.getElem?_drop] at q
     ·cases q
    ·cases g
  ·rename_i U k T r
   cases h
   simp at u
   subst u
   obtain ⟨n2,rfl,z,_⟩:=DataW.trod_int r g
   simp only [Prod.mk.injEq,DataW.lit.injEq,Lit.int.injEq] at z
   obtain ⟨⟨rfl,rfl⟩,_⟩:=z
   exact ⟨0,rfl,rfl⟩
  ·rename_i b r
   cases h
   simp at u
   subst u
   cases c with
   |zero=>simp [DataW.trod] at g
   |succ m=>
    unfold DataW.trod at g
    rw [r] at g
    split at g<;>simp_all
    rfl
  ·rename_i s r
   cases h
   simp at u
   subst u
   cases c with
   |zero=>simp [DataW.trod] at g
   |succ m=>
    unfold DataW.trod at g
    rw [r] at g
    split at g<;>simp_all
    obtain ⟨_,rfl,_⟩:=g
    rfl
  ·cases h
theorem sQ {P:Program} {w:World}:∀ {l:List (String × DataW Unit)} {ps:List MemPlace},DataW.LaidVars P w l ps→∀ n d,(n,d) ∈ l→∃ g t cs a p,P.globalNamed n=some g∧(P.globals[g]?).map (·.type)=some t∧w.var? P n=some cs∧DataW.trod (fun _=>()) P w 0 (fun _=>true) false a t cs.toList=some (d,p)
 | [],_,_,n,d,hm=>by cases hm
 | (n',d')::r,ps,h,n,d,hm=>by
  obtain ⟨g,t,cs,a,p,q,f,c,e,i,b,_⟩:=h
  rcases List.mem_cons.1 hm with he|hm
  ·cases he
   exact ⟨g,t,cs,a,p,f,c,e,i⟩
  ·exact sQ b n d hm
theorem FW {P:Program} {W:World} {a:List (String × DataW Unit)} (h:laidMetH P a W) (e:a.filter (fun x=>x.2.handleName?.isSome)= []) {n:String} {d:DataW Unit} (hm:(n,d) ∈ a) {g:Nat} {t:TypeId} (k:P.globalNamed n=some g) (w:(P.globals[g]?).map (·.type)=some t)
  {ls:List Lit} (hl:je P 6 t d 0=some (ls.zipIdx.map fun (l,i)=>(i,l))):∀ (j:Nat) (l:Lit),ls[j]? =some l→W.cell? ⟨g,j,none⟩=some (kZ l):=by
 have c:laidMet P a W:=by
  unfold laidMetH at h
  rw [e] at h
  exact h
 obtain ⟨ps,y,_⟩:=c
 obtain ⟨g',z,cs,b,p,q,o,v,s⟩:=sQ y n d hm
 obtain rfl:=Option.some.inj (k.symm.trans q)
 obtain rfl:=Option.some.inj (w.symm.trans o)
 intro j l u
 obtain ⟨m,f,r⟩:=jQ 6 t d 0 _ hl b cs.toList p s (j,l) (by
  rw [List.mem_map]
  exact ⟨(l,j),by rw [List.mem_zipIdx_iff_getElem?];exact u,rfl⟩)
 have:m=j:=by simp at f;exact f.symm
 subst this
 rw [World.var?_cell k v m]
 simpa using r
def fQ (W:World):ay:=fun k o=>match W.cell? ⟨k,o,none⟩ with|some v=>if v.oneCell' then some v else none|none=>none
theorem BH {W:World} {k o:Nat} {v:Value} (h:W.cell? ⟨k,o,none⟩=some v) (a:v.oneCell'=true):fQ W k o=some v:=by
 unfold fQ;rw [h];simp only;rw [if_pos a]
theorem E9 {W:World} {k o:Nat} {v:Value} (h:fQ W k o=some v):bK W k o=some v:=by
 unfold fQ at h
 split at h
 ·rename_i c a
  split at h
  ·rename_i b;cases h;exact mg a b
  ·cases h
 ·cases h
theorem Dz (S:ay):∀ (ls:List Lit),ls.all yK=true→aZ S (ls.map Ei) (ls.map kZ)
 | [],_=>by simp [aZ]
 |l::r,h=>by
  simp only [List.all_cons,Bool.and_eq_true] at h
  simp only [List.map_cons,aZ]
  refine ⟨?_,Dz S r h.2⟩
  cases l<;>simp only [Ei,kZ,PR]<;>first|rfl|(exact absurd h.1 (by simp [yK]))
theorem FY {l:Lit} (h:yK l=true):(kZ l).oneCell'=true:=by
 cases l<;>first|rfl|(exact absurd h (by simp [yK]))
def JG (ap:AP) (W:World):Prop:=∀ k xs,(ap.gl[k]?).join=some xs→∃ ls:List Lit,xs=ls.map Ei∧ls.all yK=true∧∀ (j:Nat) (l:Lit),ls[j]? =some l→W.cell? ⟨k,j,none⟩=some (kZ l)
theorem Oh {ap:AP} {W:World} (h:JG ap W):jD ap (fQ W):=by
 intro k g i
 obtain ⟨f,rfl,b,e⟩:=h k g i
 refine ⟨f.map kZ,Dz _ _ b, ?_⟩
 intro j u a
 rw [List.getElem?_map,Option.map_eq_some_iff] at a
 obtain ⟨l,c,rfl⟩:=a
 have d:=FY (List.all_eq_true.1 b l (List.mem_of_getElem? c))
 refine ⟨?_,d⟩
 rw [Nat.zero_add]
 exact BH (e j l c) d
theorem RN {P:Program} {ap:AP} {f:Nat} {args:List AV} {b:Bool} (g:ae P ap f args [] (.ret (.bool b)) []) {W:World} (l:JG ap W) {cargs:List Value} (m:aZ (fQ W) args cargs):
  Calls P f cargs.toArray W fun e W'=>e= .returned (.bool b)∧Below W.heap.size W W':=by
 have i:aV ap (aC []) (fun _=>(0,0)) (fQ W) W:=
  ⟨fun b n B B' h=>by simp [aC] at h,fun b B h=>by simp [aC] at h,fun k o v h=>E9 h,fun b B h=>by simp [aC] at h,Oh l⟩
 refine (g.calls (fun _=>(0,0)) (fQ W) W cargs i (aX _ m)).mono ?_
 rintro e W' ⟨m',S',hF⟩
 obtain ⟨_,a,c⟩:=hF
 obtain ⟨cv,rfl,d⟩:=c
 simp only [qL,VR,PR] at d
 subst d
 exact ⟨rfl,a.os,a.tape,a.output,a.size,fun k j=>a.rest k j fun b B h=>by simp [aC] at h⟩
def xh (P:Program) (ts:List TypeId):Bool:=ts.all fun t=>P.readableRec t && decide (t<P.types.size)
theorem qH {H:Type} {enc:TypeId × Value→H} {P:Program} (c:laidOutB P=true) {W W':World} {b:Nat→Bool}:∀ {ts:List TypeId} {vs:List Value} {ds:List (DataW H)} {ps:List MemPlace},xh P ts=true→DataW.TrodAll enc P W 0 (fun _=>true) true ts vs ds ps→(∀ p ∈ ps,W.sameAt W' p)→(∀ p ∈ ps,b p.block=true)→DataW.TrodAll enc P W' 0 b true ts vs ds ps
 | [],vs,ds,ps,_,h,_,_=>by
  obtain ⟨rfl,rfl,rfl⟩:=trodAll_nil h
  rfl
 |t::ts,vs,ds,ps,hf,h,hs,hsp=>by
  obtain ⟨v,i,d,f,p,q,rfl,rfl,rfl,g,e⟩:=trodAll_cons h
  simp only [xh,List.all_cons,Bool.and_eq_true,decide_eq_true_eq] at hf
  exact trodAll_cons_mk (WideElems.Trod_stays c hf.1.1 hf.1.2 g (fun x a=>hs x (by simp [a])) (fun x a=>hsp x (by simp [a]))) (qH c (by simpa [xh] using hf.2) e (fun x a=>hs x (by simp [a])) (fun x a=>hsp x (by simp [a])))
theorem V5 {H:Type} {enc:TypeId × Value→H} {P:Program} {f:Func} {s:ChangeSpec} {apart fresh handsOn again:Bool} {W W':World} {args:Array Value} {g m:List (DataW H)} {before:List MemPlace} (u:laidOutB P=true) (y:xh P f.params.toList=true)
  (hW:DataW.Whole enc P f.params.toList s.vars apart W args.toList g m before) (hvars:s.vars= []) {tb:TypeId} (hr:f.resultTypes=#[tb]) (htb:P.underlying tb=some .bool) (hfn:s.fn H (g++m)={results:= [.lit (.bool true)],args:=g,vars:= []})
  (hb:Below W.heap.size W W'):s.post enc P f apart fresh handsOn again W args (.bool true) W':=by
 have e:∀ p ∈ before,p.block<W.heap.size:=fun p hp=>hW.lt p hp
 have d:∀ p ∈ before,(fun b=>decide (b<W.heap.size)) p.block=true:=fun p hp=>by simpa using hW.lt p hp
 have i:=hW
 obtain ⟨p,q,w,n,rfl,r,o⟩:=hW
 rw [hvars] at n
 obtain ⟨rfl,rfl⟩:=trodVars_none n
 simp only [List.append_nil] at e d r o i hfn ⊢
 have hargs:∀ a:Nat→Bool,(∀ x ∈ p,a x.block=true)→DataW.TrodAll enc P W' 0 a true f.params.toList args.toList (s.fn H g).args p:=by
  intro a l
  rw [hfn]
  exact qH u y w (fun x k=>hb.same (e x k)) l
 have c:∀ (b:Nat) (a:Nat→Bool) (t:Bool),DataW.TrodAll enc P W' b a t f.resultTypes.toList ((Value.bool true).resultList f.resultTypes.size) (s.fn H g).results []:=by
  intro b a t
  rw [hfn,hr]
  exact trodAll_cons_mk (p:= []) (shut_bool htb true) trodAll_mk0
 have h:∀ a:Nat→Bool,DataW.TrodVars enc P W' a s.vars (s.fn H g).vars []:=by
  intro a
  rw [hvars,hfn]
  rfl
 refine ⟨g,[],p,[],p,[],i,by rw [List.append_nil];exact c _ _ _,by rw [List.append_nil];exact hargs _ d,by rw [List.append_nil];exact h _,World.keptBut_mono (fun x k=>k) (hb.frame _),fun _=> ?_⟩
 refine ⟨ok_one hr rfl (okWide_bool_mk htb _),_,_,([]++p)++ [],⟨[]++p,[],trodAll_append (hargs _ (fun _ _=>rfl)) (c _ _ _),by simpa using h _,rfl, ?_, ?_⟩, ?_⟩
 ·intro b j hp
  have hp':MemPlace.cell b j ∈ p:=by simpa using hp
  rw [hb.frozen (e _ hp')]
  exact r b j hp'
 ·intro v
  simpa using o v
 ·intro x k _
  simpa using k
end AM
