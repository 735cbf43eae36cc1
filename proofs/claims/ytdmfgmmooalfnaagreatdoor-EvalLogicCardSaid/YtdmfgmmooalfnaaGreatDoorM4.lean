/- The abstract machine over the code of the model, and the proof that it is sound. No conditions. -/
import Derived.Test.YtdmfgmmooalfnaaGreatDoorM3
import Derived.Recover
import Derived.ProofKit
import Derived.OpenShut
import Derived.LaidLaws
import Derived.LaidSub
import Derived.Lib.LaidTab
set_option linter.unusedSimpArgs false
set_option linter.unusedVariables false
namespace AM
open Go
theorem wQ {α:Type} {P:Program} {w:World} (f:α→Sem Value):∀ (l:List α) (vs:List Value),l.length=vs.length→(∀ (i:Nat) (x:α) (v:Value),l[i]? =some x→vs[i]? =some v→(f x).run P w= .ok v w)→(l.mapM f).run P w= .ok vs w
 | [],[],_,_=>rfl
 |a::l,v::vs,hl,h=>by
  rw [List.mapM_cons,Sem.run_bind,h 0 a v rfl rfl,Result.andThen_ok,Sem.run_bind,wQ f l vs (by simpa using hl) fun i x u b c=>h (i+1) x u (by simpa using b) (by simpa using c),Result.andThen_ok]
  rfl
 | [],_::_,hl,_=>by simp at hl
 |_::_,[],hl,_=>by simp at hl
def Md (tmps:Array Value):ResultVar→Sem Value
 | .tmp t=>pure (tmps.getD t undef)
 | .cell a t=>do loadVar t (← asAddr (tmps.getD a undef))
def Xl (vs:List Value):Value:=match vs with| [v]=>v|vs=> .tuple vs.toArray
theorem O0 (a:Func) (tmps:Array Value):results a tmps=(do let vs ← a.results.mapM (Md tmps);pure (if h:vs.size=1 then vs[0] else .tuple vs)):=by
 unfold results
 congr 2
theorem BN {P:Program} {w:World} {a:Func} {tmps:Array Value} {vs:List Value} (b:a.results.toList.length=vs.length)
  (h:∀ (i:Nat) (r:ResultVar) (v:Value),a.results.toList[i]? =some r→vs[i]? =some v→(Md tmps r).run P w= .ok v w):
  (results a tmps).run P w= .ok (Xl vs) w:=by
 rw [O0,Array.mapM_eq_mapM_toList]
 simp only [bind_map_left]
 rw [Sem.run_bind,wQ _ _ vs b h,Result.andThen_ok]
 match vs with
 | []=>rfl
 | [v]=>rfl
 |_::_::_=>simp [Xl]
theorem MH {S:aV} {m:aX} {rd c:dE} {w:World} (h:∀ b B,rd b=some B→c b=some B):oP (dG S m rd w) (dG S m c w):=by
 intro k o v a
 unfold dG at a ⊢
 split at a
 ·rename_i u i;exact a
 ·rename_i i
  split at a
  ·rename_i e
   obtain ⟨b,B,f,d,g⟩:=e
   rw [if_pos ⟨b,B,h b B f,d,g⟩]
   exact a
  ·cases a
def cl (rd:dE) (v:AV):List Nat:=t_ rd 6 (iV (dP v))
inductive GL (base:Nat) (rd:dE) (all:List Nat):AV→AV→Prop
 |own {b n:Nat} {B:aZ}:rd b=some B→base≤b→B.fro=false→B.pr=true→fK all b=1→0<B.esz→GL base rd all (.ref b B.ver 0 n) (.own (B.cells.take (n*B.esz)) n B.esz)
 |low {v:AV}:(∀ b ∈ dP v,b<base)→GL base rd all v v
 |frz {v v':AV}:(∀ b ∈ cl rd v,base≤b)→frz (fun b=>match su (cl rd v) b with|true=>rd b|false=>none) 6 v=some v'→GL base rd all v v'
theorem Tj {base:Nat} {rd:dE} {v a:AV} (h:ZZ base rd v=some a):(∀ b ∈ cl rd v,base≤b)∧frz (fun b=>match su (cl rd v) b with|true=>rd b|false=>none) 6 v=some a:=by
 unfold ZZ at h
 dsimp only at h
 split at h
 ·rename_i d
  exact ⟨fun b c=>fP (List.all_eq_true.1 d b c),h⟩
 ·cases h
theorem Hm {base:Nat} {rd:dE} {all:List Nat} {v a:AV} (h:(match (dP v).all (fun b=>Nat.blt b base) with|true=>some v|false=>ZZ base rd v)=some a):GL base rd all v a:=by
 split at h
 ·rename_i f
  cases h
  exact .low fun b c=>fQ (List.all_eq_true.1 f b c)
 ·obtain ⟨e,d⟩:=Tj h
  exact .frz e d
theorem yN {base:Nat} {rd:dE} {all:List Nat} {v d:AV} (h:rZ base rd all v=some d):GL base rd all v d:=by
 unfold rZ at h
 dsimp only at h
 split at h
 ·rename_i b ver n
  split at h
  ·rename_i B k
   split at h
   ·rename_i c
    cases h
    simp only [Bool.and_eq_true,Bool.not_eq_true'] at c
    obtain ⟨⟨⟨⟨⟨e,a⟩,j⟩,g⟩,f⟩,i⟩:=c
    have a:=aN a
    subst a
    exact .own k (fP e) j g (aN f) (fQ i)
   ·exact Hm h
  ·cases h
 ·exact Hm h
theorem vK {l:List Nat} {b:Nat} (h:b ∈ l):1≤fK l b:=by
 unfold fK
 have:b ∈ l.filter (Nat.beq b):=by rw [List.mem_filter];exact ⟨h,Nat.beq_refl b⟩
 exact List.length_pos_of_mem this
theorem rV {l a:List Nat} {b:Nat}:fK (l++a) b=fK l b+fK a b:=by simp [fK,List.filter_append]
theorem zU {α:Type} {f:α→List Nat} {b:Nat}:∀ (vs:List α) (i j:Nat) (v v':α),vs[i]? =some v→vs[j]? =some v'→i ≠ j→b ∈ f v→b ∈ f v'→2≤fK (vs.flatMap f) b
 | [],i,j,v,v',h,_,_,_,_=>by simp at h
 | a::r,i,j,v,v',hi,hj,hne,hb,hb'=>by
  have c:∀ (k:Nat) (u:α),r[k]? =some u→b ∈ f u→1≤fK (r.flatMap f) b:=by
   intro k u d e
   exact vK (List.mem_flatMap.2 ⟨u,List.mem_of_getElem? d,e⟩)
  rw [List.flatMap_cons,rV]
  cases i with
  |zero=>
   simp at hi;subst hi
   cases j with
   |zero=>exact absurd rfl hne
   |succ j=>have:=c j v' (by simpa using hj) hb';have:=vK hb;omega
  | succ i=>
   cases j with
   |zero=>simp at hj;subst hj;have:=c i v (by simpa using hi) hb;have:=vK hb';omega
   |succ j=>
    have:=zU r i j v v' (by simpa using hi) (by simpa using hj) (by omega) hb hb'
    omega
def kH:List AV→List AV→List (Nat × aZ)
 |v::r,.own xs _ esz::q=>(match v with| .ref b _ _ _=> [(b,Ju xs esz)]|_=> [])++kH r q
 |_::r,_::q=>kH r q
 |_,_=> []
theorem jf {v x:AV} {r q:List AV} (h:∀ xs k e,x ≠ .own xs k e):kH (v::r) (x::q)=kH r q:=by
 cases x<;>first|rfl|exact absurd rfl (h _ _ _)
section
variable {P:Program} {ap:AP} {base:Nat} {rd:dE} {all:List Nat}
theorem wX {g:dE} {m:aX} {S:aV} {x:AV} {v:Value} (h:VR g m S x v):∀ xs k e,x ≠ .own xs k e:=by
 rintro xs k e rfl;simp [VR] at h
theorem Dz {S:aV} {x:AV} {v:Value} (h:PR S x v):∀ xs k e,x ≠ .own xs k e:=by
 rintro xs k e rfl;simp [PR] at h
end
end AM
namespace AM
open Go
theorem EM {b:Nat}:∀ (l acc:List Nat),(b ∈ l∨b ∈ acc)→b ∈ l.foldl BX acc
 | [],acc,h=>by simpa using h
 | a::r,acc,h=>by
  simp only [List.foldl_cons]
  refine EM r _ ?_
  rcases h with h|h
  ·rcases List.mem_cons.1 h with rfl|h
   ·right
    unfold BX
    split
    ·rename_i c;exact jA.1 c
    ·simp
   ·exact .inl h
  ·right
   obtain h':=h
   unfold BX
   split
   ·exact h
   ·simp [h]
theorem OB {l:List Nat} {b:Nat} (h:b ∈ l):b ∈ iV l:=EM l [] (.inl h)
theorem Jo (l:List Nat):(iV l).Nodup:=(pq l [] (by simp)).1
theorem WT {rd:dE} {v:AV} {b:Nat} (h:b ∈ dP v):b ∈ cl rd v:=by
 obtain ⟨_,t,a⟩:=uu rd 6 (iV (dP v)) (Jo _)
 unfold cl
 rw [a]
 exact List.mem_append.2 (.inl (OB h))
theorem Ap:∀ {vs l:List AV} {b:Nat} {Bo:aZ},(b,Bo) ∈ kH vs l→∃ ver i n xs k e,(AV.ref b ver i n,AV.own xs k e) ∈ vs.zip l∧Bo=Ju xs e
 | [],l,b,Bo,h=>by cases l<;>simp [kH] at h
 |v::r,[],b,Bo,h=>by simp [kH] at h
 | v ::r,x::q,b,Bo,h=>by
  rcases jk x with ⟨xs,k,e,rfl⟩|hx
  ·simp only [kH,List.mem_append] at h
   rcases h with h|h
   ·cases v with
    |ref b' ver i n=>
     simp at h
     obtain ⟨rfl,rfl⟩:=h
     exact ⟨ver,i,n,xs,k,e,by simp,rfl⟩
    |_=>simp at h
   ·obtain ⟨ver,i,n,a,f,e',d,c⟩:=Ap h
    exact ⟨ver,i,n,a,f,e',by simp [d],c⟩
  ·rw [jf hx] at h
   obtain ⟨ver,i,n,a,f,e',d,c⟩:=Ap h
   exact ⟨ver,i,n,a,f,e',by simp [d],c⟩
theorem EZ {rd:dE} {b:Nat}:∀ (vs l:List AV),fK ((kH vs l).flatMap fun q=> [q.1]) b≤fK (vs.flatMap (cl rd)) b
 | [],l=>by cases l<;>simp [kH,fK]
 |v::r,[]=>by simp [kH,fK]
 | v :: r,x::q=>by
  have d:=EZ (rd:=rd) (b:=b) r q
  rw [List.flatMap_cons,rV]
  rcases jk x with ⟨xs,k,e,rfl⟩|hx
  ·simp only [kH,List.flatMap_append,rV]
   cases v with
   | ref b' ver i n=>
    simp only [List.flatMap_cons,List.flatMap_nil,List.append_nil]
    have:fK [b'] b≤fK (cl rd (.ref b' ver i n)) b:=by
     by_cases hb:b=b'
     ·subst hb
      have a:fK [b] b=1:=by simp [fK]
      rw [a]
      exact vK (WT (by simp [dP]))
     ·have a:fK [b'] b=0:=by
       have:Nat.beq b b'=false:=by
        cases c:Nat.beq b b' with
        |false=>rfl
        |true=>exact absurd (aN c) hb
       simp [fK,this]
      omega
    omega
   |_=>simp [fK] at*;omega
  ·rw [jf hx];omega
theorem Fj:∀ (vs l:List AV) (n:Nat),vs.length=l.length→(∀ v x,(v,x) ∈ vs.zip l→(∃ xs k e,x= .own xs k e)→∃ b ver i n,v= .ref b ver i n)→(fD n l).2=(kH vs l).map (·.2)
 | [],[],n,_,_=>by simp [fD,kH]
 | v::r,x::q,n,hl,h=>by
  have c:=fun n=>Fj r q n (by simpa using hl) fun v x d a=>h v x (by simp [d]) a
  rcases jk x with ⟨xs,k,e,rfl⟩|a
  ·obtain ⟨b,ver,i,f,rfl⟩:=h v _ (by simp) ⟨xs,k,e,rfl⟩
   simp only [fD,kH,c]
   simp
  ·rw [bz n a,jf a]
   exact c n
 | [],_::_,_,hl,_=>by simp at hl
 |_::_,[],_,hl,_=>by simp at hl
theorem Jt {rd gh u:dE} {m s:aX} {S S':aV}:∀ (vs l:List AV) (cvs:List Value) (n:Nat),vs.length=l.length→bi rd m S vs cvs→
  (∀ v x,(v,x) ∈ vs.zip l→(∃ xs k e,x= .own xs k e)→∃ b ver n,v= .ref b ver 0 n∧∃ xs e,x= .own xs n e)→
  (∀ v x c,(v,x) ∈ vs.zip l→(∀ xs k e,x ≠ .own xs k e)→VR rd m S v c→VR gh s S' x c)→
  (∀ (k b:Nat) (Bo:aZ),(kH vs l)[k]? =some (b,Bo)→∀ ver i c,VR rd m S (.ref b ver 0 i) c→(∃ xs e,(AV.ref b ver 0 i,AV.own xs i e) ∈ vs.zip l)→VR u s S' (.ref (n+k) 0 0 i) c)→jo gh u s S' n l cvs
 | [],[],[],n,_,_,_,_,_=>by simp [jo]
 | v::r,x::q,c::cs,n,hl,hv,ho,hx,hr=>by
  simp only [bi] at hv
  rcases jk x with ⟨xs,k,e,rfl⟩|hxo
  ·obtain ⟨b,ver,i,rfl,w,e',y⟩:=ho v _ (by simp) ⟨xs,k,e,rfl⟩
   cases y
   simp only [jo]
   refine ⟨?_, ?_⟩
   ·have:=hr 0 b (Ju xs e) (by simp [kH]) ver k c hv.1 ⟨xs,e,by simp⟩
    rwa [Nat.add_zero] at this
   ·refine Jt r q cs (n+1) (by simpa using hl) hv.2 (fun v x f=>ho v x (by simp [f])) (fun v x c f=>hx v x c (by simp [f])) ?_
    intro j o Bo p a d t h g
    have:=hr (j+1) o Bo (by simpa [kH] using p) a d t h (by obtain ⟨xs,e,g⟩:=g;exact ⟨xs,e,by simp [g]⟩)
    rwa [show n+(j+1)=n+1+j by omega] at this
  ·rw [bQ hxo]
   refine ⟨hx v x c (by simp) hxo hv.1, ?_⟩
   refine Jt r q cs n (by simpa using hl) hv.2 (fun v x f=>ho v x (by simp [f])) (fun v x c f=>hx v x c (by simp [f])) ?_
   intro j o Bo p a d t h g
   exact hr j o Bo (by rw [jf hxo];exact p) a d t h (by obtain ⟨xs,e,g⟩:=g;exact ⟨xs,e,by simp [g]⟩)
 | [],_::_,_,_,hl,_,_,_,_=>by simp at hl
 |_::_,[],_,_,hl,_,_,_,_=>by simp at hl
 | [],[],_::_,_,_,hv,_,_,_=>by simp [bi] at hv
 |_::_,_::_,[],_,_,hv,_,_,_=>by simp [bi] at hv
theorem Lt {α β:Type} {f:α→Option β}:∀ {l:List α} {l':List β},jW f l=some l'→∀ x y,(x,y) ∈ l.zip l'→f x=some y
 | [],l',h,x,y,hm=>by simp at hm
 | a::r,l',h,x,y,hm=>by
  simp only [jW] at h
  split at h
  ·rename_i b d
   split at h
   ·rename_i q c
    cases h
    simp only [List.zip_cons_cons,List.mem_cons,Prod.mk.injEq] at hm
    rcases hm with ⟨rfl,rfl⟩|hm
    ·exact d
    ·exact Lt c x y hm
   ·cases h
  ·cases h
theorem RJ {α β:Type} {l:List α} {a:List β} {x:α} {y:β} (h:(x,y) ∈ l.zip a):∃ i:Nat,l[i]? =some x∧a[i]? =some y:=by
 obtain ⟨i,b⟩:=List.mem_iff_getElem?.1 h
 rw [List.getElem?_zip_eq_some] at b
 exact ⟨i,b⟩
theorem YL {g:dE} {m:aX} {S:aV} {l:List AV} {vs:List Value} (h:bi g m S l vs) {x:AV} (a:x ∈ l):∃ v,VR g m S x v:=by
 obtain ⟨i,c⟩:=List.mem_iff_getElem?.1 a
 obtain ⟨v,_,b⟩:=rJ h i c
 exact ⟨v,b⟩
end AM
namespace AM
open Go
section
variable {P:Program} {ap:AP}
theorem xu {h0 F:List aZ} {hp:Hp} {m m0:aX} {S S0:aV} {w w0:World} {vs l:List AV} {cvs:List Value} (V:bT ap (az hp) m S w) (A:Fr (bG h0) m0 S0 w0 (az hp) m S w) (hv:bi (az hp) m S vs cvs)
  {N:Nat} (hN:h0.length≤N) (hl:jW (rZ N (az hp) (vs.flatMap (cl (az hp)))) vs=some l) (hh':jW (az hp) (List.range N)=some F) (hbase:F.all (fun B=>B.pr||(bP B.cells).all fun b=>Nat.blt b N)=true):
  ∃ m' S',bT ap (bG (F++(fD F.length l).2)) m' S' w∧Fr (bG h0) m0 S0 w0 (bG (F++(fD F.length l).2)) m' S' w∧jo (bG F) (bG (F++(fD F.length l).2)) m' S' F.length l cvs:=by
 have X:=(iR hl).1
 have hz:∀ v x,(v,x) ∈ vs.zip l→GL N (az hp) (vs.flatMap (cl (az hp))) v x:=fun v x E=>yN (Lt hl v x E)
 have K:∀ v x,(v,x) ∈ vs.zip l→(∃ xs k e,x= .own xs k e)→∃ (b n:Nat) (B:aZ),v= .ref b B.ver 0 n∧az hp b=some B∧N≤b∧B.fro=false∧B.pr=true∧fK (vs.flatMap (cl (az hp))) b=1∧0<B.esz∧x= .own (B.cells.take (n*B.esz)) n B.esz:=by
  rintro v x E ⟨xs,k,e,rfl⟩
  obtain ⟨c,T⟩:=YL hv (List.of_mem_zip E).1
  generalize hxe:AV.own xs k e=x at E
  cases hz v x E with
  |own a d p t z O=>exact ⟨_,_,_,rfl,a,d,p,t,z,O,rfl⟩
  |low a=>exact absurd hxe.symm (wX T _ _ _)
  |frz a d=>
   refine absurd hxe.symm (Dz (lh V (fun b B g=> ?_) 6 v c x d T) _ _ _)
   split at g
   ·exact g
   ·cases g
 generalize L:kH vs l=obs
 have hbs:∀ n,(fD n l).2=obs.map (·.2):=by
  intro n
  rw [← L]
  refine Fj vs l n X.symm fun v x E W=> ?_
  obtain ⟨b,n',B,a,_⟩:=K v x E W
  exact ⟨b,_,0,n',a⟩
 rw [hbs]
 have C:∀ b Bo,(b,Bo) ∈ obs→∃ (n:Nat) (B:aZ),az hp b=some B∧N≤b∧B.fro=false∧B.pr=true∧fK (vs.flatMap (cl (az hp))) b=1∧0<B.esz∧Bo=Ju (B.cells.take (n*B.esz)) B.esz∧(AV.ref b B.ver 0 n,AV.own (B.cells.take (n*B.esz)) n B.esz) ∈ vs.zip l:=by
  intro b Bo E
  rw [← L] at E
  obtain ⟨ver,i,n,xs,k,e,a,d⟩:=Ap E
  obtain ⟨b',n',B,p,t,z,O,U,R,Y,D⟩:=K _ _ a ⟨xs,k,e,rfl⟩
  cases p
  cases D
  exact ⟨_,B,t,z,O,U,R,Y,d,a⟩
 have hobd:∀ (k k' b:Nat) (Bo Bo':aZ),obs[k]? =some (b,Bo)→obs[k']? =some (b,Bo')→k=k':=by
  intro k k' b Bo Bo' a d
  obtain ⟨n,B,_,_,_,_,z,_⟩:=C b Bo (List.mem_of_getElem? a)
  by_cases s:k=k'
  ·exact s
  ·have p:=zU (f:=fun q:Nat × aZ=> [q.1]) obs k k' _ _ a d s (b:=b) (by simp) (by simp)
   have t:=EZ (rd:=az hp) (b:=b) vs l
   rw [L] at t
   omega
 have hobx:∀ b Bo,(b,Bo) ∈ obs→∀ v x,(v,x) ∈ vs.zip l→(∀ xs k e,x ≠ .own xs k e)→b ∉ cl (az hp) v:=by
  intro b Bo E v x hvx W g
  obtain ⟨n,B,_,_,_,_,z,_,_,O⟩:=C b Bo E
  obtain ⟨i,U,R⟩:=RJ O
  obtain ⟨j,Y,D⟩:=RJ hvx
  have hne:i ≠ j:=by
   rintro rfl
   rw [R] at D
   cases D
   exact W _ _ _ rfl
  have:=zU (f:=cl (az hp)) vs i j _ _ U Y hne (b:=b) (WT (by simp [dP])) g
  omega
 have Z:F.length=N:=by rw [(iR hh').1];simp
 have M:∀ b,b<N→∃ B,az hp b=some B∧bG F b=some B:=by
  intro b g
  obtain ⟨B,a,d⟩:=(iR hh').2 b b (by simp [g])
  exact ⟨B,d,a⟩
 have hlow':∀ b B,bG F b=some B→b<N∧az hp b=some B:=by
  intro b B g
  have G:b<N:=by
   have:=(List.getElem?_eq_some_iff.1 g).1
   omega
  obtain ⟨B',a,d⟩:=M b G
  rw [g] at d;cases d
  exact ⟨G,a⟩
 let rdF:dE:=open Classical in fun b=>if ∃ v x,(v,x) ∈ vs.zip l∧(∀ xs k e,x ≠ .own xs k e)∧b ∈ cl (az hp) v∧∀ y ∈ cl (az hp) v,N≤y then az hp b else none
 have Q:∀ b B,rdF b=some B→az hp b=some B∧N≤b∧∀ Bo,(b,Bo) ∉ obs:=by
  intro b B g
  dsimp only [rdF] at g
  split at g
  ·rename_i T
   obtain ⟨v,x,a,d,p,t⟩:=T
   exact ⟨g,t b p,fun Bo E=>hobx b Bo E v x a d p⟩
  ·cases g
 have r:=nM S m rdF w
 let m':aX:=fun i=>if i<N then m i else m ((obs.map (·.1)).getD (i - N) 0)
 have hm'lo:∀ i,i<N→m' i=m i:=fun i I=>if_pos I
 have hm'hi:∀ (k b:Nat) (Bo:aZ),obs[k]? =some (b,Bo)→m' (N+k)=m b:=by
  intro k b Bo s
  show (if _ then _ else _)=_
  rw [if_neg (by omega),show N+k - N=k by omega,List.getD_eq_getElem?_getD,List.getElem?_map,s]
  rfl
 have hgf:∀ i Bi,bG (F++obs.map (·.2)) i=some Bi→(i<N∧az hp i=some Bi∧bG F i=some Bi)∨(∃ k b,i=N+k∧obs[k]? =some (b,Bi)):=by
  intro i Bi I
  by_cases G:i<N
  ·rw [eQ (by omega)] at I
   exact .inl ⟨G,(hlow' i Bi I).2,I⟩
  ·rw [iQ (by omega),Z] at I
   right
   refine ⟨i - N, ?_⟩
   have hi':(obs.map (·.2))[i - N]? =some Bi:=I
   rw [List.getElem?_map,Option.map_eq_some_iff] at hi'
   obtain ⟨⟨b,Bo⟩,a,d⟩:=hi'
   exact ⟨b,by omega,by rw [a];simp at d;rw [d]⟩
 have hgfk:∀ (k b:Nat) (Bo:aZ),obs[k]? =some (b,Bo)→bG (F++obs.map (·.2)) (N+k)=some Bo:=by
  intro k b Bo s
  rw [iQ (by omega),Z,show N+k - N=k by omega]
  show (obs.map (·.2))[k]? =_
  rw [List.getElem?_map,s];rfl
 have J:∀ i Bi,bG (F++obs.map (·.2)) i=some Bi→∃ b B,az hp b=some B∧m' i=m b∧((i<N∧b=i∧Bi=B)∨(N≤b∧∃ k,i=N+k∧obs[k]? =some (b,Bi))):=by
  intro i Bi I
  rcases hgf i Bi I with ⟨a,d,p⟩|⟨k,b,rfl,s⟩
  ·exact ⟨i,Bi,d,hm'lo i a,.inl ⟨a,rfl,rfl⟩⟩
  ·obtain ⟨n,B,a,d,_⟩:=C b Bi (List.mem_of_getElem? s)
   exact ⟨b,B,a,hm'hi k b Bi s,.inr ⟨d,k,rfl,s⟩⟩
 refine ⟨m',dG S m rdF w, ?_, ?_, ?_⟩
 ·refine ⟨?_, ?_,fun k o v h=>pW V h, ?_, ?_⟩
  ·intro i j Bi Bj I hj e
   obtain ⟨b,B,a,d,p⟩:=J i Bi I
   obtain ⟨b',B',h1',h2',h3'⟩:=J j Bj hj
   rw [d,h2'] at e
   have:=V.inj b b' B B' a h1' e
   subst this
   rcases p with ⟨t,rfl,_⟩|⟨t,k,rfl,s⟩<;>rcases h3' with ⟨h4',rfl,_⟩|⟨h4',k',rfl,hk'⟩
   ·rfl
   ·omega
   ·omega
   ·rw [hobd k k' b _ _ s hk']
  ·intro i Bi I
   rcases hgf i Bi I with ⟨a,d,p⟩|⟨k,b,rfl,s⟩
   ·rw [hm'lo i a]
    obtain ⟨⟨cur,e,us,rest,k1,k2,k3,k4,k5,k6⟩,k7,k8⟩:=V.blk i Bi d
    refine ⟨⟨cur,e,us,rest,k1,k2,fun hp=>dm r _ (k3 hp), ?_,k5,k6⟩,k7,k8⟩
    cases hpr:Bi.pr with
    |true=>exact bV _ (dm r _ (k3 hpr))
    |false=>
     refine nD r _ (fun b g=> ?_) k4
     have z:=List.all_eq_true.1 hbase Bi (List.mem_of_getElem? p)
     rw [hpr] at z
     simp only [Bool.false_or] at z
     have O:=fQ (List.all_eq_true.1 z b g)
     obtain ⟨B,U,R⟩:=M b O
     exact ⟨by rw [eQ (by omega),R,U],hm'lo b O⟩
   ·obtain ⟨n,B,a,d,p,t,z,O,rfl,_⟩:=C b Bi (List.mem_of_getElem? s)
    rw [hm'hi k b _ s]
    obtain ⟨⟨cur,e,us,rest,k1,k2,k3,k4,k5,k6⟩,k7,k8⟩:=V.blk b B a
    have hp:=dm r _ (jY (n*B.esz) (k3 t))
    refine ⟨⟨cur,e,us.take (n*B.esz),us.drop (n*B.esz)++rest,k1, ?_,fun _=>hp,bV _ hp,fun hz u hu=>k5 hz u (List.mem_of_mem_take hu),k6⟩,fun _=>rfl,Nat.zero_le _⟩
    rw [← List.append_assoc,List.take_append_drop];exact k2
  ·intro i Bi I o v ho
   obtain ⟨b,B,a,d,p⟩:=J i Bi I
   rw [d] at ho
   have hno:rdF b=none:=by
    cases hr:rdF b with
    |none=>rfl
    |some B'=>
     obtain ⟨_,t,z⟩:=Q b B' hr
     rcases p with ⟨O,rfl,_⟩|⟨_,k,_,s⟩
     ·omega
     ·exact absurd (List.mem_of_getElem? s) (z _)
   have hSo:S (m b).1 o=some v:=by
    rcases fE ho with h|⟨_,b',B',t,z,_⟩
    ·exact h
    ·have:=V.inj b' b B' B (Q b' B' t).1 a z
     subst this
     rw [hno] at t;cases t
   obtain ⟨U,R⟩:=V.own b B a o v hSo
   rcases p with ⟨_,rfl,rfl⟩|⟨_,k,_,s⟩
   ·exact ⟨U,R⟩
   ·obtain ⟨n,B2,Y,_,D,_⟩:=C b _ (List.mem_of_getElem? s)
    rw [a] at Y;cases Y
    rw [U] at D;cases D
  ·intro k xs s
   obtain ⟨us,a,d⟩:=V.glob k xs s
   exact ⟨us,dm r _ a,d.mono r⟩
 ·refine ⟨?_,A.sle.trans r,A.os,A.tape,A.output,A.size,A.rest, ?_, ?_⟩
  ·intro b B0 g
   have G:b<N:=Nat.lt_of_lt_of_le (List.getElem?_eq_some_iff.1 g).1 hN
   obtain ⟨B,a,d,p⟩:=A.ge b B0 g
   obtain ⟨B',t,z⟩:=M b G
   rw [a] at t;cases t
   exact ⟨B,by rw [eQ (by omega)];exact z,d,by rw [hm'lo b G];exact p⟩
  ·intro i Bi I
   obtain ⟨b,B,a,d,p⟩:=J i Bi I
   rw [d]
   rcases A.img b B a with h|⟨B0,t,z⟩
   ·exact .inl h
   ·have G:b<N:=Nat.lt_of_lt_of_le (List.getElem?_eq_some_iff.1 t).1 hN
    rcases p with ⟨_,rfl,_⟩|⟨O,_⟩
    ·exact .inr ⟨B0,t,z⟩
    ·omega
  ·intro k o v hv
   rcases fE hv with h|⟨_,b,B,a,d,_⟩
   ·exact A.sealN k o v h
   ·obtain ⟨p,t,_⟩:=Q b B a
    rcases A.img b B p with h|⟨B0,z,_⟩
    ·exact .inr (.inl (d ▸ h))
    ·have:=(List.getElem?_eq_some_iff.1 z).1
     omega
 ·rw [Z]
  refine Jt (rd:=az hp) (m:=m) (S:=S) vs l cvs N X.symm hv ?_ ?_ ?_
  ·intro v x E W
   obtain ⟨b,n,B,a,_,_,_,_,_,_,d⟩:=K v x E W
   exact ⟨b,B.ver,n,a,_,_,d⟩
  ·intro v x c E W T
   cases hz v x E with
   |own _ _ _ _ _ _=>exact absurd rfl (W _ _ _)
   |low a=>
    refine x_ r v (fun b g=> ?_) T
    obtain ⟨B,d,p⟩:=M b (a b g)
    exact ⟨by rw [p,d],hm'lo b (a b g)⟩
   | frz a d=>
    have p:=lh V (fun b B g=>by split at g;exact g;cases g) 6 v c x d T
    refine gX x (dn (MH fun b B g=> ?_) x p)
    split at g
    ·rename_i hm2
     dsimp only [rdF]
     rw [if_pos ⟨v,x,E,W,jA.1 hm2,a⟩]
     exact g
    ·cases g
  ·rw [L]
   intro k b Bo s ver n' c T hzz
   obtain ⟨n,B,a,d,p,t,z,O,rfl,U⟩:=C b Bo (List.mem_of_getElem? s)
   obtain ⟨xs,e,hzz⟩:=hzz
   have hver:ver=B.ver:=by
    obtain ⟨b2,n2,B2,e1,e2,_⟩:=K _ _ hzz ⟨xs,_,e,rfl⟩
    cases e1
    rw [a] at e2;cases e2;rfl
   subst hver
   simp only [VR] at T ⊢
   obtain ⟨B',R,_,Y,D⟩:=T
   rw [a] at R;cases R
   refine ⟨_,hgfk k b _ s,Nat.zero_le _,Y,fun _=> ?_⟩
   rw [hm'hi k b _ s]
   exact D rfl
end
end AM
namespace AM
open Go
section
variable {P:Program} {ap:AP}
theorem Gy (n:iF P ap) {env:iI} {hp:Hp} {m:aX} {S:aV} {w:World} {tmps:Array Value} (D:bT ap (az hp) m S w) (s:∀ t,VR (az hp) m S (env.get t) (tmps.getD t undef)) {r:ResultVar} {v:AV} {bs:List Bool}
  (h:zn ap env hp r=some (v,bs)) (hbs:∀ b ∈ bs,b=true):∃ cv,(Md tmps r).run P w= .ok cv w∧VR (az hp) m S v cv:=by
 cases r with
 |tmp t=>
  simp only [zn,Option.some.injEq,Prod.mk.injEq] at h
  obtain ⟨rfl,rfl⟩:=h
  exact ⟨_,rfl,s t⟩
 | cell a t=>
  simp only [zn] at h
  have A:=bind_some h;clear h;obtain ⟨I,p,h⟩:=A
  simp only [Option.map_eq_some_iff] at h
  obtain ⟨⟨J,ups,E⟩,j,y⟩:=h
  simp only [Prod.mk.injEq] at y
  obtain ⟨rfl,rfl⟩:=y
  obtain ⟨i,d,z,C⟩:=dO n p
  have c:=s a
  obtain ⟨_,cv,u,F⟩:=Bl D (fun b B G=>G) C c j hbs
  refine ⟨cv, ?_,F⟩
  have g:∃ x,tmps.getD a undef= .pointer (some x):=by
   unfold Lr at j
   split at j
   ·rename_i xs l f
    rw [f] at c
    simp only [VR,PR] at c
    obtain ⟨b,o,vs,e,_⟩:=c
    exact ⟨_,e⟩
   ·rename_i b ver l f
    rw [f] at c
    simp only [VR] at c
    obtain ⟨B,_,_,⟨k,o,e⟩,_⟩:=c
    exact ⟨_,e⟩
   ·cases j
  obtain ⟨x,q⟩:=g
  rw [q] at u
  simp only [Md,q]
  exact u
theorem qo (a:iF P ap) {env:iI} {hp:Hp} {m:aX} {S:aV} {w:World} {tmps:Array Value} (g:bT ap (az hp) m S w) (f:∀ t,VR (az hp) m S (env.get t) (tmps.getD t undef)):
  ∀ {rs:List ResultVar} {vs:List (AV × List Bool)},jW (zn ap env hp) rs=some vs→(∀ b ∈ vs.flatMap (·.2),b=true)→∃ cvs:List Value,rs.length=cvs.length∧bi (az hp) m S (vs.map (·.1)) cvs∧∀ (i:Nat) (r:ResultVar) (v:Value),rs[i]? =some r→cvs[i]? =some v→(Md tmps r).run P w= .ok v w
 | [],vs,h,_=>by
  simp [jW] at h
  subst h
  exact ⟨[],rfl,by simp [bi],fun i r v h=>by simp at h⟩
 | r::rs,vs,h,hbs=>by
  simp only [jW] at h
  split at h
  ·rename_i q k
   split at h
   ·rename_i l u
    cases h
    obtain ⟨v,bs⟩:=q
    obtain ⟨cv,n,j⟩:=Gy a g f k (fun b e=>hbs b (by simp [e]))
    obtain ⟨cvs,y,p,o⟩:=qo a g f u (fun b e=>hbs b (by rw [List.flatMap_cons];exact List.mem_append.2 (.inr e)))
    refine ⟨cv::cvs,by simp [y],by simp only [List.map_cons,bi];exact ⟨j,p⟩, ?_⟩
    intro i s x d c
    cases i with
    |zero=>simp at d c;subst d;subst c;exact n
    |succ i=>exact o i s x (by simpa using d) (by simpa using c)
   ·cases h
  ·cases h
theorem UV {gh d:dE} {m:aX} {S:aV} {n:Nat} {x:AV} {v:Value} (h:jo gh d m S n [x] [v]):BV gh d m S n x v∧(lu n x).2=(fD n [x]).2:=by
 rcases jk x with ⟨xs,k,e,rfl⟩|hx
 ·simp only [jo] at h
  exact ⟨h.1,rfl⟩
 ·rw [bQ hx] at h
  rcases AU x with ⟨l,rfl⟩|ht
  ·have g:=h.1
   simp only [VR] at g
   obtain ⟨vs,rfl,i⟩:=g
   have key:∀ (l:List AV) (vs:List Value) (n:Nat),bi gh m S l vs→jo gh d m S n l vs∧(fD n l).2= []:=by
    intro l
    induction l with
    |nil=>intro vs n a;cases vs with
     |nil=>exact ⟨by simp [jo],rfl⟩
     |cons _ _=>simp [bi] at a
    | cons y r ih=>intro vs n a;cases vs with
     |nil=>simp [bi] at a
     |cons u us=>
      simp only [bi] at a
      have b:=wX a.1
      obtain ⟨f,c⟩:=ih us n a.2
      rw [bQ b,bz n b]
      exact ⟨⟨a.1,f⟩,c⟩
   obtain ⟨f,c⟩:=key l vs n i
   refine ⟨?_, ?_⟩
   ·simp only [BV]
    exact ⟨vs,rfl,f⟩
   ·simp only [lu,fD]
    exact c
  ·rw [kW hx ht,iZ n hx ht,bz n hx]
   exact ⟨h.1,rfl⟩
theorem wo (rd:dE) (n:Nat):n≤Uy rd n:=by
 obtain ⟨_,t,a⟩:=uu rd 20 (List.range n) List.nodup_range
 unfold Uy
 rw [a,List.length_append,List.length_range]
 exact Nat.le_add_right _ _
theorem lH (r:iF P ap) {k n:List aZ} {G:Func} {env:iI} {hp:Hp} {m m0:aX} {S S0:aV} {w w0:World} {tmps:Array Value} {c K:Cx} {out:jU} (h:vX ap k.length G env hp c= .ok (out,n) K) (I:K.Ok):
  c.Ok∧k.length≤n.length∧(bT ap (az hp) m S w→Fr (bG k) m0 S0 w0 (az hp) m S w→(∀ t,VR (az hp) m S (env.get t) (tmps.getD t undef))→
   ∃ cv,(results G tmps).run P w= .ok cv w∧∃ s S',Gl ap k m0 S0 w0 out n s S' w (.returned cv)):=by
 unfold vX at h
 dsimp only at h
 split at h
 ·rename_i vs L u b
  split at h
  ·cases h
  ·rename_i hbase
   obtain ⟨_,M,J,h⟩:=R.bind_ok h
   split at h
   ·rename_i v f
    cases h
    obtain ⟨g,d⟩:=IQ J I
    have hlen':k.length≤n.length:=by rw [(iR b).1];simpa using wo _ _
    refine ⟨g,hlen',fun o i C=> ?_⟩
    obtain ⟨cvs,A,p,D⟩:=qo r o C u d
    have a:(vs.flatMap fun q=>t_ (az hp) 6 (iV (dP q.1)))=(vs.map (·.1)).flatMap (cl (az hp)):=by rw [List.flatMap_map];rfl
    rw [a] at f
    obtain ⟨s,S',z,y,E⟩:=xu o i p (wo _ _) f b hbase
    have B:cvs.length=1:=by
     have:=bU p
     have e:=(iR f).1
     simp at e this
     omega
    match cvs,B with
    | [cv],_=>
     obtain ⟨e,F⟩:=UV E
     refine ⟨cv,BN A D,s,S', ?_⟩
     rw [← F] at z y
     refine ⟨z,y,cv,rfl, ?_⟩
     rw [F]
     exact e
   ·rename_i l j f
    cases h
    obtain ⟨g,d⟩:=IQ J I
    have hlen':k.length≤n.length:=by rw [(iR b).1];simpa using wo _ _
    refine ⟨g,hlen',fun o i C=> ?_⟩
    obtain ⟨cvs,A,p,D⟩:=qo r o C u d
    have a:(vs.flatMap fun q=>t_ (az hp) 6 (iV (dP q.1)))=(vs.map (·.1)).flatMap (cl (az hp)):=by rw [List.flatMap_map];rfl
    rw [a] at f
    obtain ⟨s,S',z,y,E⟩:=xu o i p (wo _ _) f b hbase
    have x:Xl cvs= .tuple cvs.toArray:=by
     match cvs with
     | []=>rfl
     | [cv]=>
      exfalso
      have:=bU p
      have e:=(iR f).1
      simp at e this
      match l,j with
      | [],_=>simp at e;omega
      | [v],j=>exact j v rfl
      |_::_::_,_=>simp at e;omega
     |_::_::_=>rfl
    refine ⟨_,BN A D,s,S',z,y, ?_⟩
    rw [x]
    exact ⟨_,rfl,cvs,rfl,E⟩
   ·cases h
 ·cases h
theorem zg {a i:List aZ} {v:AV} {hp:Hp} {m m0:aX} {S S0:aV} {w w0:World} {c x:Cx} {out:jU} (h:Jw a.length v hp c= .ok (out,i) x):
  c=x∧a.length≤i.length∧(bT ap (az hp) m S w→Fr (bG a) m0 S0 w0 (az hp) m S w→∀ cv,VR (az hp) m S v cv→(∀ b ver n,v ≠ .ref b ver 0 n)→
   ∃ u S',Gl ap a m0 S0 w0 out i u S' w (.panicked [{v:=cv,recovered:=false}])):=by
 unfold Jw at h
 dsimp only at h
 split at h
 ·rename_i r C g d
  split at h
  ·cases h
  ·rename_i hbase
   cases h
   have hlen':a.length≤i.length:=by rw [(iR d).1];simpa using wo _ _
   refine ⟨rfl,hlen',fun y t cv j q=> ?_⟩
   have z:jW (rZ (Uy (az hp) a.length) (az hp) ([v].flatMap (cl (az hp)))) [v]=some [r]:=by
    simp only [List.flatMap_cons,List.flatMap_nil,List.append_nil,jW]
    have A:rZ (Uy (az hp) a.length) (az hp) (cl (az hp) v) v=some r:=g
    rw [A]
   obtain ⟨u,S',o,l,s⟩:=xu y t (vs:= [v]) (cvs:= [cv]) (by simp only [bi];exact ⟨j,trivial⟩) (wo _ _) z d hbase
   have f:∀ xs k e,r ≠ .own xs k e:=by
    rintro xs k e rfl
    cases yN g with
    |own h1 h2 h3 o l s=>exact q _ _ _ rfl
    |low h1=>exact wX j _ _ _ rfl
    |frz h1 h2=>
     exact Dz (lh y (fun b B p=>by split at p;exact p;cases p) 6 v cv _ h2 j) _ _ _ rfl
   rw [bQ f] at s
   rw [bz _ f] at o l
   exact ⟨u,S',o,l,cv,rfl,s.1⟩
 ·cases h
end
end AM
namespace AM
open Go
def tJ (S:aV):AV→FrameMode→Prop
 | .nilI,u=>u= .returning
 | .ifc t v,u=> ∃ cv,u= .panicking [{v:=cv,recovered:=false}]∧PR S (.ifc t v) cv
 |_,_=>False
def Nu (md md':AV) (u u':FrameMode):Prop:=(md'=md∧u'=u)∨(md'= .nilI∧settle u'= .returning)
structure YF (P:Program) (ap:AP) (f:Nat) (args:List AV) (h:List aZ) (out:jU) (h':List aZ) (md md':AV):Prop where
 ent:Dv P f
 calls:∀ m S w cargs u,bT ap (bG h) m S w→bi (bG h) m S args cargs→tJ S md u→CallsD P f cargs.toArray u w fun e u' w'=>(∃ m' S',Gl ap h m S w out h' m' S' w' e)∧Nu md md' u u'
def vG (P:Program) (ap:AP) (H:di):Prop:=∀ c md f args h out h' md' c',md ≠ .dead→H c md f args h= .ok (out,h',md') c'→c'.Ok→c.Ok∧YF P ap f args h out h' md md'
structure JY (P:Program) (ap:AP):Prop where
 fn:∀ (f:Nat) (F:AF),ap.fnAt f=some F→P.funcs[f]? =some F.fn
 body:∀ (f:Nat) (F:AF),ap.fnAt f=some F→∃ c,F.fn.body=some c∧dH F.fn.ntmps c=true
 name:∀ (f:Nat) (F:AF),ap.fnAt f=some F→(F.fn.name== "runtime.NumGoroutine")=false
section
variable {P:Program} {ap:AP} {H:di}
theorem zM (a:JY P ap) {f:Nat} {F:AF} (b:ap.fnAt f=some F):Dv P f:=by
 intro args w
 obtain ⟨c,d,_⟩:=a.body f F b
 unfold callFunc
 rw [Sem.run_bind]
 have:(program).run P w= .ok P w:=rfl
 rw [this,Result.andThen_ok,a.fn f F b]
 dsimp only
 rw [a.name f F b]
 simp [d]
theorem MI {S:aV} {md:AV} {u:FrameMode} (h:tJ S md u):settle u=u∧u ≠ .run:=by
 cases md<;>simp only [tJ] at h
 ·obtain ⟨cv,rfl,_⟩:=h;exact ⟨rfl,by simp⟩
 ·subst h;exact ⟨rfl,by simp⟩
theorem uK (I:iF P ap) (Q:vG P ap H):
  ∀ (dfs:List (Nat × List AV)) (mode mode':AV) (hp hp':Hp) (c c':Cx),Eu ap H dfs mode hp c= .ok (mode',hp') c'→c'.Ok→c.Ok∧
   ∀ (y:List aZ) (x:Func) (tmps:Array Value) (env:iI) (RR:Ending→World→Prop) (m0:aX) (S0:aV) (w0:World) m S w k u,bT ap (az hp) m S w→Fr (bG y) m0 S0 w0 (az hp) m S w→(∀ t,VR (az hp) m S (env.get t) (tmps.getD t undef))→gJ (az hp) m S dfs k→tJ S mode u→
   (∀ m' S' w' l,bT ap (az hp') m' S' w'→Fr (bG y) m0 S0 w0 (az hp') m' S' w'→(∀ t,VR (az hp') m' S' (env.get t) (tmps.getD t undef))→tJ S' mode' l→Leaves P x tmps RR [] l w')→Leaves P x tmps RR k u w
 | [],mode,mode',hp,hp',c,c',h,hc=>by
  cases h
  refine ⟨hc,fun y x tmps env RR m0 S0 w0 m S w k u E o C hd g M=> ?_⟩
  cases k with
  |nil=>exact M m S w u E o C g
  |cons _ _=>simp [gJ] at hd
 | (f, args)::r,mode,mode',hp,hp',c,c',h,hc=>by
  simp only [Eu] at h
  split at h
  ·cases h
  ·rename_i hrefs
   simp only [Bool.and_eq_true] at hrefs
   have N:mode ≠ .dead:=by rintro rfl;cases hrefs.1
   obtain ⟨q,c1,e1,h⟩:=R.bind_ok h
   split at h
   ·rename_i v s
    obtain ⟨A,ih⟩:=uK I Q r q.md mode' (q.ups++hp) hp' c1 c' h hc
    obtain ⟨args0,hh0,U,V,X,W,hg⟩:=yu e1
    obtain ⟨K,T⟩:=Q _ _ _ _ _ _ _ _ _ N X A
    refine ⟨K,fun y x tmps env RR m0 S0 w0 m S w k u E o C hd g M=> ?_⟩
    cases k with
    |nil=>simp [gJ] at hd
    | cons d k=>
     simp only [gJ] at hd
     obtain ⟨⟨n,O,h2⟩,h3⟩:=hd
     have hfresh:∀ i,i<4→az hp (kF hp+i)=none:=by
      intro i _
      cases hb:az hp (kF hp+i) with
      |none=>rfl
      |some B=>have:=vS hb;omega
     have hcall:=hg (az hp) m S w (d.args++n).toList (fun cargs R=>CallsD P f cargs.toArray u w fun e l w'=>R e w'∧Nu mode q.md u l)
      (fun cargs R R' p a=>CallsD.mono p fun e l w' j=> ⟨a e w' j.1,j.2⟩) E (fun b _ B hB=>hB) hfresh h2
      (fun Y S1 F p a=>T.calls Y S1 w _ u p a (by
       cases mode<;>simp only [tJ] at g ⊢
       ·obtain ⟨cv,J,j⟩:=g;exact ⟨cv,J,dn F _ j⟩
       ·exact g))
     obtain ⟨z,L⟩:=MI g
     refine ⟨L,.func f,n,f,d.args++n,O, ?_, ?_⟩
     ·rw [O]
      exact T.ent _ w
     ·rw [Array.toArray_toList] at hcall
      refine CallsD.mono hcall ?_
      rintro e l w' ⟨⟨m',S',p,a,j⟩,h7⟩
      rw [s] at j
      obtain ⟨cv,rfl,j⟩:=j
      rw [jT] at p a j
      refine ih y x tmps env RR m0 S0 w0 m' S' w' k (settle l) p (o.trans a) (fun t=>pg a.sle a.ge _ (C t)) (vF a.sle a.ge h3) ?_ M
      rcases h7 with ⟨D,rfl⟩|⟨D,Z⟩
      ·rw [z,D]
       cases mode<;>simp only [tJ] at g ⊢
       ·obtain ⟨cv,J,G⟩:=g;exact ⟨cv,J,dn a.sle _ G⟩
       ·exact g
      ·rw [D,Z];rfl
   ·cases h
theorem dV {n f:Nat} (h:n≤f):∀ (c:Code),dH n c=true→dH f c=true
 | .region _ ops _,hd=>by
  simp only [dH,List.all_eq_true] at hd ⊢
  intro o g
  have:=hd o g
  unfold P9 at this ⊢
  split
  ·rename_i d e
   rw [e] at this
   exact Nat.ble_eq_true_of_le (Nat.le_trans (fP this) h)
  ·rfl
 | .seq a b,hd=>by simp only [dH,Bool.and_eq_true] at hd ⊢;exact ⟨dV h a hd.1,dV h b hd.2⟩
 | .cond _ a b,hd=>by simp only [dH,Bool.and_eq_true] at hd ⊢;exact ⟨dV h a hd.1,dV h b hd.2⟩
 | .block _ b,hd=>by simp only [dH] at hd ⊢;exact dV h b hd
 | .loop b,hd=>by simp only [dH] at hd ⊢;exact dV h b hd
 | .scope b,hd=>by simp only [dH] at hd ⊢;exact dV h b hd
 | .skip,_=>rfl
 | .label _,_=>rfl
 | .exit _,_=>rfl
 | .ret,_=>rfl
 | .rangeFunc _ _ _ _,_=>rfl
 | .goto _,_=>rfl
 | .refuse _,_=>rfl
theorem Ae {α:Type}:∀ (l:List α) (j t:Nat),az ((l.zipIdx j).map fun (x,i)=>(i,x)) t=if j≤t then l[t - j]? else none
 | [],j,t=>by simp [az]
 | a::r,j,t=>by
  rw [List.zipIdx_cons,List.map_cons]
  simp only [az]
  cases h:Nat.beq j t with
  |true=>have:=aN h;subst this;simp
  | false=>
   have b:j ≠ t:=by intro e;subst e;simp at h
   simp only [Ae r (j+1) t]
   by_cases hj:j+1≤t
   ·rw [if_pos hj,if_pos (by omega)]
    obtain ⟨d,hd⟩:∃ d,t - j=d+1:=⟨t - j - 1,by omega⟩
    rw [hd,List.getElem?_cons_succ,show t - (j+1)=d by omega]
   ·rw [if_neg hj,if_neg (by omega)]
theorem I_ {h:List aZ} {args:List AV} {cargs:List Value} {m:aX} {S:aV} {w:World} {md:AV} (j:bT ap (bG h) m S w) (f:bi (bG h) m S args cargs) (n:Nat):
  az (n_ md args h).hp=bG h∧FR ap (n_ md args h).env (n_ md args h).hp [] (cargs.toArray++Array.replicate (n - cargs.toArray.size) undef).size m S w {tmps:=cargs.toArray++Array.replicate (n - cargs.toArray.size) undef,defers:= []}:=by
 have a:az (n_ md args h).hp=bG h:=by
  funext b
  have:=Ae h 0 b
  simp only [n_,bG]
  rw [this,if_pos (Nat.zero_le _),Nat.sub_zero]
 refine ⟨a,⟨a ▸ j, ?_,by simp [gJ],rfl⟩⟩
 intro t
 rw [a]
 have e:(n_ md args h).env.get t=(args[t]?).getD .dead:=by
  have:=Ae args 0 t
  simp only [n_,iI.get]
  rw [this,if_pos (Nat.zero_le _),Nat.sub_zero]
 rw [e]
 cases i:args[t]? with
 |none=>simp [VR]
 | some x=>
  obtain ⟨v,d,g⟩:=rJ f t i
  have c:=(List.getElem?_eq_some_iff.1 d).1
  have:(cargs.toArray++Array.replicate (n - cargs.toArray.size) undef).getD t undef=v:=by
   rw [Array.getD_eq_getD_getElem?,Array.getElem?_append_left (by simpa using c)]
   simp [d]
  rw [this]
  exact g
theorem yK (p:iF P ap) (T:vG P ap H) {j z:List aZ} {A:Func} {e:bI} {s:St} {c N:Cx} {out:jU} {D:AV} (h:CW ap H j.length A e s c= .ok (out,z,D) N) (I:N.Ok):
  c.Ok∧j.length≤z.length∧∀ m0 S0 w0 m S w a nt,Fr (bG j) m0 S0 w0 (az s.hp) m S w→FR ap s.env s.hp s.dfs nt m S w a→UR s.hp m S (bodyPostD P A fun e w'=> ∃ y S',Gl ap j m0 S0 w0 out z y S' w' e) a w e:=by
 have r:∀ mode,((Eu ap H s.dfs mode s.hp c).bind fun (mode,hp) c=>
   match mode with
   | .nilI=>(vX ap j.length A s.env hp c).bind fun (o,h) c=> .ok (o,h,s.md) c
   | .ifc t v=>(Jw j.length (.ifc t v) hp c).bind fun (o,h) c=> .ok (o,h,s.md) c
   |_=> .bad 74)= .ok (out,z,D) N→c.Ok∧j.length≤z.length∧∀ m0 S0 w0 m S w a nt u,Fr (bG j) m0 S0 w0 (az s.hp) m S w→FR ap s.env s.hp s.dfs nt m S w a→tJ S mode u→Leaves P A a.tmps (fun e w'=> ∃ y S',Gl ap j m0 S0 w0 out z y S' w' e) a.defers u w:=by
  intro mode g
  obtain ⟨⟨mode',E⟩,Y,O,g⟩:=R.bind_ok g
  dsimp only at g
  split at g
  ·obtain ⟨⟨o,q⟩,U,B,g⟩:=R.bind_ok g
   cases g
   obtain ⟨G,i,C⟩:=lH (P:=P) (m:=fun _=>(0,0)) (m0:=fun _=>(0,0)) (S:=fun _ _=>none) (S0:=fun _ _=>none) (w:=default) (w0:=default) (tmps:=#[]) p B I
   obtain ⟨x,K⟩:=uK p T s.dfs mode _ s.hp E c Y O G
   refine ⟨x,i,fun m0 S0 w0 m S w a nt u d f J=> ?_⟩
   refine K j A a.tmps s.env _ m0 S0 w0 m S w a.defers u f.srel d f.env f.dfs J ?_
   intro y S' w' W l k Q F
   simp only [tJ] at F
   subst F
   obtain ⟨_,_,C⟩:=lH (P:=P) (m:=y) (m0:=m0) (S:=S') (S0:=S0) (w:=w') (w0:=w0) (tmps:=a.tmps) p B I
   obtain ⟨cv,L,V⟩:=C l k Q
   exact ⟨cv,L,V⟩
  ·rename_i t v
   obtain ⟨⟨o,q⟩,U,B,g⟩:=R.bind_ok g
   cases g
   obtain ⟨rfl,i,_⟩:=zg (ap:=ap) (m:=fun _=>(0,0)) (m0:=fun _=>(0,0)) (S:=fun _ _=>none) (S0:=fun _ _=>none) (w:=default) (w0:=default) B
   obtain ⟨x,K⟩:=uK p T s.dfs mode _ s.hp E c _ O I
   refine ⟨x,i,fun m0 S0 w0 m S w a nt u d f J=> ?_⟩
   refine K j A a.tmps s.env _ m0 S0 w0 m S w a.defers u f.srel d f.env f.dfs J ?_
   intro y S' w' W l k Q F
   simp only [tJ] at F
   obtain ⟨cv,rfl,L⟩:=F
   obtain ⟨_,_,M⟩:=zg (ap:=ap) (m:=y) (m0:=m0) (S:=S') (S0:=S0) (w:=w') (w0:=w0) B
   exact M l k cv (gX _ L) (fun b ver n h=>by cases h)
  ·cases g
 unfold CW at h
 dsimp only at h
 split at h
 ·obtain ⟨q,l,k⟩:=r .nilI h
  exact ⟨q,l,fun m0 S0 w0 m S w a nt d f=>k m0 S0 w0 m S w a nt .returning d f rfl⟩
 ·obtain ⟨q,l,k⟩:=r .nilI h
  exact ⟨q,l,fun m0 S0 w0 m S w a nt d f=>k m0 S0 w0 m S w a nt .returning d f rfl⟩
 ·rename_i t v
  split at h
  ·rename_i Z
   obtain ⟨q,l,k⟩:=r (.ifc t v) h
   refine ⟨q,l,fun m0 S0 w0 m S w a nt d f cv X=>k m0 S0 w0 m S w a nt _ d f ⟨cv,rfl, ?_⟩⟩
   exact mV (by simpa [dP] using Z) X
  ·cases h
 ·cases h
theorem Kt (j:iF P ap) (g:P.follows .mixedOrders=true) (i:JY P ap) (x:mg P ap H) (C:vG P ap H) (lf:Nat):mg P ap fun c md f args h=>uo ap H lf md f args h c:=by
 intro c f args h out A r L b J
 have b:uo ap H lf .dead f args h c= .ok (out,A,r) L:=b
 unfold uo at b
 split at b
 ·cases b
 ·rename_i F q
  dsimp only at b
  obtain ⟨⟨e,s⟩,M,u,b⟩:=R.bind_ok b
  dsimp only at b
  obtain ⟨a,y,d⟩:=i.body f F q
  have hbody:ah F.fn=a:=by simp [ah,y]
  rw [hbody] at u
  obtain ⟨k,n,l⟩:=yK j C b J
  obtain ⟨v,_⟩:=eF (nt:=F.fn.ntmps) j g x a d _ _ _ _ _ u k
  refine ⟨v,n,zM i q,fun m S w cargs D I=> ?_⟩
  obtain ⟨E,o⟩:=I_ (md:= .dead) D I F.fn.ntmps
  have t:F.fn.ntmps≤(cargs.toArray++Array.replicate (F.fn.ntmps - cargs.toArray.size) undef).size:=by simp;omega
  obtain ⟨_,p⟩:=eF j g x a (dV t a d) _ _ _ _ _ u k
  obtain ⟨_,p⟩:=p rfl
  refine calls_of_wp_defers (i.fn f F q) y ?_
  refine p m S w m S w _ (by rw [E];exact Fr.refl _ _ _ _) o _ ?_
  intro K S' w' z B G
  exact l m S w K S' w' z _ B G
end
end AM
namespace AM
open Go
section
variable {P:Program} {ap:AP} {H:di}
theorem UH {o:Oper} {a:Act} {K K':Act→World→Prop} {Q Q':Exit→Act→World→Prop} {r:Result Next} (c:∀ a w,K a w→K' a w) (d:∀ e a w,Q e a w→Q' e a w) (f:¬ LetsOut Q) (h:o.upon P a K Q r):o.upon P a K' Q' r:=by
 cases r with
 | ok n w'=>
  cases n<;>simp only [Oper.upon] at h ⊢ <;>
   first
    |exact c _ _ h
    |exact Calls.mono h (fun e g b=>by cases e<;>first|exact c _ _ b|exact d _ _ _ b|exact absurd b f)
    |exact Rows.mono h (fun _ _ b=>c _ _ b)
 |halt x w'=>cases x<;>simp only [Oper.upon] at h ⊢ <;>exact d _ _ _ h
theorem jI {ops:Array Oper} {Q:Exit→Act→List Frame→World→Prop} {f:List Frame} {Q':Exit→Act→World→Prop} (b:∀ e a w,Q' e a w→Q e a f w) (c:¬ LetsOut Q'):∀ (l:List Nat) (a:Act) (w:World),wpOps P ops Q' l a w→wpOpsS P ops Q l a f w
 | [],a,w,h=>b _ _ _ h
 | i ::rest,a,w,h=>by
  simp only [wpOps] at h
  simp only [wpOpsS]
  cases g:ops[i]? with
  |none=>
   simp only [g] at h ⊢
   exact jI b c rest a w h
  | some o=>
   simp only [g] at h ⊢
   by_cases hw:Region.wanted o (yielded ops a.tmps)=true
   ·rw [if_pos hw] at h ⊢
    rcases h with h|⟨_,h⟩
    ·unfold Oper.wp at h
     split
     ·rename_i w' j
      rw [j] at h
      exact h.elim
     ·exact UH (fun a w d=>jI b c rest a w d) (fun e a w d=>b e a w d) c h
    ·exact absurd h c
   ·rw [if_neg hw] at h ⊢
    exact jI b c rest _ w h
theorem aiq {Q:Exit→Act→World→Prop}:¬ LetsOut (fun e a w=>e ≠ .outgrown∧Q e a w):=fun ⟨_,_,h,_⟩=>h rfl
theorem MC {a:Act} {o:Oper} {args:Array Operand} {argTypes:Array TypeId} (h:o.op= .call {callee:= .builtin .recover,args,argTypes}) (w:World):(execOp a.eval o).run P w= .ok .recover w:=by
 unfold execOp
 rw [h]
 rfl
theorem FR.env_cons {env:iI} {hp:Hp} {dfs:List (Nat × List AV)} {nt:Nat} {m:aX} {S:aV} {w:World} {a:Act} (h:FR ap env hp dfs nt m S w a) {d:Nat} (hd:d<nt) {v:AV} {cv:Value} (b:VR (az hp) m S v cv):FR ap ((d,v)::env) hp dfs nt m S w (a.put (some d) cv):=by
 refine ⟨h.srel,fun t=> ?_,by rw [Fa];exact h.dfs,by rw [LW];exact h.size⟩
 by_cases ht:d=t
 ·subst ht
  rw [Fb _ _ _ (by rw [h.size];exact hd)]
  have:iI.get ((d,v)::env) d=v:=lQ (env:=env)
  rw [this];exact b
 ·rw [Fe _ _ _ (fun e=>ht (by cases e;rfl))]
  have:iI.get ((d,v)::env) t=env.get t:=yL (env:=env) (dst:=some d) (fun e=>ht (by cases e;rfl))
  rw [this];exact h.env t
theorem IG (l:iF P ap) (D:P.follows .mixedOrders=true) (J:JY P ap) (hH:mg P ap H) (lf:Nat):vG P ap fun c md f args h=>uo ap H lf md f args h c:=by
 intro c md f args h out h' U c' hmd g hc
 have g:uo ap H lf md f args h c= .ok (out,h',U) c':=g
 unfold uo at g
 split at g
 ·cases g
 ·rename_i F hF
  split at g
  ·exact absurd rfl hmd
  ·split at g
   ·rename_i hrefs
    simp only [Bool.and_eq_true] at hrefs
    obtain ⟨T,L,j⟩:=J.body f F hF
    have hbody:ah F.fn=T:=by simp [ah,L]
    unfold Vb at g
    rw [hbody] at g
    split at g
    ·rename_i id ops rest
     split at g
     ·rename_i o r k
      split at g
      ·rename_i args' argTypes d hop hg hd
       dsimp only at g
       obtain ⟨⟨s1,p⟩,c1,e1,g⟩:=R.bind_ok g
       dsimp only at g
       split at g
       ·cases g
       ·obtain ⟨⟨e,C⟩,c2,e2,g⟩:=R.bind_ok g
        dsimp only at g
        split at g
        ·cases g
        ·rename_i M
         have q:∃ N,(e= .normal∨e= .ret)∧vX ap h.length F.fn C.env C.hp c2= .ok (out,h') N∧U= .nilI∧N=c':=by
          split at g
          ·obtain ⟨⟨o1,h1⟩,N,K,g⟩:=R.bind_ok g
           cases g
           exact ⟨_,.inl rfl,K,rfl,rfl⟩
          ·obtain ⟨⟨o1,h1⟩,N,K,g⟩:=R.bind_ok g
           cases g
           exact ⟨_,.inr rfl,K,rfl,rfl⟩
          ·cases g
         obtain ⟨N,q,K,rfl,rfl⟩:=q
         obtain ⟨Z,hlen,_⟩:=lH (P:=P) (m:=fun _=>(0,0)) (m0:=fun _=>(0,0)) (S:=fun _ _=>none) (S0:=fun _ _=>none) (w:=default) (w0:=default) (tmps:=#[]) l K hc
         simp only [dH,Bool.and_eq_true] at j
         obtain ⟨O,_⟩:=eF (nt:=F.fn.ntmps) l D hH rest j.2 _ _ _ _ _ e2 Z
         have z:∀ nt,F.fn.ntmps≤nt→∀ o' ∈ o::r,∀ d,o'.dst=some d→d<nt:=by
          intro nt A o' ho' d' hd'
          have:=List.all_eq_true.1 j.1 o' (by rw [k];exact ho')
          simp only [P9,hd'] at this
          exact Nat.lt_of_lt_of_le (fQ this) A
         obtain ⟨hc0,_⟩:=nN (nt:=F.fn.ntmps) l hH (ops:=o::r) (z _ (Nat.le_refl _)) r 1 _ _ _ _ _ _ e1 O
         refine ⟨hc0,zM J hF,fun m S w cargs u hS hv hm=> ?_⟩
         obtain ⟨hh,hFR⟩:=I_ (md:= .dead) hS hv F.fn.ntmps
         have A:F.fn.ntmps≤(cargs.toArray++Array.replicate (F.fn.ntmps - cargs.toArray.size) undef).size:=by simp;omega
         obtain ⟨_,hx⟩:=eF l D hH rest (dV A rest j.2) _ _ _ _ _ e2 Z
         obtain ⟨_,hs⟩:=nN l hH (ops:=o::r) (z _ A) r 1 _ _ _ _ _ _ e1 O
         obtain ⟨W,hs⟩:=hs rfl (fun t b L=>by cases L) rfl (fun b B L=>vS L)
         obtain ⟨_,hx⟩:=hx W
         have V:=z _ A o (by simp) d hd
         refine callsD_of_wpS (J.fn f F hF) L fun c₀ G hc₀=> ?_
         have i:∃ cv n,tJ S md u∧VR (az (n_ .dead args h).hp) m S md cv∧settle n= .returning∧((recoverD (c₀::G)=some (cv,{c₀ with mode:=n}::G))∨(recoverD (c₀::G)=none∧cv= .nilIface∧{c₀ with mode:=n}=c₀)):=by
          cases md<;>simp only [tJ] at hm
          ·obtain ⟨cv,rfl,hp⟩:=hm
           exact ⟨cv,.panicking [{v:=cv,recovered:=true}],⟨cv,rfl,hp⟩,gX _ hp,rfl,.inl (by simp [recoverD,hc₀])⟩
          ·subst hm
           exact ⟨.nilIface,.returning,rfl,by simp only [VR,PR],rfl,.inr ⟨by simp [recoverD,hc₀],rfl,by rw [← hc₀]⟩⟩
         obtain ⟨cv,n,_,hvcv,E,i⟩:=i
         have hcont:∀ (Q:Exit→Act→List Frame→World→Prop),(∀ e a w',(∃ m' S',Fr (bG h) m S w (az C.hp) m' S' w'∧FR ap C.env C.hp C.dfs (cargs.toArray++Array.replicate (F.fn.ntmps - cargs.toArray.size) undef).size m' S' w' a)→(e= .normal∨e= .ret)→Q e a ({c₀ with mode:=n}::G) w')→
           wpOpsS P ops (Exit.thenS (rest.wpS P Q) Q) (List.range' 1 r.length) (({tmps:=cargs.toArray++Array.replicate (F.fn.ntmps - cargs.toArray.size) undef,defers:= []}:Act).put (some d) cv) ({c₀ with mode:=n}::G) w:=by
          intro Q hQ
          have hopsA:ops=(o::r).toArray:=by rw [← k]
          rw [hopsA]
          refine jI (Q':=fun e a w'=>e ≠ .outgrown∧e= .normal∧rest.wpS P Q a ({c₀ with mode:=n}::G) w') ?_ aiq _ _ _ ?_
          ·rintro e a w' ⟨_,rfl,hh⟩
           exact hh
          ·refine hs m S w _ (hFR.env_cons V hvcv) _ ?_
           intro m1 S1 w1 a1 h3 X
           refine ⟨by simp,rfl,wpS_of_wp ?_⟩
           rw [hh] at h3
           obtain ⟨m2,h5,h6⟩:=sH (keep:=F.keep) (s:=⟨s1.env,s1.hp,s1.md,s1.dfs⟩) h3 X
           refine hx m S w m2 S1 w1 a1 h5 h6 _ ?_
           intro m3 S3 w3 a3 h7 h8
           rcases q with rfl|rfl
           ·exact hQ .normal a3 w3 ⟨m3,S3,h7,h8⟩ (.inl rfl)
           ·exact hQ .ret a3 w3 ⟨m3,S3,h7,h8⟩ (.inr rfl)
         have I:∀ e a w',(∃ m' S',Fr (bG h) m S w (az C.hp) m' S' w'∧FR ap C.env C.hp C.dfs (cargs.toArray++Array.replicate (F.fn.ntmps - cargs.toArray.size) undef).size m' S' w' a)→(e= .normal∨e= .ret)→
           bodyPostS P F.fn c₀ G (fun e n w'=>(∃ m' S',Gl ap h m S w out h' m' S' w' e)∧Nu md .nilI u n) e a ({c₀ with mode:=n}::G) w':=by
          rintro e a w' ⟨m',S',h3,X⟩ hee
          obtain ⟨_,_,hro⟩:=lH (P:=P) (m:=m') (m0:=m) (S:=S') (S0:=S) (w:=w') (w0:=w) (tmps:=a.tmps) l K hc
          obtain ⟨cv',h5,h6⟩:=hro X.srel h3 X.env
          have Y:a.defers= []:=by
           have:=X.dfs
           rw [M] at this
           cases hd:a.defers with
           |nil=>rfl
           |cons x y=>rw [hd] at this;simp [gJ] at this
          rcases hee with rfl|rfl
          ·exact ⟨Y,n,rfl,cv',h5,h6,.inr ⟨rfl,E⟩⟩
          ·exact ⟨Y,n,rfl,cv',h5,h6,.inr ⟨rfl,E⟩⟩
         refine wpS_seq (wpS_region ?_)
         have hrange:List.range ops.size=0::List.range' 1 r.length:=by
          have:ops.size=r.length+1:=by rw [← Array.length_toList,k];simp
          rw [this,List.range_eq_range',List.range'_succ]
         rw [hrange]
         have ho0:ops[0]? =some o:=by
          have:ops.toList[0]? =some o:=by rw [k];rfl
          simpa using this
         simp only [wpOpsS,ho0,Region.wanted,hg,if_true,MC hop]
         rw [hd]
         rcases i with i|⟨i,rfl,hsame⟩
         ·rw [i]
          exact hcont _ I
         ·rw [i]
          have:=hcont _ I
          rw [hsame] at this
          exact this
      ·cases g
     ·cases g
    ·cases g
   ·cases g
end
end AM
namespace AM
open Go
def Ef:Option AF→Bool
 |some F=>(match F.fn.body with|some c=>dH F.fn.ntmps c|none=>false) && !(F.fn.name== "runtime.NumGoroutine")
 |none=>true
theorem YS {P:Program} {ap:AP} (h:(List.range ap.nty).map ap.ty.get=(List.range ap.nty).map (Yi P)):iF P ap:=by
 constructor
 intro t e a
 unfold AP.tyAt at a
 split at a
 ·rename_i b
  have c:=fQ b
  have d:((List.range ap.nty).map ap.ty.get)[t]? =some (some e):=by rw [List.getElem?_map,List.getElem?_range c];simp [a]
  rw [h,List.getElem?_map,List.getElem?_range c] at d
  simpa using d
 ·cases a
theorem ZW {P:Program} {ap:AP} {keep:Nat→Bool} (h:(List.range ap.nfn).map (fun i=>(ap.fn.get i).map AF.fn)=(List.range ap.nfn).map fun i=>match keep i with|true=>P.funcs[i]? |false=>none) (l:(List.range ap.nfn).all (fun i=>Ef (ap.fn.get i))=true):JY P ap:=by
 have b:∀ (f:Nat) (F:AF),ap.fnAt f=some F→f<ap.nfn∧ap.fn.get f=some F:=by
  intro f F a
  unfold AP.fnAt at a
  split at a
  ·rename_i j;exact ⟨fQ j,a⟩
  ·cases a
 have hgood:∀ (f:Nat) (F:AF),ap.fnAt f=some F→Ef (some F)=true:=by
  intro f F a
  obtain ⟨e,g⟩:=b f F a
  have:=List.all_eq_true.1 l f (by simpa using e)
  rwa [g] at this
 constructor
 ·intro f F a
  obtain ⟨e,g⟩:=b f F a
  have d:((List.range ap.nfn).map fun i=>(ap.fn.get i).map AF.fn)[f]? =some (some F.fn):=by rw [List.getElem?_map,List.getElem?_range e];simp [g]
  rw [h,List.getElem?_map,List.getElem?_range e] at d
  simp only [Option.map_some,Option.some.injEq] at d
  split at d
  ·exact d
  ·cases d
 ·intro f F a
  have:=hgood f F a
  simp only [Ef,Bool.and_eq_true] at this
  cases k:F.fn.body with
  |none=>rw [k] at this;cases this.1
  |some c=>rw [k] at this;exact ⟨c,rfl,this.1⟩
 ·intro f F a
  have:=hgood f F a
  simp only [Ef,Bool.and_eq_true,Bool.not_eq_true'] at this
  exact this.2
end AM
namespace AM
open Go
def aK (P:Program) (ap:AP) (h0:List aZ) (n:Nat) (code:Code) (s:St) (e:bI) (s':St):Prop:=∀ nt,n≤nt→au P ap h0 nt code s e s'
abbrev xR:=List (bI × St)
def lM (P:Program) (ap:AP) (H:di) (h0:List aZ) (keep:List Nat) (lf nt:Nat) (ls:List Nat):Code→St→xR→Cx→R ((bI × St) × xR)
 | .seq a b,s,l,c=>(lM P ap H h0 keep lf nt ls a s l c).bind fun r c=>match r.1.1 with
  | .normal=>lM P ap H h0 keep lf nt ls b r.1.2 r.2 c
  |e=> .ok ((e,r.1.2),r.2) c
 | .cond t a b,s,l,c=>match qM ap s.env t with
  | .bool x=>(zN c x).bind fun x c=>match x with
   |true=>lM P ap H h0 keep lf nt ls a s l c
   |false=>lM P ap H h0 keep lf nt ls b s l c
  |_=> .bad 60
 | .block id b,s,l,c=>match su ls id with
  |true=>match l with
   |(e,s')::r=> .ok ((e,s'),r) {c with ps:=aK P ap h0 nt (.block id b) s e s'::c.ps}
   | []=> .bad 62
  |false=>(lM P ap H h0 keep lf nt ls b s l c).bind fun r c=>match r.1.1 with
   | .exit id'=>match Nat.beq id' id with|true=> .ok ((.normal,r.1.2),r.2) c|false=> .ok ((.exit id',r.1.2),r.2) c
   |e=> .ok ((e,r.1.2),r.2) c
 | .scope b,s,l,c=>lM P ap H h0 keep lf nt ls b s l c
 | .region id ops draw,s,l,c=>match su ls (id+1000) with
  |true=>match l with
   |(e,s')::r=> .ok ((e,s'),r) {c with ps:=aK P ap h0 nt (.region id ops draw) s e s'::c.ps}
   | []=> .bad 63
  |false=>(kV ap H h0.length keep lf (.region id ops draw) s c).bind fun r c=> .ok (r,l) c
 |code,s,l,c=>(kV ap H h0.length keep lf code s c).bind fun r c=> .ok (r,l) c
section
variable {P:Program} {ap:AP} {H:di}
theorem au.seq {b:List aZ} {nt:Nat} {x y:Code} {s g f:St} {e:bI} (i:au P ap b nt x s .normal g) (q:au P ap b nt y g e f):au P ap b nt (.seq x y) s e f:=by
 intro c
 obtain ⟨l,o⟩:=i c
 obtain ⟨n,r⟩:=q l
 refine ⟨n,fun m0 S0 w0 m S w a d k Q j=>wp_seq (o m0 S0 w0 m S w a d k _ ?_)⟩
 intro t S' w' h p u
 exact r m0 S0 w0 t S' w' h p u Q j
theorem au.seq_out {f:List aZ} {nt:Nat} {x y:Code} {s g:St} {e:bI} (b:e ≠ .normal) (i:au P ap f nt x s e g):au P ap f nt (.seq x y) s e g:=by
 intro c
 obtain ⟨l,n⟩:=i c
 refine ⟨l,fun m0 S0 w0 m S w a d k Q j=>wp_seq (n m0 S0 w0 m S w a d k _ ?_)⟩
 intro p S' w' h q o
 have:=j p S' w' h q o
 cases e with
 |normal=>exact absurd rfl b
 |exit id=>exact this
 |ret=>exact this
 |panic v=>exact this
theorem au.cond {g:List aZ} {nt:Nat} {t:Operand} {x y:Code} {s s':St} {e:bI} {b:Bool} (k:qM ap s.env t= .bool b) (h:au P ap g nt (if b then x else y) s e s'):au P ap g nt (.cond t x y) s e s':=by
 intro d
 obtain ⟨j,l⟩:=h d
 refine ⟨j,fun m0 S0 w0 m S w a f c Q i=>wp_cond (t:=b) ?_ (l m0 S0 w0 m S w a f c Q i)⟩
 have:=xn c.srel (a:=a) (env:=s.env) t (fun t _=>c.env t)
 rw [k] at this
 simpa only [VR,PR] using this
def pM (id:Nat):bI→bI
 | .exit id'=>match Nat.beq id' id with|true=> .normal|false=> .exit id'
 |e=>e
theorem au.block {k:List aZ} {nt:Nat} {id:Nat} {b:Code} {s s':St} {e:bI} (h:au P ap k nt b s e s'):au P ap k nt (.block id b) s (pM id e) s':=by
 intro i
 obtain ⟨o,p⟩:=h i
 refine ⟨o,fun m0 S0 w0 m S w a j n Q l=>wp_block (p m0 S0 w0 m S w a j n _ ?_)⟩
 intro r S' w' d t q
 have c:=l r S' w' d t q
 cases e with
 |normal=>exact c
 |ret=>exact c
 |panic v=>exact c
 | exit id'=>
  simp only [pM] at c
  split at c
  ·rename_i g
   show Exit.inBlock id Q (.exit id') d w'
   simp only [Exit.inBlock,if_pos (aN g)]
   exact c
  ·rename_i g
   show Exit.inBlock id Q (.exit id') d w'
   have f:id' ≠ id:=by intro e;subst e;simp at g
   simp only [Exit.inBlock,if_neg f]
   exact c
theorem au.scope {g:List aZ} {nt:Nat} {b:Code} {s s':St} {e:bI} (h:au P ap g nt b s e s'):au P ap g nt (.scope b) s e s':=by
 intro d
 obtain ⟨l,n⟩:=h d
 refine ⟨l,fun m0 S0 w0 m S w a f k Q j=>wp_scope_straight (n m0 S0 w0 m S w a f k _ ?_)⟩
 intro p S' w' i q o
 have c:=j p S' w' i q o
 cases e with
 |normal=>exact c
 |exit id=>exact c
 |ret=>exact c
 |panic v=>exact c
theorem uB (C:iF P ap) (A:P.follows .mixedOrders=true) (M:mg P ap H) {m:List aZ} {keep:List Nat} {lf n nt:Nat} (I:n≤nt) {ls:List Nat}:∀ (d:Code),dH nt d=true→∀ (s:St) (l:xR) (r:(bI × St) × xR) (c f:Cx),lM P ap H m keep lf n ls d s l c= .ok r f→f.Ok→c.Ok∧au P ap m nt d s r.1.1 r.1.2:=by
 have hbase:∀ (d:Code),dH nt d=true→∀ (s:St) (l:xR) (r:(bI × St) × xR) (c f:Cx),((kV ap H m.length keep lf d s c).bind fun r c=> .ok (r,l) c)= .ok r f→f.Ok→c.Ok∧au P ap m nt d s r.1.1 r.1.2:=by
  intro d hd s l r c f h a
  obtain ⟨⟨e,s'⟩,w,k,h⟩:=R.bind_ok h
  cases h
  exact eF C A M d hd s e s' c _ k a
 intro d
 induction d with
 | seq x y ihx ihy=>
  intro hd s l r c f h a
  simp only [dH,Bool.and_eq_true] at hd
  simp only [lM] at h
  obtain ⟨⟨⟨o,B⟩,E⟩,w,k,h⟩:=R.bind_ok h
  dsimp only at h
  have hother:o ≠ .normal→R.ok ((o,B),E) w=R.ok r f→c.Ok∧au P ap m nt (.seq x y) s r.1.1 r.1.2:=by
   intro G L
   cases L
   obtain ⟨g,j⟩:=ihx hd.1 _ _ _ _ _ k a
   exact ⟨g,j.seq_out G⟩
  cases o with
  |normal=>
   dsimp only at h
   obtain ⟨i,K⟩:=ihy hd.2 _ _ _ _ _ h a
   obtain ⟨g,j⟩:=ihx hd.1 _ _ _ _ _ k i
   exact ⟨g,j.seq K⟩
  |exit id=>exact hother (by simp) h
  |ret=>exact hother (by simp) h
  |panic v=>exact hother (by simp) h
 | cond t x y ihx ihy=>
  intro hd s l r c f h a
  simp only [dH,Bool.and_eq_true] at hd
  simp only [lM] at h
  split at h
  ·rename_i O q
   obtain ⟨N,w,k,h⟩:=R.bind_ok h
   cases N with
   |true=>
    obtain ⟨i,j⟩:=ihx hd.1 _ _ _ _ _ h a
    obtain ⟨g,z⟩:=kX k i
    exact ⟨g,au.cond q (by rw [← z];exact j)⟩
   |false=>
    obtain ⟨i,j⟩:=ihy hd.2 _ _ _ _ _ h a
    obtain ⟨g,z⟩:=kX k i
    exact ⟨g,au.cond q (by rw [← z];exact j)⟩
  ·cases h
 | block id b ih=>
  intro hd s l r c f h a
  simp only [dH] at hd
  simp only [lM] at h
  split at h
  ·split at h
   ·rename_i D F J
    cases h
    have hp:aK P ap m n (.block id b) s D F:=a.ps _ (List.mem_cons_self ..)
    exact ⟨⟨a.bs,fun p hp=>a.ps p (List.mem_cons_of_mem _ hp)⟩,hp nt I⟩
   ·cases h
  ·obtain ⟨⟨⟨o,B⟩,E⟩,w,k,h⟩:=R.bind_ok h
   dsimp only at h
   have u:r=((pM id o,B),E)∧w=f:=by
    cases o<;>dsimp only at h
    ·cases h;exact ⟨rfl,rfl⟩
    ·unfold pM
     split at h<;>cases h<;>rename_i z<;>dsimp only<;>rw [z]<;>exact ⟨rfl,rfl⟩
    ·cases h;exact ⟨rfl,rfl⟩
    ·cases h;exact ⟨rfl,rfl⟩
   obtain ⟨rfl,rfl⟩:=u
   obtain ⟨g,j⟩:=ih hd _ _ _ _ _ k a
   exact ⟨g,j.block⟩
 |scope b ih=>
  intro hd s l r c f h a
  simp only [dH] at hd
  simp only [lM] at h
  obtain ⟨g,j⟩:=ih hd _ _ _ _ _ h a
  exact ⟨g,j.scope⟩
 |skip=>exact fun hd s l r c f h a=>hbase _ hd s l r c f h a
 | region id ops draw=>
  intro hd s l r c f h a
  simp only [lM] at h
  split at h
  ·split at h
   ·rename_i D F J
    cases h
    have hp:aK P ap m n (.region id ops draw) s D F:=a.ps _ (List.mem_cons_self ..)
    exact ⟨⟨a.bs,fun p hp=>a.ps p (List.mem_cons_of_mem _ hp)⟩,hp nt I⟩
   ·cases h
  ·exact hbase _ hd s l r c f h a
 |loop _ _=>exact fun hd s l r c f h a=>hbase _ hd s l r c f h a
 |rangeFunc _ _ _ _=>exact fun hd s l r c f h a=>hbase _ hd s l r c f h a
 |exit _=>exact fun hd s l r c f h a=>hbase _ hd s l r c f h a
 |label _=>exact fun hd s l r c f h a=>hbase _ hd s l r c f h a
 |goto _=>exact fun hd s l r c f h a=>hbase _ hd s l r c f h a
 |ret=>exact fun hd s l r c f h a=>hbase _ hd s l r c f h a
 |refuse _=>exact fun hd s l r c f h a=>hbase _ hd s l r c f h a
def Ku (P:Program) (ap:AP) (H:di) (lf:Nat) (ls:List Nat) (f:Nat) (args:List AV) (h:List aZ) (l:xR) (c:Cx):R (jU × List aZ × AV):=
 match ap.fnAt f with
 |none=> .bad 80
 |some F=>(lM P ap H h F.keep lf F.fn.ntmps ls (ah F.fn) (n_ .dead args h) l c).bind fun r c=>CW ap H h.length F.fn r.1.1 r.1.2 c
theorem Kv (n:iF P ap) (o:P.follows .mixedOrders=true) (d:JY P ap) (D:mg P ap H) (C:vG P ap H) {lf:Nat} {ls:List Nat} {f:Nat} {args:List AV} {h v:List aZ} {l:xR} {c z:Cx} {out:jU} {u:AV}
  (b:Ku P ap H lf ls f args h l c= .ok (out,v,u) z) (hc:z.Ok):aA P ap f args h out v:=by
 unfold Ku at b
 split at b
 ·cases b
 ·rename_i F t
  obtain ⟨⟨⟨e,s⟩,M⟩,L,x,b⟩:=R.bind_ok b
  dsimp only at b
  obtain ⟨a,y,j⟩:=d.body f F t
  have hbody:ah F.fn=a:=by simp [ah,y]
  rw [hbody] at x
  obtain ⟨p,k,g⟩:=yK n C b hc
  refine ⟨k,zM d t,fun m S w cargs E J=> ?_⟩
  obtain ⟨G,q⟩:=I_ (md:= .dead) E J F.fn.ntmps
  have i:F.fn.ntmps≤(cargs.toArray++Array.replicate (F.fn.ntmps - cargs.toArray.size) undef).size:=by simp;omega
  obtain ⟨_,r⟩:=uB n o D i a (dV i a j) _ _ _ _ _ x p
  obtain ⟨_,r⟩:=r rfl
  refine calls_of_wp_defers (d.fn f F t) y ?_
  refine r m S w m S w _ (by rw [G];exact Fr.refl _ _ _ _) q _ ?_
  intro K S' w' A B I
  exact g m S w K S' w' A _ B I
end
end AM
namespace AM
open Go
def xJ (P:Program) (ap:AP) (lf:Nat):Nat→di
 |0=>fun _ _ _ _ _=> .bad 90
 | n+1=>fun c md f args h=>
  match md with
  | .dead=>match c.ans with
   |(out,h')::r=> .ok (out,h',.dead) {c with ans:=r,ps:=aA P ap f args h out h'::c.ps}
   |_=> .bad 91
  |md=>uo ap (xJ P ap lf n) lf md f args h c
theorem lD {P:Program} {ap:AP} (g:iF P ap) (b:P.follows .mixedOrders=true) (i:JY P ap) (lf:Nat):∀ n,mg P ap (xJ P ap lf n)∧vG P ap (xJ P ap lf n)
 |0=> ⟨fun _ _ _ _ _ _ _ _ h=>(by cases h),fun _ _ _ _ _ _ _ _ _ _ h=>(by cases h)⟩
 | n+1=>by
  obtain ⟨m,o⟩:=lD g b i lf n
  constructor
  ·intro c f args h out k d l a e
   simp only [xJ] at a
   split at a
   ·cases a
    exact ⟨⟨e.bs,fun p hp=>e.ps p (by simp [hp])⟩,e.ps _ (by simp)⟩
   ·cases a
  ·intro c md f args h out k d l j a e
   have a:uo ap (xJ P ap lf n) lf md f args h c= .ok (out,k,d) l:=by
    cases md<;>first|exact absurd rfl j|exact a
   exact IG g b i m lf c md f args h out k d l j a e
inductive qw:List Prop→Prop where
 |nil:qw []
 |cons {p:Prop} {l:List Prop}:p→qw l→qw (p::l)
theorem qw.mem {l:List Prop} (h:qw l):∀ p ∈ l,p:=by
 induction h with
 |nil=>intro p hp;cases hp
 |cons hp _ ih=>
  intro q a
  rcases List.mem_cons.1 a with rfl|a
  ·exact hp
  ·exact ih q a
inductive jb:List Bool→Prop where
 |nil:jb []
 |t {l:List Bool}:jb l→jb (true::l)
 |c {b:Bool} {l:List Bool}:b=true→jb l→jb (b::l)
theorem jb.mem {l:List Bool} (h:jb l):∀ b ∈ l,b=true:=by
 induction h with
 |nil=>intro p hp;cases hp
 |t _ ih=>
  intro q a
  rcases List.mem_cons.1 a with rfl|a
  ·rfl
  ·exact ih q a
 |c hp _ ih=>
  intro q a
  rcases List.mem_cons.1 a with rfl|a
  ·exact hp
  ·exact ih q a
structure Dx (P:Program) (ap:AP):Prop where
 apok:iF P ap
 mixed:P.follows .mixedOrders=true
 fnok:JY P ap
theorem kY {P:Program} {ap:AP} (g:Dx P ap) {lf n:Nat} {ans:List (jU × List aZ)} {ps:List Prop} {f:Nat} {args:List AV} {h a:List aZ} {out:jU} (hp:qw ps)
  (he:uo ap (xJ P ap lf n) lf .dead f args h ⟨true,[],[],[],ans,[]⟩= .ok (out,a,.dead) ⟨true,[],[],ps,[],[]⟩):aA P ap f args h out a:=by
 obtain ⟨e,d⟩:=lD g.apok g.mixed g.fnok lf n
 exact (Kt g.apok g.mixed g.fnok e d lf _ f args h out a .dead _ he ⟨fun b c=>(by cases c),hp.mem⟩).2
theorem sK {P:Program} {ap:AP} (g:Dx P ap) {lf n:Nat} {ls:List Nat} {orc:List Bool} {ans:List (jU × List aZ)} {lps:xR} {bs:List Bool} {ps:List Prop} {f:Nat} {args:List AV} {h a:List aZ} {out:jU}
  (hb:jb bs) (hp:qw ps) (he:Ku P ap (xJ P ap lf n) lf ls f args h lps ⟨false,orc,[],[],ans,[]⟩= .ok (out,a,.dead) ⟨false,[],bs,ps,[],[]⟩):aA P ap f args h out a:=by
 obtain ⟨c,b⟩:=lD g.apok g.mixed g.fnok lf n
 exact Kv g.apok g.mixed g.fnok c b he ⟨hb.mem,hp.mem⟩
end AM
namespace AM
open Go Go.ChangeShapes Go.WideShapes Go.ChangeAt Go.RowKit
def qj:Lit→Value
 | .int k n=> .int k n
 | .bool b=> .bool b
 | .string s=> .string ⟨s.toArray⟩
 |_=> .nilFunc
def Lj:Lit→AV
 | .int k n=> .int k n
 | .bool b=> .bool b
 | .string s=> .str s
 |_=> .dead
def EC:Lit→Bool
 | .int _ _=>true
 | .bool _=>true
 | .string _=>true
 |_=>false
def Ll (f:TypeId→DataW Unit→Nat→Option (List (Nat × Lit))):List (TypeId × Nat)→List (DataW Unit)→Option (List (Nat × Lit))
 | [],[]=>some []
 |(t,o)::r,d::ds=>match f t d o,Ll f r ds with
  |some a,some b=>some (a++b)
  |_,_=>none
 |_,_=>none
def lT (P:Program):Nat→TypeId→DataW Unit→Nat→Option (List (Nat × Lit))
 |0,_,_,_=>none
 |n+1,t,d,off=>match P.underlying t,d with
  |some (.struct fs),.agg ds=>Ll (lT P n) (fs.toList.map fun f=>(f.type,off+f.offset)) ds
  |some (.array m e),.agg ds=>Ll (lT P n) ((List.range m).map fun i=>(e,off+i*P.cellsOf e)) ds
  |some (.int _),.lit (.int k n)=>some [(off,.int k n)]
  |some .bool,.lit (.bool b)=>some [(off,.bool b)]
  |some .string,.lit (.string s)=>some [(off,.string s)]
  |_,_=>none
theorem Ez {f:TypeId→DataW Unit→Nat→Option (List (Nat × Lit))}:∀ {ts:List (TypeId × Nat)} {ds:List (DataW Unit)} {l:List (Nat × Lit)},Ll f ts ds=some l→ts.length=ds.length∧∀ x ∈ l,∃ (i:Nat) (t o:Nat) (d:DataW Unit) (a:List (Nat × Lit)),ts[i]? =some (t,o)∧ds[i]? =some d∧f t d o=some a∧x ∈ a
 | [],[],l,h=>by simp [Ll] at h;subst h;simp
 | (t,o)::r,d::ds,l,h=>by
  simp only [Ll] at h
  split at h
  ·rename_i a b n e
   cases h
   obtain ⟨m,j⟩:=Ez e
   refine ⟨by simp [m],fun x c=> ?_⟩
   rcases List.mem_append.1 c with c|c
   ·exact ⟨0,t,o,d,a,rfl,rfl,n,c⟩
   ·obtain ⟨i,v,k,u,g,q,s,w,p⟩:=j x c
    exact ⟨i+1,v,k,u,g,by simpa using q,by simpa using s,w,p⟩
  ·cases h
 | [],_::_,_,h=>by simp [Ll] at h
 |_::_,[],_,h=>by simp [Ll] at h
theorem oz {P:Program} {w:World} {base:Nat} {O:Nat→Bool} {A:Bool}:∀ (n:Nat) (t:TypeId) (d:DataW Unit) (off:Nat) (l:List (Nat × Lit)),lT P n t d off=some l→∀ (c:Nat) (B:List Value) (p:List MemPlace),DataW.trod (fun _=>()) P w base O A c t B=some (d,p)→∀ x ∈ l,∃ j,x.1=off+j∧B[j]? =some (qj x.2)
 |0,_,_,_,_,h=>by simp [lT] at h
 | n +1,t,d,off,l,h=>by
  intro c B p hd x r
  simp only [lT] at h
  split at h
  ·rename_i V M o
   cases c with
   |zero=>simp [DataW.trod] at hd
   | succ m=>
    simp only [DataW.trod,o] at hd
    split at hd
    ·obtain ⟨xs,F,g⟩:=Option.map_eq_some_iff.1 hd
     simp only [Prod.mk.injEq,DataW.agg.injEq] at g
     obtain ⟨rfl,rfl⟩:=g
     obtain ⟨K,E⟩:=Ez h
     obtain ⟨i,Q,L,R,a,y,u,J,I⟩:=E x r
     rw [List.getElem?_map,Option.map_eq_some_iff] at y
     obtain ⟨f,C,v⟩:=y
     simp only [Prod.mk.injEq] at v
     obtain ⟨rfl,rfl⟩:=v
     obtain ⟨b,G,D⟩:=Lib.mapM_at F i f C
     rw [List.getElem?_map,G] at u
     simp only [Option.map_some,Option.some.injEq] at u
     subst u
     obtain ⟨j,N,q⟩:=oz n _ _ _ _ J m _ b.2 D x I
     refine ⟨f.offset+j,by omega, ?_⟩
     rw [List.getElem?_take] at q
     split at q
     ·rwa [List.getElem?_drop] at q
     ·cases q
    ·cases hd
  ·rename_i k e M o
   cases c with
   |zero=>simp [DataW.trod] at hd
   | succ m=>
    simp only [DataW.trod,o] at hd
    split at hd
    ·obtain ⟨xs,F,g⟩:=Option.map_eq_some_iff.1 hd
     simp only [Prod.mk.injEq,DataW.agg.injEq] at g
     obtain ⟨rfl,rfl⟩:=g
     obtain ⟨K,E⟩:=Ez h
     obtain ⟨i,Q,L,R,a,y,u,J,I⟩:=E x r
     rw [List.getElem?_map,Option.map_eq_some_iff] at y
     obtain ⟨f,C,v⟩:=y
     simp only [Prod.mk.injEq] at v
     obtain ⟨rfl,rfl⟩:=v
     obtain ⟨b,G,D⟩:=Lib.mapM_at F i f C
     rw [List.getElem?_map,G] at u
     simp only [Option.map_some,Option.some.injEq] at u
     subst u
     obtain ⟨j,N,q⟩:=oz n _ _ _ _ J m _ b.2 D x I
     refine ⟨f*P.cellsOf e+j,by omega, ?_⟩
     rw [List.getElem?_take] at q
     split at q
     ·rwa [List.getElem?_drop] at q
     ·cases q
    ·cases hd
  ·rename_i U k T o
   cases h
   simp at r
   subst r
   obtain ⟨S,rfl,z,_⟩:=DataW.trod_int o hd
   simp only [Prod.mk.injEq,DataW.lit.injEq,Lit.int.injEq] at z
   obtain ⟨⟨rfl,rfl⟩,_⟩:=z
   exact ⟨0,rfl,rfl⟩
  ·rename_i b o
   cases h
   simp at r
   subst r
   cases c with
   |zero=>simp [DataW.trod] at hd
   |succ m=>
    unfold DataW.trod at hd
    rw [o] at hd
    split at hd<;>simp_all
    rfl
  ·rename_i s o
   cases h
   simp at r
   subst r
   cases c with
   |zero=>simp [DataW.trod] at hd
   |succ m=>
    unfold DataW.trod at hd
    rw [o] at hd
    split at hd<;>simp_all
    obtain ⟨_,rfl,_⟩:=hd
    rfl
  ·cases h
theorem yQ {P:Program} {w:World}:∀ {l:List (String × DataW Unit)} {ps:List MemPlace},DataW.LaidVars P w l ps→∀ n d,(n,d) ∈ l→∃ g t b a p,P.globalNamed n=some g∧(P.globals[g]?).map (·.type)=some t∧w.var? P n=some b∧DataW.trod (fun _=>()) P w 0 (fun _=>true) false a t b.toList=some (d,p)
 | [],_,_,n,d,hm=>by cases hm
 | (n',d')::r,ps,h,n,d,hm=>by
  obtain ⟨g,t,b,a,p,q,e,c,f,i,j,_⟩:=h
  rcases List.mem_cons.1 hm with he|hm
  ·cases he
   exact ⟨g,t,b,a,p,e,c,f,i⟩
  ·exact yQ j n d hm
theorem Ou {P:Program} {W:World} {a:List (String × DataW Unit)} (h:laidMetH P a W) (e:a.filter (fun x=>x.2.handleName?.isSome)= []) {n:String} {d:DataW Unit} (y:(n,d) ∈ a) {g:Nat} {t:TypeId} (f:P.globalNamed n=some g) (w:(P.globals[g]?).map (·.type)=some t)
  {ls:List Lit} (hl:lT P 6 t d 0=some (ls.zipIdx.map fun (l,i)=>(i,l))):∀ (j:Nat) (l:Lit),ls[j]? =some l→W.cell? ⟨g,j,none⟩=some (qj l):=by
 have c:laidMet P a W:=by
  unfold laidMetH at h
  rw [e] at h
  exact h
 obtain ⟨ps,r,_⟩:=c
 obtain ⟨g',B,o,b,p,s,q,z,v⟩:=yQ r n d y
 obtain rfl:=Option.some.inj (f.symm.trans s)
 obtain rfl:=Option.some.inj (w.symm.trans q)
 intro j l u
 obtain ⟨m,k,A⟩:=oz 6 t d 0 _ hl b o.toList p v (j,l) (by
  rw [List.mem_map]
  exact ⟨(l,j),by rw [List.mem_zipIdx_iff_getElem?];exact u,rfl⟩)
 have:m=j:=by simp at k;exact k.symm
 subst this
 rw [World.var?_cell f z m]
 simpa using A
def kQ (W:World):aV:=fun k o=>match W.cell? ⟨k,o,none⟩ with|some v=>if v.oneCell' then some v else none|none=>none
theorem Io {W:World} {k o:Nat} {v:Value} (h:W.cell? ⟨k,o,none⟩=some v) (a:v.oneCell'=true):kQ W k o=some v:=by
 unfold kQ;rw [h];simp only;rw [if_pos a]
theorem Nl {W:World} {k o:Nat} {v:Value} (h:kQ W k o=some v):ku W k o=some v:=by
 unfold kQ at h
 split at h
 ·rename_i c a
  split at h
  ·rename_i b;cases h;exact DN a b
  ·cases h
 ·cases h
theorem J3 (S:aV):∀ (ls:List Lit),ls.all EC=true→dQ S (ls.map Lj) (ls.map qj)
 | [],_=>by simp [dQ]
 |l::r,h=>by
  simp only [List.all_cons,Bool.and_eq_true] at h
  simp only [List.map_cons,dQ]
  refine ⟨?_,J3 S r h.2⟩
  cases l<;>simp only [Lj,qj,PR]<;>first|rfl|(exact absurd h.1 (by simp [EC]))
theorem Oz {l:Lit} (h:EC l=true):(qj l).oneCell'=true:=by
 cases l<;>first|rfl|(exact absurd h (by simp [EC]))
def UU (ap:AP) (W:World):Prop:=∀ k xs,(ap.gl[k]?).join=some xs→∃ ls:List Lit,xs=ls.map Lj∧ls.all EC=true∧∀ (j:Nat) (l:Lit),ls[j]? =some l→W.cell? ⟨k,j,none⟩=some (qj l)
theorem Z5 {ap:AP} {W:World} (h:UU ap W):UT ap (kQ W):=by
 intro k xs f
 obtain ⟨ls,rfl,b,e⟩:=h k xs f
 refine ⟨ls.map qj,J3 _ _ b, ?_⟩
 intro j u c
 rw [List.getElem?_map,Option.map_eq_some_iff] at c
 obtain ⟨l,a,rfl⟩:=c
 have d:=Oz (List.all_eq_true.1 b l (List.mem_of_getElem? a))
 refine ⟨?_,d⟩
 rw [Nat.zero_add]
 exact Io (e j l a) d
theorem adr {P:Program} {ap:AP} {f:Nat} {args:List AV} {b:Bool} (j:aA P ap f args [] (.ret (.bool b)) []) {W:World} (g:UU ap W) {cargs:List Value} (i:dQ (kQ W) args cargs):
  Calls P f cargs.toArray W fun e W'=>e= .returned (.bool b)∧Below W.heap.size W W':=by
 have m:bT ap (bG []) (fun _=>(0,0)) (kQ W) W:=
  ⟨fun b n B B' h=>by simp [bG] at h,fun b B h=>by simp [bG] at h,fun k o v h=>Nl h,fun b B h=>by simp [bG] at h,Z5 g⟩
 refine (j.calls (fun _=>(0,0)) (kQ W) W cargs m (bV _ i)).mono ?_
 rintro e W' ⟨m',S',hF⟩
 obtain ⟨_,a,c⟩:=hF
 obtain ⟨cv,rfl,d⟩:=c
 simp only [BV,VR,PR] at d
 subst d
 exact ⟨rfl,a.os,a.tape,a.output,a.size,fun k l=>a.rest k l fun b B h=>by simp [bG] at h⟩
def Dn (P:Program) (ts:List TypeId):Bool:=ts.all fun t=>P.readableRec t && decide (t<P.types.size)
theorem wS {H:Type} {enc:TypeId × Value→H} {P:Program} (c:laidOutB P=true) {W W':World} {b:Nat→Bool}:∀ {ts:List TypeId} {vs:List Value} {ds:List (DataW H)} {ps:List MemPlace},Dn P ts=true→DataW.TrodAll enc P W 0 (fun _=>true) true ts vs ds ps→(∀ p ∈ ps,W.sameAt W' p)→(∀ p ∈ ps,b p.block=true)→DataW.TrodAll enc P W' 0 b true ts vs ds ps
 | [],vs,ds,ps,_,h,_,_=>by
  obtain ⟨rfl,rfl,rfl⟩:=trodAll_nil h
  rfl
 |t::ts,vs,ds,ps,hf,h,hs,hsp=>by
  obtain ⟨v,i,d,g,p,q,rfl,rfl,rfl,f,e⟩:=trodAll_cons h
  simp only [Dn,List.all_cons,Bool.and_eq_true,decide_eq_true_eq] at hf
  exact trodAll_cons_mk (WideElems.Trod_stays c hf.1.1 hf.1.2 f (fun x a=>hs x (by simp [a])) (fun x a=>hsp x (by simp [a]))) (wS c (by simpa [Dn] using hf.2) e (fun x a=>hs x (by simp [a])) (fun x a=>hsp x (by simp [a])))
theorem ah7 {H:Type} {enc:TypeId × Value→H} {P:Program} {f:Func} {s:ChangeSpec} {apart fresh handsOn again:Bool} {W W':World} {args:Array Value} {g n:List (DataW H)} {before:List MemPlace} (w:laidOutB P=true) (v:Dn P f.params.toList=true)
  (hW:DataW.Whole enc P f.params.toList s.vars apart W args.toList g n before) (hvars:s.vars= []) {tb:TypeId} (hr:f.resultTypes=#[tb]) (htb:P.underlying tb=some .bool) (hfn:s.fn H (g++n)={results:= [.lit (.bool true)],args:=g,vars:= []})
  (hb:Below W.heap.size W W'):s.post enc P f apart fresh handsOn again W args (.bool true) W':=by
 have e:∀ p ∈ before,p.block<W.heap.size:=fun p hp=>hW.lt p hp
 have c:∀ p ∈ before,(fun b=>decide (b<W.heap.size)) p.block=true:=fun p hp=>by simpa using hW.lt p hp
 have i:=hW
 obtain ⟨p,q,u,t,rfl,r,o⟩:=hW
 rw [hvars] at t
 obtain ⟨rfl,rfl⟩:=trodVars_none t
 simp only [List.append_nil] at e c r o i hfn ⊢
 have hargs:∀ a:Nat→Bool,(∀ x ∈ p,a x.block=true)→DataW.TrodAll enc P W' 0 a true f.params.toList args.toList (s.fn H g).args p:=by
  intro a m
  rw [hfn]
  exact wS w v u (fun x h=>hb.same (e x h)) m
 have d:∀ (b:Nat) (a:Nat→Bool) (hd:Bool),DataW.TrodAll enc P W' b a hd f.resultTypes.toList ((Value.bool true).resultList f.resultTypes.size) (s.fn H g).results []:=by
  intro b a hd
  rw [hfn,hr]
  exact trodAll_cons_mk (p:= []) (shut_bool htb true) trodAll_mk0
 have j:∀ a:Nat→Bool,DataW.TrodVars enc P W' a s.vars (s.fn H g).vars []:=by
  intro a
  rw [hvars,hfn]
  rfl
 refine ⟨g,[],p,[],p,[],i,by rw [List.append_nil];exact d _ _ _,by rw [List.append_nil];exact hargs _ c,by rw [List.append_nil];exact j _,World.keptBut_mono (fun x h=>h) (hb.frame _),fun _=> ?_⟩
 refine ⟨ok_one hr rfl (okWide_bool_mk htb _),_,_,([]++p)++ [],⟨[]++p,[],trodAll_append (hargs _ (fun _ _=>rfl)) (d _ _ _),by simpa using j _,rfl, ?_, ?_⟩, ?_⟩
 ·intro b k hp
  have l:MemPlace.cell b k ∈ p:=by simpa using hp
  rw [hb.frozen (e _ l)]
  exact r b k l
 ·intro y
  simpa using o y
 ·intro x h _
  simpa using h
end AM
