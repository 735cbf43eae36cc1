/- The abstract machine over the code of the model, and the proof that it is sound. No conditions. -/
import Derived.Test.YtcjindbblhcopaaGreatDoorM3
import Derived.Recover
import Derived.ProofKit
import Derived.OpenShut
import Derived.LaidLaws
import Derived.LaidSub
import Derived.Lib.LaidTab
set_option linter.unusedSimpArgs false
set_option linter.unusedVariables false
namespace AM
open Go
theorem vZ {α:Type} {P:Program} {w:World} (f:α→Sem Value):∀ (l:List α) (vs:List Value),l.length=vs.length→(∀ (i:Nat) (x:α) (v:Value),l[i]? =some x→vs[i]? =some v→(f x).run P w= .ok v w)→(l.mapM f).run P w= .ok vs w
 | [],[],_,_=>rfl
 |a::l,v::vs,hl,h=>by
  rw [List.mapM_cons,Sem.run_bind,h 0 a v rfl rfl,Result.andThen_ok,Sem.run_bind,vZ f l vs (by simpa using hl) fun i x u b c=>h (i+1) x u (by simpa using b) (by simpa using c),Result.andThen_ok]
  rfl
 | [],_::_,hl,_=>by simp at hl
 |_::_,[],hl,_=>by simp at hl
def GV (tmps:Array Value):ResultVar→Sem Value
 | .tmp t=>pure (tmps.getD t undef)
 | .cell a t=>do loadVar t (← asAddr (tmps.getD a undef))
def U8 (vs:List Value):Value:=match vs with| [v]=>v|vs=> .tuple vs.toArray
theorem NW (a:Func) (tmps:Array Value):results a tmps=(do let vs ← a.results.mapM (GV tmps);pure (if h:vs.size=1 then vs[0] else .tuple vs)):=by
 unfold results
 congr 2
theorem uz {P:Program} {w:World} {a:Func} {tmps:Array Value} {vs:List Value} (b:a.results.toList.length=vs.length)
  (h:∀ (i:Nat) (r:ResultVar) (v:Value),a.results.toList[i]? =some r→vs[i]? =some v→(GV tmps r).run P w= .ok v w):
  (results a tmps).run P w= .ok (U8 vs) w:=by
 rw [NW,Array.mapM_eq_mapM_toList]
 simp only [bind_map_left]
 rw [Sem.run_bind,vZ _ _ vs b h,Result.andThen_ok]
 match vs with
 | []=>rfl
 | [v]=>rfl
 |_::_::_=>simp [U8]
theorem K_ {S:aW} {m:bf} {rd c:dR} {w:World} (h:∀ b B,rd b=some B→c b=some B):mi (dU S m rd w) (dU S m c w):=by
 intro k o v a
 unfold dU at a ⊢
 split at a
 ·rename_i u g;exact a
 ·rename_i g
  split at a
  ·rename_i f
   obtain ⟨b,B,i,d,e⟩:=f
   rw [if_pos ⟨b,B,h b B i,d,e⟩]
   exact a
  ·cases a
def cl (rd:dR) (v:AV):List Nat:=sN rd 6 (jy (fD v))
inductive FB (base:Nat) (rd:dR) (all:List Nat):AV→AV→Prop
 |own {b n:Nat} {B:bi}:rd b=some B→base≤b→B.fro=false→B.pr=true→gJ all b=1→0<B.esz→FB base rd all (.ref b B.ver 0 n) (.own (B.cells.take (n*B.esz)) n B.esz)
 |low {v:AV}:(∀ b ∈ fD v,b<base)→FB base rd all v v
 |frz {v v':AV}:(∀ b ∈ cl rd v,base≤b)→frz (fun b=>match pG (cl rd v) b with|true=>rd b|false=>none) 6 v=some v'→FB base rd all v v'
theorem Qv {base:Nat} {rd:dR} {v a:AV} (h:Xx base rd v=some a):(∀ b ∈ cl rd v,base≤b)∧frz (fun b=>match pG (cl rd v) b with|true=>rd b|false=>none) 6 v=some a:=by
 unfold Xx at h
 dsimp only at h
 split at h
 ·rename_i d
  exact ⟨fun b c=>gQ (List.all_eq_true.1 d b c),h⟩
 ·cases h
theorem Gm {base:Nat} {rd:dR} {all:List Nat} {v a:AV} (h:(match (fD v).all (fun b=>Nat.blt b base) with|true=>some v|false=>Xx base rd v)=some a):FB base rd all v a:=by
 split at h
 ·rename_i f
  cases h
  exact .low fun b d=>gm (List.all_eq_true.1 f b d)
 ·obtain ⟨e,c⟩:=Qv h
  exact .frz e c
theorem xX {base:Nat} {rd:dR} {all:List Nat} {v c:AV} (h:qW base rd all v=some c):FB base rd all v c:=by
 unfold qW at h
 dsimp only at h
 split at h
 ·rename_i b ver n
  split at h
  ·rename_i B g
   split at h
   ·rename_i d
    cases h
    simp only [Bool.and_eq_true,Bool.not_eq_true'] at d
    obtain ⟨⟨⟨⟨⟨i,a⟩,e⟩,j⟩,k⟩,f⟩:=d
    have a:=aO a
    subst a
    exact .own g (gQ i) e j (aO k) (gm f)
   ·exact Gm h
  ·cases h
 ·exact Gm h
theorem uM {l:List Nat} {b:Nat} (h:b ∈ l):1≤gJ l b:=by
 unfold gJ
 have:b ∈ l.filter (Nat.beq b):=by rw [List.mem_filter];exact ⟨h,Nat.beq_refl b⟩
 exact List.length_pos_of_mem this
theorem qR {l a:List Nat} {b:Nat}:gJ (l++a) b=gJ l b+gJ a b:=by simp [gJ,List.filter_append]
theorem yO {α:Type} {f:α→List Nat} {b:Nat}:∀ (vs:List α) (i j:Nat) (v v':α),vs[i]? =some v→vs[j]? =some v'→i ≠ j→b ∈ f v→b ∈ f v'→2≤gJ (vs.flatMap f) b
 | [],i,j,v,v',h,_,_,_,_=>by simp at h
 | a::r,i,j,v,v',hi,hj,hne,hb,hb'=>by
  have c:∀ (k:Nat) (u:α),r[k]? =some u→b ∈ f u→1≤gJ (r.flatMap f) b:=by
   intro k u d e
   exact uM (List.mem_flatMap.2 ⟨u,List.mem_of_getElem? d,e⟩)
  rw [List.flatMap_cons,qR]
  cases i with
  |zero=>
   simp at hi;subst hi
   cases j with
   |zero=>exact absurd rfl hne
   |succ j=>have:=c j v' (by simpa using hj) hb';have:=uM hb;omega
  | succ i=>
   cases j with
   |zero=>simp at hj;subst hj;have:=c i v (by simpa using hi) hb;have:=uM hb';omega
   |succ j=>
    have:=yO r i j v v' (by simpa using hi) (by simpa using hj) (by omega) hb hb'
    omega
def kU:List AV→List AV→List (Nat × bi)
 |v::r,.own xs _ esz::q=>(match v with| .ref b _ _ _=> [(b,IR xs esz)]|_=> [])++kU r q
 |_::r,_::q=>kU r q
 |_,_=> []
theorem jG {v x:AV} {r q:List AV} (h:∀ xs k e,x ≠ .own xs k e):kU (v::r) (x::q)=kU r q:=by
 cases x<;>first|rfl|exact absurd rfl (h _ _ _)
section
variable {P:Program} {ap:AP} {base:Nat} {rd:dR} {all:List Nat}
theorem wF {g:dR} {m:bf} {S:aW} {x:AV} {v:Value} (h:VR g m S x v):∀ xs k e,x ≠ .own xs k e:=by
 rintro xs k e rfl;simp [VR] at h
theorem BH {S:aW} {x:AV} {v:Value} (h:PR S x v):∀ xs k e,x ≠ .own xs k e:=by
 rintro xs k e rfl;simp [PR] at h
end
end AM
namespace AM
open Go
theorem DD {b:Nat}:∀ (l acc:List Nat),(b ∈ l∨b ∈ acc)→b ∈ l.foldl Ai acc
 | [],acc,h=>by simpa using h
 | a::r,acc,h=>by
  simp only [List.foldl_cons]
  refine DD r _ ?_
  rcases h with h|h
  ·rcases List.mem_cons.1 h with rfl|h
   ·right
    unfold Ai
    split
    ·rename_i c;exact jf.1 c
    ·simp
   ·exact .inl h
  ·right
   obtain h':=h
   unfold Ai
   split
   ·exact h
   ·simp [h]
theorem NG {l:List Nat} {b:Nat} (h:b ∈ l):b ∈ jy l:=DD l [] (.inl h)
theorem IK (l:List Nat):(jy l).Nodup:=(ou l [] (by simp)).1
theorem UI {rd:dR} {v:AV} {b:Nat} (h:b ∈ fD v):b ∈ cl rd v:=by
 obtain ⟨_,t,a⟩:=tJ rd 6 (jy (fD v)) (IK _)
 unfold cl
 rw [a]
 exact List.mem_append.2 (.inl (NG h))
theorem zi:∀ {vs l:List AV} {b:Nat} {Bo:bi},(b,Bo) ∈ kU vs l→∃ ver i n c k e,(AV.ref b ver i n,AV.own c k e) ∈ vs.zip l∧Bo=IR c e
 | [],l,b,Bo,h=>by cases l<;>simp [kU] at h
 |v::r,[],b,Bo,h=>by simp [kU] at h
 | v ::r,x::q,b,Bo,h=>by
  rcases jL x with ⟨c,k,e,rfl⟩|hx
  ·simp only [kU,List.mem_append] at h
   rcases h with h|h
   ·cases v with
    |ref b' ver i n=>
     simp at h
     obtain ⟨rfl,rfl⟩:=h
     exact ⟨ver,i,n,c,k,e,by simp,rfl⟩
    |_=>simp at h
   ·obtain ⟨ver,i,n,a,f,j,g,d⟩:=zi h
    exact ⟨ver,i,n,a,f,j,by simp [g],d⟩
  ·rw [jG hx] at h
   obtain ⟨ver,i,n,a,f,j,g,d⟩:=zi h
   exact ⟨ver,i,n,a,f,j,by simp [g],d⟩
theorem DT {rd:dR} {b:Nat}:∀ (vs l:List AV),gJ ((kU vs l).flatMap fun q=> [q.1]) b≤gJ (vs.flatMap (cl rd)) b
 | [],l=>by cases l<;>simp [kU,gJ]
 |v::r,[]=>by simp [kU,gJ]
 | v :: r,x::q=>by
  have d:=DT (rd:=rd) (b:=b) r q
  rw [List.flatMap_cons,qR]
  rcases jL x with ⟨f,k,e,rfl⟩|hx
  ·simp only [kU,List.flatMap_append,qR]
   cases v with
   | ref b' ver i n=>
    simp only [List.flatMap_cons,List.flatMap_nil,List.append_nil]
    have:gJ [b'] b≤gJ (cl rd (.ref b' ver i n)) b:=by
     by_cases hb:b=b'
     ·subst hb
      have a:gJ [b] b=1:=by simp [gJ]
      rw [a]
      exact uM (UI (by simp [fD]))
     ·have a:gJ [b'] b=0:=by
       have:Nat.beq b b'=false:=by
        cases c:Nat.beq b b' with
        |false=>rfl
        |true=>exact absurd (aO c) hb
       simp [gJ,this]
      omega
    omega
   |_=>simp [gJ] at*;omega
  ·rw [jG hx];omega
theorem D9:∀ (vs l:List AV) (n:Nat),vs.length=l.length→(∀ v x,(v,x) ∈ vs.zip l→(∃ c k e,x= .own c k e)→∃ b ver i n,v= .ref b ver i n)→(gy n l).2=(kU vs l).map (·.2)
 | [],[],n,_,_=>by simp [gy,kU]
 | v::r,x::q,n,hl,h=>by
  have d:=fun n=>D9 r q n (by simpa using hl) fun v x f a=>h v x (by simp [f]) a
  rcases jL x with ⟨c,k,e,rfl⟩|a
  ·obtain ⟨b,ver,i,g,rfl⟩:=h v _ (by simp) ⟨c,k,e,rfl⟩
   simp only [gy,kU,d]
   simp
  ·rw [bJ n a,jG a]
   exact d n
 | [],_::_,_,hl,_=>by simp at hl
 |_::_,[],_,hl,_=>by simp at hl
theorem IQ {rd gh gf:dR} {m t:bf} {S S':aW}:∀ (vs l:List AV) (cvs:List Value) (n:Nat),vs.length=l.length→bF rd m S vs cvs→
  (∀ v x,(v,x) ∈ vs.zip l→(∃ a k e,x= .own a k e)→∃ b ver n,v= .ref b ver 0 n∧∃ a e,x= .own a n e)→
  (∀ v x c,(v,x) ∈ vs.zip l→(∀ a k e,x ≠ .own a k e)→VR rd m S v c→VR gh t S' x c)→
  (∀ (k b:Nat) (Bo:bi),(kU vs l)[k]? =some (b,Bo)→∀ ver o c,VR rd m S (.ref b ver 0 o) c→(∃ a e,(AV.ref b ver 0 o,AV.own a o e) ∈ vs.zip l)→VR gf t S' (.ref (n+k) 0 0 o) c)→jO gh gf t S' n l cvs
 | [],[],[],n,_,_,_,_,_=>by simp [jO]
 | v::r,x::q,c::cs,n,hl,hv,ho,hx,hr=>by
  simp only [bF] at hv
  rcases jL x with ⟨a,k,e,rfl⟩|hxo
  ·obtain ⟨b,ver,o,rfl,w,z,y⟩:=ho v _ (by simp) ⟨a,k,e,rfl⟩
   cases y
   simp only [jO]
   refine ⟨?_, ?_⟩
   ·have:=hr 0 b (IR a e) (by simp [kU]) ver k c hv.1 ⟨a,e,by simp⟩
    rwa [Nat.add_zero] at this
   ·refine IQ r q cs (n+1) (by simpa using hl) hv.2 (fun v x i=>ho v x (by simp [i])) (fun v x c i=>hx v x c (by simp [i])) ?_
    intro j p Bo s d h u f g
    have:=hr (j+1) p Bo (by simpa [kU] using s) d h u f (by obtain ⟨a,e,g⟩:=g;exact ⟨a,e,by simp [g]⟩)
    rwa [show n+(j+1)=n+1+j by omega] at this
  ·rw [b_ hxo]
   refine ⟨hx v x c (by simp) hxo hv.1, ?_⟩
   refine IQ r q cs n (by simpa using hl) hv.2 (fun v x i=>ho v x (by simp [i])) (fun v x c i=>hx v x c (by simp [i])) ?_
   intro j p Bo s d h u f g
   exact hr j p Bo (by rw [jG hxo];exact s) d h u f (by obtain ⟨a,e,g⟩:=g;exact ⟨a,e,by simp [g]⟩)
 | [],_::_,_,_,hl,_,_,_,_=>by simp at hl
 |_::_,[],_,_,hl,_,_,_,_=>by simp at hl
 | [],[],_::_,_,_,hv,_,_,_=>by simp [bF] at hv
 |_::_,_::_,[],_,_,hv,_,_,_=>by simp [bF] at hv
theorem KA {α β:Type} {f:α→Option β}:∀ {l:List α} {l':List β},kK f l=some l'→∀ x y,(x,y) ∈ l.zip l'→f x=some y
 | [],l',h,x,y,hm=>by simp at hm
 | a::r,l',h,x,y,hm=>by
  simp only [kK] at h
  split at h
  ·rename_i b d
   split at h
   ·rename_i q c
    cases h
    simp only [List.zip_cons_cons,List.mem_cons,Prod.mk.injEq] at hm
    rcases hm with ⟨rfl,rfl⟩|hm
    ·exact d
    ·exact KA c x y hm
   ·cases h
  ·cases h
theorem PU {α β:Type} {l:List α} {a:List β} {x:α} {y:β} (h:(x,y) ∈ l.zip a):∃ i:Nat,l[i]? =some x∧a[i]? =some y:=by
 obtain ⟨i,b⟩:=List.mem_iff_getElem?.1 h
 rw [List.getElem?_zip_eq_some] at b
 exact ⟨i,b⟩
theorem WA {g:dR} {m:bf} {S:aW} {l:List AV} {vs:List Value} (h:bF g m S l vs) {x:AV} (a:x ∈ l):∃ v,VR g m S x v:=by
 obtain ⟨i,c⟩:=List.mem_iff_getElem?.1 a
 obtain ⟨v,_,b⟩:=qO h i c
 exact ⟨v,b⟩
end AM
namespace AM
open Go
section
variable {P:Program} {ap:AP}
theorem wM {h0 F:List bi} {hp:Hp} {m m0:bf} {S S0:aW} {w w0:World} {vs l:List AV} {cvs:List Value} (W:bY ap (aG hp) m S w) (z:Fr (bI h0) m0 S0 w0 (aG hp) m S w) (hv:bF (aG hp) m S vs cvs)
  {N:Nat} (hN:h0.length≤N) (hl:kK (qW N (aG hp) (vs.flatMap (cl (aG hp)))) vs=some l) (hh':kK (aG hp) (List.range N)=some F) (hbase:F.all (fun B=>B.pr||(dn B.cells).all fun b=>Nat.blt b N)=true):
  ∃ m' S',bY ap (bI (F++(gy F.length l).2)) m' S' w∧Fr (bI h0) m0 S0 w0 (bI (F++(gy F.length l).2)) m' S' w∧jO (bI F) (bI (F++(gy F.length l).2)) m' S' F.length l cvs:=by
 have Y:=(jv hl).1
 have hz:∀ v x,(v,x) ∈ vs.zip l→FB N (aG hp) (vs.flatMap (cl (aG hp))) v x:=fun v x E=>xX (KA hl v x E)
 have M:∀ v x,(v,x) ∈ vs.zip l→(∃ O k e,x= .own O k e)→∃ (b n:Nat) (B:bi),v= .ref b B.ver 0 n∧aG hp b=some B∧N≤b∧B.fro=false∧B.pr=true∧gJ (vs.flatMap (cl (aG hp))) b=1∧0<B.esz∧x= .own (B.cells.take (n*B.esz)) n B.esz:=by
  rintro v x E ⟨O,k,e,rfl⟩
  obtain ⟨c,T⟩:=WA hv (List.of_mem_zip E).1
  generalize hxe:AV.own O k e=x at E
  cases hz v x E with
  |own a d p t A Q=>exact ⟨_,_,_,rfl,a,d,p,t,A,Q,rfl⟩
  |low a=>exact absurd hxe.symm (wF T _ _ _)
  |frz a d=>
   refine absurd hxe.symm (BH (lh W (fun b B g=> ?_) 6 v c x d T) _ _ _)
   split at g
   ·exact g
   ·cases g
 generalize J:kU vs l=obs
 have hbs:∀ n,(gy n l).2=obs.map (·.2):=by
  intro n
  rw [← J]
  refine D9 vs l n Y.symm fun v x E X=> ?_
  obtain ⟨b,n',B,a,_⟩:=M v x E X
  exact ⟨b,_,0,n',a⟩
 rw [hbs]
 have C:∀ b Bo,(b,Bo) ∈ obs→∃ (n:Nat) (B:bi),aG hp b=some B∧N≤b∧B.fro=false∧B.pr=true∧gJ (vs.flatMap (cl (aG hp))) b=1∧0<B.esz∧Bo=IR (B.cells.take (n*B.esz)) B.esz∧(AV.ref b B.ver 0 n,AV.own (B.cells.take (n*B.esz)) n B.esz) ∈ vs.zip l:=by
  intro b Bo E
  rw [← J] at E
  obtain ⟨ver,i,n,O,k,e,a,d⟩:=zi E
  obtain ⟨b',n',B,p,t,A,Q,V,U,Z,D⟩:=M _ _ a ⟨O,k,e,rfl⟩
  cases p
  cases D
  exact ⟨_,B,t,A,Q,V,U,Z,d,a⟩
 have hobd:∀ (k k' b:Nat) (Bo Bo':bi),obs[k]? =some (b,Bo)→obs[k']? =some (b,Bo')→k=k':=by
  intro k k' b Bo Bo' a d
  obtain ⟨n,B,_,_,_,_,A,_⟩:=C b Bo (List.mem_of_getElem? a)
  by_cases s:k=k'
  ·exact s
  ·have p:=yO (f:=fun q:Nat × bi=> [q.1]) obs k k' _ _ a d s (b:=b) (by simp) (by simp)
   have t:=DT (rd:=aG hp) (b:=b) vs l
   rw [J] at t
   omega
 have hobx:∀ b Bo,(b,Bo) ∈ obs→∀ v x,(v,x) ∈ vs.zip l→(∀ O k e,x ≠ .own O k e)→b ∉ cl (aG hp) v:=by
  intro b Bo E v x hvx X g
  obtain ⟨n,B,_,_,_,_,A,_,_,Q⟩:=C b Bo E
  obtain ⟨i,V,U⟩:=PU Q
  obtain ⟨j,Z,D⟩:=PU hvx
  have hne:i ≠ j:=by
   rintro rfl
   rw [U] at D
   cases D
   exact X _ _ _ rfl
  have:=yO (f:=cl (aG hp)) vs i j _ _ V Z hne (b:=b) (UI (by simp [fD])) g
  omega
 have hl0:F.length=N:=by rw [(jv hh').1];simp
 have K:∀ b,b<N→∃ B,aG hp b=some B∧bI F b=some B:=by
  intro b g
  obtain ⟨B,a,d⟩:=(jv hh').2 b b (by simp [g])
  exact ⟨B,d,a⟩
 have hlow':∀ b B,bI F b=some B→b<N∧aG hp b=some B:=by
  intro b B g
  have G:b<N:=by
   have:=(List.getElem?_eq_some_iff.1 g).1
   omega
  obtain ⟨B',a,d⟩:=K b G
  rw [g] at d;cases d
  exact ⟨G,a⟩
 let rdF:dR:=open Classical in fun b=>if ∃ v x,(v,x) ∈ vs.zip l∧(∀ O k e,x ≠ .own O k e)∧b ∈ cl (aG hp) v∧∀ y ∈ cl (aG hp) v,N≤y then aG hp b else none
 have R:∀ b B,rdF b=some B→aG hp b=some B∧N≤b∧∀ Bo,(b,Bo) ∉ obs:=by
  intro b B g
  dsimp only [rdF] at g
  split at g
  ·rename_i T
   obtain ⟨v,x,a,d,p,t⟩:=T
   exact ⟨g,t b p,fun Bo E=>hobx b Bo E v x a d p⟩
  ·cases g
 have r:=mO S m rdF w
 let m':bf:=fun i=>if i<N then m i else m ((obs.map (·.1)).getD (i - N) 0)
 have hm'lo:∀ i,i<N→m' i=m i:=fun i I=>if_pos I
 have hm'hi:∀ (k b:Nat) (Bo:bi),obs[k]? =some (b,Bo)→m' (N+k)=m b:=by
  intro k b Bo s
  show (if _ then _ else _)=_
  rw [if_neg (by omega),show N+k - N=k by omega,List.getD_eq_getElem?_getD,List.getElem?_map,s]
  rfl
 have hgf:∀ i Bi,bI (F++obs.map (·.2)) i=some Bi→(i<N∧aG hp i=some Bi∧bI F i=some Bi)∨(∃ k b,i=N+k∧obs[k]? =some (b,Bi)):=by
  intro i Bi I
  by_cases G:i<N
  ·rw [fO (by omega)] at I
   exact .inl ⟨G,(hlow' i Bi I).2,I⟩
  ·rw [jq (by omega),hl0] at I
   right
   refine ⟨i - N, ?_⟩
   have hi':(obs.map (·.2))[i - N]? =some Bi:=I
   rw [List.getElem?_map,Option.map_eq_some_iff] at hi'
   obtain ⟨⟨b,Bo⟩,a,d⟩:=hi'
   exact ⟨b,by omega,by rw [a];simp at d;rw [d]⟩
 have hgfk:∀ (k b:Nat) (Bo:bi),obs[k]? =some (b,Bo)→bI (F++obs.map (·.2)) (N+k)=some Bo:=by
  intro k b Bo s
  rw [jq (by omega),hl0,show N+k - N=k by omega]
  show (obs.map (·.2))[k]? =_
  rw [List.getElem?_map,s];rfl
 have L:∀ i Bi,bI (F++obs.map (·.2)) i=some Bi→∃ b B,aG hp b=some B∧m' i=m b∧((i<N∧b=i∧Bi=B)∨(N≤b∧∃ k,i=N+k∧obs[k]? =some (b,Bi))):=by
  intro i Bi I
  rcases hgf i Bi I with ⟨a,d,p⟩|⟨k,b,rfl,s⟩
  ·exact ⟨i,Bi,d,hm'lo i a,.inl ⟨a,rfl,rfl⟩⟩
  ·obtain ⟨n,B,a,d,_⟩:=C b Bi (List.mem_of_getElem? s)
   exact ⟨b,B,a,hm'hi k b Bi s,.inr ⟨d,k,rfl,s⟩⟩
 refine ⟨m',dU S m rdF w, ?_, ?_, ?_⟩
 ·refine ⟨?_, ?_,fun k o v h=>oV W h, ?_, ?_⟩
  ·intro i j Bi Bj I hj e
   obtain ⟨b,B,a,d,p⟩:=L i Bi I
   obtain ⟨b',B',h1',h2',h3'⟩:=L j Bj hj
   rw [d,h2'] at e
   have:=W.inj b b' B B' a h1' e
   subst this
   rcases p with ⟨t,rfl,_⟩|⟨t,k,rfl,s⟩<;>rcases h3' with ⟨h4',rfl,_⟩|⟨h4',k',rfl,hk'⟩
   ·rfl
   ·omega
   ·omega
   ·rw [hobd k k' b _ _ s hk']
  ·intro i Bi I
   rcases hgf i Bi I with ⟨a,d,p⟩|⟨k,b,rfl,s⟩
   ·rw [hm'lo i a]
    obtain ⟨⟨cur,e,us,rest,k1,k2,k3,k4,k5,k6⟩,k7,k8⟩:=W.blk i Bi d
    refine ⟨⟨cur,e,us,rest,k1,k2,fun hp=>bP r _ (k3 hp), ?_,k5,k6⟩,k7,k8⟩
    cases hpr:Bi.pr with
    |true=>exact bV _ (bP r _ (k3 hpr))
    |false=>
     refine mJ r _ (fun b g=> ?_) k4
     have A:=List.all_eq_true.1 hbase Bi (List.mem_of_getElem? p)
     rw [hpr] at A
     simp only [Bool.false_or] at A
     have Q:=gm (List.all_eq_true.1 A b g)
     obtain ⟨B,V,U⟩:=K b Q
     exact ⟨by rw [fO (by omega),U,V],hm'lo b Q⟩
   ·obtain ⟨n,B,a,d,p,t,A,Q,rfl,_⟩:=C b Bi (List.mem_of_getElem? s)
    rw [hm'hi k b _ s]
    obtain ⟨⟨cur,e,us,rest,k1,k2,k3,k4,k5,k6⟩,k7,k8⟩:=W.blk b B a
    have hp:=bP r _ (kN (n*B.esz) (k3 t))
    refine ⟨⟨cur,e,us.take (n*B.esz),us.drop (n*B.esz)++rest,k1, ?_,fun _=>hp,bV _ hp,fun hz u hu=>k5 hz u (List.mem_of_mem_take hu),k6⟩,fun _=>rfl,Nat.zero_le _⟩
    rw [← List.append_assoc,List.take_append_drop];exact k2
  ·intro i Bi I o v ho
   obtain ⟨b,B,a,d,p⟩:=L i Bi I
   rw [d] at ho
   have hno:rdF b=none:=by
    cases hr:rdF b with
    |none=>rfl
    |some B'=>
     obtain ⟨_,t,A⟩:=R b B' hr
     rcases p with ⟨Q,rfl,_⟩|⟨_,k,_,s⟩
     ·omega
     ·exact absurd (List.mem_of_getElem? s) (A _)
   have hSo:S (m b).1 o=some v:=by
    rcases gz ho with h|⟨_,b',B',t,A,_⟩
    ·exact h
    ·have:=W.inj b' b B' B (R b' B' t).1 a A
     subst this
     rw [hno] at t;cases t
   obtain ⟨V,U⟩:=W.own b B a o v hSo
   rcases p with ⟨_,rfl,rfl⟩|⟨_,k,_,s⟩
   ·exact ⟨V,U⟩
   ·obtain ⟨n,B2,Z,_,D,_⟩:=C b _ (List.mem_of_getElem? s)
    rw [a] at Z;cases Z
    rw [V] at D;cases D
  ·intro k O s
   obtain ⟨us,a,d⟩:=W.glob k O s
   exact ⟨us,bP r _ a,d.mono r⟩
 ·refine ⟨?_,z.sle.trans r,z.os,z.tape,z.output,z.size,z.rest, ?_, ?_⟩
  ·intro b B0 g
   have G:b<N:=Nat.lt_of_lt_of_le (List.getElem?_eq_some_iff.1 g).1 hN
   obtain ⟨B,a,d,p⟩:=z.ge b B0 g
   obtain ⟨B',t,A⟩:=K b G
   rw [a] at t;cases t
   exact ⟨B,by rw [fO (by omega)];exact A,d,by rw [hm'lo b G];exact p⟩
  ·intro i Bi I
   obtain ⟨b,B,a,d,p⟩:=L i Bi I
   rw [d]
   rcases z.img b B a with h|⟨B0,t,A⟩
   ·exact .inl h
   ·have G:b<N:=Nat.lt_of_lt_of_le (List.getElem?_eq_some_iff.1 t).1 hN
    rcases p with ⟨_,rfl,_⟩|⟨Q,_⟩
    ·exact .inr ⟨B0,t,A⟩
    ·omega
  ·intro k o v hv
   rcases gz hv with h|⟨_,b,B,a,d,_⟩
   ·exact z.sealN k o v h
   ·obtain ⟨p,t,_⟩:=R b B a
    rcases z.img b B p with h|⟨B0,A,_⟩
    ·exact .inr (.inl (d ▸ h))
    ·have:=(List.getElem?_eq_some_iff.1 A).1
     omega
 ·rw [hl0]
  refine IQ (rd:=aG hp) (m:=m) (S:=S) vs l cvs N Y.symm hv ?_ ?_ ?_
  ·intro v x E X
   obtain ⟨b,n,B,a,_,_,_,_,_,_,d⟩:=M v x E X
   exact ⟨b,B.ver,n,a,_,_,d⟩
  ·intro v x c E X T
   cases hz v x E with
   |own _ _ _ _ _ _=>exact absurd rfl (X _ _ _)
   |low a=>
    refine xu r v (fun b g=> ?_) T
    obtain ⟨B,d,p⟩:=K b (a b g)
    exact ⟨by rw [p,d],hm'lo b (a b g)⟩
   | frz a d=>
    have p:=lh W (fun b B g=>by split at g;exact g;cases g) 6 v c x d T
    refine iP x (dC (K_ fun b B g=> ?_) x p)
    split at g
    ·rename_i hm2
     dsimp only [rdF]
     rw [if_pos ⟨v,x,E,X,jf.1 hm2,a⟩]
     exact g
    ·cases g
  ·rw [J]
   intro k b Bo s ver n' c T hzz
   obtain ⟨n,B,a,d,p,t,A,Q,rfl,V⟩:=C b Bo (List.mem_of_getElem? s)
   obtain ⟨O,e,hzz⟩:=hzz
   have hver:ver=B.ver:=by
    obtain ⟨b2,n2,B2,e1,e2,_⟩:=M _ _ hzz ⟨O,_,e,rfl⟩
    cases e1
    rw [a] at e2;cases e2;rfl
   subst hver
   simp only [VR] at T ⊢
   obtain ⟨B',U,_,Z,D⟩:=T
   rw [a] at U;cases U
   refine ⟨_,hgfk k b _ s,Nat.zero_le _,Z,fun _=> ?_⟩
   rw [hm'hi k b _ s]
   exact D rfl
end
end AM
namespace AM
open Go
section
variable {P:Program} {ap:AP}
theorem Fp (l:jd P ap) {env:iV} {hp:Hp} {m:bf} {S:aW} {w:World} {tmps:Array Value} (D:bY ap (aG hp) m S w) (y:∀ t,VR (aG hp) m S (env.get t) (tmps.getD t undef)) {r:ResultVar} {v:AV} {bs:List Bool}
  (h:yu ap env hp r=some (v,bs)) (hbs:∀ b ∈ bs,b=true):∃ cv,(GV tmps r).run P w= .ok cv w∧VR (aG hp) m S v cv:=by
 cases r with
 |tmp t=>
  simp only [yu,Option.some.injEq,Prod.mk.injEq] at h
  obtain ⟨rfl,rfl⟩:=h
  exact ⟨_,rfl,y t⟩
 | cell a t=>
  simp only [yu] at h
  have C:=bind_some h;clear h;obtain ⟨I,p,h⟩:=C
  simp only [Option.map_eq_some_iff] at h
  obtain ⟨⟨J,ups,A⟩,j,q⟩:=h
  simp only [Prod.mk.injEq] at q
  obtain ⟨rfl,rfl⟩:=q
  obtain ⟨i,d,z,F⟩:=fA l p
  have c:=y a
  obtain ⟨_,cv,s,E⟩:=zS D (fun b B G=>G) F c j hbs
  refine ⟨cv, ?_,E⟩
  have g:∃ x,tmps.getD a undef= .pointer (some x):=by
   unfold Ky at j
   split at j
   ·rename_i K n f
    rw [f] at c
    simp only [VR,PR] at c
    obtain ⟨b,o,vs,e,_⟩:=c
    exact ⟨_,e⟩
   ·rename_i b ver n f
    rw [f] at c
    simp only [VR] at c
    obtain ⟨B,_,_,⟨k,o,e⟩,_⟩:=c
    exact ⟨_,e⟩
   ·cases j
  obtain ⟨x,u⟩:=g
  rw [u] at s
  simp only [GV,u]
  exact s
theorem pR (a:jd P ap) {env:iV} {hp:Hp} {m:bf} {S:aW} {w:World} {tmps:Array Value} (g:bY ap (aG hp) m S w) (f:∀ t,VR (aG hp) m S (env.get t) (tmps.getD t undef)):
  ∀ {rs:List ResultVar} {vs:List (AV × List Bool)},kK (yu ap env hp) rs=some vs→(∀ b ∈ vs.flatMap (·.2),b=true)→∃ cvs:List Value,rs.length=cvs.length∧bF (aG hp) m S (vs.map (·.1)) cvs∧∀ (i:Nat) (r:ResultVar) (v:Value),rs[i]? =some r→cvs[i]? =some v→(GV tmps r).run P w= .ok v w
 | [],vs,h,_=>by
  simp [kK] at h
  subst h
  exact ⟨[],rfl,by simp [bF],fun i r v h=>by simp at h⟩
 | r::rs,vs,h,hbs=>by
  simp only [kK] at h
  split at h
  ·rename_i q o
   split at h
   ·rename_i l p
    cases h
    obtain ⟨v,bs⟩:=q
    obtain ⟨cv,s,j⟩:=Fp a g f o (fun b e=>hbs b (by simp [e]))
    obtain ⟨cvs,k,u,x⟩:=pR a g f p (fun b e=>hbs b (by rw [List.flatMap_cons];exact List.mem_append.2 (.inr e)))
    refine ⟨cv::cvs,by simp [k],by simp only [List.map_cons,bF];exact ⟨j,u⟩, ?_⟩
    intro i r' n c d
    cases i with
    |zero=>simp at c d;subst c;subst d;exact s
    |succ i=>exact x i r' n (by simpa using c) (by simpa using d)
   ·cases h
  ·cases h
theorem SI {gh gf:dR} {m:bf} {S:aW} {n:Nat} {x:AV} {v:Value} (h:jO gh gf m S n [x] [v]):xk gh gf m S n x v∧(jZ n x).2=(gy n [x]).2:=by
 rcases jL x with ⟨i,k,e,rfl⟩|hx
 ·simp only [jO] at h
  exact ⟨h.1,rfl⟩
 ·rw [b_ hx] at h
  rcases zA x with ⟨l,rfl⟩|ht
  ·have f:=h.1
   simp only [VR] at f
   obtain ⟨vs,rfl,g⟩:=f
   have key:∀ (l:List AV) (vs:List Value) (n:Nat),bF gh m S l vs→jO gh gf m S n l vs∧(gy n l).2= []:=by
    intro l
    induction l with
    |nil=>intro vs n a;cases vs with
     |nil=>exact ⟨by simp [jO],rfl⟩
     |cons _ _=>simp [bF] at a
    | cons y r ih=>intro vs n a;cases vs with
     |nil=>simp [bF] at a
     |cons u us=>
      simp only [bF] at a
      have b:=wF a.1
      obtain ⟨c,d⟩:=ih us n a.2
      rw [b_ b,bJ n b]
      exact ⟨⟨a.1,c⟩,d⟩
   obtain ⟨c,d⟩:=key l vs n g
   refine ⟨?_, ?_⟩
   ·simp only [xk]
    exact ⟨vs,rfl,c⟩
   ·simp only [jZ,gy]
    exact d
  ·rw [kY hx ht,jB n hx ht,bJ n hx]
   exact ⟨h.1,rfl⟩
theorem vk (rd:dR) (n:Nat):n≤Ru rd n:=by
 obtain ⟨_,t,a⟩:=tJ rd 20 (List.range n) List.nodup_range
 unfold Ru
 rw [a,List.length_append,List.length_range]
 exact Nat.le_add_right _ _
theorem lH (n:jd P ap) {h0 o:List bi} {G:Func} {env:iV} {hp:Hp} {m m0:bf} {S S0:aW} {w w0:World} {tmps:Array Value} {c J:Cx} {out:kM} (h:uX ap h0.length G env hp c= .ok (out,o) J) (I:J.Ok):
  c.Ok∧h0.length≤o.length∧(bY ap (aG hp) m S w→Fr (bI h0) m0 S0 w0 (aG hp) m S w→(∀ t,VR (aG hp) m S (env.get t) (tmps.getD t undef))→
   ∃ cv,(results G tmps).run P w= .ok cv w∧∃ r S',E8 ap h0 m0 S0 w0 out o r S' w (.returned cv)):=by
 unfold uX at h
 dsimp only at h
 split at h
 ·rename_i vs K s b
  split at h
  ·cases h
  ·rename_i hbase
   obtain ⟨_,L,F,h⟩:=R.bind_ok h
   split at h
   ·rename_i v i
    cases h
    obtain ⟨e,j⟩:=Ii F I
    have hlen':h0.length≤o.length:=by rw [(jv b).1];simpa using vk _ _
    refine ⟨e,hlen',fun p g C=> ?_⟩
    obtain ⟨cvs,D,k,z⟩:=pR n p C s j
    have a:(vs.flatMap fun q=>sN (aG hp) 6 (jy (fD q.1)))=(vs.map (·.1)).flatMap (cl (aG hp)):=by rw [List.flatMap_map];rfl
    rw [a] at i
    obtain ⟨r,S',x,y,B⟩:=wM p g k (vk _ _) i b hbase
    have A:cvs.length=1:=by
     have:=cO k
     have f:=(jv i).1
     simp at f this
     omega
    match cvs,A with
    | [cv],_=>
     obtain ⟨f,E⟩:=SI B
     refine ⟨cv,uz D z,r,S', ?_⟩
     rw [← E] at x y
     refine ⟨x,y,cv,rfl, ?_⟩
     rw [E]
     exact f
   ·rename_i l d i
    cases h
    obtain ⟨e,j⟩:=Ii F I
    have hlen':h0.length≤o.length:=by rw [(jv b).1];simpa using vk _ _
    refine ⟨e,hlen',fun p g C=> ?_⟩
    obtain ⟨cvs,D,k,z⟩:=pR n p C s j
    have a:(vs.flatMap fun q=>sN (aG hp) 6 (jy (fD q.1)))=(vs.map (·.1)).flatMap (cl (aG hp)):=by rw [List.flatMap_map];rfl
    rw [a] at i
    obtain ⟨r,S',x,y,B⟩:=wM p g k (vk _ _) i b hbase
    have u:U8 cvs= .tuple cvs.toArray:=by
     match cvs with
     | []=>rfl
     | [cv]=>
      exfalso
      have:=cO k
      have f:=(jv i).1
      simp at f this
      match l,d with
      | [],_=>simp at f;omega
      | [v],d=>exact d v rfl
      |_::_::_,_=>simp at f;omega
     |_::_::_=>rfl
    refine ⟨_,uz D z,r,S',x,y, ?_⟩
    rw [u]
    exact ⟨_,rfl,cvs,rfl,B⟩
   ·cases h
 ·cases h
theorem yj {h0 g:List bi} {v:AV} {hp:Hp} {m m0:bf} {S S0:aW} {w w0:World} {c x:Cx} {out:kM} (h:IV h0.length v hp c= .ok (out,g) x):
  c=x∧h0.length≤g.length∧(bY ap (aG hp) m S w→Fr (bI h0) m0 S0 w0 (aG hp) m S w→∀ cv,VR (aG hp) m S v cv→(∀ b ver n,v ≠ .ref b ver 0 n)→
   ∃ s S',E8 ap h0 m0 S0 w0 out g s S' w (.panicked [{v:=cv,recovered:=false}])):=by
 unfold IV at h
 dsimp only at h
 split at h
 ·rename_i j A a f
  split at h
  ·cases h
  ·rename_i hbase
   cases h
   have hlen':h0.length≤g.length:=by rw [(jv f).1];simpa using vk _ _
   refine ⟨rfl,hlen',fun u r cv p l=> ?_⟩
   have y:kK (qW (Ru (aG hp) h0.length) (aG hp) ([v].flatMap (cl (aG hp)))) [v]=some [j]:=by
    simp only [List.flatMap_cons,List.flatMap_nil,List.append_nil,kK]
    have z:qW (Ru (aG hp) h0.length) (aG hp) (cl (aG hp) v) v=some j:=a
    rw [z]
   obtain ⟨s,S',o,t,i⟩:=wM u r (vs:= [v]) (cvs:= [cv]) (by simp only [bF];exact ⟨p,trivial⟩) (vk _ _) y f hbase
   have d:∀ xs k e,j ≠ .own xs k e:=by
    rintro xs k e rfl
    cases xX a with
    |own h1 h2 h3 o t i=>exact l _ _ _ rfl
    |low h1=>exact wF p _ _ _ rfl
    |frz h1 h2=>
     exact BH (lh u (fun b B q=>by split at q;exact q;cases q) 6 v cv _ h2 p) _ _ _ rfl
   rw [b_ d] at i
   rw [bJ _ d] at o t
   exact ⟨s,S',o,t,cv,rfl,i.1⟩
 ·cases h
end
end AM
namespace AM
open Go
def rZ (S:aW):AV→FrameMode→Prop
 | .nilI,u=>u= .returning
 | .ifc t v,u=> ∃ cv,u= .panicking [{v:=cv,recovered:=false}]∧PR S (.ifc t v) cv
 |_,_=>False
def L6 (md md':AV) (u u':FrameMode):Prop:=(md'=md∧u'=u)∨(md'= .nilI∧settle u'= .returning)
structure Wv (P:Program) (ap:AP) (f:Nat) (args:List AV) (h:List bi) (out:kM) (h':List bi) (md md':AV):Prop where
 ent:yI P f
 calls:∀ m S w cargs u,bY ap (bI h) m S w→bF (bI h) m S args cargs→rZ S md u→CallsD P f cargs.toArray u w fun e u' w'=>(∃ m' S',E8 ap h m S w out h' m' S' w' e)∧L6 md md' u u'
def uF (P:Program) (ap:AP) (H:di):Prop:=∀ c md f args h out h' md' c',md ≠ .dead→H c md f args h= .ok (out,h',md') c'→c'.Ok→c.Ok∧Wv P ap f args h out h' md md'
structure Jp (P:Program) (ap:AP):Prop where
 fn:∀ (f:Nat) (F:AF),ap.fnAt f=some F→P.funcs[f]? =some F.fn
 body:∀ (f:Nat) (F:AF),ap.fnAt f=some F→∃ c,F.fn.body=some c∧dX F.fn.ntmps c=true
 name:∀ (f:Nat) (F:AF),ap.fnAt f=some F→(F.fn.name== "runtime.NumGoroutine")=false
section
variable {P:Program} {ap:AP} {H:di}
theorem yK (a:Jp P ap) {f:Nat} {F:AF} (b:ap.fnAt f=some F):yI P f:=by
 intro args w
 obtain ⟨c,d,_⟩:=a.body f F b
 unfold callFunc
 rw [Sem.run_bind]
 have:(program).run P w= .ok P w:=rfl
 rw [this,Result.andThen_ok,a.fn f F b]
 dsimp only
 rw [a.name f F b]
 simp [d]
theorem Lc {S:aW} {md:AV} {u:FrameMode} (h:rZ S md u):settle u=u∧u ≠ .run:=by
 cases md<;>simp only [rZ] at h
 ·obtain ⟨cv,rfl,_⟩:=h;exact ⟨rfl,by simp⟩
 ·subst h;exact ⟨rfl,by simp⟩
theorem ug (C:jd P ap) (T:uF P ap H):
  ∀ (dfs:List (Nat × List AV)) (mode mode':AV) (hp hp':Hp) (c c':Cx),Dk ap H dfs mode hp c= .ok (mode',hp') c'→c'.Ok→c.Ok∧
   ∀ (h0:List bi) (y:Func) (tmps:Array Value) (env:iV) (RR:Ending→World→Prop) (m0:bf) (S0:aW) (w0:World) m S w k u,bY ap (aG hp) m S w→Fr (bI h0) m0 S0 w0 (aG hp) m S w→(∀ t,VR (aG hp) m S (env.get t) (tmps.getD t undef))→iG (aG hp) m S dfs k→rZ S mode u→
   (∀ m' S' w' l,bY ap (aG hp') m' S' w'→Fr (bI h0) m0 S0 w0 (aG hp') m' S' w'→(∀ t,VR (aG hp') m' S' (env.get t) (tmps.getD t undef))→rZ S' mode' l→Leaves P y tmps RR [] l w')→Leaves P y tmps RR k u w
 | [],mode,mode',hp,hp',c,c',h,hc=>by
  cases h
  refine ⟨hc,fun h0 y tmps env RR m0 S0 w0 m S w k u E n M z j K=> ?_⟩
  cases k with
  |nil=>exact K m S w u E n M j
  |cons _ _=>simp [iG] at z
 | (f, args)::r,mode,mode',hp,hp',c,c',h,hc=>by
  simp only [Dk] at h
  split at h
  ·cases h
  ·rename_i hrefs
   simp only [Bool.and_eq_true] at hrefs
   have N:mode ≠ .dead:=by rintro rfl;cases hrefs.1
   obtain ⟨q,c1,Z,h⟩:=R.bind_ok h
   split at h
   ·rename_i v s
    obtain ⟨L,ih⟩:=ug C T r q.md mode' (q.ups++hp) hp' c1 c' h hc
    obtain ⟨args0,hh0,O,V,e2,Q,hg⟩:=xE Z
    obtain ⟨D,U⟩:=T _ _ _ _ _ _ _ _ _ N e2 L
    refine ⟨D,fun h0 y tmps env RR m0 S0 w0 m S w k u E n M z j K=> ?_⟩
    cases k with
    |nil=>simp [iG] at z
    | cons d k=>
     simp only [iG] at z
     obtain ⟨⟨o,W,X⟩,Y⟩:=z
     have hfresh:∀ i,i<4→aG hp (iI hp+i)=none:=by
      intro i _
      cases hb:aG hp (iI hp+i) with
      |none=>rfl
      |some B=>have:=qF hb;omega
     have hcall:=hg (aG hp) m S w (d.args++o).toList (fun cargs R=>CallsD P f cargs.toArray u w fun e l w'=>R e w'∧L6 mode q.md u l)
      (fun cargs R R' p a=>CallsD.mono p fun e l w' g=> ⟨a e w' g.1,g.2⟩) E (fun b _ B hB=>hB) hfresh X
      (fun m1 S1 F p a=>U.calls m1 S1 w _ u p a (by
       cases mode<;>simp only [rZ] at j ⊢
       ·obtain ⟨cv,J,g⟩:=j;exact ⟨cv,J,dC F _ g⟩
       ·exact j))
     obtain ⟨x,G⟩:=Lc j
     refine ⟨G,.func f,o,f,d.args++o,W, ?_, ?_⟩
     ·rw [W]
      exact U.ent _ w
     ·rw [Array.toArray_toList] at hcall
      refine CallsD.mono hcall ?_
      rintro e l w' ⟨⟨m',S',p,a,g⟩,h7⟩
      rw [s] at g
      obtain ⟨cv,rfl,g⟩:=g
      rw [kJ] at p a g
      refine ih h0 y tmps env RR m0 S0 w0 m' S' w' k (settle l) p (n.trans a) (fun t=>oq a.sle a.ge _ (M t)) (uD a.sle a.ge Y) ?_ K
      rcases h7 with ⟨A,rfl⟩|⟨A,h9⟩
      ·rw [x,A]
       cases mode<;>simp only [rZ] at j ⊢
       ·obtain ⟨cv,J,I⟩:=j;exact ⟨cv,J,dC a.sle _ I⟩
       ·exact j
      ·rw [A,h9];rfl
   ·cases h
theorem fC {n f:Nat} (h:n≤f):∀ (c:Code),dX n c=true→dX f c=true
 | .region _ ops _,hd=>by
  simp only [dX,List.all_eq_true] at hd ⊢
  intro o g
  have:=hd o g
  unfold F9 at this ⊢
  split
  ·rename_i d e
   rw [e] at this
   exact Nat.ble_eq_true_of_le (Nat.le_trans (gQ this) h)
  ·rfl
 | .seq a b,hd=>by simp only [dX,Bool.and_eq_true] at hd ⊢;exact ⟨fC h a hd.1,fC h b hd.2⟩
 | .cond _ a b,hd=>by simp only [dX,Bool.and_eq_true] at hd ⊢;exact ⟨fC h a hd.1,fC h b hd.2⟩
 | .block _ b,hd=>by simp only [dX] at hd ⊢;exact fC h b hd
 | .loop b,hd=>by simp only [dX] at hd ⊢;exact fC h b hd
 | .scope b,hd=>by simp only [dX] at hd ⊢;exact fC h b hd
 | .skip,_=>rfl
 | .label _,_=>rfl
 | .exit _,_=>rfl
 | .ret,_=>rfl
 | .rangeFunc _ _ _ _,_=>rfl
 | .goto _,_=>rfl
 | .refuse _,_=>rfl
theorem yY {α:Type}:∀ (l:List α) (j t:Nat),aG ((l.zipIdx j).map fun (x,i)=>(i,x)) t=if j≤t then l[t - j]? else none
 | [],j,t=>by simp [aG]
 | a::r,j,t=>by
  rw [List.zipIdx_cons,List.map_cons]
  simp only [aG]
  cases h:Nat.beq j t with
  |true=>have:=aO h;subst this;simp
  | false=>
   have b:j ≠ t:=by intro e;subst e;simp at h
   simp only [yY r (j+1) t]
   by_cases hj:j+1≤t
   ·rw [if_pos hj,if_pos (by omega)]
    obtain ⟨d,c⟩:∃ d,t - j=d+1:=⟨t - j - 1,by omega⟩
    rw [c,List.getElem?_cons_succ,show t - (j+1)=d by omega]
   ·rw [if_neg hj,if_neg (by omega)]
theorem Iw {h:List bi} {args:List AV} {cargs:List Value} {m:bf} {S:aW} {w:World} {md:AV} (i:bY ap (bI h) m S w) (g:bF (bI h) m S args cargs) (n:Nat):
  aG (nH md args h).hp=bI h∧FR ap (nH md args h).env (nH md args h).hp [] (cargs.toArray++Array.replicate (n - cargs.toArray.size) undef).size m S w {tmps:=cargs.toArray++Array.replicate (n - cargs.toArray.size) undef,defers:= []}:=by
 have a:aG (nH md args h).hp=bI h:=by
  funext b
  have:=yY h 0 b
  simp only [nH,bI]
  rw [this,if_pos (Nat.zero_le _),Nat.sub_zero]
 refine ⟨a,⟨a ▸ i, ?_,by simp [iG],rfl⟩⟩
 intro t
 rw [a]
 have f:(nH md args h).env.get t=(args[t]?).getD .dead:=by
  have:=yY args 0 t
  simp only [nH,iV.get]
  rw [this,if_pos (Nat.zero_le _),Nat.sub_zero]
 rw [f]
 cases j:args[t]? with
 |none=>simp [VR]
 | some x=>
  obtain ⟨v,d,e⟩:=qO g t j
  have c:=(List.getElem?_eq_some_iff.1 d).1
  have:(cargs.toArray++Array.replicate (n - cargs.toArray.size) undef).getD t undef=v:=by
   rw [Array.getD_eq_getD_getElem?,Array.getElem?_append_left (by simpa using c)]
   simp [d]
  rw [this]
  exact e
theorem xR (l:jd P ap) (N:uF P ap H) {h0 y:List bi} {z:Func} {e:bM} {s:St} {c G:Cx} {out:kM} {C:AV} (h:AX ap H h0.length z e s c= .ok (out,y,C) G) (F:G.Ok):
  c.Ok∧h0.length≤y.length∧∀ m0 S0 w0 m S w a nt,Fr (bI h0) m0 S0 w0 (aG s.hp) m S w→FR ap s.env s.hp s.dfs nt m S w a→SG s.hp m S (bodyPostD P z fun e w'=> ∃ q S',E8 ap h0 m0 S0 w0 out y q S' w' e) a w e:=by
 have r:∀ mode,((Dk ap H s.dfs mode s.hp c).bind fun (mode,hp) c=>
   match mode with
   | .nilI=>(uX ap h0.length z s.env hp c).bind fun (o,h) c=> .ok (o,h,s.md) c
   | .ifc t v=>(IV h0.length (.ifc t v) hp c).bind fun (o,h) c=> .ok (o,h,s.md) c
   |_=> .bad 74)= .ok (out,y,C) G→c.Ok∧h0.length≤y.length∧∀ m0 S0 w0 m S w a nt u,Fr (bI h0) m0 S0 w0 (aG s.hp) m S w→FR ap s.env s.hp s.dfs nt m S w a→rZ S mode u→Leaves P z a.tmps (fun e w'=> ∃ q S',E8 ap h0 m0 S0 w0 out y q S' w' e) a.defers u w:=by
  intro mode i
  obtain ⟨⟨mode',hp'⟩,W,M,i⟩:=R.bind_ok i
  dsimp only at i
  split at i
  ·obtain ⟨⟨o,x⟩,X,D,i⟩:=R.bind_ok i
   cases i
   obtain ⟨J,g,B⟩:=lH (P:=P) (m:=fun _=>(0,0)) (m0:=fun _=>(0,0)) (S:=fun _ _=>none) (S0:=fun _ _=>none) (w:=default) (w0:=default) (tmps:=#[]) l D F
   obtain ⟨p,K⟩:=ug l N s.dfs mode _ s.hp hp' c W M J
   refine ⟨p,g,fun m0 S0 w0 m S w a nt u d f L=> ?_⟩
   refine K h0 z a.tmps s.env _ m0 S0 w0 m S w a.defers u f.srel d f.env f.dfs L ?_
   intro q S' w' U j k O A
   simp only [rZ] at A
   subst A
   obtain ⟨_,_,B⟩:=lH (P:=P) (m:=q) (m0:=m0) (S:=S') (S0:=S0) (w:=w') (w0:=w0) (tmps:=a.tmps) l D F
   obtain ⟨cv,E,V⟩:=B j k O
   exact ⟨cv,E,V⟩
  ·rename_i t v
   obtain ⟨⟨o,x⟩,X,D,i⟩:=R.bind_ok i
   cases i
   obtain ⟨rfl,g,_⟩:=yj (ap:=ap) (m:=fun _=>(0,0)) (m0:=fun _=>(0,0)) (S:=fun _ _=>none) (S0:=fun _ _=>none) (w:=default) (w0:=default) D
   obtain ⟨p,K⟩:=ug l N s.dfs mode _ s.hp hp' c _ M F
   refine ⟨p,g,fun m0 S0 w0 m S w a nt u d f L=> ?_⟩
   refine K h0 z a.tmps s.env _ m0 S0 w0 m S w a.defers u f.srel d f.env f.dfs L ?_
   intro q S' w' U j k O A
   simp only [rZ] at A
   obtain ⟨cv,rfl,E⟩:=A
   obtain ⟨_,_,I⟩:=yj (ap:=ap) (m:=q) (m0:=m0) (S:=S') (S0:=S0) (w:=w') (w0:=w0) D
   exact I j k cv (iP _ E) (fun b ver n h=>by cases h)
  ·cases i
 unfold AX at h
 dsimp only at h
 split at h
 ·obtain ⟨x,j,k⟩:=r .nilI h
  exact ⟨x,j,fun m0 S0 w0 m S w a nt d f=>k m0 S0 w0 m S w a nt .returning d f rfl⟩
 ·obtain ⟨x,j,k⟩:=r .nilI h
  exact ⟨x,j,fun m0 S0 w0 m S w a nt d f=>k m0 S0 w0 m S w a nt .returning d f rfl⟩
 ·rename_i t v
  split at h
  ·rename_i Q
   obtain ⟨x,j,k⟩:=r (.ifc t v) h
   refine ⟨x,j,fun m0 S0 w0 m S w a nt d f cv T=>k m0 S0 w0 m S w a nt _ d f ⟨cv,rfl, ?_⟩⟩
   exact mg (by simpa [fD] using Q) T
  ·cases h
 ·cases h
theorem JB (i:jd P ap) (d:P.follows .mixedOrders=true) (j:Jp P ap) (y:jX P ap H) (C:uF P ap H) (lf:Nat):jX P ap fun c md f args h=>tu ap H lf md f args h c:=by
 intro c f args h out B v J b E
 have b:tu ap H lf .dead f args h c= .ok (out,B,v) J:=b
 unfold tu at b
 split at b
 ·cases b
 ·rename_i F u
  dsimp only at b
  obtain ⟨⟨e,s⟩,M,o,b⟩:=R.bind_ok b
  dsimp only at b
  obtain ⟨a,x,g⟩:=j.body f F u
  have hbody:af F.fn=a:=by simp [af,x]
  rw [hbody] at o
  obtain ⟨n,k,l⟩:=xR i C b E
  obtain ⟨q,_⟩:=fJ (nt:=F.fn.ntmps) i d y a g _ _ _ _ _ o n
  refine ⟨q,k,yK j u,fun m S w cargs G D=> ?_⟩
  obtain ⟨K,t⟩:=Iw (md:= .dead) G D F.fn.ntmps
  have r:F.fn.ntmps≤(cargs.toArray++Array.replicate (F.fn.ntmps - cargs.toArray.size) undef).size:=by simp;omega
  obtain ⟨_,p⟩:=fJ i d y a (fC r a g) _ _ _ _ _ o n
  obtain ⟨_,p⟩:=p rfl
  refine calls_of_wp_defers (j.fn f F u) x ?_
  refine p m S w m S w _ (by rw [K];exact Fr.refl _ _ _ _) t _ ?_
  intro I S' w' A L z
  exact l m S w I S' w' A _ L z
end
end AM
namespace AM
open Go
section
variable {P:Program} {ap:AP} {H:di}
theorem RH {o:Oper} {a:Act} {K K':Act→World→Prop} {Q Q':Exit→Act→World→Prop} {r:Result Next} (c:∀ a w,K a w→K' a w) (d:∀ e a w,Q e a w→Q' e a w) (f:¬ LetsOut Q) (h:o.upon P a K Q r):o.upon P a K' Q' r:=by
 cases r with
 | ok n w'=>
  cases n<;>simp only [Oper.upon] at h ⊢ <;>
   first
    |exact c _ _ h
    |exact Calls.mono h (fun e g b=>by cases e<;>first|exact c _ _ b|exact d _ _ _ b|exact absurd b f)
    |exact Rows.mono h (fun _ _ b=>c _ _ b)
 |halt x w'=>cases x<;>simp only [Oper.upon] at h ⊢ <;>exact d _ _ _ h
theorem jW {ops:Array Oper} {Q:Exit→Act→List Frame→World→Prop} {f:List Frame} {Q':Exit→Act→World→Prop} (c:∀ e a w,Q' e a w→Q e a f w) (b:¬ LetsOut Q'):∀ (l:List Nat) (a:Act) (w:World),wpOps P ops Q' l a w→wpOpsS P ops Q l a f w
 | [],a,w,h=>c _ _ _ h
 | i ::rest,a,w,h=>by
  simp only [wpOps] at h
  simp only [wpOpsS]
  cases g:ops[i]? with
  |none=>
   simp only [g] at h ⊢
   exact jW c b rest a w h
  | some o=>
   simp only [g] at h ⊢
   by_cases hw:Region.wanted o (yielded ops a.tmps)=true
   ·rw [if_pos hw] at h ⊢
    rcases h with h|⟨_,h⟩
    ·unfold Oper.wp at h
     split
     ·rename_i w' j
      rw [j] at h
      exact h.elim
     ·exact RH (fun a w d=>jW c b rest a w d) (fun e a w d=>c e a w d) b h
    ·exact absurd h b
   ·rw [if_neg hw] at h ⊢
    exact jW c b rest _ w h
theorem akG {Q:Exit→Act→World→Prop}:¬ LetsOut (fun e a w=>e ≠ .outgrown∧Q e a w):=fun ⟨_,_,h,_⟩=>h rfl
theorem KZ {a:Act} {o:Oper} {args:Array Operand} {argTypes:Array TypeId} (h:o.op= .call {callee:= .builtin .recover,args,argTypes}) (w:World):(execOp a.eval o).run P w= .ok .recover w:=by
 unfold execOp
 rw [h]
 rfl
theorem FR.env_cons {env:iV} {hp:Hp} {dfs:List (Nat × List AV)} {nt:Nat} {m:bf} {S:aW} {w:World} {a:Act} (h:FR ap env hp dfs nt m S w a) {d:Nat} (b:d<nt) {v:AV} {cv:Value} (c:VR (aG hp) m S v cv):FR ap ((d,v)::env) hp dfs nt m S w (a.put (some d) cv):=by
 refine ⟨h.srel,fun t=> ?_,by rw [DX];exact h.dfs,by rw [KN];exact h.size⟩
 by_cases ht:d=t
 ·subst ht
  rw [DY _ _ _ (by rw [h.size];exact b)]
  have:iV.get ((d,v)::env) d=v:=jo (env:=env)
  rw [this];exact c
 ·rw [DZ _ _ _ (fun e=>ht (by cases e;rfl))]
  have:iV.get ((d,v)::env) t=env.get t:=xU (env:=env) (dst:=some d) (fun e=>ht (by cases e;rfl))
  rw [this];exact h.env t
theorem H7 (l:jd P ap) (E:P.follows .mixedOrders=true) (J:Jp P ap) (hH:jX P ap H) (lf:Nat):uF P ap fun c md f args h=>tu ap H lf md f args h c:=by
 intro c md f args h out h' md' c' hmd g hc
 have g:tu ap H lf md f args h c= .ok (out,h',md') c':=g
 unfold tu at g
 split at g
 ·cases g
 ·rename_i F hF
  split at g
  ·exact absurd rfl hmd
  ·split at g
   ·rename_i hrefs
    simp only [Bool.and_eq_true] at hrefs
    obtain ⟨body,L,j⟩:=J.body f F hF
    have hbody:af F.fn=body:=by simp [af,L]
    unfold SV at g
    rw [hbody] at g
    split at g
    ·rename_i id ops rest
     split at g
     ·rename_i o r k
      split at g
      ·rename_i args' argTypes d hop hg hd
       dsimp only at g
       obtain ⟨⟨s1,p⟩,c1,e1,g⟩:=R.bind_ok g
       dsimp only at g
       split at g
       ·cases g
       ·obtain ⟨⟨e,C⟩,c2,e2,g⟩:=R.bind_ok g
        dsimp only at g
        split at g
        ·cases g
        ·rename_i O
         have q:∃ N,(e= .normal∨e= .ret)∧uX ap h.length F.fn C.env C.hp c2= .ok (out,h') N∧md'= .nilI∧N=c':=by
          split at g
          ·obtain ⟨⟨o1,h1⟩,N,K,g⟩:=R.bind_ok g
           cases g
           exact ⟨_,.inl rfl,K,rfl,rfl⟩
          ·obtain ⟨⟨o1,h1⟩,N,K,g⟩:=R.bind_ok g
           cases g
           exact ⟨_,.inr rfl,K,rfl,rfl⟩
          ·cases g
         obtain ⟨N,q,K,rfl,rfl⟩:=q
         obtain ⟨M,hlen,_⟩:=lH (P:=P) (m:=fun _=>(0,0)) (m0:=fun _=>(0,0)) (S:=fun _ _=>none) (S0:=fun _ _=>none) (w:=default) (w0:=default) (tmps:=#[]) l K hc
         simp only [dX,Bool.and_eq_true] at j
         obtain ⟨W,_⟩:=fJ (nt:=F.fn.ntmps) l E hH rest j.2 _ _ _ _ _ e2 M
         have z:∀ nt,F.fn.ntmps≤nt→∀ o' ∈ o::r,∀ d,o'.dst=some d→d<nt:=by
          intro nt A o' ho' d' hd'
          have:=List.all_eq_true.1 j.1 o' (by rw [k];exact ho')
          simp only [F9,hd'] at this
          exact Nat.lt_of_lt_of_le (gm this) A
         obtain ⟨hc0,_⟩:=mP (nt:=F.fn.ntmps) l hH (ops:=o::r) (z _ (Nat.le_refl _)) r 1 _ _ _ _ _ _ e1 W
         refine ⟨hc0,yK J hF,fun m S w cargs u hS hv hm=> ?_⟩
         obtain ⟨hh,hFR⟩:=Iw (md:= .dead) hS hv F.fn.ntmps
         have A:F.fn.ntmps≤(cargs.toArray++Array.replicate (F.fn.ntmps - cargs.toArray.size) undef).size:=by simp;omega
         obtain ⟨_,hx⟩:=fJ l E hH rest (fC A rest j.2) _ _ _ _ _ e2 M
         obtain ⟨_,hs⟩:=mP l hH (ops:=o::r) (z _ A) r 1 _ _ _ _ _ _ e1 W
         obtain ⟨Y,hs⟩:=hs rfl (fun t b L=>by cases L) rfl (fun b B L=>qF L)
         obtain ⟨_,hx⟩:=hx Y
         have X:=z _ A o (by simp) d hd
         refine callsD_of_wpS (J.fn f F hF) L fun c₀ I hc₀=> ?_
         have i:∃ cv n,rZ S md u∧VR (aG (nH .dead args h).hp) m S md cv∧settle n= .returning∧((recoverD (c₀::I)=some (cv,{c₀ with mode:=n}::I))∨(recoverD (c₀::I)=none∧cv= .nilIface∧{c₀ with mode:=n}=c₀)):=by
          cases md<;>simp only [rZ] at hm
          ·obtain ⟨cv,rfl,hp⟩:=hm
           exact ⟨cv,.panicking [{v:=cv,recovered:=true}],⟨cv,rfl,hp⟩,iP _ hp,rfl,.inl (by simp [recoverD,hc₀])⟩
          ·subst hm
           exact ⟨.nilIface,.returning,rfl,by simp only [VR,PR],rfl,.inr ⟨by simp [recoverD,hc₀],rfl,by rw [← hc₀]⟩⟩
         obtain ⟨cv,n,_,V,D,i⟩:=i
         have hcont:∀ (Q:Exit→Act→List Frame→World→Prop),(∀ e a w',(∃ m' S',Fr (bI h) m S w (aG C.hp) m' S' w'∧FR ap C.env C.hp C.dfs (cargs.toArray++Array.replicate (F.fn.ntmps - cargs.toArray.size) undef).size m' S' w' a)→(e= .normal∨e= .ret)→Q e a ({c₀ with mode:=n}::I) w')→
           wpOpsS P ops (Exit.thenS (rest.wpS P Q) Q) (List.range' 1 r.length) (({tmps:=cargs.toArray++Array.replicate (F.fn.ntmps - cargs.toArray.size) undef,defers:= []}:Act).put (some d) cv) ({c₀ with mode:=n}::I) w:=by
          intro Q hQ
          have hopsA:ops=(o::r).toArray:=by rw [← k]
          rw [hopsA]
          refine jW (Q':=fun e a w'=>e ≠ .outgrown∧e= .normal∧rest.wpS P Q a ({c₀ with mode:=n}::I) w') ?_ akG _ _ _ ?_
          ·rintro e a w' ⟨_,rfl,hh⟩
           exact hh
          ·refine hs m S w _ (hFR.env_cons X V) _ ?_
           intro m1 S1 w1 a1 h3 T
           refine ⟨by simp,rfl,wpS_of_wp ?_⟩
           rw [hh] at h3
           obtain ⟨m2,h5,h6⟩:=nM (keep:=F.keep) (s:=⟨s1.env,s1.hp,s1.md,s1.dfs⟩) h3 T
           refine hx m S w m2 S1 w1 a1 h5 h6 _ ?_
           intro m3 S3 w3 a3 h7 h8
           rcases q with rfl|rfl
           ·exact hQ .normal a3 w3 ⟨m3,S3,h7,h8⟩ (.inl rfl)
           ·exact hQ .ret a3 w3 ⟨m3,S3,h7,h8⟩ (.inr rfl)
         have G:∀ e a w',(∃ m' S',Fr (bI h) m S w (aG C.hp) m' S' w'∧FR ap C.env C.hp C.dfs (cargs.toArray++Array.replicate (F.fn.ntmps - cargs.toArray.size) undef).size m' S' w' a)→(e= .normal∨e= .ret)→
           bodyPostS P F.fn c₀ I (fun e n w'=>(∃ m' S',E8 ap h m S w out h' m' S' w' e)∧L6 md .nilI u n) e a ({c₀ with mode:=n}::I) w':=by
          rintro e a w' ⟨m',S',h3,T⟩ hee
          obtain ⟨_,_,hro⟩:=lH (P:=P) (m:=m') (m0:=m) (S:=S') (S0:=S) (w:=w') (w0:=w) (tmps:=a.tmps) l K hc
          obtain ⟨Z,h5,h6⟩:=hro T.srel h3 T.env
          have U:a.defers= []:=by
           have:=T.dfs
           rw [O] at this
           cases hd:a.defers with
           |nil=>rfl
           |cons x y=>rw [hd] at this;simp [iG] at this
          rcases hee with rfl|rfl
          ·exact ⟨U,n,rfl,Z,h5,h6,.inr ⟨rfl,D⟩⟩
          ·exact ⟨U,n,rfl,Z,h5,h6,.inr ⟨rfl,D⟩⟩
         refine wpS_seq (wpS_region ?_)
         have hrange:List.range ops.size=0::List.range' 1 r.length:=by
          have:ops.size=r.length+1:=by rw [← Array.length_toList,k];simp
          rw [this,List.range_eq_range',List.range'_succ]
         rw [hrange]
         have ho0:ops[0]? =some o:=by
          have:ops.toList[0]? =some o:=by rw [k];rfl
          simpa using this
         simp only [wpOpsS,ho0,Region.wanted,hg,if_true,KZ hop]
         rw [hd]
         rcases i with i|⟨i,rfl,hsame⟩
         ·rw [i]
          exact hcont _ G
         ·rw [i]
          have:=hcont _ G
          rw [hsame] at this
          exact this
      ·cases g
     ·cases g
    ·cases g
   ·cases g
end
end AM
namespace AM
open Go
def CQ:Option AF→Bool
 |some F=>(match F.fn.body with|some c=>dX F.fn.ntmps c|none=>false) && !(F.fn.name== "runtime.NumGoroutine")
 |none=>true
theorem WI {P:Program} {ap:AP} (h:(List.range ap.nty).map ap.ty.get=(List.range ap.nty).map (VU P)):jd P ap:=by
 constructor
 intro t e a
 unfold AP.tyAt at a
 split at a
 ·rename_i b
  have c:=gm b
  have d:((List.range ap.nty).map ap.ty.get)[t]? =some (some e):=by rw [List.getElem?_map,List.getElem?_range c];simp [a]
  rw [h,List.getElem?_map,List.getElem?_range c] at d
  simpa using d
 ·cases a
theorem Xw {P:Program} {ap:AP} {keep:Nat→Bool} (h:(List.range ap.nfn).map (fun i=>(ap.fn.get i).map AF.fn)=(List.range ap.nfn).map fun i=>match keep i with|true=>P.funcs[i]? |false=>none) (l:(List.range ap.nfn).all (fun i=>CQ (ap.fn.get i))=true):Jp P ap:=by
 have d:∀ (f:Nat) (F:AF),ap.fnAt f=some F→f<ap.nfn∧ap.fn.get f=some F:=by
  intro f F a
  unfold AP.fnAt at a
  split at a
  ·rename_i j;exact ⟨gm j,a⟩
  ·cases a
 have hgood:∀ (f:Nat) (F:AF),ap.fnAt f=some F→CQ (some F)=true:=by
  intro f F a
  obtain ⟨e,g⟩:=d f F a
  have:=List.all_eq_true.1 l f (by simpa using e)
  rwa [g] at this
 constructor
 ·intro f F a
  obtain ⟨e,g⟩:=d f F a
  have b:((List.range ap.nfn).map fun i=>(ap.fn.get i).map AF.fn)[f]? =some (some F.fn):=by rw [List.getElem?_map,List.getElem?_range e];simp [g]
  rw [h,List.getElem?_map,List.getElem?_range e] at b
  simp only [Option.map_some,Option.some.injEq] at b
  split at b
  ·exact b
  ·cases b
 ·intro f F a
  have:=hgood f F a
  simp only [CQ,Bool.and_eq_true] at this
  cases k:F.fn.body with
  |none=>rw [k] at this;cases this.1
  |some c=>rw [k] at this;exact ⟨c,rfl,this.1⟩
 ·intro f F a
  have:=hgood f F a
  simp only [CQ,Bool.and_eq_true,Bool.not_eq_true'] at this
  exact this.2
end AM
namespace AM
open Go
def aH (P:Program) (ap:AP) (h0:List bi) (n:Nat) (code:Code) (s:St) (e:bM) (s':St):Prop:=∀ nt,n≤nt→aj P ap h0 nt code s e s'
abbrev xg:=List (bM × St)
def lK (P:Program) (ap:AP) (H:di) (h0:List bi) (keep:List Nat) (lf nt:Nat) (ls:List Nat):Code→St→xg→Cx→R ((bM × St) × xg)
 | .seq a b,s,l,c=>(lK P ap H h0 keep lf nt ls a s l c).bind fun r c=>match r.1.1 with
  | .normal=>lK P ap H h0 keep lf nt ls b r.1.2 r.2 c
  |e=> .ok ((e,r.1.2),r.2) c
 | .cond t a b,s,l,c=>match qo ap s.env t with
  | .bool x=>(yM c x).bind fun x c=>match x with
   |true=>lK P ap H h0 keep lf nt ls a s l c
   |false=>lK P ap H h0 keep lf nt ls b s l c
  |_=> .bad 60
 | .block id b,s,l,c=>match pG ls id with
  |true=>match l with
   |(e,s')::r=> .ok ((e,s'),r) {c with ps:=aH P ap h0 nt (.block id b) s e s'::c.ps}
   | []=> .bad 62
  |false=>(lK P ap H h0 keep lf nt ls b s l c).bind fun r c=>match r.1.1 with
   | .exit id'=>match Nat.beq id' id with|true=> .ok ((.normal,r.1.2),r.2) c|false=> .ok ((.exit id',r.1.2),r.2) c
   |e=> .ok ((e,r.1.2),r.2) c
 | .scope b,s,l,c=>lK P ap H h0 keep lf nt ls b s l c
 | .region id ops draw,s,l,c=>match pG ls (id+1000) with
  |true=>match l with
   |(e,s')::r=> .ok ((e,s'),r) {c with ps:=aH P ap h0 nt (.region id ops draw) s e s'::c.ps}
   | []=> .bad 63
  |false=>(kX ap H h0.length keep lf (.region id ops draw) s c).bind fun r c=> .ok (r,l) c
 |code,s,l,c=>(kX ap H h0.length keep lf code s c).bind fun r c=> .ok (r,l) c
section
variable {P:Program} {ap:AP} {H:di}
theorem aj.seq {h0:List bi} {nt:Nat} {x y:Code} {s f d:St} {e:bM} (i:aj P ap h0 nt x s .normal f) (k:aj P ap h0 nt y f e d):aj P ap h0 nt (.seq x y) s e d:=by
 intro c
 obtain ⟨g,o⟩:=i c
 obtain ⟨t,l⟩:=k g
 refine ⟨t,fun m0 S0 w0 m S w a b p Q n=>wp_seq (o m0 S0 w0 m S w a b p _ ?_)⟩
 intro r S' w' j q h
 exact l m0 S0 w0 r S' w' j q h Q n
theorem aj.seq_out {h0:List bi} {nt:Nat} {x y:Code} {s f:St} {e:bM} (b:e ≠ .normal) (h:aj P ap h0 nt x s e f):aj P ap h0 nt (.seq x y) s e f:=by
 intro d
 obtain ⟨g,l⟩:=h d
 refine ⟨g,fun m0 S0 w0 m S w a c n Q k=>wp_seq (l m0 S0 w0 m S w a c n _ ?_)⟩
 intro o S' w' i p j
 have:=k o S' w' i p j
 cases e with
 |normal=>exact absurd rfl b
 |exit id=>exact this
 |ret=>exact this
 |panic v=>exact this
theorem aj.cond {h0:List bi} {nt:Nat} {t:Operand} {x y:Code} {s s':St} {e:bM} {b:Bool} (j:qo ap s.env t= .bool b) (h:aj P ap h0 nt (if b then x else y) s e s'):aj P ap h0 nt (.cond t x y) s e s':=by
 intro f
 obtain ⟨k,g⟩:=h f
 refine ⟨k,fun m0 S0 w0 m S w a d c Q i=>wp_cond (t:=b) ?_ (g m0 S0 w0 m S w a d c Q i)⟩
 have:=wL c.srel (a:=a) (env:=s.env) t (fun t _=>c.env t)
 rw [j] at this
 simpa only [VR,PR] using this
def oJ (id:Nat):bM→bM
 | .exit id'=>match Nat.beq id' id with|true=> .normal|false=> .exit id'
 |e=>e
theorem aj.block {h0:List bi} {nt:Nat} {id:Nat} {b:Code} {s s':St} {e:bM} (h:aj P ap h0 nt b s e s'):aj P ap h0 nt (.block id b) s (oJ id e) s':=by
 intro j
 obtain ⟨k,o⟩:=h j
 refine ⟨k,fun m0 S0 w0 m S w a i p Q n=>wp_block (o m0 S0 w0 m S w a i p _ ?_)⟩
 intro q S' w' f r l
 have c:=n q S' w' f r l
 cases e with
 |normal=>exact c
 |ret=>exact c
 |panic v=>exact c
 | exit id'=>
  simp only [oJ] at c
  split at c
  ·rename_i g
   show Exit.inBlock id Q (.exit id') f w'
   simp only [Exit.inBlock,if_pos (aO g)]
   exact c
  ·rename_i g
   show Exit.inBlock id Q (.exit id') f w'
   have d:id' ≠ id:=by intro e;subst e;simp at g
   simp only [Exit.inBlock,if_neg d]
   exact c
theorem aj.scope {h0:List bi} {nt:Nat} {b:Code} {s s':St} {e:bM} (h:aj P ap h0 nt b s e s'):aj P ap h0 nt (.scope b) s e s':=by
 intro f
 obtain ⟨g,l⟩:=h f
 refine ⟨g,fun m0 S0 w0 m S w a d n Q k=>wp_scope_straight (l m0 S0 w0 m S w a d n _ ?_)⟩
 intro o S' w' i p j
 have c:=k o S' w' i p j
 cases e with
 |normal=>exact c
 |exit id=>exact c
 |ret=>exact c
 |panic v=>exact c
theorem tN (C:jd P ap) (q:P.follows .mixedOrders=true) (O:jX P ap H) {h0:List bi} {keep:List Nat} {lf n nt:Nat} (I:n≤nt) {L:List Nat}:∀ (d:Code),dX nt d=true→∀ (s:St) (l:xg) (r:(bM × St) × xg) (c g:Cx),lK P ap H h0 keep lf n L d s l c= .ok r g→g.Ok→c.Ok∧aj P ap h0 nt d s r.1.1 r.1.2:=by
 have hbase:∀ (d:Code),dX nt d=true→∀ (s:St) (l:xg) (r:(bM × St) × xg) (c g:Cx),((kX ap H h0.length keep lf d s c).bind fun r c=> .ok (r,l) c)= .ok r g→g.Ok→c.Ok∧aj P ap h0 nt d s r.1.1 r.1.2:=by
  intro d f s l r c g h a
  obtain ⟨⟨e,s'⟩,z,m,h⟩:=R.bind_ok h
  cases h
  exact fJ C q O d f s e s' c _ m a
 intro d
 induction d with
 | seq x y ihx ihy=>
  intro f s l r c g h a
  simp only [dX,Bool.and_eq_true] at f
  simp only [lK] at h
  obtain ⟨⟨⟨o,G⟩,F⟩,z,m,h⟩:=R.bind_ok h
  dsimp only at h
  have hother:o ≠ .normal→R.ok ((o,G),F) z=R.ok r g→c.Ok∧aj P ap h0 nt (.seq x y) s r.1.1 r.1.2:=by
   intro B N
   cases N
   obtain ⟨i,j⟩:=ihx f.1 _ _ _ _ _ m a
   exact ⟨i,j.seq_out B⟩
  cases o with
  |normal=>
   dsimp only at h
   obtain ⟨k,M⟩:=ihy f.2 _ _ _ _ _ h a
   obtain ⟨i,j⟩:=ihx f.1 _ _ _ _ _ m k
   exact ⟨i,j.seq M⟩
  |exit id=>exact hother (by simp) h
  |ret=>exact hother (by simp) h
  |panic v=>exact hother (by simp) h
 | cond t x y ihx ihy=>
  intro f s l r c g h a
  simp only [dX,Bool.and_eq_true] at f
  simp only [lK] at h
  split at h
  ·rename_i Q w
   obtain ⟨K,z,m,h⟩:=R.bind_ok h
   cases K with
   |true=>
    obtain ⟨k,j⟩:=ihx f.1 _ _ _ _ _ h a
    obtain ⟨i,A⟩:=lg m k
    exact ⟨i,aj.cond w (by rw [← A];exact j)⟩
   |false=>
    obtain ⟨k,j⟩:=ihy f.2 _ _ _ _ _ h a
    obtain ⟨i,A⟩:=lg m k
    exact ⟨i,aj.cond w (by rw [← A];exact j)⟩
  ·cases h
 | block id b ih=>
  intro f s l r c g h a
  simp only [dX] at f
  simp only [lK] at h
  split at h
  ·split at h
   ·rename_i D E J
    cases h
    have hp:aH P ap h0 n (.block id b) s D E:=a.ps _ (List.mem_cons_self ..)
    exact ⟨⟨a.bs,fun p hp=>a.ps p (List.mem_cons_of_mem _ hp)⟩,hp nt I⟩
   ·cases h
  ·obtain ⟨⟨⟨o,G⟩,F⟩,z,m,h⟩:=R.bind_ok h
   dsimp only at h
   have u:r=((oJ id o,G),F)∧z=g:=by
    cases o<;>dsimp only at h
    ·cases h;exact ⟨rfl,rfl⟩
    ·unfold oJ
     split at h<;>cases h<;>rename_i A<;>dsimp only<;>rw [A]<;>exact ⟨rfl,rfl⟩
    ·cases h;exact ⟨rfl,rfl⟩
    ·cases h;exact ⟨rfl,rfl⟩
   obtain ⟨rfl,rfl⟩:=u
   obtain ⟨i,j⟩:=ih f _ _ _ _ _ m a
   exact ⟨i,j.block⟩
 |scope b ih=>
  intro f s l r c g h a
  simp only [dX] at f
  simp only [lK] at h
  obtain ⟨i,j⟩:=ih f _ _ _ _ _ h a
  exact ⟨i,j.scope⟩
 |skip=>exact fun f s l r c g h a=>hbase _ f s l r c g h a
 | region id ops draw=>
  intro f s l r c g h a
  simp only [lK] at h
  split at h
  ·split at h
   ·rename_i D E J
    cases h
    have hp:aH P ap h0 n (.region id ops draw) s D E:=a.ps _ (List.mem_cons_self ..)
    exact ⟨⟨a.bs,fun p hp=>a.ps p (List.mem_cons_of_mem _ hp)⟩,hp nt I⟩
   ·cases h
  ·exact hbase _ f s l r c g h a
 |loop _ _=>exact fun f s l r c g h a=>hbase _ f s l r c g h a
 |rangeFunc _ _ _ _=>exact fun f s l r c g h a=>hbase _ f s l r c g h a
 |exit _=>exact fun f s l r c g h a=>hbase _ f s l r c g h a
 |label _=>exact fun f s l r c g h a=>hbase _ f s l r c g h a
 |goto _=>exact fun f s l r c g h a=>hbase _ f s l r c g h a
 |ret=>exact fun f s l r c g h a=>hbase _ f s l r c g h a
 |refuse _=>exact fun f s l r c g h a=>hbase _ f s l r c g h a
def OJ (P:Program) (ap:AP) (H:di) (lf:Nat) (ls:List Nat) (f:Nat) (args:List AV) (h:List bi) (l:xg) (c:Cx):R (kM × List bi × AV):=
 match ap.fnAt f with
 |none=> .bad 80
 |some F=>(lK P ap H h F.keep lf F.fn.ntmps ls (af F.fn) (nH .dead args h) l c).bind fun r c=>AX ap H h.length F.fn r.1.1 r.1.2 c
theorem SX (g:jd P ap) (j:P.follows .mixedOrders=true) (b:Jp P ap) (K:jX P ap H) (C:uF P ap H) {lf:Nat} {J:List Nat} {f:Nat} {args:List AV} {h x:List bi} {l:xg} {c y:Cx} {out:kM} {u:AV}
  (d:OJ P ap H lf J f args h l c= .ok (out,x,u) y) (hc:y.Ok):au P ap f args h out x:=by
 unfold OJ at d
 split at d
 ·cases d
 ·rename_i F t
  obtain ⟨⟨⟨e,s⟩,N⟩,M,v,d⟩:=R.bind_ok d
  dsimp only at d
  obtain ⟨a,z,n⟩:=b.body f F t
  have hbody:af F.fn=a:=by simp [af,z]
  rw [hbody] at v
  obtain ⟨r,i,o⟩:=xR g C d hc
  refine ⟨i,yK b t,fun m S w cargs E D=> ?_⟩
  obtain ⟨I,q⟩:=Iw (md:= .dead) E D F.fn.ntmps
  have k:F.fn.ntmps≤(cargs.toArray++Array.replicate (F.fn.ntmps - cargs.toArray.size) undef).size:=by simp;omega
  obtain ⟨_,p⟩:=tN g j K k a (fC k a n) _ _ _ _ _ v r
  obtain ⟨_,p⟩:=p rfl
  refine calls_of_wp_defers (b.fn f F t) z ?_
  refine p m S w m S w _ (by rw [I];exact Fr.refl _ _ _ _) q _ ?_
  intro G S' w' B L A
  exact o m S w G S' w' B _ L A
end
end AM
namespace AM
open Go
def wZ (P:Program) (ap:AP) (lf:Nat):Nat→di
 |0=>fun _ _ _ _ _=> .bad 90
 | n+1=>fun c md f args h=>
  match md with
  | .dead=>match c.ans with
   |(out,h')::r=> .ok (out,h',.dead) {c with ans:=r,ps:=au P ap f args h out h'::c.ps}
   |_=> .bad 91
  |md=>tu ap (wZ P ap lf n) lf md f args h c
theorem lm {P:Program} {ap:AP} (g:jd P ap) (a:P.follows .mixedOrders=true) (j:Jp P ap) (lf:Nat):∀ n,jX P ap (wZ P ap lf n)∧uF P ap (wZ P ap lf n)
 |0=> ⟨fun _ _ _ _ _ _ _ _ h=>(by cases h),fun _ _ _ _ _ _ _ _ _ _ h=>(by cases h)⟩
 | n+1=>by
  obtain ⟨m,o⟩:=lm g a j lf n
  constructor
  ·intro c f args h out k d l b i
   simp only [wZ] at b
   split at b
   ·cases b
    exact ⟨⟨i.bs,fun p hp=>i.ps p (by simp [hp])⟩,i.ps _ (by simp)⟩
   ·cases b
  ·intro c md f args h out k d l e b i
   have b:tu ap (wZ P ap lf n) lf md f args h c= .ok (out,k,d) l:=by
    cases md<;>first|exact absurd rfl e|exact b
   exact H7 g a j m lf c md f args h out k d l e b i
inductive Jn:List Prop→Prop where
 |nil:Jn []
 |cons {p:Prop} {l:List Prop}:p→Jn l→Jn (p::l)
theorem Jn.mem {l:List Prop} (h:Jn l):∀ p ∈ l,p:=by
 induction h with
 |nil=>intro p hp;cases hp
 |cons hp _ ih=>
  intro q a
  rcases List.mem_cons.1 a with rfl|a
  ·exact hp
  ·exact ih q a
inductive lI:List Bool→Prop where
 |nil:lI []
 |t {l:List Bool}:lI l→lI (true::l)
 |c {b:Bool} {l:List Bool}:b=true→lI l→lI (b::l)
theorem lI.mem {l:List Bool} (h:lI l):∀ b ∈ l,b=true:=by
 induction h with
 |nil=>intro p hp;cases hp
 |t _ ih=>
  intro q a
  rcases List.mem_cons.1 a with rfl|a
  ·rfl
  ·exact ih q a
 |c hp _ ih=>
  intro q a
  rcases List.mem_cons.1 a with rfl|a
  ·exact hp
  ·exact ih q a
structure BF (P:Program) (ap:AP):Prop where
 apok:jd P ap
 mixed:P.follows .mixedOrders=true
 fnok:Jp P ap
theorem FX {P:Program} {ap:AP} (g:BF P ap) {lf n:Nat} {ans:List (kM × List bi)} {ps:List Prop} {f:Nat} {args:List AV} {h a:List bi} {out:kM} (hp:Jn ps)
  (he:tu ap (wZ P ap lf n) lf .dead f args h ⟨true,[],[],[],ans,[]⟩= .ok (out,a,.dead) ⟨true,[],[],ps,[],[]⟩):au P ap f args h out a:=by
 obtain ⟨e,c⟩:=lm g.apok g.mixed g.fnok lf n
 exact (JB g.apok g.mixed g.fnok e c lf _ f args h out a .dead _ he ⟨fun b d=>(by cases d),hp.mem⟩).2
end AM
namespace AM
open Go Go.ChangeShapes Go.WideShapes Go.ChangeAt Go.RowKit
def pz:Lit→Value
 | .int k n=> .int k n
 | .bool b=> .bool b
 | .string s=> .string ⟨s.toArray⟩
 |_=> .nilFunc
def Kt:Lit→AV
 | .int k n=> .int k n
 | .bool b=> .bool b
 | .string s=> .str s
 |_=> .dead
def Dq:Lit→Bool
 | .int _ _=>true
 | .bool _=>true
 | .string _=>true
 |_=>false
def Ku (f:TypeId→DataW Unit→Nat→Option (List (Nat × Lit))):List (TypeId × Nat)→List (DataW Unit)→Option (List (Nat × Lit))
 | [],[]=>some []
 |(t,o)::r,d::ds=>match f t d o,Ku f r ds with
  |some a,some b=>some (a++b)
  |_,_=>none
 |_,_=>none
def lL (P:Program):Nat→TypeId→DataW Unit→Nat→Option (List (Nat × Lit))
 |0,_,_,_=>none
 |n+1,t,d,off=>match P.underlying t,d with
  |some (.struct fs),.agg ds=>Ku (lL P n) (fs.toList.map fun f=>(f.type,off+f.offset)) ds
  |some (.array m e),.agg ds=>Ku (lL P n) ((List.range m).map fun i=>(e,off+i*P.cellsOf e)) ds
  |some (.int _),.lit (.int k n)=>some [(off,.int k n)]
  |some .bool,.lit (.bool b)=>some [(off,.bool b)]
  |some .string,.lit (.string s)=>some [(off,.string s)]
  |_,_=>none
theorem Dp {f:TypeId→DataW Unit→Nat→Option (List (Nat × Lit))}:∀ {ts:List (TypeId × Nat)} {ds:List (DataW Unit)} {l:List (Nat × Lit)},Ku f ts ds=some l→ts.length=ds.length∧∀ x ∈ l,∃ (i:Nat) (t o:Nat) (d:DataW Unit) (a:List (Nat × Lit)),ts[i]? =some (t,o)∧ds[i]? =some d∧f t d o=some a∧x ∈ a
 | [],[],l,h=>by simp [Ku] at h;subst h;simp
 | (t,o)::r,d::ds,l,h=>by
  simp only [Ku] at h
  split at h
  ·rename_i a b w n
   cases h
   obtain ⟨s,e⟩:=Dp n
   refine ⟨by simp [s],fun x c=> ?_⟩
   rcases List.mem_append.1 c with c|c
   ·exact ⟨0,t,o,d,a,rfl,rfl,w,c⟩
   ·obtain ⟨i,m,k,j,p,g,u,v,q⟩:=e x c
    exact ⟨i+1,m,k,j,p,by simpa using g,by simpa using u,v,q⟩
  ·cases h
 | [],_::_,_,h=>by simp [Ku] at h
 |_::_,[],_,h=>by simp [Ku] at h
theorem nJ {P:Program} {w:World} {base:Nat} {M:Nat→Bool} {z:Bool}:∀ (n:Nat) (t:TypeId) (d:DataW Unit) (off:Nat) (l:List (Nat × Lit)),lL P n t d off=some l→∀ (c:Nat) (J:List Value) (p:List MemPlace),DataW.trod (fun _=>()) P w base M z c t J=some (d,p)→∀ x ∈ l,∃ j,x.1=off+j∧J[j]? =some (pz x.2)
 |0,_,_,_,_,h=>by simp [lL] at h
 | n +1,t,d,off,l,h=>by
  intro c J p g x u
  simp only [lL] at h
  split at h
  ·rename_i U Q q
   cases c with
   |zero=>simp [DataW.trod] at g
   | succ m=>
    simp only [DataW.trod,q] at g
    split at g
    ·obtain ⟨R,K,o⟩:=Option.map_eq_some_iff.1 g
     simp only [Prod.mk.injEq,DataW.agg.injEq] at o
     obtain ⟨rfl,rfl⟩:=o
     obtain ⟨T,C⟩:=Dp h
     obtain ⟨i,N,S,L,a,y,v,E,D⟩:=C x u
     rw [List.getElem?_map,Option.map_eq_some_iff] at y
     obtain ⟨f,G,B⟩:=y
     simp only [Prod.mk.injEq] at B
     obtain ⟨rfl,rfl⟩:=B
     obtain ⟨b,I,F⟩:=Lib.mapM_at K i f G
     rw [List.getElem?_map,I] at v
     simp only [Option.map_some,Option.some.injEq] at v
     subst v
     obtain ⟨j,O,r⟩:=nJ n _ _ _ _ E m _ b.2 F x D
     refine ⟨f.offset+j,by omega, ?_⟩
     rw [List.getElem?_take] at r
     split at r
     ·rwa [List.getElem?_drop] at r
     ·cases r
    ·cases g
  ·rename_i k e Q q
   cases c with
   |zero=>simp [DataW.trod] at g
   | succ m=>
    simp only [DataW.trod,q] at g
    split at g
    ·obtain ⟨R,K,o⟩:=Option.map_eq_some_iff.1 g
     simp only [Prod.mk.injEq,DataW.agg.injEq] at o
     obtain ⟨rfl,rfl⟩:=o
     obtain ⟨T,C⟩:=Dp h
     obtain ⟨i,N,S,L,a,y,v,E,D⟩:=C x u
     rw [List.getElem?_map,Option.map_eq_some_iff] at y
     obtain ⟨f,G,B⟩:=y
     simp only [Prod.mk.injEq] at B
     obtain ⟨rfl,rfl⟩:=B
     obtain ⟨b,I,F⟩:=Lib.mapM_at K i f G
     rw [List.getElem?_map,I] at v
     simp only [Option.map_some,Option.some.injEq] at v
     subst v
     obtain ⟨j,O,r⟩:=nJ n _ _ _ _ E m _ b.2 F x D
     refine ⟨f*P.cellsOf e+j,by omega, ?_⟩
     rw [List.getElem?_take] at r
     split at r
     ·rwa [List.getElem?_drop] at r
     ·cases r
    ·cases g
  ·rename_i V k X q
   cases h
   simp at u
   subst u
   obtain ⟨W,rfl,A,_⟩:=DataW.trod_int q g
   simp only [Prod.mk.injEq,DataW.lit.injEq,Lit.int.injEq] at A
   obtain ⟨⟨rfl,rfl⟩,_⟩:=A
   exact ⟨0,rfl,rfl⟩
  ·rename_i b q
   cases h
   simp at u
   subst u
   cases c with
   |zero=>simp [DataW.trod] at g
   |succ m=>
    unfold DataW.trod at g
    rw [q] at g
    split at g<;>simp_all
    rfl
  ·rename_i s q
   cases h
   simp at u
   subst u
   cases c with
   |zero=>simp [DataW.trod] at g
   |succ m=>
    unfold DataW.trod at g
    rw [q] at g
    split at g<;>simp_all
    obtain ⟨_,rfl,_⟩:=g
    rfl
  ·cases h
theorem x_ {P:Program} {w:World}:∀ {l:List (String × DataW Unit)} {ps:List MemPlace},DataW.LaidVars P w l ps→∀ n d,(n,d) ∈ l→∃ g t b a p,P.globalNamed n=some g∧(P.globals[g]?).map (·.type)=some t∧w.var? P n=some b∧DataW.trod (fun _=>()) P w 0 (fun _=>true) false a t b.toList=some (d,p)
 | [],_,_,n,d,hm=>by cases hm
 | (n',d')::r,ps,h,n,d,hm=>by
  obtain ⟨g,t,b,a,p,q,f,c,e,i,j,_⟩:=h
  rcases List.mem_cons.1 hm with he|hm
  ·cases he
   exact ⟨g,t,b,a,p,f,c,e,i⟩
  ·exact x_ j n d hm
theorem Nz {P:Program} {W:World} {a:List (String × DataW Unit)} (h:laidMetH P a W) (e:a.filter (fun x=>x.2.handleName?.isSome)= []) {n:String} {d:DataW Unit} (z:(n,d) ∈ a) {g:Nat} {t:TypeId} (k:P.globalNamed n=some g) (r:(P.globals[g]?).map (·.type)=some t)
  {ls:List Lit} (hl:lL P 6 t d 0=some (ls.zipIdx.map fun (l,i)=>(i,l))):∀ (j:Nat) (l:Lit),ls[j]? =some l→W.cell? ⟨g,j,none⟩=some (pz l):=by
 have c:laidMet P a W:=by
  unfold laidMetH at h
  rw [e] at h
  exact h
 obtain ⟨ps,u,_⟩:=c
 obtain ⟨g',B,w,b,p,y,o,q,s⟩:=x_ u n d z
 obtain rfl:=Option.some.inj (k.symm.trans y)
 obtain rfl:=Option.some.inj (r.symm.trans o)
 intro j l v
 obtain ⟨m,f,A⟩:=nJ 6 t d 0 _ hl b w.toList p s (j,l) (by
  rw [List.mem_map]
  exact ⟨(l,j),by rw [List.mem_zipIdx_iff_getElem?];exact v,rfl⟩)
 have:m=j:=by simp at f;exact f.symm
 subst this
 rw [World.var?_cell k q m]
 simpa using A
def pV (W:World):aW:=fun k o=>match W.cell? ⟨k,o,none⟩ with|some v=>if v.oneCell' then some v else none|none=>none
theorem He {W:World} {k o:Nat} {v:Value} (h:W.cell? ⟨k,o,none⟩=some v) (a:v.oneCell'=true):pV W k o=some v:=by
 unfold pV;rw [h];simp only;rw [if_pos a]
theorem LJ {W:World} {k o:Nat} {v:Value} (h:pV W k o=some v):dW W k o=some v:=by
 unfold pV at h
 split at h
 ·rename_i c a
  split at h
  ·rename_i b;cases h;exact BV a b
  ·cases h
 ·cases h
theorem Jr (S:aW):∀ (ls:List Lit),ls.all Dq=true→dK S (ls.map Kt) (ls.map pz)
 | [],_=>by simp [dK]
 |l::r,h=>by
  simp only [List.all_cons,Bool.and_eq_true] at h
  simp only [List.map_cons,dK]
  refine ⟨?_,Jr S r h.2⟩
  cases l<;>simp only [Kt,pz,PR]<;>first|rfl|(exact absurd h.1 (by simp [Dq]))
theorem ND {l:Lit} (h:Dq l=true):(pz l).oneCell'=true:=by
 cases l<;>first|rfl|(exact absurd h (by simp [Dq]))
def SH (ap:AP) (W:World):Prop:=∀ k xs,(ap.gl[k]?).join=some xs→∃ ls:List Lit,xs=ls.map Kt∧ls.all Dq=true∧∀ (j:Nat) (l:Lit),ls[j]? =some l→W.cell? ⟨k,j,none⟩=some (pz l)
theorem Xz {ap:AP} {W:World} (h:SH ap W):lQ ap (pV W):=by
 intro k f g
 obtain ⟨i,rfl,d,e⟩:=h k f g
 refine ⟨i.map pz,Jr _ _ d, ?_⟩
 intro j u b
 rw [List.getElem?_map,Option.map_eq_some_iff] at b
 obtain ⟨l,a,rfl⟩:=b
 have c:=ND (List.all_eq_true.1 d l (List.mem_of_getElem? a))
 refine ⟨?_,c⟩
 rw [Nat.zero_add]
 exact He (e j l a) c
theorem aaQ {P:Program} {ap:AP} {f:Nat} {args:List AV} {b:Bool} (l:au P ap f args [] (.ret (.bool b)) []) {W:World} (g:SH ap W) {cargs:List Value} (j:dK (pV W) args cargs):
  Calls P f cargs.toArray W fun e W'=>e= .returned (.bool b)∧Below W.heap.size W W':=by
 have m:bY ap (bI []) (fun _=>(0,0)) (pV W) W:=
  ⟨fun b n B B' h=>by simp [bI] at h,fun b B h=>by simp [bI] at h,fun k o v h=>LJ h,fun b B h=>by simp [bI] at h,Xz g⟩
 refine (l.calls (fun _=>(0,0)) (pV W) W cargs m (bV _ j)).mono ?_
 rintro e W' ⟨m',S',hF⟩
 obtain ⟨_,a,c⟩:=hF
 obtain ⟨cv,rfl,d⟩:=c
 simp only [xk,VR,PR] at d
 subst d
 exact ⟨rfl,a.os,a.tape,a.output,a.size,fun k i=>a.rest k i fun b B h=>by simp [bI] at h⟩
def Bl (P:Program) (ts:List TypeId):Bool:=ts.all fun t=>P.readableRec t && decide (t<P.types.size)
theorem ww {H:Type} {enc:TypeId × Value→H} {P:Program} (c:laidOutB P=true) {W W':World} {b:Nat→Bool}:∀ {ts:List TypeId} {vs:List Value} {ds:List (DataW H)} {ps:List MemPlace},Bl P ts=true→DataW.TrodAll enc P W 0 (fun _=>true) true ts vs ds ps→(∀ p ∈ ps,W.sameAt W' p)→(∀ p ∈ ps,b p.block=true)→DataW.TrodAll enc P W' 0 b true ts vs ds ps
 | [],vs,ds,ps,_,h,_,_=>by
  obtain ⟨rfl,rfl,rfl⟩:=trodAll_nil h
  rfl
 |t::ts,vs,ds,ps,hf,h,hs,hsp=>by
  obtain ⟨v,g,d,f,p,q,rfl,rfl,rfl,i,e⟩:=trodAll_cons h
  simp only [Bl,List.all_cons,Bool.and_eq_true,decide_eq_true_eq] at hf
  exact trodAll_cons_mk (WideElems.Trod_stays c hf.1.1 hf.1.2 i (fun x a=>hs x (by simp [a])) (fun x a=>hsp x (by simp [a]))) (ww c (by simpa [Bl] using hf.2) e (fun x a=>hs x (by simp [a])) (fun x a=>hsp x (by simp [a])))
theorem akf {H:Type} {enc:TypeId × Value→H} {P:Program} {f:Func} {s:ChangeSpec} {apart fresh handsOn again:Bool} {W W':World} {args:Array Value} {g m:List (DataW H)} {before:List MemPlace} (w:laidOutB P=true) (v:Bl P f.params.toList=true)
  (hW:DataW.Whole enc P f.params.toList s.vars apart W args.toList g m before) (hvars:s.vars= []) {tb:TypeId} (hr:f.resultTypes=#[tb]) (htb:P.underlying tb=some .bool) (hfn:s.fn H (g++m)={results:= [.lit (.bool true)],args:=g,vars:= []})
  (hb:Below W.heap.size W W'):s.post enc P f apart fresh handsOn again W args (.bool true) W':=by
 have e:∀ p ∈ before,p.block<W.heap.size:=fun p hp=>hW.lt p hp
 have c:∀ p ∈ before,(fun b=>decide (b<W.heap.size)) p.block=true:=fun p hp=>by simpa using hW.lt p hp
 have i:=hW
 obtain ⟨p,q,y,o,rfl,t,n⟩:=hW
 rw [hvars] at o
 obtain ⟨rfl,rfl⟩:=trodVars_none o
 simp only [List.append_nil] at e c t n i hfn ⊢
 have hargs:∀ a:Nat→Bool,(∀ x ∈ p,a x.block=true)→DataW.TrodAll enc P W' 0 a true f.params.toList args.toList (s.fn H g).args p:=by
  intro a l
  rw [hfn]
  exact ww w v y (fun x h=>hb.same (e x h)) l
 have d:∀ (b:Nat) (a:Nat→Bool) (r:Bool),DataW.TrodAll enc P W' b a r f.resultTypes.toList ((Value.bool true).resultList f.resultTypes.size) (s.fn H g).results []:=by
  intro b a r
  rw [hfn,hr]
  exact trodAll_cons_mk (p:= []) (shut_bool htb true) trodAll_mk0
 have j:∀ a:Nat→Bool,DataW.TrodVars enc P W' a s.vars (s.fn H g).vars []:=by
  intro a
  rw [hvars,hfn]
  rfl
 refine ⟨g,[],p,[],p,[],i,by rw [List.append_nil];exact d _ _ _,by rw [List.append_nil];exact hargs _ c,by rw [List.append_nil];exact j _,World.keptBut_mono (fun x h=>h) (hb.frame _),fun _=> ?_⟩
 refine ⟨ok_one hr rfl (okWide_bool_mk htb _),_,_,([]++p)++ [],⟨[]++p,[],trodAll_append (hargs _ (fun _ _=>rfl)) (d _ _ _),by simpa using j _,rfl, ?_, ?_⟩, ?_⟩
 ·intro b k hp
  have hp':MemPlace.cell b k ∈ p:=by simpa using hp
  rw [hb.frozen (e _ hp')]
  exact t b k hp'
 ·intro u
  simpa using n u
 ·intro x h _
  simpa using h
end AM
