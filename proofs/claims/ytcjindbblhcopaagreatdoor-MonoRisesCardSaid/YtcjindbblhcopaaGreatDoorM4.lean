/- The abstract machine over the code of the model, and the proof that it is sound. No conditions. -/
import Derived.Test.YtcjindbblhcopaaGreatDoorM3
import Derived.Recover
import Derived.ProofKit
import Derived.OpenShut
import Derived.LaidLaws
import Derived.LaidSub
import Derived.Lib.LaidTab
set_option linter.unusedSimpArgs false
set_option linter.unusedVariables false
namespace AM
open Go
theorem wC {α:Type} {P:Program} {w:World} (f:α→Sem Value):∀ (l:List α) (vs:List Value),l.length=vs.length→(∀ (i:Nat) (x:α) (v:Value),l[i]? =some x→vs[i]? =some v→(f x).run P w= .ok v w)→(l.mapM f).run P w= .ok vs w
 | [],[],_,_=>rfl
 |a::l,v::vs,hl,h=>by
  rw [List.mapM_cons,Sem.run_bind,h 0 a v rfl rfl,Result.andThen_ok,Sem.run_bind,wC f l vs (by simpa using hl) fun i x u c b=>h (i+1) x u (by simpa using c) (by simpa using b),Result.andThen_ok]
  rfl
 | [],_::_,hl,_=>by simp at hl
 |_::_,[],hl,_=>by simp at hl
def He (tmps:Array Value):ResultVar→Sem Value
 | .tmp t=>pure (tmps.getD t undef)
 | .cell a t=>do loadVar t (← asAddr (tmps.getD a undef))
def Vl (vs:List Value):Value:=match vs with| [v]=>v|vs=> .tuple vs.toArray
theorem Ob (a:Func) (tmps:Array Value):results a tmps=(do let vs ← a.results.mapM (He tmps);pure (if h:vs.size=1 then vs[0] else .tuple vs)):=by
 unfold results
 congr 2
theorem uF {P:Program} {w:World} {a:Func} {tmps:Array Value} {vs:List Value} (b:a.results.toList.length=vs.length)
  (h:∀ (i:Nat) (r:ResultVar) (v:Value),a.results.toList[i]? =some r→vs[i]? =some v→(He tmps r).run P w= .ok v w):
  (results a tmps).run P w= .ok (Vl vs) w:=by
 rw [Ob,Array.mapM_eq_mapM_toList]
 simp only [bind_map_left]
 rw [Sem.run_bind,wC _ _ vs b h,Result.andThen_ok]
 match vs with
 | []=>rfl
 | [v]=>rfl
 |_::_::_=>simp [Vl]
theorem Lm {S:aX} {m:bf} {rd c:dU} {w:World} (h:∀ b B,rd b=some B→c b=some B):mD (dV S m rd w) (dV S m c w):=by
 intro k o v a
 unfold dV at a ⊢
 split at a
 ·rename_i u d;exact a
 ·rename_i d
  split at a
  ·rename_i e
   obtain ⟨b,B,g,f,i⟩:=e
   rw [if_pos ⟨b,B,h b B g,f,i⟩]
   exact a
  ·cases a
def cl (rd:dU) (v:AV):List Nat:=sU rd 6 (jB (fD v))
inductive FQ (base:Nat) (rd:dU) (all:List Nat):AV→AV→Prop
 |own {b n:Nat} {B:bi}:rd b=some B→base≤b→B.fro=false→B.pr=true→gK all b=1→0<B.esz→FQ base rd all (.ref b B.ver 0 n) (.own (B.cells.take (n*B.esz)) n B.esz)
 |low {v:AV}:(∀ b ∈ fD v,b<base)→FQ base rd all v v
 |frz {v v':AV}:(∀ b ∈ cl rd v,base≤b)→frz (fun b=>match pM (cl rd v) b with|true=>rd b|false=>none) 6 v=some v'→FQ base rd all v v'
theorem QG {base:Nat} {rd:dU} {v a:AV} (h:XP base rd v=some a):(∀ b ∈ cl rd v,base≤b)∧frz (fun b=>match pM (cl rd v) b with|true=>rd b|false=>none) 6 v=some a:=by
 unfold XP at h
 dsimp only at h
 split at h
 ·rename_i d
  exact ⟨fun b c=>gU (List.all_eq_true.1 d b c),h⟩
 ·cases h
theorem Gy {base:Nat} {rd:dU} {all:List Nat} {v a:AV} (h:(match (fD v).all (fun b=>Nat.blt b base) with|true=>some v|false=>XP base rd v)=some a):FQ base rd all v a:=by
 split at h
 ·rename_i e
  cases h
  exact .low fun b c=>gp (List.all_eq_true.1 e b c)
 ·obtain ⟨f,d⟩:=QG h
  exact .frz f d
theorem yg {base:Nat} {rd:dU} {all:List Nat} {v d:AV} (h:qY base rd all v=some d):FQ base rd all v d:=by
 unfold qY at h
 dsimp only at h
 split at h
 ·rename_i b ver n
  split at h
  ·rename_i B i
   split at h
   ·rename_i c
    cases h
    simp only [Bool.and_eq_true,Bool.not_eq_true'] at c
    obtain ⟨⟨⟨⟨⟨j,a⟩,k⟩,g⟩,f⟩,e⟩:=c
    have a:=aO a
    subst a
    exact .own i (gU j) k g (aO f) (gp e)
   ·exact Gy h
  ·cases h
 ·exact Gy h
theorem uS {l:List Nat} {b:Nat} (h:b ∈ l):1≤gK l b:=by
 unfold gK
 have:b ∈ l.filter (Nat.beq b):=by rw [List.mem_filter];exact ⟨h,Nat.beq_refl b⟩
 exact List.length_pos_of_mem this
theorem qV {l a:List Nat} {b:Nat}:gK (l++a) b=gK l b+gK a b:=by simp [gK,List.filter_append]
theorem yU {α:Type} {f:α→List Nat} {b:Nat}:∀ (vs:List α) (i j:Nat) (v v':α),vs[i]? =some v→vs[j]? =some v'→i ≠ j→b ∈ f v→b ∈ f v'→2≤gK (vs.flatMap f) b
 | [],i,j,v,v',h,_,_,_,_=>by simp at h
 | a::r,i,j,v,v',hi,hj,hne,hb,hb'=>by
  have c:∀ (k:Nat) (u:α),r[k]? =some u→b ∈ f u→1≤gK (r.flatMap f) b:=by
   intro k u e d
   exact uS (List.mem_flatMap.2 ⟨u,List.mem_of_getElem? e,d⟩)
  rw [List.flatMap_cons,qV]
  cases i with
  |zero=>
   simp at hi;subst hi
   cases j with
   |zero=>exact absurd rfl hne
   |succ j=>have:=c j v' (by simpa using hj) hb';have:=uS hb;omega
  | succ i=>
   cases j with
   |zero=>simp at hj;subst hj;have:=c i v (by simpa using hi) hb;have:=uS hb';omega
   |succ j=>
    have:=yU r i j v v' (by simpa using hi) (by simpa using hj) (by omega) hb hb'
    omega
def kX:List AV→List AV→List (Nat × bi)
 |v::r,.own xs _ esz::q=>(match v with| .ref b _ _ _=> [(b,I7 xs esz)]|_=> [])++kX r q
 |_::r,_::q=>kX r q
 |_,_=> []
theorem jI {v x:AV} {r q:List AV} (h:∀ xs k e,x ≠ .own xs k e):kX (v::r) (x::q)=kX r q:=by
 cases x<;>first|rfl|exact absurd rfl (h _ _ _)
section
variable {P:Program} {ap:AP} {base:Nat} {rd:dU} {all:List Nat}
theorem wM {g:dU} {m:bf} {S:aX} {x:AV} {v:Value} (h:VR g m S x v):∀ xs k e,x ≠ .own xs k e:=by
 rintro xs k e rfl;simp [VR] at h
theorem BP {S:aX} {x:AV} {v:Value} (h:PR S x v):∀ xs k e,x ≠ .own xs k e:=by
 rintro xs k e rfl;simp [PR] at h
end
end AM
namespace AM
open Go
theorem DV {b:Nat}:∀ (l acc:List Nat),(b ∈ l∨b ∈ acc)→b ∈ l.foldl Aw acc
 | [],acc,h=>by simpa using h
 | a::r,acc,h=>by
  simp only [List.foldl_cons]
  refine DV r _ ?_
  rcases h with h|h
  ·rcases List.mem_cons.1 h with rfl|h
   ·right
    unfold Aw
    split
    ·rename_i c;exact jg.1 c
    ·simp
   ·exact .inl h
  ·right
   obtain h':=h
   unfold Aw
   split
   ·exact h
   ·simp [h]
theorem NR {l:List Nat} {b:Nat} (h:b ∈ l):b ∈ jB l:=DV l [] (.inl h)
theorem IX (l:List Nat):(jB l).Nodup:=(oD l [] (by simp)).1
theorem UW {rd:dU} {v:AV} {b:Nat} (h:b ∈ fD v):b ∈ cl rd v:=by
 obtain ⟨_,t,a⟩:=tX rd 6 (jB (fD v)) (IX _)
 unfold cl
 rw [a]
 exact List.mem_append.2 (.inl (NR h))
theorem zu:∀ {vs l:List AV} {b:Nat} {Bo:bi},(b,Bo) ∈ kX vs l→∃ ver i n c k e,(AV.ref b ver i n,AV.own c k e) ∈ vs.zip l∧Bo=I7 c e
 | [],l,b,Bo,h=>by cases l<;>simp [kX] at h
 |v::r,[],b,Bo,h=>by simp [kX] at h
 | v ::r,x::q,b,Bo,h=>by
  rcases jO x with ⟨c,k,e,rfl⟩|hx
  ·simp only [kX,List.mem_append] at h
   rcases h with h|h
   ·cases v with
    |ref b' ver i n=>
     simp at h
     obtain ⟨rfl,rfl⟩:=h
     exact ⟨ver,i,n,c,k,e,by simp,rfl⟩
    |_=>simp at h
   ·obtain ⟨ver,i,n,a,d,j,g,f⟩:=zu h
    exact ⟨ver,i,n,a,d,j,by simp [g],f⟩
  ·rw [jI hx] at h
   obtain ⟨ver,i,n,a,d,j,g,f⟩:=zu h
   exact ⟨ver,i,n,a,d,j,by simp [g],f⟩
theorem D8 {rd:dU} {b:Nat}:∀ (vs l:List AV),gK ((kX vs l).flatMap fun q=> [q.1]) b≤gK (vs.flatMap (cl rd)) b
 | [],l=>by cases l<;>simp [kX,gK]
 |v::r,[]=>by simp [kX,gK]
 | v :: r,x::q=>by
  have f:=D8 (rd:=rd) (b:=b) r q
  rw [List.flatMap_cons,qV]
  rcases jO x with ⟨d,k,e,rfl⟩|hx
  ·simp only [kX,List.flatMap_append,qV]
   cases v with
   | ref b' ver i n=>
    simp only [List.flatMap_cons,List.flatMap_nil,List.append_nil]
    have:gK [b'] b≤gK (cl rd (.ref b' ver i n)) b:=by
     by_cases hb:b=b'
     ·subst hb
      have a:gK [b] b=1:=by simp [gK]
      rw [a]
      exact uS (UW (by simp [fD]))
     ·have a:gK [b'] b=0:=by
       have:Nat.beq b b'=false:=by
        cases c:Nat.beq b b' with
        |false=>rfl
        |true=>exact absurd (aO c) hb
       simp [gK,this]
      omega
    omega
   |_=>simp [gK] at*;omega
  ·rw [jI hx];omega
theorem Eo:∀ (vs l:List AV) (n:Nat),vs.length=l.length→(∀ v x,(v,x) ∈ vs.zip l→(∃ c k e,x= .own c k e)→∃ b ver i n,v= .ref b ver i n)→(gz n l).2=(kX vs l).map (·.2)
 | [],[],n,_,_=>by simp [gz,kX]
 | v::r,x::q,n,hl,h=>by
  have d:=fun n=>Eo r q n (by simpa using hl) fun v x f a=>h v x (by simp [f]) a
  rcases jO x with ⟨c,k,e,rfl⟩|a
  ·obtain ⟨b,ver,i,g,rfl⟩:=h v _ (by simp) ⟨c,k,e,rfl⟩
   simp only [gz,kX,d]
   simp
  ·rw [bJ n a,jI a]
   exact d n
 | [],_::_,_,hl,_=>by simp at hl
 |_::_,[],_,hl,_=>by simp at hl
theorem I5 {rd gh gf:dU} {m p:bf} {S S':aX}:∀ (vs l:List AV) (cvs:List Value) (n:Nat),vs.length=l.length→bF rd m S vs cvs→
  (∀ v x,(v,x) ∈ vs.zip l→(∃ a k e,x= .own a k e)→∃ b ver n,v= .ref b ver 0 n∧∃ a e,x= .own a n e)→
  (∀ v x c,(v,x) ∈ vs.zip l→(∀ a k e,x ≠ .own a k e)→VR rd m S v c→VR gh p S' x c)→
  (∀ (k b:Nat) (Bo:bi),(kX vs l)[k]? =some (b,Bo)→∀ ver o c,VR rd m S (.ref b ver 0 o) c→(∃ a e,(AV.ref b ver 0 o,AV.own a o e) ∈ vs.zip l)→VR gf p S' (.ref (n+k) 0 0 o) c)→jQ gh gf p S' n l cvs
 | [],[],[],n,_,_,_,_,_=>by simp [jQ]
 | v::r,x::q,c::cs,n,hl,hv,ho,hx,hr=>by
  simp only [bF] at hv
  rcases jO x with ⟨a,k,e,rfl⟩|hxo
  ·obtain ⟨b,ver,o,rfl,w,z,y⟩:=ho v _ (by simp) ⟨a,k,e,rfl⟩
   cases y
   simp only [jQ]
   refine ⟨?_, ?_⟩
   ·have:=hr 0 b (I7 a e) (by simp [kX]) ver k c hv.1 ⟨a,e,by simp⟩
    rwa [Nat.add_zero] at this
   ·refine I5 r q cs (n+1) (by simpa using hl) hv.2 (fun v x h=>ho v x (by simp [h])) (fun v x c h=>hx v x c (by simp [h])) ?_
    intro j u Bo s d g t i f
    have:=hr (j+1) u Bo (by simpa [kX] using s) d g t i (by obtain ⟨a,e,f⟩:=f;exact ⟨a,e,by simp [f]⟩)
    rwa [show n+(j+1)=n+1+j by omega] at this
  ·rw [cO hxo]
   refine ⟨hx v x c (by simp) hxo hv.1, ?_⟩
   refine I5 r q cs n (by simpa using hl) hv.2 (fun v x h=>ho v x (by simp [h])) (fun v x c h=>hx v x c (by simp [h])) ?_
   intro j u Bo s d g t i f
   exact hr j u Bo (by rw [jI hxo];exact s) d g t i (by obtain ⟨a,e,f⟩:=f;exact ⟨a,e,by simp [f]⟩)
 | [],_::_,_,_,hl,_,_,_,_=>by simp at hl
 |_::_,[],_,_,hl,_,_,_,_=>by simp at hl
 | [],[],_::_,_,_,hv,_,_,_=>by simp [bF] at hv
 |_::_,_::_,[],_,_,hv,_,_,_=>by simp [bF] at hv
theorem KJ {α β:Type} {f:α→Option β}:∀ {l:List α} {l':List β},kN f l=some l'→∀ x y,(x,y) ∈ l.zip l'→f x=some y
 | [],l',h,x,y,hm=>by simp at hm
 | a::r,l',h,x,y,hm=>by
  simp only [kN] at h
  split at h
  ·rename_i b d
   split at h
   ·rename_i q c
    cases h
    simp only [List.zip_cons_cons,List.mem_cons,Prod.mk.injEq] at hm
    rcases hm with ⟨rfl,rfl⟩|hm
    ·exact d
    ·exact KJ c x y hm
   ·cases h
  ·cases h
theorem P_ {α β:Type} {l:List α} {b:List β} {x:α} {y:β} (h:(x,y) ∈ l.zip b):∃ i:Nat,l[i]? =some x∧b[i]? =some y:=by
 obtain ⟨i,a⟩:=List.mem_iff_getElem?.1 h
 rw [List.getElem?_zip_eq_some] at a
 exact ⟨i,a⟩
theorem WT {g:dU} {m:bf} {S:aX} {l:List AV} {vs:List Value} (h:bF g m S l vs) {x:AV} (c:x ∈ l):∃ v,VR g m S x v:=by
 obtain ⟨i,a⟩:=List.mem_iff_getElem?.1 c
 obtain ⟨v,_,b⟩:=qQ h i a
 exact ⟨v,b⟩
end AM
namespace AM
open Go
section
variable {P:Program} {ap:AP}
theorem wU {h0 G:List bi} {hp:Hp} {m m0:bf} {S S0:aX} {w w0:World} {vs l:List AV} {cvs:List Value} (V:b_ ap (aG hp) m S w) (A:Fr (bI h0) m0 S0 w0 (aG hp) m S w) (hv:bF (aG hp) m S vs cvs)
  {N:Nat} (hN:h0.length≤N) (hl:kN (qY N (aG hp) (vs.flatMap (cl (aG hp)))) vs=some l) (hh':kN (aG hp) (List.range N)=some G) (hbase:G.all (fun B=>B.pr||(dw B.cells).all fun b=>Nat.blt b N)=true):
  ∃ m' S',b_ ap (bI (G++(gz G.length l).2)) m' S' w∧Fr (bI h0) m0 S0 w0 (bI (G++(gz G.length l).2)) m' S' w∧jQ (bI G) (bI (G++(gz G.length l).2)) m' S' G.length l cvs:=by
 have X:=(jy hl).1
 have hz:∀ v x,(v,x) ∈ vs.zip l→FQ N (aG hp) (vs.flatMap (cl (aG hp))) v x:=fun v x E=>yg (KJ hl v x E)
 have J:∀ v x,(v,x) ∈ vs.zip l→(∃ O k e,x= .own O k e)→∃ (b n:Nat) (B:bi),v= .ref b B.ver 0 n∧aG hp b=some B∧N≤b∧B.fro=false∧B.pr=true∧gK (vs.flatMap (cl (aG hp))) b=1∧0<B.esz∧x= .own (B.cells.take (n*B.esz)) n B.esz:=by
  rintro v x E ⟨O,k,e,rfl⟩
  obtain ⟨c,U⟩:=WT hv (List.of_mem_zip E).1
  generalize hxe:AV.own O k e=x at E
  cases hz v x E with
  |own a d p t z Q=>exact ⟨_,_,_,rfl,a,d,p,t,z,Q,rfl⟩
  |low a=>exact absurd hxe.symm (wM U _ _ _)
  |frz a d=>
   refine absurd hxe.symm (BP (lq V (fun b B g=> ?_) 6 v c x d U) _ _ _)
   split at g
   ·exact g
   ·cases g
 generalize K:kX vs l=obs
 have hbs:∀ n,(gz n l).2=obs.map (·.2):=by
  intro n
  rw [← K]
  refine Eo vs l n X.symm fun v x E Y=> ?_
  obtain ⟨b,n',B,a,_⟩:=J v x E Y
  exact ⟨b,_,0,n',a⟩
 rw [hbs]
 have C:∀ b Bo,(b,Bo) ∈ obs→∃ (n:Nat) (B:bi),aG hp b=some B∧N≤b∧B.fro=false∧B.pr=true∧gK (vs.flatMap (cl (aG hp))) b=1∧0<B.esz∧Bo=I7 (B.cells.take (n*B.esz)) B.esz∧(AV.ref b B.ver 0 n,AV.own (B.cells.take (n*B.esz)) n B.esz) ∈ vs.zip l:=by
  intro b Bo E
  rw [← K] at E
  obtain ⟨ver,i,n,O,k,e,a,d⟩:=zu E
  obtain ⟨b',n',B,p,t,z,Q,W,T,Z,D⟩:=J _ _ a ⟨O,k,e,rfl⟩
  cases p
  cases D
  exact ⟨_,B,t,z,Q,W,T,Z,d,a⟩
 have hobd:∀ (k k' b:Nat) (Bo Bo':bi),obs[k]? =some (b,Bo)→obs[k']? =some (b,Bo')→k=k':=by
  intro k k' b Bo Bo' a d
  obtain ⟨n,B,_,_,_,_,z,_⟩:=C b Bo (List.mem_of_getElem? a)
  by_cases s:k=k'
  ·exact s
  ·have p:=yU (f:=fun q:Nat × bi=> [q.1]) obs k k' _ _ a d s (b:=b) (by simp) (by simp)
   have t:=D8 (rd:=aG hp) (b:=b) vs l
   rw [K] at t
   omega
 have hobx:∀ b Bo,(b,Bo) ∈ obs→∀ v x,(v,x) ∈ vs.zip l→(∀ O k e,x ≠ .own O k e)→b ∉ cl (aG hp) v:=by
  intro b Bo E v x hvx Y g
  obtain ⟨n,B,_,_,_,_,z,_,_,Q⟩:=C b Bo E
  obtain ⟨i,W,T⟩:=P_ Q
  obtain ⟨j,Z,D⟩:=P_ hvx
  have hne:i ≠ j:=by
   rintro rfl
   rw [T] at D
   cases D
   exact Y _ _ _ rfl
  have:=yU (f:=cl (aG hp)) vs i j _ _ W Z hne (b:=b) (UW (by simp [fD])) g
  omega
 have hl0:G.length=N:=by rw [(jy hh').1];simp
 have L:∀ b,b<N→∃ B,aG hp b=some B∧bI G b=some B:=by
  intro b g
  obtain ⟨B,a,d⟩:=(jy hh').2 b b (by simp [g])
  exact ⟨B,d,a⟩
 have hlow':∀ b B,bI G b=some B→b<N∧aG hp b=some B:=by
  intro b B g
  have I:b<N:=by
   have:=(List.getElem?_eq_some_iff.1 g).1
   omega
  obtain ⟨B',a,d⟩:=L b I
  rw [g] at d;cases d
  exact ⟨I,a⟩
 let rdF:dU:=open Classical in fun b=>if ∃ v x,(v,x) ∈ vs.zip l∧(∀ O k e,x ≠ .own O k e)∧b ∈ cl (aG hp) v∧∀ y ∈ cl (aG hp) v,N≤y then aG hp b else none
 have R:∀ b B,rdF b=some B→aG hp b=some B∧N≤b∧∀ Bo,(b,Bo) ∉ obs:=by
  intro b B g
  dsimp only [rdF] at g
  split at g
  ·rename_i U
   obtain ⟨v,x,a,d,p,t⟩:=U
   exact ⟨g,t b p,fun Bo E=>hobx b Bo E v x a d p⟩
  ·cases g
 have r:=mQ S m rdF w
 let m':bf:=fun i=>if i<N then m i else m ((obs.map (·.1)).getD (i - N) 0)
 have hm'lo:∀ i,i<N→m' i=m i:=fun i F=>if_pos F
 have hm'hi:∀ (k b:Nat) (Bo:bi),obs[k]? =some (b,Bo)→m' (N+k)=m b:=by
  intro k b Bo s
  show (if _ then _ else _)=_
  rw [if_neg (by omega),show N+k - N=k by omega,List.getD_eq_getElem?_getD,List.getElem?_map,s]
  rfl
 have hgf:∀ i Bi,bI (G++obs.map (·.2)) i=some Bi→(i<N∧aG hp i=some Bi∧bI G i=some Bi)∨(∃ k b,i=N+k∧obs[k]? =some (b,Bi)):=by
  intro i Bi F
  by_cases I:i<N
  ·rw [fO (by omega)] at F
   exact .inl ⟨I,(hlow' i Bi F).2,F⟩
  ·rw [jv (by omega),hl0] at F
   right
   refine ⟨i - N, ?_⟩
   have hi':(obs.map (·.2))[i - N]? =some Bi:=F
   rw [List.getElem?_map,Option.map_eq_some_iff] at hi'
   obtain ⟨⟨b,Bo⟩,a,d⟩:=hi'
   exact ⟨b,by omega,by rw [a];simp at d;rw [d]⟩
 have hgfk:∀ (k b:Nat) (Bo:bi),obs[k]? =some (b,Bo)→bI (G++obs.map (·.2)) (N+k)=some Bo:=by
  intro k b Bo s
  rw [jv (by omega),hl0,show N+k - N=k by omega]
  show (obs.map (·.2))[k]? =_
  rw [List.getElem?_map,s];rfl
 have M:∀ i Bi,bI (G++obs.map (·.2)) i=some Bi→∃ b B,aG hp b=some B∧m' i=m b∧((i<N∧b=i∧Bi=B)∨(N≤b∧∃ k,i=N+k∧obs[k]? =some (b,Bi))):=by
  intro i Bi F
  rcases hgf i Bi F with ⟨a,d,p⟩|⟨k,b,rfl,s⟩
  ·exact ⟨i,Bi,d,hm'lo i a,.inl ⟨a,rfl,rfl⟩⟩
  ·obtain ⟨n,B,a,d,_⟩:=C b Bi (List.mem_of_getElem? s)
   exact ⟨b,B,a,hm'hi k b Bi s,.inr ⟨d,k,rfl,s⟩⟩
 refine ⟨m',dV S m rdF w, ?_, ?_, ?_⟩
 ·refine ⟨?_, ?_,fun k o v h=>oZ V h, ?_, ?_⟩
  ·intro i j Bi Bj F hj e
   obtain ⟨b,B,a,d,p⟩:=M i Bi F
   obtain ⟨b',B',h1',h2',h3'⟩:=M j Bj hj
   rw [d,h2'] at e
   have:=V.inj b b' B B' a h1' e
   subst this
   rcases p with ⟨t,rfl,_⟩|⟨t,k,rfl,s⟩<;>rcases h3' with ⟨h4',rfl,_⟩|⟨h4',k',rfl,hk'⟩
   ·rfl
   ·omega
   ·omega
   ·rw [hobd k k' b _ _ s hk']
  ·intro i Bi F
   rcases hgf i Bi F with ⟨a,d,p⟩|⟨k,b,rfl,s⟩
   ·rw [hm'lo i a]
    obtain ⟨⟨cur,e,us,rest,k1,k2,k3,k4,k5,k6⟩,k7,k8⟩:=V.blk i Bi d
    refine ⟨⟨cur,e,us,rest,k1,k2,fun hp=>bP r _ (k3 hp), ?_,k5,k6⟩,k7,k8⟩
    cases hpr:Bi.pr with
    |true=>exact bW _ (bP r _ (k3 hpr))
    |false=>
     refine mM r _ (fun b g=> ?_) k4
     have z:=List.all_eq_true.1 hbase Bi (List.mem_of_getElem? p)
     rw [hpr] at z
     simp only [Bool.false_or] at z
     have Q:=gp (List.all_eq_true.1 z b g)
     obtain ⟨B,W,T⟩:=L b Q
     exact ⟨by rw [fO (by omega),T,W],hm'lo b Q⟩
   ·obtain ⟨n,B,a,d,p,t,z,Q,rfl,_⟩:=C b Bi (List.mem_of_getElem? s)
    rw [hm'hi k b _ s]
    obtain ⟨⟨cur,e,us,rest,k1,k2,k3,k4,k5,k6⟩,k7,k8⟩:=V.blk b B a
    have hp:=bP r _ (kR (n*B.esz) (k3 t))
    refine ⟨⟨cur,e,us.take (n*B.esz),us.drop (n*B.esz)++rest,k1, ?_,fun _=>hp,bW _ hp,fun hz u hu=>k5 hz u (List.mem_of_mem_take hu),k6⟩,fun _=>rfl,Nat.zero_le _⟩
    rw [← List.append_assoc,List.take_append_drop];exact k2
  ·intro i Bi F o v ho
   obtain ⟨b,B,a,d,p⟩:=M i Bi F
   rw [d] at ho
   have hno:rdF b=none:=by
    cases hr:rdF b with
    |none=>rfl
    |some B'=>
     obtain ⟨_,t,z⟩:=R b B' hr
     rcases p with ⟨Q,rfl,_⟩|⟨_,k,_,s⟩
     ·omega
     ·exact absurd (List.mem_of_getElem? s) (z _)
   have hSo:S (m b).1 o=some v:=by
    rcases gB ho with h|⟨_,b',B',t,z,_⟩
    ·exact h
    ·have:=V.inj b' b B' B (R b' B' t).1 a z
     subst this
     rw [hno] at t;cases t
   obtain ⟨W,T⟩:=V.own b B a o v hSo
   rcases p with ⟨_,rfl,rfl⟩|⟨_,k,_,s⟩
   ·exact ⟨W,T⟩
   ·obtain ⟨n,B2,Z,_,D,_⟩:=C b _ (List.mem_of_getElem? s)
    rw [a] at Z;cases Z
    rw [W] at D;cases D
  ·intro k O s
   obtain ⟨us,a,d⟩:=V.glob k O s
   exact ⟨us,bP r _ a,d.mono r⟩
 ·refine ⟨?_,A.sle.trans r,A.os,A.tape,A.output,A.size,A.rest, ?_, ?_⟩
  ·intro b B0 g
   have I:b<N:=Nat.lt_of_lt_of_le (List.getElem?_eq_some_iff.1 g).1 hN
   obtain ⟨B,a,d,p⟩:=A.ge b B0 g
   obtain ⟨B',t,z⟩:=L b I
   rw [a] at t;cases t
   exact ⟨B,by rw [fO (by omega)];exact z,d,by rw [hm'lo b I];exact p⟩
  ·intro i Bi F
   obtain ⟨b,B,a,d,p⟩:=M i Bi F
   rw [d]
   rcases A.img b B a with h|⟨B0,t,z⟩
   ·exact .inl h
   ·have I:b<N:=Nat.lt_of_lt_of_le (List.getElem?_eq_some_iff.1 t).1 hN
    rcases p with ⟨_,rfl,_⟩|⟨Q,_⟩
    ·exact .inr ⟨B0,t,z⟩
    ·omega
  ·intro k o v hv
   rcases gB hv with h|⟨_,b,B,a,d,_⟩
   ·exact A.sealN k o v h
   ·obtain ⟨p,t,_⟩:=R b B a
    rcases A.img b B p with h|⟨B0,z,_⟩
    ·exact .inr (.inl (d ▸ h))
    ·have:=(List.getElem?_eq_some_iff.1 z).1
     omega
 ·rw [hl0]
  refine I5 (rd:=aG hp) (m:=m) (S:=S) vs l cvs N X.symm hv ?_ ?_ ?_
  ·intro v x E Y
   obtain ⟨b,n,B,a,_,_,_,_,_,_,d⟩:=J v x E Y
   exact ⟨b,B.ver,n,a,_,_,d⟩
  ·intro v x c E Y U
   cases hz v x E with
   |own _ _ _ _ _ _=>exact absurd rfl (Y _ _ _)
   |low a=>
    refine xC r v (fun b g=> ?_) U
    obtain ⟨B,d,p⟩:=L b (a b g)
    exact ⟨by rw [p,d],hm'lo b (a b g)⟩
   | frz a d=>
    have p:=lq V (fun b B g=>by split at g;exact g;cases g) 6 v c x d U
    refine iQ x (dD (Lm fun b B g=> ?_) x p)
    split at g
    ·rename_i hm2
     dsimp only [rdF]
     rw [if_pos ⟨v,x,E,Y,jg.1 hm2,a⟩]
     exact g
    ·cases g
  ·rw [K]
   intro k b Bo s ver n' c U hzz
   obtain ⟨n,B,a,d,p,t,z,Q,rfl,W⟩:=C b Bo (List.mem_of_getElem? s)
   obtain ⟨O,e,hzz⟩:=hzz
   have hver:ver=B.ver:=by
    obtain ⟨b2,n2,B2,e1,e2,_⟩:=J _ _ hzz ⟨O,_,e,rfl⟩
    cases e1
    rw [a] at e2;cases e2;rfl
   subst hver
   simp only [VR] at U ⊢
   obtain ⟨B',T,_,Z,D⟩:=U
   rw [a] at T;cases T
   refine ⟨_,hgfk k b _ s,Nat.zero_le _,Z,fun _=> ?_⟩
   rw [hm'hi k b _ s]
   exact D rfl
end
end AM
namespace AM
open Go
section
variable {P:Program} {ap:AP}
theorem FN (p:je P ap) {env:iW} {hp:Hp} {m:bf} {S:aX} {w:World} {tmps:Array Value} (G:b_ ap (aG hp) m S w) (q:∀ t,VR (aG hp) m S (env.get t) (tmps.getD t undef)) {r:ResultVar} {v:AV} {bs:List Bool}
  (h:yC ap env hp r=some (v,bs)) (hbs:∀ b ∈ bs,b=true):∃ cv,(He tmps r).run P w= .ok cv w∧VR (aG hp) m S v cv:=by
 cases r with
 |tmp t=>
  simp only [yC,Option.some.injEq,Prod.mk.injEq] at h
  obtain ⟨rfl,rfl⟩:=h
  exact ⟨_,rfl,q t⟩
 | cell a t=>
  simp only [yC] at h
  have E:=bind_some h;clear h;obtain ⟨I,l,h⟩:=E
  simp only [Option.map_eq_some_iff] at h
  obtain ⟨⟨K,ups,F⟩,j,y⟩:=h
  simp only [Prod.mk.injEq] at y
  obtain ⟨rfl,rfl⟩:=y
  obtain ⟨i,d,z,C⟩:=fA p l
  have c:=q a
  obtain ⟨_,cv,s,A⟩:=zZ G (fun b B D=>D) C c j hbs
  refine ⟨cv, ?_,A⟩
  have g:∃ x,tmps.getD a undef= .pointer (some x):=by
   unfold KH at j
   split at j
   ·rename_i J n f
    rw [f] at c
    simp only [VR,PR] at c
    obtain ⟨b,o,vs,e,_⟩:=c
    exact ⟨_,e⟩
   ·rename_i b ver n f
    rw [f] at c
    simp only [VR] at c
    obtain ⟨B,_,_,⟨k,o,e⟩,_⟩:=c
    exact ⟨_,e⟩
   ·cases j
  obtain ⟨x,u⟩:=g
  rw [u] at s
  simp only [He,u]
  exact s
theorem pV (a:je P ap) {env:iW} {hp:Hp} {m:bf} {S:aX} {w:World} {tmps:Array Value} (f:b_ ap (aG hp) m S w) (g:∀ t,VR (aG hp) m S (env.get t) (tmps.getD t undef)):
  ∀ {rs:List ResultVar} {vs:List (AV × List Bool)},kN (yC ap env hp) rs=some vs→(∀ b ∈ vs.flatMap (·.2),b=true)→∃ cvs:List Value,rs.length=cvs.length∧bF (aG hp) m S (vs.map (·.1)) cvs∧∀ (i:Nat) (r:ResultVar) (v:Value),rs[i]? =some r→cvs[i]? =some v→(He tmps r).run P w= .ok v w
 | [],vs,h,_=>by
  simp [kN] at h
  subst h
  exact ⟨[],rfl,by simp [bF],fun i r v h=>by simp at h⟩
 | r::rs,vs,h,hbs=>by
  simp only [kN] at h
  split at h
  ·rename_i q k
   split at h
   ·rename_i l j
    cases h
    obtain ⟨v,bs⟩:=q
    obtain ⟨cv,s,p⟩:=FN a f g k (fun b c=>hbs b (by simp [c]))
    obtain ⟨cvs,u,o,n⟩:=pV a f g j (fun b c=>hbs b (by rw [List.flatMap_cons];exact List.mem_append.2 (.inr c)))
    refine ⟨cv::cvs,by simp [u],by simp only [List.map_cons,bF];exact ⟨p,o⟩, ?_⟩
    intro i r' x d e
    cases i with
    |zero=>simp at d e;subst d;subst e;exact s
    |succ i=>exact n i r' x (by simpa using d) (by simpa using e)
   ·cases h
  ·cases h
theorem Tc {gh gf:dU} {m:bf} {S:aX} {n:Nat} {x:AV} {v:Value} (h:jQ gh gf m S n [x] [v]):xA gh gf m S n x v∧(ku n x).2=(gz n [x]).2:=by
 rcases jO x with ⟨i,k,e,rfl⟩|hx
 ·simp only [jQ] at h
  exact ⟨h.1,rfl⟩
 ·rw [cO hx] at h
  rcases zI x with ⟨l,rfl⟩|ht
  ·have f:=h.1
   simp only [VR] at f
   obtain ⟨vs,rfl,g⟩:=f
   have key:∀ (l:List AV) (vs:List Value) (n:Nat),bF gh m S l vs→jQ gh gf m S n l vs∧(gz n l).2= []:=by
    intro l
    induction l with
    |nil=>intro vs n a;cases vs with
     |nil=>exact ⟨by simp [jQ],rfl⟩
     |cons _ _=>simp [bF] at a
    | cons y r ih=>intro vs n a;cases vs with
     |nil=>simp [bF] at a
     |cons u us=>
      simp only [bF] at a
      have b:=wM a.1
      obtain ⟨d,c⟩:=ih us n a.2
      rw [cO b,bJ n b]
      exact ⟨⟨a.1,d⟩,c⟩
   obtain ⟨d,c⟩:=key l vs n g
   refine ⟨?_, ?_⟩
   ·simp only [xA]
    exact ⟨vs,rfl,d⟩
   ·simp only [ku,gz]
    exact c
  ·rw [lg hx ht,jD n hx ht,bJ n hx]
   exact ⟨h.1,rfl⟩
theorem vG (rd:dU) (n:Nat):n≤RN rd n:=by
 obtain ⟨_,t,a⟩:=tX rd 20 (List.range n) List.nodup_range
 unfold RN
 rw [a,List.length_append,List.length_range]
 exact Nat.le_add_right _ _
theorem lI (r:je P ap) {h0 n:List bi} {F:Func} {env:iW} {hp:Hp} {m m0:bf} {S S0:aX} {w w0:World} {tmps:Array Value} {c G:Cx} {out:kQ} (h:vk ap h0.length F env hp c= .ok (out,n) G) (J:G.Ok):
  c.Ok∧h0.length≤n.length∧(b_ ap (aG hp) m S w→Fr (bI h0) m0 S0 w0 (aG hp) m S w→(∀ t,VR (aG hp) m S (env.get t) (tmps.getD t undef))→
   ∃ cv,(results F tmps).run P w= .ok cv w∧∃ p S',Fq ap h0 m0 S0 w0 out n p S' w (.returned cv)):=by
 unfold vk at h
 dsimp only at h
 split at h
 ·rename_i vs K o b
  split at h
  ·cases h
  ·rename_i hbase
   obtain ⟨_,L,E,h⟩:=R.bind_ok h
   split at h
   ·rename_i v g
    cases h
    obtain ⟨i,e⟩:=Iy E J
    have hlen':h0.length≤n.length:=by rw [(jy b).1];simpa using vG _ _
    refine ⟨i,hlen',fun s f A=> ?_⟩
    obtain ⟨cvs,B,u,C⟩:=pV r s A o e
    have a:(vs.flatMap fun q=>sU (aG hp) 6 (jB (fD q.1)))=(vs.map (·.1)).flatMap (cl (aG hp)):=by rw [List.flatMap_map];rfl
    rw [a] at g
    obtain ⟨p,S',y,x,D⟩:=wU s f u (vG _ _) g b hbase
    have z:cvs.length=1:=by
     have:=cZ u
     have j:=(jy g).1
     simp at j this
     omega
    match cvs,z with
    | [cv],_=>
     obtain ⟨j,I⟩:=Tc D
     refine ⟨cv,uF B C,p,S', ?_⟩
     rw [← I] at y x
     refine ⟨y,x,cv,rfl, ?_⟩
     rw [I]
     exact j
   ·rename_i l d g
    cases h
    obtain ⟨i,e⟩:=Iy E J
    have hlen':h0.length≤n.length:=by rw [(jy b).1];simpa using vG _ _
    refine ⟨i,hlen',fun s f A=> ?_⟩
    obtain ⟨cvs,B,u,C⟩:=pV r s A o e
    have a:(vs.flatMap fun q=>sU (aG hp) 6 (jB (fD q.1)))=(vs.map (·.1)).flatMap (cl (aG hp)):=by rw [List.flatMap_map];rfl
    rw [a] at g
    obtain ⟨p,S',y,x,D⟩:=wU s f u (vG _ _) g b hbase
    have k:Vl cvs= .tuple cvs.toArray:=by
     match cvs with
     | []=>rfl
     | [cv]=>
      exfalso
      have:=cZ u
      have j:=(jy g).1
      simp at j this
      match l,d with
      | [],_=>simp at j;omega
      | [v],d=>exact d v rfl
      |_::_::_,_=>simp at j;omega
     |_::_::_=>rfl
    refine ⟨_,uF B C,p,S',y,x, ?_⟩
    rw [k]
    exact ⟨_,rfl,cvs,rfl,D⟩
   ·cases h
 ·cases h
theorem yz {h0 g:List bi} {v:AV} {hp:Hp} {m m0:bf} {S S0:aX} {w w0:World} {c u:Cx} {out:kQ} (h:I9 h0.length v hp c= .ok (out,g) u):
  c=u∧h0.length≤g.length∧(b_ ap (aG hp) m S w→Fr (bI h0) m0 S0 w0 (aG hp) m S w→∀ cv,VR (aG hp) m S v cv→(∀ b ver n,v ≠ .ref b ver 0 n)→
   ∃ l S',Fq ap h0 m0 S0 w0 out g l S' w (.panicked [{v:=cv,recovered:=false}])):=by
 unfold I9 at h
 dsimp only at h
 split at h
 ·rename_i t z a f
  split at h
  ·cases h
  ·rename_i hbase
   cases h
   have hlen':h0.length≤g.length:=by rw [(jy f).1];simpa using vG _ _
   refine ⟨rfl,hlen',fun x s cv q r=> ?_⟩
   have y:kN (qY (RN (aG hp) h0.length) (aG hp) ([v].flatMap (cl (aG hp)))) [v]=some [t]:=by
    simp only [List.flatMap_cons,List.flatMap_nil,List.append_nil,kN]
    have A:qY (RN (aG hp) h0.length) (aG hp) (cl (aG hp) v) v=some t:=a
    rw [A]
   obtain ⟨l,S',p,o,j⟩:=wU x s (vs:= [v]) (cvs:= [cv]) (by simp only [bF];exact ⟨q,trivial⟩) (vG _ _) y f hbase
   have d:∀ xs k e,t ≠ .own xs k e:=by
    rintro xs k e rfl
    cases yg a with
    |own h1 h2 h3 p o j=>exact r _ _ _ rfl
    |low h1=>exact wM q _ _ _ rfl
    |frz h1 h2=>
     exact BP (lq x (fun b B i=>by split at i;exact i;cases i) 6 v cv _ h2 q) _ _ _ rfl
   rw [cO d] at j
   rw [bJ _ d] at p o
   exact ⟨l,S',p,o,cv,rfl,j.1⟩
 ·cases h
end
end AM
namespace AM
open Go
def sG (S:aX):AV→FrameMode→Prop
 | .nilI,u=>u= .returning
 | .ifc t v,u=> ∃ cv,u= .panicking [{v:=cv,recovered:=false}]∧PR S (.ifc t v) cv
 |_,_=>False
def MC (md md':AV) (u u':FrameMode):Prop:=(md'=md∧u'=u)∨(md'= .nilI∧settle u'= .returning)
structure WQ (P:Program) (ap:AP) (f:Nat) (args:List AV) (h:List bi) (out:kQ) (h':List bi) (md md':AV):Prop where
 ent:yO P f
 calls:∀ m S w cargs u,b_ ap (bI h) m S w→bF (bI h) m S args cargs→sG S md u→CallsD P f cargs.toArray u w fun e u' w'=>(∃ m' S',Fq ap h m S w out h' m' S' w' e)∧MC md md' u u'
def uM (P:Program) (ap:AP) (H:dm):Prop:=∀ c md f args h out h' md' c',md ≠ .dead→H c md f args h= .ok (out,h',md') c'→c'.Ok→c.Ok∧WQ P ap f args h out h' md md'
structure Jw (P:Program) (ap:AP):Prop where
 fn:∀ (f:Nat) (F:AF),ap.fnAt f=some F→P.funcs[f]? =some F.fn
 body:∀ (f:Nat) (F:AF),ap.fnAt f=some F→∃ c,F.fn.body=some c∧dY F.fn.ntmps c=true
 name:∀ (f:Nat) (F:AF),ap.fnAt f=some F→(F.fn.name== "runtime.NumGoroutine")=false
section
variable {P:Program} {ap:AP} {H:dm}
theorem yQ (a:Jw P ap) {f:Nat} {F:AF} (b:ap.fnAt f=some F):yO P f:=by
 intro args w
 obtain ⟨c,d,_⟩:=a.body f F b
 unfold callFunc
 rw [Sem.run_bind]
 have:(program).run P w= .ok P w:=rfl
 rw [this,Result.andThen_ok,a.fn f F b]
 dsimp only
 rw [a.name f F b]
 simp [d]
theorem Lr {S:aX} {md:AV} {u:FrameMode} (h:sG S md u):settle u=u∧u ≠ .run:=by
 cases md<;>simp only [sG] at h
 ·obtain ⟨cv,rfl,_⟩:=h;exact ⟨rfl,by simp⟩
 ·subst h;exact ⟨rfl,by simp⟩
theorem uk (G:je P ap) (W:uM P ap H):
  ∀ (dfs:List (Nat × List AV)) (mode mode':AV) (hp hp':Hp) (c c':Cx),Dy ap H dfs mode hp c= .ok (mode',hp') c'→c'.Ok→c.Ok∧
   ∀ (h0:List bi) (z:Func) (tmps:Array Value) (env:iW) (RR:Ending→World→Prop) (m0:bf) (S0:aX) (w0:World) m S w k u,b_ ap (aG hp) m S w→Fr (bI h0) m0 S0 w0 (aG hp) m S w→(∀ t,VR (aG hp) m S (env.get t) (tmps.getD t undef))→iH (aG hp) m S dfs k→sG S mode u→
   (∀ m' S' w' l,b_ ap (aG hp') m' S' w'→Fr (bI h0) m0 S0 w0 (aG hp') m' S' w'→(∀ t,VR (aG hp') m' S' (env.get t) (tmps.getD t undef))→sG S' mode' l→Leaves P z tmps RR [] l w')→Leaves P z tmps RR k u w
 | [],mode,mode',hp,hp',c,c',h,hc=>by
  cases h
  refine ⟨hc,fun h0 z tmps env RR m0 S0 w0 m S w k u J n A y j F=> ?_⟩
  cases k with
  |nil=>exact F m S w u J n A j
  |cons _ _=>simp [iH] at y
 | (f, args)::r,mode,mode',hp,hp',c,c',h,hc=>by
  simp only [Dy] at h
  split at h
  ·cases h
  ·rename_i hrefs
   simp only [Bool.and_eq_true] at hrefs
   have E:mode ≠ .dead:=by rintro rfl;cases hrefs.1
   obtain ⟨q,c1,e1,h⟩:=R.bind_ok h
   split at h
   ·rename_i v s
    obtain ⟨D,Y⟩:=uk G W r q.md mode' (q.ups++hp) hp' c1 c' h hc
    obtain ⟨args0,X,O,T,e2,U,hg⟩:=xK e1
    obtain ⟨K,V⟩:=W _ _ _ _ _ _ _ _ _ E e2 D
    refine ⟨K,fun h0 z tmps env RR m0 S0 w0 m S w k u J n A y j F=> ?_⟩
    cases k with
    |nil=>simp [iH] at y
    | cons d k=>
     simp only [iH] at y
     obtain ⟨⟨o,Q,h2⟩,h3⟩:=y
     have hfresh:∀ i,i<4→aG hp (iK hp+i)=none:=by
      intro i _
      cases hb:aG hp (iK hp+i) with
      |none=>rfl
      |some B=>have:=qH hb;omega
     have hcall:=hg (aG hp) m S w (d.args++o).toList (fun cargs R=>CallsD P f cargs.toArray u w fun e l w'=>R e w'∧MC mode q.md u l)
      (fun cargs R R' p a=>CallsD.mono p fun e l w' g=> ⟨a e w' g.1,g.2⟩) J (fun b _ B Z=>Z) hfresh h2
      (fun m1 S1 I p a=>V.calls m1 S1 w _ u p a (by
       cases mode<;>simp only [sG] at j ⊢
       ·obtain ⟨cv,N,g⟩:=j;exact ⟨cv,N,dD I _ g⟩
       ·exact j))
     obtain ⟨x,L⟩:=Lr j
     refine ⟨L,.func f,o,f,d.args++o,Q, ?_, ?_⟩
     ·rw [Q]
      exact V.ent _ w
     ·rw [Array.toArray_toList] at hcall
      refine CallsD.mono hcall ?_
      rintro e l w' ⟨⟨m',S',p,a,g⟩,h7⟩
      rw [s] at g
      obtain ⟨cv,rfl,g⟩:=g
      rw [kM] at p a g
      refine Y h0 z tmps env RR m0 S0 w0 m' S' w' k (settle l) p (n.trans a) (fun t=>oz a.sle a.ge _ (A t)) (uK a.sle a.ge h3) ?_ F
      rcases h7 with ⟨M,rfl⟩|⟨M,h9⟩
      ·rw [x,M]
       cases mode<;>simp only [sG] at j ⊢
       ·obtain ⟨cv,N,C⟩:=j;exact ⟨cv,N,dD a.sle _ C⟩
       ·exact j
      ·rw [M,h9];rfl
   ·cases h
theorem fC {n f:Nat} (h:n≤f):∀ (c:Code),dY n c=true→dY f c=true
 | .region _ ops _,hd=>by
  simp only [dY,List.all_eq_true] at hd ⊢
  intro o g
  have:=hd o g
  unfold Gp at this ⊢
  split
  ·rename_i d e
   rw [e] at this
   exact Nat.ble_eq_true_of_le (Nat.le_trans (gU this) h)
  ·rfl
 | .seq a b,hd=>by simp only [dY,Bool.and_eq_true] at hd ⊢;exact ⟨fC h a hd.1,fC h b hd.2⟩
 | .cond _ a b,hd=>by simp only [dY,Bool.and_eq_true] at hd ⊢;exact ⟨fC h a hd.1,fC h b hd.2⟩
 | .block _ b,hd=>by simp only [dY] at hd ⊢;exact fC h b hd
 | .loop b,hd=>by simp only [dY] at hd ⊢;exact fC h b hd
 | .scope b,hd=>by simp only [dY] at hd ⊢;exact fC h b hd
 | .skip,_=>rfl
 | .label _,_=>rfl
 | .exit _,_=>rfl
 | .ret,_=>rfl
 | .rangeFunc _ _ _ _,_=>rfl
 | .goto _,_=>rfl
 | .refuse _,_=>rfl
theorem zi {α:Type}:∀ (l:List α) (j t:Nat),aG ((l.zipIdx j).map fun (x,i)=>(i,x)) t=if j≤t then l[t - j]? else none
 | [],j,t=>by simp [aG]
 | a::r,j,t=>by
  rw [List.zipIdx_cons,List.map_cons]
  simp only [aG]
  cases h:Nat.beq j t with
  |true=>have:=aO h;subst this;simp
  | false=>
   have c:j ≠ t:=by intro e;subst e;simp at h
   simp only [zi r (j+1) t]
   by_cases hj:j+1≤t
   ·rw [if_pos hj,if_pos (by omega)]
    obtain ⟨d,b⟩:∃ d,t - j=d+1:=⟨t - j - 1,by omega⟩
    rw [b,List.getElem?_cons_succ,show t - (j+1)=d by omega]
   ·rw [if_neg hj,if_neg (by omega)]
theorem IK {h:List bi} {args:List AV} {cargs:List Value} {m:bf} {S:aX} {w:World} {md:AV} (j:b_ ap (bI h) m S w) (e:bF (bI h) m S args cargs) (n:Nat):
  aG (nJ md args h).hp=bI h∧FR ap (nJ md args h).env (nJ md args h).hp [] (cargs.toArray++Array.replicate (n - cargs.toArray.size) undef).size m S w {tmps:=cargs.toArray++Array.replicate (n - cargs.toArray.size) undef,defers:= []}:=by
 have a:aG (nJ md args h).hp=bI h:=by
  funext b
  have:=zi h 0 b
  simp only [nJ,bI]
  rw [this,if_pos (Nat.zero_le _),Nat.sub_zero]
 refine ⟨a,⟨a ▸ j, ?_,by simp [iH],rfl⟩⟩
 intro t
 rw [a]
 have f:(nJ md args h).env.get t=(args[t]?).getD .dead:=by
  have:=zi args 0 t
  simp only [nJ,iW.get]
  rw [this,if_pos (Nat.zero_le _),Nat.sub_zero]
 rw [f]
 cases i:args[t]? with
 |none=>simp [VR]
 | some x=>
  obtain ⟨v,d,g⟩:=qQ e t i
  have c:=(List.getElem?_eq_some_iff.1 d).1
  have:(cargs.toArray++Array.replicate (n - cargs.toArray.size) undef).getD t undef=v:=by
   rw [Array.getD_eq_getD_getElem?,Array.getElem?_append_left (by simpa using c)]
   simp [d]
  rw [this]
  exact g
theorem x_ (k:je P ap) (O:uM P ap H) {h0 y:List bi} {z:Func} {e:bM} {s:St} {c J:Cx} {out:kQ} {C:AV} (h:Be ap H h0.length z e s c= .ok (out,y,C) J) (K:J.Ok):
  c.Ok∧h0.length≤y.length∧∀ m0 S0 w0 m S w a nt,Fr (bI h0) m0 S0 w0 (aG s.hp) m S w→FR ap s.env s.hp s.dfs nt m S w a→S9 s.hp m S (bodyPostD P z fun e w'=> ∃ x S',Fq ap h0 m0 S0 w0 out y x S' w' e) a w e:=by
 have p:∀ mode,((Dy ap H s.dfs mode s.hp c).bind fun (mode,hp) c=>
   match mode with
   | .nilI=>(vk ap h0.length z s.env hp c).bind fun (o,h) c=> .ok (o,h,s.md) c
   | .ifc t v=>(I9 h0.length (.ifc t v) hp c).bind fun (o,h) c=> .ok (o,h,s.md) c
   |_=> .bad 74)= .ok (out,y,C) J→c.Ok∧h0.length≤y.length∧∀ m0 S0 w0 m S w a nt u,Fr (bI h0) m0 S0 w0 (aG s.hp) m S w→FR ap s.env s.hp s.dfs nt m S w a→sG S mode u→Leaves P z a.tmps (fun e w'=> ∃ x S',Fq ap h0 m0 S0 w0 out y x S' w' e) a.defers u w:=by
  intro mode i
  obtain ⟨⟨mode',hp'⟩,W,N,i⟩:=R.bind_ok i
  dsimp only at i
  split at i
  ·obtain ⟨⟨o,q⟩,U,D,i⟩:=R.bind_ok i
   cases i
   obtain ⟨E,g,B⟩:=lI (P:=P) (m:=fun _=>(0,0)) (m0:=fun _=>(0,0)) (S:=fun _ _=>none) (S0:=fun _ _=>none) (w:=default) (w0:=default) (tmps:=#[]) k D K
   obtain ⟨r,F⟩:=uk k O s.dfs mode _ s.hp hp' c W N E
   refine ⟨r,g,fun m0 S0 w0 m S w a nt u d f L=> ?_⟩
   refine F h0 z a.tmps s.env _ m0 S0 w0 m S w a.defers u f.srel d f.env f.dfs L ?_
   intro x S' w' Q l j M A
   simp only [sG] at A
   subst A
   obtain ⟨_,_,B⟩:=lI (P:=P) (m:=x) (m0:=m0) (S:=S') (S0:=S0) (w:=w') (w0:=w0) (tmps:=a.tmps) k D K
   obtain ⟨cv,I,X⟩:=B l j M
   exact ⟨cv,I,X⟩
  ·rename_i t v
   obtain ⟨⟨o,q⟩,U,D,i⟩:=R.bind_ok i
   cases i
   obtain ⟨rfl,g,_⟩:=yz (ap:=ap) (m:=fun _=>(0,0)) (m0:=fun _=>(0,0)) (S:=fun _ _=>none) (S0:=fun _ _=>none) (w:=default) (w0:=default) D
   obtain ⟨r,F⟩:=uk k O s.dfs mode _ s.hp hp' c _ N K
   refine ⟨r,g,fun m0 S0 w0 m S w a nt u d f L=> ?_⟩
   refine F h0 z a.tmps s.env _ m0 S0 w0 m S w a.defers u f.srel d f.env f.dfs L ?_
   intro x S' w' Q l j M A
   simp only [sG] at A
   obtain ⟨cv,rfl,I⟩:=A
   obtain ⟨_,_,G⟩:=yz (ap:=ap) (m:=x) (m0:=m0) (S:=S') (S0:=S0) (w:=w') (w0:=w0) D
   exact G l j cv (iQ _ I) (fun b ver n h=>by cases h)
  ·cases i
 unfold Be at h
 dsimp only at h
 split at h
 ·obtain ⟨q,l,j⟩:=p .nilI h
  exact ⟨q,l,fun m0 S0 w0 m S w a nt d f=>j m0 S0 w0 m S w a nt .returning d f rfl⟩
 ·obtain ⟨q,l,j⟩:=p .nilI h
  exact ⟨q,l,fun m0 S0 w0 m S w a nt d f=>j m0 S0 w0 m S w a nt .returning d f rfl⟩
 ·rename_i t v
  split at h
  ·rename_i V
   obtain ⟨q,l,j⟩:=p (.ifc t v) h
   refine ⟨q,l,fun m0 S0 w0 m S w a nt d f cv T=>j m0 S0 w0 m S w a nt _ d f ⟨cv,rfl, ?_⟩⟩
   exact mi (by simpa [fD] using V) T
  ·cases h
 ·cases h
theorem JJ (j:je P ap) (g:P.follows .mixedOrders=true) (i:Jw P ap) (x:jZ P ap H) (L:uM P ap H) (lf:Nat):jZ P ap fun c md f args h=>tK ap H lf md f args h c:=by
 intro c f args h out B v I b J
 have b:tK ap H lf .dead f args h c= .ok (out,B,v) I:=b
 unfold tK at b
 split at b
 ·cases b
 ·rename_i F p
  dsimp only at b
  obtain ⟨⟨e,s⟩,M,q,b⟩:=R.bind_ok b
  dsimp only at b
  obtain ⟨a,y,d⟩:=i.body f F p
  have hbody:af F.fn=a:=by simp [af,y]
  rw [hbody] at q
  obtain ⟨l,k,n⟩:=x_ j L b J
  obtain ⟨t,_⟩:=fJ (nt:=F.fn.ntmps) j g x a d _ _ _ _ _ q l
  refine ⟨t,k,yQ i p,fun m S w cargs G A=> ?_⟩
  obtain ⟨D,o⟩:=IK (md:= .dead) G A F.fn.ntmps
  have r:F.fn.ntmps≤(cargs.toArray++Array.replicate (F.fn.ntmps - cargs.toArray.size) undef).size:=by simp;omega
  obtain ⟨_,u⟩:=fJ j g x a (fC r a d) _ _ _ _ _ q l
  obtain ⟨_,u⟩:=u rfl
  refine calls_of_wp_defers (i.fn f F p) y ?_
  refine u m S w m S w _ (by rw [D];exact Fr.refl _ _ _ _) o _ ?_
  intro E S' w' z C K
  exact n m S w E S' w' z _ C K
end
end AM
namespace AM
open Go
section
variable {P:Program} {ap:AP} {H:dm}
theorem Si {o:Oper} {a:Act} {K K':Act→World→Prop} {Q Q':Exit→Act→World→Prop} {r:Result Next} (c:∀ a w,K a w→K' a w) (d:∀ e a w,Q e a w→Q' e a w) (g:¬ LetsOut Q) (h:o.upon P a K Q r):o.upon P a K' Q' r:=by
 cases r with
 | ok n w'=>
  cases n<;>simp only [Oper.upon] at h ⊢ <;>
   first
    |exact c _ _ h
    |exact Calls.mono h (fun e f b=>by cases e<;>first|exact c _ _ b|exact d _ _ _ b|exact absurd b g)
    |exact Rows.mono h (fun _ _ b=>c _ _ b)
 |halt x w'=>cases x<;>simp only [Oper.upon] at h ⊢ <;>exact d _ _ _ h
theorem jY {ops:Array Oper} {Q:Exit→Act→List Frame→World→Prop} {g:List Frame} {Q':Exit→Act→World→Prop} (b:∀ e a w,Q' e a w→Q e a g w) (c:¬ LetsOut Q'):∀ (l:List Nat) (a:Act) (w:World),wpOps P ops Q' l a w→wpOpsS P ops Q l a g w
 | [],a,w,h=>b _ _ _ h
 | i ::rest,a,w,h=>by
  simp only [wpOps] at h
  simp only [wpOpsS]
  cases f:ops[i]? with
  |none=>
   simp only [f] at h ⊢
   exact jY b c rest a w h
  | some o=>
   simp only [f] at h ⊢
   by_cases hw:Region.wanted o (yielded ops a.tmps)=true
   ·rw [if_pos hw] at h ⊢
    rcases h with h|⟨_,h⟩
    ·unfold Oper.wp at h
     split
     ·rename_i w' j
      rw [j] at h
      exact h.elim
     ·exact Si (fun a w d=>jY b c rest a w d) (fun e a w d=>b e a w d) c h
    ·exact absurd h c
   ·rw [if_neg hw] at h ⊢
    exact jY b c rest _ w h
theorem akY {Q:Exit→Act→World→Prop}:¬ LetsOut (fun e a w=>e ≠ .outgrown∧Q e a w):=fun ⟨_,_,h,_⟩=>h rfl
theorem Ll {a:Act} {o:Oper} {args:Array Operand} {argTypes:Array TypeId} (h:o.op= .call {callee:= .builtin .recover,args,argTypes}) (w:World):(execOp a.eval o).run P w= .ok .recover w:=by
 unfold execOp
 rw [h]
 rfl
theorem FR.env_cons {env:iW} {hp:Hp} {dfs:List (Nat × List AV)} {nt:Nat} {m:bf} {S:aX} {w:World} {a:Act} (h:FR ap env hp dfs nt m S w a) {d:Nat} (c:d<nt) {v:AV} {cv:Value} (b:VR (aG hp) m S v cv):FR ap ((d,v)::env) hp dfs nt m S w (a.put (some d) cv):=by
 refine ⟨h.srel,fun t=> ?_,by rw [Ed];exact h.dfs,by rw [KX];exact h.size⟩
 by_cases ht:d=t
 ·subst ht
  rw [Ee _ _ _ (by rw [h.size];exact c)]
  have:iW.get ((d,v)::env) d=v:=jr (env:=env)
  rw [this];exact b
 ·rw [Eg _ _ _ (fun e=>ht (by cases e;rfl))]
  have:iW.get ((d,v)::env) t=env.get t:=yc (env:=env) (dst:=some d) (fun e=>ht (by cases e;rfl))
  rw [this];exact h.env t
theorem Ii (l:je P ap) (I:P.follows .mixedOrders=true) (J:Jw P ap) (hH:jZ P ap H) (lf:Nat):uM P ap fun c md f args h=>tK ap H lf md f args h c:=by
 intro c md f args h out h' X c' hmd g hc
 have g:tK ap H lf md f args h c= .ok (out,h',X) c':=g
 unfold tK at g
 split at g
 ·cases g
 ·rename_i F hF
  split at g
  ·exact absurd rfl hmd
  ·split at g
   ·rename_i hrefs
    simp only [Bool.and_eq_true] at hrefs
    obtain ⟨Z,K,j⟩:=J.body f F hF
    have hbody:af F.fn=Z:=by simp [af,K]
    unfold Tn at g
    rw [hbody] at g
    split at g
    ·rename_i id ops rest
     split at g
     ·rename_i o r k
      split at g
      ·rename_i args' argTypes d hop hg hd
       dsimp only at g
       obtain ⟨⟨s1,p⟩,c1,e1,g⟩:=R.bind_ok g
       dsimp only at g
       split at g
       ·cases g
       ·obtain ⟨⟨e,C⟩,c2,e2,g⟩:=R.bind_ok g
        dsimp only at g
        split at g
        ·cases g
        ·rename_i T
         have q:∃ c3,(e= .normal∨e= .ret)∧vk ap h.length F.fn C.env C.hp c2= .ok (out,h') c3∧X= .nilI∧c3=c':=by
          split at g
          ·obtain ⟨⟨o1,h1⟩,c3,L,g⟩:=R.bind_ok g
           cases g
           exact ⟨_,.inl rfl,L,rfl,rfl⟩
          ·obtain ⟨⟨o1,h1⟩,c3,L,g⟩:=R.bind_ok g
           cases g
           exact ⟨_,.inr rfl,L,rfl,rfl⟩
          ·cases g
         obtain ⟨c3,q,L,rfl,rfl⟩:=q
         obtain ⟨V,hlen,_⟩:=lI (P:=P) (m:=fun _=>(0,0)) (m0:=fun _=>(0,0)) (S:=fun _ _=>none) (S0:=fun _ _=>none) (w:=default) (w0:=default) (tmps:=#[]) l L hc
         simp only [dY,Bool.and_eq_true] at j
         obtain ⟨hc1,_⟩:=fJ (nt:=F.fn.ntmps) l I hH rest j.2 _ _ _ _ _ e2 V
         have A:∀ nt,F.fn.ntmps≤nt→∀ o' ∈ o::r,∀ d,o'.dst=some d→d<nt:=by
          intro nt z o' ho' d' hd'
          have:=List.all_eq_true.1 j.1 o' (by rw [k];exact ho')
          simp only [Gp,hd'] at this
          exact Nat.lt_of_lt_of_le (gp this) z
         obtain ⟨hc0,_⟩:=mV (nt:=F.fn.ntmps) l hH (ops:=o::r) (A _ (Nat.le_refl _)) r 1 _ _ _ _ _ _ e1 hc1
         refine ⟨hc0,yQ J hF,fun m S w cargs u hS hv hm=> ?_⟩
         obtain ⟨hh,hFR⟩:=IK (md:= .dead) hS hv F.fn.ntmps
         have z:F.fn.ntmps≤(cargs.toArray++Array.replicate (F.fn.ntmps - cargs.toArray.size) undef).size:=by simp;omega
         obtain ⟨_,hx⟩:=fJ l I hH rest (fC z rest j.2) _ _ _ _ _ e2 V
         obtain ⟨_,hs⟩:=mV l hH (ops:=o::r) (A _ z) r 1 _ _ _ _ _ _ e1 hc1
         obtain ⟨M,hs⟩:=hs rfl (fun t b K=>by cases K) rfl (fun b B K=>qH K)
         obtain ⟨_,hx⟩:=hx M
         have O:=A _ z o (by simp) d hd
         refine callsD_of_wpS (J.fn f F hF) K fun c₀ G hc₀=> ?_
         have i:∃ cv n,sG S md u∧VR (aG (nJ .dead args h).hp) m S md cv∧settle n= .returning∧((recoverD (c₀::G)=some (cv,{c₀ with mode:=n}::G))∨(recoverD (c₀::G)=none∧cv= .nilIface∧{c₀ with mode:=n}=c₀)):=by
          cases md<;>simp only [sG] at hm
          ·obtain ⟨cv,rfl,hp⟩:=hm
           exact ⟨cv,.panicking [{v:=cv,recovered:=true}],⟨cv,rfl,hp⟩,iQ _ hp,rfl,.inl (by simp [recoverD,hc₀])⟩
          ·subst hm
           exact ⟨.nilIface,.returning,rfl,by simp only [VR,PR],rfl,.inr ⟨by simp [recoverD,hc₀],rfl,by rw [← hc₀]⟩⟩
         obtain ⟨cv,n,_,N,D,i⟩:=i
         have hcont:∀ (Q:Exit→Act→List Frame→World→Prop),(∀ e a w',(∃ m' S',Fr (bI h) m S w (aG C.hp) m' S' w'∧FR ap C.env C.hp C.dfs (cargs.toArray++Array.replicate (F.fn.ntmps - cargs.toArray.size) undef).size m' S' w' a)→(e= .normal∨e= .ret)→Q e a ({c₀ with mode:=n}::G) w')→
           wpOpsS P ops (Exit.thenS (rest.wpS P Q) Q) (List.range' 1 r.length) (({tmps:=cargs.toArray++Array.replicate (F.fn.ntmps - cargs.toArray.size) undef,defers:= []}:Act).put (some d) cv) ({c₀ with mode:=n}::G) w:=by
          intro Q hQ
          have hopsA:ops=(o::r).toArray:=by rw [← k]
          rw [hopsA]
          refine jY (Q':=fun e a w'=>e ≠ .outgrown∧e= .normal∧rest.wpS P Q a ({c₀ with mode:=n}::G) w') ?_ akY _ _ _ ?_
          ·rintro e a w' ⟨_,rfl,hh⟩
           exact hh
          ·refine hs m S w _ (hFR.env_cons O N) _ ?_
           intro m1 S1 w1 a1 h3 Y
           refine ⟨by simp,rfl,wpS_of_wp ?_⟩
           rw [hh] at h3
           obtain ⟨m2,h5,h6⟩:=nO (keep:=F.keep) (s:=⟨s1.env,s1.hp,s1.md,s1.dfs⟩) h3 Y
           refine hx m S w m2 S1 w1 a1 h5 h6 _ ?_
           intro m3 S3 w3 a3 h7 h8
           rcases q with rfl|rfl
           ·exact hQ .normal a3 w3 ⟨m3,S3,h7,h8⟩ (.inl rfl)
           ·exact hQ .ret a3 w3 ⟨m3,S3,h7,h8⟩ (.inr rfl)
         have E:∀ e a w',(∃ m' S',Fr (bI h) m S w (aG C.hp) m' S' w'∧FR ap C.env C.hp C.dfs (cargs.toArray++Array.replicate (F.fn.ntmps - cargs.toArray.size) undef).size m' S' w' a)→(e= .normal∨e= .ret)→
           bodyPostS P F.fn c₀ G (fun e n w'=>(∃ m' S',Fq ap h m S w out h' m' S' w' e)∧MC md .nilI u n) e a ({c₀ with mode:=n}::G) w':=by
          rintro e a w' ⟨m',S',h3,Y⟩ hee
          obtain ⟨_,_,hro⟩:=lI (P:=P) (m:=m') (m0:=m) (S:=S') (S0:=S) (w:=w') (w0:=w) (tmps:=a.tmps) l L hc
          obtain ⟨W,h5,h6⟩:=hro Y.srel h3 Y.env
          have U:a.defers= []:=by
           have:=Y.dfs
           rw [T] at this
           cases hd:a.defers with
           |nil=>rfl
           |cons x y=>rw [hd] at this;simp [iH] at this
          rcases hee with rfl|rfl
          ·exact ⟨U,n,rfl,W,h5,h6,.inr ⟨rfl,D⟩⟩
          ·exact ⟨U,n,rfl,W,h5,h6,.inr ⟨rfl,D⟩⟩
         refine wpS_seq (wpS_region ?_)
         have hrange:List.range ops.size=0::List.range' 1 r.length:=by
          have:ops.size=r.length+1:=by rw [← Array.length_toList,k];simp
          rw [this,List.range_eq_range',List.range'_succ]
         rw [hrange]
         have ho0:ops[0]? =some o:=by
          have:ops.toList[0]? =some o:=by rw [k];rfl
          simpa using this
         simp only [wpOpsS,ho0,Region.wanted,hg,if_true,Ll hop]
         rw [hd]
         rcases i with i|⟨i,rfl,hsame⟩
         ·rw [i]
          exact hcont _ E
         ·rw [i]
          have:=hcont _ E
          rw [hsame] at this
          exact this
      ·cases g
     ·cases g
    ·cases g
   ·cases g
end
end AM
namespace AM
open Go
def Dc:Option AF→Bool
 |some F=>(match F.fn.body with|some c=>dY F.fn.ntmps c|none=>false) && !(F.fn.name== "runtime.NumGoroutine")
 |none=>true
theorem W9 {P:Program} {ap:AP} (h:(List.range ap.nty).map ap.ty.get=(List.range ap.nty).map (Wl P)):je P ap:=by
 constructor
 intro t e a
 unfold AP.tyAt at a
 split at a
 ·rename_i b
  have c:=gp b
  have d:((List.range ap.nty).map ap.ty.get)[t]? =some (some e):=by rw [List.getElem?_map,List.getElem?_range c];simp [a]
  rw [h,List.getElem?_map,List.getElem?_range c] at d
  simpa using d
 ·cases a
theorem XO {P:Program} {ap:AP} {keep:Nat→Bool} (h:(List.range ap.nfn).map (fun i=>(ap.fn.get i).map AF.fn)=(List.range ap.nfn).map fun i=>match keep i with|true=>P.funcs[i]? |false=>none) (l:(List.range ap.nfn).all (fun i=>Dc (ap.fn.get i))=true):Jw P ap:=by
 have d:∀ (f:Nat) (F:AF),ap.fnAt f=some F→f<ap.nfn∧ap.fn.get f=some F:=by
  intro f F a
  unfold AP.fnAt at a
  split at a
  ·rename_i j;exact ⟨gp j,a⟩
  ·cases a
 have hgood:∀ (f:Nat) (F:AF),ap.fnAt f=some F→Dc (some F)=true:=by
  intro f F a
  obtain ⟨e,g⟩:=d f F a
  have:=List.all_eq_true.1 l f (by simpa using e)
  rwa [g] at this
 constructor
 ·intro f F a
  obtain ⟨e,g⟩:=d f F a
  have b:((List.range ap.nfn).map fun i=>(ap.fn.get i).map AF.fn)[f]? =some (some F.fn):=by rw [List.getElem?_map,List.getElem?_range e];simp [g]
  rw [h,List.getElem?_map,List.getElem?_range e] at b
  simp only [Option.map_some,Option.some.injEq] at b
  split at b
  ·exact b
  ·cases b
 ·intro f F a
  have:=hgood f F a
  simp only [Dc,Bool.and_eq_true] at this
  cases k:F.fn.body with
  |none=>rw [k] at this;cases this.1
  |some c=>rw [k] at this;exact ⟨c,rfl,this.1⟩
 ·intro f F a
  have:=hgood f F a
  simp only [Dc,Bool.and_eq_true,Bool.not_eq_true'] at this
  exact this.2
end AM
namespace AM
open Go
def aI (P:Program) (ap:AP) (h0:List bi) (n:Nat) (code:Code) (s:St) (e:bM) (s':St):Prop:=∀ nt,n≤nt→ah P ap h0 nt code s e s'
abbrev xx:=List (bM × St)
def lL (P:Program) (ap:AP) (H:dm) (h0:List bi) (keep:List Nat) (lf nt:Nat) (ls:List Nat):Code→St→xx→Cx→R ((bM × St) × xx)
 | .seq a b,s,l,c=>(lL P ap H h0 keep lf nt ls a s l c).bind fun r c=>match r.1.1 with
  | .normal=>lL P ap H h0 keep lf nt ls b r.1.2 r.2 c
  |e=> .ok ((e,r.1.2),r.2) c
 | .cond t a b,s,l,c=>match qw ap s.env t with
  | .bool x=>(yS c x).bind fun x c=>match x with
   |true=>lL P ap H h0 keep lf nt ls a s l c
   |false=>lL P ap H h0 keep lf nt ls b s l c
  |_=> .bad 60
 | .block id b,s,l,c=>match pM ls id with
  |true=>match l with
   |(e,s')::r=> .ok ((e,s'),r) {c with ps:=aI P ap h0 nt (.block id b) s e s'::c.ps}
   | []=> .bad 62
  |false=>(lL P ap H h0 keep lf nt ls b s l c).bind fun r c=>match r.1.1 with
   | .exit id'=>match Nat.beq id' id with|true=> .ok ((.normal,r.1.2),r.2) c|false=> .ok ((.exit id',r.1.2),r.2) c
   |e=> .ok ((e,r.1.2),r.2) c
 | .scope b,s,l,c=>lL P ap H h0 keep lf nt ls b s l c
 | .region id ops draw,s,l,c=>match pM ls (id+1000) with
  |true=>match l with
   |(e,s')::r=> .ok ((e,s'),r) {c with ps:=aI P ap h0 nt (.region id ops draw) s e s'::c.ps}
   | []=> .bad 63
  |false=>(kZ ap H h0.length keep lf (.region id ops draw) s c).bind fun r c=> .ok (r,l) c
 |code,s,l,c=>(kZ ap H h0.length keep lf code s c).bind fun r c=> .ok (r,l) c
section
variable {P:Program} {ap:AP} {H:dm}
theorem ah.seq {h0:List bi} {nt:Nat} {x y:Code} {s f d:St} {e:bM} (o:ah P ap h0 nt x s .normal f) (h:ah P ap h0 nt y f e d):ah P ap h0 nt (.seq x y) s e d:=by
 intro b
 obtain ⟨r,n⟩:=o b
 obtain ⟨l,i⟩:=h r
 refine ⟨l,fun m0 S0 w0 m S w a c q Q g=>wp_seq (n m0 S0 w0 m S w a c q _ ?_)⟩
 intro j S' w' k t p
 exact i m0 S0 w0 j S' w' k t p Q g
theorem ah.seq_out {h0:List bi} {nt:Nat} {x y:Code} {s f:St} {e:bM} (c:e ≠ .normal) (n:ah P ap h0 nt x s e f):ah P ap h0 nt (.seq x y) s e f:=by
 intro b
 obtain ⟨p,l⟩:=n b
 refine ⟨p,fun m0 S0 w0 m S w a d o Q g=>wp_seq (l m0 S0 w0 m S w a d o _ ?_)⟩
 intro i S' w' j k h
 have:=g i S' w' j k h
 cases e with
 |normal=>exact absurd rfl c
 |exit id=>exact this
 |ret=>exact this
 |panic v=>exact this
theorem ah.cond {h0:List bi} {nt:Nat} {t:Operand} {x y:Code} {s s':St} {e:bM} {f:Bool} (g:qw ap s.env t= .bool f) (h:ah P ap h0 nt (if f then x else y) s e s'):ah P ap h0 nt (.cond t x y) s e s':=by
 intro b
 obtain ⟨k,j⟩:=h b
 refine ⟨k,fun m0 S0 w0 m S w a d c Q i=>wp_cond (t:=f) ?_ (j m0 S0 w0 m S w a d c Q i)⟩
 have:=wS c.srel (a:=a) (env:=s.env) t (fun t _=>c.env t)
 rw [g] at this
 simpa only [VR,PR] using this
def oL (id:Nat):bM→bM
 | .exit id'=>match Nat.beq id' id with|true=> .normal|false=> .exit id'
 |e=>e
theorem ah.block {h0:List bi} {nt:Nat} {id:Nat} {b:Code} {s s':St} {e:bM} (h:ah P ap h0 nt b s e s'):ah P ap h0 nt (.block id b) s (oL id e) s':=by
 intro d
 obtain ⟨r,p⟩:=h d
 refine ⟨r,fun m0 S0 w0 m S w a j q Q k=>wp_block (p m0 S0 w0 m S w a j q _ ?_)⟩
 intro n S' w' g o l
 have c:=k n S' w' g o l
 cases e with
 |normal=>exact c
 |ret=>exact c
 |panic v=>exact c
 | exit id'=>
  simp only [oL] at c
  split at c
  ·rename_i i
   show Exit.inBlock id Q (.exit id') g w'
   simp only [Exit.inBlock,if_pos (aO i)]
   exact c
  ·rename_i i
   show Exit.inBlock id Q (.exit id') g w'
   have f:id' ≠ id:=by intro e;subst e;simp at i
   simp only [Exit.inBlock,if_neg f]
   exact c
theorem ah.scope {h0:List bi} {nt:Nat} {b:Code} {s s':St} {e:bM} (h:ah P ap h0 nt b s e s'):ah P ap h0 nt (.scope b) s e s':=by
 intro d
 obtain ⟨p,n⟩:=h d
 refine ⟨p,fun m0 S0 w0 m S w a f o Q g=>wp_scope_straight (n m0 S0 w0 m S w a f o _ ?_)⟩
 intro j S' w' k l i
 have c:=g j S' w' k l i
 cases e with
 |normal=>exact c
 |exit id=>exact c
 |ret=>exact c
 |panic v=>exact c
theorem t_ (F:je P ap) (q:P.follows .mixedOrders=true) (J:jZ P ap H) {h0:List bi} {keep:List Nat} {lf n nt:Nat} (I:n≤nt) {N:List Nat}:∀ (d:Code),dY nt d=true→∀ (s:St) (l:xx) (r:(bM × St) × xx) (c g:Cx),lL P ap H h0 keep lf n N d s l c= .ok r g→g.Ok→c.Ok∧ah P ap h0 nt d s r.1.1 r.1.2:=by
 have hbase:∀ (d:Code),dY nt d=true→∀ (s:St) (l:xx) (r:(bM × St) × xx) (c g:Cx),((kZ ap H h0.length keep lf d s c).bind fun r c=> .ok (r,l) c)= .ok r g→g.Ok→c.Ok∧ah P ap h0 nt d s r.1.1 r.1.2:=by
  intro d f s l r c g h a
  obtain ⟨⟨e,s'⟩,z,m,h⟩:=R.bind_ok h
  cases h
  exact fJ F q J d f s e s' c _ m a
 intro d
 induction d with
 | seq x y ihx ihy=>
  intro f s l r c g h a
  simp only [dY,Bool.and_eq_true] at f
  simp only [lL] at h
  obtain ⟨⟨⟨o,E⟩,D⟩,z,m,h⟩:=R.bind_ok h
  dsimp only at h
  have hother:o ≠ .normal→R.ok ((o,E),D) z=R.ok r g→c.Ok∧ah P ap h0 nt (.seq x y) s r.1.1 r.1.2:=by
   intro C M
   cases M
   obtain ⟨i,k⟩:=ihx f.1 _ _ _ _ _ m a
   exact ⟨i,k.seq_out C⟩
  cases o with
  |normal=>
   dsimp only at h
   obtain ⟨j,K⟩:=ihy f.2 _ _ _ _ _ h a
   obtain ⟨i,k⟩:=ihx f.1 _ _ _ _ _ m j
   exact ⟨i,k.seq K⟩
  |exit id=>exact hother (by simp) h
  |ret=>exact hother (by simp) h
  |panic v=>exact hother (by simp) h
 | cond t x y ihx ihy=>
  intro f s l r c g h a
  simp only [dY,Bool.and_eq_true] at f
  simp only [lL] at h
  split at h
  ·rename_i Q w
   obtain ⟨O,z,m,h⟩:=R.bind_ok h
   cases O with
   |true=>
    obtain ⟨j,k⟩:=ihx f.1 _ _ _ _ _ h a
    obtain ⟨i,u⟩:=lm m j
    exact ⟨i,ah.cond w (by rw [← u];exact k)⟩
   |false=>
    obtain ⟨j,k⟩:=ihy f.2 _ _ _ _ _ h a
    obtain ⟨i,u⟩:=lm m j
    exact ⟨i,ah.cond w (by rw [← u];exact k)⟩
  ·cases h
 | block id b ih=>
  intro f s l r c g h a
  simp only [dY] at f
  simp only [lL] at h
  split at h
  ·split at h
   ·rename_i G B L
    cases h
    have hp:aI P ap h0 n (.block id b) s G B:=a.ps _ (List.mem_cons_self ..)
    exact ⟨⟨a.bs,fun p hp=>a.ps p (List.mem_cons_of_mem _ hp)⟩,hp nt I⟩
   ·cases h
  ·obtain ⟨⟨⟨o,E⟩,D⟩,z,m,h⟩:=R.bind_ok h
   dsimp only at h
   have A:r=((oL id o,E),D)∧z=g:=by
    cases o<;>dsimp only at h
    ·cases h;exact ⟨rfl,rfl⟩
    ·unfold oL
     split at h<;>cases h<;>rename_i u<;>dsimp only<;>rw [u]<;>exact ⟨rfl,rfl⟩
    ·cases h;exact ⟨rfl,rfl⟩
    ·cases h;exact ⟨rfl,rfl⟩
   obtain ⟨rfl,rfl⟩:=A
   obtain ⟨i,k⟩:=ih f _ _ _ _ _ m a
   exact ⟨i,k.block⟩
 |scope b ih=>
  intro f s l r c g h a
  simp only [dY] at f
  simp only [lL] at h
  obtain ⟨i,k⟩:=ih f _ _ _ _ _ h a
  exact ⟨i,k.scope⟩
 |skip=>exact fun f s l r c g h a=>hbase _ f s l r c g h a
 | region id ops draw=>
  intro f s l r c g h a
  simp only [lL] at h
  split at h
  ·split at h
   ·rename_i G B L
    cases h
    have hp:aI P ap h0 n (.region id ops draw) s G B:=a.ps _ (List.mem_cons_self ..)
    exact ⟨⟨a.bs,fun p hp=>a.ps p (List.mem_cons_of_mem _ hp)⟩,hp nt I⟩
   ·cases h
  ·exact hbase _ f s l r c g h a
 |loop _ _=>exact fun f s l r c g h a=>hbase _ f s l r c g h a
 |rangeFunc _ _ _ _=>exact fun f s l r c g h a=>hbase _ f s l r c g h a
 |exit _=>exact fun f s l r c g h a=>hbase _ f s l r c g h a
 |label _=>exact fun f s l r c g h a=>hbase _ f s l r c g h a
 |goto _=>exact fun f s l r c g h a=>hbase _ f s l r c g h a
 |ret=>exact fun f s l r c g h a=>hbase _ f s l r c g h a
 |refuse _=>exact fun f s l r c g h a=>hbase _ f s l r c g h a
def OW (P:Program) (ap:AP) (H:dm) (lf:Nat) (ls:List Nat) (f:Nat) (args:List AV) (h:List bi) (l:xx) (c:Cx):R (kQ × List bi × AV):=
 match ap.fnAt f with
 |none=> .bad 80
 |some F=>(lL P ap H h F.keep lf F.fn.ntmps ls (af F.fn) (nJ .dead args h) l c).bind fun r c=>Be ap H h.length F.fn r.1.1 r.1.2 c
theorem Tq (k:je P ap) (o:P.follows .mixedOrders=true) (b:Jw P ap) (A:jZ P ap H) (L:uM P ap H) {lf:Nat} {G:List Nat} {f:Nat} {args:List AV} {h v:List bi} {l:xx} {c z:Cx} {out:kQ} {u:AV}
  (d:OW P ap H lf G f args h l c= .ok (out,v,u) z) (hc:z.Ok):au P ap f args h out v:=by
 unfold OW at d
 split at d
 ·cases d
 ·rename_i F q
  obtain ⟨⟨⟨e,s⟩,M⟩,N,x,d⟩:=R.bind_ok d
  dsimp only at d
  obtain ⟨a,y,i⟩:=b.body f F q
  have hbody:af F.fn=a:=by simp [af,y]
  rw [hbody] at x
  obtain ⟨r,g,j⟩:=x_ k L d hc
  refine ⟨g,yQ b q,fun m S w cargs J C=> ?_⟩
  obtain ⟨E,p⟩:=IK (md:= .dead) J C F.fn.ntmps
  have n:F.fn.ntmps≤(cargs.toArray++Array.replicate (F.fn.ntmps - cargs.toArray.size) undef).size:=by simp;omega
  obtain ⟨_,t⟩:=t_ k o A n a (fC n a i) _ _ _ _ _ x r
  obtain ⟨_,t⟩:=t rfl
  refine calls_of_wp_defers (b.fn f F q) y ?_
  refine t m S w m S w _ (by rw [E];exact Fr.refl _ _ _ _) p _ ?_
  intro I S' w' B D K
  exact j m S w I S' w' B _ D K
end
end AM
namespace AM
open Go
def xk (P:Program) (ap:AP) (lf:Nat):Nat→dm
 |0=>fun _ _ _ _ _=> .bad 90
 | n+1=>fun c md f args h=>
  match md with
  | .dead=>match c.ans with
   |(out,h')::r=> .ok (out,h',.dead) {c with ans:=r,ps:=au P ap f args h out h'::c.ps}
   |_=> .bad 91
  |md=>tK ap (xk P ap lf n) lf md f args h c
theorem lu {P:Program} {ap:AP} (g:je P ap) (b:P.follows .mixedOrders=true) (i:Jw P ap) (lf:Nat):∀ n,jZ P ap (xk P ap lf n)∧uM P ap (xk P ap lf n)
 |0=> ⟨fun _ _ _ _ _ _ _ _ h=>(by cases h),fun _ _ _ _ _ _ _ _ _ _ h=>(by cases h)⟩
 | n+1=>by
  obtain ⟨m,o⟩:=lu g b i lf n
  constructor
  ·intro c f args h out l d k a j
   simp only [xk] at a
   split at a
   ·cases a
    exact ⟨⟨j.bs,fun p hp=>j.ps p (by simp [hp])⟩,j.ps _ (by simp)⟩
   ·cases a
  ·intro c md f args h out l d k e a j
   have a:tK ap (xk P ap lf n) lf md f args h c= .ok (out,l,d) k:=by
    cases md<;>first|exact absurd rfl e|exact a
   exact Ii g b i m lf c md f args h out l d k e a j
inductive Ju:List Prop→Prop where
 |nil:Ju []
 |cons {p:Prop} {l:List Prop}:p→Ju l→Ju (p::l)
theorem Ju.mem {l:List Prop} (h:Ju l):∀ p ∈ l,p:=by
 induction h with
 |nil=>intro p hp;cases hp
 |cons hp _ ih=>
  intro q a
  rcases List.mem_cons.1 a with rfl|a
  ·exact hp
  ·exact ih q a
inductive lJ:List Bool→Prop where
 |nil:lJ []
 |t {l:List Bool}:lJ l→lJ (true::l)
 |c {b:Bool} {l:List Bool}:b=true→lJ l→lJ (b::l)
theorem lJ.mem {l:List Bool} (h:lJ l):∀ b ∈ l,b=true:=by
 induction h with
 |nil=>intro p hp;cases hp
 |t _ ih=>
  intro q a
  rcases List.mem_cons.1 a with rfl|a
  ·rfl
  ·exact ih q a
 |c hp _ ih=>
  intro q a
  rcases List.mem_cons.1 a with rfl|a
  ·exact hp
  ·exact ih q a
structure BN (P:Program) (ap:AP):Prop where
 apok:je P ap
 mixed:P.follows .mixedOrders=true
 fnok:Jw P ap
theorem Gg {P:Program} {ap:AP} (g:BN P ap) {lf n:Nat} {ans:List (kQ × List bi)} {ps:List Prop} {f:Nat} {args:List AV} {h a:List bi} {out:kQ} (hp:Ju ps)
  (he:tK ap (xk P ap lf n) lf .dead f args h ⟨true,[],[],[],ans,[]⟩= .ok (out,a,.dead) ⟨true,[],[],ps,[],[]⟩):au P ap f args h out a:=by
 obtain ⟨e,d⟩:=lu g.apok g.mixed g.fnok lf n
 exact (JJ g.apok g.mixed g.fnok e d lf _ f args h out a .dead _ he ⟨fun b c=>(by cases c),hp.mem⟩).2
end AM
namespace AM
open Go Go.ChangeShapes Go.WideShapes Go.ChangeAt Go.RowKit
def pG:Lit→Value
 | .int k n=> .int k n
 | .bool b=> .bool b
 | .string s=> .string ⟨s.toArray⟩
 |_=> .nilFunc
def KD:Lit→AV
 | .int k n=> .int k n
 | .bool b=> .bool b
 | .string s=> .str s
 |_=> .dead
def DF:Lit→Bool
 | .int _ _=>true
 | .bool _=>true
 | .string _=>true
 |_=>false
def KE (f:TypeId→DataW Unit→Nat→Option (List (Nat × Lit))):List (TypeId × Nat)→List (DataW Unit)→Option (List (Nat × Lit))
 | [],[]=>some []
 |(t,o)::r,d::ds=>match f t d o,KE f r ds with
  |some a,some b=>some (a++b)
  |_,_=>none
 |_,_=>none
def lM (P:Program):Nat→TypeId→DataW Unit→Nat→Option (List (Nat × Lit))
 |0,_,_,_=>none
 |n+1,t,d,off=>match P.underlying t,d with
  |some (.struct fs),.agg ds=>KE (lM P n) (fs.toList.map fun f=>(f.type,off+f.offset)) ds
  |some (.array m e),.agg ds=>KE (lM P n) ((List.range m).map fun i=>(e,off+i*P.cellsOf e)) ds
  |some (.int _),.lit (.int k n)=>some [(off,.int k n)]
  |some .bool,.lit (.bool b)=>some [(off,.bool b)]
  |some .string,.lit (.string s)=>some [(off,.string s)]
  |_,_=>none
theorem DD {f:TypeId→DataW Unit→Nat→Option (List (Nat × Lit))}:∀ {ts:List (TypeId × Nat)} {ds:List (DataW Unit)} {l:List (Nat × Lit)},KE f ts ds=some l→ts.length=ds.length∧∀ x ∈ l,∃ (i:Nat) (t o:Nat) (d:DataW Unit) (a:List (Nat × Lit)),ts[i]? =some (t,o)∧ds[i]? =some d∧f t d o=some a∧x ∈ a
 | [],[],l,h=>by simp [KE] at h;subst h;simp
 | (t,o)::r,d::ds,l,h=>by
  simp only [KE] at h
  split at h
  ·rename_i a b m g
   cases h
   obtain ⟨n,k⟩:=DD g
   refine ⟨by simp [n],fun x c=> ?_⟩
   rcases List.mem_append.1 c with c|c
   ·exact ⟨0,t,o,d,a,rfl,rfl,m,c⟩
   ·obtain ⟨i,v,e,p,q,s,w,u,j⟩:=k x c
    exact ⟨i+1,v,e,p,q,by simpa using s,by simpa using w,u,j⟩
  ·cases h
 | [],_::_,_,h=>by simp [KE] at h
 |_::_,[],_,h=>by simp [KE] at h
theorem nM {P:Program} {w:World} {base:Nat} {R:Nat→Bool} {y:Bool}:∀ (n:Nat) (t:TypeId) (d:DataW Unit) (off:Nat) (l:List (Nat × Lit)),lM P n t d off=some l→∀ (g:Nat) (K:List Value) (p:List MemPlace),DataW.trod (fun _=>()) P w base R y g t K=some (d,p)→∀ x ∈ l,∃ j,x.1=off+j∧K[j]? =some (pG x.2)
 |0,_,_,_,_,h=>by simp [lM] at h
 | n +1,t,d,off,l,h=>by
  intro g K p c x u
  simp only [lM] at h
  split at h
  ·rename_i V L q
   cases g with
   |zero=>simp [DataW.trod] at c
   | succ m=>
    simp only [DataW.trod,q] at c
    split at c
    ·obtain ⟨S,G,o⟩:=Option.map_eq_some_iff.1 c
     simp only [Prod.mk.injEq,DataW.agg.injEq] at o
     obtain ⟨rfl,rfl⟩:=o
     obtain ⟨N,J⟩:=DD h
     obtain ⟨i,Q,M,T,a,A,v,C,F⟩:=J x u
     rw [List.getElem?_map,Option.map_eq_some_iff] at A
     obtain ⟨f,D,z⟩:=A
     simp only [Prod.mk.injEq] at z
     obtain ⟨rfl,rfl⟩:=z
     obtain ⟨b,E,I⟩:=Lib.mapM_at G i f D
     rw [List.getElem?_map,E] at v
     simp only [Option.map_some,Option.some.injEq] at v
     subst v
     obtain ⟨j,O,r⟩:=nM n _ _ _ _ C m _ b.2 I x F
     refine ⟨f.offset+j,by omega, ?_⟩
     rw [List.getElem?_take] at r
     split at r
     ·rwa [List.getElem?_drop] at r
     ·cases r
    ·cases c
  ·rename_i k e L q
   cases g with
   |zero=>simp [DataW.trod] at c
   | succ m=>
    simp only [DataW.trod,q] at c
    split at c
    ·obtain ⟨S,G,o⟩:=Option.map_eq_some_iff.1 c
     simp only [Prod.mk.injEq,DataW.agg.injEq] at o
     obtain ⟨rfl,rfl⟩:=o
     obtain ⟨N,J⟩:=DD h
     obtain ⟨i,Q,M,T,a,A,v,C,F⟩:=J x u
     rw [List.getElem?_map,Option.map_eq_some_iff] at A
     obtain ⟨f,D,z⟩:=A
     simp only [Prod.mk.injEq] at z
     obtain ⟨rfl,rfl⟩:=z
     obtain ⟨b,E,I⟩:=Lib.mapM_at G i f D
     rw [List.getElem?_map,E] at v
     simp only [Option.map_some,Option.some.injEq] at v
     subst v
     obtain ⟨j,O,r⟩:=nM n _ _ _ _ C m _ b.2 I x F
     refine ⟨f*P.cellsOf e+j,by omega, ?_⟩
     rw [List.getElem?_take] at r
     split at r
     ·rwa [List.getElem?_drop] at r
     ·cases r
    ·cases c
  ·rename_i X k U q
   cases h
   simp at u
   subst u
   obtain ⟨W,rfl,B,_⟩:=DataW.trod_int q c
   simp only [Prod.mk.injEq,DataW.lit.injEq,Lit.int.injEq] at B
   obtain ⟨⟨rfl,rfl⟩,_⟩:=B
   exact ⟨0,rfl,rfl⟩
  ·rename_i b q
   cases h
   simp at u
   subst u
   cases g with
   |zero=>simp [DataW.trod] at c
   |succ m=>
    unfold DataW.trod at c
    rw [q] at c
    split at c<;>simp_all
    rfl
  ·rename_i s q
   cases h
   simp at u
   subst u
   cases g with
   |zero=>simp [DataW.trod] at c
   |succ m=>
    unfold DataW.trod at c
    rw [q] at c
    split at c<;>simp_all
    obtain ⟨_,rfl,_⟩:=c
    rfl
  ·cases h
theorem yl {P:Program} {w:World}:∀ {l:List (String × DataW Unit)} {ps:List MemPlace},DataW.LaidVars P w l ps→∀ n d,(n,d) ∈ l→∃ g t b a p,P.globalNamed n=some g∧(P.globals[g]?).map (·.type)=some t∧w.var? P n=some b∧DataW.trod (fun _=>()) P w 0 (fun _=>true) false a t b.toList=some (d,p)
 | [],_,_,n,d,hm=>by cases hm
 | (n',d')::r,ps,h,n,d,hm=>by
  obtain ⟨g,t,b,a,p,q,e,c,f,j,i,_⟩:=h
  rcases List.mem_cons.1 hm with he|hm
  ·cases he
   exact ⟨g,t,b,a,p,e,c,f,j⟩
  ·exact yl i n d hm
theorem NJ {P:Program} {W:World} {a:List (String × DataW Unit)} (h:laidMetH P a W) (e:a.filter (fun x=>x.2.handleName?.isSome)= []) {n:String} {d:DataW Unit} (s:(n,d) ∈ a) {g:Nat} {t:TypeId} (f:P.globalNamed n=some g) (o:(P.globals[g]?).map (·.type)=some t)
  {ls:List Lit} (hl:lM P 6 t d 0=some (ls.zipIdx.map fun (l,i)=>(i,l))):∀ (j:Nat) (l:Lit),ls[j]? =some l→W.cell? ⟨g,j,none⟩=some (pG l):=by
 have c:laidMet P a W:=by
  unfold laidMetH at h
  rw [e] at h
  exact h
 obtain ⟨ps,u,_⟩:=c
 obtain ⟨g',B,z,b,p,w,v,y,r⟩:=yl u n d s
 obtain rfl:=Option.some.inj (f.symm.trans w)
 obtain rfl:=Option.some.inj (o.symm.trans v)
 intro j l q
 obtain ⟨k,m,A⟩:=nM 6 t d 0 _ hl b z.toList p r (j,l) (by
  rw [List.mem_map]
  exact ⟨(l,j),by rw [List.mem_zipIdx_iff_getElem?];exact q,rfl⟩)
 have:k=j:=by simp at m;exact m.symm
 subst this
 rw [World.var?_cell f y k]
 simpa using A
def pX (W:World):aX:=fun k o=>match W.cell? ⟨k,o,none⟩ with|some v=>if v.oneCell' then some v else none|none=>none
theorem Hw {W:World} {k o:Nat} {v:Value} (h:W.cell? ⟨k,o,none⟩=some v) (a:v.oneCell'=true):pX W k o=some v:=by
 unfold pX;rw [h];simp only;rw [if_pos a]
theorem LY {W:World} {k o:Nat} {v:Value} (h:pX W k o=some v):dX W k o=some v:=by
 unfold pX at h
 split at h
 ·rename_i c a
  split at h
  ·rename_i b;cases h;exact Ci a b
  ·cases h
 ·cases h
theorem Jz (S:aX):∀ (ls:List Lit),ls.all DF=true→dL S (ls.map KD) (ls.map pG)
 | [],_=>by simp [dL]
 |l::r,h=>by
  simp only [List.all_cons,Bool.and_eq_true] at h
  simp only [List.map_cons,dL]
  refine ⟨?_,Jz S r h.2⟩
  cases l<;>simp only [KD,pG,PR]<;>first|rfl|(exact absurd h.1 (by simp [DF]))
theorem NL {l:Lit} (h:DF l=true):(pG l).oneCell'=true:=by
 cases l<;>first|rfl|(exact absurd h (by simp [DF]))
def S_ (ap:AP) (W:World):Prop:=∀ k xs,(ap.gl[k]?).join=some xs→∃ ls:List Lit,xs=ls.map KD∧ls.all DF=true∧∀ (j:Nat) (l:Lit),ls[j]? =some l→W.cell? ⟨k,j,none⟩=some (pG l)
theorem XR {ap:AP} {W:World} (h:S_ ap W):lS ap (pX W):=by
 intro k e i
 obtain ⟨f,rfl,c,g⟩:=h k e i
 refine ⟨f.map pG,Jz _ _ c, ?_⟩
 intro j u d
 rw [List.getElem?_map,Option.map_eq_some_iff] at d
 obtain ⟨l,a,rfl⟩:=d
 have b:=NL (List.all_eq_true.1 c l (List.mem_of_getElem? a))
 refine ⟨?_,b⟩
 rw [Nat.zero_add]
 exact Hw (g j l a) b
theorem aa9 {P:Program} {ap:AP} {f:Nat} {args:List AV} {b:Bool} (m:au P ap f args [] (.ret (.bool b)) []) {W:World} (j:S_ ap W) {cargs:List Value} (l:dL (pX W) args cargs):
  Calls P f cargs.toArray W fun e W'=>e= .returned (.bool b)∧Below W.heap.size W W':=by
 have i:b_ ap (bI []) (fun _=>(0,0)) (pX W) W:=
  ⟨fun b n B B' h=>by simp [bI] at h,fun b B h=>by simp [bI] at h,fun k o v h=>LY h,fun b B h=>by simp [bI] at h,XR j⟩
 refine (m.calls (fun _=>(0,0)) (pX W) W cargs i (bW _ l)).mono ?_
 rintro e W' ⟨m',S',hF⟩
 obtain ⟨_,a,c⟩:=hF
 obtain ⟨cv,rfl,d⟩:=c
 simp only [xA,VR,PR] at d
 subst d
 exact ⟨rfl,a.os,a.tape,a.output,a.size,fun k g=>a.rest k g fun b B h=>by simp [bI] at h⟩
def BG (P:Program) (ts:List TypeId):Bool:=ts.all fun t=>P.readableRec t && decide (t<P.types.size)
theorem wI {H:Type} {enc:TypeId × Value→H} {P:Program} (b:laidOutB P=true) {W W':World} {c:Nat→Bool}:∀ {ts:List TypeId} {vs:List Value} {ds:List (DataW H)} {ps:List MemPlace},BG P ts=true→DataW.TrodAll enc P W 0 (fun _=>true) true ts vs ds ps→(∀ p ∈ ps,W.sameAt W' p)→(∀ p ∈ ps,c p.block=true)→DataW.TrodAll enc P W' 0 c true ts vs ds ps
 | [],vs,ds,ps,_,h,_,_=>by
  obtain ⟨rfl,rfl,rfl⟩:=trodAll_nil h
  rfl
 |t::ts,vs,ds,ps,hf,h,hs,hsp=>by
  obtain ⟨v,i,d,e,p,q,rfl,rfl,rfl,g,f⟩:=trodAll_cons h
  simp only [BG,List.all_cons,Bool.and_eq_true,decide_eq_true_eq] at hf
  exact trodAll_cons_mk (WideElems.Trod_stays b hf.1.1 hf.1.2 g (fun x a=>hs x (by simp [a])) (fun x a=>hsp x (by simp [a]))) (wI b (by simpa [BG] using hf.2) f (fun x a=>hs x (by simp [a])) (fun x a=>hsp x (by simp [a])))
theorem aky {H:Type} {enc:TypeId × Value→H} {P:Program} {f:Func} {s:ChangeSpec} {apart fresh handsOn again:Bool} {W W':World} {args:Array Value} {e o:List (DataW H)} {before:List MemPlace} (y:laidOutB P=true) (w:BG P f.params.toList=true)
  (hW:DataW.Whole enc P f.params.toList s.vars apart W args.toList e o before) (hvars:s.vars= []) {tb:TypeId} (hr:f.resultTypes=#[tb]) (htb:P.underlying tb=some .bool) (hfn:s.fn H (e++o)={results:= [.lit (.bool true)],args:=e,vars:= []})
  (hb:Below W.heap.size W W'):s.post enc P f apart fresh handsOn again W args (.bool true) W':=by
 have g:∀ p ∈ before,p.block<W.heap.size:=fun p hp=>hW.lt p hp
 have c:∀ p ∈ before,(fun b=>decide (b<W.heap.size)) p.block=true:=fun p hp=>by simpa using hW.lt p hp
 have h:=hW
 obtain ⟨p,q,v,t,rfl,m,n⟩:=hW
 rw [hvars] at t
 obtain ⟨rfl,rfl⟩:=trodVars_none t
 simp only [List.append_nil] at g c m n h hfn ⊢
 have hargs:∀ a:Nat→Bool,(∀ x ∈ p,a x.block=true)→DataW.TrodAll enc P W' 0 a true f.params.toList args.toList (s.fn H e).args p:=by
  intro a l
  rw [hfn]
  exact wI y w v (fun x k=>hb.same (g x k)) l
 have d:∀ (b:Nat) (a:Nat→Bool) (r:Bool),DataW.TrodAll enc P W' b a r f.resultTypes.toList ((Value.bool true).resultList f.resultTypes.size) (s.fn H e).results []:=by
  intro b a r
  rw [hfn,hr]
  exact trodAll_cons_mk (p:= []) (shut_bool htb true) trodAll_mk0
 have i:∀ a:Nat→Bool,DataW.TrodVars enc P W' a s.vars (s.fn H e).vars []:=by
  intro a
  rw [hvars,hfn]
  rfl
 refine ⟨e,[],p,[],p,[],h,by rw [List.append_nil];exact d _ _ _,by rw [List.append_nil];exact hargs _ c,by rw [List.append_nil];exact i _,World.keptBut_mono (fun x k=>k) (hb.frame _),fun _=> ?_⟩
 refine ⟨ok_one hr rfl (okWide_bool_mk htb _),_,_,([]++p)++ [],⟨[]++p,[],trodAll_append (hargs _ (fun _ _=>rfl)) (d _ _ _),by simpa using i _,rfl, ?_, ?_⟩, ?_⟩
 ·intro b j hp
  have hp':MemPlace.cell b j ∈ p:=by simpa using hp
  rw [hb.frozen (g _ hp')]
  exact m b j hp'
 ·intro u
  simpa using n u
 ·intro x k _
  simpa using k
end AM
