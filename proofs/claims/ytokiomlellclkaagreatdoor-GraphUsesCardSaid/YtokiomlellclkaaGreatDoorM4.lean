/- The abstract machine over the code of the model, and the proof that it is sound. No conditions. -/
import Derived.Test.YtokiomlellclkaaGreatDoorM3
import Derived.Recover
import Derived.ProofKit
import Derived.OpenShut
import Derived.LaidLaws
import Derived.LaidSub
import Derived.Lib.LaidTab
set_option linter.unusedSimpArgs false
set_option linter.unusedVariables false
open Bool renaming and_eq_true→δ,not_eq_true'→Xqi
open Nat renaming beq→υ,zero_le→Xqr,lt_of_lt_of_le→Xqf,sub_zero→Xwm,le_refl→ζ
open List renaming mem_of_getElem?→χ,flatMap_cons→Xqa,flatMap_nil→Xz8,append_nil→ο,range→Xqd,getElem?_map→Ξ,map_cons→φ,flatMap_map→Xzi,range'→Xji,getElem?_range→Xxy,mem_cons_of_mem→Xqk,mem_cons_self→Xqp,getElem?_take→Xq9,getElem?_drop→Xxr,all_cons→Xxu
open Option renaming map_eq_some_iff→Φ,map_some→Xqu
namespace AM
open Go
theorem tY {α:Type} {P:Program} {w:World} (f:α→Sem Value):∀ (l:List α) (vs:List Value),l.length=vs.length→(∀ (i:Nat) (x:α) (v:Value),l[i]? =some x→vs[i]? =some v→(f x).run P w= .ok v w)→(l.mapM f).run P w= .ok vs w
 | [],[],_,_=>rfl
 |a::l,v::vs,hl,h=>by
  rw [List.mapM_cons,Sem.run_bind,h 0 a v rfl rfl,Result.andThen_ok,Sem.run_bind,tY f l vs (by simpa using hl) fun i x u c b=>h (i+1) x u (by simpa using c) (by simpa using b),Result.andThen_ok];rfl
 | [],_::_,hl,_=>by simp at hl
 |_::_,[],hl,_=>by simp at hl
def Es (tmps:Array Value):ResultVar→Sem Value
 | .tmp t=>pure (tmps.getD t undef)
 | .cell a t=>do loadVar t (← asAddr (tmps.getD a undef))
def MG (vs:List Value):Value:=match vs with| [v]=>v|vs=> .tuple vs.toArray
theorem J5 (a:Func) (tmps:Array Value):results a tmps=(do let vs ← a.results.mapM (Es tmps);pure (if h:vs.size=1 then vs[0] else .tuple vs)):=by
 unfold results;congr 2
theorem jW {P:Program} {w:World} {a:Func} {tmps:Array Value} {vs:List Value} (b:a.results.toList.length=vs.length)
  (h:∀ (i:Nat) (r:ResultVar) (v:Value),a.results.toList[i]? =some r→vs[i]? =some v→(Es tmps r).run P w= .ok v w):
  (results a tmps).run P w= .ok (MG vs) w:=by
 rw [J5,Array.mapM_eq_mapM_toList];simp only [bind_map_left];rw [Sem.run_bind,tY _ _ vs b h,Result.andThen_ok]
 match vs with
 | []=>rfl
 | [v]=>rfl
 |_::_::_=>simp [MG]
theorem IP {S:az} {m:aH} {rd c:bJ} {w:World} (h:∀ b B,rd b=some B→c b=some B):ig (bU S m rd w) (bU S m c w):=by
 intro k o v a;unfold bU at a ⊢;split at a
 ·rename_i u f;exact a
 ·rename_i f;split at a
  ·rename_i e;obtain ⟨b,B,d,g,i⟩:=e;rw [if_pos ⟨b,B,h b B d,g,i⟩];exact a
  ·cases a
def cl (rd:bJ) (v:AV):List Nat:=mG rd 6 (fP (bZ v))
inductive Dy (base:Nat) (rd:bJ) (all:List Nat):AV→AV→Prop
 |own {b n:Nat} {B:aP}:rd b=some B→base≤b→B.fro=false→B.pr=true→dX all b=1→0<B.esz→Dy base rd all (.ref b B.ver 0 n) (.own (B.cells.take (n*B.esz)) n B.esz)
 |low {v:AV}:(∀ b ∈ bZ v,b<base)→Dy base rd all v v
 |frz {v v':AV}:(∀ b ∈ cl rd v,base≤b)→frz (fun b=>match kJ (cl rd v) b with|true=>rd b|false=>none) 6 v=some v'→Dy base rd all v v'
theorem Oi {base:Nat} {rd:bJ} {v a:AV} (h:Uy base rd v=some a):(∀ b ∈ cl rd v,base≤b)∧frz (fun b=>match kJ (cl rd v) b with|true=>rd b|false=>none) 6 v=some a:=by
 unfold Uy at h;dsimp only at h;split at h
 ·rename_i c;exact ⟨fun b d=>dU (List.all_eq_true.1 c b d),h⟩
 ·cases h
theorem D7 {base:Nat} {rd:bJ} {all:List Nat} {v a:AV} (h:(match (bZ v).all (fun b=>Nat.blt b base) with|true=>some v|false=>Uy base rd v)=some a):Dy base rd all v a:=by
 split at h
 ·rename_i d;cases h;exact .low fun b e=>dV (List.all_eq_true.1 d b e)
 ·obtain ⟨c,f⟩:=Oi h;exact .frz c f
theorem vM {base:Nat} {rd:bJ} {all:List Nat} {v c:AV} (h:lX base rd all v=some c):Dy base rd all v c:=by
 unfold lX at h;dsimp only at h;split at h
 ·rename_i b ver n;split at h
  ·rename_i B g;split at h
   ·rename_i d;cases h;simp only [δ,Xqi] at d;obtain ⟨⟨⟨⟨⟨e,a⟩,i⟩,j⟩,f⟩,k⟩:=d;have a:=aA a;subst a;exact .own g (dU e) i j (aA f) (dV k)
   ·exact D7 h
  ·cases h
 ·exact D7 h
theorem rG {l:List Nat} {b:Nat} (h:b ∈ l):1≤dX l b:=by
 unfold dX;have:b ∈ l.filter (υ b):=by rw [List.mem_filter];exact ⟨h,Nat.beq_refl b⟩
 exact List.length_pos_of_mem this
theorem oG {l a:List Nat} {b:Nat}:dX (l++a) b=dX l b+dX a b:=by simp [dX,List.filter_append]
theorem wO {α:Type} {f:α→List Nat} {b:Nat}:∀ (vs:List α) (i j:Nat) (v v':α),vs[i]? =some v→vs[j]? =some v'→i ≠ j→b ∈ f v→b ∈ f v'→2≤dX (vs.flatMap f) b
 | [],i,j,v,v',h,_,_,_,_=>by simp at h
 | a::r,i,j,v,v',hi,hj,hne,hb,hb'=>by
  have c:∀ (k:Nat) (u:α),r[k]? =some u→b ∈ f u→1≤dX (r.flatMap f) b:=by
   intro k u d e;exact rG (List.mem_flatMap.2 ⟨u,χ d,e⟩)
  rw [Xqa,oG];cases i with
  |zero=>
   simp at hi;subst hi;cases j with
   |zero=>exact absurd rfl hne
   |succ j=>have:=c j v' (by simpa using hj) hb';have:=rG hb;omega
  | succ i=>
   cases j with
   |zero=>simp at hj;subst hj;have:=c i v (by simpa using hi) hb;have:=rG hb';omega
   |succ j=>
    have:=wO r i j v v' (by simpa using hi) (by simpa using hj) (by omega) hb hb';omega
def jo:List AV→List AV→List (Nat × aP)
 |v::r,.own xs _ esz::q=>(match v with| .ref b _ _ _=> [(b,xk xs esz)]|_=> [])++jo r q
 |_::r,_::q=>jo r q
 |_,_=> []
theorem h_ {v x:AV} {r q:List AV} (h:∀ xs k e,x ≠ .own xs k e):jo (v::r) (x::q)=jo r q:=by
 cases x<;>first|rfl|exact absurd rfl (h _ _ _)
section
variable {P:Program} {ap:AP} {base:Nat} {rd:bJ} {all:List Nat}
theorem uh {g:bJ} {m:aH} {S:az} {x:AV} {v:Value} (h:VR g m S x v):∀ xs k e,x ≠ .own xs k e:=by
 rintro xs k e rfl;simp [VR] at h
theorem zC {S:az} {x:AV} {v:Value} (h:PR S x v):∀ xs k e,x ≠ .own xs k e:=by
 rintro xs k e rfl;simp [PR] at h
end
end AM
namespace AM
open Go
theorem Bg {b:Nat}:∀ (l acc:List Nat),(b ∈ l∨b ∈ acc)→b ∈ l.foldl yH acc
 | [],acc,h=>by simpa using h
 | a::r,acc,h=>by
  simp only [List.foldl_cons];refine Bg r _ ?_;rcases h with h|h
  ·rcases List.mem_cons.1 h with rfl|h
   ·right;unfold yH;split
    ·rename_i hm;exact fO.1 hm
    ·simp
   ·exact .inl h
  ·right;obtain h':=h;unfold yH;split
   ·exact h
   ·simp [h]
theorem JO {l:List Nat} {b:Nat} (h:b ∈ l):b ∈ fP l:=Bg l [] (.inl h)
theorem FQ (l:List Nat):(fP l).Nodup:=(lM l [] (by simp)).1
theorem QQ {rd:bJ} {v:AV} {b:Nat} (h:b ∈ bZ v):b ∈ cl rd v:=by
 obtain ⟨_,t,a⟩:=qC rd 6 (fP (bZ v)) (FQ _);unfold cl;rw [a];exact List.mem_append.2 (.inl (JO h))
theorem xm:∀ {vs l:List AV} {b:Nat} {Bo:aP},(b,Bo) ∈ jo vs l→∃ ver i n c k e,(AV.ref b ver i n,AV.own c k e) ∈ vs.zip l∧Bo=xk c e
 | [],l,b,Bo,h=>by cases l<;>simp [jo] at h
 |v::r,[],b,Bo,h=>by simp [jo] at h
 | v ::r,x::q,b,Bo,h=>by
  rcases jm x with ⟨c,k,e,rfl⟩|hx
  ·simp only [jo,List.mem_append] at h;rcases h with h|h
   ·cases v with
    |ref b' ver i n=>
     simp at h;obtain ⟨rfl,rfl⟩:=h;exact ⟨ver,i,n,c,k,e,by simp,rfl⟩
    |_=>simp at h
   ·obtain ⟨ver,i,n,a,f,e',d,g⟩:=xm h;exact ⟨ver,i,n,a,f,e',by simp [d],g⟩
  ·rw [h_ hx] at h;obtain ⟨ver,i,n,a,f,e',d,g⟩:=xm h;exact ⟨ver,i,n,a,f,e',by simp [d],g⟩
theorem BH {rd:bJ} {b:Nat}:∀ (vs l:List AV),dX ((jo vs l).flatMap fun q=> [q.1]) b≤dX (vs.flatMap (cl rd)) b
 | [],l=>by cases l<;>simp [jo,dX]
 |v::r,[]=>by simp [jo,dX]
 | v :: r,x::q=>by
  have d:=BH (rd:=rd) (b:=b) r q;rw [Xqa,oG];rcases jm x with ⟨f,k,e,rfl⟩|hx
  ·simp only [jo,List.flatMap_append,oG];cases v with
   | ref b' ver i n=>
    simp only [Xqa,Xz8,ο];have:dX [b'] b≤dX (cl rd (.ref b' ver i n)) b:=by
     by_cases hb:b=b'
     ·subst hb;have a:dX [b] b=1:=by simp [dX]
      rw [a];exact rG (QQ (by simp [bZ]))
     ·have a:dX [b'] b=0:=by
       have:υ b b'=false:=by
        cases c:υ b b' with
        |false=>rfl
        |true=>exact absurd (aA c) hb
       simp [dX,this]
      omega
    omega
   |_=>simp [dX] at*;omega
  ·rw [h_ hx];omega
theorem BO:∀ (vs l:List AV) (n:Nat),vs.length=l.length→(∀ v x,(v,x) ∈ vs.zip l→(∃ c k e,x= .own c k e)→∃ b ver i n,v= .ref b ver i n)→(eF n l).2=(jo vs l).map (·.2)
 | [],[],n,_,_=>by simp [eF,jo]
 | v::r,x::q,n,hl,h=>by
  have d:=fun n=>BO r q n (by simpa using hl) fun v x hm a=>h v x (by simp [hm]) a
  rcases jm x with ⟨c,k,e,rfl⟩|a
  ·obtain ⟨b,ver,i,f,rfl⟩:=h v _ (by simp) ⟨c,k,e,rfl⟩;simp only [eF,jo,d];simp
  ·rw [bM n a,h_ a];exact d n
 | [],_::_,_,hl,_=>by simp at hl
 |_::_,[],_,hl,_=>by simp at hl
theorem FV {rd gh gf:bJ} {m s:aH} {S S':az}:∀ (vs l:List AV) (cvs:List Value) (n:Nat),vs.length=l.length→aU rd m S vs cvs→
  (∀ v x,(v,x) ∈ vs.zip l→(∃ a k e,x= .own a k e)→∃ b ver n,v= .ref b ver 0 n∧∃ a e,x= .own a n e)→
  (∀ v x c,(v,x) ∈ vs.zip l→(∀ a k e,x ≠ .own a k e)→VR rd m S v c→VR gh s S' x c)→
  (∀ (k b:Nat) (Bo:aP),(jo vs l)[k]? =some (b,Bo)→∀ ver i c,VR rd m S (.ref b ver 0 i) c→(∃ a e,(AV.ref b ver 0 i,AV.own a i e) ∈ vs.zip l)→VR gf s S' (.ref (n+k) 0 0 i) c)→gQ gh gf s S' n l cvs
 | [],[],[],n,_,_,_,_,_=>by simp [gQ]
 | v::r,x::q,c::cs,n,hl,hv,ho,hx,hr=>by
  simp only [aU] at hv;rcases jm x with ⟨a,k,e,rfl⟩|hxo
  ·obtain ⟨b,ver,i,rfl,u,e',t⟩:=ho v _ (by simp) ⟨a,k,e,rfl⟩;cases t;simp only [gQ];refine ⟨?_, ?_⟩
   ·have:=hr 0 b (xk a e) (by simp [jo]) ver k c hv.1 ⟨a,e,by simp⟩;rwa [Nat.add_zero] at this
   ·refine FV r q cs (n+1) (by simpa using hl) hv.2 (fun v x hm=>ho v x (by simp [hm])) (fun v x c hm=>hx v x c (by simp [hm])) ?_;intro j o Bo p d g c' f h;have:=hr (j+1) o Bo (by simpa [jo] using p) d g c' f (by obtain ⟨a,e,h⟩:=h;exact ⟨a,e,by simp [h]⟩);rwa [show n+(j+1)=n+1+j by omega] at this
  ·rw [cZ hxo];refine ⟨hx v x c (by simp) hxo hv.1, ?_⟩;refine FV r q cs n (by simpa using hl) hv.2 (fun v x hm=>ho v x (by simp [hm])) (fun v x c hm=>hx v x c (by simp [hm])) ?_;intro j o Bo p d g c' f h;exact hr j o Bo (by rw [h_ hxo];exact p) d g c' f (by obtain ⟨a,e,h⟩:=h;exact ⟨a,e,by simp [h]⟩)
 | [],_::_,_,_,hl,_,_,_,_=>by simp at hl
 |_::_,[],_,_,hl,_,_,_,_=>by simp at hl
 | [],[],_::_,_,_,hv,_,_,_=>by simp [aU] at hv
 |_::_,_::_,[],_,_,hv,_,_,_=>by simp [aU] at hv
theorem Ic {α β:Type} {f:α→Option β}:∀ {l:List α} {l':List β},fM f l=some l'→∀ x y,(x,y) ∈ l.zip l'→f x=some y
 | [],l',h,x,y,hm=>by simp at hm
 | a::r,l',h,x,y,hm=>by
  simp only [fM] at h;split at h
  ·rename_i b c;split at h
   ·rename_i q d;cases h;simp only [List.zip_cons_cons,List.mem_cons,Prod.mk.injEq] at hm;rcases hm with ⟨rfl,rfl⟩|hm
    ·exact c
    ·exact Ic d x y hm
   ·cases h
  ·cases h
theorem NP {α β:Type} {l:List α} {b:List β} {x:α} {y:β} (h:(x,y) ∈ l.zip b):∃ i:Nat,l[i]? =some x∧b[i]? =some y:=by
 obtain ⟨i,a⟩:=List.mem_iff_getElem?.1 h;rw [List.getElem?_zip_eq_some] at a;exact ⟨i,a⟩
theorem TY {g:bJ} {m:aH} {S:az} {l:List AV} {vs:List Value} (h:aU g m S l vs) {x:AV} (c:x ∈ l):∃ v,VR g m S x v:=by
 obtain ⟨i,a⟩:=List.mem_iff_getElem?.1 c;obtain ⟨v,_,b⟩:=oq h i a;exact ⟨v,b⟩
end AM
namespace AM
open Go
section
variable {P:Program} {ap:AP}
theorem kW {h0 G:List aP} {hp:Hp} {m m0:aH} {S S0:az} {w w0:World} {vs l:List AV} {cvs:List Value} (U:bf ap (ah hp) m S w) (z:Fr (aF h0) m0 S0 w0 (ah hp) m S w) (hv:aU (ah hp) m S vs cvs)
  {N:Nat} (hN:h0.length≤N) (hl:fM (lX N (ah hp) (vs.flatMap (cl (ah hp)))) vs=some l) (hh':fM (ah hp) (Xqd N)=some G) (hbase:G.all (fun B=>B.pr||(bD B.cells).all fun b=>Nat.blt b N)=true):
  ∃ m' S',bf ap (aF (G++(eF G.length l).2)) m' S' w∧Fr (aF h0) m0 S0 w0 (aF (G++(eF G.length l).2)) m' S' w∧gQ (aF G) (aF (G++(eF G.length l).2)) m' S' G.length l cvs:=by
 have Y:=(d_ hl).1;have hz:∀ v x,(v,x) ∈ vs.zip l→Dy N (ah hp) (vs.flatMap (cl (ah hp))) v x:=fun v x hm=>vM (Ic hl v x hm)
 have L:∀ v x,(v,x) ∈ vs.zip l→(∃ M k e,x= .own M k e)→∃ (b n:Nat) (B:aP),v= .ref b B.ver 0 n∧ah hp b=some B∧N≤b∧B.fro=false∧B.pr=true∧dX (vs.flatMap (cl (ah hp))) b=1∧0<B.esz∧x= .own (B.cells.take (n*B.esz)) n B.esz:=by
  rintro v x hm ⟨M,k,e,rfl⟩
  obtain ⟨c,T⟩:=TY hv (List.of_mem_zip hm).1;generalize hxe:AV.own M k e=x at hm;cases hz v x hm with
  |own a d p t A O=>exact ⟨_,_,_,rfl,a,d,p,t,A,O,rfl⟩
  |low a=>exact absurd hxe.symm (uh T _ _ _)
  |frz a d=>
   refine absurd hxe.symm (zC (iZ U (fun b B g=> ?_) 6 v c x d T) _ _ _);split at g
   ·exact g
   ·cases g
 generalize K:jo vs l=obs;have hbs:∀ n,(eF n l).2=obs.map (·.2):=by
  intro n;rw [← K];refine BO vs l n Y.symm fun v x hm X=> ?_
  obtain ⟨b,n',B,a,_⟩:=L v x hm X;exact ⟨b,_,0,n',a⟩
 rw [hbs];have C:∀ b Bo,(b,Bo) ∈ obs→∃ (n:Nat) (B:aP),ah hp b=some B∧N≤b∧B.fro=false∧B.pr=true∧dX (vs.flatMap (cl (ah hp))) b=1∧0<B.esz∧Bo=xk (B.cells.take (n*B.esz)) B.esz∧(AV.ref b B.ver 0 n,AV.own (B.cells.take (n*B.esz)) n B.esz) ∈ vs.zip l:=by
  intro b Bo hm;rw [← K] at hm;obtain ⟨ver,i,n,M,k,e,a,d⟩:=xm hm;obtain ⟨b',n',B,p,t,A,O,V,R,W,D⟩:=L _ _ a ⟨M,k,e,rfl⟩;cases p;cases D;exact ⟨_,B,t,A,O,V,R,W,d,a⟩
 have hobd:∀ (k k' b:Nat) (Bo Bo':aP),obs[k]? =some (b,Bo)→obs[k']? =some (b,Bo')→k=k':=by
  intro k k' b Bo Bo' a d;obtain ⟨n,B,_,_,_,_,A,_⟩:=C b Bo (χ a);by_cases s:k=k'
  ·exact s
  ·have p:=wO (f:=fun q:Nat × aP=> [q.1]) obs k k' _ _ a d s (b:=b) (by simp) (by simp);have t:=BH (rd:=ah hp) (b:=b) vs l;rw [K] at t;omega
 have hobx:∀ b Bo,(b,Bo) ∈ obs→∀ v x,(v,x) ∈ vs.zip l→(∀ M k e,x ≠ .own M k e)→b ∉ cl (ah hp) v:=by
  intro b Bo hm v x hvx X g;obtain ⟨n,B,_,_,_,_,A,_,_,O⟩:=C b Bo hm;obtain ⟨i,V,R⟩:=NP O;obtain ⟨j,W,D⟩:=NP hvx;have hne:i ≠ j:=by
   rintro rfl
   rw [R] at D;cases D;exact X _ _ _ rfl
  have:=wO (f:=cl (ah hp)) vs i j _ _ V W hne (b:=b) (QQ (by simp [bZ])) g;omega
 have Z:G.length=N:=by rw [(d_ hh').1];simp
 have J:∀ b,b<N→∃ B,ah hp b=some B∧aF G b=some B:=by
  intro b g;obtain ⟨B,a,d⟩:=(d_ hh').2 b b (by simp [g]);exact ⟨B,d,a⟩
 have hlow':∀ b B,aF G b=some B→b<N∧ah hp b=some B:=by
  intro b B g;have I:b<N:=by
   have:=(List.getElem?_eq_some_iff.1 g).1;omega
  obtain ⟨B',a,d⟩:=J b I;rw [g] at d;cases d;exact ⟨I,a⟩
 let rdF:bJ:=open Classical in fun b=>if ∃ v x,(v,x) ∈ vs.zip l∧(∀ M k e,x ≠ .own M k e)∧b ∈ cl (ah hp) v∧∀ y ∈ cl (ah hp) v,N≤y then ah hp b else none
 have Q:∀ b B,rdF b=some B→ah hp b=some B∧N≤b∧∀ Bo,(b,Bo) ∉ obs:=by
  intro b B g;dsimp only [rdF] at g;split at g
  ·rename_i T;obtain ⟨v,x,a,d,p,t⟩:=T;exact ⟨g,t b p,fun Bo hm=>hobx b Bo hm v x a d p⟩
  ·cases g
 have r:=jJ S m rdF w
 let m':aH:=fun i=>if i<N then m i else m ((obs.map (·.1)).getD (i - N) 0)
 have hm'lo:∀ i,i<N→m' i=m i:=fun i E=>if_pos E
 have hm'hi:∀ (k b:Nat) (Bo:aP),obs[k]? =some (b,Bo)→m' (N+k)=m b:=by
  intro k b Bo s;show (if _ then _ else _)=_;rw [if_neg (by omega),show N+k - N=k by omega,List.getD_eq_getElem?_getD,Ξ,s];rfl
 have hgf:∀ i Bi,aF (G++obs.map (·.2)) i=some Bi→(i<N∧ah hp i=some Bi∧aF G i=some Bi)∨(∃ k b,i=N+k∧obs[k]? =some (b,Bi)):=by
  intro i Bi E;by_cases I:i<N
  ·rw [dL (by omega)] at E;exact .inl ⟨I,(hlow' i Bi E).2,E⟩
  ·rw [gV (by omega),Z] at E;right;refine ⟨i - N, ?_⟩;have hi':(obs.map (·.2))[i - N]? =some Bi:=E;rw [Ξ,Φ] at hi';obtain ⟨⟨b,Bo⟩,a,d⟩:=hi';exact ⟨b,by omega,by rw [a];simp at d;rw [d]⟩
 have hgfk:∀ (k b:Nat) (Bo:aP),obs[k]? =some (b,Bo)→aF (G++obs.map (·.2)) (N+k)=some Bo:=by
  intro k b Bo s;rw [gV (by omega),Z,show N+k - N=k by omega];show (obs.map (·.2))[k]? =_;rw [Ξ,s];rfl
 have F:∀ i Bi,aF (G++obs.map (·.2)) i=some Bi→∃ b B,ah hp b=some B∧m' i=m b∧((i<N∧b=i∧Bi=B)∨(N≤b∧∃ k,i=N+k∧obs[k]? =some (b,Bi))):=by
  intro i Bi E;rcases hgf i Bi E with ⟨a,d,p⟩|⟨k,b,rfl,s⟩
  ·exact ⟨i,Bi,d,hm'lo i a,.inl ⟨a,rfl,rfl⟩⟩
  ·obtain ⟨n,B,a,d,_⟩:=C b Bi (χ s);exact ⟨b,B,a,hm'hi k b Bi s,.inr ⟨d,k,rfl,s⟩⟩
 refine ⟨m',bU S m rdF w, ?_, ?_, ?_⟩
 ·refine ⟨?_, ?_,fun k o v h=>jX U h, ?_, ?_⟩
  ·intro i j Bi Bj E hj e;obtain ⟨b,B,a,d,p⟩:=F i Bi E;obtain ⟨b',B',h1',h2',h3'⟩:=F j Bj hj;rw [d,h2'] at e;have:=U.inj b b' B B' a h1' e;subst this;rcases p with ⟨t,rfl,_⟩|⟨t,k,rfl,s⟩<;>rcases h3' with ⟨h4',rfl,_⟩|⟨h4',k',rfl,hk'⟩
   ·rfl
   ·omega
   ·omega
   ·rw [hobd k k' b _ _ s hk']
  ·intro i Bi E;rcases hgf i Bi E with ⟨a,d,p⟩|⟨k,b,rfl,s⟩
   ·rw [hm'lo i a];obtain ⟨⟨cur,e,us,rest,k1,k2,k3,k4,k5,k6⟩,k7,k8⟩:=U.blk i Bi d;refine ⟨⟨cur,e,us,rest,k1,k2,fun hp=>aV r _ (k3 hp), ?_,k5,k6⟩,k7,k8⟩;cases hpr:Bi.pr with
    |true=>exact aZ _ (aV r _ (k3 hpr))
    |false=>
     refine jF r _ (fun b g=> ?_) k4;have A:=List.all_eq_true.1 hbase Bi (χ p);rw [hpr] at A;simp only [Bool.false_or] at A;have O:=dV (List.all_eq_true.1 A b g);obtain ⟨B,V,R⟩:=J b O;exact ⟨by rw [dL (by omega),R,V],hm'lo b O⟩
   ·obtain ⟨n,B,a,d,p,t,A,O,rfl,_⟩:=C b Bi (χ s);rw [hm'hi k b _ s];obtain ⟨⟨cur,e,us,rest,k1,k2,k3,k4,k5,k6⟩,k7,k8⟩:=U.blk b B a;have hp:=aV r _ (jf (n*B.esz) (k3 t));refine ⟨⟨cur,e,us.take (n*B.esz),us.drop (n*B.esz)++rest,k1, ?_,fun _=>hp,aZ _ hp,fun hz u hu=>k5 hz u (List.mem_of_mem_take hu),k6⟩,fun _=>rfl,Xqr _⟩;rw [← List.append_assoc,List.take_append_drop];exact k2
  ·intro i Bi E o v ho;obtain ⟨b,B,a,d,p⟩:=F i Bi E;rw [d] at ho;have hno:rdF b=none:=by
    cases hr:rdF b with
    |none=>rfl
    |some B'=>
     obtain ⟨_,t,A⟩:=Q b B' hr;rcases p with ⟨O,rfl,_⟩|⟨_,k,_,s⟩
     ·omega
     ·exact absurd (χ s) (A _)
   have hSo:S (m b).1 o=some v:=by
    rcases dW ho with h|⟨_,b',B',t,A,_⟩
    ·exact h
    ·have:=U.inj b' b B' B (Q b' B' t).1 a A;subst this;rw [hno] at t;cases t
   obtain ⟨V,R⟩:=U.own b B a o v hSo;rcases p with ⟨_,rfl,rfl⟩|⟨_,k,_,s⟩
   ·exact ⟨V,R⟩
   ·obtain ⟨n,B2,W,_,D,_⟩:=C b _ (χ s);rw [a] at W;cases W;rw [V] at D;cases D
  ·intro k M s;obtain ⟨us,a,d⟩:=U.glob k M s;exact ⟨us,aV r _ a,d.mono r⟩
 ·refine ⟨?_,z.sle.trans r,z.os,z.tape,z.output,z.size,z.rest, ?_, ?_,fun i Bi E=>by
   obtain ⟨b,B,a,d,_⟩:=F i Bi E;rw [d];exact z.mw b B a⟩
  ·intro b B0 g;have I:b<N:=Xqf (List.getElem?_eq_some_iff.1 g).1 hN;obtain ⟨B,a,d,p⟩:=z.ge b B0 g;obtain ⟨B',t,A⟩:=J b I;rw [a] at t;cases t;exact ⟨B,by rw [dL (by omega)];exact A,d,by rw [hm'lo b I];exact p⟩
  ·intro i Bi E;obtain ⟨b,B,a,d,p⟩:=F i Bi E;rw [d];rcases z.img b B a with h|⟨B0,t,A⟩
   ·exact .inl h
   ·have I:b<N:=Xqf (List.getElem?_eq_some_iff.1 t).1 hN;rcases p with ⟨_,rfl,_⟩|⟨O,_⟩
    ·exact .inr ⟨B0,t,A⟩
    ·omega
  ·intro k o v hv;rcases dW hv with h|⟨_,b,B,a,d,_⟩
   ·exact z.sealN k o v h
   ·obtain ⟨p,t,_⟩:=Q b B a;rcases z.img b B p with h|⟨B0,A,_⟩
    ·exact .inr (.inl (d ▸ h))
    ·have:=(List.getElem?_eq_some_iff.1 A).1;omega
 ·rw [Z];refine FV (rd:=ah hp) (m:=m) (S:=S) vs l cvs N Y.symm hv ?_ ?_ ?_
  ·intro v x hm X;obtain ⟨b,n,B,a,_,_,_,_,_,_,d⟩:=L v x hm X;exact ⟨b,B.ver,n,a,_,_,d⟩
  ·intro v x c hm X T;cases hz v x hm with
   |own _ _ _ _ _ _=>exact absurd rfl (X _ _ _)
   |low a=>
    refine qp r v (fun b g=> ?_) T;obtain ⟨B,d,p⟩:=J b (a b g);exact ⟨by rw [p,d],hm'lo b (a b g)⟩
   | frz a d=>
    have p:=iZ U (fun b B g=>by split at g;exact g;cases g) 6 v c x d T;refine dQ x (bI (IP fun b B g=> ?_) x p);split at g
    ·rename_i hm2;dsimp only [rdF];rw [if_pos ⟨v,x,hm,X,fO.1 hm2,a⟩];exact g
    ·cases g
  ·rw [K];intro k b Bo s ver n' c T hzz;obtain ⟨n,B,a,d,p,t,A,O,rfl,V⟩:=C b Bo (χ s);obtain ⟨M,e,hzz⟩:=hzz;have hver:ver=B.ver:=by
    obtain ⟨b2,n2,B2,e1,e2,_⟩:=L _ _ hzz ⟨M,_,e,rfl⟩;cases e1;rw [a] at e2;cases e2;rfl
   subst hver;simp only [VR] at T ⊢;obtain ⟨B',R,_,W,D⟩:=T;rw [a] at R;cases R;refine ⟨_,hgfk k b _ s,Xqr _,W,fun _=> ?_⟩;rw [hm'hi k b _ s];exact D rfl
end
end AM
namespace AM
open Go
section
variable {P:Program} {ap:AP}
theorem Dq (n:dJ P ap) {env:dK} {hp:Hp} {m:aH} {S:az} {w:World} {tmps:Array Value} (E:bf ap (ah hp) m S w) (q:∀ t,VR (ah hp) m S (env.get t) (tmps.getD t undef)) {r:ResultVar} {v:AV} {bs:List Bool}
  (h:r_ ap env hp r=some (v,bs)) (hbs:∀ b ∈ bs,b=true):∃ cv,(Es tmps r).run P w= .ok cv w∧VR (ah hp) m S v cv:=by
 cases r with
 |tmp t=>
  simp only [r_,Option.some.injEq,Prod.mk.injEq] at h;obtain ⟨rfl,rfl⟩:=h;exact ⟨_,rfl,q t⟩
 | cell a t=>
  simp only [r_] at h;have C:=bind_some h;clear h;obtain ⟨K,p,h⟩:=C;simp only [Φ] at h;obtain ⟨⟨I,ups,A⟩,j,u⟩:=h;simp only [Prod.mk.injEq] at u;obtain ⟨rfl,rfl⟩:=u;obtain ⟨i,d,z,D⟩:=bV n p;have c:=q a;obtain ⟨_,cv,y,G⟩:=yc E (fun b B F=>F) D c j hbs;refine ⟨cv, ?_,G⟩;have g:∃ x,tmps.getD a undef= .pointer (some x):=by
   unfold Ia at j;split at j
   ·rename_i J l f;rw [f] at c;simp only [VR,PR] at c;obtain ⟨b,o,vs,e,_⟩:=c;exact ⟨_,e⟩
   ·rename_i b ver l f;rw [f] at c;simp only [VR] at c;obtain ⟨B,_,_,⟨k,o,e⟩,_⟩:=c;exact ⟨_,e⟩
   ·cases j
  obtain ⟨x,s⟩:=g;rw [s] at y;simp only [Es,s];exact y
theorem iH (a:dJ P ap) {env:dK} {hp:Hp} {m:aH} {S:az} {w:World} {tmps:Array Value} (g:bf ap (ah hp) m S w) (f:∀ t,VR (ah hp) m S (env.get t) (tmps.getD t undef)):
  ∀ {rs:List ResultVar} {vs:List (AV × List Bool)},fM (r_ ap env hp) rs=some vs→(∀ b ∈ vs.flatMap (·.2),b=true)→∃ cvs:List Value,rs.length=cvs.length∧aU (ah hp) m S (vs.map (·.1)) cvs∧∀ (i:Nat) (r:ResultVar) (v:Value),rs[i]? =some r→cvs[i]? =some v→(Es tmps r).run P w= .ok v w
 | [],vs,h,_=>by
  simp [fM] at h;subst h;exact ⟨[],rfl,by simp [aU],fun i r v h=>by simp at h⟩
 | r::rs,vs,h,hbs=>by
  simp only [fM] at h;split at h
  ·rename_i q n;split at h
   ·rename_i l u;cases h;obtain ⟨v,bs⟩:=q;obtain ⟨cv,k,p⟩:=Dq a g f n (fun b e=>hbs b (by simp [e]));obtain ⟨cvs,s,x,o⟩:=iH a g f u (fun b e=>hbs b (by rw [Xqa];exact List.mem_append.2 (.inr e)));refine ⟨cv::cvs,by simp [s],by simp only [φ,aU];exact ⟨p,x⟩, ?_⟩;intro i y j c d;cases i with
    |zero=>simp at c d;subst c;subst d;exact k
    |succ i=>exact o i y j (by simpa using c) (by simpa using d)
   ·cases h
  ·cases h
theorem Gw {gh gf:bJ} {m:aH} {S:az} {n:Nat} {x:AV} {v:Value} (h:gQ gh gf m S n [x] [v]):ug gh gf m S n x v∧(iR n x).2=(eF n [x]).2:=by
 rcases jm x with ⟨i,k,e,rfl⟩|hx
 ·simp only [gQ] at h;exact ⟨h.1,rfl⟩
 ·rw [cZ hx] at h;rcases xB x with ⟨l,rfl⟩|ht
  ·have f:=h.1;simp only [VR] at f;obtain ⟨vs,rfl,g⟩:=f;have key:∀ (l:List AV) (vs:List Value) (n:Nat),aU gh m S l vs→gQ gh gf m S n l vs∧(eF n l).2= []:=by
    intro l
    induction l with
    |nil=>intro vs n a;cases vs with
     |nil=>exact ⟨by simp [gQ],rfl⟩
     |cons _ _=>simp [aU] at a
    | cons y r ih=>intro vs n a;cases vs with
     |nil=>simp [aU] at a
     |cons u us=>
      simp only [aU] at a;have b:=uh a.1;obtain ⟨c,d⟩:=ih us n a.2;rw [cZ b,bM n b];exact ⟨⟨a.1,c⟩,d⟩
   obtain ⟨c,d⟩:=key l vs n g;refine ⟨?_, ?_⟩
   ·simp only [ug];exact ⟨vs,rfl,c⟩
   ·simp only [iR,eF];exact d
  ·rw [jD hx ht,gW n hx ht,bM n hx];exact ⟨h.1,rfl⟩
theorem sG (rd:bJ) (n:Nat):n≤OX rd n:=by
 obtain ⟨_,t,a⟩:=qC rd 20 (Xqd n) List.nodup_range;unfold OX;rw [a,List.length_append,List.length_range];exact Nat.le_add_right _ _
theorem jP (k:dJ P ap) {h0 o:List aP} {G:Func} {env:dK} {hp:Hp} {m m0:aH} {S S0:az} {w w0:World} {tmps:Array Value} {c c':Cx} {out:gK} (h:rZ ap h0.length G env hp c= .ok (out,o) c') (E:c'.Ok):
  c.Ok∧h0.length≤o.length∧(bf ap (ah hp) m S w→Fr (aF h0) m0 S0 w0 (ah hp) m S w→(∀ t,VR (ah hp) m S (env.get t) (tmps.getD t undef))→
   ∃ cv,(results G tmps).run P w= .ok cv w∧∃ r S',yG ap h0 m0 S0 w0 out o r S' w (.returned cv)):=by
 unfold rZ at h;dsimp only at h;split at h
 ·rename_i vs J u b;split at h
  ·cases h
  ·rename_i hbase;obtain ⟨_,K,F,h⟩:=R.bind_ok h;split at h
   ·rename_i v f;cases h;obtain ⟨e,j⟩:=Fb F E;have hlen':h0.length≤o.length:=by rw [(d_ b).1];simpa using sG _ _
    refine ⟨e,hlen',fun p d z=> ?_⟩;obtain ⟨cvs,A,s,B⟩:=iH k p z u j;have a:(vs.flatMap fun q=>mG (ah hp) 6 (fP (bZ q.1)))=(vs.map (·.1)).flatMap (cl (ah hp)):=by rw [Xzi];rfl
    rw [a] at f;obtain ⟨r,S',y,x,D⟩:=kW p d s (sG _ _) f b hbase;have C:cvs.length=1:=by
     have:=aW s;have i:=(d_ f).1;simp at i this;omega
    match cvs,C with
    | [cv],_=>
     obtain ⟨i,I⟩:=Gw D;refine ⟨cv,jW A B,r,S', ?_⟩;rw [← I] at y x;refine ⟨y,x,cv,rfl, ?_⟩;rw [I];exact i
   ·rename_i l g f;cases h;obtain ⟨e,j⟩:=Fb F E;have hlen':h0.length≤o.length:=by rw [(d_ b).1];simpa using sG _ _
    refine ⟨e,hlen',fun p d z=> ?_⟩;obtain ⟨cvs,A,s,B⟩:=iH k p z u j;have a:(vs.flatMap fun q=>mG (ah hp) 6 (fP (bZ q.1)))=(vs.map (·.1)).flatMap (cl (ah hp)):=by rw [Xzi];rfl
    rw [a] at f;obtain ⟨r,S',y,x,D⟩:=kW p d s (sG _ _) f b hbase;have n:MG cvs= .tuple cvs.toArray:=by
     match cvs with
     | []=>rfl
     | [cv]=>
      exfalso;have:=aW s;have i:=(d_ f).1;simp at i this
      match l,g with
      | [],_=>simp at i;omega
      | [v],g=>exact g v rfl
      |_::_::_,_=>simp at i;omega
     |_::_::_=>rfl
    refine ⟨_,jW A B,r,S',y,x, ?_⟩;rw [n];exact ⟨_,rfl,cvs,rfl,D⟩
   ·cases h
 ·cases h
theorem vY {h0 g:List aP} {v:AV} {hp:Hp} {m m0:aH} {S S0:az} {w w0:World} {c c':Cx} {out:gK} (h:FY h0.length v hp c= .ok (out,g) c'):
  c=c'∧h0.length≤g.length∧(bf ap (ah hp) m S w→Fr (aF h0) m0 S0 w0 (ah hp) m S w→∀ cv,VR (ah hp) m S v cv→(∀ b ver n,v ≠ .ref b ver 0 n)→
   ∃ t S',yG ap h0 m0 S0 w0 out g t S' w (.panicked [{v:=cv,recovered:=false}])):=by
 unfold FY at h;dsimp only at h;split at h
 ·rename_i i z d a;split at h
  ·cases h
  ·rename_i hbase;cases h;have hlen':h0.length≤g.length:=by rw [(d_ a).1];simpa using sG _ _
   refine ⟨rfl,hlen',fun u o cv q j=> ?_⟩;have y:fM (lX (OX (ah hp) h0.length) (ah hp) ([v].flatMap (cl (ah hp)))) [v]=some [i]:=by
    simp only [Xqa,Xz8,ο,fM];have x:lX (OX (ah hp) h0.length) (ah hp) (cl (ah hp) v) v=some i:=d;rw [x]
   obtain ⟨t,S',s,l,p⟩:=kW u o (vs:= [v]) (cvs:= [cv]) (by simp only [aU];exact ⟨q,trivial⟩) (sG _ _) y a hbase;have f:∀ xs k e,i ≠ .own xs k e:=by
    rintro xs k e rfl
    cases vM d with
    |own h1 h2 h3 s l p=>exact j _ _ _ rfl
    |low h1=>exact uh q _ _ _ rfl
    |frz h1 h2=>
     exact zC (iZ u (fun b B r=>by split at r;exact r;cases r) 6 v cv _ h2 q) _ _ _ rfl
   rw [cZ f] at p;rw [bM _ f] at s l;exact ⟨t,S',s,l,cv,rfl,p.1⟩
 ·cases h
end
end AM
namespace AM
open Go
def ni (S:az):AV→FrameMode→Prop
 | .nilI,u=>u= .returning
 | .ifc t v,u=> ∃ cv,u= .panicking [{v:=cv,recovered:=false}]∧PR S (.ifc t v) cv
 |_,_=>False
def Je (md md':AV) (u u':FrameMode):Prop:=(md'=md∧u'=u)∨(md'= .nilI∧settle u'= .returning)
structure TR (P:Program) (ap:AP) (f:Nat) (args:List AV) (h:List aP) (out:gK) (h':List aP) (md md':AV):Prop where
 ent:ql P f
 calls:∀ m S w cargs u,bf ap (aF h) m S w→aU (aF h) m S args cargs→ni S md u→CallsD P f cargs.toArray u w fun e u' w'=>(∃ m' S',yG ap h m S w out h' m' S' w' e)∧Je md md' u u'
def n_ (P:Program) (ap:AP) (H:bG):Prop:=∀ c md f args h out h' md' c',md ≠ .dead→H c md f args h= .ok (out,h',md') c'→c'.Ok→c.Ok∧TR P ap f args h out h' md md'
structure C_ (P:Program) (ap:AP):Prop where
 fn:∀ (f:Nat) (F:AF),ap.fnAt f=some F→P.funcs[f]? =some F.fn
 body:∀ (f:Nat) (F:AF),ap.fnAt f=some F→∃ c,F.fn.body=some c∧cO F.fn.ntmps c=true
 name:∀ (f:Nat) (F:AF),ap.fnAt f=some F→(F.fn.name== "runtime.NumGoroutine")=false
section
variable {P:Program} {ap:AP} {H:bG}
theorem rq (a:C_ P ap) {f:Nat} {F:AF} (b:ap.fnAt f=some F):ql P f:=by
 intro args w;obtain ⟨c,d,_⟩:=a.body f F b;unfold callFunc;rw [Sem.run_bind];have:(program).run P w= .ok P w:=rfl;rw [this,Result.andThen_ok,a.fn f F b];dsimp only;rw [a.name f F b];simp [d]
theorem IU {S:az} {md:AV} {u:FrameMode} (h:ni S md u):settle u=u∧u ≠ .run:=by
 cases md<;>simp only [ni] at h
 ·obtain ⟨cv,rfl,_⟩:=h;exact ⟨rfl,by simp⟩
 ·subst h;exact ⟨rfl,by simp⟩
theorem lZ (C:dJ P ap) (V:n_ P ap H):
  ∀ (dfs:List (Nat × List AV)) (mode mode':AV) (hp hp':Hp) (c c':Cx),AY ap H dfs mode hp c= .ok (mode',hp') c'→c'.Ok→c.Ok∧
   ∀ (h0:List aP) (s:Func) (tmps:Array Value) (env:dK) (RR:Ending→World→Prop) (m0:aH) (S0:az) (w0:World) m S w j u,bf ap (ah hp) m S w→Fr (aF h0) m0 S0 w0 (ah hp) m S w→(∀ t,VR (ah hp) m S (env.get t) (tmps.getD t undef))→dS (ah hp) m S dfs j→ni S mode u→
   (∀ m' S' w' n,bf ap (ah hp') m' S' w'→Fr (aF h0) m0 S0 w0 (ah hp') m' S' w'→(∀ t,VR (ah hp') m' S' (env.get t) (tmps.getD t undef))→ni S' mode' n→Leaves P s tmps RR [] n w')→Leaves P s tmps RR j u w
 | [],mode,mode',hp,hp',c,c',h,hc=>by
  cases h;refine ⟨hc,fun h0 s tmps env RR m0 S0 w0 m S w j u F l z x hm I=> ?_⟩;cases j with
  |nil=>exact I m S w u F l z hm
  |cons _ _=>simp [dS] at x
 | (f, args)::r,mode,mode',hp,hp',c,c',h,hc=>by
  simp only [AY] at h;split at h
  ·cases h
  ·rename_i hrefs;simp only [δ] at hrefs;have D:mode ≠ .dead:=by rintro rfl;cases hrefs.1
   obtain ⟨q,c1,W,h⟩:=R.bind_ok h;split at h
   ·rename_i v y;obtain ⟨L,ih⟩:=lZ C V r q.md mode' (q.ups++hp) hp' c1 c' h hc;obtain ⟨args0,hh0,T,U,X,Q,hg⟩:=u_ W;obtain ⟨E,O⟩:=V _ _ _ _ _ _ _ _ _ D X L;refine ⟨E,fun h0 s tmps env RR m0 S0 w0 m S w j u F l z x hm I=> ?_⟩;cases j with
    |nil=>simp [dS] at x
    | cons d j=>
     simp only [dS] at x;obtain ⟨⟨k,N,h2⟩,h3⟩:=x;have hfresh:∀ i,i<4→ah hp (eu hp+i)=none:=by
      intro i _;cases hb:ah hp (eu hp+i) with
      |none=>rfl
      |some B=>have:=kM hb;omega
     have hcall:=hg (ah hp) m S w (d.args++k).toList (fun cargs R=>CallsD P f cargs.toArray u w fun e n w'=>R e w'∧Je mode q.md u n)
      (fun cargs R R' o a=>CallsD.mono o fun e n w' g=> ⟨a e w' g.1,g.2⟩) F (fun b _ B Y=>Y) hfresh h2
      (fun Z S1 G o a=>O.calls Z S1 w _ u o a (by
       cases mode<;>simp only [ni] at hm ⊢
       ·obtain ⟨cv,A,g⟩:=hm;exact ⟨cv,A,bI G _ g⟩
       ·exact hm))
     obtain ⟨p,J⟩:=IU hm;refine ⟨J,.func f,k,f,d.args++k,N, ?_, ?_⟩
     ·rw [N];exact O.ent _ w
     ·rw [Array.toArray_toList] at hcall;refine CallsD.mono hcall ?_
      rintro e n w' ⟨⟨m',S',o,a,g⟩,h7⟩
      rw [y] at g;obtain ⟨cv,rfl,g⟩:=g;rw [jd] at o a g;refine ih h0 s tmps env RR m0 S0 w0 m' S' w' j (settle n) o (l.trans a) (fun t=>jO a.sle a.ge _ (z t)) (qY a.sle a.ge h3) ?_ I;rcases h7 with ⟨K,rfl⟩|⟨K,h9⟩
      ·rw [p,K];cases mode<;>simp only [ni] at hm ⊢
       ·obtain ⟨cv,A,M⟩:=hm;exact ⟨cv,A,bI a.sle _ M⟩
       ·exact hm
      ·rw [K,h9];rfl
   ·cases h
theorem dC {n f:Nat} (h:n≤f):∀ (c:Code),cO n c=true→cO f c=true
 | .region _ ops _,hd=>by
  simp only [cO,List.all_eq_true] at hd ⊢;intro o g;have:=hd o g;unfold tu at this ⊢;split
  ·rename_i d e;rw [e] at this;exact Nat.ble_eq_true_of_le (Nat.le_trans (dU this) h)
  ·rfl
 | .seq a b,hd=>by simp only [cO,δ] at hd ⊢;exact ⟨dC h a hd.1,dC h b hd.2⟩
 | .cond _ a b,hd=>by simp only [cO,δ] at hd ⊢;exact ⟨dC h a hd.1,dC h b hd.2⟩
 | .block _ b,hd=>by simp only [cO] at hd ⊢;exact dC h b hd
 | .loop b,hd=>by simp only [cO] at hd ⊢;exact dC h b hd
 | .scope b,hd=>by simp only [cO] at hd ⊢;exact dC h b hd
 | .skip,_=>rfl
 | .label _,_=>rfl
 | .exit _,_=>rfl
 | .ret,_=>rfl
 | .rangeFunc _ _ _ _,_=>rfl
 | .goto _,_=>rfl
 | .refuse _,_=>rfl
theorem w_ {α:Type}:∀ (l:List α) (j t:Nat),ah ((l.zipIdx j).map fun (x,i)=>(i,x)) t=if j≤t then l[t - j]? else none
 | [],j,t=>by simp [ah]
 | a::r,j,t=>by
  rw [List.zipIdx_cons,φ];simp only [ah];cases h:υ j t with
  |true=>have:=aA h;subst this;simp
  | false=>
   have c:j ≠ t:=by intro e;subst e;simp at h
   simp only [w_ r (j+1) t];by_cases hj:j+1≤t
   ·rw [if_pos hj,if_pos (by omega)];obtain ⟨d,b⟩:∃ d,t - j=d+1:=⟨t - j - 1,by omega⟩
    rw [b,List.getElem?_cons_succ,show t - (j+1)=d by omega]
   ·rw [if_neg hj,if_neg (by omega)]
theorem yY {h:List aP} {args:List AV} {cargs:List Value} {m:aH} {S:az} {w:World} {md:AV} (g:bf ap (aF h) m S w) (j:aU (aF h) m S args cargs) (n:Nat):
  ah (eQ md args h).hp=aF h∧FR ap (eQ md args h).env (eQ md args h).hp [] (cargs.toArray++Array.replicate (n - cargs.toArray.size) undef).size m S w {tmps:=cargs.toArray++Array.replicate (n - cargs.toArray.size) undef,defers:= []}:=by
 have c:ah (eQ md args h).hp=aF h:=by
  funext b;have:=w_ h 0 b;simp only [eQ,aF];rw [this,if_pos (Xqr _),Xwm]
 refine ⟨c,⟨c ▸ g, ?_,by simp [dS],rfl⟩⟩;intro t;rw [c];have e:(eQ md args h).env.get t=(args[t]?).getD .dead:=by
  have:=w_ args 0 t;simp only [eQ,dK.get];rw [this,if_pos (Xqr _),Xwm]
 rw [e];cases f:args[t]? with
 |none=>simp [VR]
 | some x=>
  obtain ⟨v,d,i⟩:=oq j t f;have a:=(List.getElem?_eq_some_iff.1 d).1;have:(cargs.toArray++Array.replicate (n - cargs.toArray.size) undef).getD t undef=v:=by
   rw [Array.getD_eq_getD_getElem?,Array.getElem?_append_left (by simpa using a)];simp [d]
  rw [this];exact i
theorem vH (j:dJ P ap) (M:n_ P ap H) {h0 z:List aP} {y:Func} {e:aY} {s:St} {c c':Cx} {out:gK} {A:AV} (h:yX ap H h0.length y e s c= .ok (out,z,A) c') (E:c'.Ok):
  c.Ok∧h0.length≤z.length∧∀ m0 S0 w0 m S w a nt,Fr (aF h0) m0 S0 w0 (ah s.hp) m S w→FR ap s.env s.hp s.dfs nt m S w a→xG s.hp m S (bodyPostD P y fun e w'=> ∃ x S',yG ap h0 m0 S0 w0 out z x S' w' e) a w e:=by
 have p:∀ mode,((AY ap H s.dfs mode s.hp c).bind fun (mode,hp) c=>
   match mode with
   | .nilI=>(rZ ap h0.length y s.env hp c).bind fun (o,h) c=> .ok (o,h,s.md) c
   | .ifc t v=>(FY h0.length (.ifc t v) hp c).bind fun (o,h) c=> .ok (o,h,s.md) c
   |_=> .bad 74)= .ok (out,z,A) c'→c.Ok∧h0.length≤z.length∧∀ m0 S0 w0 m S w a nt u,Fr (aF h0) m0 S0 w0 (ah s.hp) m S w→FR ap s.env s.hp s.dfs nt m S w a→ni S mode u→Leaves P y a.tmps (fun e w'=> ∃ x S',yG ap h0 m0 S0 w0 out z x S' w' e) a.defers u w:=by
  intro mode g;obtain ⟨⟨mode',hp'⟩,Q,K,g⟩:=R.bind_ok g;dsimp only at g;split at g
  ·obtain ⟨⟨o,q⟩,U,D,g⟩:=R.bind_ok g;cases g;obtain ⟨I,i,B⟩:=jP (P:=P) (m:=fun _=>(0,0)) (m0:=fun _=>(0,0)) (S:=fun _ _=>none) (S0:=fun _ _=>none) (w:=default) (w0:=default) (tmps:=#[]) j D E;obtain ⟨r,F⟩:=lZ j M s.dfs mode _ s.hp hp' c Q K I;refine ⟨r,i,fun m0 S0 w0 m S w a nt u d f hm=> ?_⟩;refine F h0 y a.tmps s.env _ m0 S0 w0 m S w a.defers u f.srel d f.env f.dfs hm ?_;intro x S' w' T k l L C;simp only [ni] at C;subst C;obtain ⟨_,_,B⟩:=jP (P:=P) (m:=x) (m0:=m0) (S:=S') (S0:=S0) (w:=w') (w0:=w0) (tmps:=a.tmps) j D E;obtain ⟨cv,J,O⟩:=B k l L;exact ⟨cv,J,O⟩
  ·rename_i t v;obtain ⟨⟨o,q⟩,U,D,g⟩:=R.bind_ok g;cases g;obtain ⟨rfl,i,_⟩:=vY (ap:=ap) (m:=fun _=>(0,0)) (m0:=fun _=>(0,0)) (S:=fun _ _=>none) (S0:=fun _ _=>none) (w:=default) (w0:=default) D;obtain ⟨r,F⟩:=lZ j M s.dfs mode _ s.hp hp' c _ K E;refine ⟨r,i,fun m0 S0 w0 m S w a nt u d f hm=> ?_⟩;refine F h0 y a.tmps s.env _ m0 S0 w0 m S w a.defers u f.srel d f.env f.dfs hm ?_;intro x S' w' T k l L C;simp only [ni] at C;obtain ⟨cv,rfl,J⟩:=C;obtain ⟨_,_,G⟩:=vY (ap:=ap) (m:=x) (m0:=m0) (S:=S') (S0:=S0) (w:=w') (w0:=w0) D;exact G k l cv (dQ _ J) (fun b ver n h=>by cases h)
  ·cases g
 unfold yX at h;dsimp only at h;split at h
 ·obtain ⟨q,k,l⟩:=p .nilI h;exact ⟨q,k,fun m0 S0 w0 m S w a nt d f=>l m0 S0 w0 m S w a nt .returning d f rfl⟩
 ·obtain ⟨q,k,l⟩:=p .nilI h;exact ⟨q,k,fun m0 S0 w0 m S w a nt d f=>l m0 S0 w0 m S w a nt .returning d f rfl⟩
 ·rename_i t v;split at h
  ·rename_i V;obtain ⟨q,k,l⟩:=p (.ifc t v) h;refine ⟨q,k,fun m0 S0 w0 m S w a nt d f cv N=>l m0 S0 w0 m S w a nt _ d f ⟨cv,rfl, ?_⟩⟩;exact kG (by simpa [bZ] using V) N
  ·cases h
 ·cases h
theorem qx (j:dJ P ap) (g:P.follows .mixedOrders=true) (i:C_ P ap) (y:gz P ap H) (J:n_ P ap H) (lf:Nat):gz P ap fun c md f args h=>kR ap H lf md f args h c:=by
 intro c f args h out D o c' b A;have b:kR ap H lf .dead f args h c= .ok (out,D,o) c':=b;unfold kR at b;split at b
 ·cases b
 ·rename_i F r;dsimp only at b;obtain ⟨⟨e,s⟩,K,p,b⟩:=R.bind_ok b;dsimp only at b;obtain ⟨a,x,d⟩:=i.body f F r;have hbody:ag F.fn=a:=by simp [ag,x]
  rw [hbody] at p;obtain ⟨l,k,n⟩:=vH j J b A;obtain ⟨q,_⟩:=dF (nt:=F.fn.ntmps) j g y a d _ _ _ _ _ p l;refine ⟨q,k,rq i r,fun m S w cargs G C=> ?_⟩;obtain ⟨B,v⟩:=yY (md:= .dead) G C F.fn.ntmps;have t:F.fn.ntmps≤(cargs.toArray++Array.replicate (F.fn.ntmps - cargs.toArray.size) undef).size:=by simp;omega
  obtain ⟨_,u⟩:=dF j g y a (dC t a d) _ _ _ _ _ p l;obtain ⟨_,u⟩:=u rfl;refine calls_of_wp_defers (i.fn f F r) x ?_;refine u m S w m S w _ (by rw [B];exact Fr.refl _ _ _ _) v _ ?_;intro E S' w' a' z I;exact n m S w E S' w' a' _ z I
end
end AM
namespace AM
open Go
section
variable {P:Program} {ap:AP} {H:bG}
theorem O0 {o:Oper} {a:Act} {K K':Act→World→Prop} {Q Q':Exit→Act→World→Prop} {r:Result Next} (c:∀ a w,K a w→K' a w) (d:∀ e a w,Q e a w→Q' e a w) (f:¬ LetsOut Q) (h:o.upon P a K Q r):o.upon P a K' Q' r:=by
 cases r with
 | ok n w'=>
  cases n<;>simp only [Oper.upon] at h ⊢ <;>
   first
    |exact c _ _ h
    |exact Calls.mono h (fun e g b=>by cases e<;>first|exact c _ _ b|exact d _ _ _ b|exact absurd b f)
    |exact Rows.mono h (fun _ _ b=>c _ _ b)
 |halt x w'=>cases x<;>simp only [Oper.upon] at h ⊢ <;>exact d _ _ _ h
theorem iJ {ops:Array Oper} {Q:Exit→Act→List Frame→World→Prop} {cs:List Frame} {Q':Exit→Act→World→Prop} (b:∀ e a w,Q' e a w→Q e a cs w) (c:¬ LetsOut Q'):∀ (l:List Nat) (a:Act) (w:World),wpOps P ops Q' l a w→wpOpsS P ops Q l a cs w
 | [],a,w,h=>b _ _ _ h
 | i ::rest,a,w,h=>by
  simp only [wpOps] at h;simp only [wpOpsS];cases f:ops[i]? with
  |none=>
   simp only [f] at h ⊢;exact iJ b c rest a w h
  | some o=>
   simp only [f] at h ⊢;by_cases hw:Region.wanted o (yielded ops a.tmps)=true
   ·rw [if_pos hw] at h ⊢;rcases h with h|⟨_,h⟩
    ·unfold Oper.wp at h;split
     ·rename_i w' g;rw [g] at h;exact h.elim
     ·exact O0 (fun a w d=>iJ b c rest a w d) (fun e a w d=>b e a w d) c h
    ·exact absurd h c
   ·rw [if_neg hw] at h ⊢;exact iJ b c rest _ w h
theorem ab3 {Q:Exit→Act→World→Prop}:¬ LetsOut (fun e a w=>e ≠ .outgrown∧Q e a w):=fun ⟨_,_,h,_⟩=>h rfl
theorem IC {a:Act} {o:Oper} {args:Array Operand} {argTypes:Array TypeId} (h:o.op= .call {callee:= .builtin .recover,args,argTypes}) (w:World):(execOp a.eval o).run P w= .ok .recover w:=by
 unfold execOp;rw [h];rfl
theorem FR.env_cons {env:dK} {hp:Hp} {dfs:List (Nat × List AV)} {nt:Nat} {m:aH} {S:az} {w:World} {a:Act} (h:FR ap env hp dfs nt m S w a) {d:Nat} (b:d<nt) {v:AV} {cv:Value} (c:VR (ah hp) m S v cv):FR ap ((d,v)::env) hp dfs nt m S w (a.put (some d) cv):=by
 refine ⟨h.srel,fun t=> ?_,by rw [lq];exact h.dfs,by rw [aC];exact h.size⟩;by_cases ht:d=t
 ·subst ht;rw [bY _ _ _ (by rw [h.size];exact b)];have:dK.get ((d,v)::env) d=v:=gU (env:=env);rw [this];exact c
 ·rw [jI _ _ _ (fun e=>ht (by cases e;rfl))];have:dK.get ((d,v)::env) t=env.get t:=vI (env:=env) (dst:=some d) (fun e=>ht (by cases e;rfl));rw [this];exact h.env t
theorem uZ (l:dJ P ap) (D:P.follows .mixedOrders=true) (I:C_ P ap) (hH:gz P ap H) (lf:Nat):n_ P ap fun c md f args h=>kR ap H lf md f args h c:=by
 intro c md f args h out h' O c' hmd g hc;have g:kR ap H lf md f args h c= .ok (out,h',O) c':=g;unfold kR at g;split at g
 ·cases g
 ·rename_i F hF;split at g
  ·exact absurd rfl hmd
  ·split at g
   ·rename_i hrefs;simp only [δ] at hrefs;obtain ⟨N,K,k⟩:=I.body f F hF;have hbody:ag F.fn=N:=by simp [ag,K]
    unfold Pz at g;rw [hbody] at g;split at g
    ·rename_i id ops rest;split at g
     ·rename_i o r j;split at g
      ·rename_i args' argTypes d hop hg hd;dsimp only at g;obtain ⟨⟨s1,p⟩,c1,e1,g⟩:=R.bind_ok g;dsimp only at g;split at g
       ·cases g
       ·obtain ⟨⟨e,C⟩,c2,e2,g⟩:=R.bind_ok g;dsimp only at g;split at g
        ·cases g
        ·rename_i U;have q:∃ L,(e= .normal∨e= .ret)∧rZ ap h.length F.fn C.env C.hp c2= .ok (out,h') L∧O= .nilI∧L=c':=by
          split at g
          ·obtain ⟨⟨o1,h1⟩,L,J,g⟩:=R.bind_ok g;cases g;exact ⟨_,.inl rfl,J,rfl,rfl⟩
          ·obtain ⟨⟨o1,h1⟩,L,J,g⟩:=R.bind_ok g;cases g;exact ⟨_,.inr rfl,J,rfl,rfl⟩
          ·cases g
         obtain ⟨L,q,J,rfl,rfl⟩:=q;obtain ⟨V,hlen,_⟩:=jP (P:=P) (m:=fun _=>(0,0)) (m0:=fun _=>(0,0)) (S:=fun _ _=>none) (S0:=fun _ _=>none) (w:=default) (w0:=default) (tmps:=#[]) l J hc;simp only [cO,δ] at k;obtain ⟨X,_⟩:=dF (nt:=F.fn.ntmps) l D hH rest k.2 _ _ _ _ _ e2 V;have A:∀ nt,F.fn.ntmps≤nt→∀ o' ∈ o::r,∀ d,o'.dst=some d→d<nt:=by
          intro nt z o' ho' d' hd';have:=List.all_eq_true.1 k.1 o' (by rw [j];exact ho');simp only [tu,hd'] at this;exact Xqf (dV this) z
         obtain ⟨hc0,_⟩:=jK (nt:=F.fn.ntmps) l hH (ops:=o::r) (A _ (ζ _)) r 1 _ _ _ _ _ _ e1 X;refine ⟨hc0,rq I hF,fun m S w cargs u hS hv hm=> ?_⟩;obtain ⟨hh,hFR⟩:=yY (md:= .dead) hS hv F.fn.ntmps;have z:F.fn.ntmps≤(cargs.toArray++Array.replicate (F.fn.ntmps - cargs.toArray.size) undef).size:=by simp;omega
         obtain ⟨_,hx⟩:=dF l D hH rest (dC z rest k.2) _ _ _ _ _ e2 V;obtain ⟨_,hs⟩:=jK l hH (ops:=o::r) (A _ z) r 1 _ _ _ _ _ _ e1 X;obtain ⟨hmd1,hs⟩:=hs rfl (fun t b K=>by cases K) rfl (fun b B K=>kM K);obtain ⟨_,hx⟩:=hx hmd1;have Z:=A _ z o (by simp) d hd;refine callsD_of_wpS (I.fn f F hF) K fun c₀ cs hc₀=> ?_
         have i:∃ cv n,ni S md u∧VR (ah (eQ .dead args h).hp) m S md cv∧settle n= .returning∧((recoverD (c₀::cs)=some (cv,{c₀ with mode:=n}::cs))∨(recoverD (c₀::cs)=none∧cv= .nilIface∧{c₀ with mode:=n}=c₀)):=by
          cases md<;>simp only [ni] at hm
          ·obtain ⟨cv,rfl,hp⟩:=hm;exact ⟨cv,.panicking [{v:=cv,recovered:=true}],⟨cv,rfl,hp⟩,dQ _ hp,rfl,.inl (by simp [recoverD,hc₀])⟩
          ·subst hm;exact ⟨.nilIface,.returning,rfl,by simp only [VR,PR],rfl,.inr ⟨by simp [recoverD,hc₀],rfl,by rw [← hc₀]⟩⟩
         obtain ⟨cv,n,_,T,G,i⟩:=i;have hcont:∀ (Q:Exit→Act→List Frame→World→Prop),(∀ e a w',(∃ m' S',Fr (aF h) m S w (ah C.hp) m' S' w'∧FR ap C.env C.hp C.dfs (cargs.toArray++Array.replicate (F.fn.ntmps - cargs.toArray.size) undef).size m' S' w' a)→(e= .normal∨e= .ret)→Q e a ({c₀ with mode:=n}::cs) w')→
           wpOpsS P ops (Exit.thenS (rest.wpS P Q) Q) (Xji 1 r.length) (({tmps:=cargs.toArray++Array.replicate (F.fn.ntmps - cargs.toArray.size) undef,defers:= []}:Act).put (some d) cv) ({c₀ with mode:=n}::cs) w:=by
          intro Q hQ;have hopsA:ops=(o::r).toArray:=by rw [← j]
          rw [hopsA];refine iJ (Q':=fun e a w'=>e ≠ .outgrown∧e= .normal∧rest.wpS P Q a ({c₀ with mode:=n}::cs) w') ?_ ab3 _ _ _ ?_
          ·rintro e a w' ⟨_,rfl,hh⟩
           exact hh
          ·refine hs m S w _ (hFR.env_cons Z T) _ ?_;intro m1 S1 w1 a1 h3 M;refine ⟨by simp,rfl,wpS_of_wp ?_⟩;rw [hh] at h3;obtain ⟨m2,h5,h6⟩:=iP (keep:=F.keep) (s:=⟨s1.env,s1.hp,s1.md,s1.dfs⟩) h3 M;refine hx m S w m2 S1 w1 a1 h5 h6 _ ?_;intro m3 S3 w3 a3 h7 h8;rcases q with rfl|rfl
           ·exact hQ .normal a3 w3 ⟨m3,S3,h7,h8⟩ (.inl rfl)
           ·exact hQ .ret a3 w3 ⟨m3,S3,h7,h8⟩ (.inr rfl)
         have E:∀ e a w',(∃ m' S',Fr (aF h) m S w (ah C.hp) m' S' w'∧FR ap C.env C.hp C.dfs (cargs.toArray++Array.replicate (F.fn.ntmps - cargs.toArray.size) undef).size m' S' w' a)→(e= .normal∨e= .ret)→
           bodyPostS P F.fn c₀ cs (fun e n w'=>(∃ m' S',yG ap h m S w out h' m' S' w' e)∧Je md .nilI u n) e a ({c₀ with mode:=n}::cs) w':=by
          rintro e a w' ⟨m',S',h3,M⟩ hee
          obtain ⟨_,_,hro⟩:=jP (P:=P) (m:=m') (m0:=m) (S:=S') (S0:=S) (w:=w') (w0:=w) (tmps:=a.tmps) l J hc;obtain ⟨Y,h5,h6⟩:=hro M.srel h3 M.env;have W:a.defers= []:=by
           have:=M.dfs;rw [U] at this;cases hd:a.defers with
           |nil=>rfl
           |cons x y=>rw [hd] at this;simp [dS] at this
          rcases hee with rfl|rfl
          ·exact ⟨W,n,rfl,Y,h5,h6,.inr ⟨rfl,G⟩⟩
          ·exact ⟨W,n,rfl,Y,h5,h6,.inr ⟨rfl,G⟩⟩
         refine wpS_seq (wpS_region ?_);have hrange:Xqd ops.size=0::Xji 1 r.length:=by
          have:ops.size=r.length+1:=by rw [← Array.length_toList,j];simp
          rw [this,List.range_eq_range',List.range'_succ]
         rw [hrange];have ho0:ops[0]? =some o:=by
          have:ops.toList[0]? =some o:=by rw [j];rfl
          simpa using this
         simp only [wpOpsS,ho0,Region.wanted,hg,if_true,IC hop];rw [hd];rcases i with i|⟨i,rfl,hsame⟩
         ·rw [i];exact hcont _ E
         ·rw [i];have:=hcont _ E;rw [hsame] at this;exact this
      ·cases g
     ·cases g
    ·cases g
   ·cases g
end
end AM
namespace AM
open Go
def F_ (P:Program) (ap:AP) (lf:Nat) (fs:List Nat):Nat→bG
 |0=>fun _ _ _ _ _=> .bad 90
 | n+1=>fun c md f args h=>
  match kJ fs f with
  |false=>kR ap (F_ P ap lf fs n) lf md f args h c
  |true=>match md,c.ans with
   | .dead,(out,h')::r=> .ok (out,h',.dead) {c with ans:=r,ps:=af P ap f args h out h'::c.ps}
   |_,_=> .bad 91
theorem BX {P:Program} {ap:AP} (g:dJ P ap) (b:P.follows .mixedOrders=true) (e:C_ P ap) (lf:Nat) (k:List Nat):∀ n,gz P ap (F_ P ap lf k n)∧n_ P ap (F_ P ap lf k n)
 |0=> ⟨fun _ _ _ _ _ _ _ _ h=>(by cases h),fun _ _ _ _ _ _ _ _ _ _ h=>(by cases h)⟩
 | n +1=>by
  obtain ⟨m,o⟩:=BX g b e lf k n;constructor
  ·intro c f args h out l d c' a i;simp only [F_] at a;split at a
   ·exact qx g b e m o lf c f args h out l d c' a i
   ·split at a
    ·cases a;exact ⟨⟨i.bs,fun p hp=>i.ps p (by simp [hp])⟩,i.ps _ (by simp)⟩
    ·cases a
  ·intro c md f args h out l d c' j a i;simp only [F_] at a;split at a
   ·exact uZ g b e m lf c md f args h out l d c' j a i
   ·split at a
    ·exact absurd rfl j
    ·cases a
theorem J9 {P:Program} {ap:AP} (d:dJ P ap) (a:P.follows .mixedOrders=true) (b:C_ P ap) {lf:Nat} {g:List Nat} {n:Nat} {c c':Cx} {f:Nat} {args:List AV} {h e:List aP} {out:gK} {md:AV}
  (he:kR ap (F_ P ap lf g n) lf .dead f args h c= .ok (out,e,md) c') (hc:c'.Ok):af P ap f args h out e:=by
 obtain ⟨i,j⟩:=BX d a b lf g n;exact (qx d a b i j lf c f args h out e md c' he hc).2
def Ah:Option AF→Bool
 |some F=>(match F.fn.body with|some c=>cO F.fn.ntmps c|none=>false) && !(F.fn.name== "runtime.NumGoroutine")
 |none=>true
theorem T_ {P:Program} {ap:AP} (h:(Xqd ap.nty).map ap.ty.get=(Xqd ap.nty).map (Tj P)) (hm:ap.mt.all (mtB P)=true:=by rfl):dJ P ap:=by
 refine ⟨?_,hm⟩;intro t e a;unfold AP.tyAt at a;split at a
 ·rename_i b;have d:=dV b;have c:((Xqd ap.nty).map ap.ty.get)[t]? =some (some e):=by rw [Ξ,Xxy d];simp [a]
  rw [h,Ξ,Xxy d] at c;simpa using c
 ·cases a
theorem Ux {P:Program} {ap:AP} {keep:Nat→Bool} (h:(Xqd ap.nfn).map (fun i=>(ap.fn.get i).map AF.fn)=(Xqd ap.nfn).map fun i=>match keep i with|true=>P.funcs[i]? |false=>none) (l:(Xqd ap.nfn).all (fun i=>Ah (ap.fn.get i))=true):C_ P ap:=by
 have b:∀ (f:Nat) (F:AF),ap.fnAt f=some F→f<ap.nfn∧ap.fn.get f=some F:=by
  intro f F a;unfold AP.fnAt at a;split at a
  ·rename_i g;exact ⟨dV g,a⟩
  ·cases a
 have hgood:∀ (f:Nat) (F:AF),ap.fnAt f=some F→Ah (some F)=true:=by
  intro f F a;obtain ⟨e,j⟩:=b f F a;have:=List.all_eq_true.1 l f (by simpa using e);rwa [j] at this
 constructor
 ·intro f F a;obtain ⟨e,j⟩:=b f F a;have d:((Xqd ap.nfn).map fun i=>(ap.fn.get i).map AF.fn)[f]? =some (some F.fn):=by rw [Ξ,Xxy e];simp [j]
  rw [h,Ξ,Xxy e] at d;simp only [Xqu,Option.some.injEq] at d;split at d
  ·exact d
  ·cases d
 ·intro f F a;have:=hgood f F a;simp only [Ah,δ] at this;cases k:F.fn.body with
  |none=>rw [k] at this;cases this.1
  |some c=>rw [k] at this;exact ⟨c,rfl,this.1⟩
 ·intro f F a;have:=hgood f F a;simp only [Ah,δ,Xqi] at this;exact this.2
end AM
namespace AM
open Go
section
variable {P:Program} {ap:AP}
def Zu (L:List Nat) (b v:Nat):Nat:=match kJ L b with|true=>1|false=>v
def Vh (L:List Nat) (hp:Hp):Nat→Nat→Option (Nat × Nat):=fun b v=>match ah hp b with
 |some B=>match υ B.ver v with|true=>some (b,Zu L b v)|false=>none
 |none=>none
def OO (L:List Nat) (hp:Hp) (b:Nat) (B:aP):aP:={B with cells:=(match B.pr with|true=>B.cells|false=>jV (Vh L hp) B.cells),ver:=Zu L b B.ver}
def TP (L:List Nat) (s:St):St:=
 ⟨s.env.map fun q=>(q.1,ren (Vh L s.hp) q.2),s.hp.map fun q=>(q.1,OO L s.hp q.1 q.2),s.md,s.dfs.map fun d=>(d.1,jV (Vh L s.hp) d.2)⟩
theorem wX {α β:Type} (f:Nat→α→β):∀ (l:List (Nat × α)) (t:Nat),ah (l.map fun q=>(q.1,f q.1 q.2)) t=(ah l t).map (f t)
 | [],t=>rfl
 |(a,x)::l,t=>by
  simp only [φ,ah];cases h:υ a t with
  |true=>have:=aA h;subst this;rfl
  |false=>exact wX f l t
theorem Ry {h0:List aP} {L:List Nat} {s:St} {nt:Nat} {m m0:aH} {S S0:az} {w w0:World} {a:Act} (E:∀ b ∈ L,∀ B0,aF h0 b=some B0→B0.ver=0) (c:Fr (aF h0) m0 S0 w0 (ah s.hp) m S w) (j:FR ap s.env s.hp s.dfs nt m S w a):
  Fr (aF h0) m0 S0 w0 (ah (TP L s).hp) m S w∧FR ap (TP L s).env (TP L s).hp (TP L s).dfs nt m S w a:=by
 have r:∀ b,ah (TP L s).hp b=(ah s.hp b).map (OO L s.hp b):=fun b=>wX (OO L s.hp) s.hp b
 have f:∀ b C,ah (TP L s).hp b=some C→∃ B,ah s.hp b=some B∧C=OO L s.hp b B:=fun b C h=>by
  rw [r] at h;cases n:ah s.hp b with
  |none=>rw [n] at h;cases h
  |some B=>rw [n] at h;cases h;exact ⟨B,rfl,rfl⟩
 have i:nD (ah s.hp) m (ah (TP L s).hp) m (Vh L s.hp):=by
  intro b ver p z h B n D;simp only [Vh,n] at h;split at h
  ·rename_i l;have l:=aA l;cases h;refine ⟨OO L s.hp b B,by rw [r,n];rfl, ?_,fun _=> ⟨l,rfl,rfl⟩⟩;show Zu L b ver≤Zu L b B.ver;rw [l];exact ζ _
  ·cases h
 refine ⟨⟨fun b B0 A=> ?_,c.sle,c.os,c.tape,c.output,c.size,c.rest,fun b C k=> ?_,c.sealN,fun b C k=> ?_⟩,⟨⟨fun b y C C' h G e=> ?_,fun b C k=> ?_,j.srel.sealed,fun b C k o v F=> ?_,j.srel.glob⟩,fun t=> ?_, ?_,j.size⟩⟩
 ·obtain ⟨B,g,u,I⟩:=c.ge b B0 A;refine ⟨OO L s.hp b B,by rw [r,g];rfl,u, ?_⟩;show (Zu L b B.ver=B0.ver∧m b=m0 b)∨B0.ver<Zu L b B.ver;unfold Zu;cases hm:kJ L b with
  |false=>exact I
  |true=>
   have:=E b (fO.1 hm) B0 A;exact .inr (by show B0.ver<1;omega)
 ·obtain ⟨B,g,rfl⟩:=f b C k;exact c.img b B g
 ·obtain ⟨B,g,rfl⟩:=f b C k;exact c.mw b B g
 ·obtain ⟨B,g,rfl⟩:=f b C h;obtain ⟨B',u,rfl⟩:=f y C' G;exact j.srel.inj b y B B' g u e
 ·obtain ⟨B,g,rfl⟩:=f b C k;obtain ⟨⟨cur,e,vs,rest,k1,k2,k3,k4,k5,k6⟩,k7,k8⟩:=j.srel.blk b B g;cases d:B.pr with
  |true=>exact ⟨⟨cur,e,vs,rest,k1,k2,fun _=>by simpa [OO,d] using k3 d,by simpa [OO,d] using aZ _ (k3 d),k5,k6⟩,k7,by simpa [OO,d] using k8⟩
  | false=>
   have l:=iI (ig.refl S) i _ k4;exact ⟨⟨cur,e,vs,rest,k1,k2,fun h=>by simp [OO,d] at h,by simpa [OO,d] using l,k5,k6⟩,k7,by
    have:(OO L s.hp b B).cells.length=B.cells.length:=by simp only [OO,d];rw [aW k4,aW l]
    rw [this];exact k8⟩
 ·obtain ⟨B,g,rfl⟩:=f b C k;exact j.srel.own b B g o v F
 ·have e:(TP L s).env.get t=ren (Vh L s.hp) (s.env.get t):=by
   show (ah (s.env.map fun q=>(q.1,ren (Vh L s.hp) q.2)) t).getD .dead=ren (Vh L s.hp) ((ah s.env t).getD .dead);rw [wX (fun _ x=>ren (Vh L s.hp) x)];cases ah s.env t<;>rfl
  rw [e];exact ui (ig.refl S) i _ (j.env t)
 ·exact zu (ig.refl S) i j.dfs
def TE (h0:List aP) (L:List Nat):Bool:=L.all fun b=>match aF h0 b with|some B0=>υ B0.ver 0|none=>true
theorem TF {h0:List aP} {L:List Nat} (h:TE h0 L=true):∀ b ∈ L,∀ B0,aF h0 b=some B0→B0.ver=0:=fun b a B0 c=>by
 have:=List.all_eq_true.1 h b a;rw [c] at this;exact Nat.eq_of_beq_eq_true this
def afm (h0:List aP) (L K:List Nat) (s:St):St:=AM.norm h0.length K (match L with| []=>s|_=>TP L s)
theorem ak.tid {h0:List aP} {nt:Nat} {c:Code} {e:aY} {s f:St} {L K:List Nat} (q:TE h0 L=true) (h:ak P ap h0 nt c (afm h0 L K s) e f):ak P ap h0 nt c s e f:=by
 intro hs;have key:∀ d:St,d.md=s.md→(∀ m0 S0 w0 m S w a,Fr (aF h0) m0 S0 w0 (ah s.hp) m S w→FR ap s.env s.hp s.dfs nt m S w a→Fr (aF h0) m0 S0 w0 (ah d.hp) m S w∧FR ap d.env d.hp d.dfs nt m S w a)→ak P ap h0 nt c (AM.norm h0.length K d) e f→f.md= .dead∧∀ m0 S0 w0 m S w a,Fr (aF h0) m0 S0 w0 (ah s.hp) m S w→FR ap s.env s.hp s.dfs nt m S w a→∀ Q,XA ap h0 m0 S0 w0 nt f e Q→c.wp P Q a w:=by
  intro d hm v h;obtain ⟨r,u⟩:=h (by show d.md=_;rw [hm,hs]);refine ⟨r,fun m0 S0 w0 m S w a j t Q k=> ?_⟩;obtain ⟨x,p⟩:=v m0 S0 w0 m S w a j t;obtain ⟨o,l,n⟩:=iP (keep:=K) x p;exact u m0 S0 w0 o S w a l n Q k
 cases L with
 |nil=>exact key s rfl (fun _ _ _ _ _ _ _ g i=> ⟨g,i⟩) h
 |cons b L=>exact key (TP (b::L) s) rfl (fun _ _ _ _ _ _ _ g i=>Ry (TF q) g i) h
end
end AM
namespace AM
open Go
def bg (P:Program) (ap:AP) (h0:List aP) (n:Nat) (code:Code) (s:St) (e:aY) (s':St):Prop:=∀ nt,n≤nt→ak P ap h0 nt code s e s'
abbrev qj:=List (aY × St × Option (List Nat × List Nat))
def Vw (P:Program) (ap:AP) (h0:List aP) (nt:Nat) (code:Code) (s:St):qj→Cx→R ((aY × St) × qj)
 |(e,s',none)::r,c=> .ok ((e,s'),r) {c with ps:=bg P ap h0 nt code s e s'::c.ps}
 |(e,s',some (L,K))::r,c=>match TE h0 L with
  |true=> .ok ((e,s'),r) {c with ps:=bg P ap h0 nt code (afm h0 L K s) e s'::c.ps}
  |false=> .bad 64
 | [],_=> .bad 62
def jR (P:Program) (ap:AP) (H:bG) (h0:List aP) (keep:List Nat) (lf nt:Nat) (ls:List Nat):Code→St→qj→Cx→R ((aY × St) × qj)
 | .seq a b,s,l,c=>(jR P ap H h0 keep lf nt ls a s l c).bind fun r c=>match r.1.1 with
  | .normal=>jR P ap H h0 keep lf nt ls b r.1.2 r.2 c
  |e=> .ok ((e,r.1.2),r.2) c
 | .cond t a b,s,l,c=>match pW ap s.env t with
  | .bool x=>(wJ c x).bind fun x c=>match x with
   |true=>jR P ap H h0 keep lf nt ls a s l c
   |false=>jR P ap H h0 keep lf nt ls b s l c
  |_=> .bad 60
 | .block id b,s,l,c=>match kJ ls id with
  |true=>Vw P ap h0 nt (.block id b) s l c
  |false=>(jR P ap H h0 keep lf nt ls b s l c).bind fun r c=>match r.1.1 with
   | .exit id'=>match υ id' id with|true=> .ok ((.normal,r.1.2),r.2) c|false=> .ok ((.exit id',r.1.2),r.2) c
   |e=> .ok ((e,r.1.2),r.2) c
 | .scope b,s,l,c=>jR P ap H h0 keep lf nt ls b s l c
 | .region id ops draw,s,l,c=>match kJ ls (id+1000) with
  |true=>Vw P ap h0 nt (.region id ops draw) s l c
  |false=>(jC ap H h0.length keep lf (.region id ops draw) s c).bind fun r c=> .ok (r,l) c
 |code,s,l,c=>(jC ap H h0.length keep lf code s c).bind fun r c=> .ok (r,l) c
section
variable {P:Program} {ap:AP} {H:bG}
theorem ak.seq {h0:List aP} {nt:Nat} {x y:Code} {s d f:St} {e:aY} (r:ak P ap h0 nt x s .normal d) (n:ak P ap h0 nt y d e f):ak P ap h0 nt (.seq x y) s e f:=by
 intro c;obtain ⟨k,p⟩:=r c;obtain ⟨j,q⟩:=n k;refine ⟨j,fun m0 S0 w0 m S w a b l Q g=>wp_seq (p m0 S0 w0 m S w a b l _ ?_)⟩;intro o S' w' a' h i;exact q m0 S0 w0 o S' w' a' h i Q g
theorem ak.seq_out {h0:List aP} {nt:Nat} {x y:Code} {s f:St} {e:aY} (d:e ≠ .normal) (o:ak P ap h0 nt x s e f):ak P ap h0 nt (.seq x y) s e f:=by
 intro c;obtain ⟨i,l⟩:=o c;refine ⟨i,fun m0 S0 w0 m S w a b j Q g=>wp_seq (l m0 S0 w0 m S w a b j _ ?_)⟩;intro k S' w' a' h n;have:=g k S' w' a' h n;cases e with
 |normal=>exact absurd rfl d
 |exit id=>exact this
 |ret=>exact this
 |panic v=>exact this
theorem ak.cond {h0:List aP} {nt:Nat} {t:Operand} {x y:Code} {s s':St} {e:aY} {f:Bool} (j:pW ap s.env t= .bool f) (h:ak P ap h0 nt (if f then x else y) s e s'):ak P ap h0 nt (.cond t x y) s e s':=by
 intro c;obtain ⟨i,k⟩:=h c;refine ⟨i,fun m0 S0 w0 m S w a b d Q g=>wp_cond (t:=f) ?_ (k m0 S0 w0 m S w a b d Q g)⟩;have:=uu d.srel (a:=a) (env:=s.env) t (fun t _=>d.env t);rw [j] at this;simpa only [VR,PR] using this
def uV (id:Nat):aY→aY
 | .exit id'=>match υ id' id with|true=> .normal|false=> .exit id'
 |e=>e
theorem ak.block {h0:List aP} {nt:Nat} {id:Nat} {b:Code} {s s':St} {e:aY} (h:ak P ap h0 nt b s e s'):ak P ap h0 nt (.block id b) s (uV id e) s':=by
 intro g;obtain ⟨l,o⟩:=h g;refine ⟨l,fun m0 S0 w0 m S w a f n Q j=>wp_block (o m0 S0 w0 m S w a f n _ ?_)⟩;intro p S' w' a' k q;have c:=j p S' w' a' k q;cases e with
 |normal=>exact c
 |ret=>exact c
 |panic v=>exact c
 | exit id'=>
  simp only [uV] at c;split at c
  ·rename_i d;show Exit.inBlock id Q (.exit id') a' w';simp only [Exit.inBlock,if_pos (aA d)];exact c
  ·rename_i d;show Exit.inBlock id Q (.exit id') a' w';have i:id' ≠ id:=by intro e;subst e;simp at d
   simp only [Exit.inBlock,if_neg i];exact c
theorem ak.scope {h0:List aP} {nt:Nat} {b:Code} {s s':St} {e:aY} (h:ak P ap h0 nt b s e s'):ak P ap h0 nt (.scope b) s e s':=by
 intro f;obtain ⟨j,l⟩:=h f;refine ⟨j,fun m0 S0 w0 m S w a d k Q g=>wp_scope_straight (l m0 S0 w0 m S w a d k _ ?_)⟩;intro n S' w' a' i o;have c:=g n S' w' a' i o;cases e with
 |normal=>exact c
 |exit id=>exact c
 |ret=>exact c
 |panic v=>exact c
theorem CB {h0:List aP} {n nt:Nat} (d:n≤nt) {a:Code} {s:St} {l:qj} {r:(aY × St) × qj} {c c':Cx} (h:Vw P ap h0 n a s l c= .ok r c') (b:c'.Ok):c.Ok∧ak P ap h0 nt a s r.1.1 r.1.2:=by
 match l,h with
 |(e,s',none)::_,h=>
  cases h;exact ⟨⟨b.bs,fun p hp=>b.ps p (Xqk _ hp)⟩,b.ps _ (Xqp ..) nt d⟩
 | (e,s',some (L,K))::_,h=>
  simp only [Vw] at h;split at h
  ·rename_i f;cases h;exact ⟨⟨b.bs,fun p hp=>b.ps p (Xqk _ hp)⟩,ak.tid f (b.ps _ (Xqp ..) nt d)⟩
  ·cases h
theorem qG (z:dJ P ap) (w:P.follows .mixedOrders=true) (J:gz P ap H) {h0:List aP} {keep:List Nat} {lf n nt:Nat} (D:n≤nt) {G:List Nat}:∀ (a:Code),cO nt a=true→∀ (s:St) (l:qj) (r:(aY × St) × qj) (c c':Cx),jR P ap H h0 keep lf n G a s l c= .ok r c'→c'.Ok→c.Ok∧ak P ap h0 nt a s r.1.1 r.1.2:=by
 have hbase:∀ (a:Code),cO nt a=true→∀ (s:St) (l:qj) (r:(aY × St) × qj) (c c':Cx),((jC ap H h0.length keep lf a s c).bind fun r c=> .ok (r,l) c)= .ok r c'→c'.Ok→c.Ok∧ak P ap h0 nt a s r.1.1 r.1.2:=by
  intro a d s l r c c' h f;obtain ⟨⟨e,s'⟩,q,k,h⟩:=R.bind_ok h;cases h;exact dF z w J a d s e s' c _ k f
 intro a
 induction a with
 | seq x y ihx ihy=>
  intro d s l r c c' h f;simp only [cO,δ] at d;simp only [jR] at h;obtain ⟨⟨⟨m,B⟩,C⟩,q,k,h⟩:=R.bind_ok h;dsimp only at h;have hother:m ≠ .normal→R.ok ((m,B),C) q=R.ok r c'→c.Ok∧ak P ap h0 nt (.seq x y) s r.1.1 r.1.2:=by
   intro A E;cases E;obtain ⟨g,i⟩:=ihx d.1 _ _ _ _ _ k f;exact ⟨g,i.seq_out A⟩
  cases m with
  |normal=>
   dsimp only at h;obtain ⟨j,I⟩:=ihy d.2 _ _ _ _ _ h f;obtain ⟨g,i⟩:=ihx d.1 _ _ _ _ _ k j;exact ⟨g,i.seq I⟩
  |exit id=>exact hother (by simp) h
  |ret=>exact hother (by simp) h
  |panic v=>exact hother (by simp) h
 | cond t x y ihx ihy=>
  intro d s l r c c' h f;simp only [cO,δ] at d;simp only [jR] at h;split at h
  ·rename_i K u;obtain ⟨F,q,k,h⟩:=R.bind_ok h;cases F with
   |true=>
    obtain ⟨j,i⟩:=ihx d.1 _ _ _ _ _ h f;obtain ⟨g,p⟩:=jG k j;exact ⟨g,ak.cond u (by rw [← p];exact i)⟩
   |false=>
    obtain ⟨j,i⟩:=ihy d.2 _ _ _ _ _ h f;obtain ⟨g,p⟩:=jG k j;exact ⟨g,ak.cond u (by rw [← p];exact i)⟩
  ·cases h
 | block id b ih=>
  intro d s l r c c' h f;simp only [cO] at d;simp only [jR] at h;split at h
  ·exact CB D h f
  ·obtain ⟨⟨⟨m,B⟩,C⟩,q,k,h⟩:=R.bind_ok h;dsimp only at h;have o:r=((uV id m,B),C)∧q=c':=by
    cases m<;>dsimp only at h
    ·cases h;exact ⟨rfl,rfl⟩
    ·unfold uV;split at h<;>cases h<;>rename_i p<;>dsimp only<;>rw [p]<;>exact ⟨rfl,rfl⟩
    ·cases h;exact ⟨rfl,rfl⟩
    ·cases h;exact ⟨rfl,rfl⟩
   obtain ⟨rfl,rfl⟩:=o;obtain ⟨g,i⟩:=ih d _ _ _ _ _ k f;exact ⟨g,i.block⟩
 |scope b ih=>
  intro d s l r c c' h f;simp only [cO] at d;simp only [jR] at h;obtain ⟨g,i⟩:=ih d _ _ _ _ _ h f;exact ⟨g,i.scope⟩
 |skip=>exact fun d s l r c c' h f=>hbase _ d s l r c c' h f
 |region id ops draw=>
  intro d s l r c c' h f;simp only [jR] at h;split at h
  ·exact CB D h f
  ·exact hbase _ d s l r c c' h f
 |loop _ _=>exact fun d s l r c c' h f=>hbase _ d s l r c c' h f
 |rangeFunc _ _ _ _=>exact fun d s l r c c' h f=>hbase _ d s l r c c' h f
 |exit _=>exact fun d s l r c c' h f=>hbase _ d s l r c c' h f
 |label _=>exact fun d s l r c c' h f=>hbase _ d s l r c c' h f
 |goto _=>exact fun d s l r c c' h f=>hbase _ d s l r c c' h f
 |ret=>exact fun d s l r c c' h f=>hbase _ d s l r c c' h f
 |refuse _=>exact fun d s l r c c' h f=>hbase _ d s l r c c' h f
def KJ (P:Program) (ap:AP) (H:bG) (lf:Nat) (ls:List Nat) (f:Nat) (args:List AV) (h:List aP) (l:qj) (c:Cx):R (gK × List aP × AV):=
 match ap.fnAt f with
 |none=> .bad 80
 |some F=>(jR P ap H h F.keep lf F.fn.ntmps ls (ag F.fn) (eQ .dead args h) l c).bind fun r c=>yX ap H h.length F.fn r.1.1 r.1.2 c
theorem PD (g:dJ P ap) (n:P.follows .mixedOrders=true) (d:C_ P ap) (J:gz P ap H) (I:n_ P ap H) {lf:Nat} {E:List Nat} {f:Nat} {args:List AV} {h x:List aP} {l:qj} {c c':Cx} {out:gK} {p:AV}
  (b:KJ P ap H lf E f args h l c= .ok (out,x,p) c') (hc:c'.Ok):af P ap f args h out x:=by
 unfold KJ at b;split at b
 ·cases b
 ·rename_i F q;obtain ⟨⟨⟨e,s⟩,L⟩,K,v,b⟩:=R.bind_ok b;dsimp only at b;obtain ⟨a,y,k⟩:=d.body f F q;have hbody:ag F.fn=a:=by simp [ag,y]
  rw [hbody] at v;obtain ⟨t,j,o⟩:=vH g I b hc;refine ⟨j,rq d q,fun m S w cargs D B=> ?_⟩;obtain ⟨A,u⟩:=yY (md:= .dead) D B F.fn.ntmps;have i:F.fn.ntmps≤(cargs.toArray++Array.replicate (F.fn.ntmps - cargs.toArray.size) undef).size:=by simp;omega
  obtain ⟨_,r⟩:=qG g n J i a (dC i a k) _ _ _ _ _ v t;obtain ⟨_,r⟩:=r rfl;refine calls_of_wp_defers (d.fn f F q) y ?_;refine r m S w m S w _ (by rw [A];exact Fr.refl _ _ _ _) u _ ?_;intro C S' w' a' z G;exact o m S w C S' w' a' _ z G
end
end AM
namespace AM
open Go
def uK (P:Program) (ap:AP) (lf:Nat):Nat→bG
 |0=>fun _ _ _ _ _=> .bad 90
 | n+1=>fun c md f args h=>
  match md with
  | .dead=>match c.ans with
   |(out,h')::r=> .ok (out,h',.dead) {c with ans:=r,ps:=af P ap f args h out h'::c.ps}
   |_=> .bad 91
  |md=>kR ap (uK P ap lf n) lf md f args h c
theorem gX {P:Program} {ap:AP} (i:dJ P ap) (b:P.follows .mixedOrders=true) (e:C_ P ap) (lf:Nat):∀ n,gz P ap (uK P ap lf n)∧n_ P ap (uK P ap lf n)
 |0=> ⟨fun _ _ _ _ _ _ _ _ h=>(by cases h),fun _ _ _ _ _ _ _ _ _ _ h=>(by cases h)⟩
 | n+1=>by
  obtain ⟨l,m⟩:=gX i b e lf n;constructor
  ·intro c f args h out k d c' a g;simp only [uK] at a;split at a
   ·cases a;exact ⟨⟨g.bs,fun p hp=>g.ps p (by simp [hp])⟩,g.ps _ (by simp)⟩
   ·cases a
  ·intro c md f args h out k d c' j a g;have a:kR ap (uK P ap lf n) lf md f args h c= .ok (out,k,d) c':=by
    cases md<;>first|exact absurd rfl j|exact a
   exact uZ i b e l lf c md f args h out k d c' j a g
inductive Gv:List Prop→Prop where
 |nil:Gv []
 |cons {p:Prop} {l:List Prop}:p→Gv l→Gv (p::l)
theorem Gv.mem {l:List Prop} (h:Gv l):∀ p ∈ l,p:=by
 induction h with
 |nil=>intro p hp;cases hp
 |cons hp _ ih=>
  intro q a;rcases List.mem_cons.1 a with rfl|a
  ·exact hp
  ·exact ih q a
inductive jQ:List Bool→Prop where
 |nil:jQ []
 |t {l:List Bool}:jQ l→jQ (true::l)
 |c {b:Bool} {l:List Bool}:b=true→jQ l→jQ (b::l)
theorem jQ.mem {l:List Bool} (h:jQ l):∀ b ∈ l,b=true:=by
 induction h with
 |nil=>intro p hp;cases hp
 |t _ ih=>
  intro q a;rcases List.mem_cons.1 a with rfl|a
  ·rfl
  ·exact ih q a
 |c hp _ ih=>
  intro q a;rcases List.mem_cons.1 a with rfl|a
  ·exact hp
  ·exact ih q a
structure xH (P:Program) (ap:AP):Prop where
 apok:dJ P ap
 mixed:P.follows .mixedOrders=true
 fnok:C_ P ap
theorem N8 {P:Program} {ap:AP} (g:xH P ap) {lf n:Nat} {ans:List (gK × List aP)} {ps:List Prop} {f:Nat} {args:List AV} {h a:List aP} {out:gK} (hp:Gv ps)
  (he:kR ap (uK P ap lf n) lf .dead f args h ⟨true,[],[],[],ans,[]⟩= .ok (out,a,.dead) ⟨true,[],[],ps,[],[]⟩):af P ap f args h out a:=by
 obtain ⟨c,e⟩:=gX g.apok g.mixed g.fnok lf n;exact (qx g.apok g.mixed g.fnok c e lf _ f args h out a .dead _ he ⟨fun b d=>(by cases d),hp.mem⟩).2
end AM
namespace AM
open Go Go.ChangeShapes Go.WideShapes Go.ChangeAt Go.RowKit
def mQ:Lit→Value
 | .int k n=> .int k n
 | .bool b=> .bool b
 | .string s=> .string ⟨s.toArray⟩
 |_=> .nilFunc
def H6:Lit→AV
 | .int k n=> .int k n
 | .bool b=> .bool b
 | .string s=> .str s
 |_=> .dead
def A7:Lit→Bool
 | .int _ _=>true
 | .bool _=>true
 | .string _=>true
 |_=>false
def H7 (f:TypeId→DataW Unit→Nat→Option (List (Nat × Lit))):List (TypeId × Nat)→List (DataW Unit)→Option (List (Nat × Lit))
 | [],[]=>some []
 |(t,o)::r,d::ds=>match f t d o,H7 f r ds with
  |some a,some b=>some (a++b)
  |_,_=>none
 |_,_=>none
def jS (P:Program):Nat→TypeId→DataW Unit→Nat→Option (List (Nat × Lit))
 |0,_,_,_=>none
 |n+1,t,d,off=>match P.underlying t,d with
  |some (.struct fs),.agg ds=>H7 (jS P n) (fs.toList.map fun f=>(f.type,off+f.offset)) ds
  |some (.array m e),.agg ds=>H7 (jS P n) ((Xqd m).map fun i=>(e,off+i*P.cellsOf e)) ds
  |some (.int _),.lit (.int k n)=>some [(off,.int k n)]
  |some .bool,.lit (.bool b)=>some [(off,.bool b)]
  |some .string,.lit (.string s)=>some [(off,.string s)]
  |_,_=>none
theorem AZ {f:TypeId→DataW Unit→Nat→Option (List (Nat × Lit))}:∀ {ts:List (TypeId × Nat)} {ds:List (DataW Unit)} {l:List (Nat × Lit)},H7 f ts ds=some l→ts.length=ds.length∧∀ x ∈ l,∃ (i:Nat) (t o:Nat) (d:DataW Unit) (a:List (Nat × Lit)),ts[i]? =some (t,o)∧ds[i]? =some d∧f t d o=some a∧x ∈ a
 | [],[],l,h=>by simp [H7] at h;subst h;simp
 | (t,o)::r,d::ds,l,h=>by
  simp only [H7] at h;split at h
  ·rename_i a b k p;cases h;obtain ⟨e,q⟩:=AZ p;refine ⟨by simp [e],fun x c=> ?_⟩;rcases List.mem_append.1 c with c|c
   ·exact ⟨0,t,o,d,a,rfl,rfl,k,c⟩
   ·obtain ⟨i,j,g,m,a',v,s,n,u⟩:=q x c;exact ⟨i+1,j,g,m,a',by simpa using v,by simpa using s,n,u⟩
  ·cases h
 | [],_::_,_,h=>by simp [H7] at h
 |_::_,[],_,h=>by simp [H7] at h
theorem kZ {P:Program} {w:World} {base:Nat} {K:Nat→Bool} {z:Bool}:∀ (n:Nat) (t:TypeId) (d:DataW Unit) (off:Nat) (l:List (Nat × Lit)),jS P n t d off=some l→∀ (g:Nat) (cs:List Value) (p:List MemPlace),DataW.trod (fun _=>()) P w base K z g t cs=some (d,p)→∀ x ∈ l,∃ j,x.1=off+j∧cs[j]? =some (mQ x.2)
 |0,_,_,_,_,h=>by simp [jS] at h
 | n +1,t,d,off,l,h=>by
  intro g cs p c x u;simp only [jS] at h;split at h
  ·rename_i U Q r;cases g with
   |zero=>simp [DataW.trod] at c
   | succ m=>
    simp only [DataW.trod,r] at c;split at c
    ·obtain ⟨N,hm,o⟩:=Option.map_eq_some_iff.1 c;simp only [Prod.mk.injEq,DataW.agg.injEq] at o;obtain ⟨rfl,rfl⟩:=o;obtain ⟨J,G⟩:=AZ h;obtain ⟨i,R,L,O,a,B,v,C,I⟩:=G x u;rw [Ξ,Φ] at B;obtain ⟨f,E,y⟩:=B;simp only [Prod.mk.injEq] at y;obtain ⟨rfl,rfl⟩:=y;obtain ⟨b,D,F⟩:=Lib.mapM_at hm i f E;rw [Ξ,D] at v;simp only [Xqu,Option.some.injEq] at v;subst v;obtain ⟨j,M,q⟩:=kZ n _ _ _ _ C m _ b.2 F x I;refine ⟨f.offset+j,by omega, ?_⟩;rw [Xq9] at q;split at q
     ·rwa [Xxr] at q
     ·cases q
    ·cases c
  ·rename_i k e Q r;cases g with
   |zero=>simp [DataW.trod] at c
   | succ m=>
    simp only [DataW.trod,r] at c;split at c
    ·obtain ⟨N,hm,o⟩:=Option.map_eq_some_iff.1 c;simp only [Prod.mk.injEq,DataW.agg.injEq] at o;obtain ⟨rfl,rfl⟩:=o;obtain ⟨J,G⟩:=AZ h;obtain ⟨i,R,L,O,a,B,v,C,I⟩:=G x u;rw [Ξ,Φ] at B;obtain ⟨f,E,y⟩:=B;simp only [Prod.mk.injEq] at y;obtain ⟨rfl,rfl⟩:=y;obtain ⟨b,D,F⟩:=Lib.mapM_at hm i f E;rw [Ξ,D] at v;simp only [Xqu,Option.some.injEq] at v;subst v;obtain ⟨j,M,q⟩:=kZ n _ _ _ _ C m _ b.2 F x I;refine ⟨f*P.cellsOf e+j,by omega, ?_⟩;rw [Xq9] at q;split at q
     ·rwa [Xxr] at q
     ·cases q
    ·cases c
  ·rename_i S k T r;cases h;simp at u;subst u;obtain ⟨n2,rfl,A,_⟩:=DataW.trod_int r c;simp only [Prod.mk.injEq,DataW.lit.injEq,Lit.int.injEq] at A;obtain ⟨⟨rfl,rfl⟩,_⟩:=A;exact ⟨0,rfl,rfl⟩
  ·rename_i b r;cases h;simp at u;subst u;cases g with
   |zero=>simp [DataW.trod] at c
   |succ m=>
    unfold DataW.trod at c;rw [r] at c;split at c<;>simp_all
    rfl
  ·rename_i s r;cases h;simp at u;subst u;cases g with
   |zero=>simp [DataW.trod] at c
   |succ m=>
    unfold DataW.trod at c;rw [r] at c;split at c<;>simp_all
    obtain ⟨_,rfl,_⟩:=c;rfl
  ·cases h
theorem vP {P:Program} {w:World}:∀ {l:List (String × DataW Unit)} {ps:List MemPlace},DataW.LaidVars P w l ps→∀ n d,(n,d) ∈ l→∃ g t cs a p,P.globalNamed n=some g∧(P.globals[g]?).map (·.type)=some t∧w.var? P n=some cs∧DataW.trod (fun _=>()) P w 0 (fun _=>true) false a t cs.toList=some (d,p)
 | [],_,_,n,d,hm=>by cases hm
 | (n',d')::r,ps,h,n,d,hm=>by
  obtain ⟨g,t,cs,a,p,q,b,e,i,f,c,_⟩:=h;rcases List.mem_cons.1 hm with he|hm
  ·cases he;exact ⟨g,t,cs,a,p,b,e,i,f⟩
  ·exact vP c n d hm
theorem JJ {P:Program} {W:World} {a:List (String × DataW Unit)} (h:laidMetH P a W) (e:a.filter (fun x=>x.2.handleName?.isSome)= []) {n:String} {d:DataW Unit} (hm:(n,d) ∈ a) {g:Nat} {t:TypeId} (m:P.globalNamed n=some g) (w:(P.globals[g]?).map (·.type)=some t)
  {ls:List Lit} (hl:jS P 6 t d 0=some (ls.zipIdx.map fun (l,i)=>(i,l))):∀ (j:Nat) (l:Lit),ls[j]? =some l→W.cell? ⟨g,j,none⟩=some (mQ l):=by
 have c:laidMet P a W:=by
  unfold laidMetH at h;rw [e] at h;exact h
 obtain ⟨ps,u,_⟩:=c;obtain ⟨g',z,cs,b,p,o,r,v,y⟩:=vP u n d hm;obtain rfl:=Option.some.inj (m.symm.trans o);obtain rfl:=Option.some.inj (w.symm.trans r);intro j l q;obtain ⟨k,f,s⟩:=kZ 6 t d 0 _ hl b cs.toList p y (j,l) (by
  rw [List.mem_map];exact ⟨(l,j),by rw [List.mem_zipIdx_iff_getElem?];exact q,rfl⟩)
 have:k=j:=by simp at f;exact f.symm
 subst this;rw [World.var?_cell m v k];simpa using s
def gI (W:World):az:=fun k o=>match W.cell? ⟨k,o,none⟩ with|some v=>if v.oneCell' then some v else none|none=>none
theorem EL {W:World} {k o:Nat} {v:Value} (h:W.cell? ⟨k,o,none⟩=some v) (a:v.oneCell'=true):gI W k o=some v:=by
 unfold gI;rw [h];simp only;rw [if_pos a]
theorem Jb {W:World} {k o:Nat} {v:Value} (h:gI W k o=some v):bW W k o=some v:=by
 unfold gI at h;split at h
 ·rename_i c b;split at h
  ·rename_i a;cases h;exact oz b a
  ·cases h
 ·cases h
theorem Gy (S:az):∀ (ls:List Lit),ls.all A7=true→bi S (ls.map H6) (ls.map mQ)
 | [],_=>by simp [bi]
 |l::r,h=>by
  simp only [Xxu,δ] at h;simp only [φ,bi];refine ⟨?_,Gy S r h.2⟩;cases l<;>simp only [H6,mQ,PR]<;>first|rfl|(exact absurd h.1 (by simp [A7]))
theorem JL {l:Lit} (h:A7 l=true):(mQ l).oneCell'=true:=by
 cases l<;>first|rfl|(exact absurd h (by simp [A7]))
def Pi (ap:AP) (W:World):Prop:=∀ k xs,(ap.gl[k]?).join=some xs→∃ ls:List Lit,xs=ls.map H6∧ls.all A7=true∧∀ (j:Nat) (l:Lit),ls[j]? =some l→W.cell? ⟨k,j,none⟩=some (mQ l)
theorem Uz {ap:AP} {W:World} (h:Pi ap W):kN ap (gI W):=by
 intro k f e;obtain ⟨i,rfl,a,g⟩:=h k f e;refine ⟨i.map mQ,Gy _ _ a, ?_⟩;intro j u d;rw [Ξ,Φ] at d;obtain ⟨l,b,rfl⟩:=d;have c:=JL (List.all_eq_true.1 a l (χ b));refine ⟨?_,c⟩;rw [Nat.zero_add];exact EL (g j l b) c
theorem YB {P:Program} {ap:AP} {f:Nat} {args:List AV} {b:Bool} (i:af P ap f args [] (.ret (.bool b)) []) {W:World} (m:Pi ap W) {cargs:List Value} (j:bi (gI W) args cargs):
  Calls P f cargs.toArray W fun e W'=>e= .returned (.bool b)∧Below W.heap.size W W':=by
 have l:bf ap (aF []) (fun _=>(0,0)) (gI W) W:=
  ⟨fun b n B B' h=>by simp [aF] at h,fun b B h=>by simp [aF] at h,fun k o v h=>Jb h,fun b B h=>by simp [aF] at h,Uz m⟩
 refine (i.calls (fun _=>(0,0)) (gI W) W cargs l (aZ _ j)).mono ?_
 rintro e W' ⟨m',S',hF⟩
 obtain ⟨_,a,c⟩:=hF;obtain ⟨cv,rfl,d⟩:=c;simp only [ug,VR,PR] at d;subst d;exact ⟨rfl,a.os,a.tape,a.output,a.size,fun k g=>a.rest k g fun b B h=>by simp [aF] at h⟩
def zh (P:Program) (ts:List TypeId):Bool:=ts.all fun t=>P.readableRec t && decide (t<P.types.size)
theorem tZ {H:Type} {enc:TypeId × Value→H} {P:Program} (c:laidOutB P=true) {W W':World} {b:Nat→Bool}:∀ {ts:List TypeId} {vs:List Value} {ds:List (DataW H)} {ps:List MemPlace},zh P ts=true→DataW.TrodAll enc P W 0 (fun _=>true) true ts vs ds ps→(∀ p ∈ ps,W.sameAt W' p)→(∀ p ∈ ps,b p.block=true)→DataW.TrodAll enc P W' 0 b true ts vs ds ps
 | [],vs,ds,ps,_,h,_,_=>by
  obtain ⟨rfl,rfl,rfl⟩:=trodAll_nil h;rfl
 |t::ts,vs,ds,ps,hf,h,hs,hsp=>by
  obtain ⟨v,i,d,g,p,q,rfl,rfl,rfl,e,f⟩:=trodAll_cons h;simp only [zh,Xxu,δ,decide_eq_true_eq] at hf;exact trodAll_cons_mk (WideElems.Trod_stays c hf.1.1 hf.1.2 e (fun x a=>hs x (by simp [a])) (fun x a=>hsp x (by simp [a]))) (tZ c (by simpa [zh] using hf.2) f (fun x a=>hs x (by simp [a])) (fun x a=>hsp x (by simp [a])))
theorem abP {H:Type} {enc:TypeId × Value→H} {P:Program} {f:Func} {s:ChangeSpec} {apart fresh handsOn again:Bool} {W W':World} {args:Array Value} {g n:List (DataW H)} {before:List MemPlace} (w:laidOutB P=true) (y:zh P f.params.toList=true)
  (hW:DataW.Whole enc P f.params.toList s.vars apart W args.toList g n before) (hvars:s.vars= []) {tb:TypeId} (hr:f.resultTypes=#[tb]) (htb:P.underlying tb=some .bool) (hfn:s.fn H (g++n)={results:= [.lit (.bool true)],args:=g,vars:= []})
  (hb:Below W.heap.size W W'):s.post enc P f apart fresh handsOn again W args (.bool true) W':=by
 have e:∀ p ∈ before,p.block<W.heap.size:=fun p hp=>hW.lt p hp
 have d:∀ p ∈ before,(fun b=>decide (b<W.heap.size)) p.block=true:=fun p hp=>by simpa using hW.lt p hp
 have i:=hW;obtain ⟨p,q,v,t,rfl,r,m⟩:=hW;rw [hvars] at t;obtain ⟨rfl,rfl⟩:=trodVars_none t;simp only [ο] at e d r m i hfn ⊢;have hargs:∀ a:Nat→Bool,(∀ x ∈ p,a x.block=true)→DataW.TrodAll enc P W' 0 a true f.params.toList args.toList (s.fn H g).args p:=by
  intro a l;rw [hfn];exact tZ w y v (fun x k=>hb.same (e x k)) l
 have c:∀ (b:Nat) (a:Nat→Bool) (o:Bool),DataW.TrodAll enc P W' b a o f.resultTypes.toList ((Value.bool true).resultList f.resultTypes.size) (s.fn H g).results []:=by
  intro b a o;rw [hfn,hr];exact trodAll_cons_mk (p:= []) (shut_bool htb true) trodAll_mk0
 have j:∀ a:Nat→Bool,DataW.TrodVars enc P W' a s.vars (s.fn H g).vars []:=by
  intro a;rw [hvars,hfn];rfl
 refine ⟨g,[],p,[],p,[],i,by rw [ο];exact c _ _ _,by rw [ο];exact hargs _ d,by rw [ο];exact j _,World.keptBut_mono (fun x k=>k) (hb.frame _),fun _=> ?_⟩;refine ⟨ok_one hr rfl (okWide_bool_mk htb _),_,_,([]++p)++ [],⟨[]++p,[],trodAll_append (hargs _ (fun _ _=>rfl)) (c _ _ _),by simpa using j _,rfl, ?_, ?_⟩, ?_⟩
 ·intro b h hp;have hp':MemPlace.cell b h ∈ p:=by simpa using hp
  rw [hb.frozen (e _ hp')];exact r b h hp'
 ·intro u;simpa using m u
 ·intro x k _;simpa using k
end AM
