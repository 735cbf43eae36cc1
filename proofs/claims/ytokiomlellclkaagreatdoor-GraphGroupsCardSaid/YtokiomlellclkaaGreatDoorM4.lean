/- The abstract machine over the code of the model, and the proof that it is sound. No conditions. -/
import Derived.Test.YtokiomlellclkaaGreatDoorM3
import Derived.Recover
import Derived.ProofKit
import Derived.OpenShut
import Derived.LaidLaws
import Derived.LaidSub
import Derived.Lib.LaidTab
set_option linter.unusedSimpArgs false
set_option linter.unusedVariables false
open Bool renaming and_eq_true→ε,not_eq_true'→Xqe
open Nat renaming beq→Δ,zero_le→Xqn,lt_of_lt_of_le→Xqy,sub_zero→Xz7,le_refl→ζ
open List renaming mem_of_getElem?→ο,flatMap_cons→Xqa,flatMap_nil→Xj7,append_nil→μ,range→Ψ,getElem?_map→φ,map_cons→Γ,flatMap_map→Xj9,range'→Xwg,getElem?_range→Xxu,mem_cons_of_mem→Θ,mem_cons_self→Xxg,getElem?_take→Xxh,getElem?_drop→Xxy,all_cons→Xjc
open Option renaming map_eq_some_iff→Ξ,map_some→Xqu
namespace AM
open Go
theorem uP {α:Type} {P:Program} {w:World} (f:α→Sem Value):∀ (l:List α) (vs:List Value),l.length=vs.length→(∀ (i:Nat) (x:α) (v:Value),l[i]? =some x→vs[i]? =some v→(f x).run P w= .ok v w)→(l.mapM f).run P w= .ok vs w
 | [],[],_,_=>rfl
 |a::l,v::vs,hl,h=>by
  rw [List.mapM_cons,Sem.run_bind,h 0 a v rfl rfl,Result.andThen_ok,Sem.run_bind,uP f l vs (by simpa using hl) fun i x u b c=>h (i+1) x u (by simpa using b) (by simpa using c),Result.andThen_ok];rfl
 | [],_::_,hl,_=>by simp at hl
 |_::_,[],hl,_=>by simp at hl
def Ff (tmps:Array Value):ResultVar→Sem Value
 | .tmp t=>pure (tmps.getD t undef)
 | .cell a t=>do loadVar t (← asAddr (tmps.getD a undef))
def Og (vs:List Value):Value:=match vs with| [v]=>v|vs=> .tuple vs.toArray
theorem LD (a:Func) (tmps:Array Value):results a tmps=(do let vs ← a.results.mapM (Ff tmps);pure (if h:vs.size=1 then vs[0] else .tuple vs)):=by
 unfold results;congr 2
theorem kD {P:Program} {w:World} {a:Func} {tmps:Array Value} {vs:List Value} (b:a.results.toList.length=vs.length)
  (h:∀ (i:Nat) (r:ResultVar) (v:Value),a.results.toList[i]? =some r→vs[i]? =some v→(Ff tmps r).run P w= .ok v w):
  (results a tmps).run P w= .ok (Og vs) w:=by
 rw [LD,Array.mapM_eq_mapM_toList];simp only [bind_map_left];rw [Sem.run_bind,uP _ _ vs b h,Result.andThen_ok]
 match vs with
 | []=>rfl
 | [v]=>rfl
 |_::_::_=>simp [Og]
theorem JS {S:au} {m:aB} {rd c:bD} {w:World} (h:∀ b B,rd b=some B→c b=some B):gK (bP S m rd w) (bP S m c w):=by
 intro k o v a;unfold bP at a ⊢;split at a
 ·rename_i u d;exact a
 ·rename_i d;split at a
  ·rename_i e;obtain ⟨b,B,f,g,i⟩:=e;rw [if_pos ⟨b,B,h b B f,g,i⟩];exact a
  ·cases a
def cl (rd:bD) (v:AV):List Nat:=lH rd 6 (fJ (bZ v))
inductive Ey (base:Nat) (rd:bD) (all:List Nat):AV→AV→Prop
 |own {b n:Nat} {B:az}:rd b=some B→base≤b→B.fro=false→B.pr=true→eX all b=1→0<B.esz→Ey base rd all (.ref b B.ver 0 n) (.own (B.cells.take (n*B.esz)) n B.esz)
 |low {v:AV}:(∀ b ∈ bZ v,b<base)→Ey base rd all v v
 |frz {v v':AV}:(∀ b ∈ cl rd v,base≤b)→frz (fun b=>match kY (cl rd v) b with|true=>rd b|false=>none) 6 v=some v'→Ey base rd all v v'
theorem PL {base:Nat} {rd:bD} {v a:AV} (h:V5 base rd v=some a):(∀ b ∈ cl rd v,base≤b)∧frz (fun b=>match kY (cl rd v) b with|true=>rd b|false=>none) 6 v=some a:=by
 unfold V5 at h;dsimp only at h;split at h
 ·rename_i d;exact ⟨fun b c=>eG (List.all_eq_true.1 d b c),h⟩
 ·cases h
theorem ET {base:Nat} {rd:bD} {all:List Nat} {v a:AV} (h:(match (bZ v).all (fun b=>Nat.blt b base) with|true=>some v|false=>V5 base rd v)=some a):Ey base rd all v a:=by
 split at h
 ·rename_i f;cases h;exact .low fun b c=>dW (List.all_eq_true.1 f b c)
 ·obtain ⟨d,e⟩:=PL h;exact .frz d e
theorem wU {base:Nat} {rd:bD} {all:List Nat} {v c:AV} (h:nH base rd all v=some c):Ey base rd all v c:=by
 unfold nH at h;dsimp only at h;split at h
 ·rename_i b ver n;split at h
  ·rename_i B e;split at h
   ·rename_i d;cases h;simp only [ε,Xqe] at d;obtain ⟨⟨⟨⟨⟨j,a⟩,k⟩,g⟩,i⟩,f⟩:=d;have a:=aA a;subst a;exact .own e (eG j) k g (aA i) (dW f)
   ·exact ET h
  ·cases h
 ·exact ET h
theorem sZ {l:List Nat} {b:Nat} (h:b ∈ l):1≤eX l b:=by
 unfold eX;have:b ∈ l.filter (Δ b):=by rw [List.mem_filter];exact ⟨h,Nat.beq_refl b⟩
 exact List.length_pos_of_mem this
theorem pF {l a:List Nat} {b:Nat}:eX (l++a) b=eX l b+eX a b:=by simp [eX,List.filter_append]
theorem xZ {α:Type} {f:α→List Nat} {b:Nat}:∀ (vs:List α) (i j:Nat) (v v':α),vs[i]? =some v→vs[j]? =some v'→i ≠ j→b ∈ f v→b ∈ f v'→2≤eX (vs.flatMap f) b
 | [],i,j,v,v',h,_,_,_,_=>by simp at h
 | a::r,i,j,v,v',hi,hj,hne,hb,hb'=>by
  have c:∀ (k:Nat) (u:α),r[k]? =some u→b ∈ f u→1≤eX (r.flatMap f) b:=by
   intro k u e d;exact sZ (List.mem_flatMap.2 ⟨u,ο e,d⟩)
  rw [Xqa,pF];cases i with
  |zero=>
   simp at hi;subst hi;cases j with
   |zero=>exact absurd rfl hne
   |succ j=>have:=c j v' (by simpa using hj) hb';have:=sZ hb;omega
  | succ i=>
   cases j with
   |zero=>simp at hj;subst hj;have:=c i v (by simpa using hi) hb;have:=sZ hb';omega
   |succ j=>
    have:=xZ r i j v v' (by simpa using hi) (by simpa using hj) (by omega) hb hb';omega
def jA:List AV→List AV→List (Nat × az)
 |v::r,.own xs _ esz::q=>(match v with| .ref b _ _ _=> [(b,yJ xs esz)]|_=> [])++jA r q
 |_::r,_::q=>jA r q
 |_,_=> []
theorem iC {v x:AV} {r q:List AV} (h:∀ xs k e,x ≠ .own xs k e):jA (v::r) (x::q)=jA r q:=by
 cases x<;>first|rfl|exact absurd rfl (h _ _ _)
section
variable {P:Program} {ap:AP} {base:Nat} {rd:bD} {all:List Nat}
theorem uX {g:bD} {m:aB} {S:au} {x:AV} {v:Value} (h:VR g m S x v):∀ xs k e,x ≠ .own xs k e:=by
 rintro xs k e rfl;simp [VR] at h
theorem Ba {S:au} {x:AV} {v:Value} (h:PR S x v):∀ xs k e,x ≠ .own xs k e:=by
 rintro xs k e rfl;simp [PR] at h
end
end AM
namespace AM
open Go
theorem CY {b:Nat}:∀ (l acc:List Nat),(b ∈ l∨b ∈ acc)→b ∈ l.foldl zU acc
 | [],acc,h=>by simpa using h
 | a::r,acc,h=>by
  simp only [List.foldl_cons];refine CY r _ ?_;rcases h with h|h
  ·rcases List.mem_cons.1 h with rfl|h
   ·right;unfold zU;split
    ·rename_i hm;exact fQ.1 hm
    ·simp
   ·exact .inl h
  ·right;obtain h':=h;unfold zU;split
   ·exact h
   ·simp [h]
theorem Ll {l:List Nat} {b:Nat} (h:b ∈ l):b ∈ fJ l:=CY l [] (.inl h)
theorem GX (l:List Nat):(fJ l).Nodup:=(m_ l [] (by simp)).1
theorem Td {rd:bD} {v:AV} {b:Nat} (h:b ∈ bZ v):b ∈ cl rd v:=by
 obtain ⟨_,t,a⟩:=lI rd 6 (fJ (bZ v)) (GX _);unfold cl;rw [a];exact List.mem_append.2 (.inl (Ll h))
theorem yK:∀ {vs l:List AV} {b:Nat} {Bo:az},(b,Bo) ∈ jA vs l→∃ ver i n c k e,(AV.ref b ver i n,AV.own c k e) ∈ vs.zip l∧Bo=yJ c e
 | [],l,b,Bo,h=>by cases l<;>simp [jA] at h
 |v::r,[],b,Bo,h=>by simp [jA] at h
 | v ::r,x::q,b,Bo,h=>by
  rcases jy x with ⟨c,k,e,rfl⟩|hx
  ·simp only [jA,List.mem_append] at h;rcases h with h|h
   ·cases v with
    |ref b' ver i n=>
     simp at h;obtain ⟨rfl,rfl⟩:=h;exact ⟨ver,i,n,c,k,e,by simp,rfl⟩
    |_=>simp at h
   ·obtain ⟨ver,i,n,a,d,e',f,g⟩:=yK h;exact ⟨ver,i,n,a,d,e',by simp [f],g⟩
  ·rw [iC hx] at h;obtain ⟨ver,i,n,a,d,e',f,g⟩:=yK h;exact ⟨ver,i,n,a,d,e',by simp [f],g⟩
theorem Dl {rd:bD} {b:Nat}:∀ (vs l:List AV),eX ((jA vs l).flatMap fun q=> [q.1]) b≤eX (vs.flatMap (cl rd)) b
 | [],l=>by cases l<;>simp [jA,eX]
 |v::r,[]=>by simp [jA,eX]
 | v :: r,x::q=>by
  have f:=Dl (rd:=rd) (b:=b) r q;rw [Xqa,pF];rcases jy x with ⟨d,k,e,rfl⟩|hx
  ·simp only [jA,List.flatMap_append,pF];cases v with
   | ref b' ver i n=>
    simp only [Xqa,Xj7,μ];have:eX [b'] b≤eX (cl rd (.ref b' ver i n)) b:=by
     by_cases hb:b=b'
     ·subst hb;have a:eX [b] b=1:=by simp [eX]
      rw [a];exact sZ (Td (by simp [bZ]))
     ·have a:eX [b'] b=0:=by
       have:Δ b b'=false:=by
        cases c:Δ b b' with
        |false=>rfl
        |true=>exact absurd (aA c) hb
       simp [eX,this]
      omega
    omega
   |_=>simp [eX] at*;omega
  ·rw [iC hx];omega
theorem Dv:∀ (vs l:List AV) (n:Nat),vs.length=l.length→(∀ v x,(v,x) ∈ vs.zip l→(∃ c k e,x= .own c k e)→∃ b ver i n,v= .ref b ver i n)→(eQ n l).2=(jA vs l).map (·.2)
 | [],[],n,_,_=>by simp [eQ,jA]
 | v::r,x::q,n,hl,h=>by
  have d:=fun n=>Dv r q n (by simpa using hl) fun v x hm a=>h v x (by simp [hm]) a
  rcases jy x with ⟨c,k,e,rfl⟩|a
  ·obtain ⟨b,ver,i,f,rfl⟩:=h v _ (by simp) ⟨c,k,e,rfl⟩;simp only [eQ,jA,d];simp
  ·rw [bJ n a,iC a];exact d n
 | [],_::_,_,hl,_=>by simp at hl
 |_::_,[],_,hl,_=>by simp at hl
theorem G7 {rd gh gf:bD} {m o:aB} {S S':au}:∀ (vs l:List AV) (cvs:List Value) (n:Nat),vs.length=l.length→aS rd m S vs cvs→
  (∀ v x,(v,x) ∈ vs.zip l→(∃ a k e,x= .own a k e)→∃ b ver n,v= .ref b ver 0 n∧∃ a e,x= .own a n e)→
  (∀ v x c,(v,x) ∈ vs.zip l→(∀ a k e,x ≠ .own a k e)→VR rd m S v c→VR gh o S' x c)→
  (∀ (k b:Nat) (Bo:az),(jA vs l)[k]? =some (b,Bo)→∀ ver i c,VR rd m S (.ref b ver 0 i) c→(∃ a e,(AV.ref b ver 0 i,AV.own a i e) ∈ vs.zip l)→VR gf o S' (.ref (n+k) 0 0 i) c)→gY gh gf o S' n l cvs
 | [],[],[],n,_,_,_,_,_=>by simp [gY]
 | v::r,x::q,c::cs,n,hl,hv,ho,hx,hr=>by
  simp only [aS] at hv;rcases jy x with ⟨a,k,e,rfl⟩|hxo
  ·obtain ⟨b,ver,i,rfl,t,e',u⟩:=ho v _ (by simp) ⟨a,k,e,rfl⟩;cases u;simp only [gY];refine ⟨?_, ?_⟩
   ·have:=hr 0 b (yJ a e) (by simp [jA]) ver k c hv.1 ⟨a,e,by simp⟩;rwa [Nat.add_zero] at this
   ·refine G7 r q cs (n+1) (by simpa using hl) hv.2 (fun v x hm=>ho v x (by simp [hm])) (fun v x c hm=>hx v x c (by simp [hm])) ?_;intro j p Bo s d f c' h g;have:=hr (j+1) p Bo (by simpa [jA] using s) d f c' h (by obtain ⟨a,e,g⟩:=g;exact ⟨a,e,by simp [g]⟩);rwa [show n+(j+1)=n+1+j by omega] at this
  ·rw [dm hxo];refine ⟨hx v x c (by simp) hxo hv.1, ?_⟩;refine G7 r q cs n (by simpa using hl) hv.2 (fun v x hm=>ho v x (by simp [hm])) (fun v x c hm=>hx v x c (by simp [hm])) ?_;intro j p Bo s d f c' h g;exact hr j p Bo (by rw [iC hxo];exact s) d f c' h (by obtain ⟨a,e,g⟩:=g;exact ⟨a,e,by simp [g]⟩)
 | [],_::_,_,_,hl,_,_,_,_=>by simp at hl
 |_::_,[],_,_,hl,_,_,_,_=>by simp at hl
 | [],[],_::_,_,_,hv,_,_,_=>by simp [aS] at hv
 |_::_,_::_,[],_,_,hv,_,_,_=>by simp [aS] at hv
theorem Jo {α β:Type} {f:α→Option β}:∀ {l:List α} {l':List β},fP f l=some l'→∀ x y,(x,y) ∈ l.zip l'→f x=some y
 | [],l',h,x,y,hm=>by simp at hm
 | a::r,l',h,x,y,hm=>by
  simp only [fP] at h;split at h
  ·rename_i b c;split at h
   ·rename_i q d;cases h;simp only [List.zip_cons_cons,List.mem_cons,Prod.mk.injEq] at hm;rcases hm with ⟨rfl,rfl⟩|hm
    ·exact c
    ·exact Jo d x y hm
   ·cases h
  ·cases h
theorem O6 {α β:Type} {l:List α} {b:List β} {x:α} {y:β} (h:(x,y) ∈ l.zip b):∃ i:Nat,l[i]? =some x∧b[i]? =some y:=by
 obtain ⟨i,a⟩:=List.mem_iff_getElem?.1 h;rw [List.getElem?_zip_eq_some] at a;exact ⟨i,a⟩
theorem VC {g:bD} {m:aB} {S:au} {l:List AV} {vs:List Value} (h:aS g m S l vs) {x:AV} (a:x ∈ l):∃ v,VR g m S x v:=by
 obtain ⟨i,b⟩:=List.mem_iff_getElem?.1 a;obtain ⟨v,_,c⟩:=pg h i b;exact ⟨v,c⟩
end AM
namespace AM
open Go
section
variable {P:Program} {ap:AP}
theorem lL {h0 I:List az} {hp:Hp} {m m0:aB} {S S0:au} {w w0:World} {vs l:List AV} {cvs:List Value} (V:aZ ap (ai hp) m S w) (z:Fr (ax h0) m0 S0 w0 (ai hp) m S w) (hv:aS (ai hp) m S vs cvs)
  {N:Nat} (hN:h0.length≤N) (hl:fP (nH N (ai hp) (vs.flatMap (cl (ai hp)))) vs=some l) (hh':fP (ai hp) (Ψ N)=some I) (hbase:I.all (fun B=>B.pr||(bg B.cells).all fun b=>Nat.blt b N)=true):
  ∃ m' S',aZ ap (ax (I++(eQ I.length l).2)) m' S' w∧Fr (ax h0) m0 S0 w0 (ax (I++(eQ I.length l).2)) m' S' w∧gY (ax I) (ax (I++(eQ I.length l).2)) m' S' I.length l cvs:=by
 have Y:=(fA hl).1;have hz:∀ v x,(v,x) ∈ vs.zip l→Ey N (ai hp) (vs.flatMap (cl (ai hp))) v x:=fun v x hm=>wU (Jo hl v x hm)
 have K:∀ v x,(v,x) ∈ vs.zip l→(∃ M k e,x= .own M k e)→∃ (b n:Nat) (B:az),v= .ref b B.ver 0 n∧ai hp b=some B∧N≤b∧B.fro=false∧B.pr=true∧eX (vs.flatMap (cl (ai hp))) b=1∧0<B.esz∧x= .own (B.cells.take (n*B.esz)) n B.esz:=by
  rintro v x hm ⟨M,k,e,rfl⟩
  obtain ⟨c,R⟩:=VC hv (List.of_mem_zip hm).1;generalize hxe:AV.own M k e=x at hm;cases hz v x hm with
  |own a d p t A O=>exact ⟨_,_,_,rfl,a,d,p,t,A,O,rfl⟩
  |low a=>exact absurd hxe.symm (uX R _ _ _)
  |frz a d=>
   refine absurd hxe.symm (Ba (jf V (fun b B g=> ?_) 6 v c x d R) _ _ _);split at g
   ·exact g
   ·cases g
 generalize J:jA vs l=obs;have hbs:∀ n,(eQ n l).2=obs.map (·.2):=by
  intro n;rw [← J];refine Dv vs l n Y.symm fun v x hm W=> ?_
  obtain ⟨b,n',B,a,_⟩:=K v x hm W;exact ⟨b,_,0,n',a⟩
 rw [hbs];have C:∀ b Bo,(b,Bo) ∈ obs→∃ (n:Nat) (B:az),ai hp b=some B∧N≤b∧B.fro=false∧B.pr=true∧eX (vs.flatMap (cl (ai hp))) b=1∧0<B.esz∧Bo=yJ (B.cells.take (n*B.esz)) B.esz∧(AV.ref b B.ver 0 n,AV.own (B.cells.take (n*B.esz)) n B.esz) ∈ vs.zip l:=by
  intro b Bo hm;rw [← J] at hm;obtain ⟨ver,i,n,M,k,e,a,d⟩:=yK hm;obtain ⟨b',n',B,p,t,A,O,U,T,X,D⟩:=K _ _ a ⟨M,k,e,rfl⟩;cases p;cases D;exact ⟨_,B,t,A,O,U,T,X,d,a⟩
 have hobd:∀ (k k' b:Nat) (Bo Bo':az),obs[k]? =some (b,Bo)→obs[k']? =some (b,Bo')→k=k':=by
  intro k k' b Bo Bo' a d;obtain ⟨n,B,_,_,_,_,A,_⟩:=C b Bo (ο a);by_cases s:k=k'
  ·exact s
  ·have p:=xZ (f:=fun q:Nat × az=> [q.1]) obs k k' _ _ a d s (b:=b) (by simp) (by simp);have t:=Dl (rd:=ai hp) (b:=b) vs l;rw [J] at t;omega
 have hobx:∀ b Bo,(b,Bo) ∈ obs→∀ v x,(v,x) ∈ vs.zip l→(∀ M k e,x ≠ .own M k e)→b ∉ cl (ai hp) v:=by
  intro b Bo hm v x hvx W g;obtain ⟨n,B,_,_,_,_,A,_,_,O⟩:=C b Bo hm;obtain ⟨i,U,T⟩:=O6 O;obtain ⟨j,X,D⟩:=O6 hvx;have hne:i ≠ j:=by
   rintro rfl
   rw [T] at D;cases D;exact W _ _ _ rfl
  have:=xZ (f:=cl (ai hp)) vs i j _ _ U X hne (b:=b) (Td (by simp [bZ])) g;omega
 have hl0:I.length=N:=by rw [(fA hh').1];simp
 have L:∀ b,b<N→∃ B,ai hp b=some B∧ax I b=some B:=by
  intro b g;obtain ⟨B,a,d⟩:=(fA hh').2 b b (by simp [g]);exact ⟨B,d,a⟩
 have hlow':∀ b B,ax I b=some B→b<N∧ai hp b=some B:=by
  intro b B g;have G:b<N:=by
   have:=(List.getElem?_eq_some_iff.1 g).1;omega
  obtain ⟨B',a,d⟩:=L b G;rw [g] at d;cases d;exact ⟨G,a⟩
 let rdF:bD:=open Classical in fun b=>if ∃ v x,(v,x) ∈ vs.zip l∧(∀ M k e,x ≠ .own M k e)∧b ∈ cl (ai hp) v∧∀ y ∈ cl (ai hp) v,N≤y then ai hp b else none
 have Q:∀ b B,rdF b=some B→ai hp b=some B∧N≤b∧∀ Bo,(b,Bo) ∉ obs:=by
  intro b B g;dsimp only [rdF] at g;split at g
  ·rename_i R;obtain ⟨v,x,a,d,p,t⟩:=R;exact ⟨g,t b p,fun Bo hm=>hobx b Bo hm v x a d p⟩
  ·cases g
 have r:=jT S m rdF w
 let m':aB:=fun i=>if i<N then m i else m ((obs.map (·.1)).getD (i - N) 0)
 have hm'lo:∀ i,i<N→m' i=m i:=fun i E=>if_pos E
 have hm'hi:∀ (k b:Nat) (Bo:az),obs[k]? =some (b,Bo)→m' (N+k)=m b:=by
  intro k b Bo s;show (if _ then _ else _)=_;rw [if_neg (by omega),show N+k - N=k by omega,List.getD_eq_getElem?_getD,φ,s];rfl
 have hgf:∀ i Bi,ax (I++obs.map (·.2)) i=some Bi→(i<N∧ai hp i=some Bi∧ax I i=some Bi)∨(∃ k b,i=N+k∧obs[k]? =some (b,Bi)):=by
  intro i Bi E;by_cases G:i<N
  ·rw [dU (by omega)] at E;exact .inl ⟨G,(hlow' i Bi E).2,E⟩
  ·rw [g_ (by omega),hl0] at E;right;refine ⟨i - N, ?_⟩;have hi':(obs.map (·.2))[i - N]? =some Bi:=E;rw [φ,Ξ] at hi';obtain ⟨⟨b,Bo⟩,a,d⟩:=hi';exact ⟨b,by omega,by rw [a];simp at d;rw [d]⟩
 have hgfk:∀ (k b:Nat) (Bo:az),obs[k]? =some (b,Bo)→ax (I++obs.map (·.2)) (N+k)=some Bo:=by
  intro k b Bo s;rw [g_ (by omega),hl0,show N+k - N=k by omega];show (obs.map (·.2))[k]? =_;rw [φ,s];rfl
 have F:∀ i Bi,ax (I++obs.map (·.2)) i=some Bi→∃ b B,ai hp b=some B∧m' i=m b∧((i<N∧b=i∧Bi=B)∨(N≤b∧∃ k,i=N+k∧obs[k]? =some (b,Bi))):=by
  intro i Bi E;rcases hgf i Bi E with ⟨a,d,p⟩|⟨k,b,rfl,s⟩
  ·exact ⟨i,Bi,d,hm'lo i a,.inl ⟨a,rfl,rfl⟩⟩
  ·obtain ⟨n,B,a,d,_⟩:=C b Bi (ο s);exact ⟨b,B,a,hm'hi k b Bi s,.inr ⟨d,k,rfl,s⟩⟩
 refine ⟨m',bP S m rdF w, ?_, ?_, ?_⟩
 ·refine ⟨?_, ?_,fun k o v h=>kE V h, ?_, ?_⟩
  ·intro i j Bi Bj E hj e;obtain ⟨b,B,a,d,p⟩:=F i Bi E;obtain ⟨b',B',h1',h2',h3'⟩:=F j Bj hj;rw [d,h2'] at e;have:=V.inj b b' B B' a h1' e;subst this;rcases p with ⟨t,rfl,_⟩|⟨t,k,rfl,s⟩<;>rcases h3' with ⟨h4',rfl,_⟩|⟨h4',k',rfl,hk'⟩
   ·rfl
   ·omega
   ·omega
   ·rw [hobd k k' b _ _ s hk']
  ·intro i Bi E;rcases hgf i Bi E with ⟨a,d,p⟩|⟨k,b,rfl,s⟩
   ·rw [hm'lo i a];obtain ⟨⟨cur,e,us,rest,k1,k2,k3,k4,k5,k6⟩,k7,k8⟩:=V.blk i Bi d;refine ⟨⟨cur,e,us,rest,k1,k2,fun hp=>aW r _ (k3 hp), ?_,k5,k6⟩,k7,k8⟩;cases hpr:Bi.pr with
    |true=>exact aV _ (aW r _ (k3 hpr))
    |false=>
     refine jd r _ (fun b g=> ?_) k4;have A:=List.all_eq_true.1 hbase Bi (ο p);rw [hpr] at A;simp only [Bool.false_or] at A;have O:=dW (List.all_eq_true.1 A b g);obtain ⟨B,U,T⟩:=L b O;exact ⟨by rw [dU (by omega),T,U],hm'lo b O⟩
   ·obtain ⟨n,B,a,d,p,t,A,O,rfl,_⟩:=C b Bi (ο s);rw [hm'hi k b _ s];obtain ⟨⟨cur,e,us,rest,k1,k2,k3,k4,k5,k6⟩,k7,k8⟩:=V.blk b B a;have hp:=aW r _ (jo (n*B.esz) (k3 t));refine ⟨⟨cur,e,us.take (n*B.esz),us.drop (n*B.esz)++rest,k1, ?_,fun _=>hp,aV _ hp,fun hz u hu=>k5 hz u (List.mem_of_mem_take hu),k6⟩,fun _=>rfl,Xqn _⟩;rw [← List.append_assoc,List.take_append_drop];exact k2
  ·intro i Bi E o v ho;obtain ⟨b,B,a,d,p⟩:=F i Bi E;rw [d] at ho;have hno:rdF b=none:=by
    cases hr:rdF b with
    |none=>rfl
    |some B'=>
     obtain ⟨_,t,A⟩:=Q b B' hr;rcases p with ⟨O,rfl,_⟩|⟨_,k,_,s⟩
     ·omega
     ·exact absurd (ο s) (A _)
   have hSo:S (m b).1 o=some v:=by
    rcases eU ho with h|⟨_,b',B',t,A,_⟩
    ·exact h
    ·have:=V.inj b' b B' B (Q b' B' t).1 a A;subst this;rw [hno] at t;cases t
   obtain ⟨U,T⟩:=V.own b B a o v hSo;rcases p with ⟨_,rfl,rfl⟩|⟨_,k,_,s⟩
   ·exact ⟨U,T⟩
   ·obtain ⟨n,B2,X,_,D,_⟩:=C b _ (ο s);rw [a] at X;cases X;rw [U] at D;cases D
  ·intro k M s;obtain ⟨us,a,d⟩:=V.glob k M s;exact ⟨us,aW r _ a,d.mono r⟩
 ·refine ⟨?_,z.sle.trans r,z.os,z.tape,z.output,z.size,z.rest, ?_, ?_,fun i Bi E=>by
   obtain ⟨b,B,a,d,_⟩:=F i Bi E;rw [d];exact z.mw b B a⟩
  ·intro b B0 g;have G:b<N:=Xqy (List.getElem?_eq_some_iff.1 g).1 hN;obtain ⟨B,a,d,p⟩:=z.ge b B0 g;obtain ⟨B',t,A⟩:=L b G;rw [a] at t;cases t;exact ⟨B,by rw [dU (by omega)];exact A,d,by rw [hm'lo b G];exact p⟩
  ·intro i Bi E;obtain ⟨b,B,a,d,p⟩:=F i Bi E;rw [d];rcases z.img b B a with h|⟨B0,t,A⟩
   ·exact .inl h
   ·have G:b<N:=Xqy (List.getElem?_eq_some_iff.1 t).1 hN;rcases p with ⟨_,rfl,_⟩|⟨O,_⟩
    ·exact .inr ⟨B0,t,A⟩
    ·omega
  ·intro k o v hv;rcases eU hv with h|⟨_,b,B,a,d,_⟩
   ·exact z.sealN k o v h
   ·obtain ⟨p,t,_⟩:=Q b B a;rcases z.img b B p with h|⟨B0,A,_⟩
    ·exact .inr (.inl (d ▸ h))
    ·have:=(List.getElem?_eq_some_iff.1 A).1;omega
 ·rw [hl0];refine G7 (rd:=ai hp) (m:=m) (S:=S) vs l cvs N Y.symm hv ?_ ?_ ?_
  ·intro v x hm W;obtain ⟨b,n,B,a,_,_,_,_,_,_,d⟩:=K v x hm W;exact ⟨b,B.ver,n,a,_,_,d⟩
  ·intro v x c hm W R;cases hz v x hm with
   |own _ _ _ _ _ _=>exact absurd rfl (W _ _ _)
   |low a=>
    refine lF r v (fun b g=> ?_) R;obtain ⟨B,d,p⟩:=L b (a b g);exact ⟨by rw [p,d],hm'lo b (a b g)⟩
   | frz a d=>
    have p:=jf V (fun b B g=>by split at g;exact g;cases g) 6 v c x d R;refine ed x (bn (JS fun b B g=> ?_) x p);split at g
    ·rename_i hm2;dsimp only [rdF];rw [if_pos ⟨v,x,hm,W,fQ.1 hm2,a⟩];exact g
    ·cases g
  ·rw [J];intro k b Bo s ver n' c R Z;obtain ⟨n,B,a,d,p,t,A,O,rfl,U⟩:=C b Bo (ο s);obtain ⟨M,e,Z⟩:=Z;have hver:ver=B.ver:=by
    obtain ⟨b2,n2,B2,e1,e2,_⟩:=K _ _ Z ⟨M,_,e,rfl⟩;cases e1;rw [a] at e2;cases e2;rfl
   subst hver;simp only [VR] at R ⊢;obtain ⟨B',T,_,X,D⟩:=R;rw [a] at T;cases T;refine ⟨_,hgfk k b _ s,Xqn _,X,fun _=> ?_⟩;rw [hm'hi k b _ s];exact D rfl
end
end AM
namespace AM
open Go
section
variable {P:Program} {ap:AP}
theorem Ep (l:di P ap) {env:dG} {hp:Hp} {m:aB} {S:au} {w:World} {tmps:Array Value} (E:aZ ap (ai hp) m S w) (u:∀ t,VR (ai hp) m S (env.get t) (tmps.getD t undef)) {r:ResultVar} {v:AV} {bs:List Bool}
  (h:tX ap env hp r=some (v,bs)) (hbs:∀ b ∈ bs,b=true):∃ cv,(Ff tmps r).run P w= .ok cv w∧VR (ai hp) m S v cv:=by
 cases r with
 |tmp t=>
  simp only [tX,Option.some.injEq,Prod.mk.injEq] at h;obtain ⟨rfl,rfl⟩:=h;exact ⟨_,rfl,u t⟩
 | cell a t=>
  simp only [tX] at h;have A:=bind_some h;clear h;obtain ⟨K,p,h⟩:=A;simp only [Ξ] at h;obtain ⟨⟨J,ups,D⟩,j,y⟩:=h;simp only [Prod.mk.injEq] at y;obtain ⟨rfl,rfl⟩:=y;obtain ⟨i,d,z,G⟩:=bQ l p;have c:=u a;obtain ⟨_,cv,s,C⟩:=zy E (fun b B F=>F) G c j hbs;refine ⟨cv, ?_,C⟩;have g:∃ x,tmps.getD a undef= .pointer (some x):=by
   unfold Jl at j;split at j
   ·rename_i I n f;rw [f] at c;simp only [VR,PR] at c;obtain ⟨b,o,vs,e,_⟩:=c;exact ⟨_,e⟩
   ·rename_i b ver n f;rw [f] at c;simp only [VR] at c;obtain ⟨B,_,_,⟨k,o,e⟩,_⟩:=c;exact ⟨_,e⟩
   ·cases j
  obtain ⟨x,q⟩:=g;rw [q] at s;simp only [Ff,q];exact s
theorem iK (a:di P ap) {env:dG} {hp:Hp} {m:aB} {S:au} {w:World} {tmps:Array Value} (f:aZ ap (ai hp) m S w) (g:∀ t,VR (ai hp) m S (env.get t) (tmps.getD t undef)):
  ∀ {rs:List ResultVar} {vs:List (AV × List Bool)},fP (tX ap env hp) rs=some vs→(∀ b ∈ vs.flatMap (·.2),b=true)→∃ cvs:List Value,rs.length=cvs.length∧aS (ai hp) m S (vs.map (·.1)) cvs∧∀ (i:Nat) (r:ResultVar) (v:Value),rs[i]? =some r→cvs[i]? =some v→(Ff tmps r).run P w= .ok v w
 | [],vs,h,_=>by
  simp [fP] at h;subst h;exact ⟨[],rfl,by simp [aS],fun i r v h=>by simp at h⟩
 | r::rs,vs,h,hbs=>by
  simp only [fP] at h;split at h
  ·rename_i q j;split at h
   ·rename_i l x;cases h;obtain ⟨v,bs⟩:=q;obtain ⟨cv,p,s⟩:=Ep a f g j (fun b d=>hbs b (by simp [d]));obtain ⟨cvs,u,n,o⟩:=iK a f g x (fun b d=>hbs b (by rw [Xqa];exact List.mem_append.2 (.inr d)));refine ⟨cv::cvs,by simp [u],by simp only [Γ,aS];exact ⟨s,n⟩, ?_⟩;intro i r' k c e;cases i with
    |zero=>simp at c e;subst c;subst e;exact p
    |succ i=>exact o i r' k (by simpa using c) (by simpa using e)
   ·cases h
  ·cases h
theorem Io {gh gf:bD} {m:aB} {S:au} {n:Nat} {x:AV} {v:Value} (h:gY gh gf m S n [x] [v]):uV gh gf m S n x v∧(iE n x).2=(eQ n [x]).2:=by
 rcases jy x with ⟨i,k,e,rfl⟩|hx
 ·simp only [gY] at h;exact ⟨h.1,rfl⟩
 ·rw [dm hx] at h;rcases yT x with ⟨l,rfl⟩|ht
  ·have f:=h.1;simp only [VR] at f;obtain ⟨vs,rfl,g⟩:=f;have key:∀ (l:List AV) (vs:List Value) (n:Nat),aS gh m S l vs→gY gh gf m S n l vs∧(eQ n l).2= []:=by
    intro l
    induction l with
    |nil=>intro vs n a;cases vs with
     |nil=>exact ⟨by simp [gY],rfl⟩
     |cons _ _=>simp [aS] at a
    | cons y r ih=>intro vs n a;cases vs with
     |nil=>simp [aS] at a
     |cons u us=>
      simp only [aS] at a;have b:=uX a.1;obtain ⟨d,c⟩:=ih us n a.2;rw [dm b,bJ n b];exact ⟨⟨a.1,d⟩,c⟩
   obtain ⟨d,c⟩:=key l vs n g;refine ⟨?_, ?_⟩
   ·simp only [uV];exact ⟨vs,rfl,d⟩
   ·simp only [iE,eQ];exact c
  ·rw [jK hx ht,ig n hx ht,bJ n hx];exact ⟨h.1,rfl⟩
theorem uf (rd:bD) (n:Nat):n≤Qn rd n:=by
 obtain ⟨_,t,a⟩:=lI rd 20 (Ψ n) List.nodup_range;unfold Qn;rw [a,List.length_append,List.length_range];exact Nat.le_add_right _ _
theorem j_ (o:di P ap) {h0 p:List az} {G:Func} {env:dG} {hp:Hp} {m m0:aB} {S S0:au} {w w0:World} {tmps:Array Value} {c c':Cx} {out:gV} (h:tV ap h0.length G env hp c= .ok (out,p) c') (F:c'.Ok):
  c.Ok∧h0.length≤p.length∧(aZ ap (ai hp) m S w→Fr (ax h0) m0 S0 w0 (ai hp) m S w→(∀ t,VR (ai hp) m S (env.get t) (tmps.getD t undef))→
   ∃ cv,(results G tmps).run P w= .ok cv w∧∃ k S',zT ap h0 m0 S0 w0 out p k S' w (.returned cv)):=by
 unfold tV at h;dsimp only at h;split at h
 ·rename_i vs J n b;split at h
  ·cases h
  ·rename_i hbase;obtain ⟨_,K,I,h⟩:=R.bind_ok h;split at h
   ·rename_i v j;cases h;obtain ⟨e,f⟩:=Gn I F;have hlen':h0.length≤p.length:=by rw [(fA b).1];simpa using uf _ _
    refine ⟨e,hlen',fun r g D=> ?_⟩;obtain ⟨cvs,A,s,B⟩:=iK o r D n f;have a:(vs.flatMap fun q=>lH (ai hp) 6 (fJ (bZ q.1)))=(vs.map (·.1)).flatMap (cl (ai hp)):=by rw [Xj9];rfl
    rw [a] at j;obtain ⟨k,S',x,y,z⟩:=lL r g s (uf _ _) j b hbase;have C:cvs.length=1:=by
     have:=aU s;have i:=(fA j).1;simp at i this;omega
    match cvs,C with
    | [cv],_=>
     obtain ⟨i,E⟩:=Io z;refine ⟨cv,kD A B,k,S', ?_⟩;rw [← E] at x y;refine ⟨x,y,cv,rfl, ?_⟩;rw [E];exact i
   ·rename_i l d j;cases h;obtain ⟨e,f⟩:=Gn I F;have hlen':h0.length≤p.length:=by rw [(fA b).1];simpa using uf _ _
    refine ⟨e,hlen',fun r g D=> ?_⟩;obtain ⟨cvs,A,s,B⟩:=iK o r D n f;have a:(vs.flatMap fun q=>lH (ai hp) 6 (fJ (bZ q.1)))=(vs.map (·.1)).flatMap (cl (ai hp)):=by rw [Xj9];rfl
    rw [a] at j;obtain ⟨k,S',x,y,z⟩:=lL r g s (uf _ _) j b hbase;have u:Og cvs= .tuple cvs.toArray:=by
     match cvs with
     | []=>rfl
     | [cv]=>
      exfalso;have:=aU s;have i:=(fA j).1;simp at i this
      match l,d with
      | [],_=>simp at i;omega
      | [v],d=>exact d v rfl
      |_::_::_,_=>simp at i;omega
     |_::_::_=>rfl
    refine ⟨_,kD A B,k,S',x,y, ?_⟩;rw [u];exact ⟨_,rfl,cvs,rfl,z⟩
   ·cases h
 ·cases h
theorem xm {h0 g:List az} {v:AV} {hp:Hp} {m m0:aB} {S S0:au} {w w0:World} {c c':Cx} {out:gV} (h:Ha h0.length v hp c= .ok (out,g) c'):
  c=c'∧h0.length≤g.length∧(aZ ap (ai hp) m S w→Fr (ax h0) m0 S0 w0 (ai hp) m S w→∀ cv,VR (ai hp) m S v cv→(∀ b ver n,v ≠ .ref b ver 0 n)→
   ∃ o S',zT ap h0 m0 S0 w0 out g o S' w (.panicked [{v:=cv,recovered:=false}])):=by
 unfold Ha at h;dsimp only at h;split at h
 ·rename_i p x d f;split at h
  ·cases h
  ·rename_i hbase;cases h;have hlen':h0.length≤g.length:=by rw [(fA f).1];simpa using uf _ _
   refine ⟨rfl,hlen',fun u i cv s t=> ?_⟩;have z:fP (nH (Qn (ai hp) h0.length) (ai hp) ([v].flatMap (cl (ai hp)))) [v]=some [p]:=by
    simp only [Xqa,Xj7,μ,fP];have y:nH (Qn (ai hp) h0.length) (ai hp) (cl (ai hp) v) v=some p:=d;rw [y]
   obtain ⟨o,S',q,r,l⟩:=lL u i (vs:= [v]) (cvs:= [cv]) (by simp only [aS];exact ⟨s,trivial⟩) (uf _ _) z f hbase;have a:∀ xs k e,p ≠ .own xs k e:=by
    rintro xs k e rfl
    cases wU d with
    |own h1 h2 h3 q r l=>exact t _ _ _ rfl
    |low h1=>exact uX s _ _ _ rfl
    |frz h1 h2=>
     exact Ba (jf u (fun b B j=>by split at j;exact j;cases j) 6 v cv _ h2 s) _ _ _ rfl
   rw [dm a] at l;rw [bJ _ a] at q r;exact ⟨o,S',q,r,cv,rfl,l.1⟩
 ·cases h
end
end AM
namespace AM
open Go
def n_ (S:au):AV→FrameMode→Prop
 | .nilI,u=>u= .returning
 | .ifc t v,u=> ∃ cv,u= .panicking [{v:=cv,recovered:=false}]∧PR S (.ifc t v) cv
 |_,_=>False
def Ku (md md':AV) (u u':FrameMode):Prop:=(md'=md∧u'=u)∨(md'= .nilI∧settle u'= .returning)
structure Vu (P:Program) (ap:AP) (f:Nat) (args:List AV) (h:List az) (out:gV) (h':List az) (md md':AV):Prop where
 ent:oV P f
 calls:∀ m S w cargs u,aZ ap (ax h) m S w→aS (ax h) m S args cargs→n_ S md u→CallsD P f cargs.toArray u w fun e u' w'=>(∃ m' S',zT ap h m S w out h' m' S' w' e)∧Ku md md' u u'
def oW (P:Program) (ap:AP) (H:bi):Prop:=∀ c md f args h out h' md' c',md ≠ .dead→H c md f args h= .ok (out,h',md') c'→c'.Ok→c.Ok∧Vu P ap f args h out h' md md'
structure Ed (P:Program) (ap:AP):Prop where
 fn:∀ (f:Nat) (F:AF),ap.fnAt f=some F→P.funcs[f]? =some F.fn
 body:∀ (f:Nat) (F:AF),ap.fnAt f=some F→∃ c,F.fn.body=some c∧dA F.fn.ntmps c=true
 name:∀ (f:Nat) (F:AF),ap.fnAt f=some F→(F.fn.name== "runtime.NumGoroutine")=false
section
variable {P:Program} {ap:AP} {H:bi}
theorem sQ (a:Ed P ap) {f:Nat} {F:AF} (b:ap.fnAt f=some F):oV P f:=by
 intro args w;obtain ⟨c,d,_⟩:=a.body f F b;unfold callFunc;rw [Sem.run_bind];have:(program).run P w= .ok P w:=rfl;rw [this,Result.andThen_ok,a.fn f F b];dsimp only;rw [a.name f F b];simp [d]
theorem JX {S:au} {md:AV} {u:FrameMode} (h:n_ S md u):settle u=u∧u ≠ .run:=by
 cases md<;>simp only [n_] at h
 ·obtain ⟨cv,rfl,_⟩:=h;exact ⟨rfl,by simp⟩
 ·subst h;exact ⟨rfl,by simp⟩
theorem nJ (D:di P ap) (O:oW P ap H):
  ∀ (dfs:List (Nat × List AV)) (mode mode':AV) (hp hp':Hp) (c c':Cx),CE ap H dfs mode hp c= .ok (mode',hp') c'→c'.Ok→c.Ok∧
   ∀ (h0:List az) (p:Func) (tmps:Array Value) (env:dG) (RR:Ending→World→Prop) (m0:aB) (S0:au) (w0:World) m S w j u,aZ ap (ai hp) m S w→Fr (ax h0) m0 S0 w0 (ai hp) m S w→(∀ t,VR (ai hp) m S (env.get t) (tmps.getD t undef))→dR (ai hp) m S dfs j→n_ S mode u→
   (∀ m' S' w' l,aZ ap (ai hp') m' S' w'→Fr (ax h0) m0 S0 w0 (ai hp') m' S' w'→(∀ t,VR (ai hp') m' S' (env.get t) (tmps.getD t undef))→n_ S' mode' l→Leaves P p tmps RR [] l w')→Leaves P p tmps RR j u w
 | [],mode,mode',hp,hp',c,c',h,hc=>by
  cases h;refine ⟨hc,fun h0 p tmps env RR m0 S0 w0 m S w j u G k K s hm z=> ?_⟩;cases j with
  |nil=>exact z m S w u G k K hm
  |cons _ _=>simp [dR] at s
 | (f, args)::r,mode,mode',hp,hp',c,c',h,hc=>by
  simp only [CE] at h;split at h
  ·cases h
  ·rename_i hrefs;simp only [ε] at hrefs;have L:mode ≠ .dead:=by rintro rfl;cases hrefs.1
   obtain ⟨q,c1,e1,h⟩:=R.bind_ok h;split at h
   ·rename_i v x;obtain ⟨I,X⟩:=nJ D O r q.md mode' (q.ups++hp) hp' c1 c' h hc;obtain ⟨args0,Z,T,U,Y,N,V⟩:=wH e1;obtain ⟨A,M⟩:=O _ _ _ _ _ _ _ _ _ L Y I;refine ⟨A,fun h0 p tmps env RR m0 S0 w0 m S w j u G k K s hm z=> ?_⟩;cases j with
    |nil=>simp [dR] at s
    | cons d j=>
     simp only [dR] at s;obtain ⟨⟨cap,Q,h2⟩,h3⟩:=s;have hfresh:∀ i,i<4→ai hp (dV hp+i)=none:=by
      intro i _;cases hb:ai hp (dV hp+i) with
      |none=>rfl
      |some B=>have:=jR hb;omega
     have hcall:=V (ai hp) m S w (d.args++cap).toList (fun cargs R=>CallsD P f cargs.toArray u w fun e l w'=>R e w'∧Ku mode q.md u l)
      (fun cargs R R' n a=>CallsD.mono n fun e l w' g=> ⟨a e w' g.1,g.2⟩) G (fun b _ B W=>W) hfresh h2
      (fun m1 S1 J n a=>M.calls m1 S1 w _ u n a (by
       cases mode<;>simp only [n_] at hm ⊢
       ·obtain ⟨cv,F,g⟩:=hm;exact ⟨cv,F,bn J _ g⟩
       ·exact hm))
     obtain ⟨o,E⟩:=JX hm;refine ⟨E,.func f,cap,f,d.args++cap,Q, ?_, ?_⟩
     ·rw [Q];exact M.ent _ w
     ·rw [Array.toArray_toList] at hcall;refine CallsD.mono hcall ?_
      rintro e l w' ⟨⟨m',S',n,a,g⟩,h7⟩
      rw [x] at g;obtain ⟨cv,rfl,g⟩:=g;rw [jl] at n a g;refine X h0 p tmps env RR m0 S0 w0 m' S' w' j (settle l) n (k.trans a) (fun t=>jW a.sle a.ge _ (K t)) (sN a.sle a.ge h3) ?_ z;rcases h7 with ⟨y,rfl⟩|⟨y,h9⟩
      ·rw [o,y];cases mode<;>simp only [n_] at hm ⊢
       ·obtain ⟨cv,F,C⟩:=hm;exact ⟨cv,F,bn a.sle _ C⟩
       ·exact hm
      ·rw [y,h9];rfl
   ·cases h
theorem dK {n f:Nat} (h:n≤f):∀ (c:Code),dA n c=true→dA f c=true
 | .region _ ops _,hd=>by
  simp only [dA,List.all_eq_true] at hd ⊢;intro o g;have:=hd o g;unfold qE at this ⊢;split
  ·rename_i d e;rw [e] at this;exact Nat.ble_eq_true_of_le (Nat.le_trans (eG this) h)
  ·rfl
 | .seq a b,hd=>by simp only [dA,ε] at hd ⊢;exact ⟨dK h a hd.1,dK h b hd.2⟩
 | .cond _ a b,hd=>by simp only [dA,ε] at hd ⊢;exact ⟨dK h a hd.1,dK h b hd.2⟩
 | .block _ b,hd=>by simp only [dA] at hd ⊢;exact dK h b hd
 | .loop b,hd=>by simp only [dA] at hd ⊢;exact dK h b hd
 | .scope b,hd=>by simp only [dA] at hd ⊢;exact dK h b hd
 | .skip,_=>rfl
 | .label _,_=>rfl
 | .exit _,_=>rfl
 | .ret,_=>rfl
 | .rangeFunc _ _ _ _,_=>rfl
 | .goto _,_=>rfl
 | .refuse _,_=>rfl
theorem yB {α:Type}:∀ (l:List α) (j t:Nat),ai ((l.zipIdx j).map fun (x,i)=>(i,x)) t=if j≤t then l[t - j]? else none
 | [],j,t=>by simp [ai]
 | a::r,j,t=>by
  rw [List.zipIdx_cons,Γ];simp only [ai];cases h:Δ j t with
  |true=>have:=aA h;subst this;simp
  | false=>
   have b:j ≠ t:=by intro e;subst e;simp at h
   simp only [yB r (j+1) t];by_cases hj:j+1≤t
   ·rw [if_pos hj,if_pos (by omega)];obtain ⟨d,c⟩:∃ d,t - j=d+1:=⟨t - j - 1,by omega⟩
    rw [c,List.getElem?_cons_succ,show t - (j+1)=d by omega]
   ·rw [if_neg hj,if_neg (by omega)]
theorem Ak {h:List az} {args:List AV} {cargs:List Value} {m:aB} {S:au} {w:World} {md:AV} (e:aZ ap (ax h) m S w) (j:aS (ax h) m S args cargs) (n:Nat):
  ai (dZ md args h).hp=ax h∧FR ap (dZ md args h).env (dZ md args h).hp [] (cargs.toArray++Array.replicate (n - cargs.toArray.size) undef).size m S w {tmps:=cargs.toArray++Array.replicate (n - cargs.toArray.size) undef,defers:= []}:=by
 have a:ai (dZ md args h).hp=ax h:=by
  funext b;have:=yB h 0 b;simp only [dZ,ax];rw [this,if_pos (Xqn _),Xz7]
 refine ⟨a,⟨a ▸ e, ?_,by simp [dR],rfl⟩⟩;intro t;rw [a];have f:(dZ md args h).env.get t=(args[t]?).getD .dead:=by
  have:=yB args 0 t;simp only [dZ,dG.get];rw [this,if_pos (Xqn _),Xz7]
 rw [f];cases i:args[t]? with
 |none=>simp [VR]
 | some x=>
  obtain ⟨v,d,g⟩:=pg j t i;have c:=(List.getElem?_eq_some_iff.1 d).1;have:(cargs.toArray++Array.replicate (n - cargs.toArray.size) undef).getD t undef=v:=by
   rw [Array.getD_eq_getD_getElem?,Array.getElem?_append_left (by simpa using c)];simp [d]
  rw [this];exact g
theorem wP (j:di P ap) (L:oW P ap H) {h0 y:List az} {z:Func} {e:aJ} {s:St} {c c':Cx} {out:gV} {D:AV} (h:Aj ap H h0.length z e s c= .ok (out,y,D) c') (F:c'.Ok):
  c.Ok∧h0.length≤y.length∧∀ m0 S0 w0 m S w a nt,Fr (ax h0) m0 S0 w0 (ai s.hp) m S w→FR ap s.env s.hp s.dfs nt m S w a→qy s.hp m S (bodyPostD P z fun e w'=> ∃ q S',zT ap h0 m0 S0 w0 out y q S' w' e) a w e:=by
 have x:∀ mode,((CE ap H s.dfs mode s.hp c).bind fun (mode,hp) c=>
   match mode with
   | .nilI=>(tV ap h0.length z s.env hp c).bind fun (o,h) c=> .ok (o,h,s.md) c
   | .ifc t v=>(Ha h0.length (.ifc t v) hp c).bind fun (o,h) c=> .ok (o,h,s.md) c
   |_=> .bad 74)= .ok (out,y,D) c'→c.Ok∧h0.length≤y.length∧∀ m0 S0 w0 m S w a nt u,Fr (ax h0) m0 S0 w0 (ai s.hp) m S w→FR ap s.env s.hp s.dfs nt m S w a→n_ S mode u→Leaves P z a.tmps (fun e w'=> ∃ q S',zT ap h0 m0 S0 w0 out y q S' w' e) a.defers u w:=by
  intro mode g;obtain ⟨⟨mode',hp'⟩,Q,M,g⟩:=R.bind_ok g;dsimp only at g;split at g
  ·obtain ⟨⟨o,r⟩,N,B,g⟩:=R.bind_ok g;cases g;obtain ⟨I,i,A⟩:=j_ (P:=P) (m:=fun _=>(0,0)) (m0:=fun _=>(0,0)) (S:=fun _ _=>none) (S0:=fun _ _=>none) (w:=default) (w0:=default) (tmps:=#[]) j B F;obtain ⟨p,J⟩:=nJ j L s.dfs mode _ s.hp hp' c Q M I;refine ⟨p,i,fun m0 S0 w0 m S w a nt u d f hm=> ?_⟩;refine J h0 z a.tmps s.env _ m0 S0 w0 m S w a.defers u f.srel d f.env f.dfs hm ?_;intro q S' w' T l k K C;simp only [n_] at C;subst C;obtain ⟨_,_,A⟩:=j_ (P:=P) (m:=q) (m0:=m0) (S:=S') (S0:=S0) (w:=w') (w0:=w0) (tmps:=a.tmps) j B F;obtain ⟨cv,E,U⟩:=A l k K;exact ⟨cv,E,U⟩
  ·rename_i t v;obtain ⟨⟨o,r⟩,N,B,g⟩:=R.bind_ok g;cases g;obtain ⟨rfl,i,_⟩:=xm (ap:=ap) (m:=fun _=>(0,0)) (m0:=fun _=>(0,0)) (S:=fun _ _=>none) (S0:=fun _ _=>none) (w:=default) (w0:=default) B;obtain ⟨p,J⟩:=nJ j L s.dfs mode _ s.hp hp' c _ M F;refine ⟨p,i,fun m0 S0 w0 m S w a nt u d f hm=> ?_⟩;refine J h0 z a.tmps s.env _ m0 S0 w0 m S w a.defers u f.srel d f.env f.dfs hm ?_;intro q S' w' T l k K C;simp only [n_] at C;obtain ⟨cv,rfl,E⟩:=C;obtain ⟨_,_,G⟩:=xm (ap:=ap) (m:=q) (m0:=m0) (S:=S') (S0:=S0) (w:=w') (w0:=w0) B;exact G l k cv (ed _ E) (fun b ver n h=>by cases h)
  ·cases g
 unfold Aj at h;dsimp only at h;split at h
 ·obtain ⟨r,l,k⟩:=x .nilI h;exact ⟨r,l,fun m0 S0 w0 m S w a nt d f=>k m0 S0 w0 m S w a nt .returning d f rfl⟩
 ·obtain ⟨r,l,k⟩:=x .nilI h;exact ⟨r,l,fun m0 S0 w0 m S w a nt d f=>k m0 S0 w0 m S w a nt .returning d f rfl⟩
 ·rename_i t v;split at h
  ·rename_i O;obtain ⟨r,l,k⟩:=x (.ifc t v) h;refine ⟨r,l,fun m0 S0 w0 m S w a nt d f cv V=>k m0 S0 w0 m S w a nt _ d f ⟨cv,rfl, ?_⟩⟩;exact kR (by simpa [bZ] using O) V
  ·cases h
 ·cases h
theorem rq (i:di P ap) (d:P.follows .mixedOrders=true) (j:Ed P ap) (y:gp P ap H) (A:oW P ap H) (lf:Nat):gp P ap fun c md f args h=>lG ap H lf md f args h c:=by
 intro c f args h out E q c' b B;have b:lG ap H lf .dead f args h c= .ok (out,E,q) c':=b;unfold lG at b;split at b
 ·cases b
 ·rename_i F v;dsimp only at b;obtain ⟨⟨e,s⟩,K,t,b⟩:=R.bind_ok b;dsimp only at b;obtain ⟨a,x,g⟩:=j.body f F v;have hbody:af F.fn=a:=by simp [af,x]
  rw [hbody] at t;obtain ⟨n,k,l⟩:=wP i A b B;obtain ⟨o,_⟩:=dQ (nt:=F.fn.ntmps) i d y a g _ _ _ _ _ t n;refine ⟨o,k,sQ j v,fun m S w cargs G I=> ?_⟩;obtain ⟨D,p⟩:=Ak (md:= .dead) G I F.fn.ntmps;have u:F.fn.ntmps≤(cargs.toArray++Array.replicate (F.fn.ntmps - cargs.toArray.size) undef).size:=by simp;omega
  obtain ⟨_,r⟩:=dQ i d y a (dK u a g) _ _ _ _ _ t n;obtain ⟨_,r⟩:=r rfl;refine calls_of_wp_defers (j.fn f F v) x ?_;refine r m S w m S w _ (by rw [D];exact Fr.refl _ _ _ _) p _ ?_;intro z S' w' a' C J;exact l m S w z S' w' a' _ C J
end
end AM
namespace AM
open Go
section
variable {P:Program} {ap:AP} {H:bi}
theorem Qq {o:Oper} {a:Act} {K K':Act→World→Prop} {Q Q':Exit→Act→World→Prop} {r:Result Next} (c:∀ a w,K a w→K' a w) (d:∀ e a w,Q e a w→Q' e a w) (g:¬ LetsOut Q) (h:o.upon P a K Q r):o.upon P a K' Q' r:=by
 cases r with
 | ok n w'=>
  cases n<;>simp only [Oper.upon] at h ⊢ <;>
   first
    |exact c _ _ h
    |exact Calls.mono h (fun e f b=>by cases e<;>first|exact c _ _ b|exact d _ _ _ b|exact absurd b g)
    |exact Rows.mono h (fun _ _ b=>c _ _ b)
 |halt x w'=>cases x<;>simp only [Oper.upon] at h ⊢ <;>exact d _ _ _ h
theorem iO {ops:Array Oper} {Q:Exit→Act→List Frame→World→Prop} {cs:List Frame} {Q':Exit→Act→World→Prop} (c:∀ e a w,Q' e a w→Q e a cs w) (b:¬ LetsOut Q'):∀ (l:List Nat) (a:Act) (w:World),wpOps P ops Q' l a w→wpOpsS P ops Q l a cs w
 | [],a,w,h=>c _ _ _ h
 | i ::rest,a,w,h=>by
  simp only [wpOps] at h;simp only [wpOpsS];cases f:ops[i]? with
  |none=>
   simp only [f] at h ⊢;exact iO c b rest a w h
  | some o=>
   simp only [f] at h ⊢;by_cases hw:Region.wanted o (yielded ops a.tmps)=true
   ·rw [if_pos hw] at h ⊢;rcases h with h|⟨_,h⟩
    ·unfold Oper.wp at h;split
     ·rename_i w' g;rw [g] at h;exact h.elim
     ·exact Qq (fun a w d=>iO c b rest a w d) (fun e a w d=>c e a w d) b h
    ·exact absurd h b
   ·rw [if_neg hw] at h ⊢;exact iO c b rest _ w h
theorem aei {Q:Exit→Act→World→Prop}:¬ LetsOut (fun e a w=>e ≠ .outgrown∧Q e a w):=fun ⟨_,_,h,_⟩=>h rfl
theorem JJ {a:Act} {o:Oper} {args:Array Operand} {argTypes:Array TypeId} (h:o.op= .call {callee:= .builtin .recover,args,argTypes}) (w:World):(execOp a.eval o).run P w= .ok .recover w:=by
 unfold execOp;rw [h];rfl
theorem FR.env_cons {env:dG} {hp:Hp} {dfs:List (Nat × List AV)} {nt:Nat} {m:aB} {S:au} {w:World} {a:Act} (h:FR ap env hp dfs nt m S w a) {d:Nat} (b:d<nt) {v:AV} {cv:Value} (c:VR (ai hp) m S v cv):FR ap ((d,v)::env) hp dfs nt m S w (a.put (some d) cv):=by
 refine ⟨h.srel,fun t=> ?_,by rw [lZ];exact h.dfs,by rw [ay];exact h.size⟩;by_cases ht:d=t
 ·subst ht;rw [cZ _ _ _ (by rw [h.size];exact b)];have:dG.get ((d,v)::env) d=v:=gZ (env:=env);rw [this];exact c
 ·rw [jS _ _ _ (fun e=>ht (by cases e;rfl))];have:dG.get ((d,v)::env) t=env.get t:=wQ (env:=env) (dst:=some d) (fun e=>ht (by cases e;rfl));rw [this];exact h.env t
theorem wG (l:di P ap) (C:P.follows .mixedOrders=true) (G:Ed P ap) (hH:gp P ap H) (lf:Nat):oW P ap fun c md f args h=>lG ap H lf md f args h c:=by
 intro c md f args h out h' K c' hmd g hc;have g:lG ap H lf md f args h c= .ok (out,h',K) c':=g;unfold lG at g;split at g
 ·cases g
 ·rename_i F hF;split at g
  ·exact absurd rfl hmd
  ·split at g
   ·rename_i hrefs;simp only [ε] at hrefs;obtain ⟨L,J,k⟩:=G.body f F hF;have hbody:af F.fn=L:=by simp [af,J]
    unfold QR at g;rw [hbody] at g;split at g
    ·rename_i id ops rest;split at g
     ·rename_i o r j;split at g
      ·rename_i args' argTypes d hop hg hd;dsimp only at g;obtain ⟨⟨s1,p⟩,c1,e1,g⟩:=R.bind_ok g;dsimp only at g;split at g
       ·cases g
       ·obtain ⟨⟨e,s2⟩,c2,e2,g⟩:=R.bind_ok g;dsimp only at g;split at g
        ·cases g
        ·rename_i N;have z:∃ U,(e= .normal∨e= .ret)∧tV ap h.length F.fn s2.env s2.hp c2= .ok (out,h') U∧K= .nilI∧U=c':=by
          split at g
          ·obtain ⟨⟨o1,h1⟩,U,I,g⟩:=R.bind_ok g;cases g;exact ⟨_,.inl rfl,I,rfl,rfl⟩
          ·obtain ⟨⟨o1,h1⟩,U,I,g⟩:=R.bind_ok g;cases g;exact ⟨_,.inr rfl,I,rfl,rfl⟩
          ·cases g
         obtain ⟨U,z,I,rfl,rfl⟩:=z;obtain ⟨W,hlen,_⟩:=j_ (P:=P) (m:=fun _=>(0,0)) (m0:=fun _=>(0,0)) (S:=fun _ _=>none) (S0:=fun _ _=>none) (w:=default) (w0:=default) (tmps:=#[]) l I hc;simp only [dA,ε] at k;obtain ⟨O,_⟩:=dQ (nt:=F.fn.ntmps) l C hH rest k.2 _ _ _ _ _ e2 W;have q:∀ nt,F.fn.ntmps≤nt→∀ o' ∈ o::r,∀ d,o'.dst=some d→d<nt:=by
          intro nt A o' ho' d' hd';have:=List.all_eq_true.1 k.1 o' (by rw [j];exact ho');simp only [qE,hd'] at this;exact Xqy (dW this) A
         obtain ⟨hc0,_⟩:=ji (nt:=F.fn.ntmps) l hH (ops:=o::r) (q _ (ζ _)) r 1 _ _ _ _ _ _ e1 O;refine ⟨hc0,sQ G hF,fun m S w cargs u hS hv hm=> ?_⟩;obtain ⟨hh,hFR⟩:=Ak (md:= .dead) hS hv F.fn.ntmps;have A:F.fn.ntmps≤(cargs.toArray++Array.replicate (F.fn.ntmps - cargs.toArray.size) undef).size:=by simp;omega
         obtain ⟨_,hx⟩:=dQ l C hH rest (dK A rest k.2) _ _ _ _ _ e2 W;obtain ⟨_,hs⟩:=ji l hH (ops:=o::r) (q _ A) r 1 _ _ _ _ _ _ e1 O;obtain ⟨M,hs⟩:=hs rfl (fun t b J=>by cases J) rfl (fun b B J=>jR J);obtain ⟨_,hx⟩:=hx M;have Z:=q _ A o (by simp) d hd;refine callsD_of_wpS (G.fn f F hF) J fun c₀ cs hc₀=> ?_
         have i:∃ cv n,n_ S md u∧VR (ai (dZ .dead args h).hp) m S md cv∧settle n= .returning∧((recoverD (c₀::cs)=some (cv,{c₀ with mode:=n}::cs))∨(recoverD (c₀::cs)=none∧cv= .nilIface∧{c₀ with mode:=n}=c₀)):=by
          cases md<;>simp only [n_] at hm
          ·obtain ⟨cv,rfl,hp⟩:=hm;exact ⟨cv,.panicking [{v:=cv,recovered:=true}],⟨cv,rfl,hp⟩,ed _ hp,rfl,.inl (by simp [recoverD,hc₀])⟩
          ·subst hm;exact ⟨.nilIface,.returning,rfl,by simp only [VR,PR],rfl,.inr ⟨by simp [recoverD,hc₀],rfl,by rw [← hc₀]⟩⟩
         obtain ⟨cv,n,_,T,D,i⟩:=i;have hcont:∀ (Q:Exit→Act→List Frame→World→Prop),(∀ e a w',(∃ m' S',Fr (ax h) m S w (ai s2.hp) m' S' w'∧FR ap s2.env s2.hp s2.dfs (cargs.toArray++Array.replicate (F.fn.ntmps - cargs.toArray.size) undef).size m' S' w' a)→(e= .normal∨e= .ret)→Q e a ({c₀ with mode:=n}::cs) w')→
           wpOpsS P ops (Exit.thenS (rest.wpS P Q) Q) (Xwg 1 r.length) (({tmps:=cargs.toArray++Array.replicate (F.fn.ntmps - cargs.toArray.size) undef,defers:= []}:Act).put (some d) cv) ({c₀ with mode:=n}::cs) w:=by
          intro Q hQ;have hopsA:ops=(o::r).toArray:=by rw [← j]
          rw [hopsA];refine iO (Q':=fun e a w'=>e ≠ .outgrown∧e= .normal∧rest.wpS P Q a ({c₀ with mode:=n}::cs) w') ?_ aei _ _ _ ?_
          ·rintro e a w' ⟨_,rfl,hh⟩
           exact hh
          ·refine hs m S w _ (hFR.env_cons Z T) _ ?_;intro m1 S1 w1 a1 h3 X;refine ⟨by simp,rfl,wpS_of_wp ?_⟩;rw [hh] at h3;obtain ⟨m2,h5,h6⟩:=iW (keep:=F.keep) (s:=⟨s1.env,s1.hp,s1.md,s1.dfs⟩) h3 X;refine hx m S w m2 S1 w1 a1 h5 h6 _ ?_;intro m3 S3 w3 a3 h7 h8;rcases z with rfl|rfl
           ·exact hQ .normal a3 w3 ⟨m3,S3,h7,h8⟩ (.inl rfl)
           ·exact hQ .ret a3 w3 ⟨m3,S3,h7,h8⟩ (.inr rfl)
         have E:∀ e a w',(∃ m' S',Fr (ax h) m S w (ai s2.hp) m' S' w'∧FR ap s2.env s2.hp s2.dfs (cargs.toArray++Array.replicate (F.fn.ntmps - cargs.toArray.size) undef).size m' S' w' a)→(e= .normal∨e= .ret)→
           bodyPostS P F.fn c₀ cs (fun e n w'=>(∃ m' S',zT ap h m S w out h' m' S' w' e)∧Ku md .nilI u n) e a ({c₀ with mode:=n}::cs) w':=by
          rintro e a w' ⟨m',S',h3,X⟩ hee
          obtain ⟨_,_,hro⟩:=j_ (P:=P) (m:=m') (m0:=m) (S:=S') (S0:=S) (w:=w') (w0:=w) (tmps:=a.tmps) l I hc;obtain ⟨V,h5,h6⟩:=hro X.srel h3 X.env;have Y:a.defers= []:=by
           have:=X.dfs;rw [N] at this;cases hd:a.defers with
           |nil=>rfl
           |cons x y=>rw [hd] at this;simp [dR] at this
          rcases hee with rfl|rfl
          ·exact ⟨Y,n,rfl,V,h5,h6,.inr ⟨rfl,D⟩⟩
          ·exact ⟨Y,n,rfl,V,h5,h6,.inr ⟨rfl,D⟩⟩
         refine wpS_seq (wpS_region ?_);have hrange:Ψ ops.size=0::Xwg 1 r.length:=by
          have:ops.size=r.length+1:=by rw [← Array.length_toList,j];simp
          rw [this,List.range_eq_range',List.range'_succ]
         rw [hrange];have ho0:ops[0]? =some o:=by
          have:ops.toList[0]? =some o:=by rw [j];rfl
          simpa using this
         simp only [wpOpsS,ho0,Region.wanted,hg,if_true,JJ hop];rw [hd];rcases i with i|⟨i,rfl,hsame⟩
         ·rw [i];exact hcont _ E
         ·rw [i];have:=hcont _ E;rw [hsame] at this;exact this
      ·cases g
     ·cases g
    ·cases g
   ·cases g
end
end AM
namespace AM
open Go
def Ho (P:Program) (ap:AP) (lf:Nat) (fs:List Nat):Nat→bi
 |0=>fun _ _ _ _ _=> .bad 90
 | n+1=>fun c md f args h=>
  match kY fs f with
  |false=>lG ap (Ho P ap lf fs n) lf md f args h c
  |true=>match md,c.ans with
   | .dead,(out,h')::r=> .ok (out,h',.dead) {c with ans:=r,ps:=ae P ap f args h out h'::c.ps}
   |_,_=> .bad 91
theorem DF {P:Program} {ap:AP} (d:di P ap) (b:P.follows .mixedOrders=true) (g:Ed P ap) (lf:Nat) (l:List Nat):∀ n,gp P ap (Ho P ap lf l n)∧oW P ap (Ho P ap lf l n)
 |0=> ⟨fun _ _ _ _ _ _ _ _ h=>(by cases h),fun _ _ _ _ _ _ _ _ _ _ h=>(by cases h)⟩
 | n +1=>by
  obtain ⟨m,o⟩:=DF d b g lf l n;constructor
  ·intro c f args h out k e c' a i;simp only [Ho] at a;split at a
   ·exact rq d b g m o lf c f args h out k e c' a i
   ·split at a
    ·cases a;exact ⟨⟨i.bs,fun p hp=>i.ps p (by simp [hp])⟩,i.ps _ (by simp)⟩
    ·cases a
  ·intro c md f args h out k e c' j a i;simp only [Ho] at a;split at a
   ·exact wG d b g m lf c md f args h out k e c' j a i
   ·split at a
    ·exact absurd rfl j
    ·cases a
theorem LY {P:Program} {ap:AP} (b:di P ap) (a:P.follows .mixedOrders=true) (d:Ed P ap) {lf:Nat} {g:List Nat} {n:Nat} {c c':Cx} {f:Nat} {args:List AV} {h e:List az} {out:gV} {md:AV}
  (he:lG ap (Ho P ap lf g n) lf .dead f args h c= .ok (out,e,md) c') (hc:c'.Ok):ae P ap f args h out e:=by
 obtain ⟨i,j⟩:=DF b a d lf g n;exact (rq b a d i j lf c f args h out e md c' he hc).2
def BP:Option AF→Bool
 |some F=>(match F.fn.body with|some c=>dA F.fn.ntmps c|none=>false) && !(F.fn.name== "runtime.NumGoroutine")
 |none=>true
theorem VG {P:Program} {ap:AP} (h:(Ψ ap.nty).map ap.ty.get=(Ψ ap.nty).map (U9 P)) (hm:ap.mt.all (mtB P)=true:=by rfl):di P ap:=by
 refine ⟨?_,hm⟩;intro t e a;unfold AP.tyAt at a;split at a
 ·rename_i b;have d:=dW b;have c:((Ψ ap.nty).map ap.ty.get)[t]? =some (some e):=by rw [φ,Xxu d];simp [a]
  rw [h,φ,Xxu d] at c;simpa using c
 ·cases a
theorem V4 {P:Program} {ap:AP} {keep:Nat→Bool} (h:(Ψ ap.nfn).map (fun i=>(ap.fn.get i).map AF.fn)=(Ψ ap.nfn).map fun i=>match keep i with|true=>P.funcs[i]? |false=>none) (l:(Ψ ap.nfn).all (fun i=>BP (ap.fn.get i))=true):Ed P ap:=by
 have d:∀ (f:Nat) (F:AF),ap.fnAt f=some F→f<ap.nfn∧ap.fn.get f=some F:=by
  intro f F a;unfold AP.fnAt at a;split at a
  ·rename_i j;exact ⟨dW j,a⟩
  ·cases a
 have hgood:∀ (f:Nat) (F:AF),ap.fnAt f=some F→BP (some F)=true:=by
  intro f F a;obtain ⟨e,g⟩:=d f F a;have:=List.all_eq_true.1 l f (by simpa using e);rwa [g] at this
 constructor
 ·intro f F a;obtain ⟨e,g⟩:=d f F a;have b:((Ψ ap.nfn).map fun i=>(ap.fn.get i).map AF.fn)[f]? =some (some F.fn):=by rw [φ,Xxu e];simp [g]
  rw [h,φ,Xxu e] at b;simp only [Xqu,Option.some.injEq] at b;split at b
  ·exact b
  ·cases b
 ·intro f F a;have:=hgood f F a;simp only [BP,ε] at this;cases k:F.fn.body with
  |none=>rw [k] at this;cases this.1
  |some c=>rw [k] at this;exact ⟨c,rfl,this.1⟩
 ·intro f F a;have:=hgood f F a;simp only [BP,ε,Xqe] at this;exact this.2
end AM
namespace AM
open Go
section
variable {P:Program} {ap:AP}
def rvM (L:List Nat) (b v:Nat):Nat:=match kY L b with|true=>1|false=>v
def Xb (L:List Nat) (hp:Hp):Nat→Nat→Option (Nat × Nat):=fun b v=>match ai hp b with
 |some B=>match Δ B.ver v with|true=>some (b,rvM L b v)|false=>none
 |none=>none
def Qc (L:List Nat) (hp:Hp) (b:Nat) (B:az):az:={B with cells:=(match B.pr with|true=>B.cells|false=>jG (Xb L hp) B.cells),ver:=rvM L b B.ver}
def Qd (L:List Nat) (s:St):St:=
 ⟨s.env.map fun q=>(q.1,ren (Xb L s.hp) q.2),s.hp.map fun q=>(q.1,Qc L s.hp q.1 q.2),s.md,s.dfs.map fun d=>(d.1,jG (Xb L s.hp) d.2)⟩
theorem yx {α β:Type} (f:Nat→α→β):∀ (l:List (Nat × α)) (t:Nat),ai (l.map fun q=>(q.1,f q.1 q.2)) t=(ai l t).map (f t)
 | [],t=>rfl
 |(a,x)::l,t=>by
  simp only [Γ,ai];cases h:Δ a t with
  |true=>have:=aA h;subst this;rfl
  |false=>exact yx f l t
theorem xB {h0:List az} {L:List Nat} {s:St} {nt:Nat} {m m0:aB} {S S0:au} {w w0:World} {a:Act} (I:∀ b ∈ L,∀ B0,ax h0 b=some B0→B0.ver=0) (c:Fr (ax h0) m0 S0 w0 (ai s.hp) m S w) (j:FR ap s.env s.hp s.dfs nt m S w a):
  Fr (ax h0) m0 S0 w0 (ai (Qd L s).hp) m S w∧FR ap (Qd L s).env (Qd L s).hp (Qd L s).dfs nt m S w a:=by
 have r:∀ b,ai (Qd L s).hp b=(ai s.hp b).map (Qc L s.hp b):=fun b=>yx (Qc L s.hp) s.hp b
 have f:∀ b C,ai (Qd L s).hp b=some C→∃ B,ai s.hp b=some B∧C=Qc L s.hp b B:=fun b C h=>by
  rw [r] at h;cases n:ai s.hp b with
  |none=>rw [n] at h;cases h
  |some B=>rw [n] at h;cases h;exact ⟨B,rfl,rfl⟩
 have g:mX (ai s.hp) m (ai (Qd L s).hp) m (Xb L s.hp):=by
  intro b ver p D h B n y;simp only [Xb,n] at h;split at h
  ·rename_i l;have l:=aA l;cases h;refine ⟨Qc L s.hp b B,by rw [r,n];rfl, ?_,fun _=> ⟨l,rfl,rfl⟩⟩;show rvM L b ver≤rvM L b B.ver;rw [l];exact ζ _
  ·cases h
 refine ⟨⟨fun b B0 A=> ?_,c.sle,c.os,c.tape,c.output,c.size,c.rest,fun b C k=> ?_,c.sealN,fun b C k=> ?_⟩,⟨⟨fun b z C C' h F e=> ?_,fun b C k=> ?_,j.srel.sealed,fun b C k o v G=> ?_,j.srel.glob⟩,fun t=> ?_, ?_,j.size⟩⟩
 ·obtain ⟨B,i,u,E⟩:=c.ge b B0 A;refine ⟨Qc L s.hp b B,by rw [r,i];rfl,u, ?_⟩;show (rvM L b B.ver=B0.ver∧m b=m0 b)∨B0.ver<rvM L b B.ver;unfold rvM;cases hm:kY L b with
  |false=>exact E
  |true=>
   have:=I b (fQ.1 hm) B0 A;exact .inr (by show B0.ver<1;omega)
 ·obtain ⟨B,i,rfl⟩:=f b C k;exact c.img b B i
 ·obtain ⟨B,i,rfl⟩:=f b C k;exact c.mw b B i
 ·obtain ⟨B,i,rfl⟩:=f b C h;obtain ⟨B',u,rfl⟩:=f z C' F;exact j.srel.inj b z B B' i u e
 ·obtain ⟨B,i,rfl⟩:=f b C k;obtain ⟨⟨cur,e,vs,rest,k1,k2,k3,k4,k5,k6⟩,k7,k8⟩:=j.srel.blk b B i;cases d:B.pr with
  |true=>exact ⟨⟨cur,e,vs,rest,k1,k2,fun _=>by simpa [Qc,d] using k3 d,by simpa [Qc,d] using aV _ (k3 d),k5,k6⟩,k7,by simpa [Qc,d] using k8⟩
  | false=>
   have l:=iw (gK.refl S) g _ k4;exact ⟨⟨cur,e,vs,rest,k1,k2,fun h=>by simp [Qc,d] at h,by simpa [Qc,d] using l,k5,k6⟩,k7,by
    have:(Qc L s.hp b B).cells.length=B.cells.length:=by simp only [Qc,d];rw [aU k4,aU l]
    rw [this];exact k8⟩
 ·obtain ⟨B,i,rfl⟩:=f b C k;exact j.srel.own b B i o v G
 ·have e:(Qd L s).env.get t=ren (Xb L s.hp) (s.env.get t):=by
   show (ai (s.env.map fun q=>(q.1,ren (Xb L s.hp) q.2)) t).getD .dead=ren (Xb L s.hp) ((ai s.env t).getD .dead);rw [yx (fun _ x=>ren (Xb L s.hp) x)];cases ai s.env t<;>rfl
  rw [e];exact qY (gK.refl S) g _ (j.env t)
 ·exact wo (gK.refl S) g j.dfs
def FI (h0:List az) (L:List Nat):Bool:=L.all fun b=>match ax h0 b with|some B0=>Δ B0.ver 0|none=>true
theorem xM {h0:List az} {L:List Nat} (h:FI h0 L=true):∀ b ∈ L,∀ B0,ax h0 b=some B0→B0.ver=0:=fun b a B0 c=>by
 have:=List.all_eq_true.1 h b a;rw [c] at this;exact Nat.eq_of_beq_eq_true this
def ahn (h0:List az) (L K:List Nat) (s:St):St:=AM.norm h0.length K (match L with| []=>s|_=>Qd L s)
theorem ag.tid {h0:List az} {nt:Nat} {c:Code} {e:aJ} {s s2:St} {L K:List Nat} (p:FI h0 L=true) (h:ag P ap h0 nt c (ahn h0 L K s) e s2):ag P ap h0 nt c s e s2:=by
 intro hs;have key:∀ s1:St,s1.md=s.md→(∀ m0 S0 w0 m S w a,Fr (ax h0) m0 S0 w0 (ai s.hp) m S w→FR ap s.env s.hp s.dfs nt m S w a→Fr (ax h0) m0 S0 w0 (ai s1.hp) m S w∧FR ap s1.env s1.hp s1.dfs nt m S w a)→ag P ap h0 nt c (AM.norm h0.length K s1) e s2→s2.md= .dead∧∀ m0 S0 w0 m S w a,Fr (ax h0) m0 S0 w0 (ai s.hp) m S w→FR ap s.env s.hp s.dfs nt m S w a→∀ Q,XA ap h0 m0 S0 w0 nt s2 e Q→c.wp P Q a w:=by
  intro s1 hm k h;obtain ⟨u,n⟩:=h (by show s1.md=_;rw [hm,hs]);refine ⟨u,fun m0 S0 w0 m S w a d r Q q=> ?_⟩;obtain ⟨t,o⟩:=k m0 S0 w0 m S w a d r;obtain ⟨j,l,i⟩:=iW (keep:=K) t o;exact n m0 S0 w0 j S w a l i Q q
 cases L with
 |nil=>exact key s rfl (fun _ _ _ _ _ _ _ f g=> ⟨f,g⟩) h
 |cons b L=>exact key (Qd (b::L) s) rfl (fun _ _ _ _ _ _ _ f g=>xB (xM p) f g) h
end
end AM
namespace AM
open Go
def bG (P:Program) (ap:AP) (h0:List az) (n:Nat) (code:Code) (s:St) (e:aJ) (s':St):Prop:=∀ nt,n≤nt→ag P ap h0 nt code s e s'
abbrev qQ:=List (aJ × St × Option (List Nat × List Nat))
def Xo (P:Program) (ap:AP) (h0:List az) (nt:Nat) (code:Code) (s:St):qQ→Cx→R ((aJ × St) × qQ)
 |(e,s',none)::r,c=> .ok ((e,s'),r) {c with ps:=bG P ap h0 nt code s e s'::c.ps}
 |(e,s',some (L,K))::r,c=>match FI h0 L with
  |true=> .ok ((e,s'),r) {c with ps:=bG P ap h0 nt code (ahn h0 L K s) e s'::c.ps}
  |false=> .bad 64
 | [],_=> .bad 62
def kL (P:Program) (ap:AP) (H:bi) (h0:List az) (keep:List Nat) (lf nt:Nat) (ls:List Nat):Code→St→qQ→Cx→R ((aJ × St) × qQ)
 | .seq a b,s,l,c=>(kL P ap H h0 keep lf nt ls a s l c).bind fun r c=>match r.1.1 with
  | .normal=>kL P ap H h0 keep lf nt ls b r.1.2 r.2 c
  |e=> .ok ((e,r.1.2),r.2) c
 | .cond t a b,s,l,c=>match oG ap s.env t with
  | .bool x=>(xW c x).bind fun x c=>match x with
   |true=>kL P ap H h0 keep lf nt ls a s l c
   |false=>kL P ap H h0 keep lf nt ls b s l c
  |_=> .bad 60
 | .block id b,s,l,c=>match kY ls id with
  |true=>Xo P ap h0 nt (.block id b) s l c
  |false=>(kL P ap H h0 keep lf nt ls b s l c).bind fun r c=>match r.1.1 with
   | .exit id'=>match Δ id' id with|true=> .ok ((.normal,r.1.2),r.2) c|false=> .ok ((.exit id',r.1.2),r.2) c
   |e=> .ok ((e,r.1.2),r.2) c
 | .scope b,s,l,c=>kL P ap H h0 keep lf nt ls b s l c
 | .region id ops draw,s,l,c=>match kY ls (id+1000) with
  |true=>Xo P ap h0 nt (.region id ops draw) s l c
  |false=>(jI ap H h0.length keep lf (.region id ops draw) s c).bind fun r c=> .ok (r,l) c
 |code,s,l,c=>(jI ap H h0.length keep lf code s c).bind fun r c=> .ok (r,l) c
section
variable {P:Program} {ap:AP} {H:bi}
theorem ag.seq {h0:List az} {nt:Nat} {x y:Code} {s s1 s2:St} {e:aJ} (l:ag P ap h0 nt x s .normal s1) (o:ag P ap h0 nt y s1 e s2):ag P ap h0 nt (.seq x y) s e s2:=by
 intro c;obtain ⟨p,i⟩:=l c;obtain ⟨j,g⟩:=o p;refine ⟨j,fun m0 S0 w0 m S w a b n Q k=>wp_seq (i m0 S0 w0 m S w a b n _ ?_)⟩;intro h S' w' a' f d;exact g m0 S0 w0 h S' w' a' f d Q k
theorem ag.seq_out {h0:List az} {nt:Nat} {x y:Code} {s s1:St} {e:aJ} (c:e ≠ .normal) (k:ag P ap h0 nt x s e s1):ag P ap h0 nt (.seq x y) s e s1:=by
 intro d;obtain ⟨n,h⟩:=k d;refine ⟨n,fun m0 S0 w0 m S w a b l Q j=>wp_seq (h m0 S0 w0 m S w a b l _ ?_)⟩;intro g S' w' a' i f;have:=j g S' w' a' i f;cases e with
 |normal=>exact absurd rfl c
 |exit id=>exact this
 |ret=>exact this
 |panic v=>exact this
theorem ag.cond {h0:List az} {nt:Nat} {t:Operand} {x y:Code} {s s':St} {e:aJ} {bv:Bool} (f:oG ap s.env t= .bool bv) (h:ag P ap h0 nt (if bv then x else y) s e s'):ag P ap h0 nt (.cond t x y) s e s':=by
 intro d;obtain ⟨i,g⟩:=h d;refine ⟨i,fun m0 S0 w0 m S w a b c Q j=>wp_cond (t:=bv) ?_ (g m0 S0 w0 m S w a b c Q j)⟩;have:=pI c.srel (a:=a) (env:=s.env) t (fun t _=>c.env t);rw [f] at this;simpa only [VR,PR] using this
def kS (id:Nat):aJ→aJ
 | .exit id'=>match Δ id' id with|true=> .normal|false=> .exit id'
 |e=>e
theorem ag.block {h0:List az} {nt:Nat} {id:Nat} {b:Code} {s s':St} {e:aJ} (h:ag P ap h0 nt b s e s'):ag P ap h0 nt (.block id b) s (kS id e) s':=by
 intro i;obtain ⟨q,l⟩:=h i;refine ⟨q,fun m0 S0 w0 m S w a d p Q o=>wp_block (l m0 S0 w0 m S w a d p _ ?_)⟩;intro k S' w' a' n j;have c:=o k S' w' a' n j;cases e with
 |normal=>exact c
 |ret=>exact c
 |panic v=>exact c
 | exit id'=>
  simp only [kS] at c;split at c
  ·rename_i g;show Exit.inBlock id Q (.exit id') a' w';simp only [Exit.inBlock,if_pos (aA g)];exact c
  ·rename_i g;show Exit.inBlock id Q (.exit id') a' w';have f:id' ≠ id:=by intro e;subst e;simp at g
   simp only [Exit.inBlock,if_neg f];exact c
theorem ag.scope {h0:List az} {nt:Nat} {b:Code} {s s':St} {e:aJ} (h:ag P ap h0 nt b s e s'):ag P ap h0 nt (.scope b) s e s':=by
 intro f;obtain ⟨o,j⟩:=h f;refine ⟨o,fun m0 S0 w0 m S w a d n Q l=>wp_scope_straight (j m0 S0 w0 m S w a d n _ ?_)⟩;intro i S' w' a' k g;have c:=l i S' w' a' k g;cases e with
 |normal=>exact c
 |exit id=>exact c
 |ret=>exact c
 |panic v=>exact c
theorem DY {h0:List az} {n nt:Nat} (d:n≤nt) {a:Code} {s:St} {l:qQ} {r:(aJ × St) × qQ} {c c':Cx} (h:Xo P ap h0 n a s l c= .ok r c') (b:c'.Ok):c.Ok∧ag P ap h0 nt a s r.1.1 r.1.2:=by
 match l,h with
 |(e,s',none)::_,h=>
  cases h;exact ⟨⟨b.bs,fun p hp=>b.ps p (Θ _ hp)⟩,b.ps _ (Xxg ..) nt d⟩
 | (e,s',some (L,K))::_,h=>
  simp only [Xo] at h;split at h
  ·rename_i f;cases h;exact ⟨⟨b.bs,fun p hp=>b.ps p (Θ _ hp)⟩,ag.tid f (b.ps _ (Xxg ..) nt d)⟩
  ·cases h
theorem rG (A:di P ap) (o:P.follows .mixedOrders=true) (G:gp P ap H) {h0:List az} {keep:List Nat} {lf n nt:Nat} (C:n≤nt) {I:List Nat}:∀ (a:Code),dA nt a=true→∀ (s:St) (l:qQ) (r:(aJ × St) × qQ) (c c':Cx),kL P ap H h0 keep lf n I a s l c= .ok r c'→c'.Ok→c.Ok∧ag P ap h0 nt a s r.1.1 r.1.2:=by
 have hbase:∀ (a:Code),dA nt a=true→∀ (s:St) (l:qQ) (r:(aJ × St) × qQ) (c c':Cx),((jI ap H h0.length keep lf a s c).bind fun r c=> .ok (r,l) c)= .ok r c'→c'.Ok→c.Ok∧ag P ap h0 nt a s r.1.1 r.1.2:=by
  intro a d s l r c c' h f;obtain ⟨⟨e,s'⟩,p,k,h⟩:=R.bind_ok h;cases h;exact dQ A o G a d s e s' c _ k f
 intro a
 induction a with
 | seq x y ihx ihy=>
  intro d s l r c c' h f;simp only [dA,ε] at d;simp only [kL] at h;obtain ⟨⟨⟨m,s1⟩,B⟩,p,k,h⟩:=R.bind_ok h;dsimp only at h;have hother:m ≠ .normal→R.ok ((m,s1),B) p=R.ok r c'→c.Ok∧ag P ap h0 nt (.seq x y) s r.1.1 r.1.2:=by
   intro z F;cases F;obtain ⟨g,i⟩:=ihx d.1 _ _ _ _ _ k f;exact ⟨g,i.seq_out z⟩
  cases m with
  |normal=>
   dsimp only at h;obtain ⟨j,E⟩:=ihy d.2 _ _ _ _ _ h f;obtain ⟨g,i⟩:=ihx d.1 _ _ _ _ _ k j;exact ⟨g,i.seq E⟩
  |exit id=>exact hother (by simp) h
  |ret=>exact hother (by simp) h
  |panic v=>exact hother (by simp) h
 | cond t x y ihx ihy=>
  intro d s l r c c' h f;simp only [dA,ε] at d;simp only [kL] at h;split at h
  ·rename_i bv q;obtain ⟨D,p,k,h⟩:=R.bind_ok h;cases D with
   |true=>
    obtain ⟨j,i⟩:=ihx d.1 _ _ _ _ _ h f;obtain ⟨g,u⟩:=jM k j;exact ⟨g,ag.cond q (by rw [← u];exact i)⟩
   |false=>
    obtain ⟨j,i⟩:=ihy d.2 _ _ _ _ _ h f;obtain ⟨g,u⟩:=jM k j;exact ⟨g,ag.cond q (by rw [← u];exact i)⟩
  ·cases h
 | block id b ih=>
  intro d s l r c c' h f;simp only [dA] at d;simp only [kL] at h;split at h
  ·exact DY C h f
  ·obtain ⟨⟨⟨m,s1⟩,B⟩,p,k,h⟩:=R.bind_ok h;dsimp only at h;have w:r=((kS id m,s1),B)∧p=c':=by
    cases m<;>dsimp only at h
    ·cases h;exact ⟨rfl,rfl⟩
    ·unfold kS;split at h<;>cases h<;>rename_i u<;>dsimp only<;>rw [u]<;>exact ⟨rfl,rfl⟩
    ·cases h;exact ⟨rfl,rfl⟩
    ·cases h;exact ⟨rfl,rfl⟩
   obtain ⟨rfl,rfl⟩:=w;obtain ⟨g,i⟩:=ih d _ _ _ _ _ k f;exact ⟨g,i.block⟩
 |scope b ih=>
  intro d s l r c c' h f;simp only [dA] at d;simp only [kL] at h;obtain ⟨g,i⟩:=ih d _ _ _ _ _ h f;exact ⟨g,i.scope⟩
 |skip=>exact fun d s l r c c' h f=>hbase _ d s l r c c' h f
 |region id ops draw=>
  intro d s l r c c' h f;simp only [kL] at h;split at h
  ·exact DY C h f
  ·exact hbase _ d s l r c c' h f
 |loop _ _=>exact fun d s l r c c' h f=>hbase _ d s l r c c' h f
 |rangeFunc _ _ _ _=>exact fun d s l r c c' h f=>hbase _ d s l r c c' h f
 |exit _=>exact fun d s l r c c' h f=>hbase _ d s l r c c' h f
 |label _=>exact fun d s l r c c' h f=>hbase _ d s l r c c' h f
 |goto _=>exact fun d s l r c c' h f=>hbase _ d s l r c c' h f
 |ret=>exact fun d s l r c c' h f=>hbase _ d s l r c c' h f
 |refuse _=>exact fun d s l r c c' h f=>hbase _ d s l r c c' h f
def Na (P:Program) (ap:AP) (H:bi) (lf:Nat) (ls:List Nat) (f:Nat) (args:List AV) (h:List az) (l:qQ) (c:Cx):R (gV × List az × AV):=
 match ap.fnAt f with
 |none=> .bad 80
 |some F=>(kL P ap H h F.keep lf F.fn.ntmps ls (af F.fn) (dZ .dead args h) l c).bind fun r c=>Aj ap H h.length F.fn r.1.1 r.1.2 c
theorem QT (i:di P ap) (g:P.follows .mixedOrders=true) (d:Ed P ap) (I:gp P ap H) (A:oW P ap H) {lf:Nat} {J:List Nat} {f:Nat} {args:List AV} {h v:List az} {l:qQ} {c c':Cx} {out:gV} {q:AV}
  (b:Na P ap H lf J f args h l c= .ok (out,v,q) c') (hc:c'.Ok):ae P ap f args h out v:=by
 unfold Na at b;split at b
 ·cases b
 ·rename_i F u;obtain ⟨⟨⟨e,s⟩,L⟩,K,y,b⟩:=R.bind_ok b;dsimp only at b;obtain ⟨a,x,j⟩:=d.body f F u;have hbody:af F.fn=a:=by simp [af,x]
  rw [hbody] at y;obtain ⟨t,k,n⟩:=wP i A b hc;refine ⟨k,sQ d u,fun m S w cargs D E=> ?_⟩;obtain ⟨C,p⟩:=Ak (md:= .dead) D E F.fn.ntmps;have o:F.fn.ntmps≤(cargs.toArray++Array.replicate (F.fn.ntmps - cargs.toArray.size) undef).size:=by simp;omega
  obtain ⟨_,r⟩:=rG i g I o a (dK o a j) _ _ _ _ _ y t;obtain ⟨_,r⟩:=r rfl;refine calls_of_wp_defers (d.fn f F u) x ?_;refine r m S w m S w _ (by rw [C];exact Fr.refl _ _ _ _) p _ ?_;intro z S' w' a' B G;exact n m S w z S' w' a' _ B G
end
end AM
namespace AM
open Go
def uq (P:Program) (ap:AP) (lf:Nat):Nat→bi
 |0=>fun _ _ _ _ _=> .bad 90
 | n+1=>fun c md f args h=>
  match md with
  | .dead=>match c.ans with
   |(out,h')::r=> .ok (out,h',.dead) {c with ans:=r,ps:=ae P ap f args h out h'::c.ps}
   |_=> .bad 91
  |md=>lG ap (uq P ap lf n) lf md f args h c
theorem gy {P:Program} {ap:AP} (e:di P ap) (a:P.follows .mixedOrders=true) (j:Ed P ap) (lf:Nat):∀ n,gp P ap (uq P ap lf n)∧oW P ap (uq P ap lf n)
 |0=> ⟨fun _ _ _ _ _ _ _ _ h=>(by cases h),fun _ _ _ _ _ _ _ _ _ _ h=>(by cases h)⟩
 | n+1=>by
  obtain ⟨l,m⟩:=gy e a j lf n;constructor
  ·intro c f args h out k d c' b g;simp only [uq] at b;split at b
   ·cases b;exact ⟨⟨g.bs,fun p hp=>g.ps p (by simp [hp])⟩,g.ps _ (by simp)⟩
   ·cases b
  ·intro c md f args h out k d c' i b g;have b:lG ap (uq P ap lf n) lf md f args h c= .ok (out,k,d) c':=by
    cases md<;>first|exact absurd rfl i|exact b
   exact wG e a j l lf c md f args h out k d c' i b g
inductive Ik:List Prop→Prop where
 |nil:Ik []
 |cons {p:Prop} {l:List Prop}:p→Ik l→Ik (p::l)
theorem Ik.mem {l:List Prop} (h:Ik l):∀ p ∈ l,p:=by
 induction h with
 |nil=>intro p hp;cases hp
 |cons hp _ ih=>
  intro q a;rcases List.mem_cons.1 a with rfl|a
  ·exact hp
  ·exact ih q a
inductive jE:List Bool→Prop where
 |nil:jE []
 |t {l:List Bool}:jE l→jE (true::l)
 |c {b:Bool} {l:List Bool}:b=true→jE l→jE (b::l)
theorem jE.mem {l:List Bool} (h:jE l):∀ b ∈ l,b=true:=by
 induction h with
 |nil=>intro p hp;cases hp
 |t _ ih=>
  intro q a;rcases List.mem_cons.1 a with rfl|a
  ·rfl
  ·exact ih q a
 |c hp _ ih=>
  intro q a;rcases List.mem_cons.1 a with rfl|a
  ·exact hp
  ·exact ih q a
structure uy (P:Program) (ap:AP):Prop where
 apok:di P ap
 mixed:P.follows .mixedOrders=true
 fnok:Ed P ap
theorem Pq {P:Program} {ap:AP} (g:uy P ap) {lf n:Nat} {ans:List (gV × List az)} {ps:List Prop} {f:Nat} {args:List AV} {h a:List az} {out:gV} (hp:Ik ps)
  (he:lG ap (uq P ap lf n) lf .dead f args h ⟨true,[],[],[],ans,[]⟩= .ok (out,a,.dead) ⟨true,[],[],ps,[],[]⟩):ae P ap f args h out a:=by
 obtain ⟨d,e⟩:=gy g.apok g.mixed g.fnok lf n;exact (rq g.apok g.mixed g.fnok d e lf _ f args h out a .dead _ he ⟨fun b c=>(by cases c),hp.mem⟩).2
end AM
namespace AM
open Go Go.ChangeShapes Go.WideShapes Go.ChangeAt Go.RowKit
def nV:Lit→Value
 | .int k n=> .int k n
 | .bool b=> .bool b
 | .string s=> .string ⟨s.toArray⟩
 |_=> .nilFunc
def Jj:Lit→AV
 | .int k n=> .int k n
 | .bool b=> .bool b
 | .string s=> .str s
 |_=> .dead
def CP:Lit→Bool
 | .int _ _=>true
 | .bool _=>true
 | .string _=>true
 |_=>false
def Jk (f:TypeId→DataW Unit→Nat→Option (List (Nat × Lit))):List (TypeId × Nat)→List (DataW Unit)→Option (List (Nat × Lit))
 | [],[]=>some []
 |(t,o)::r,d::ds=>match f t d o,Jk f r ds with
  |some a,some b=>some (a++b)
  |_,_=>none
 |_,_=>none
def kw (P:Program):Nat→TypeId→DataW Unit→Nat→Option (List (Nat × Lit))
 |0,_,_,_=>none
 |n+1,t,d,off=>match P.underlying t,d with
  |some (.struct fs),.agg ds=>Jk (kw P n) (fs.toList.map fun f=>(f.type,off+f.offset)) ds
  |some (.array m e),.agg ds=>Jk (kw P n) ((Ψ m).map fun i=>(e,off+i*P.cellsOf e)) ds
  |some (.int _),.lit (.int k n)=>some [(off,.int k n)]
  |some .bool,.lit (.bool b)=>some [(off,.bool b)]
  |some .string,.lit (.string s)=>some [(off,.string s)]
  |_,_=>none
theorem CJ {f:TypeId→DataW Unit→Nat→Option (List (Nat × Lit))}:∀ {ts:List (TypeId × Nat)} {ds:List (DataW Unit)} {l:List (Nat × Lit)},Jk f ts ds=some l→ts.length=ds.length∧∀ x ∈ l,∃ (i:Nat) (t o:Nat) (d:DataW Unit) (a:List (Nat × Lit)),ts[i]? =some (t,o)∧ds[i]? =some d∧f t d o=some a∧x ∈ a
 | [],[],l,h=>by simp [Jk] at h;subst h;simp
 | (t,o)::r,d::ds,l,h=>by
  simp only [Jk] at h;split at h
  ·rename_i a b q g;cases h;obtain ⟨j,k⟩:=CJ g;refine ⟨by simp [j],fun x c=> ?_⟩;rcases List.mem_append.1 c with c|c
   ·exact ⟨0,t,o,d,a,rfl,rfl,q,c⟩
   ·obtain ⟨i,p,m,e,a',n,u,v,s⟩:=k x c;exact ⟨i+1,p,m,e,a',by simpa using n,by simpa using u,v,s⟩
  ·cases h
 | [],_::_,_,h=>by simp [Jk] at h
 |_::_,[],_,h=>by simp [Jk] at h
theorem lN {P:Program} {w:World} {base:Nat} {M:Nat→Bool} {A:Bool}:∀ (n:Nat) (t:TypeId) (d:DataW Unit) (off:Nat) (l:List (Nat × Lit)),kw P n t d off=some l→∀ (c:Nat) (cs:List Value) (p:List MemPlace),DataW.trod (fun _=>()) P w base M A c t cs=some (d,p)→∀ x ∈ l,∃ j,x.1=off+j∧cs[j]? =some (nV x.2)
 |0,_,_,_,_,h=>by simp [kw] at h
 | n +1,t,d,off,l,h=>by
  intro c cs p g x u;simp only [kw] at h;split at h
  ·rename_i T R r;cases c with
   |zero=>simp [DataW.trod] at g
   | succ m=>
    simp only [DataW.trod,r] at g;split at g
    ·obtain ⟨N,hm,o⟩:=Option.map_eq_some_iff.1 g;simp only [Prod.mk.injEq,DataW.agg.injEq] at o;obtain ⟨rfl,rfl⟩:=o;obtain ⟨L,I⟩:=CJ h;obtain ⟨i,J,O,K,a,y,v,F,E⟩:=I x u;rw [φ,Ξ] at y;obtain ⟨f,D,B⟩:=y;simp only [Prod.mk.injEq] at B;obtain ⟨rfl,rfl⟩:=B;obtain ⟨b,G,C⟩:=Lib.mapM_at hm i f D;rw [φ,G] at v;simp only [Xqu,Option.some.injEq] at v;subst v;obtain ⟨j,Q,q⟩:=lN n _ _ _ _ F m _ b.2 C x E;refine ⟨f.offset+j,by omega, ?_⟩;rw [Xxh] at q;split at q
     ·rwa [Xxy] at q
     ·cases q
    ·cases g
  ·rename_i k e R r;cases c with
   |zero=>simp [DataW.trod] at g
   | succ m=>
    simp only [DataW.trod,r] at g;split at g
    ·obtain ⟨N,hm,o⟩:=Option.map_eq_some_iff.1 g;simp only [Prod.mk.injEq,DataW.agg.injEq] at o;obtain ⟨rfl,rfl⟩:=o;obtain ⟨L,I⟩:=CJ h;obtain ⟨i,J,O,K,a,y,v,F,E⟩:=I x u;rw [φ,Ξ] at y;obtain ⟨f,D,B⟩:=y;simp only [Prod.mk.injEq] at B;obtain ⟨rfl,rfl⟩:=B;obtain ⟨b,G,C⟩:=Lib.mapM_at hm i f D;rw [φ,G] at v;simp only [Xqu,Option.some.injEq] at v;subst v;obtain ⟨j,Q,q⟩:=lN n _ _ _ _ F m _ b.2 C x E;refine ⟨f*P.cellsOf e+j,by omega, ?_⟩;rw [Xxh] at q;split at q
     ·rwa [Xxy] at q
     ·cases q
    ·cases g
  ·rename_i U k V r;cases h;simp at u;subst u;obtain ⟨S,rfl,z,_⟩:=DataW.trod_int r g;simp only [Prod.mk.injEq,DataW.lit.injEq,Lit.int.injEq] at z;obtain ⟨⟨rfl,rfl⟩,_⟩:=z;exact ⟨0,rfl,rfl⟩
  ·rename_i b r;cases h;simp at u;subst u;cases c with
   |zero=>simp [DataW.trod] at g
   |succ m=>
    unfold DataW.trod at g;rw [r] at g;split at g<;>simp_all
    rfl
  ·rename_i s r;cases h;simp at u;subst u;cases c with
   |zero=>simp [DataW.trod] at g
   |succ m=>
    unfold DataW.trod at g;rw [r] at g;split at g<;>simp_all
    obtain ⟨_,rfl,_⟩:=g;rfl
  ·cases h
theorem wZ {P:Program} {w:World}:∀ {l:List (String × DataW Unit)} {ps:List MemPlace},DataW.LaidVars P w l ps→∀ n d,(n,d) ∈ l→∃ g t cs a p,P.globalNamed n=some g∧(P.globals[g]?).map (·.type)=some t∧w.var? P n=some cs∧DataW.trod (fun _=>()) P w 0 (fun _=>true) false a t cs.toList=some (d,p)
 | [],_,_,n,d,hm=>by cases hm
 | (n',d')::r,ps,h,n,d,hm=>by
  obtain ⟨g,t,cs,a,p,q,b,c,e,f,i,_⟩:=h;rcases List.mem_cons.1 hm with he|hm
  ·cases he;exact ⟨g,t,cs,a,p,b,c,e,f⟩
  ·exact wZ i n d hm
theorem Lc {P:Program} {W:World} {a:List (String × DataW Unit)} (h:laidMetH P a W) (e:a.filter (fun x=>x.2.handleName?.isSome)= []) {n:String} {d:DataW Unit} (hm:(n,d) ∈ a) {g:Nat} {t:TypeId} (f:P.globalNamed n=some g) (v:(P.globals[g]?).map (·.type)=some t)
  {ls:List Lit} (hl:kw P 6 t d 0=some (ls.zipIdx.map fun (l,i)=>(i,l))):∀ (j:Nat) (l:Lit),ls[j]? =some l→W.cell? ⟨g,j,none⟩=some (nV l):=by
 have c:laidMet P a W:=by
  unfold laidMetH at h;rw [e] at h;exact h
 obtain ⟨ps,r,_⟩:=c;obtain ⟨g',z,cs,b,p,s,u,w,o⟩:=wZ r n d hm;obtain rfl:=Option.some.inj (f.symm.trans s);obtain rfl:=Option.some.inj (v.symm.trans u);intro j l y;obtain ⟨m,k,q⟩:=lN 6 t d 0 _ hl b cs.toList p o (j,l) (by
  rw [List.mem_map];exact ⟨(l,j),by rw [List.mem_zipIdx_iff_getElem?];exact y,rfl⟩)
 have:m=j:=by simp at k;exact k.symm
 subst this;rw [World.var?_cell f w m];simpa using q
def iF (W:World):au:=fun k o=>match W.cell? ⟨k,o,none⟩ with|some v=>if v.oneCell' then some v else none|none=>none
theorem FQ {W:World} {k o:Nat} {v:Value} (h:W.cell? ⟨k,o,none⟩=some v) (a:v.oneCell'=true):iF W k o=some v:=by
 unfold iF;rw [h];simp only;rw [if_pos a]
theorem J9 {W:World} {k o:Nat} {v:Value} (h:iF W k o=some v):bT W k o=some v:=by
 unfold iF at h;split at h
 ·rename_i c a;split at h
  ·rename_i b;cases h;exact pq a b
  ·cases h
 ·cases h
theorem Iq (S:au):∀ (ls:List Lit),ls.all CP=true→a_ S (ls.map Jj) (ls.map nV)
 | [],_=>by simp [a_]
 |l::r,h=>by
  simp only [Xjc,ε] at h;simp only [Γ,a_];refine ⟨?_,Iq S r h.2⟩;cases l<;>simp only [Jj,nV,PR]<;>first|rfl|(exact absurd h.1 (by simp [CP]))
theorem Le {l:Lit} (h:CP l=true):(nV l).oneCell'=true:=by
 cases l<;>first|rfl|(exact absurd h (by simp [CP]))
def QG (ap:AP) (W:World):Prop:=∀ k xs,(ap.gl[k]?).join=some xs→∃ ls:List Lit,xs=ls.map Jj∧ls.all CP=true∧∀ (j:Nat) (l:Lit),ls[j]? =some l→W.cell? ⟨k,j,none⟩=some (nV l)
theorem V7 {ap:AP} {W:World} (h:QG ap W):lw ap (iF W):=by
 intro k f e;obtain ⟨g,rfl,a,i⟩:=h k f e;refine ⟨g.map nV,Iq _ _ a, ?_⟩;intro j u d;rw [φ,Ξ] at d;obtain ⟨l,c,rfl⟩:=d;have b:=Le (List.all_eq_true.1 a l (ο c));refine ⟨?_,b⟩;rw [Nat.zero_add];exact FQ (i j l c) b
theorem aad {P:Program} {ap:AP} {f:Nat} {args:List AV} {b:Bool} (m:ae P ap f args [] (.ret (.bool b)) []) {W:World} (g:QG ap W) {cargs:List Value} (l:a_ (iF W) args cargs):
  Calls P f cargs.toArray W fun e W'=>e= .returned (.bool b)∧Below W.heap.size W W':=by
 have j:aZ ap (ax []) (fun _=>(0,0)) (iF W) W:=
  ⟨fun b n B B' h=>by simp [ax] at h,fun b B h=>by simp [ax] at h,fun k o v h=>J9 h,fun b B h=>by simp [ax] at h,V7 g⟩
 refine (m.calls (fun _=>(0,0)) (iF W) W cargs j (aV _ l)).mono ?_
 rintro e W' ⟨m',S',hF⟩
 obtain ⟨_,a,c⟩:=hF;obtain ⟨cv,rfl,d⟩:=c;simp only [uV,VR,PR] at d;subst d;exact ⟨rfl,a.os,a.tape,a.output,a.size,fun k i=>a.rest k i fun b B h=>by simp [ax] at h⟩
def AL (P:Program) (ts:List TypeId):Bool:=ts.all fun t=>P.readableRec t && decide (t<P.types.size)
theorem uS {H:Type} {enc:TypeId × Value→H} {P:Program} (c:laidOutB P=true) {W W':World} {b:Nat→Bool}:∀ {ts:List TypeId} {vs:List Value} {ds:List (DataW H)} {ps:List MemPlace},AL P ts=true→DataW.TrodAll enc P W 0 (fun _=>true) true ts vs ds ps→(∀ p ∈ ps,W.sameAt W' p)→(∀ p ∈ ps,b p.block=true)→DataW.TrodAll enc P W' 0 b true ts vs ds ps
 | [],vs,ds,ps,_,h,_,_=>by
  obtain ⟨rfl,rfl,rfl⟩:=trodAll_nil h;rfl
 |t::ts,vs,ds,ps,hf,h,hs,hsp=>by
  obtain ⟨v,f,d,e,p,q,rfl,rfl,rfl,g,i⟩:=trodAll_cons h;simp only [AL,Xjc,ε,decide_eq_true_eq] at hf;exact trodAll_cons_mk (WideElems.Trod_stays c hf.1.1 hf.1.2 g (fun x a=>hs x (by simp [a])) (fun x a=>hsp x (by simp [a]))) (uS c (by simpa [AL] using hf.2) i (fun x a=>hs x (by simp [a])) (fun x a=>hsp x (by simp [a])))
theorem ad7 {H:Type} {enc:TypeId × Value→H} {P:Program} {f:Func} {s:ChangeSpec} {apart fresh handsOn again:Bool} {W W':World} {args:Array Value} {e m:List (DataW H)} {before:List MemPlace} (y:laidOutB P=true) (u:AL P f.params.toList=true)
  (hW:DataW.Whole enc P f.params.toList s.vars apart W args.toList e m before) (hvars:s.vars= []) {tb:TypeId} (hr:f.resultTypes=#[tb]) (htb:P.underlying tb=some .bool) (hfn:s.fn H (e++m)={results:= [.lit (.bool true)],args:=e,vars:= []})
  (hb:Below W.heap.size W W'):s.post enc P f apart fresh handsOn again W args (.bool true) W':=by
 have g:∀ p ∈ before,p.block<W.heap.size:=fun p hp=>hW.lt p hp
 have c:∀ p ∈ before,(fun b=>decide (b<W.heap.size)) p.block=true:=fun p hp=>by simpa using hW.lt p hp
 have j:=hW;obtain ⟨p,q,v,r,rfl,t,n⟩:=hW;rw [hvars] at r;obtain ⟨rfl,rfl⟩:=trodVars_none r;simp only [μ] at g c t n j hfn ⊢;have hargs:∀ a:Nat→Bool,(∀ x ∈ p,a x.block=true)→DataW.TrodAll enc P W' 0 a true f.params.toList args.toList (s.fn H e).args p:=by
  intro a l;rw [hfn];exact uS y u v (fun x h=>hb.same (g x h)) l
 have d:∀ (b:Nat) (a:Nat→Bool) (o:Bool),DataW.TrodAll enc P W' b a o f.resultTypes.toList ((Value.bool true).resultList f.resultTypes.size) (s.fn H e).results []:=by
  intro b a o;rw [hfn,hr];exact trodAll_cons_mk (p:= []) (shut_bool htb true) trodAll_mk0
 have i:∀ a:Nat→Bool,DataW.TrodVars enc P W' a s.vars (s.fn H e).vars []:=by
  intro a;rw [hvars,hfn];rfl
 refine ⟨e,[],p,[],p,[],j,by rw [μ];exact d _ _ _,by rw [μ];exact hargs _ c,by rw [μ];exact i _,World.keptBut_mono (fun x h=>h) (hb.frame _),fun _=> ?_⟩;refine ⟨ok_one hr rfl (okWide_bool_mk htb _),_,_,([]++p)++ [],⟨[]++p,[],trodAll_append (hargs _ (fun _ _=>rfl)) (d _ _ _),by simpa using i _,rfl, ?_, ?_⟩, ?_⟩
 ·intro b k hp;have hp':MemPlace.cell b k ∈ p:=by simpa using hp
  rw [hb.frozen (g _ hp')];exact t b k hp'
 ·intro w;simpa using n w
 ·intro x h _;simpa using h
end AM
