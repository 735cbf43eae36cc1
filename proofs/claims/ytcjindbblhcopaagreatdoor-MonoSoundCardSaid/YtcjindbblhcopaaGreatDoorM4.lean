/- The abstract machine over the code of the model, and the proof that it is sound. No conditions. -/
import Derived.Test.YtcjindbblhcopaaGreatDoorM3
import Derived.Recover
import Derived.ProofKit
import Derived.OpenShut
import Derived.LaidLaws
import Derived.LaidSub
import Derived.Lib.LaidTab
set_option linter.unusedSimpArgs false
set_option linter.unusedVariables false
open Bool renaming and_eq_true→π,not_eq_true'→Xqq
open Nat renaming beq→Xqn,zero_le→Xxf,lt_of_lt_of_le→σ,sub_zero→Xjv
open List renaming mem_of_getElem?→Xqm,flatMap_cons→Xx2,flatMap_nil→Yqk,append_nil→Xqa,range→Xq1,getElem?_map→Xqy,map_cons→Xqc,flatMap_map→Yql,range'→Yq4,getElem?_range→Xzd,mem_cons_self→Xjn,mem_cons_of_mem→Xx0,getElem?_take→Xju,getElem?_drop→Xj1,all_cons→Xj5
open Option renaming map_eq_some_iff→Xqp,map_some→Xx1
namespace AM
open Go
theorem rD {α:Type} {P:Program} {w:World} (f:α→Sem Value):∀ (l:List α) (vs:List Value),l.length=vs.length→(∀ (i:Nat) (x:α) (v:Value),l[i]? =some x→vs[i]? =some v→(f x).run P w= .ok v w)→(l.mapM f).run P w= .ok vs w
 | [],[],_,_=>rfl
 |a::l,v::vs,hl,h=>by
  rw [List.mapM_cons,Sem.run_bind,h 0 a v rfl rfl,Result.andThen_ok,Sem.run_bind,rD f l vs (by simpa using hl) fun i x u c b=>h (i+1) x u (by simpa using c) (by simpa using b),Result.andThen_ok];rfl
 | [],_::_,hl,_=>by simp at hl
 |_::_,[],hl,_=>by simp at hl
def Ca (tmps:Array Value):ResultVar→Sem Value
 | .tmp t=>pure (tmps.getD t undef)
 | .cell a t=>do loadVar t (← asAddr (tmps.getD a undef))
def N_ (vs:List Value):Value:=match vs with| [v]=>v|vs=> .tuple vs.toArray
theorem Hn (a:Func) (tmps:Array Value):results a tmps=(do let vs ← a.results.mapM (Ca tmps);pure (if h:vs.size=1 then vs[0] else .tuple vs)):=by
 unfold results;congr 2
theorem pY {P:Program} {w:World} {a:Func} {tmps:Array Value} {vs:List Value} (b:a.results.toList.length=vs.length)
  (h:∀ (i:Nat) (r:ResultVar) (v:Value),a.results.toList[i]? =some r→vs[i]? =some v→(Ca tmps r).run P w= .ok v w):
  (results a tmps).run P w= .ok (N_ vs) w:=by
 rw [Hn,Array.mapM_eq_mapM_toList];simp only [bind_map_left];rw [Sem.run_bind,rD _ _ vs b h,Result.andThen_ok]
 match vs with
 | []=>rfl
 | [v]=>rfl
 |_::_::_=>simp [N_]
theorem FA {S:aO} {m:aQ} {rd c:bV} {w:World} (h:∀ b B,rd b=some B→c b=some B):jF (bY S m rd w) (bY S m c w):=by
 intro k o v a;unfold bY at a ⊢;split at a
 ·rename_i u f;exact a
 ·rename_i f;split at a
  ·rename_i g;obtain ⟨b,B,d,i,e⟩:=g;rw [if_pos ⟨b,B,h b B d,i,e⟩];exact a
  ·cases a
def cl (rd:bV) (v:AV):List Nat:=oF rd 6 (fU (cR v))
inductive Be (base:Nat) (rd:bV) (all:List Nat):AV→AV→Prop
 |own {b n:Nat} {B:aR}:rd b=some B→base≤b→B.fro=false→B.pr=true→dU all b=1→0<B.esz→Be base rd all (.ref b B.ver 0 n) (.own (B.cells.take (n*B.esz)) n B.esz)
 |low {v:AV}:(∀ b ∈ cR v,b<base)→Be base rd all v v
 |frz {v v':AV}:(∀ b ∈ cl rd v,base≤b)→frz (fun b=>match lQ (cl rd v) b with|true=>rd b|false=>none) 6 v=some v'→Be base rd all v v'
theorem Km {base:Nat} {rd:bV} {v a:AV} (h:Q8 base rd v=some a):(∀ b ∈ cl rd v,base≤b)∧frz (fun b=>match lQ (cl rd v) b with|true=>rd b|false=>none) 6 v=some a:=by
 unfold Q8 at h;dsimp only at h;split at h
 ·rename_i c;exact ⟨fun b d=>dZ (List.all_eq_true.1 c b d),h⟩
 ·cases h
theorem BI {base:Nat} {rd:bV} {all:List Nat} {v a:AV} (h:(match (cR v).all (fun b=>Nat.blt b base) with|true=>some v|false=>Q8 base rd v)=some a):Be base rd all v a:=by
 split at h
 ·rename_i d;cases h;exact .low fun b f=>dG (List.all_eq_true.1 d b f)
 ·obtain ⟨c,e⟩:=Km h;exact .frz c e
theorem tZ {base:Nat} {rd:bV} {all:List Nat} {v d:AV} (h:nC base rd all v=some d):Be base rd all v d:=by
 unfold nC at h;dsimp only at h;split at h
 ·rename_i b ver n;split at h
  ·rename_i B j;split at h
   ·rename_i c;cases h;simp only [π,Xqq] at c;obtain ⟨⟨⟨⟨⟨e,a⟩,i⟩,k⟩,f⟩,g⟩:=c;have a:=aK a;subst a;exact .own j (dZ e) i k (aK f) (dG g)
   ·exact BI h
  ·cases h
 ·exact BI h
theorem qo {l:List Nat} {b:Nat} (h:b ∈ l):1≤dU l b:=by
 unfold dU;have:b ∈ l.filter (Xqn b):=by rw [List.mem_filter];exact ⟨h,Nat.beq_refl b⟩
 exact List.length_pos_of_mem this
theorem nr {l a:List Nat} {b:Nat}:dU (l++a) b=dU l b+dU a b:=by simp [dU,List.filter_append]
theorem uP {α:Type} {f:α→List Nat} {b:Nat}:∀ (vs:List α) (i j:Nat) (v v':α),vs[i]? =some v→vs[j]? =some v'→i ≠ j→b ∈ f v→b ∈ f v'→2≤dU (vs.flatMap f) b
 | [],i,j,v,v',h,_,_,_,_=>by simp at h
 | a::r,i,j,v,v',hi,hj,hne,hb,hb'=>by
  have c:∀ (k:Nat) (u:α),r[k]? =some u→b ∈ f u→1≤dU (r.flatMap f) b:=by
   intro k u d e;exact qo (List.mem_flatMap.2 ⟨u,Xqm d,e⟩)
  rw [Xx2,nr];cases i with
  |zero=>
   simp at hi;subst hi;cases j with
   |zero=>exact absurd rfl hne
   |succ j=>have:=c j v' (by simpa using hj) hb';have:=qo hb;omega
  | succ i=>
   cases j with
   |zero=>simp at hj;subst hj;have:=c i v (by simpa using hi) hb;have:=qo hb';omega
   |succ j=>
    have:=uP r i j v v' (by simpa using hi) (by simpa using hj) (by omega) hb hb';omega
def iJ:List AV→List AV→List (Nat × aR)
 |v::r,.own xs _ esz::q=>(match v with| .ref b _ _ _=> [(b,Dt xs esz)]|_=> [])++iJ r q
 |_::r,_::q=>iJ r q
 |_,_=> []
theorem gi {v x:AV} {r q:List AV} (h:∀ xs k e,x ≠ .own xs k e):iJ (v::r) (x::q)=iJ r q:=by
 cases x<;>first|rfl|exact absurd rfl (h _ _ _)
section
variable {P:Program} {ap:AP} {base:Nat} {rd:bV} {all:List Nat}
theorem rP {g:bV} {m:aQ} {S:aO} {x:AV} {v:Value} (h:VR g m S x v):∀ xs k e,x ≠ .own xs k e:=by
 rintro xs k e rfl;simp [VR] at h
theorem xE {S:aO} {x:AV} {v:Value} (h:PR S x v):∀ xs k e,x ≠ .own xs k e:=by
 rintro xs k e rfl;simp [PR] at h
end
end AM
namespace AM
open Go
theorem yZ {b:Nat}:∀ (l acc:List Nat),(b ∈ l∨b ∈ acc)→b ∈ l.foldl wC acc
 | [],acc,h=>by simpa using h
 | a::r,acc,h=>by
  simp only [List.foldl_cons];refine yZ r _ ?_;rcases h with h|h
  ·rcases List.mem_cons.1 h with rfl|h
   ·right;unfold wC;split
    ·rename_i c;exact fA.1 c
    ·simp
   ·exact .inl h
  ·right;obtain h':=h;unfold wC;split
   ·exact h
   ·simp [h]
theorem G_ {l:List Nat} {b:Nat} (h:b ∈ l):b ∈ fU l:=yZ l [] (.inl h)
theorem Dk (l:List Nat):(fU l).Nodup:=(kX l [] (by simp)).1
theorem NF {rd:bV} {v:AV} {b:Nat} (h:b ∈ cR v):b ∈ cl rd v:=by
 obtain ⟨_,t,a⟩:=oQ rd 6 (fU (cR v)) (Dk _);unfold cl;rw [a];exact List.mem_append.2 (.inl (G_ h))
theorem vo:∀ {vs l:List AV} {b:Nat} {Bo:aR},(b,Bo) ∈ iJ vs l→∃ ver i n c k e,(AV.ref b ver i n,AV.own c k e) ∈ vs.zip l∧Bo=Dt c e
 | [],l,b,Bo,h=>by cases l<;>simp [iJ] at h
 |v::r,[],b,Bo,h=>by simp [iJ] at h
 | v ::r,x::q,b,Bo,h=>by
  rcases gp x with ⟨c,k,e,rfl⟩|hx
  ·simp only [iJ,List.mem_append] at h;rcases h with h|h
   ·cases v with
    |ref b' ver i n=>
     simp at h;obtain ⟨rfl,rfl⟩:=h;exact ⟨ver,i,n,c,k,e,by simp,rfl⟩
    |_=>simp at h
   ·obtain ⟨ver,i,n,a,g,e',d,f⟩:=vo h;exact ⟨ver,i,n,a,g,e',by simp [d],f⟩
  ·rw [gi hx] at h;obtain ⟨ver,i,n,a,g,e',d,f⟩:=vo h;exact ⟨ver,i,n,a,g,e',by simp [d],f⟩
theorem zu {rd:bV} {b:Nat}:∀ (vs l:List AV),dU ((iJ vs l).flatMap fun q=> [q.1]) b≤dU (vs.flatMap (cl rd)) b
 | [],l=>by cases l<;>simp [iJ,dU]
 |v::r,[]=>by simp [iJ,dU]
 | v :: r,x::q=>by
  have f:=zu (rd:=rd) (b:=b) r q;rw [Xx2,nr];rcases gp x with ⟨d,k,e,rfl⟩|hx
  ·simp only [iJ,List.flatMap_append,nr];cases v with
   | ref b' ver i n=>
    simp only [Xx2,Yqk,Xqa];have:dU [b'] b≤dU (cl rd (.ref b' ver i n)) b:=by
     by_cases hb:b=b'
     ·subst hb;have a:dU [b] b=1:=by simp [dU]
      rw [a];exact qo (NF (by simp [cR]))
     ·have a:dU [b'] b=0:=by
       have:Xqn b b'=false:=by
        cases c:Xqn b b' with
        |false=>rfl
        |true=>exact absurd (aK c) hb
       simp [dU,this]
      omega
    omega
   |_=>simp [dU] at*;omega
  ·rw [gi hx];omega
theorem zH:∀ (vs l:List AV) (n:Nat),vs.length=l.length→(∀ v x,(v,x) ∈ vs.zip l→(∃ c k e,x= .own c k e)→∃ b ver i n,v= .ref b ver i n)→(dM n l).2=(iJ vs l).map (·.2)
 | [],[],n,_,_=>by simp [dM,iJ]
 | v::r,x::q,n,hl,h=>by
  have d:=fun n=>zH r q n (by simpa using hl) fun v x f a=>h v x (by simp [f]) a
  rcases gp x with ⟨c,k,e,rfl⟩|a
  ·obtain ⟨b,ver,i,g,rfl⟩:=h v _ (by simp) ⟨c,k,e,rfl⟩;simp only [dM,iJ,d];simp
  ·rw [a_ n a,gi a];exact d n
 | [],_::_,_,hl,_=>by simp at hl
 |_::_,[],_,hl,_=>by simp at hl
theorem Dr {rd gh gf:bV} {m s:aQ} {S S':aO}:∀ (vs l:List AV) (cvs:List Value) (n:Nat),vs.length=l.length→aW rd m S vs cvs→
  (∀ v x,(v,x) ∈ vs.zip l→(∃ a k e,x= .own a k e)→∃ b ver n,v= .ref b ver 0 n∧∃ a e,x= .own a n e)→
  (∀ v x c,(v,x) ∈ vs.zip l→(∀ a k e,x ≠ .own a k e)→VR rd m S v c→VR gh s S' x c)→
  (∀ (k b:Nat) (Bo:aR),(iJ vs l)[k]? =some (b,Bo)→∀ ver o c,VR rd m S (.ref b ver 0 o) c→(∃ a e,(AV.ref b ver 0 o,AV.own a o e) ∈ vs.zip l)→VR gf s S' (.ref (n+k) 0 0 o) c)→gz gh gf s S' n l cvs
 | [],[],[],n,_,_,_,_,_=>by simp [gz]
 | v::r,x::q,c::cs,n,hl,hv,ho,hx,hr=>by
  simp only [aW] at hv;rcases gp x with ⟨a,k,e,rfl⟩|hxo
  ·obtain ⟨b,ver,o,rfl,y,e',w⟩:=ho v _ (by simp) ⟨a,k,e,rfl⟩;cases w;simp only [gz];refine ⟨?_, ?_⟩
   ·have:=hr 0 b (Dt a e) (by simp [iJ]) ver k c hv.1 ⟨a,e,by simp⟩;rwa [Nat.add_zero] at this
   ·refine Dr r q cs (n+1) (by simpa using hl) hv.2 (fun v x i=>ho v x (by simp [i])) (fun v x c i=>hx v x c (by simp [i])) ?_;intro j p Bo t d h u f g;have:=hr (j+1) p Bo (by simpa [iJ] using t) d h u f (by obtain ⟨a,e,g⟩:=g;exact ⟨a,e,by simp [g]⟩);rwa [show n+(j+1)=n+1+j by omega] at this
  ·rw [bH hxo];refine ⟨hx v x c (by simp) hxo hv.1, ?_⟩;refine Dr r q cs n (by simpa using hl) hv.2 (fun v x i=>ho v x (by simp [i])) (fun v x c i=>hx v x c (by simp [i])) ?_;intro j p Bo t d h u f g;exact hr j p Bo (by rw [gi hxo];exact t) d h u f (by obtain ⟨a,e,g⟩:=g;exact ⟨a,e,by simp [g]⟩)
 | [],_::_,_,_,hl,_,_,_,_=>by simp at hl
 |_::_,[],_,_,hl,_,_,_,_=>by simp at hl
 | [],[],_::_,_,_,hv,_,_,_=>by simp [aW] at hv
 |_::_,_::_,[],_,_,hv,_,_,_=>by simp [aW] at hv
theorem EY {α β:Type} {f:α→Option β}:∀ {l:List α} {l':List β},iq f l=some l'→∀ x y,(x,y) ∈ l.zip l'→f x=some y
 | [],l',h,x,y,hm=>by simp at hm
 | a::r,l',h,x,y,hm=>by
  simp only [iq] at h;split at h
  ·rename_i b d;split at h
   ·rename_i q c;cases h;simp only [List.zip_cons_cons,List.mem_cons,Prod.mk.injEq] at hm;rcases hm with ⟨rfl,rfl⟩|hm
    ·exact d
    ·exact EY c x y hm
   ·cases h
  ·cases h
theorem JH {α β:Type} {l:List α} {a:List β} {x:α} {y:β} (h:(x,y) ∈ l.zip a):∃ i:Nat,l[i]? =some x∧a[i]? =some y:=by
 obtain ⟨i,b⟩:=List.mem_iff_getElem?.1 h;rw [List.getElem?_zip_eq_some] at b;exact ⟨i,b⟩
theorem PT {g:bV} {m:aQ} {S:aO} {l:List AV} {vs:List Value} (h:aW g m S l vs) {x:AV} (a:x ∈ l):∃ v,VR g m S x v:=by
 obtain ⟨i,b⟩:=List.mem_iff_getElem?.1 a;obtain ⟨v,_,c⟩:=m_ h i b;exact ⟨v,c⟩
end AM
namespace AM
open Go
section
variable {P:Program} {ap:AP}
theorem rZ {h0 F:List aR} {hp:Hp} {m m0:aQ} {S S0:aO} {w w0:World} {vs l:List AV} {cvs:List Value} (V:bF ap (ax hp) m S w) (A:Fr (aZ h0) m0 S0 w0 (ax hp) m S w) (hv:aW (ax hp) m S vs cvs)
  {N:Nat} (hN:h0.length≤N) (hl:iq (nC N (ax hp) (vs.flatMap (cl (ax hp)))) vs=some l) (hh':iq (ax hp) (Xq1 N)=some F) (hbase:F.all (fun B=>B.pr||(bE B.cells).all fun b=>Nat.blt b N)=true):
  ∃ m' S',bF ap (aZ (F++(dM F.length l).2)) m' S' w∧Fr (aZ h0) m0 S0 w0 (aZ (F++(dM F.length l).2)) m' S' w∧gz (aZ F) (aZ (F++(dM F.length l).2)) m' S' F.length l cvs:=by
 have Y:=(fS hl).1;have hz:∀ v x,(v,x) ∈ vs.zip l→Be N (ax hp) (vs.flatMap (cl (ax hp))) v x:=fun v x E=>tZ (EY hl v x E)
 have J:∀ v x,(v,x) ∈ vs.zip l→(∃ O k e,x= .own O k e)→∃ (b n:Nat) (B:aR),v= .ref b B.ver 0 n∧ax hp b=some B∧N≤b∧B.fro=false∧B.pr=true∧dU (vs.flatMap (cl (ax hp))) b=1∧0<B.esz∧x= .own (B.cells.take (n*B.esz)) n B.esz:=by
  rintro v x E ⟨O,k,e,rfl⟩
  obtain ⟨c,T⟩:=PT hv (List.of_mem_zip E).1;generalize hxe:AV.own O k e=x at E;cases hz v x E with
  |own a d p t z Q=>exact ⟨_,_,_,rfl,a,d,p,t,z,Q,rfl⟩
  |low a=>exact absurd hxe.symm (rP T _ _ _)
  |frz a d=>
   refine absurd hxe.symm (xE (iV V (fun b B g=> ?_) 6 v c x d T) _ _ _);split at g
   ·exact g
   ·cases g
 generalize L:iJ vs l=obs;have hbs:∀ n,(dM n l).2=obs.map (·.2):=by
  intro n;rw [← L];refine zH vs l n Y.symm fun v x E X=> ?_
  obtain ⟨b,n',B,a,_⟩:=J v x E X;exact ⟨b,_,0,n',a⟩
 rw [hbs];have C:∀ b Bo,(b,Bo) ∈ obs→∃ (n:Nat) (B:aR),ax hp b=some B∧N≤b∧B.fro=false∧B.pr=true∧dU (vs.flatMap (cl (ax hp))) b=1∧0<B.esz∧Bo=Dt (B.cells.take (n*B.esz)) B.esz∧(AV.ref b B.ver 0 n,AV.own (B.cells.take (n*B.esz)) n B.esz) ∈ vs.zip l:=by
  intro b Bo E;rw [← L] at E;obtain ⟨ver,i,n,O,k,e,a,d⟩:=vo E;obtain ⟨b',n',B,p,t,z,Q,W,U,Z,D⟩:=J _ _ a ⟨O,k,e,rfl⟩;cases p;cases D;exact ⟨_,B,t,z,Q,W,U,Z,d,a⟩
 have hobd:∀ (k k' b:Nat) (Bo Bo':aR),obs[k]? =some (b,Bo)→obs[k']? =some (b,Bo')→k=k':=by
  intro k k' b Bo Bo' a d;obtain ⟨n,B,_,_,_,_,z,_⟩:=C b Bo (Xqm a);by_cases s:k=k'
  ·exact s
  ·have p:=uP (f:=fun q:Nat × aR=> [q.1]) obs k k' _ _ a d s (b:=b) (by simp) (by simp);have t:=zu (rd:=ax hp) (b:=b) vs l;rw [L] at t;omega
 have hobx:∀ b Bo,(b,Bo) ∈ obs→∀ v x,(v,x) ∈ vs.zip l→(∀ O k e,x ≠ .own O k e)→b ∉ cl (ax hp) v:=by
  intro b Bo E v x hvx X g;obtain ⟨n,B,_,_,_,_,z,_,_,Q⟩:=C b Bo E;obtain ⟨i,W,U⟩:=JH Q;obtain ⟨j,Z,D⟩:=JH hvx;have hne:i ≠ j:=by
   rintro rfl
   rw [U] at D;cases D;exact X _ _ _ rfl
  have:=uP (f:=cl (ax hp)) vs i j _ _ W Z hne (b:=b) (NF (by simp [cR])) g;omega
 have hl0:F.length=N:=by rw [(fS hh').1];simp
 have K:∀ b,b<N→∃ B,ax hp b=some B∧aZ F b=some B:=by
  intro b g;obtain ⟨B,a,d⟩:=(fS hh').2 b b (by simp [g]);exact ⟨B,d,a⟩
 have hlow':∀ b B,aZ F b=some B→b<N∧ax hp b=some B:=by
  intro b B g;have G:b<N:=by
   have:=(List.getElem?_eq_some_iff.1 g).1;omega
  obtain ⟨B',a,d⟩:=K b G;rw [g] at d;cases d;exact ⟨G,a⟩
 let rdF:bV:=open Classical in fun b=>if ∃ v x,(v,x) ∈ vs.zip l∧(∀ O k e,x ≠ .own O k e)∧b ∈ cl (ax hp) v∧∀ y ∈ cl (ax hp) v,N≤y then ax hp b else none
 have R:∀ b B,rdF b=some B→ax hp b=some B∧N≤b∧∀ Bo,(b,Bo) ∉ obs:=by
  intro b B g;dsimp only [rdF] at g;split at g
  ·rename_i T;obtain ⟨v,x,a,d,p,t⟩:=T;exact ⟨g,t b p,fun Bo E=>hobx b Bo E v x a d p⟩
  ·cases g
 have r:=jP S m rdF w
 let m':aQ:=fun i=>if i<N then m i else m ((obs.map (·.1)).getD (i - N) 0)
 have hm'lo:∀ i,i<N→m' i=m i:=fun i I=>if_pos I
 have hm'hi:∀ (k b:Nat) (Bo:aR),obs[k]? =some (b,Bo)→m' (N+k)=m b:=by
  intro k b Bo s;show (if _ then _ else _)=_;rw [if_neg (by omega),show N+k - N=k by omega,List.getD_eq_getElem?_getD,Xqy,s];rfl
 have hgf:∀ i Bi,aZ (F++obs.map (·.2)) i=some Bi→(i<N∧ax hp i=some Bi∧aZ F i=some Bi)∨(∃ k b,i=N+k∧obs[k]? =some (b,Bi)):=by
  intro i Bi I;by_cases G:i<N
  ·rw [du (by omega)] at I;exact .inl ⟨G,(hlow' i Bi I).2,I⟩
  ·rw [fR (by omega),hl0] at I;right;refine ⟨i - N, ?_⟩;have hi':(obs.map (·.2))[i - N]? =some Bi:=I;rw [Xqy,Xqp] at hi';obtain ⟨⟨b,Bo⟩,a,d⟩:=hi';exact ⟨b,by omega,by rw [a];simp at d;rw [d]⟩
 have hgfk:∀ (k b:Nat) (Bo:aR),obs[k]? =some (b,Bo)→aZ (F++obs.map (·.2)) (N+k)=some Bo:=by
  intro k b Bo s;rw [fR (by omega),hl0,show N+k - N=k by omega];show (obs.map (·.2))[k]? =_;rw [Xqy,s];rfl
 have M:∀ i Bi,aZ (F++obs.map (·.2)) i=some Bi→∃ b B,ax hp b=some B∧m' i=m b∧((i<N∧b=i∧Bi=B)∨(N≤b∧∃ k,i=N+k∧obs[k]? =some (b,Bi))):=by
  intro i Bi I;rcases hgf i Bi I with ⟨a,d,p⟩|⟨k,b,rfl,s⟩
  ·exact ⟨i,Bi,d,hm'lo i a,.inl ⟨a,rfl,rfl⟩⟩
  ·obtain ⟨n,B,a,d,_⟩:=C b Bi (Xqm s);exact ⟨b,B,a,hm'hi k b Bi s,.inr ⟨d,k,rfl,s⟩⟩
 refine ⟨m',bY S m rdF w, ?_, ?_, ?_⟩
 ·refine ⟨?_, ?_,fun k o v h=>lD V h, ?_, ?_⟩
  ·intro i j Bi Bj I hj e;obtain ⟨b,B,a,d,p⟩:=M i Bi I;obtain ⟨b',B',h1',h2',h3'⟩:=M j Bj hj;rw [d,h2'] at e;have:=V.inj b b' B B' a h1' e;subst this;rcases p with ⟨t,rfl,_⟩|⟨t,k,rfl,s⟩<;>rcases h3' with ⟨h4',rfl,_⟩|⟨h4',k',rfl,hk'⟩
   ·rfl
   ·omega
   ·omega
   ·rw [hobd k k' b _ _ s hk']
  ·intro i Bi I;rcases hgf i Bi I with ⟨a,d,p⟩|⟨k,b,rfl,s⟩
   ·rw [hm'lo i a];obtain ⟨⟨cur,e,us,rest,k1,k2,k3,k4,k5,k6⟩,k7,k8⟩:=V.blk i Bi d;refine ⟨⟨cur,e,us,rest,k1,k2,fun hp=>bk r _ (k3 hp), ?_,k5,k6⟩,k7,k8⟩;cases hpr:Bi.pr with
    |true=>exact bu _ (bk r _ (k3 hpr))
    |false=>
     refine jL r _ (fun b g=> ?_) k4;have z:=List.all_eq_true.1 hbase Bi (Xqm p);rw [hpr] at z;simp only [Bool.false_or] at z;have Q:=dG (List.all_eq_true.1 z b g);obtain ⟨B,W,U⟩:=K b Q;exact ⟨by rw [du (by omega),U,W],hm'lo b Q⟩
   ·obtain ⟨n,B,a,d,p,t,z,Q,rfl,_⟩:=C b Bi (Xqm s);rw [hm'hi k b _ s];obtain ⟨⟨cur,e,us,rest,k1,k2,k3,k4,k5,k6⟩,k7,k8⟩:=V.blk b B a;have hp:=bk r _ (iz (n*B.esz) (k3 t));refine ⟨⟨cur,e,us.take (n*B.esz),us.drop (n*B.esz)++rest,k1, ?_,fun _=>hp,bu _ hp,fun hz u hu=>k5 hz u (List.mem_of_mem_take hu),k6⟩,fun _=>rfl,Xxf _⟩;rw [← List.append_assoc,List.take_append_drop];exact k2
  ·intro i Bi I o v ho;obtain ⟨b,B,a,d,p⟩:=M i Bi I;rw [d] at ho;have hno:rdF b=none:=by
    cases hr:rdF b with
    |none=>rfl
    |some B'=>
     obtain ⟨_,t,z⟩:=R b B' hr;rcases p with ⟨Q,rfl,_⟩|⟨_,k,_,s⟩
     ·omega
     ·exact absurd (Xqm s) (z _)
   have hSo:S (m b).1 o=some v:=by
    rcases dO ho with h|⟨_,b',B',t,z,_⟩
    ·exact h
    ·have:=V.inj b' b B' B (R b' B' t).1 a z;subst this;rw [hno] at t;cases t
   obtain ⟨W,U⟩:=V.own b B a o v hSo;rcases p with ⟨_,rfl,rfl⟩|⟨_,k,_,s⟩
   ·exact ⟨W,U⟩
   ·obtain ⟨n,B2,Z,_,D,_⟩:=C b _ (Xqm s);rw [a] at Z;cases Z;rw [W] at D;cases D
  ·intro k O s;obtain ⟨us,a,d⟩:=V.glob k O s;exact ⟨us,bk r _ a,d.mono r⟩
 ·refine ⟨?_,A.sle.trans r,A.os,A.tape,A.output,A.size,A.rest, ?_, ?_⟩
  ·intro b B0 g;have G:b<N:=σ (List.getElem?_eq_some_iff.1 g).1 hN;obtain ⟨B,a,d,p⟩:=A.ge b B0 g;obtain ⟨B',t,z⟩:=K b G;rw [a] at t;cases t;exact ⟨B,by rw [du (by omega)];exact z,d,by rw [hm'lo b G];exact p⟩
  ·intro i Bi I;obtain ⟨b,B,a,d,p⟩:=M i Bi I;rw [d];rcases A.img b B a with h|⟨B0,t,z⟩
   ·exact .inl h
   ·have G:b<N:=σ (List.getElem?_eq_some_iff.1 t).1 hN;rcases p with ⟨_,rfl,_⟩|⟨Q,_⟩
    ·exact .inr ⟨B0,t,z⟩
    ·omega
  ·intro k o v hv;rcases dO hv with h|⟨_,b,B,a,d,_⟩
   ·exact A.sealN k o v h
   ·obtain ⟨p,t,_⟩:=R b B a;rcases A.img b B p with h|⟨B0,z,_⟩
    ·exact .inr (.inl (d ▸ h))
    ·have:=(List.getElem?_eq_some_iff.1 z).1;omega
 ·rw [hl0];refine Dr (rd:=ax hp) (m:=m) (S:=S) vs l cvs N Y.symm hv ?_ ?_ ?_
  ·intro v x E X;obtain ⟨b,n,B,a,_,_,_,_,_,_,d⟩:=J v x E X;exact ⟨b,B.ver,n,a,_,_,d⟩
  ·intro v x c E X T;cases hz v x E with
   |own _ _ _ _ _ _=>exact absurd rfl (X _ _ _)
   |low a=>
    refine sW r v (fun b g=> ?_) T;obtain ⟨B,d,p⟩:=K b (a b g);exact ⟨by rw [p,d],hm'lo b (a b g)⟩
   | frz a d=>
    have p:=iV V (fun b B g=>by split at g;exact g;cases g) 6 v c x d T;refine eW x (bP (FA fun b B g=> ?_) x p);split at g
    ·rename_i hm2;dsimp only [rdF];rw [if_pos ⟨v,x,E,X,fA.1 hm2,a⟩];exact g
    ·cases g
  ·rw [L];intro k b Bo s ver n' c T hzz;obtain ⟨n,B,a,d,p,t,z,Q,rfl,W⟩:=C b Bo (Xqm s);obtain ⟨O,e,hzz⟩:=hzz;have hver:ver=B.ver:=by
    obtain ⟨b2,n2,B2,e1,e2,_⟩:=J _ _ hzz ⟨O,_,e,rfl⟩;cases e1;rw [a] at e2;cases e2;rfl
   subst hver;simp only [VR] at T ⊢;obtain ⟨B',U,_,Z,D⟩:=T;rw [a] at U;cases U;refine ⟨_,hgfk k b _ s,Xxf _,Z,fun _=> ?_⟩;rw [hm'hi k b _ s];exact D rfl
end
end AM
namespace AM
open Go
section
variable {P:Program} {ap:AP}
theorem A9 (p:fe P ap) {env:eZ} {hp:Hp} {m:aQ} {S:aO} {w:World} {tmps:Array Value} (C:bF ap (ax hp) m S w) (q:∀ t,VR (ax hp) m S (env.get t) (tmps.getD t undef)) {r:ResultVar} {v:AV} {bs:List Bool}
  (h:um ap env hp r=some (v,bs)) (hbs:∀ b ∈ bs,b=true):∃ cv,(Ca tmps r).run P w= .ok cv w∧VR (ax hp) m S v cv:=by
 cases r with
 |tmp t=>
  simp only [um,Option.some.injEq,Prod.mk.injEq] at h;obtain ⟨rfl,rfl⟩:=h;exact ⟨_,rfl,q t⟩
 | cell a t=>
  simp only [um] at h;have A:=bind_some h;clear h;obtain ⟨J,l,h⟩:=A;simp only [Xqp] at h;obtain ⟨⟨K,ups,D⟩,j,s⟩:=h;simp only [Prod.mk.injEq] at s;obtain ⟨rfl,rfl⟩:=s;obtain ⟨i,d,z,E⟩:=cO p l;have c:=q a;obtain ⟨_,cv,u,G⟩:=vV C (fun b B F=>F) E c j hbs;refine ⟨cv, ?_,G⟩;have g:∃ x,tmps.getD a undef= .pointer (some x):=by
   unfold EW at j;split at j
   ·rename_i I n f;rw [f] at c;simp only [VR,PR] at c;obtain ⟨b,o,vs,e,_⟩:=c;exact ⟨_,e⟩
   ·rename_i b ver n f;rw [f] at c;simp only [VR] at c;obtain ⟨B,_,_,⟨k,o,e⟩,_⟩:=c;exact ⟨_,e⟩
   ·cases j
  obtain ⟨x,y⟩:=g;rw [y] at u;simp only [Ca,y];exact u
theorem lU (a:fe P ap) {env:eZ} {hp:Hp} {m:aQ} {S:aO} {w:World} {tmps:Array Value} (g:bF ap (ax hp) m S w) (f:∀ t,VR (ax hp) m S (env.get t) (tmps.getD t undef)):
  ∀ {rs:List ResultVar} {vs:List (AV × List Bool)},iq (um ap env hp) rs=some vs→(∀ b ∈ vs.flatMap (·.2),b=true)→∃ cvs:List Value,rs.length=cvs.length∧aW (ax hp) m S (vs.map (·.1)) cvs∧∀ (i:Nat) (r:ResultVar) (v:Value),rs[i]? =some r→cvs[i]? =some v→(Ca tmps r).run P w= .ok v w
 | [],vs,h,_=>by
  simp [iq] at h;subst h;exact ⟨[],rfl,by simp [aW],fun i r v h=>by simp at h⟩
 | r::rs,vs,h,hbs=>by
  simp only [iq] at h;split at h
  ·rename_i q k;split at h
   ·rename_i l n;cases h;obtain ⟨v,bs⟩:=q;obtain ⟨cv,j,p⟩:=A9 a g f k (fun b d=>hbs b (by simp [d]));obtain ⟨cvs,s,u,o⟩:=lU a g f n (fun b d=>hbs b (by rw [Xx2];exact List.mem_append.2 (.inr d)));refine ⟨cv::cvs,by simp [s],by simp only [Xqc,aW];exact ⟨p,u⟩, ?_⟩;intro i r' x c e;cases i with
    |zero=>simp at c e;subst c;subst e;exact j
    |succ i=>exact o i r' x (by simpa using c) (by simpa using e)
   ·cases h
  ·cases h
theorem LS {gh gf:bV} {m:aQ} {S:aO} {n:Nat} {x:AV} {v:Value} (h:gz gh gf m S n [x] [v]):sU gh gf m S n x v∧(gW n x).2=(dM n [x]).2:=by
 rcases gp x with ⟨i,k,e,rfl⟩|hx
 ·simp only [gz] at h;exact ⟨h.1,rfl⟩
 ·rw [bH hx] at h;rcases vG x with ⟨l,rfl⟩|ht
  ·have f:=h.1;simp only [VR] at f;obtain ⟨vs,rfl,g⟩:=f;have key:∀ (l:List AV) (vs:List Value) (n:Nat),aW gh m S l vs→gz gh gf m S n l vs∧(dM n l).2= []:=by
    intro l
    induction l with
    |nil=>intro vs n a;cases vs with
     |nil=>exact ⟨by simp [gz],rfl⟩
     |cons _ _=>simp [aW] at a
    | cons y r ih=>intro vs n a;cases vs with
     |nil=>simp [aW] at a
     |cons u us=>
      simp only [aW] at a;have b:=rP a.1;obtain ⟨c,d⟩:=ih us n a.2;rw [bH b,a_ n b];exact ⟨⟨a.1,c⟩,d⟩
   obtain ⟨c,d⟩:=key l vs n g;refine ⟨?_, ?_⟩
   ·simp only [sU];exact ⟨vs,rfl,c⟩
   ·simp only [gW,dM];exact d
  ·rw [iS hx ht,fW n hx ht,a_ n hx];exact ⟨h.1,rfl⟩
theorem qL (rd:bV) (n:Nat):n≤Lc rd n:=by
 obtain ⟨_,t,a⟩:=oQ rd 20 (Xq1 n) List.nodup_range;unfold Lc;rw [a,List.length_append,List.length_range];exact Nat.le_add_right _ _
theorem jg (u:fe P ap) {h0 k:List aR} {J:Func} {env:eZ} {hp:Hp} {m m0:aQ} {S S0:aO} {w w0:World} {tmps:Array Value} {c G:Cx} {out:iy} (h:qH ap h0.length J env hp c= .ok (out,k) G) (F:G.Ok):
  c.Ok∧h0.length≤k.length∧(bF ap (ax hp) m S w→Fr (aZ h0) m0 S0 w0 (ax hp) m S w→(∀ t,VR (ax hp) m S (env.get t) (tmps.getD t undef))→
   ∃ cv,(results J tmps).run P w= .ok cv w∧∃ p S',AK ap h0 m0 S0 w0 out k p S' w (.returned cv)):=by
 unfold qH at h;dsimp only at h;split at h
 ·rename_i vs K r b;split at h
  ·cases h
  ·rename_i hbase;obtain ⟨_,L,E,h⟩:=R.bind_ok h;split at h
   ·rename_i v d;cases h;obtain ⟨g,j⟩:=CQ E F;have hlen':h0.length≤k.length:=by rw [(fS b).1];simpa using qL _ _
    refine ⟨g,hlen',fun o i z=> ?_⟩;obtain ⟨cvs,B,n,D⟩:=lU u o z r j;have a:(vs.flatMap fun q=>oF (ax hp) 6 (fU (cR q.1)))=(vs.map (·.1)).flatMap (cl (ax hp)):=by rw [Yql];rfl
    rw [a] at d;obtain ⟨p,S',y,x,A⟩:=rZ o i n (qL _ _) d b hbase;have C:cvs.length=1:=by
     have:=bI n;have f:=(fS d).1;simp at f this;omega
    match cvs,C with
    | [cv],_=>
     obtain ⟨f,I⟩:=LS A;refine ⟨cv,pY B D,p,S', ?_⟩;rw [← I] at y x;refine ⟨y,x,cv,rfl, ?_⟩;rw [I];exact f
   ·rename_i l e d;cases h;obtain ⟨g,j⟩:=CQ E F;have hlen':h0.length≤k.length:=by rw [(fS b).1];simpa using qL _ _
    refine ⟨g,hlen',fun o i z=> ?_⟩;obtain ⟨cvs,B,n,D⟩:=lU u o z r j;have a:(vs.flatMap fun q=>oF (ax hp) 6 (fU (cR q.1)))=(vs.map (·.1)).flatMap (cl (ax hp)):=by rw [Yql];rfl
    rw [a] at d;obtain ⟨p,S',y,x,A⟩:=rZ o i n (qL _ _) d b hbase;have s:N_ cvs= .tuple cvs.toArray:=by
     match cvs with
     | []=>rfl
     | [cv]=>
      exfalso;have:=bI n;have f:=(fS d).1;simp at f this
      match l,e with
      | [],_=>simp at f;omega
      | [v],e=>exact e v rfl
      |_::_::_,_=>simp at f;omega
     |_::_::_=>rfl
    refine ⟨_,pY B D,p,S',y,x, ?_⟩;rw [s];exact ⟨_,rfl,cvs,rfl,A⟩
   ·cases h
 ·cases h
theorem uk {h0 g:List aR} {v:AV} {hp:Hp} {m m0:aQ} {S S0:aO} {w w0:World} {c u:Cx} {out:iy} (h:Dv h0.length v hp c= .ok (out,g) u):
  c=u∧h0.length≤g.length∧(bF ap (ax hp) m S w→Fr (aZ h0) m0 S0 w0 (ax hp) m S w→∀ cv,VR (ax hp) m S v cv→(∀ b ver n,v ≠ .ref b ver 0 n)→
   ∃ j S',AK ap h0 m0 S0 w0 out g j S' w (.panicked [{v:=cv,recovered:=false}])):=by
 unfold Dv at h;dsimp only at h;split at h
 ·rename_i t y d a;split at h
  ·cases h
  ·rename_i hbase;cases h;have hlen':h0.length≤g.length:=by rw [(fS a).1];simpa using qL _ _
   refine ⟨rfl,hlen',fun x l cv s i=> ?_⟩;have A:iq (nC (Lc (ax hp) h0.length) (ax hp) ([v].flatMap (cl (ax hp)))) [v]=some [t]:=by
    simp only [Xx2,Yqk,Xqa,iq];have z:nC (Lc (ax hp) h0.length) (ax hp) (cl (ax hp) v) v=some t:=d;rw [z]
   obtain ⟨j,S',r,o,p⟩:=rZ x l (vs:= [v]) (cvs:= [cv]) (by simp only [aW];exact ⟨s,trivial⟩) (qL _ _) A a hbase;have f:∀ xs k e,t ≠ .own xs k e:=by
    rintro xs k e rfl
    cases tZ d with
    |own h1 h2 h3 r o p=>exact i _ _ _ rfl
    |low h1=>exact rP s _ _ _ rfl
    |frz h1 h2=>
     exact xE (iV x (fun b B q=>by split at q;exact q;cases q) 6 v cv _ h2 s) _ _ _ rfl
   rw [bH f] at p;rw [a_ _ f] at r o;exact ⟨j,S',r,o,cv,rfl,p.1⟩
 ·cases h
end
end AM
namespace AM
open Go
def oh (S:aO):AV→FrameMode→Prop
 | .nilI,u=>u= .returning
 | .ifc t v,u=> ∃ cv,u= .panicking [{v:=cv,recovered:=false}]∧PR S (.ifc t v) cv
 |_,_=>False
def Gb (md md':AV) (u u':FrameMode):Prop:=(md'=md∧u'=u)∨(md'= .nilI∧settle u'= .returning)
structure PM (P:Program) (ap:AP) (f:Nat) (args:List AV) (h:List aR) (out:iy) (h':List aR) (md md':AV):Prop where
 ent:uJ P f
 calls:∀ m S w cargs u,bF ap (aZ h) m S w→aW (aZ h) m S args cargs→oh S md u→CallsD P f cargs.toArray u w fun e u' w'=>(∃ m' S',AK ap h m S w out h' m' S' w' e)∧Gb md md' u u'
def qh (P:Program) (ap:AP) (H:bL):Prop:=∀ c md f args h out h' md' c',md ≠ .dead→H c md f args h= .ok (out,h',md') c'→c'.Ok→c.Ok∧PM P ap f args h out h' md md'
structure DZ (P:Program) (ap:AP):Prop where
 fn:∀ (f:Nat) (F:AF),ap.fnAt f=some F→P.funcs[f]? =some F.fn
 body:∀ (f:Nat) (F:AF),ap.fnAt f=some F→∃ c,F.fn.body=some c∧cj F.fn.ntmps c=true
 name:∀ (f:Nat) (F:AF),ap.fnAt f=some F→(F.fn.name== "runtime.NumGoroutine")=false
section
variable {P:Program} {ap:AP} {H:bL}
theorem uL (a:DZ P ap) {f:Nat} {F:AF} (b:ap.fnAt f=some F):uJ P f:=by
 intro args w;obtain ⟨c,d,_⟩:=a.body f F b;unfold callFunc;rw [Sem.run_bind];have:(program).run P w= .ok P w:=rfl;rw [this,Result.andThen_ok,a.fn f F b];dsimp only;rw [a.name f F b];simp [d]
theorem FC {S:aO} {md:AV} {u:FrameMode} (h:oh S md u):settle u=u∧u ≠ .run:=by
 cases md<;>simp only [oh] at h
 ·obtain ⟨cv,rfl,_⟩:=h;exact ⟨rfl,by simp⟩
 ·subst h;exact ⟨rfl,by simp⟩
theorem py (L:fe P ap) (V:qh P ap H):
  ∀ (dfs:List (Nat × List AV)) (mode mode':AV) (hp hp':Hp) (c c':Cx),yI ap H dfs mode hp c= .ok (mode',hp') c'→c'.Ok→c.Ok∧
   ∀ (h0:List aR) (y:Func) (tmps:Array Value) (env:eZ) (RR:Ending→World→Prop) (m0:aQ) (S0:aO) (w0:World) m S w k u,bF ap (ax hp) m S w→Fr (aZ h0) m0 S0 w0 (ax hp) m S w→(∀ t,VR (ax hp) m S (env.get t) (tmps.getD t undef))→eQ (ax hp) m S dfs k→oh S mode u→
   (∀ m' S' w' l,bF ap (ax hp') m' S' w'→Fr (aZ h0) m0 S0 w0 (ax hp') m' S' w'→(∀ t,VR (ax hp') m' S' (env.get t) (tmps.getD t undef))→oh S' mode' l→Leaves P y tmps RR [] l w')→Leaves P y tmps RR k u w
 | [],mode,mode',hp,hp',c,c',h,hc=>by
  cases h;refine ⟨hc,fun h0 y tmps env RR m0 S0 w0 m S w k u D o A hd j z=> ?_⟩;cases k with
  |nil=>exact z m S w u D o A j
  |cons _ _=>simp [eQ] at hd
 | (f, args)::r,mode,mode',hp,hp',c,c',h,hc=>by
  simp only [yI] at h;split at h
  ·cases h
  ·rename_i hrefs;simp only [π] at hrefs;have M:mode ≠ .dead:=by rintro rfl;cases hrefs.1
   obtain ⟨q,W,e1,h⟩:=R.bind_ok h;split at h
   ·rename_i v x;obtain ⟨F,ih⟩:=py L V r q.md mode' (q.ups++hp) hp' W c' h hc;obtain ⟨args0,Z,Q,T,X,O,hg⟩:=tD e1;obtain ⟨G,N⟩:=V _ _ _ _ _ _ _ _ _ M X F;refine ⟨G,fun h0 y tmps env RR m0 S0 w0 m S w k u D o A hd j z=> ?_⟩;cases k with
    |nil=>simp [eQ] at hd
    | cons d k=>
     simp only [eQ] at hd;obtain ⟨⟨n,U,Y⟩,h3⟩:=hd;have hfresh:∀ i,i<4→ax hp (eT hp+i)=none:=by
      intro i _;cases hb:ax hp (eT hp+i) with
      |none=>rfl
      |some B=>have:=mR hb;omega
     have hcall:=hg (ax hp) m S w (d.args++n).toList (fun cargs R=>CallsD P f cargs.toArray u w fun e l w'=>R e w'∧Gb mode q.md u l)
      (fun cargs R R' p a=>CallsD.mono p fun e l w' g=> ⟨a e w' g.1,g.2⟩) D (fun b _ B hB=>hB) hfresh Y
      (fun m1 S1 E p a=>N.calls m1 S1 w _ u p a (by
       cases mode<;>simp only [oh] at j ⊢
       ·obtain ⟨cv,I,g⟩:=j;exact ⟨cv,I,bP E _ g⟩
       ·exact j))
     obtain ⟨s,C⟩:=FC j;refine ⟨C,.func f,n,f,d.args++n,U, ?_, ?_⟩
     ·rw [U];exact N.ent _ w
     ·rw [Array.toArray_toList] at hcall;refine CallsD.mono hcall ?_
      rintro e l w' ⟨⟨m',S',p,a,g⟩,h7⟩
      rw [x] at g;obtain ⟨cv,rfl,g⟩:=g;rw [ig] at p a g;refine ih h0 y tmps env RR m0 S0 w0 m' S' w' k (settle l) p (o.trans a) (fun t=>kW a.sle a.ge _ (A t)) (qg a.sle a.ge h3) ?_ z;rcases h7 with ⟨K,rfl⟩|⟨K,h9⟩
      ·rw [s,K];cases mode<;>simp only [oh] at j ⊢
       ·obtain ⟨cv,I,J⟩:=j;exact ⟨cv,I,bP a.sle _ J⟩
       ·exact j
      ·rw [K,h9];rfl
   ·cases h
theorem cZ {n f:Nat} (h:n≤f):∀ (c:Code),cj n c=true→cj f c=true
 | .region _ ops _,hd=>by
  simp only [cj,List.all_eq_true] at hd ⊢;intro o g;have:=hd o g;unfold Bz at this ⊢;split
  ·rename_i d e;rw [e] at this;exact Nat.ble_eq_true_of_le (Nat.le_trans (dZ this) h)
  ·rfl
 | .seq a b,hd=>by simp only [cj,π] at hd ⊢;exact ⟨cZ h a hd.1,cZ h b hd.2⟩
 | .cond _ a b,hd=>by simp only [cj,π] at hd ⊢;exact ⟨cZ h a hd.1,cZ h b hd.2⟩
 | .block _ b,hd=>by simp only [cj] at hd ⊢;exact cZ h b hd
 | .loop b,hd=>by simp only [cj] at hd ⊢;exact cZ h b hd
 | .scope b,hd=>by simp only [cj] at hd ⊢;exact cZ h b hd
 | .skip,_=>rfl
 | .label _,_=>rfl
 | .exit _,_=>rfl
 | .ret,_=>rfl
 | .rangeFunc _ _ _ _,_=>rfl
 | .goto _,_=>rfl
 | .refuse _,_=>rfl
theorem uY {α:Type}:∀ (l:List α) (j t:Nat),ax ((l.zipIdx j).map fun (x,i)=>(i,x)) t=if j≤t then l[t - j]? else none
 | [],j,t=>by simp [ax]
 | a::r,j,t=>by
  rw [List.zipIdx_cons,Xqc];simp only [ax];cases h:Xqn j t with
  |true=>have:=aK h;subst this;simp
  | false=>
   have b:j ≠ t:=by intro e;subst e;simp at h
   simp only [uY r (j+1) t];by_cases hj:j+1≤t
   ·rw [if_pos hj,if_pos (by omega)];obtain ⟨d,hd⟩:∃ d,t - j=d+1:=⟨t - j - 1,by omega⟩
    rw [hd,List.getElem?_cons_succ,show t - (j+1)=d by omega]
   ·rw [if_neg hj,if_neg (by omega)]
theorem C8 {h:List aR} {args:List AV} {cargs:List Value} {m:aQ} {S:aO} {w:World} {md:AV} (e:bF ap (aZ h) m S w) (j:aW (aZ h) m S args cargs) (n:Nat):
  ax (ku md args h).hp=aZ h∧FR ap (ku md args h).env (ku md args h).hp [] (cargs.toArray++Array.replicate (n - cargs.toArray.size) undef).size m S w {tmps:=cargs.toArray++Array.replicate (n - cargs.toArray.size) undef,defers:= []}:=by
 have a:ax (ku md args h).hp=aZ h:=by
  funext b;have:=uY h 0 b;simp only [ku,aZ];rw [this,if_pos (Xxf _),Xjv]
 refine ⟨a,⟨a ▸ e, ?_,by simp [eQ],rfl⟩⟩;intro t;rw [a];have g:(ku md args h).env.get t=(args[t]?).getD .dead:=by
  have:=uY args 0 t;simp only [ku,eZ.get];rw [this,if_pos (Xxf _),Xjv]
 rw [g];cases f:args[t]? with
 |none=>simp [VR]
 | some x=>
  obtain ⟨v,d,i⟩:=m_ j t f;have c:=(List.getElem?_eq_some_iff.1 d).1;have:(cargs.toArray++Array.replicate (n - cargs.toArray.size) undef).getD t undef=v:=by
   rw [Array.getD_eq_getD_getElem?,Array.getElem?_append_left (by simpa using c)];simp [d]
  rw [this];exact i
theorem tU (l:fe P ap) (N:qh P ap H) {h0 y:List aR} {z:Func} {e:br} {s:St} {c K:Cx} {out:iy} {B:AV} (h:wY ap H h0.length z e s c= .ok (out,y,B) K) (J:K.Ok):
  c.Ok∧h0.length≤y.length∧∀ m0 S0 w0 m S w a nt,Fr (aZ h0) m0 S0 w0 (ax s.hp) m S w→FR ap s.env s.hp s.dfs nt m S w a→LQ s.hp m S (bodyPostD P z fun e w'=> ∃ r S',AK ap h0 m0 S0 w0 out y r S' w' e) a w e:=by
 have x:∀ mode,((yI ap H s.dfs mode s.hp c).bind fun (mode,hp) c=>
   match mode with
   | .nilI=>(qH ap h0.length z s.env hp c).bind fun (o,h) c=> .ok (o,h,s.md) c
   | .ifc t v=>(Dv h0.length (.ifc t v) hp c).bind fun (o,h) c=> .ok (o,h,s.md) c
   |_=> .bad 74)= .ok (out,y,B) K→c.Ok∧h0.length≤y.length∧∀ m0 S0 w0 m S w a nt u,Fr (aZ h0) m0 S0 w0 (ax s.hp) m S w→FR ap s.env s.hp s.dfs nt m S w a→oh S mode u→Leaves P z a.tmps (fun e w'=> ∃ r S',AK ap h0 m0 S0 w0 out y r S' w' e) a.defers u w:=by
  intro mode g;obtain ⟨⟨mode',hp'⟩,T,M,g⟩:=R.bind_ok g;dsimp only at g;split at g
  ·obtain ⟨⟨o,p⟩,W,A,g⟩:=R.bind_ok g;cases g;obtain ⟨G,i,C⟩:=jg (P:=P) (m:=fun _=>(0,0)) (m0:=fun _=>(0,0)) (S:=fun _ _=>none) (S0:=fun _ _=>none) (w:=default) (w0:=default) (tmps:=#[]) l A J;obtain ⟨q,E⟩:=py l N s.dfs mode _ s.hp hp' c T M G;refine ⟨q,i,fun m0 S0 w0 m S w a nt u d f L=> ?_⟩;refine E h0 z a.tmps s.env _ m0 S0 w0 m S w a.defers u f.srel d f.env f.dfs L ?_;intro r S' w' Q j k O D;simp only [oh] at D;subst D;obtain ⟨_,_,C⟩:=jg (P:=P) (m:=r) (m0:=m0) (S:=S') (S0:=S0) (w:=w') (w0:=w0) (tmps:=a.tmps) l A J;obtain ⟨cv,F,U⟩:=C j k O;exact ⟨cv,F,U⟩
  ·rename_i t v;obtain ⟨⟨o,p⟩,W,A,g⟩:=R.bind_ok g;cases g;obtain ⟨rfl,i,_⟩:=uk (ap:=ap) (m:=fun _=>(0,0)) (m0:=fun _=>(0,0)) (S:=fun _ _=>none) (S0:=fun _ _=>none) (w:=default) (w0:=default) A;obtain ⟨q,E⟩:=py l N s.dfs mode _ s.hp hp' c _ M J;refine ⟨q,i,fun m0 S0 w0 m S w a nt u d f L=> ?_⟩;refine E h0 z a.tmps s.env _ m0 S0 w0 m S w a.defers u f.srel d f.env f.dfs L ?_;intro r S' w' Q j k O D;simp only [oh] at D;obtain ⟨cv,rfl,F⟩:=D;obtain ⟨_,_,I⟩:=uk (ap:=ap) (m:=r) (m0:=m0) (S:=S') (S0:=S0) (w:=w') (w0:=w0) A;exact I j k cv (eW _ F) (fun b ver n h=>by cases h)
  ·cases g
 unfold wY at h;dsimp only at h;split at h
 ·obtain ⟨p,j,k⟩:=x .nilI h;exact ⟨p,j,fun m0 S0 w0 m S w a nt d f=>k m0 S0 w0 m S w a nt .returning d f rfl⟩
 ·obtain ⟨p,j,k⟩:=x .nilI h;exact ⟨p,j,fun m0 S0 w0 m S w a nt d f=>k m0 S0 w0 m S w a nt .returning d f rfl⟩
 ·rename_i t v;split at h
  ·rename_i V;obtain ⟨p,j,k⟩:=x (.ifc t v) h;refine ⟨p,j,fun m0 S0 w0 m S w a nt d f cv X=>k m0 S0 w0 m S w a nt _ d f ⟨cv,rfl, ?_⟩⟩;exact jE (by simpa [cR] using V) X
  ·cases h
 ·cases h
theorem Ee (j:fe P ap) (g:P.follows .mixedOrders=true) (i:DZ P ap) (x:gR P ap H) (J:qh P ap H) (lf:Nat):gR P ap fun c md f args h=>oN ap H lf md f args h c:=by
 intro c f args h out z o I b G;have b:oN ap H lf .dead f args h c= .ok (out,z,o) I:=b;unfold oN at b;split at b
 ·cases b
 ·rename_i F p;dsimp only at b;obtain ⟨⟨e,s⟩,M,t,b⟩:=R.bind_ok b;dsimp only at b;obtain ⟨a,y,d⟩:=i.body f F p;have hbody:af F.fn=a:=by simp [af,y]
  rw [hbody] at t;obtain ⟨l,n,k⟩:=tU j J b G;obtain ⟨u,_⟩:=di (nt:=F.fn.ntmps) j g x a d _ _ _ _ _ t l;refine ⟨u,n,uL i p,fun m S w cargs B L=> ?_⟩;obtain ⟨C,q⟩:=C8 (md:= .dead) B L F.fn.ntmps;have r:F.fn.ntmps≤(cargs.toArray++Array.replicate (F.fn.ntmps - cargs.toArray.size) undef).size:=by simp;omega
  obtain ⟨_,v⟩:=di j g x a (cZ r a d) _ _ _ _ _ t l;obtain ⟨_,v⟩:=v rfl;refine calls_of_wp_defers (i.fn f F p) y ?_;refine v m S w m S w _ (by rw [C];exact Fr.refl _ _ _ _) q _ ?_;intro E S' w' K D A;exact k m S w E S' w' K _ D A
end
end AM
namespace AM
open Go
section
variable {P:Program} {ap:AP} {H:bL}
theorem Lm {o:Oper} {a:Act} {K K':Act→World→Prop} {Q Q':Exit→Act→World→Prop} {r:Result Next} (c:∀ a w,K a w→K' a w) (d:∀ e a w,Q e a w→Q' e a w) (f:¬ LetsOut Q) (h:o.upon P a K Q r):o.upon P a K' Q' r:=by
 cases r with
 | ok n w'=>
  cases n<;>simp only [Oper.upon] at h ⊢ <;>
   first
    |exact c _ _ h
    |exact Calls.mono h (fun e g b=>by cases e<;>first|exact c _ _ b|exact d _ _ _ b|exact absurd b f)
    |exact Rows.mono h (fun _ _ b=>c _ _ b)
 |halt x w'=>cases x<;>simp only [Oper.upon] at h ⊢ <;>exact d _ _ _ h
theorem gQ {ops:Array Oper} {Q:Exit→Act→List Frame→World→Prop} {g:List Frame} {Q':Exit→Act→World→Prop} (c:∀ e a w,Q' e a w→Q e a g w) (b:¬ LetsOut Q'):∀ (l:List Nat) (a:Act) (w:World),wpOps P ops Q' l a w→wpOpsS P ops Q l a g w
 | [],a,w,h=>c _ _ _ h
 | i ::rest,a,w,h=>by
  simp only [wpOps] at h;simp only [wpOpsS];cases f:ops[i]? with
  |none=>
   simp only [f] at h ⊢;exact gQ c b rest a w h
  | some o=>
   simp only [f] at h ⊢;by_cases hw:Region.wanted o (yielded ops a.tmps)=true
   ·rw [if_pos hw] at h ⊢;rcases h with h|⟨_,h⟩
    ·unfold Oper.wp at h;split
     ·rename_i w' j;rw [j] at h;exact h.elim
     ·exact Lm (fun a w d=>gQ c b rest a w d) (fun e a w d=>c e a w d) b h
    ·exact absurd h b
   ·rw [if_neg hw] at h ⊢;exact gQ c b rest _ w h
theorem abF {Q:Exit→Act→World→Prop}:¬ LetsOut (fun e a w=>e ≠ .outgrown∧Q e a w):=fun ⟨_,_,h,_⟩=>h rfl
theorem Fw {a:Act} {o:Oper} {args:Array Operand} {argTypes:Array TypeId} (h:o.op= .call {callee:= .builtin .recover,args,argTypes}) (w:World):(execOp a.eval o).run P w= .ok .recover w:=by
 unfold execOp;rw [h];rfl
theorem FR.env_cons {env:eZ} {hp:Hp} {dfs:List (Nat × List AV)} {nt:Nat} {m:aQ} {S:aO} {w:World} {a:Act} (h:FR ap env hp dfs nt m S w a) {d:Nat} (hd:d<nt) {v:AV} {cv:Value} (b:VR (ax hp) m S v cv):FR ap ((d,v)::env) hp dfs nt m S w (a.put (some d) cv):=by
 refine ⟨h.srel,fun t=> ?_,by rw [zA];exact h.dfs,by rw [Fh];exact h.size⟩;by_cases ht:d=t
 ·subst ht;rw [zB _ _ _ (by rw [h.size];exact hd)];have:eZ.get ((d,v)::env) d=v:=fQ (env:=env);rw [this];exact b
 ·rw [zC _ _ _ (fun e=>ht (by cases e;rfl))];have:eZ.get ((d,v)::env) t=env.get t:=tW (env:=env) (dst:=some d) (fun e=>ht (by cases e;rfl));rw [this];exact h.env t
theorem CE (l:fe P ap) (I:P.follows .mixedOrders=true) (J:DZ P ap) (hH:gR P ap H) (lf:Nat):qh P ap fun c md f args h=>oN ap H lf md f args h c:=by
 intro c md f args h out h' V c' hmd g hc;have g:oN ap H lf md f args h c= .ok (out,h',V) c':=g;unfold oN at g;split at g
 ·cases g
 ·rename_i F hF;split at g
  ·exact absurd rfl hmd
  ·split at g
   ·rename_i hrefs;simp only [π] at hrefs;obtain ⟨M,L,j⟩:=J.body f F hF;have hbody:af F.fn=M:=by simp [af,L]
    unfold L7 at g;rw [hbody] at g;split at g
    ·rename_i id ops rest;split at g
     ·rename_i o r k;split at g
      ·rename_i args' argTypes d hop hg hd;dsimp only at g;obtain ⟨⟨s1,p⟩,c1,e1,g⟩:=R.bind_ok g;dsimp only at g;split at g
       ·cases g
       ·obtain ⟨⟨e,C⟩,c2,e2,g⟩:=R.bind_ok g;dsimp only at g;split at g
        ·cases g
        ·rename_i Z;have q:∃ Y,(e= .normal∨e= .ret)∧qH ap h.length F.fn C.env C.hp c2= .ok (out,h') Y∧V= .nilI∧Y=c':=by
          split at g
          ·obtain ⟨⟨o1,h1⟩,Y,K,g⟩:=R.bind_ok g;cases g;exact ⟨_,.inl rfl,K,rfl,rfl⟩
          ·obtain ⟨⟨o1,h1⟩,Y,K,g⟩:=R.bind_ok g;cases g;exact ⟨_,.inr rfl,K,rfl,rfl⟩
          ·cases g
         obtain ⟨Y,q,K,rfl,rfl⟩:=q;obtain ⟨N,hlen,_⟩:=jg (P:=P) (m:=fun _=>(0,0)) (m0:=fun _=>(0,0)) (S:=fun _ _=>none) (S0:=fun _ _=>none) (w:=default) (w0:=default) (tmps:=#[]) l K hc;simp only [cj,π] at j;obtain ⟨O,_⟩:=di (nt:=F.fn.ntmps) l I hH rest j.2 _ _ _ _ _ e2 N;have A:∀ nt,F.fn.ntmps≤nt→∀ o' ∈ o::r,∀ d,o'.dst=some d→d<nt:=by
          intro nt z o' ho' d' hd';have:=List.all_eq_true.1 j.1 o' (by rw [k];exact ho');simp only [Bz,hd'] at this;exact σ (dG this) z
         obtain ⟨hc0,_⟩:=jQ (nt:=F.fn.ntmps) l hH (ops:=o::r) (A _ (Nat.le_refl _)) r 1 _ _ _ _ _ _ e1 O;refine ⟨hc0,uL J hF,fun m S w cargs u hS hv hm=> ?_⟩;obtain ⟨hh,hFR⟩:=C8 (md:= .dead) hS hv F.fn.ntmps;have z:F.fn.ntmps≤(cargs.toArray++Array.replicate (F.fn.ntmps - cargs.toArray.size) undef).size:=by simp;omega
         obtain ⟨_,hx⟩:=di l I hH rest (cZ z rest j.2) _ _ _ _ _ e2 N;obtain ⟨_,hs⟩:=jQ l hH (ops:=o::r) (A _ z) r 1 _ _ _ _ _ _ e1 O;obtain ⟨T,hs⟩:=hs rfl (fun t b L=>by cases L) rfl (fun b B L=>mR L);obtain ⟨_,hx⟩:=hx T;have W:=A _ z o (by simp) d hd;refine callsD_of_wpS (J.fn f F hF) L fun c₀ G hc₀=> ?_
         have i:∃ cv n,oh S md u∧VR (ax (ku .dead args h).hp) m S md cv∧settle n= .returning∧((recoverD (c₀::G)=some (cv,{c₀ with mode:=n}::G))∨(recoverD (c₀::G)=none∧cv= .nilIface∧{c₀ with mode:=n}=c₀)):=by
          cases md<;>simp only [oh] at hm
          ·obtain ⟨cv,rfl,hp⟩:=hm;exact ⟨cv,.panicking [{v:=cv,recovered:=true}],⟨cv,rfl,hp⟩,eW _ hp,rfl,.inl (by simp [recoverD,hc₀])⟩
          ·subst hm;exact ⟨.nilIface,.returning,rfl,by simp only [VR,PR],rfl,.inr ⟨by simp [recoverD,hc₀],rfl,by rw [← hc₀]⟩⟩
         obtain ⟨cv,n,_,X,E,i⟩:=i;have hcont:∀ (Q:Exit→Act→List Frame→World→Prop),(∀ e a w',(∃ m' S',Fr (aZ h) m S w (ax C.hp) m' S' w'∧FR ap C.env C.hp C.dfs (cargs.toArray++Array.replicate (F.fn.ntmps - cargs.toArray.size) undef).size m' S' w' a)→(e= .normal∨e= .ret)→Q e a ({c₀ with mode:=n}::G) w')→
           wpOpsS P ops (Exit.thenS (rest.wpS P Q) Q) (Yq4 1 r.length) (({tmps:=cargs.toArray++Array.replicate (F.fn.ntmps - cargs.toArray.size) undef,defers:= []}:Act).put (some d) cv) ({c₀ with mode:=n}::G) w:=by
          intro Q hQ;have hopsA:ops=(o::r).toArray:=by rw [← k]
          rw [hopsA];refine gQ (Q':=fun e a w'=>e ≠ .outgrown∧e= .normal∧rest.wpS P Q a ({c₀ with mode:=n}::G) w') ?_ abF _ _ _ ?_
          ·rintro e a w' ⟨_,rfl,hh⟩
           exact hh
          ·refine hs m S w _ (hFR.env_cons W X) _ ?_;intro m1 S1 w1 a1 h3 h4;refine ⟨by simp,rfl,wpS_of_wp ?_⟩;rw [hh] at h3;obtain ⟨m2,h5,h6⟩:=kE (keep:=F.keep) (s:=⟨s1.env,s1.hp,s1.md,s1.dfs⟩) h3 h4;refine hx m S w m2 S1 w1 a1 h5 h6 _ ?_;intro m3 S3 w3 a3 h7 h8;rcases q with rfl|rfl
           ·exact hQ .normal a3 w3 ⟨m3,S3,h7,h8⟩ (.inl rfl)
           ·exact hQ .ret a3 w3 ⟨m3,S3,h7,h8⟩ (.inr rfl)
         have D:∀ e a w',(∃ m' S',Fr (aZ h) m S w (ax C.hp) m' S' w'∧FR ap C.env C.hp C.dfs (cargs.toArray++Array.replicate (F.fn.ntmps - cargs.toArray.size) undef).size m' S' w' a)→(e= .normal∨e= .ret)→
           bodyPostS P F.fn c₀ G (fun e n w'=>(∃ m' S',AK ap h m S w out h' m' S' w' e)∧Gb md .nilI u n) e a ({c₀ with mode:=n}::G) w':=by
          rintro e a w' ⟨m',S',h3,h4⟩ hee
          obtain ⟨_,_,hro⟩:=jg (P:=P) (m:=m') (m0:=m) (S:=S') (S0:=S) (w:=w') (w0:=w) (tmps:=a.tmps) l K hc;obtain ⟨U,h5,h6⟩:=hro h4.srel h3 h4.env;have hdf:a.defers= []:=by
           have:=h4.dfs;rw [Z] at this;cases hd:a.defers with
           |nil=>rfl
           |cons x y=>rw [hd] at this;simp [eQ] at this
          rcases hee with rfl|rfl
          ·exact ⟨hdf,n,rfl,U,h5,h6,.inr ⟨rfl,E⟩⟩
          ·exact ⟨hdf,n,rfl,U,h5,h6,.inr ⟨rfl,E⟩⟩
         refine wpS_seq (wpS_region ?_);have hrange:Xq1 ops.size=0::Yq4 1 r.length:=by
          have:ops.size=r.length+1:=by rw [← Array.length_toList,k];simp
          rw [this,List.range_eq_range',List.range'_succ]
         rw [hrange];have ho0:ops[0]? =some o:=by
          have:ops.toList[0]? =some o:=by rw [k];rfl
          simpa using this
         simp only [wpOpsS,ho0,Region.wanted,hg,if_true,Fw hop];rw [hd];rcases i with i|⟨i,rfl,hsame⟩
         ·rw [i];exact hcont _ D
         ·rw [i];have:=hcont _ D;rw [hsame] at this;exact this
      ·cases g
     ·cases g
    ·cases g
   ·cases g
end
end AM
namespace AM
open Go
def yn:Option AF→Bool
 |some F=>(match F.fn.body with|some c=>cj F.fn.ntmps c|none=>false) && !(F.fn.name== "runtime.NumGoroutine")
 |none=>true
theorem P3 {P:Program} {ap:AP} (h:(Xq1 ap.nty).map ap.ty.get=(Xq1 ap.nty).map (Pi P)):fe P ap:=by
 constructor;intro t e a;unfold AP.tyAt at a;split at a
 ·rename_i b;have d:=dG b;have c:((Xq1 ap.nty).map ap.ty.get)[t]? =some (some e):=by rw [Xqy,Xzd d];simp [a]
  rw [h,Xqy,Xzd d] at c;simpa using c
 ·cases a
theorem Q7 {P:Program} {ap:AP} {keep:Nat→Bool} (h:(Xq1 ap.nfn).map (fun i=>(ap.fn.get i).map AF.fn)=(Xq1 ap.nfn).map fun i=>match keep i with|true=>P.funcs[i]? |false=>none) (l:(Xq1 ap.nfn).all (fun i=>yn (ap.fn.get i))=true):DZ P ap:=by
 have d:∀ (f:Nat) (F:AF),ap.fnAt f=some F→f<ap.nfn∧ap.fn.get f=some F:=by
  intro f F a;unfold AP.fnAt at a;split at a
  ·rename_i j;exact ⟨dG j,a⟩
  ·cases a
 have hgood:∀ (f:Nat) (F:AF),ap.fnAt f=some F→yn (some F)=true:=by
  intro f F a;obtain ⟨e,g⟩:=d f F a;have:=List.all_eq_true.1 l f (by simpa using e);rwa [g] at this
 constructor
 ·intro f F a;obtain ⟨e,g⟩:=d f F a;have b:((Xq1 ap.nfn).map fun i=>(ap.fn.get i).map AF.fn)[f]? =some (some F.fn):=by rw [Xqy,Xzd e];simp [g]
  rw [h,Xqy,Xzd e] at b;simp only [Xx1,Option.some.injEq] at b;split at b
  ·exact b
  ·cases b
 ·intro f F a;have:=hgood f F a;simp only [yn,π] at this;cases k:F.fn.body with
  |none=>rw [k] at this;cases this.1
  |some c=>rw [k] at this;exact ⟨c,rfl,this.1⟩
 ·intro f F a;have:=hgood f F a;simp only [yn,π,Xqq] at this;exact this.2
end AM
namespace AM
open Go
def aG (P:Program) (ap:AP) (h0:List aR) (n:Nat) (code:Code) (s:St) (e:br) (s':St):Prop:=∀ nt,n≤nt→ai P ap h0 nt code s e s'
abbrev sQ:=List (br × St)
def jm (P:Program) (ap:AP) (H:bL) (h0:List aR) (keep:List Nat) (lf nt:Nat) (ls:List Nat):Code→St→sQ→Cx→R ((br × St) × sQ)
 | .seq a b,s,l,c=>(jm P ap H h0 keep lf nt ls a s l c).bind fun r c=>match r.1.1 with
  | .normal=>jm P ap H h0 keep lf nt ls b r.1.2 r.2 c
  |e=> .ok ((e,r.1.2),r.2) c
 | .cond t a b,s,l,c=>match mG ap s.env t with
  | .bool x=>(uN c x).bind fun x c=>match x with
   |true=>jm P ap H h0 keep lf nt ls a s l c
   |false=>jm P ap H h0 keep lf nt ls b s l c
  |_=> .bad 60
 | .block id b,s,l,c=>match lQ ls id with
  |true=>match l with
   |(e,s')::r=> .ok ((e,s'),r) {c with ps:=aG P ap h0 nt (.block id b) s e s'::c.ps}
   | []=> .bad 62
  |false=>(jm P ap H h0 keep lf nt ls b s l c).bind fun r c=>match r.1.1 with
   | .exit id'=>match Xqn id' id with|true=> .ok ((.normal,r.1.2),r.2) c|false=> .ok ((.exit id',r.1.2),r.2) c
   |e=> .ok ((e,r.1.2),r.2) c
 | .scope b,s,l,c=>jm P ap H h0 keep lf nt ls b s l c
 | .region id ops draw,s,l,c=>match lQ ls (id+1000) with
  |true=>match l with
   |(e,s')::r=> .ok ((e,s'),r) {c with ps:=aG P ap h0 nt (.region id ops draw) s e s'::c.ps}
   | []=> .bad 63
  |false=>(iR ap H h0.length keep lf (.region id ops draw) s c).bind fun r c=> .ok (r,l) c
 |code,s,l,c=>(iR ap H h0.length keep lf code s c).bind fun r c=> .ok (r,l) c
section
variable {P:Program} {ap:AP} {H:bL}
theorem ai.seq {h0:List aR} {nt:Nat} {x y:Code} {s d f:St} {e:br} (p:ai P ap h0 nt x s .normal d) (r:ai P ap h0 nt y d e f):ai P ap h0 nt (.seq x y) s e f:=by
 intro c;obtain ⟨n,q⟩:=p c;obtain ⟨j,l⟩:=r n;refine ⟨j,fun m0 S0 w0 m S w a b i Q h=>wp_seq (q m0 S0 w0 m S w a b i _ ?_)⟩;intro g S' w' o t k;exact l m0 S0 w0 g S' w' o t k Q h
theorem ai.seq_out {h0:List aR} {nt:Nat} {x y:Code} {s f:St} {e:br} (c:e ≠ .normal) (o:ai P ap h0 nt x s e f):ai P ap h0 nt (.seq x y) s e f:=by
 intro d;obtain ⟨l,p⟩:=o d;refine ⟨l,fun m0 S0 w0 m S w a b i Q h=>wp_seq (p m0 S0 w0 m S w a b i _ ?_)⟩;intro g S' w' n j k;have:=h g S' w' n j k;cases e with
 |normal=>exact absurd rfl c
 |exit id=>exact this
 |ret=>exact this
 |panic v=>exact this
theorem ai.cond {h0:List aR} {nt:Nat} {t:Operand} {x y:Code} {s s':St} {e:br} {d:Bool} (k:mG ap s.env t= .bool d) (h:ai P ap h0 nt (if d then x else y) s e s'):ai P ap h0 nt (.cond t x y) s e s':=by
 intro f;obtain ⟨i,j⟩:=h f;refine ⟨i,fun m0 S0 w0 m S w a c b Q g=>wp_cond (t:=d) ?_ (j m0 S0 w0 m S w a c b Q g)⟩;have:=rX b.srel (a:=a) (env:=s.env) t (fun t _=>b.env t);rw [k] at this;simpa only [VR,PR] using this
def ld (id:Nat):br→br
 | .exit id'=>match Xqn id' id with|true=> .normal|false=> .exit id'
 |e=>e
theorem ai.block {h0:List aR} {nt:Nat} {id:Nat} {b:Code} {s s':St} {e:br} (h:ai P ap h0 nt b s e s'):ai P ap h0 nt (.block id b) s (ld id e) s':=by
 intro j;obtain ⟨q,r⟩:=h j;refine ⟨q,fun m0 S0 w0 m S w a f n Q l=>wp_block (r m0 S0 w0 m S w a f n _ ?_)⟩;intro k S' w' i o p;have c:=l k S' w' i o p;cases e with
 |normal=>exact c
 |ret=>exact c
 |panic v=>exact c
 | exit id'=>
  simp only [ld] at c;split at c
  ·rename_i d;show Exit.inBlock id Q (.exit id') i w';simp only [Exit.inBlock,if_pos (aK d)];exact c
  ·rename_i d;show Exit.inBlock id Q (.exit id') i w';have g:id' ≠ id:=by intro e;subst e;simp at d
   simp only [Exit.inBlock,if_neg g];exact c
theorem ai.scope {h0:List aR} {nt:Nat} {b:Code} {s s':St} {e:br} (h:ai P ap h0 nt b s e s'):ai P ap h0 nt (.scope b) s e s':=by
 intro f;obtain ⟨n,p⟩:=h f;refine ⟨n,fun m0 S0 w0 m S w a d j Q i=>wp_scope_straight (p m0 S0 w0 m S w a d j _ ?_)⟩;intro g S' w' o k l;have c:=i g S' w' o k l;cases e with
 |normal=>exact c
 |exit id=>exact c
 |ret=>exact c
 |panic v=>exact c
theorem oZ (F:fe P ap) (u:P.follows .mixedOrders=true) (J:gR P ap H) {h0:List aR} {keep:List Nat} {lf n nt:Nat} (G:n≤nt) {K:List Nat}:∀ (d:Code),cj nt d=true→∀ (s:St) (l:sQ) (r:(br × St) × sQ) (c f:Cx),jm P ap H h0 keep lf n K d s l c= .ok r f→f.Ok→c.Ok∧ai P ap h0 nt d s r.1.1 r.1.2:=by
 have hbase:∀ (d:Code),cj nt d=true→∀ (s:St) (l:sQ) (r:(br × St) × sQ) (c f:Cx),((iR ap H h0.length keep lf d s c).bind fun r c=> .ok (r,l) c)= .ok r f→f.Ok→c.Ok∧ai P ap h0 nt d s r.1.1 r.1.2:=by
  intro d hd s l r c f h a;obtain ⟨⟨e,s'⟩,q,k,h⟩:=R.bind_ok h;cases h;exact di F u J d hd s e s' c _ k a
 intro d
 induction d with
 | seq x y ihx ihy=>
  intro hd s l r c f h a;simp only [cj,π] at hd;simp only [jm] at h;obtain ⟨⟨⟨m,E⟩,D⟩,q,k,h⟩:=R.bind_ok h;dsimp only at h;have hother:m ≠ .normal→R.ok ((m,E),D) q=R.ok r f→c.Ok∧ai P ap h0 nt (.seq x y) s r.1.1 r.1.2:=by
   intro B I;cases I;obtain ⟨g,j⟩:=ihx hd.1 _ _ _ _ _ k a;exact ⟨g,j.seq_out B⟩
  cases m with
  |normal=>
   dsimp only at h;obtain ⟨i,L⟩:=ihy hd.2 _ _ _ _ _ h a;obtain ⟨g,j⟩:=ihx hd.1 _ _ _ _ _ k i;exact ⟨g,j.seq L⟩
  |exit id=>exact hother (by simp) h
  |ret=>exact hother (by simp) h
  |panic v=>exact hother (by simp) h
 | cond t x y ihx ihy=>
  intro hd s l r c f h a;simp only [cj,π] at hd;simp only [jm] at h;split at h
  ·rename_i O o;obtain ⟨M,q,k,h⟩:=R.bind_ok h;cases M with
   |true=>
    obtain ⟨i,j⟩:=ihx hd.1 _ _ _ _ _ h a;obtain ⟨g,z⟩:=iT k i;exact ⟨g,ai.cond o (by rw [← z];exact j)⟩
   |false=>
    obtain ⟨i,j⟩:=ihy hd.2 _ _ _ _ _ h a;obtain ⟨g,z⟩:=iT k i;exact ⟨g,ai.cond o (by rw [← z];exact j)⟩
  ·cases h
 | block id b ih=>
  intro hd s l r c f h a;simp only [cj] at hd;simp only [jm] at h;split at h
  ·split at h
   ·rename_i A C N;cases h;have hp:aG P ap h0 n (.block id b) s A C:=a.ps _ (Xjn ..);exact ⟨⟨a.bs,fun p hp=>a.ps p (Xx0 _ hp)⟩,hp nt G⟩
   ·cases h
  ·obtain ⟨⟨⟨m,E⟩,D⟩,q,k,h⟩:=R.bind_ok h;dsimp only at h;have w:r=((ld id m,E),D)∧q=f:=by
    cases m<;>dsimp only at h
    ·cases h;exact ⟨rfl,rfl⟩
    ·unfold ld;split at h<;>cases h<;>rename_i z<;>dsimp only<;>rw [z]<;>exact ⟨rfl,rfl⟩
    ·cases h;exact ⟨rfl,rfl⟩
    ·cases h;exact ⟨rfl,rfl⟩
   obtain ⟨rfl,rfl⟩:=w;obtain ⟨g,j⟩:=ih hd _ _ _ _ _ k a;exact ⟨g,j.block⟩
 |scope b ih=>
  intro hd s l r c f h a;simp only [cj] at hd;simp only [jm] at h;obtain ⟨g,j⟩:=ih hd _ _ _ _ _ h a;exact ⟨g,j.scope⟩
 |skip=>exact fun hd s l r c f h a=>hbase _ hd s l r c f h a
 | region id ops draw=>
  intro hd s l r c f h a;simp only [jm] at h;split at h
  ·split at h
   ·rename_i A C N;cases h;have hp:aG P ap h0 n (.region id ops draw) s A C:=a.ps _ (Xjn ..);exact ⟨⟨a.bs,fun p hp=>a.ps p (Xx0 _ hp)⟩,hp nt G⟩
   ·cases h
  ·exact hbase _ hd s l r c f h a
 |loop _ _=>exact fun hd s l r c f h a=>hbase _ hd s l r c f h a
 |rangeFunc _ _ _ _=>exact fun hd s l r c f h a=>hbase _ hd s l r c f h a
 |exit _=>exact fun hd s l r c f h a=>hbase _ hd s l r c f h a
 |label _=>exact fun hd s l r c f h a=>hbase _ hd s l r c f h a
 |goto _=>exact fun hd s l r c f h a=>hbase _ hd s l r c f h a
 |ret=>exact fun hd s l r c f h a=>hbase _ hd s l r c f h a
 |refuse _=>exact fun hd s l r c f h a=>hbase _ hd s l r c f h a
def H7 (P:Program) (ap:AP) (H:bL) (lf:Nat) (ls:List Nat) (f:Nat) (args:List AV) (h:List aR) (l:sQ) (c:Cx):R (iy × List aR × AV):=
 match ap.fnAt f with
 |none=> .bad 80
 |some F=>(jm P ap H h F.keep lf F.fn.ntmps ls (af F.fn) (ku .dead args h) l c).bind fun r c=>wY ap H h.length F.fn r.1.1 r.1.2 c
theorem L8 (o:fe P ap) (n:P.follows .mixedOrders=true) (d:DZ P ap) (A:gR P ap H) (J:qh P ap H) {lf:Nat} {B:List Nat} {f:Nat} {args:List AV} {h v:List aR} {l:sQ} {c y:Cx} {out:iy} {p:AV}
  (b:H7 P ap H lf B f args h l c= .ok (out,v,p) y) (hc:y.Ok):aj P ap f args h out v:=by
 unfold H7 at b;split at b
 ·cases b
 ·rename_i F q;obtain ⟨⟨⟨e,s⟩,N⟩,M,x,b⟩:=R.bind_ok b;dsimp only at b;obtain ⟨a,z,i⟩:=d.body f F q;have hbody:af F.fn=a:=by simp [af,z]
  rw [hbody] at x;obtain ⟨t,k,g⟩:=tU o J b hc;refine ⟨k,uL d q,fun m S w cargs D L=> ?_⟩;obtain ⟨E,r⟩:=C8 (md:= .dead) D L F.fn.ntmps;have j:F.fn.ntmps≤(cargs.toArray++Array.replicate (F.fn.ntmps - cargs.toArray.size) undef).size:=by simp;omega
  obtain ⟨_,u⟩:=oZ o n A j a (cZ j a i) _ _ _ _ _ x t;obtain ⟨_,u⟩:=u rfl;refine calls_of_wp_defers (d.fn f F q) z ?_;refine u m S w m S w _ (by rw [E];exact Fr.refl _ _ _ _) r _ ?_;intro I S' w' K G C;exact g m S w I S' w' K _ G C
end
end AM
namespace AM
open Go
def sJ (P:Program) (ap:AP) (lf:Nat):Nat→bL
 |0=>fun _ _ _ _ _=> .bad 90
 | n+1=>fun c md f args h=>
  match md with
  | .dead=>match c.ans with
   |(out,h')::r=> .ok (out,h',.dead) {c with ans:=r,ps:=aj P ap f args h out h'::c.ps}
   |_=> .bad 91
  |md=>oN ap (sJ P ap lf n) lf md f args h c
theorem iZ {P:Program} {ap:AP} (j:fe P ap) (b:P.follows .mixedOrders=true) (g:DZ P ap) (lf:Nat):∀ n,gR P ap (sJ P ap lf n)∧qh P ap (sJ P ap lf n)
 |0=> ⟨fun _ _ _ _ _ _ _ _ h=>(by cases h),fun _ _ _ _ _ _ _ _ _ _ h=>(by cases h)⟩
 | n+1=>by
  obtain ⟨m,o⟩:=iZ j b g lf n;constructor
  ·intro c f args h out k d l a e;simp only [sJ] at a;split at a
   ·cases a;exact ⟨⟨e.bs,fun p hp=>e.ps p (by simp [hp])⟩,e.ps _ (by simp)⟩
   ·cases a
  ·intro c md f args h out k d l i a e;have a:oN ap (sJ P ap lf n) lf md f args h c= .ok (out,k,d) l:=by
    cases md<;>first|exact absurd rfl i|exact a
   exact CE j b g m lf c md f args h out k d l i a e
inductive DX:List Prop→Prop where
 |nil:DX []
 |cons {p:Prop} {l:List Prop}:p→DX l→DX (p::l)
theorem DX.mem {l:List Prop} (h:DX l):∀ p ∈ l,p:=by
 induction h with
 |nil=>intro p hp;cases hp
 |cons hp _ ih=>
  intro q a;rcases List.mem_cons.1 a with rfl|a
  ·exact hp
  ·exact ih q a
inductive jk:List Bool→Prop where
 |nil:jk []
 |t {l:List Bool}:jk l→jk (true::l)
 |c {b:Bool} {l:List Bool}:b=true→jk l→jk (b::l)
theorem jk.mem {l:List Bool} (h:jk l):∀ b ∈ l,b=true:=by
 induction h with
 |nil=>intro p hp;cases hp
 |t _ ih=>
  intro q a;rcases List.mem_cons.1 a with rfl|a
  ·rfl
  ·exact ih q a
 |c hp _ ih=>
  intro q a;rcases List.mem_cons.1 a with rfl|a
  ·exact hp
  ·exact ih q a
structure xC (P:Program) (ap:AP):Prop where
 apok:fe P ap
 mixed:P.follows .mixedOrders=true
 fnok:DZ P ap
theorem Bv {P:Program} {ap:AP} (g:xC P ap) {lf n:Nat} {ans:List (iy × List aR)} {ps:List Prop} {f:Nat} {args:List AV} {h a:List aR} {out:iy} (hp:DX ps)
  (he:oN ap (sJ P ap lf n) lf .dead f args h ⟨true,[],[],[],ans,[]⟩= .ok (out,a,.dead) ⟨true,[],[],ps,[],[]⟩):aj P ap f args h out a:=by
 obtain ⟨c,d⟩:=iZ g.apok g.mixed g.fnok lf n;exact (Ee g.apok g.mixed g.fnok c d lf _ f args h out a .dead _ he ⟨fun b e=>(by cases e),hp.mem⟩).2
end AM
namespace AM
open Go Go.ChangeShapes Go.WideShapes Go.ChangeAt Go.RowKit
def lO:Lit→Value
 | .int k n=> .int k n
 | .bool b=> .bool b
 | .string s=> .string ⟨s.toArray⟩
 |_=> .nilFunc
def EP:Lit→AV
 | .int k n=> .int k n
 | .bool b=> .bool b
 | .string s=> .str s
 |_=> .dead
def yN:Lit→Bool
 | .int _ _=>true
 | .bool _=>true
 | .string _=>true
 |_=>false
def EQ (f:TypeId→DataW Unit→Nat→Option (List (Nat × Lit))):List (TypeId × Nat)→List (DataW Unit)→Option (List (Nat × Lit))
 | [],[]=>some []
 |(t,o)::r,d::ds=>match f t d o,EQ f r ds with
  |some a,some b=>some (a++b)
  |_,_=>none
 |_,_=>none
def jn (P:Program):Nat→TypeId→DataW Unit→Nat→Option (List (Nat × Lit))
 |0,_,_,_=>none
 |n+1,t,d,off=>match P.underlying t,d with
  |some (.struct fs),.agg ds=>EQ (jn P n) (fs.toList.map fun f=>(f.type,off+f.offset)) ds
  |some (.array m e),.agg ds=>EQ (jn P n) ((Xq1 m).map fun i=>(e,off+i*P.cellsOf e)) ds
  |some (.int _),.lit (.int k n)=>some [(off,.int k n)]
  |some .bool,.lit (.bool b)=>some [(off,.bool b)]
  |some .string,.lit (.string s)=>some [(off,.string s)]
  |_,_=>none
theorem yM {f:TypeId→DataW Unit→Nat→Option (List (Nat × Lit))}:∀ {ts:List (TypeId × Nat)} {ds:List (DataW Unit)} {l:List (Nat × Lit)},EQ f ts ds=some l→ts.length=ds.length∧∀ x ∈ l,∃ (i:Nat) (t o:Nat) (d:DataW Unit) (a:List (Nat × Lit)),ts[i]? =some (t,o)∧ds[i]? =some d∧f t d o=some a∧x ∈ a
 | [],[],l,h=>by simp [EQ] at h;subst h;simp
 | (t,o)::r,d::ds,l,h=>by
  simp only [EQ] at h;split at h
  ·rename_i a b g s;cases h;obtain ⟨e,w⟩:=yM s;refine ⟨by simp [e],fun x c=> ?_⟩;rcases List.mem_append.1 c with c|c
   ·exact ⟨0,t,o,d,a,rfl,rfl,g,c⟩
   ·obtain ⟨i,m,k,q,p,n,u,v,j⟩:=w x c;exact ⟨i+1,m,k,q,p,by simpa using n,by simpa using u,v,j⟩
  ·cases h
 | [],_::_,_,h=>by simp [EQ] at h
 |_::_,[],_,h=>by simp [EQ] at h
theorem ky {P:Program} {w:World} {base:Nat} {R:Nat→Bool} {z:Bool}:∀ (n:Nat) (t:TypeId) (d:DataW Unit) (off:Nat) (l:List (Nat × Lit)),jn P n t d off=some l→∀ (c:Nat) (E:List Value) (p:List MemPlace),DataW.trod (fun _=>()) P w base R z c t E=some (d,p)→∀ x ∈ l,∃ j,x.1=off+j∧E[j]? =some (lO x.2)
 |0,_,_,_,_,h=>by simp [jn] at h
 | n +1,t,d,off,l,h=>by
  intro c E p hd x r;simp only [jn] at h;split at h
  ·rename_i W K q;cases c with
   |zero=>simp [DataW.trod] at hd
   | succ m=>
    simp only [DataW.trod,q] at hd;split at hd
    ·obtain ⟨O,J,g⟩:=Option.map_eq_some_iff.1 hd;simp only [Prod.mk.injEq,DataW.agg.injEq] at g;obtain ⟨rfl,rfl⟩:=g;obtain ⟨N,D⟩:=yM h;obtain ⟨i,S,L,Q,a,A,u,C,F⟩:=D x r;rw [Xqy,Xqp] at A;obtain ⟨f,B,y⟩:=A;simp only [Prod.mk.injEq] at y;obtain ⟨rfl,rfl⟩:=y;obtain ⟨b,I,G⟩:=Lib.mapM_at J i f B;rw [Xqy,I] at u;simp only [Xx1,Option.some.injEq] at u;subst u;obtain ⟨j,M,o⟩:=ky n _ _ _ _ C m _ b.2 G x F;refine ⟨f.offset+j,by omega, ?_⟩;rw [Xju] at o;split at o
     ·rwa [Xj1] at o
     ·cases o
    ·cases hd
  ·rename_i k e K q;cases c with
   |zero=>simp [DataW.trod] at hd
   | succ m=>
    simp only [DataW.trod,q] at hd;split at hd
    ·obtain ⟨O,J,g⟩:=Option.map_eq_some_iff.1 hd;simp only [Prod.mk.injEq,DataW.agg.injEq] at g;obtain ⟨rfl,rfl⟩:=g;obtain ⟨N,D⟩:=yM h;obtain ⟨i,S,L,Q,a,A,u,C,F⟩:=D x r;rw [Xqy,Xqp] at A;obtain ⟨f,B,y⟩:=A;simp only [Prod.mk.injEq] at y;obtain ⟨rfl,rfl⟩:=y;obtain ⟨b,I,G⟩:=Lib.mapM_at J i f B;rw [Xqy,I] at u;simp only [Xx1,Option.some.injEq] at u;subst u;obtain ⟨j,M,o⟩:=ky n _ _ _ _ C m _ b.2 G x F;refine ⟨f*P.cellsOf e+j,by omega, ?_⟩;rw [Xju] at o;split at o
     ·rwa [Xj1] at o
     ·cases o
    ·cases hd
  ·rename_i T k U q;cases h;simp at r;subst r;obtain ⟨V,rfl,v,_⟩:=DataW.trod_int q hd;simp only [Prod.mk.injEq,DataW.lit.injEq,Lit.int.injEq] at v;obtain ⟨⟨rfl,rfl⟩,_⟩:=v;exact ⟨0,rfl,rfl⟩
  ·rename_i b q;cases h;simp at r;subst r;cases c with
   |zero=>simp [DataW.trod] at hd
   |succ m=>
    unfold DataW.trod at hd;rw [q] at hd;split at hd<;>simp_all
    rfl
  ·rename_i s q;cases h;simp at r;subst r;cases c with
   |zero=>simp [DataW.trod] at hd
   |succ m=>
    unfold DataW.trod at hd;rw [q] at hd;split at hd<;>simp_all
    obtain ⟨_,rfl,_⟩:=hd;rfl
  ·cases h
theorem ud {P:Program} {w:World}:∀ {l:List (String × DataW Unit)} {ps:List MemPlace},DataW.LaidVars P w l ps→∀ n d,(n,d) ∈ l→∃ g t b a p,P.globalNamed n=some g∧(P.globals[g]?).map (·.type)=some t∧w.var? P n=some b∧DataW.trod (fun _=>()) P w 0 (fun _=>true) false a t b.toList=some (d,p)
 | [],_,_,n,d,hm=>by cases hm
 | (n',d')::r,ps,h,n,d,hm=>by
  obtain ⟨g,t,b,a,p,q,c,j,e,f,i,_⟩:=h;rcases List.mem_cons.1 hm with he|hm
  ·cases he;exact ⟨g,t,b,a,p,c,j,e,f⟩
  ·exact ud i n d hm
theorem G5 {P:Program} {W:World} {a:List (String × DataW Unit)} (h:laidMetH P a W) (e:a.filter (fun x=>x.2.handleName?.isSome)= []) {n:String} {d:DataW Unit} (A:(n,d) ∈ a) {g:Nat} {t:TypeId} (m:P.globalNamed n=some g) (s:(P.globals[g]?).map (·.type)=some t)
  {ls:List Lit} (hl:jn P 6 t d 0=some (ls.zipIdx.map fun (l,i)=>(i,l))):∀ (j:Nat) (l:Lit),ls[j]? =some l→W.cell? ⟨g,j,none⟩=some (lO l):=by
 have b:laidMet P a W:=by
  unfold laidMetH at h;rw [e] at h;exact h
 obtain ⟨ps,z,_⟩:=b;obtain ⟨g',B,v,c,p,o,u,w,y⟩:=ud z n d A;obtain rfl:=Option.some.inj (m.symm.trans o);obtain rfl:=Option.some.inj (s.symm.trans u);intro j l q;obtain ⟨f,k,r⟩:=ky 6 t d 0 _ hl c v.toList p y (j,l) (by
  rw [List.mem_map];exact ⟨(l,j),by rw [List.mem_zipIdx_iff_getElem?];exact q,rfl⟩)
 have:f=j:=by simp at k;exact k.symm
 subst this;rw [World.var?_cell m w f];simpa using r
def lZ (W:World):aO:=fun k o=>match W.cell? ⟨k,o,none⟩ with|some v=>if v.oneCell' then some v else none|none=>none
theorem Co {W:World} {k o:Nat} {v:Value} (h:W.cell? ⟨k,o,none⟩=some v) (a:v.oneCell'=true):lZ W k o=some v:=by
 unfold lZ;rw [h];simp only;rw [if_pos a]
theorem FZ {W:World} {k o:Nat} {v:Value} (h:lZ W k o=some v):cf W k o=some v:=by
 unfold lZ at h;split at h
 ·rename_i c b;split at h
  ·rename_i a;cases h;exact xQ b a
  ·cases h
 ·cases h
theorem D5 (S:aO):∀ (ls:List Lit),ls.all yN=true→bZ S (ls.map EP) (ls.map lO)
 | [],_=>by simp [bZ]
 |l::r,h=>by
  simp only [Xj5,π] at h;simp only [Xqc,bZ];refine ⟨?_,D5 S r h.2⟩;cases l<;>simp only [EP,lO,PR]<;>first|rfl|(exact absurd h.1 (by simp [yN]))
theorem G7 {l:Lit} (h:yN l=true):(lO l).oneCell'=true:=by
 cases l<;>first|rfl|(exact absurd h (by simp [yN]))
def LR (ap:AP) (W:World):Prop:=∀ k xs,(ap.gl[k]?).join=some xs→∃ ls:List Lit,xs=ls.map EP∧ls.all yN=true∧∀ (j:Nat) (l:Lit),ls[j]? =some l→W.cell? ⟨k,j,none⟩=some (lO l)
theorem Q_ {ap:AP} {W:World} (h:LR ap W):js ap (lZ W):=by
 intro k f e;obtain ⟨i,rfl,a,g⟩:=h k f e;refine ⟨i.map lO,D5 _ _ a, ?_⟩;intro j u b;rw [Xqy,Xqp] at b;obtain ⟨l,c,rfl⟩:=b;have d:=G7 (List.all_eq_true.1 a l (Xqm c));refine ⟨?_,d⟩;rw [Nat.zero_add];exact Co (g j l c) d
theorem VC {P:Program} {ap:AP} {f:Nat} {args:List AV} {b:Bool} (i:aj P ap f args [] (.ret (.bool b)) []) {W:World} (l:LR ap W) {cargs:List Value} (m:bZ (lZ W) args cargs):
  Calls P f cargs.toArray W fun e W'=>e= .returned (.bool b)∧Below W.heap.size W W':=by
 have j:bF ap (aZ []) (fun _=>(0,0)) (lZ W) W:=
  ⟨fun b n B B' h=>by simp [aZ] at h,fun b B h=>by simp [aZ] at h,fun k o v h=>FZ h,fun b B h=>by simp [aZ] at h,Q_ l⟩
 refine (i.calls (fun _=>(0,0)) (lZ W) W cargs j (bu _ m)).mono ?_
 rintro e W' ⟨m',S',hF⟩
 obtain ⟨_,a,c⟩:=hF;obtain ⟨cv,rfl,d⟩:=c;simp only [sU,VR,PR] at d;subst d;exact ⟨rfl,a.os,a.tape,a.output,a.size,fun k g=>a.rest k g fun b B h=>by simp [aZ] at h⟩
def xx (P:Program) (ts:List TypeId):Bool:=ts.all fun t=>P.readableRec t && decide (t<P.types.size)
theorem rL {H:Type} {enc:TypeId × Value→H} {P:Program} (b:laidOutB P=true) {W W':World} {c:Nat→Bool}:∀ {ts:List TypeId} {vs:List Value} {ds:List (DataW H)} {ps:List MemPlace},xx P ts=true→DataW.TrodAll enc P W 0 (fun _=>true) true ts vs ds ps→(∀ p ∈ ps,W.sameAt W' p)→(∀ p ∈ ps,c p.block=true)→DataW.TrodAll enc P W' 0 c true ts vs ds ps
 | [],vs,ds,ps,_,h,_,_=>by
  obtain ⟨rfl,rfl,rfl⟩:=trodAll_nil h;rfl
 |t::ts,vs,ds,ps,hf,h,hs,hsp=>by
  obtain ⟨v,g,d,i,p,q,rfl,rfl,rfl,e,f⟩:=trodAll_cons h;simp only [xx,Xj5,π,decide_eq_true_eq] at hf;exact trodAll_cons_mk (WideElems.Trod_stays b hf.1.1 hf.1.2 e (fun x a=>hs x (by simp [a])) (fun x a=>hsp x (by simp [a]))) (rL b (by simpa [xx] using hf.2) f (fun x a=>hs x (by simp [a])) (fun x a=>hsp x (by simp [a])))
theorem aa9 {H:Type} {enc:TypeId × Value→H} {P:Program} {f:Func} {s:ChangeSpec} {apart fresh handsOn again:Bool} {W W':World} {args:Array Value} {e r:List (DataW H)} {before:List MemPlace} (u:laidOutB P=true) (t:xx P f.params.toList=true)
  (hW:DataW.Whole enc P f.params.toList s.vars apart W args.toList e r before) (hvars:s.vars= []) {tb:TypeId} (hr:f.resultTypes=#[tb]) (htb:P.underlying tb=some .bool) (hfn:s.fn H (e++r)={results:= [.lit (.bool true)],args:=e,vars:= []})
  (hb:Below W.heap.size W W'):s.post enc P f apart fresh handsOn again W args (.bool true) W':=by
 have g:∀ p ∈ before,p.block<W.heap.size:=fun p hp=>hW.lt p hp
 have c:∀ p ∈ before,(fun b=>decide (b<W.heap.size)) p.block=true:=fun p hp=>by simpa using hW.lt p hp
 have h:=hW;obtain ⟨p,q,v,n,rfl,o,m⟩:=hW;rw [hvars] at n;obtain ⟨rfl,rfl⟩:=trodVars_none n;simp only [Xqa] at g c o m h hfn ⊢;have hargs:∀ a:Nat→Bool,(∀ x ∈ p,a x.block=true)→DataW.TrodAll enc P W' 0 a true f.params.toList args.toList (s.fn H e).args p:=by
  intro a l;rw [hfn];exact rL u t v (fun x k=>hb.same (g x k)) l
 have d:∀ (b:Nat) (a:Nat→Bool) (hd:Bool),DataW.TrodAll enc P W' b a hd f.resultTypes.toList ((Value.bool true).resultList f.resultTypes.size) (s.fn H e).results []:=by
  intro b a hd;rw [hfn,hr];exact trodAll_cons_mk (p:= []) (shut_bool htb true) trodAll_mk0
 have j:∀ a:Nat→Bool,DataW.TrodVars enc P W' a s.vars (s.fn H e).vars []:=by
  intro a;rw [hvars,hfn];rfl
 refine ⟨e,[],p,[],p,[],h,by rw [Xqa];exact d _ _ _,by rw [Xqa];exact hargs _ c,by rw [Xqa];exact j _,World.keptBut_mono (fun x k=>k) (hb.frame _),fun _=> ?_⟩;refine ⟨ok_one hr rfl (okWide_bool_mk htb _),_,_,([]++p)++ [],⟨[]++p,[],trodAll_append (hargs _ (fun _ _=>rfl)) (d _ _ _),by simpa using j _,rfl, ?_, ?_⟩, ?_⟩
 ·intro b i hp;have hp':MemPlace.cell b i ∈ p:=by simpa using hp
  rw [hb.frozen (g _ hp')];exact o b i hp'
 ·intro w;simpa using m w
 ·intro x k _;simpa using k
end AM
