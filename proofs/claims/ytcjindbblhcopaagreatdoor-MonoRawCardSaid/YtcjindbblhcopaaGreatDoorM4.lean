/- The abstract machine over the code of the model, and the proof that it is sound. No conditions. -/
import Derived.Test.YtcjindbblhcopaaGreatDoorM3
import Derived.Recover
import Derived.ProofKit
import Derived.OpenShut
import Derived.LaidLaws
import Derived.LaidSub
import Derived.Lib.LaidTab
set_option linter.unusedSimpArgs false
set_option linter.unusedVariables false
open Bool renaming and_eq_true→σ,not_eq_true'→Xqm
open Nat renaming beq→Xqo,zero_le→Xxq,lt_of_lt_of_le→Xqg,sub_zero→Xjq
open List renaming mem_of_getElem?→Xqr,flatMap_cons→Xjm,flatMap_nil→Xk5,append_nil→Γ,range→Xq2,getElem?_map→Xqz,map_cons→Xqf,flatMap_map→Xvr,range'→Yqj,getElem?_range→Xj5,mem_cons_self→Xji,mem_cons_of_mem→Xxx,getElem?_take→Xjp,getElem?_drop→Xj0,all_cons→Xx2
open Option renaming map_eq_some_iff→Xqs,map_some→Xjf
namespace AM
open Go
theorem wS {α:Type} {P:Program} {w:World} (f:α→Sem Value):∀ (l:List α) (vs:List Value),l.length=vs.length→(∀ (i:Nat) (x:α) (v:Value),l[i]? =some x→vs[i]? =some v→(f x).run P w= .ok v w)→(l.mapM f).run P w= .ok vs w
 | [],[],_,_=>rfl
 |a::l,v::vs,hl,h=>by
  rw [List.mapM_cons,Sem.run_bind,h 0 a v rfl rfl,Result.andThen_ok,Sem.run_bind,wS f l vs (by simpa using hl) fun i x u c b=>h (i+1) x u (by simpa using c) (by simpa using b),Result.andThen_ok];rfl
 | [],_::_,hl,_=>by simp at hl
 |_::_,[],hl,_=>by simp at hl
def H6 (tmps:Array Value):ResultVar→Sem Value
 | .tmp t=>pure (tmps.getD t undef)
 | .cell a t=>do loadVar t (← asAddr (tmps.getD a undef))
def V9 (vs:List Value):Value:=match vs with| [v]=>v|vs=> .tuple vs.toArray
theorem Oy (a:Func) (tmps:Array Value):results a tmps=(do let vs ← a.results.mapM (H6 tmps);pure (if h:vs.size=1 then vs[0] else .tuple vs)):=by
 unfold results;congr 2
theorem uT {P:Program} {w:World} {a:Func} {tmps:Array Value} {vs:List Value} (b:a.results.toList.length=vs.length)
  (h:∀ (i:Nat) (r:ResultVar) (v:Value),a.results.toList[i]? =some r→vs[i]? =some v→(H6 tmps r).run P w= .ok v w):
  (results a tmps).run P w= .ok (V9 vs) w:=by
 rw [Oy,Array.mapM_eq_mapM_toList];simp only [bind_map_left];rw [Sem.run_bind,wS _ _ vs b h,Result.andThen_ok]
 match vs with
 | []=>rfl
 | [v]=>rfl
 |_::_::_=>simp [V9]
theorem LV {S:aU} {m:a_} {rd c:dM} {w:World} (h:∀ b B,rd b=some B→c b=some B):mY (dR S m rd w) (dR S m c w):=by
 intro k o v a;unfold dR at a ⊢;split at a
 ·rename_i u d;exact a
 ·rename_i d;split at a
  ·rename_i e;obtain ⟨b,B,g,f,i⟩:=e;rw [if_pos ⟨b,B,h b B g,f,i⟩];exact a
  ·cases a
def cl (rd:dM) (v:AV):List Nat:=tC rd 6 (jq (eX v))
inductive Gp (base:Nat) (rd:dM) (all:List Nat):AV→AV→Prop
 |own {b n:Nat} {B:bi}:rd b=some B→base≤b→B.fro=false→B.pr=true→gu all b=1→0<B.esz→Gp base rd all (.ref b B.ver 0 n) (.own (B.cells.take (n*B.esz)) n B.esz)
 |low {v:AV}:(∀ b ∈ eX v,b<base)→Gp base rd all v v
 |frz {v v':AV}:(∀ b ∈ cl rd v,base≤b)→frz (fun b=>match pY (cl rd v) b with|true=>rd b|false=>none) 6 v=some v'→Gp base rd all v v'
theorem Ru {base:Nat} {rd:dM} {v a:AV} (h:YE base rd v=some a):(∀ b ∈ cl rd v,base≤b)∧frz (fun b=>match pY (cl rd v) b with|true=>rd b|false=>none) 6 v=some a:=by
 unfold YE at h;dsimp only at h;split at h
 ·rename_i c;exact ⟨fun b d=>gG (List.all_eq_true.1 c b d),h⟩
 ·cases h
theorem G5 {base:Nat} {rd:dM} {all:List Nat} {v a:AV} (h:(match (eX v).all (fun b=>Nat.blt b base) with|true=>some v|false=>YE base rd v)=some a):Gp base rd all v a:=by
 split at h
 ·rename_i c;cases h;exact .low fun b d=>fU (List.all_eq_true.1 c b d)
 ·obtain ⟨f,e⟩:=Ru h;exact .frz f e
theorem yI {base:Nat} {rd:dM} {all:List Nat} {v c:AV} (h:rD base rd all v=some c):Gp base rd all v c:=by
 unfold rD at h;dsimp only at h;split at h
 ·rename_i b ver n;split at h
  ·rename_i B f;split at h
   ·rename_i d;cases h;simp only [σ,Xqm] at d;obtain ⟨⟨⟨⟨⟨j,a⟩,k⟩,e⟩,i⟩,g⟩:=d;have a:=aO a;subst a;exact .own f (gG j) k e (aO i) (fU g)
   ·exact G5 h
  ·cases h
 ·exact G5 h
theorem vH {l:List Nat} {b:Nat} (h:b ∈ l):1≤gu l b:=by
 unfold gu;have:b ∈ l.filter (Xqo b):=by rw [List.mem_filter];exact ⟨h,Nat.beq_refl b⟩
 exact List.length_pos_of_mem this
theorem qX {l a:List Nat} {b:Nat}:gu (l++a) b=gu l b+gu a b:=by simp [gu,List.filter_append]
theorem zA {α:Type} {f:α→List Nat} {b:Nat}:∀ (vs:List α) (i j:Nat) (v v':α),vs[i]? =some v→vs[j]? =some v'→i ≠ j→b ∈ f v→b ∈ f v'→2≤gu (vs.flatMap f) b
 | [],i,j,v,v',h,_,_,_,_=>by simp at h
 | a::r,i,j,v,v',hi,hj,hne,hb,hb'=>by
  have c:∀ (k:Nat) (u:α),r[k]? =some u→b ∈ f u→1≤gu (r.flatMap f) b:=by
   intro k u e d;exact vH (List.mem_flatMap.2 ⟨u,Xqr e,d⟩)
  rw [Xjm,qX];cases i with
  |zero=>
   simp at hi;subst hi;cases j with
   |zero=>exact absurd rfl hne
   |succ j=>have:=c j v' (by simpa using hj) hb';have:=vH hb;omega
  | succ i=>
   cases j with
   |zero=>simp at hj;subst hj;have:=c i v (by simpa using hi) hb;have:=vH hb';omega
   |succ j=>
    have:=zA r i j v v' (by simpa using hi) (by simpa using hj) (by omega) hb hb';omega
def kY:List AV→List AV→List (Nat × bi)
 |v::r,.own xs _ esz::q=>(match v with| .ref b _ _ _=> [(b,Jn xs esz)]|_=> [])++kY r q
 |_::r,_::q=>kY r q
 |_,_=> []
theorem jA {v x:AV} {r q:List AV} (h:∀ xs k e,x ≠ .own xs k e):kY (v::r) (x::q)=kY r q:=by
 cases x<;>first|rfl|exact absurd rfl (h _ _ _)
section
variable {P:Program} {ap:AP} {base:Nat} {rd:dM} {all:List Nat}
theorem w_ {g:dM} {m:a_} {S:aU} {x:AV} {v:Value} (h:VR g m S x v):∀ xs k e,x ≠ .own xs k e:=by
 rintro xs k e rfl;simp [VR] at h
theorem CP {S:aU} {x:AV} {v:Value} (h:PR S x v):∀ xs k e,x ≠ .own xs k e:=by
 rintro xs k e rfl;simp [PR] at h
end
end AM
namespace AM
open Go
theorem Eu {b:Nat}:∀ (l acc:List Nat),(b ∈ l∨b ∈ acc)→b ∈ l.foldl Bf acc
 | [],acc,h=>by simpa using h
 | a::r,acc,h=>by
  simp only [List.foldl_cons];refine Eu r _ ?_;rcases h with h|h
  ·rcases List.mem_cons.1 h with rfl|h
   ·right;unfold Bf;split
    ·rename_i c;exact iV.1 c
    ·simp
   ·exact .inl h
  ·right;obtain h':=h;unfold Bf;split
   ·exact h
   ·simp [h]
theorem Oe {l:List Nat} {b:Nat} (h:b ∈ l):b ∈ jq l:=Eu l [] (.inl h)
theorem Ji (l:List Nat):(jq l).Nodup:=(oN l [] (by simp)).1
theorem VJ {rd:dM} {v:AV} {b:Nat} (h:b ∈ eX v):b ∈ cl rd v:=by
 obtain ⟨_,t,a⟩:=uh rd 6 (jq (eX v)) (Ji _);unfold cl;rw [a];exact List.mem_append.2 (.inl (Oe h))
theorem zT:∀ {vs l:List AV} {b:Nat} {Bo:bi},(b,Bo) ∈ kY vs l→∃ ver i n c k e,(AV.ref b ver i n,AV.own c k e) ∈ vs.zip l∧Bo=Jn c e
 | [],l,b,Bo,h=>by cases l<;>simp [kY] at h
 |v::r,[],b,Bo,h=>by simp [kY] at h
 | v ::r,x::q,b,Bo,h=>by
  rcases jE x with ⟨c,k,e,rfl⟩|hx
  ·simp only [kY,List.mem_append] at h;rcases h with h|h
   ·cases v with
    |ref b' ver i n=>
     simp at h;obtain ⟨rfl,rfl⟩:=h;exact ⟨ver,i,n,c,k,e,by simp,rfl⟩
    |_=>simp at h
   ·obtain ⟨ver,i,n,a,d,e',g,f⟩:=zT h;exact ⟨ver,i,n,a,d,e',by simp [g],f⟩
  ·rw [jA hx] at h;obtain ⟨ver,i,n,a,d,e',g,f⟩:=zT h;exact ⟨ver,i,n,a,d,e',by simp [g],f⟩
theorem EH {rd:dM} {b:Nat}:∀ (vs l:List AV),gu ((kY vs l).flatMap fun q=> [q.1]) b≤gu (vs.flatMap (cl rd)) b
 | [],l=>by cases l<;>simp [kY,gu]
 |v::r,[]=>by simp [kY,gu]
 | v :: r,x::q=>by
  have f:=EH (rd:=rd) (b:=b) r q;rw [Xjm,qX];rcases jE x with ⟨d,k,e,rfl⟩|hx
  ·simp only [kY,List.flatMap_append,qX];cases v with
   | ref b' ver i n=>
    simp only [Xjm,Xk5,Γ];have:gu [b'] b≤gu (cl rd (.ref b' ver i n)) b:=by
     by_cases hb:b=b'
     ·subst hb;have a:gu [b] b=1:=by simp [gu]
      rw [a];exact vH (VJ (by simp [eX]))
     ·have a:gu [b'] b=0:=by
       have:Xqo b b'=false:=by
        cases c:Xqo b b' with
        |false=>rfl
        |true=>exact absurd (aO c) hb
       simp [gu,this]
      omega
    omega
   |_=>simp [gu] at*;omega
  ·rw [jA hx];omega
theorem ES:∀ (vs l:List AV) (n:Nat),vs.length=l.length→(∀ v x,(v,x) ∈ vs.zip l→(∃ c k e,x= .own c k e)→∃ b ver i n,v= .ref b ver i n)→(fZ n l).2=(kY vs l).map (·.2)
 | [],[],n,_,_=>by simp [fZ,kY]
 | v::r,x::q,n,hl,h=>by
  have d:=fun n=>ES r q n (by simpa using hl) fun v x f a=>h v x (by simp [f]) a
  rcases jE x with ⟨c,k,e,rfl⟩|a
  ·obtain ⟨b,ver,i,g,rfl⟩:=h v _ (by simp) ⟨c,k,e,rfl⟩;simp only [fZ,kY,d];simp
  ·rw [bI n a,jA a];exact d n
 | [],_::_,_,hl,_=>by simp at hl
 |_::_,[],_,hl,_=>by simp at hl
theorem Jm {rd gh gf:dM} {m t:a_} {S S':aU}:∀ (vs l:List AV) (cvs:List Value) (n:Nat),vs.length=l.length→bD rd m S vs cvs→
  (∀ v x,(v,x) ∈ vs.zip l→(∃ a k e,x= .own a k e)→∃ b ver n,v= .ref b ver 0 n∧∃ a e,x= .own a n e)→
  (∀ v x c,(v,x) ∈ vs.zip l→(∀ a k e,x ≠ .own a k e)→VR rd m S v c→VR gh t S' x c)→
  (∀ (k b:Nat) (Bo:bi),(kY vs l)[k]? =some (b,Bo)→∀ ver o c,VR rd m S (.ref b ver 0 o) c→(∃ a e,(AV.ref b ver 0 o,AV.own a o e) ∈ vs.zip l)→VR gf t S' (.ref (n+k) 0 0 o) c)→jH gh gf t S' n l cvs
 | [],[],[],n,_,_,_,_,_=>by simp [jH]
 | v::r,x::q,c::cs,n,hl,hv,ho,hx,hr=>by
  simp only [bD] at hv;rcases jE x with ⟨a,k,e,rfl⟩|hxo
  ·obtain ⟨b,ver,o,rfl,y,e',w⟩:=ho v _ (by simp) ⟨a,k,e,rfl⟩;cases w;simp only [jH];refine ⟨?_, ?_⟩
   ·have:=hr 0 b (Jn a e) (by simp [kY]) ver k c hv.1 ⟨a,e,by simp⟩;rwa [Nat.add_zero] at this
   ·refine Jm r q cs (n+1) (by simpa using hl) hv.2 (fun v x f=>ho v x (by simp [f])) (fun v x c f=>hx v x c (by simp [f])) ?_;intro j p Bo u d g s h i;have:=hr (j+1) p Bo (by simpa [kY] using u) d g s h (by obtain ⟨a,e,i⟩:=i;exact ⟨a,e,by simp [i]⟩);rwa [show n+(j+1)=n+1+j by omega] at this
  ·rw [di hxo];refine ⟨hx v x c (by simp) hxo hv.1, ?_⟩;refine Jm r q cs n (by simpa using hl) hv.2 (fun v x f=>ho v x (by simp [f])) (fun v x c f=>hx v x c (by simp [f])) ?_;intro j p Bo u d g s h i;exact hr j p Bo (by rw [jA hxo];exact u) d g s h (by obtain ⟨a,e,i⟩:=i;exact ⟨a,e,by simp [i]⟩)
 | [],_::_,_,_,hl,_,_,_,_=>by simp at hl
 |_::_,[],_,_,hl,_,_,_,_=>by simp at hl
 | [],[],_::_,_,_,hv,_,_,_=>by simp [bD] at hv
 |_::_,_::_,[],_,_,hv,_,_,_=>by simp [bD] at hv
theorem KX {α β:Type} {f:α→Option β}:∀ {l:List α} {l':List β},kP f l=some l'→∀ x y,(x,y) ∈ l.zip l'→f x=some y
 | [],l',h,x,y,hm=>by simp at hm
 | a::r,l',h,x,y,hm=>by
  simp only [kP] at h;split at h
  ·rename_i b d;split at h
   ·rename_i q c;cases h;simp only [List.zip_cons_cons,List.mem_cons,Prod.mk.injEq] at hm;rcases hm with ⟨rfl,rfl⟩|hm
    ·exact d
    ·exact KX c x y hm
   ·cases h
  ·cases h
theorem QM {α β:Type} {l:List α} {a:List β} {x:α} {y:β} (h:(x,y) ∈ l.zip a):∃ i:Nat,l[i]? =some x∧a[i]? =some y:=by
 obtain ⟨i,b⟩:=List.mem_iff_getElem?.1 h;rw [List.getElem?_zip_eq_some] at b;exact ⟨i,b⟩
theorem XM {g:dM} {m:a_} {S:aU} {l:List AV} {vs:List Value} (h:bD g m S l vs) {x:AV} (c:x ∈ l):∃ v,VR g m S x v:=by
 obtain ⟨i,b⟩:=List.mem_iff_getElem?.1 c;obtain ⟨v,_,a⟩:=qU h i b;exact ⟨v,a⟩
end AM
namespace AM
open Go
section
variable {P:Program} {ap:AP}
theorem xy {h0 F:List bi} {hp:Hp} {m m0:a_} {S S0:aU} {w w0:World} {vs l:List AV} {cvs:List Value} (W:cZ ap (aG hp) m S w) (z:Fr (bH h0) m0 S0 w0 (aG hp) m S w) (hv:bD (aG hp) m S vs cvs)
  {N:Nat} (hN:h0.length≤N) (hl:kP (rD N (aG hp) (vs.flatMap (cl (aG hp)))) vs=some l) (hh':kP (aG hp) (Xq2 N)=some F) (hbase:F.all (fun B=>B.pr||(cO B.cells).all fun b=>Nat.blt b N)=true):
  ∃ m' S',cZ ap (bH (F++(fZ F.length l).2)) m' S' w∧Fr (bH h0) m0 S0 w0 (bH (F++(fZ F.length l).2)) m' S' w∧jH (bH F) (bH (F++(fZ F.length l).2)) m' S' F.length l cvs:=by
 have X:=(jl hl).1;have hz:∀ v x,(v,x) ∈ vs.zip l→Gp N (aG hp) (vs.flatMap (cl (aG hp))) v x:=fun v x E=>yI (KX hl v x E)
 have M:∀ v x,(v,x) ∈ vs.zip l→(∃ O k e,x= .own O k e)→∃ (b n:Nat) (B:bi),v= .ref b B.ver 0 n∧aG hp b=some B∧N≤b∧B.fro=false∧B.pr=true∧gu (vs.flatMap (cl (aG hp))) b=1∧0<B.esz∧x= .own (B.cells.take (n*B.esz)) n B.esz:=by
  rintro v x E ⟨O,k,e,rfl⟩
  obtain ⟨c,T⟩:=XM hv (List.of_mem_zip E).1;generalize hxe:AV.own O k e=x at E;cases hz v x E with
  |own a d p t A Q=>exact ⟨_,_,_,rfl,a,d,p,t,A,Q,rfl⟩
  |low a=>exact absurd hxe.symm (w_ T _ _ _)
  |frz a d=>
   refine absurd hxe.symm (CP (lH W (fun b B g=> ?_) 6 v c x d T) _ _ _);split at g
   ·exact g
   ·cases g
 generalize J:kY vs l=obs;have hbs:∀ n,(fZ n l).2=obs.map (·.2):=by
  intro n;rw [← J];refine ES vs l n X.symm fun v x E Y=> ?_
  obtain ⟨b,n',B,a,_⟩:=M v x E Y;exact ⟨b,_,0,n',a⟩
 rw [hbs];have C:∀ b Bo,(b,Bo) ∈ obs→∃ (n:Nat) (B:bi),aG hp b=some B∧N≤b∧B.fro=false∧B.pr=true∧gu (vs.flatMap (cl (aG hp))) b=1∧0<B.esz∧Bo=Jn (B.cells.take (n*B.esz)) B.esz∧(AV.ref b B.ver 0 n,AV.own (B.cells.take (n*B.esz)) n B.esz) ∈ vs.zip l:=by
  intro b Bo E;rw [← J] at E;obtain ⟨ver,i,n,O,k,e,a,d⟩:=zT E;obtain ⟨b',n',B,p,t,A,Q,V,U,Z,D⟩:=M _ _ a ⟨O,k,e,rfl⟩;cases p;cases D;exact ⟨_,B,t,A,Q,V,U,Z,d,a⟩
 have hobd:∀ (k k' b:Nat) (Bo Bo':bi),obs[k]? =some (b,Bo)→obs[k']? =some (b,Bo')→k=k':=by
  intro k k' b Bo Bo' a d;obtain ⟨n,B,_,_,_,_,A,_⟩:=C b Bo (Xqr a);by_cases s:k=k'
  ·exact s
  ·have p:=zA (f:=fun q:Nat × bi=> [q.1]) obs k k' _ _ a d s (b:=b) (by simp) (by simp);have t:=EH (rd:=aG hp) (b:=b) vs l;rw [J] at t;omega
 have hobx:∀ b Bo,(b,Bo) ∈ obs→∀ v x,(v,x) ∈ vs.zip l→(∀ O k e,x ≠ .own O k e)→b ∉ cl (aG hp) v:=by
  intro b Bo E v x hvx Y g;obtain ⟨n,B,_,_,_,_,A,_,_,Q⟩:=C b Bo E;obtain ⟨i,V,U⟩:=QM Q;obtain ⟨j,Z,D⟩:=QM hvx;have hne:i ≠ j:=by
   rintro rfl
   rw [U] at D;cases D;exact Y _ _ _ rfl
  have:=zA (f:=cl (aG hp)) vs i j _ _ V Z hne (b:=b) (VJ (by simp [eX])) g;omega
 have hl0:F.length=N:=by rw [(jl hh').1];simp
 have L:∀ b,b<N→∃ B,aG hp b=some B∧bH F b=some B:=by
  intro b g;obtain ⟨B,a,d⟩:=(jl hh').2 b b (by simp [g]);exact ⟨B,d,a⟩
 have hlow':∀ b B,bH F b=some B→b<N∧aG hp b=some B:=by
  intro b B g;have G:b<N:=by
   have:=(List.getElem?_eq_some_iff.1 g).1;omega
  obtain ⟨B',a,d⟩:=L b G;rw [g] at d;cases d;exact ⟨G,a⟩
 let rdF:dM:=open Classical in fun b=>if ∃ v x,(v,x) ∈ vs.zip l∧(∀ O k e,x ≠ .own O k e)∧b ∈ cl (aG hp) v∧∀ y ∈ cl (aG hp) v,N≤y then aG hp b else none
 have R:∀ b B,rdF b=some B→aG hp b=some B∧N≤b∧∀ Bo,(b,Bo) ∉ obs:=by
  intro b B g;dsimp only [rdF] at g;split at g
  ·rename_i T;obtain ⟨v,x,a,d,p,t⟩:=T;exact ⟨g,t b p,fun Bo E=>hobx b Bo E v x a d p⟩
  ·cases g
 have r:=nC S m rdF w
 let m':a_:=fun i=>if i<N then m i else m ((obs.map (·.1)).getD (i - N) 0)
 have hm'lo:∀ i,i<N→m' i=m i:=fun i I=>if_pos I
 have hm'hi:∀ (k b:Nat) (Bo:bi),obs[k]? =some (b,Bo)→m' (N+k)=m b:=by
  intro k b Bo s;show (if _ then _ else _)=_;rw [if_neg (by omega),show N+k - N=k by omega,List.getD_eq_getElem?_getD,Xqz,s];rfl
 have hgf:∀ i Bi,bH (F++obs.map (·.2)) i=some Bi→(i<N∧aG hp i=some Bi∧bH F i=some Bi)∨(∃ k b,i=N+k∧obs[k]? =some (b,Bi)):=by
  intro i Bi I;by_cases G:i<N
  ·rw [fG (by omega)] at I;exact .inl ⟨G,(hlow' i Bi I).2,I⟩
  ·rw [jk (by omega),hl0] at I;right;refine ⟨i - N, ?_⟩;have hi':(obs.map (·.2))[i - N]? =some Bi:=I;rw [Xqz,Xqs] at hi';obtain ⟨⟨b,Bo⟩,a,d⟩:=hi';exact ⟨b,by omega,by rw [a];simp at d;rw [d]⟩
 have hgfk:∀ (k b:Nat) (Bo:bi),obs[k]? =some (b,Bo)→bH (F++obs.map (·.2)) (N+k)=some Bo:=by
  intro k b Bo s;rw [jk (by omega),hl0,show N+k - N=k by omega];show (obs.map (·.2))[k]? =_;rw [Xqz,s];rfl
 have K:∀ i Bi,bH (F++obs.map (·.2)) i=some Bi→∃ b B,aG hp b=some B∧m' i=m b∧((i<N∧b=i∧Bi=B)∨(N≤b∧∃ k,i=N+k∧obs[k]? =some (b,Bi))):=by
  intro i Bi I;rcases hgf i Bi I with ⟨a,d,p⟩|⟨k,b,rfl,s⟩
  ·exact ⟨i,Bi,d,hm'lo i a,.inl ⟨a,rfl,rfl⟩⟩
  ·obtain ⟨n,B,a,d,_⟩:=C b Bi (Xqr s);exact ⟨b,B,a,hm'hi k b Bi s,.inr ⟨d,k,rfl,s⟩⟩
 refine ⟨m',dR S m rdF w, ?_, ?_, ?_⟩
 ·refine ⟨?_, ?_,fun k o v h=>pF W h, ?_, ?_⟩
  ·intro i j Bi Bj I hj e;obtain ⟨b,B,a,d,p⟩:=K i Bi I;obtain ⟨b',B',h1',h2',h3'⟩:=K j Bj hj;rw [d,h2'] at e;have:=W.inj b b' B B' a h1' e;subst this;rcases p with ⟨t,rfl,_⟩|⟨t,k,rfl,s⟩<;>rcases h3' with ⟨h4',rfl,_⟩|⟨h4',k',rfl,hk'⟩
   ·rfl
   ·omega
   ·omega
   ·rw [hobd k k' b _ _ s hk']
  ·intro i Bi I;rcases hgf i Bi I with ⟨a,d,p⟩|⟨k,b,rfl,s⟩
   ·rw [hm'lo i a];obtain ⟨⟨cur,e,us,rest,k1,k2,k3,k4,k5,k6⟩,k7,k8⟩:=W.blk i Bi d;refine ⟨⟨cur,e,us,rest,k1,k2,fun hp=>bM r _ (k3 hp), ?_,k5,k6⟩,k7,k8⟩;cases hpr:Bi.pr with
    |true=>exact bY _ (bM r _ (k3 hpr))
    |false=>
     refine ny r _ (fun b g=> ?_) k4;have A:=List.all_eq_true.1 hbase Bi (Xqr p);rw [hpr] at A;simp only [Bool.false_or] at A;have Q:=fU (List.all_eq_true.1 A b g);obtain ⟨B,V,U⟩:=L b Q;exact ⟨by rw [fG (by omega),U,V],hm'lo b Q⟩
   ·obtain ⟨n,B,a,d,p,t,A,Q,rfl,_⟩:=C b Bi (Xqr s);rw [hm'hi k b _ s];obtain ⟨⟨cur,e,us,rest,k1,k2,k3,k4,k5,k6⟩,k7,k8⟩:=W.blk b B a;have hp:=bM r _ (kR (n*B.esz) (k3 t));refine ⟨⟨cur,e,us.take (n*B.esz),us.drop (n*B.esz)++rest,k1, ?_,fun _=>hp,bY _ hp,fun hz u hu=>k5 hz u (List.mem_of_mem_take hu),k6⟩,fun _=>rfl,Xxq _⟩;rw [← List.append_assoc,List.take_append_drop];exact k2
  ·intro i Bi I o v ho;obtain ⟨b,B,a,d,p⟩:=K i Bi I;rw [d] at ho;have hno:rdF b=none:=by
    cases hr:rdF b with
    |none=>rfl
    |some B'=>
     obtain ⟨_,t,A⟩:=R b B' hr;rcases p with ⟨Q,rfl,_⟩|⟨_,k,_,s⟩
     ·omega
     ·exact absurd (Xqr s) (A _)
   have hSo:S (m b).1 o=some v:=by
    rcases f_ ho with h|⟨_,b',B',t,A,_⟩
    ·exact h
    ·have:=W.inj b' b B' B (R b' B' t).1 a A;subst this;rw [hno] at t;cases t
   obtain ⟨V,U⟩:=W.own b B a o v hSo;rcases p with ⟨_,rfl,rfl⟩|⟨_,k,_,s⟩
   ·exact ⟨V,U⟩
   ·obtain ⟨n,B2,Z,_,D,_⟩:=C b _ (Xqr s);rw [a] at Z;cases Z;rw [V] at D;cases D
  ·intro k O s;obtain ⟨us,a,d⟩:=W.glob k O s;exact ⟨us,bM r _ a,d.mono r⟩
 ·refine ⟨?_,z.sle.trans r,z.os,z.tape,z.output,z.size,z.rest, ?_, ?_⟩
  ·intro b B0 g;have G:b<N:=Xqg (List.getElem?_eq_some_iff.1 g).1 hN;obtain ⟨B,a,d,p⟩:=z.ge b B0 g;obtain ⟨B',t,A⟩:=L b G;rw [a] at t;cases t;exact ⟨B,by rw [fG (by omega)];exact A,d,by rw [hm'lo b G];exact p⟩
  ·intro i Bi I;obtain ⟨b,B,a,d,p⟩:=K i Bi I;rw [d];rcases z.img b B a with h|⟨B0,t,A⟩
   ·exact .inl h
   ·have G:b<N:=Xqg (List.getElem?_eq_some_iff.1 t).1 hN;rcases p with ⟨_,rfl,_⟩|⟨Q,_⟩
    ·exact .inr ⟨B0,t,A⟩
    ·omega
  ·intro k o v hv;rcases f_ hv with h|⟨_,b,B,a,d,_⟩
   ·exact z.sealN k o v h
   ·obtain ⟨p,t,_⟩:=R b B a;rcases z.img b B p with h|⟨B0,A,_⟩
    ·exact .inr (.inl (d ▸ h))
    ·have:=(List.getElem?_eq_some_iff.1 A).1;omega
 ·rw [hl0];refine Jm (rd:=aG hp) (m:=m) (S:=S) vs l cvs N X.symm hv ?_ ?_ ?_
  ·intro v x E Y;obtain ⟨b,n,B,a,_,_,_,_,_,_,d⟩:=M v x E Y;exact ⟨b,B.ver,n,a,_,_,d⟩
  ·intro v x c E Y T;cases hz v x E with
   |own _ _ _ _ _ _=>exact absurd rfl (Y _ _ _)
   |low a=>
    refine x_ r v (fun b g=> ?_) T;obtain ⟨B,d,p⟩:=L b (a b g);exact ⟨by rw [p,d],hm'lo b (a b g)⟩
   | frz a d=>
    have p:=lH W (fun b B g=>by split at g;exact g;cases g) 6 v c x d T;refine iH x (dH (LV fun b B g=> ?_) x p);split at g
    ·rename_i hm2;dsimp only [rdF];rw [if_pos ⟨v,x,E,Y,iV.1 hm2,a⟩];exact g
    ·cases g
  ·rw [J];intro k b Bo s ver n' c T hzz;obtain ⟨n,B,a,d,p,t,A,Q,rfl,V⟩:=C b Bo (Xqr s);obtain ⟨O,e,hzz⟩:=hzz;have hver:ver=B.ver:=by
    obtain ⟨b2,n2,B2,e1,e2,_⟩:=M _ _ hzz ⟨O,_,e,rfl⟩;cases e1;rw [a] at e2;cases e2;rfl
   subst hver;simp only [VR] at T ⊢;obtain ⟨B',U,_,Z,D⟩:=T;rw [a] at U;cases U;refine ⟨_,hgfk k b _ s,Xxq _,Z,fun _=> ?_⟩;rw [hm'hi k b _ s];exact D rfl
end
end AM
namespace AM
open Go
section
variable {P:Program} {ap:AP}
theorem Gj (l:iM P ap) {env:iO} {hp:Hp} {m:a_} {S:aU} {w:World} {tmps:Array Value} (A:cZ ap (aG hp) m S w) (u:∀ t,VR (aG hp) m S (env.get t) (tmps.getD t undef)) {r:ResultVar} {v:AV} {bs:List Bool}
  (h:yP ap env hp r=some (v,bs)) (hbs:∀ b ∈ bs,b=true):∃ cv,(H6 tmps r).run P w= .ok cv w∧VR (aG hp) m S v cv:=by
 cases r with
 |tmp t=>
  simp only [yP,Option.some.injEq,Prod.mk.injEq] at h;obtain ⟨rfl,rfl⟩:=h;exact ⟨_,rfl,u t⟩
 | cell a t=>
  simp only [yP] at h;have F:=bind_some h;clear h;obtain ⟨K,p,h⟩:=F;simp only [Xqs] at h;obtain ⟨⟨J,ups,C⟩,j,q⟩:=h;simp only [Prod.mk.injEq] at q;obtain ⟨rfl,rfl⟩:=q;obtain ⟨i,d,z,E⟩:=eQ l p;have c:=u a;obtain ⟨_,cv,s,D⟩:=Az A (fun b B G=>G) E c j hbs;refine ⟨cv, ?_,D⟩;have g:∃ x,tmps.getD a undef= .pointer (some x):=by
   unfold KU at j;split at j
   ·rename_i I n f;rw [f] at c;simp only [VR,PR] at c;obtain ⟨b,o,vs,e,_⟩:=c;exact ⟨_,e⟩
   ·rename_i b ver n f;rw [f] at c;simp only [VR] at c;obtain ⟨B,_,_,⟨k,o,e⟩,_⟩:=c;exact ⟨_,e⟩
   ·cases j
  obtain ⟨x,y⟩:=g;rw [y] at s;simp only [H6,y];exact s
theorem qg (a:iM P ap) {env:iO} {hp:Hp} {m:a_} {S:aU} {w:World} {tmps:Array Value} (g:cZ ap (aG hp) m S w) (f:∀ t,VR (aG hp) m S (env.get t) (tmps.getD t undef)):
  ∀ {rs:List ResultVar} {vs:List (AV × List Bool)},kP (yP ap env hp) rs=some vs→(∀ b ∈ vs.flatMap (·.2),b=true)→∃ cvs:List Value,rs.length=cvs.length∧bD (aG hp) m S (vs.map (·.1)) cvs∧∀ (i:Nat) (r:ResultVar) (v:Value),rs[i]? =some r→cvs[i]? =some v→(H6 tmps r).run P w= .ok v w
 | [],vs,h,_=>by
  simp [kP] at h;subst h;exact ⟨[],rfl,by simp [bD],fun i r v h=>by simp at h⟩
 | r::rs,vs,h,hbs=>by
  simp only [kP] at h;split at h
  ·rename_i q p;split at h
   ·rename_i l s;cases h;obtain ⟨v,bs⟩:=q;obtain ⟨cv,y,x⟩:=Gj a g f p (fun b d=>hbs b (by simp [d]));obtain ⟨cvs,o,k,u⟩:=qg a g f s (fun b d=>hbs b (by rw [Xjm];exact List.mem_append.2 (.inr d)));refine ⟨cv::cvs,by simp [o],by simp only [Xqf,bD];exact ⟨x,k⟩, ?_⟩;intro i j n e c;cases i with
    |zero=>simp at e c;subst e;subst c;exact y
    |succ i=>exact u i j n (by simpa using e) (by simpa using c)
   ·cases h
  ·cases h
theorem Ui {gh gf:dM} {m:a_} {S:aU} {n:Nat} {x:AV} {v:Value} (h:jH gh gf m S n [x] [v]):xY gh gf m S n x v∧(jZ n x).2=(fZ n [x]).2:=by
 rcases jE x with ⟨i,k,e,rfl⟩|hx
 ·simp only [jH] at h;exact ⟨h.1,rfl⟩
 ·rw [di hx] at h;rcases Ac x with ⟨l,rfl⟩|ht
  ·have f:=h.1;simp only [VR] at f;obtain ⟨vs,rfl,g⟩:=f;have key:∀ (l:List AV) (vs:List Value) (n:Nat),bD gh m S l vs→jH gh gf m S n l vs∧(fZ n l).2= []:=by
    intro l
    induction l with
    |nil=>intro vs n a;cases vs with
     |nil=>exact ⟨by simp [jH],rfl⟩
     |cons _ _=>simp [bD] at a
    | cons y r ih=>intro vs n a;cases vs with
     |nil=>simp [bD] at a
     |cons u us=>
      simp only [bD] at a;have b:=w_ a.1;obtain ⟨d,c⟩:=ih us n a.2;rw [di b,bI n b];exact ⟨⟨a.1,d⟩,c⟩
   obtain ⟨d,c⟩:=key l vs n g;refine ⟨?_, ?_⟩
   ·simp only [xY];exact ⟨vs,rfl,d⟩
   ·simp only [jZ,fZ];exact c
  ·rw [lw hx ht,jv n hx ht,bI n hx];exact ⟨h.1,rfl⟩
theorem vZ (rd:dM) (n:Nat):n≤Tv rd n:=by
 obtain ⟨_,t,a⟩:=uh rd 20 (Xq2 n) List.nodup_range;unfold Tv;rw [a,List.length_append,List.length_range];exact Nat.le_add_right _ _
theorem lQ (n:iM P ap) {h0 p:List bi} {G:Func} {env:iO} {hp:Hp} {m m0:a_} {S S0:aU} {w w0:World} {tmps:Array Value} {c I:Cx} {out:kC} (h:vU ap h0.length G env hp c= .ok (out,p) I) (F:I.Ok):
  c.Ok∧h0.length≤p.length∧(cZ ap (aG hp) m S w→Fr (bH h0) m0 S0 w0 (aG hp) m S w→(∀ t,VR (aG hp) m S (env.get t) (tmps.getD t undef))→
   ∃ cv,(results G tmps).run P w= .ok cv w∧∃ u S',F5 ap h0 m0 S0 w0 out p u S' w (.returned cv)):=by
 unfold vU at h;dsimp only at h;split at h
 ·rename_i vs K s b;split at h
  ·cases h
  ·rename_i hbase;obtain ⟨_,L,J,h⟩:=R.bind_ok h;split at h
   ·rename_i v j;cases h;obtain ⟨g,e⟩:=IK J F;have hlen':h0.length≤p.length:=by rw [(jl b).1];simpa using vZ _ _
    refine ⟨g,hlen',fun k f C=> ?_⟩;obtain ⟨cvs,A,o,B⟩:=qg n k C s e;have a:(vs.flatMap fun q=>tC (aG hp) 6 (jq (eX q.1)))=(vs.map (·.1)).flatMap (cl (aG hp)):=by rw [Xvr];rfl
    rw [a] at j;obtain ⟨u,S',x,y,z⟩:=xy k f o (vZ _ _) j b hbase;have D:cvs.length=1:=by
     have:=dm o;have i:=(jl j).1;simp at i this;omega
    match cvs,D with
    | [cv],_=>
     obtain ⟨i,E⟩:=Ui z;refine ⟨cv,uT A B,u,S', ?_⟩;rw [← E] at x y;refine ⟨x,y,cv,rfl, ?_⟩;rw [E];exact i
   ·rename_i l d j;cases h;obtain ⟨g,e⟩:=IK J F;have hlen':h0.length≤p.length:=by rw [(jl b).1];simpa using vZ _ _
    refine ⟨g,hlen',fun k f C=> ?_⟩;obtain ⟨cvs,A,o,B⟩:=qg n k C s e;have a:(vs.flatMap fun q=>tC (aG hp) 6 (jq (eX q.1)))=(vs.map (·.1)).flatMap (cl (aG hp)):=by rw [Xvr];rfl
    rw [a] at j;obtain ⟨u,S',x,y,z⟩:=xy k f o (vZ _ _) j b hbase;have r:V9 cvs= .tuple cvs.toArray:=by
     match cvs with
     | []=>rfl
     | [cv]=>
      exfalso;have:=dm o;have i:=(jl j).1;simp at i this
      match l,d with
      | [],_=>simp at i;omega
      | [v],d=>exact d v rfl
      |_::_::_,_=>simp at i;omega
     |_::_::_=>rfl
    refine ⟨_,uT A B,u,S',x,y, ?_⟩;rw [r];exact ⟨_,rfl,cvs,rfl,z⟩
   ·cases h
 ·cases h
theorem yM {h0 g:List bi} {v:AV} {hp:Hp} {m m0:a_} {S S0:aU} {w w0:World} {c x:Cx} {out:kC} (h:Jp h0.length v hp c= .ok (out,g) x):
  c=x∧h0.length≤g.length∧(cZ ap (aG hp) m S w→Fr (bH h0) m0 S0 w0 (aG hp) m S w→∀ cv,VR (aG hp) m S v cv→(∀ b ver n,v ≠ .ref b ver 0 n)→
   ∃ r S',F5 ap h0 m0 S0 w0 out g r S' w (.panicked [{v:=cv,recovered:=false}])):=by
 unfold Jp at h;dsimp only at h;split at h
 ·rename_i j z f d;split at h
  ·cases h
  ·rename_i hbase;cases h;have hlen':h0.length≤g.length:=by rw [(jl d).1];simpa using vZ _ _
   refine ⟨rfl,hlen',fun u t cv p q=> ?_⟩;have A:kP (rD (Tv (aG hp) h0.length) (aG hp) ([v].flatMap (cl (aG hp)))) [v]=some [j]:=by
    simp only [Xjm,Xk5,Γ,kP];have y:rD (Tv (aG hp) h0.length) (aG hp) (cl (aG hp) v) v=some j:=f;rw [y]
   obtain ⟨r,S',i,o,l⟩:=xy u t (vs:= [v]) (cvs:= [cv]) (by simp only [bD];exact ⟨p,trivial⟩) (vZ _ _) A d hbase;have a:∀ xs k e,j ≠ .own xs k e:=by
    rintro xs k e rfl
    cases yI f with
    |own h1 h2 h3 i o l=>exact q _ _ _ rfl
    |low h1=>exact w_ p _ _ _ rfl
    |frz h1 h2=>
     exact CP (lH u (fun b B s=>by split at s;exact s;cases s) 6 v cv _ h2 p) _ _ _ rfl
   rw [di a] at l;rw [bI _ a] at i o;exact ⟨r,S',i,o,cv,rfl,l.1⟩
 ·cases h
end
end AM
namespace AM
open Go
def sK (S:aU):AV→FrameMode→Prop
 | .nilI,u=>u= .returning
 | .ifc t v,u=> ∃ cv,u= .panicking [{v:=cv,recovered:=false}]∧PR S (.ifc t v) cv
 |_,_=>False
def MV (md md':AV) (u u':FrameMode):Prop:=(md'=md∧u'=u)∨(md'= .nilI∧settle u'= .returning)
structure XI (P:Program) (ap:AP) (f:Nat) (args:List AV) (h:List bi) (out:kC) (h':List bi) (md md':AV):Prop where
 ent:zn P f
 calls:∀ m S w cargs u,cZ ap (bH h) m S w→bD (bH h) m S args cargs→sK S md u→CallsD P f cargs.toArray u w fun e u' w'=>(∃ m' S',F5 ap h m S w out h' m' S' w' e)∧MV md md' u u'
def vk (P:Program) (ap:AP) (H:dw):Prop:=∀ c md f args h out h' md' c',md ≠ .dead→H c md f args h= .ok (out,h',md') c'→c'.Ok→c.Ok∧XI P ap f args h out h' md md'
structure JS (P:Program) (ap:AP):Prop where
 fn:∀ (f:Nat) (F:AF),ap.fnAt f=some F→P.funcs[f]? =some F.fn
 body:∀ (f:Nat) (F:AF),ap.fnAt f=some F→∃ c,F.fn.body=some c∧dV F.fn.ntmps c=true
 name:∀ (f:Nat) (F:AF),ap.fnAt f=some F→(F.fn.name== "runtime.NumGoroutine")=false
section
variable {P:Program} {ap:AP} {H:dw}
theorem zq (a:JS P ap) {f:Nat} {F:AF} (b:ap.fnAt f=some F):zn P f:=by
 intro args w;obtain ⟨c,d,_⟩:=a.body f F b;unfold callFunc;rw [Sem.run_bind];have:(program).run P w= .ok P w:=rfl;rw [this,Result.andThen_ok,a.fn f F b];dsimp only;rw [a.name f F b];simp [d]
theorem LX {S:aU} {md:AV} {u:FrameMode} (h:sK S md u):settle u=u∧u ≠ .run:=by
 cases md<;>simp only [sK] at h
 ·obtain ⟨cv,rfl,_⟩:=h;exact ⟨rfl,by simp⟩
 ·subst h;exact ⟨rfl,by simp⟩
theorem uy (D:iM P ap) (N:vk P ap H):
  ∀ (dfs:List (Nat × List AV)) (mode mode':AV) (hp hp':Hp) (c c':Cx),D9 ap H dfs mode hp c= .ok (mode',hp') c'→c'.Ok→c.Ok∧
   ∀ (h0:List bi) (y:Func) (tmps:Array Value) (env:iO) (RR:Ending→World→Prop) (m0:a_) (S0:aU) (w0:World) m S w k u,cZ ap (aG hp) m S w→Fr (bH h0) m0 S0 w0 (aG hp) m S w→(∀ t,VR (aG hp) m S (env.get t) (tmps.getD t undef))→iw (aG hp) m S dfs k→sK S mode u→
   (∀ m' S' w' o,cZ ap (aG hp') m' S' w'→Fr (bH h0) m0 S0 w0 (aG hp') m' S' w'→(∀ t,VR (aG hp') m' S' (env.get t) (tmps.getD t undef))→sK S' mode' o→Leaves P y tmps RR [] o w')→Leaves P y tmps RR k u w
 | [],mode,mode',hp,hp',c,c',h,hc=>by
  cases h;refine ⟨hc,fun h0 y tmps env RR m0 S0 w0 m S w k u z n F hd g I=> ?_⟩;cases k with
  |nil=>exact I m S w u z n F g
  |cons _ _=>simp [iw] at hd
 | (f, args)::r,mode,mode',hp,hp',c,c',h,hc=>by
  simp only [D9] at h;split at h
  ·cases h
  ·rename_i hrefs;simp only [σ] at hrefs;have G:mode ≠ .dead:=by rintro rfl;cases hrefs.1
   obtain ⟨q,W,e1,h⟩:=R.bind_ok h;split at h
   ·rename_i v s;obtain ⟨C,Y⟩:=uy D N r q.md mode' (q.ups++hp) hp' W c' h hc;obtain ⟨args0,hh0,T,O,X,U,hg⟩:=yt e1;obtain ⟨J,V⟩:=N _ _ _ _ _ _ _ _ _ G X C;refine ⟨J,fun h0 y tmps env RR m0 S0 w0 m S w k u z n F hd g I=> ?_⟩;cases k with
    |nil=>simp [iw] at hd
    | cons d k=>
     simp only [iw] at hd;obtain ⟨⟨l,Q,h2⟩,h3⟩:=hd;have hfresh:∀ i,i<4→aG hp (iC hp+i)=none:=by
      intro i _;cases hb:aG hp (iC hp+i) with
      |none=>rfl
      |some B=>have:=qJ hb;omega
     have hcall:=hg (aG hp) m S w (d.args++l).toList (fun cargs R=>CallsD P f cargs.toArray u w fun e o w'=>R e w'∧MV mode q.md u o)
      (fun cargs R R' p a=>CallsD.mono p fun e o w' j=> ⟨a e w' j.1,j.2⟩) z (fun b _ B hB=>hB) hfresh h2
      (fun m1 S1 E p a=>V.calls m1 S1 w _ u p a (by
       cases mode<;>simp only [sK] at g ⊢
       ·obtain ⟨cv,M,j⟩:=g;exact ⟨cv,M,dH E _ j⟩
       ·exact g))
     obtain ⟨x,K⟩:=LX g;refine ⟨K,.func f,l,f,d.args++l,Q, ?_, ?_⟩
     ·rw [Q];exact V.ent _ w
     ·rw [Array.toArray_toList] at hcall;refine CallsD.mono hcall ?_
      rintro e o w' ⟨⟨m',S',p,a,j⟩,h7⟩
      rw [s] at j;obtain ⟨cv,rfl,j⟩:=j;rw [kM] at p a j;refine Y h0 y tmps env RR m0 S0 w0 m' S' w' k (settle o) p (n.trans a) (fun t=>oM a.sle a.ge _ (F t)) (vg a.sle a.ge h3) ?_ I;rcases h7 with ⟨A,rfl⟩|⟨A,Z⟩
      ·rw [x,A];cases mode<;>simp only [sK] at g ⊢
       ·obtain ⟨cv,M,L⟩:=g;exact ⟨cv,M,dH a.sle _ L⟩
       ·exact g
      ·rw [A,Z];rfl
   ·cases h
theorem fA {n f:Nat} (h:n≤f):∀ (c:Code),dV n c=true→dV f c=true
 | .region _ ops _,hd=>by
  simp only [dV,List.all_eq_true] at hd ⊢;intro o g;have:=hd o g;unfold GR at this ⊢;split
  ·rename_i d e;rw [e] at this;exact Nat.ble_eq_true_of_le (Nat.le_trans (gG this) h)
  ·rfl
 | .seq a b,hd=>by simp only [dV,σ] at hd ⊢;exact ⟨fA h a hd.1,fA h b hd.2⟩
 | .cond _ a b,hd=>by simp only [dV,σ] at hd ⊢;exact ⟨fA h a hd.1,fA h b hd.2⟩
 | .block _ b,hd=>by simp only [dV] at hd ⊢;exact fA h b hd
 | .loop b,hd=>by simp only [dV] at hd ⊢;exact fA h b hd
 | .scope b,hd=>by simp only [dV] at hd ⊢;exact fA h b hd
 | .skip,_=>rfl
 | .label _,_=>rfl
 | .exit _,_=>rfl
 | .ret,_=>rfl
 | .rangeFunc _ _ _ _,_=>rfl
 | .goto _,_=>rfl
 | .refuse _,_=>rfl
theorem zL {α:Type}:∀ (l:List α) (j t:Nat),aG ((l.zipIdx j).map fun (x,i)=>(i,x)) t=if j≤t then l[t - j]? else none
 | [],j,t=>by simp [aG]
 | a::r,j,t=>by
  rw [List.zipIdx_cons,Xqf];simp only [aG];cases h:Xqo j t with
  |true=>have:=aO h;subst this;simp
  | false=>
   have b:j ≠ t:=by intro e;subst e;simp at h
   simp only [zL r (j+1) t];by_cases hj:j+1≤t
   ·rw [if_pos hj,if_pos (by omega)];obtain ⟨d,hd⟩:∃ d,t - j=d+1:=⟨t - j - 1,by omega⟩
    rw [hd,List.getElem?_cons_succ,show t - (j+1)=d by omega]
   ·rw [if_neg hj,if_neg (by omega)]
theorem I7 {h:List bi} {args:List AV} {cargs:List Value} {m:a_} {S:aU} {w:World} {md:AV} (f:cZ ap (bH h) m S w) (g:bD (bH h) m S args cargs) (n:Nat):
  aG (nU md args h).hp=bH h∧FR ap (nU md args h).env (nU md args h).hp [] (cargs.toArray++Array.replicate (n - cargs.toArray.size) undef).size m S w {tmps:=cargs.toArray++Array.replicate (n - cargs.toArray.size) undef,defers:= []}:=by
 have a:aG (nU md args h).hp=bH h:=by
  funext b;have:=zL h 0 b;simp only [nU,bH];rw [this,if_pos (Xxq _),Xjq]
 refine ⟨a,⟨a ▸ f, ?_,by simp [iw],rfl⟩⟩;intro t;rw [a];have e:(nU md args h).env.get t=(args[t]?).getD .dead:=by
  have:=zL args 0 t;simp only [nU,iO.get];rw [this,if_pos (Xxq _),Xjq]
 rw [e];cases i:args[t]? with
 |none=>simp [VR]
 | some x=>
  obtain ⟨v,d,j⟩:=qU g t i;have c:=(List.getElem?_eq_some_iff.1 d).1;have:(cargs.toArray++Array.replicate (n - cargs.toArray.size) undef).getD t undef=v:=by
   rw [Array.getD_eq_getD_getElem?,Array.getElem?_append_left (by simpa using c)];simp [d]
  rw [this];exact j
theorem yF (j:iM P ap) (M:vk P ap H) {h0 z:List bi} {y:Func} {e:bK} {s:St} {c K:Cx} {out:kC} {B:AV} (h:BO ap H h0.length y e s c= .ok (out,z,B) K) (J:K.Ok):
  c.Ok∧h0.length≤z.length∧∀ m0 S0 w0 m S w a nt,Fr (bH h0) m0 S0 w0 (aG s.hp) m S w→FR ap s.env s.hp s.dfs nt m S w a→Ug s.hp m S (bodyPostD P y fun e w'=> ∃ x S',F5 ap h0 m0 S0 w0 out z x S' w' e) a w e:=by
 have r:∀ mode,((D9 ap H s.dfs mode s.hp c).bind fun (mode,hp) c=>
   match mode with
   | .nilI=>(vU ap h0.length y s.env hp c).bind fun (o,h) c=> .ok (o,h,s.md) c
   | .ifc t v=>(Jp h0.length (.ifc t v) hp c).bind fun (o,h) c=> .ok (o,h,s.md) c
   |_=> .bad 74)= .ok (out,z,B) K→c.Ok∧h0.length≤z.length∧∀ m0 S0 w0 m S w a nt u,Fr (bH h0) m0 S0 w0 (aG s.hp) m S w→FR ap s.env s.hp s.dfs nt m S w a→sK S mode u→Leaves P y a.tmps (fun e w'=> ∃ x S',F5 ap h0 m0 S0 w0 out z x S' w' e) a.defers u w:=by
  intro mode g;obtain ⟨⟨mode',hp'⟩,Q,O,g⟩:=R.bind_ok g;dsimp only at g;split at g
  ·obtain ⟨⟨o,p⟩,T,A,g⟩:=R.bind_ok g;cases g;obtain ⟨F,i,C⟩:=lQ (P:=P) (m:=fun _=>(0,0)) (m0:=fun _=>(0,0)) (S:=fun _ _=>none) (S0:=fun _ _=>none) (w:=default) (w0:=default) (tmps:=#[]) j A J;obtain ⟨q,L⟩:=uy j M s.dfs mode _ s.hp hp' c Q O F;refine ⟨q,i,fun m0 S0 w0 m S w a nt u d f E=> ?_⟩;refine L h0 y a.tmps s.env _ m0 S0 w0 m S w a.defers u f.srel d f.env f.dfs E ?_;intro x S' w' X k l N D;simp only [sK] at D;subst D;obtain ⟨_,_,C⟩:=lQ (P:=P) (m:=x) (m0:=m0) (S:=S') (S0:=S0) (w:=w') (w0:=w0) (tmps:=a.tmps) j A J;obtain ⟨cv,G,V⟩:=C k l N;exact ⟨cv,G,V⟩
  ·rename_i t v;obtain ⟨⟨o,p⟩,T,A,g⟩:=R.bind_ok g;cases g;obtain ⟨rfl,i,_⟩:=yM (ap:=ap) (m:=fun _=>(0,0)) (m0:=fun _=>(0,0)) (S:=fun _ _=>none) (S0:=fun _ _=>none) (w:=default) (w0:=default) A;obtain ⟨q,L⟩:=uy j M s.dfs mode _ s.hp hp' c _ O J;refine ⟨q,i,fun m0 S0 w0 m S w a nt u d f E=> ?_⟩;refine L h0 y a.tmps s.env _ m0 S0 w0 m S w a.defers u f.srel d f.env f.dfs E ?_;intro x S' w' X k l N D;simp only [sK] at D;obtain ⟨cv,rfl,G⟩:=D;obtain ⟨_,_,I⟩:=yM (ap:=ap) (m:=x) (m0:=m0) (S:=S') (S0:=S0) (w:=w') (w0:=w0) A;exact I k l cv (iH _ G) (fun b ver n h=>by cases h)
  ·cases g
 unfold BO at h;dsimp only at h;split at h
 ·obtain ⟨p,k,l⟩:=r .nilI h;exact ⟨p,k,fun m0 S0 w0 m S w a nt d f=>l m0 S0 w0 m S w a nt .returning d f rfl⟩
 ·obtain ⟨p,k,l⟩:=r .nilI h;exact ⟨p,k,fun m0 S0 w0 m S w a nt d f=>l m0 S0 w0 m S w a nt .returning d f rfl⟩
 ·rename_i t v;split at h
  ·rename_i W;obtain ⟨p,k,l⟩:=r (.ifc t v) h;refine ⟨p,k,fun m0 S0 w0 m S w a nt d f cv U=>l m0 S0 w0 m S w a nt _ d f ⟨cv,rfl, ?_⟩⟩;exact mX (by simpa [eX] using W) U
  ·cases h
 ·cases h
theorem J9 (i:iM P ap) (g:P.follows .mixedOrders=true) (j:JS P ap) (x:jX P ap H) (B:vk P ap H) (lf:Nat):jX P ap fun c md f args h=>t_ ap H lf md f args h c:=by
 intro c f args h out J u I b D;have b:t_ ap H lf .dead f args h c= .ok (out,J,u) I:=b;unfold t_ at b;split at b
 ·cases b
 ·rename_i F q;dsimp only at b;obtain ⟨⟨e,s⟩,M,t,b⟩:=R.bind_ok b;dsimp only at b;obtain ⟨a,y,d⟩:=j.body f F q;have hbody:af F.fn=a:=by simp [af,y]
  rw [hbody] at t;obtain ⟨l,n,k⟩:=yF i B b D;obtain ⟨r,_⟩:=fD (nt:=F.fn.ntmps) i g x a d _ _ _ _ _ t l;refine ⟨r,n,zq j q,fun m S w cargs A C=> ?_⟩;obtain ⟨z,o⟩:=I7 (md:= .dead) A C F.fn.ntmps;have p:F.fn.ntmps≤(cargs.toArray++Array.replicate (F.fn.ntmps - cargs.toArray.size) undef).size:=by simp;omega
  obtain ⟨_,v⟩:=fD i g x a (fA p a d) _ _ _ _ _ t l;obtain ⟨_,v⟩:=v rfl;refine calls_of_wp_defers (j.fn f F q) y ?_;refine v m S w m S w _ (by rw [z];exact Fr.refl _ _ _ _) o _ ?_;intro L S' w' K G E;exact k m S w L S' w' K _ G E
end
end AM
namespace AM
open Go
section
variable {P:Program} {ap:AP} {H:dw}
theorem TG {o:Oper} {a:Act} {K K':Act→World→Prop} {Q Q':Exit→Act→World→Prop} {r:Result Next} (c:∀ a w,K a w→K' a w) (d:∀ e a w,Q e a w→Q' e a w) (f:¬ LetsOut Q) (h:o.upon P a K Q r):o.upon P a K' Q' r:=by
 cases r with
 | ok n w'=>
  cases n<;>simp only [Oper.upon] at h ⊢ <;>
   first
    |exact c _ _ h
    |exact Calls.mono h (fun e g b=>by cases e<;>first|exact c _ _ b|exact d _ _ _ b|exact absurd b f)
    |exact Rows.mono h (fun _ _ b=>c _ _ b)
 |halt x w'=>cases x<;>simp only [Oper.upon] at h ⊢ <;>exact d _ _ _ h
theorem jW {ops:Array Oper} {Q:Exit→Act→List Frame→World→Prop} {cs:List Frame} {Q':Exit→Act→World→Prop} (c:∀ e a w,Q' e a w→Q e a cs w) (b:¬ LetsOut Q'):∀ (l:List Nat) (a:Act) (w:World),wpOps P ops Q' l a w→wpOpsS P ops Q l a cs w
 | [],a,w,h=>c _ _ _ h
 | i ::rest,a,w,h=>by
  simp only [wpOps] at h;simp only [wpOpsS];cases f:ops[i]? with
  |none=>
   simp only [f] at h ⊢;exact jW c b rest a w h
  | some o=>
   simp only [f] at h ⊢;by_cases hw:Region.wanted o (yielded ops a.tmps)=true
   ·rw [if_pos hw] at h ⊢;rcases h with h|⟨_,h⟩
    ·unfold Oper.wp at h;split
     ·rename_i w' g;rw [g] at h;exact h.elim
     ·exact TG (fun a w d=>jW c b rest a w d) (fun e a w d=>c e a w d) b h
    ·exact absurd h b
   ·rw [if_neg hw] at h ⊢;exact jW c b rest _ w h
theorem ahD {Q:Exit→Act→World→Prop}:¬ LetsOut (fun e a w=>e ≠ .outgrown∧Q e a w):=fun ⟨_,_,h,_⟩=>h rfl
theorem LU {a:Act} {o:Oper} {args:Array Operand} {argTypes:Array TypeId} (h:o.op= .call {callee:= .builtin .recover,args,argTypes}) (w:World):(execOp a.eval o).run P w= .ok .recover w:=by
 unfold execOp;rw [h];rfl
theorem FR.env_cons {env:iO} {hp:Hp} {dfs:List (Nat × List AV)} {nt:Nat} {m:a_} {S:aU} {w:World} {a:Act} (h:FR ap env hp dfs nt m S w a) {d:Nat} (hd:d<nt) {v:AV} {cv:Value} (b:VR (aG hp) m S v cv):FR ap ((d,v)::env) hp dfs nt m S w (a.put (some d) cv):=by
 refine ⟨h.srel,fun t=> ?_,by rw [EL];exact h.dfs,by rw [Lm];exact h.size⟩;by_cases ht:d=t
 ·subst ht;rw [EM _ _ _ (by rw [h.size];exact hd)];have:iO.get ((d,v)::env) d=v:=ji (env:=env);rw [this];exact b
 ·rw [EN _ _ _ (fun e=>ht (by cases e;rfl))];have:iO.get ((d,v)::env) t=env.get t:=yG (env:=env) (dst:=some d) (fun e=>ht (by cases e;rfl));rw [this];exact h.env t
theorem Iz (l:iM P ap) (D:P.follows .mixedOrders=true) (I:JS P ap) (hH:jX P ap H) (lf:Nat):vk P ap fun c md f args h=>t_ ap H lf md f args h c:=by
 intro c md f args h out h' W c' hmd g hc;have g:t_ ap H lf md f args h c= .ok (out,h',W) c':=g;unfold t_ at g;split at g
 ·cases g
 ·rename_i F hF;split at g
  ·exact absurd rfl hmd
  ·split at g
   ·rename_i hrefs;simp only [σ] at hrefs;obtain ⟨body,J,j⟩:=I.body f F hF;have hbody:af F.fn=body:=by simp [af,J]
    unfold Ur at g;rw [hbody] at g;split at g
    ·rename_i id ops rest;split at g
     ·rename_i o r k;split at g
      ·rename_i args' argTypes d hop hg hd;dsimp only at g;obtain ⟨⟨s1,p⟩,c1,e1,g⟩:=R.bind_ok g;dsimp only at g;split at g
       ·cases g
       ·obtain ⟨⟨e,C⟩,c2,e2,g⟩:=R.bind_ok g;dsimp only at g;split at g
        ·cases g
        ·rename_i T;have z:∃ L,(e= .normal∨e= .ret)∧vU ap h.length F.fn C.env C.hp c2= .ok (out,h') L∧W= .nilI∧L=c':=by
          split at g
          ·obtain ⟨⟨o1,h1⟩,L,K,g⟩:=R.bind_ok g;cases g;exact ⟨_,.inl rfl,K,rfl,rfl⟩
          ·obtain ⟨⟨o1,h1⟩,L,K,g⟩:=R.bind_ok g;cases g;exact ⟨_,.inr rfl,K,rfl,rfl⟩
          ·cases g
         obtain ⟨L,z,K,rfl,rfl⟩:=z;obtain ⟨Z,hlen,_⟩:=lQ (P:=P) (m:=fun _=>(0,0)) (m0:=fun _=>(0,0)) (S:=fun _ _=>none) (S0:=fun _ _=>none) (w:=default) (w0:=default) (tmps:=#[]) l K hc;simp only [dV,σ] at j;obtain ⟨M,_⟩:=fD (nt:=F.fn.ntmps) l D hH rest j.2 _ _ _ _ _ e2 Z;have A:∀ nt,F.fn.ntmps≤nt→∀ o' ∈ o::r,∀ d,o'.dst=some d→d<nt:=by
          intro nt q o' ho' d' hd';have:=List.all_eq_true.1 j.1 o' (by rw [k];exact ho');simp only [GR,hd'] at this;exact Xqg (fU this) q
         obtain ⟨hc0,_⟩:=nD (nt:=F.fn.ntmps) l hH (ops:=o::r) (A _ (Nat.le_refl _)) r 1 _ _ _ _ _ _ e1 M;refine ⟨hc0,zq I hF,fun m S w cargs u hS hv hm=> ?_⟩;obtain ⟨hh,hFR⟩:=I7 (md:= .dead) hS hv F.fn.ntmps;have q:F.fn.ntmps≤(cargs.toArray++Array.replicate (F.fn.ntmps - cargs.toArray.size) undef).size:=by simp;omega
         obtain ⟨_,hx⟩:=fD l D hH rest (fA q rest j.2) _ _ _ _ _ e2 Z;obtain ⟨_,hs⟩:=nD l hH (ops:=o::r) (A _ q) r 1 _ _ _ _ _ _ e1 M;obtain ⟨X,hs⟩:=hs rfl (fun t b J=>by cases J) rfl (fun b B J=>qJ J);obtain ⟨_,hx⟩:=hx X;have U:=A _ q o (by simp) d hd;refine callsD_of_wpS (I.fn f F hF) J fun c₀ cs hc₀=> ?_
         have i:∃ cv n,sK S md u∧VR (aG (nU .dead args h).hp) m S md cv∧settle n= .returning∧((recoverD (c₀::cs)=some (cv,{c₀ with mode:=n}::cs))∨(recoverD (c₀::cs)=none∧cv= .nilIface∧{c₀ with mode:=n}=c₀)):=by
          cases md<;>simp only [sK] at hm
          ·obtain ⟨cv,rfl,hp⟩:=hm;exact ⟨cv,.panicking [{v:=cv,recovered:=true}],⟨cv,rfl,hp⟩,iH _ hp,rfl,.inl (by simp [recoverD,hc₀])⟩
          ·subst hm;exact ⟨.nilIface,.returning,rfl,by simp only [VR,PR],rfl,.inr ⟨by simp [recoverD,hc₀],rfl,by rw [← hc₀]⟩⟩
         obtain ⟨cv,n,_,Y,G,i⟩:=i;have hcont:∀ (Q:Exit→Act→List Frame→World→Prop),(∀ e a w',(∃ m' S',Fr (bH h) m S w (aG C.hp) m' S' w'∧FR ap C.env C.hp C.dfs (cargs.toArray++Array.replicate (F.fn.ntmps - cargs.toArray.size) undef).size m' S' w' a)→(e= .normal∨e= .ret)→Q e a ({c₀ with mode:=n}::cs) w')→
           wpOpsS P ops (Exit.thenS (rest.wpS P Q) Q) (Yqj 1 r.length) (({tmps:=cargs.toArray++Array.replicate (F.fn.ntmps - cargs.toArray.size) undef,defers:= []}:Act).put (some d) cv) ({c₀ with mode:=n}::cs) w:=by
          intro Q hQ;have hopsA:ops=(o::r).toArray:=by rw [← k]
          rw [hopsA];refine jW (Q':=fun e a w'=>e ≠ .outgrown∧e= .normal∧rest.wpS P Q a ({c₀ with mode:=n}::cs) w') ?_ ahD _ _ _ ?_
          ·rintro e a w' ⟨_,rfl,hh⟩
           exact hh
          ·refine hs m S w _ (hFR.env_cons U Y) _ ?_;intro m1 S1 w1 a1 h3 O;refine ⟨by simp,rfl,wpS_of_wp ?_⟩;rw [hh] at h3;obtain ⟨m2,h5,h6⟩:=n_ (keep:=F.keep) (s:=⟨s1.env,s1.hp,s1.md,s1.dfs⟩) h3 O;refine hx m S w m2 S1 w1 a1 h5 h6 _ ?_;intro m3 S3 w3 a3 h7 h8;rcases z with rfl|rfl
           ·exact hQ .normal a3 w3 ⟨m3,S3,h7,h8⟩ (.inl rfl)
           ·exact hQ .ret a3 w3 ⟨m3,S3,h7,h8⟩ (.inr rfl)
         have E:∀ e a w',(∃ m' S',Fr (bH h) m S w (aG C.hp) m' S' w'∧FR ap C.env C.hp C.dfs (cargs.toArray++Array.replicate (F.fn.ntmps - cargs.toArray.size) undef).size m' S' w' a)→(e= .normal∨e= .ret)→
           bodyPostS P F.fn c₀ cs (fun e n w'=>(∃ m' S',F5 ap h m S w out h' m' S' w' e)∧MV md .nilI u n) e a ({c₀ with mode:=n}::cs) w':=by
          rintro e a w' ⟨m',S',h3,O⟩ hee
          obtain ⟨_,_,hro⟩:=lQ (P:=P) (m:=m') (m0:=m) (S:=S') (S0:=S) (w:=w') (w0:=w) (tmps:=a.tmps) l K hc;obtain ⟨V,h5,h6⟩:=hro O.srel h3 O.env;have N:a.defers= []:=by
           have:=O.dfs;rw [T] at this;cases hd:a.defers with
           |nil=>rfl
           |cons x y=>rw [hd] at this;simp [iw] at this
          rcases hee with rfl|rfl
          ·exact ⟨N,n,rfl,V,h5,h6,.inr ⟨rfl,G⟩⟩
          ·exact ⟨N,n,rfl,V,h5,h6,.inr ⟨rfl,G⟩⟩
         refine wpS_seq (wpS_region ?_);have hrange:Xq2 ops.size=0::Yqj 1 r.length:=by
          have:ops.size=r.length+1:=by rw [← Array.length_toList,k];simp
          rw [this,List.range_eq_range',List.range'_succ]
         rw [hrange];have ho0:ops[0]? =some o:=by
          have:ops.toList[0]? =some o:=by rw [k];rfl
          simpa using this
         simp only [wpOpsS,ho0,Region.wanted,hg,if_true,LU hop];rw [hd];rcases i with i|⟨i,rfl,hsame⟩
         ·rw [i];exact hcont _ E
         ·rw [i];have:=hcont _ E;rw [hsame] at this;exact this
      ·cases g
     ·cases g
    ·cases g
   ·cases g
end
end AM
namespace AM
open Go
def DD:Option AF→Bool
 |some F=>(match F.fn.body with|some c=>dV F.fn.ntmps c|none=>false) && !(F.fn.name== "runtime.NumGoroutine")
 |none=>true
theorem XT {P:Program} {ap:AP} (h:(Xq2 ap.nty).map ap.ty.get=(Xq2 ap.nty).map (Xk P)):iM P ap:=by
 constructor;intro t e a;unfold AP.tyAt at a;split at a
 ·rename_i b;have c:=fU b;have d:((Xq2 ap.nty).map ap.ty.get)[t]? =some (some e):=by rw [Xqz,Xj5 c];simp [a]
  rw [h,Xqz,Xj5 c] at d;simpa using d
 ·cases a
theorem YD {P:Program} {ap:AP} {keep:Nat→Bool} (h:(Xq2 ap.nfn).map (fun i=>(ap.fn.get i).map AF.fn)=(Xq2 ap.nfn).map fun i=>match keep i with|true=>P.funcs[i]? |false=>none) (l:(Xq2 ap.nfn).all (fun i=>DD (ap.fn.get i))=true):JS P ap:=by
 have b:∀ (f:Nat) (F:AF),ap.fnAt f=some F→f<ap.nfn∧ap.fn.get f=some F:=by
  intro f F a;unfold AP.fnAt at a;split at a
  ·rename_i g;exact ⟨fU g,a⟩
  ·cases a
 have hgood:∀ (f:Nat) (F:AF),ap.fnAt f=some F→DD (some F)=true:=by
  intro f F a;obtain ⟨e,j⟩:=b f F a;have:=List.all_eq_true.1 l f (by simpa using e);rwa [j] at this
 constructor
 ·intro f F a;obtain ⟨e,j⟩:=b f F a;have d:((Xq2 ap.nfn).map fun i=>(ap.fn.get i).map AF.fn)[f]? =some (some F.fn):=by rw [Xqz,Xj5 e];simp [j]
  rw [h,Xqz,Xj5 e] at d;simp only [Xjf,Option.some.injEq] at d;split at d
  ·exact d
  ·cases d
 ·intro f F a;have:=hgood f F a;simp only [DD,σ] at this;cases k:F.fn.body with
  |none=>rw [k] at this;cases this.1
  |some c=>rw [k] at this;exact ⟨c,rfl,this.1⟩
 ·intro f F a;have:=hgood f F a;simp only [DD,σ,Xqm] at this;exact this.2
end AM
namespace AM
open Go
def aI (P:Program) (ap:AP) (h0:List bi) (n:Nat) (code:Code) (s:St) (e:bK) (s':St):Prop:=∀ nt,n≤nt→aj P ap h0 nt code s e s'
abbrev xW:=List (bK × St)
def lX (P:Program) (ap:AP) (H:dw) (h0:List bi) (keep:List Nat) (lf nt:Nat) (ls:List Nat):Code→St→xW→Cx→R ((bK × St) × xW)
 | .seq a b,s,l,c=>(lX P ap H h0 keep lf nt ls a s l c).bind fun r c=>match r.1.1 with
  | .normal=>lX P ap H h0 keep lf nt ls b r.1.2 r.2 c
  |e=> .ok ((e,r.1.2),r.2) c
 | .cond t a b,s,l,c=>match qB ap s.env t with
  | .bool x=>(zu c x).bind fun x c=>match x with
   |true=>lX P ap H h0 keep lf nt ls a s l c
   |false=>lX P ap H h0 keep lf nt ls b s l c
  |_=> .bad 60
 | .block id b,s,l,c=>match pY ls id with
  |true=>match l with
   |(e,s')::r=> .ok ((e,s'),r) {c with ps:=aI P ap h0 nt (.block id b) s e s'::c.ps}
   | []=> .bad 62
  |false=>(lX P ap H h0 keep lf nt ls b s l c).bind fun r c=>match r.1.1 with
   | .exit id'=>match Xqo id' id with|true=> .ok ((.normal,r.1.2),r.2) c|false=> .ok ((.exit id',r.1.2),r.2) c
   |e=> .ok ((e,r.1.2),r.2) c
 | .scope b,s,l,c=>lX P ap H h0 keep lf nt ls b s l c
 | .region id ops draw,s,l,c=>match pY ls (id+1000) with
  |true=>match l with
   |(e,s')::r=> .ok ((e,s'),r) {c with ps:=aI P ap h0 nt (.region id ops draw) s e s'::c.ps}
   | []=> .bad 63
  |false=>(lq ap H h0.length keep lf (.region id ops draw) s c).bind fun r c=> .ok (r,l) c
 |code,s,l,c=>(lq ap H h0.length keep lf code s c).bind fun r c=> .ok (r,l) c
section
variable {P:Program} {ap:AP} {H:dw}
theorem aj.seq {h0:List bi} {nt:Nat} {x y:Code} {s f d:St} {e:bK} (t:aj P ap h0 nt x s .normal f) (o:aj P ap h0 nt y f e d):aj P ap h0 nt (.seq x y) s e d:=by
 intro b;obtain ⟨r,g⟩:=t b;obtain ⟨p,l⟩:=o r;refine ⟨p,fun m0 S0 w0 m S w a c j Q h=>wp_seq (g m0 S0 w0 m S w a c j _ ?_)⟩;intro q S' w' k n i;exact l m0 S0 w0 q S' w' k n i Q h
theorem aj.seq_out {h0:List bi} {nt:Nat} {x y:Code} {s f:St} {e:bK} (b:e ≠ .normal) (p:aj P ap h0 nt x s e f):aj P ap h0 nt (.seq x y) s e f:=by
 intro c;obtain ⟨o,g⟩:=p c;refine ⟨o,fun m0 S0 w0 m S w a d i Q h=>wp_seq (g m0 S0 w0 m S w a d i _ ?_)⟩;intro n S' w' j l k;have:=h n S' w' j l k;cases e with
 |normal=>exact absurd rfl b
 |exit id=>exact this
 |ret=>exact this
 |panic v=>exact this
theorem aj.cond {h0:List bi} {nt:Nat} {t:Operand} {x y:Code} {s s':St} {e:bK} {d:Bool} (k:qB ap s.env t= .bool d) (h:aj P ap h0 nt (if d then x else y) s e s'):aj P ap h0 nt (.cond t x y) s e s':=by
 intro c;obtain ⟨j,i⟩:=h c;refine ⟨j,fun m0 S0 w0 m S w a f b Q g=>wp_cond (t:=d) ?_ (i m0 S0 w0 m S w a f b Q g)⟩;have:=xx b.srel (a:=a) (env:=s.env) t (fun t _=>b.env t);rw [k] at this;simpa only [VR,PR] using this
def oU (id:Nat):bK→bK
 | .exit id'=>match Xqo id' id with|true=> .normal|false=> .exit id'
 |e=>e
theorem aj.block {h0:List bi} {nt:Nat} {id:Nat} {b:Code} {s s':St} {e:bK} (h:aj P ap h0 nt b s e s'):aj P ap h0 nt (.block id b) s (oU id e) s':=by
 intro g;obtain ⟨r,k⟩:=h g;refine ⟨r,fun m0 S0 w0 m S w a j n Q l=>wp_block (k m0 S0 w0 m S w a j n _ ?_)⟩;intro q S' w' i p o;have c:=l q S' w' i p o;cases e with
 |normal=>exact c
 |ret=>exact c
 |panic v=>exact c
 | exit id'=>
  simp only [oU] at c;split at c
  ·rename_i d;show Exit.inBlock id Q (.exit id') i w';simp only [Exit.inBlock,if_pos (aO d)];exact c
  ·rename_i d;show Exit.inBlock id Q (.exit id') i w';have f:id' ≠ id:=by intro e;subst e;simp at d
   simp only [Exit.inBlock,if_neg f];exact c
theorem aj.scope {h0:List bi} {nt:Nat} {b:Code} {s s':St} {e:bK} (h:aj P ap h0 nt b s e s'):aj P ap h0 nt (.scope b) s e s':=by
 intro d;obtain ⟨p,g⟩:=h d;refine ⟨p,fun m0 S0 w0 m S w a f j Q i=>wp_scope_straight (g m0 S0 w0 m S w a f j _ ?_)⟩;intro o S' w' k n l;have c:=i o S' w' k n l;cases e with
 |normal=>exact c
 |exit id=>exact c
 |ret=>exact c
 |panic v=>exact c
theorem ul (C:iM P ap) (u:P.follows .mixedOrders=true) (N:jX P ap H) {h0:List bi} {keep:List Nat} {lf n nt:Nat} (G:n≤nt) {L:List Nat}:∀ (a:Code),dV nt a=true→∀ (s:St) (l:xW) (r:(bK × St) × xW) (c f:Cx),lX P ap H h0 keep lf n L a s l c= .ok r f→f.Ok→c.Ok∧aj P ap h0 nt a s r.1.1 r.1.2:=by
 have hbase:∀ (a:Code),dV nt a=true→∀ (s:St) (l:xW) (r:(bK × St) × xW) (c f:Cx),((lq ap H h0.length keep lf a s c).bind fun r c=> .ok (r,l) c)= .ok r f→f.Ok→c.Ok∧aj P ap h0 nt a s r.1.1 r.1.2:=by
  intro a hd s l r c f h d;obtain ⟨⟨e,s'⟩,o,k,h⟩:=R.bind_ok h;cases h;exact fD C u N a hd s e s' c _ k d
 intro a
 induction a with
 | seq x y ihx ihy=>
  intro hd s l r c f h d;simp only [dV,σ] at hd;simp only [lX] at h;obtain ⟨⟨⟨m,A⟩,F⟩,o,k,h⟩:=R.bind_ok h;dsimp only at h;have hother:m ≠ .normal→R.ok ((m,A),F) o=R.ok r f→c.Ok∧aj P ap h0 nt (.seq x y) s r.1.1 r.1.2:=by
   intro B J;cases J;obtain ⟨g,j⟩:=ihx hd.1 _ _ _ _ _ k d;exact ⟨g,j.seq_out B⟩
  cases m with
  |normal=>
   dsimp only at h;obtain ⟨i,M⟩:=ihy hd.2 _ _ _ _ _ h d;obtain ⟨g,j⟩:=ihx hd.1 _ _ _ _ _ k i;exact ⟨g,j.seq M⟩
  |exit id=>exact hother (by simp) h
  |ret=>exact hother (by simp) h
  |panic v=>exact hother (by simp) h
 | cond t x y ihx ihy=>
  intro hd s l r c f h d;simp only [dV,σ] at hd;simp only [lX] at h;split at h
  ·rename_i O w;obtain ⟨I,o,k,h⟩:=R.bind_ok h;cases I with
   |true=>
    obtain ⟨i,j⟩:=ihx hd.1 _ _ _ _ _ h d;obtain ⟨g,z⟩:=lG k i;exact ⟨g,aj.cond w (by rw [← z];exact j)⟩
   |false=>
    obtain ⟨i,j⟩:=ihy hd.2 _ _ _ _ _ h d;obtain ⟨g,z⟩:=lG k i;exact ⟨g,aj.cond w (by rw [← z];exact j)⟩
  ·cases h
 | block id b ih=>
  intro hd s l r c f h d;simp only [dV] at hd;simp only [lX] at h;split at h
  ·split at h
   ·rename_i D E K;cases h;have hp:aI P ap h0 n (.block id b) s D E:=d.ps _ (Xji ..);exact ⟨⟨d.bs,fun p hp=>d.ps p (Xxx _ hp)⟩,hp nt G⟩
   ·cases h
  ·obtain ⟨⟨⟨m,A⟩,F⟩,o,k,h⟩:=R.bind_ok h;dsimp only at h;have q:r=((oU id m,A),F)∧o=f:=by
    cases m<;>dsimp only at h
    ·cases h;exact ⟨rfl,rfl⟩
    ·unfold oU;split at h<;>cases h<;>rename_i z<;>dsimp only<;>rw [z]<;>exact ⟨rfl,rfl⟩
    ·cases h;exact ⟨rfl,rfl⟩
    ·cases h;exact ⟨rfl,rfl⟩
   obtain ⟨rfl,rfl⟩:=q;obtain ⟨g,j⟩:=ih hd _ _ _ _ _ k d;exact ⟨g,j.block⟩
 |scope b ih=>
  intro hd s l r c f h d;simp only [dV] at hd;simp only [lX] at h;obtain ⟨g,j⟩:=ih hd _ _ _ _ _ h d;exact ⟨g,j.scope⟩
 |skip=>exact fun hd s l r c f h d=>hbase _ hd s l r c f h d
 | region id ops draw=>
  intro hd s l r c f h d;simp only [lX] at h;split at h
  ·split at h
   ·rename_i D E K;cases h;have hp:aI P ap h0 n (.region id ops draw) s D E:=d.ps _ (Xji ..);exact ⟨⟨d.bs,fun p hp=>d.ps p (Xxx _ hp)⟩,hp nt G⟩
   ·cases h
  ·exact hbase _ hd s l r c f h d
 |loop _ _=>exact fun hd s l r c f h d=>hbase _ hd s l r c f h d
 |rangeFunc _ _ _ _=>exact fun hd s l r c f h d=>hbase _ hd s l r c f h d
 |exit _=>exact fun hd s l r c f h d=>hbase _ hd s l r c f h d
 |label _=>exact fun hd s l r c f h d=>hbase _ hd s l r c f h d
 |goto _=>exact fun hd s l r c f h d=>hbase _ hd s l r c f h d
 |ret=>exact fun hd s l r c f h d=>hbase _ hd s l r c f h d
 |refuse _=>exact fun hd s l r c f h d=>hbase _ hd s l r c f h d
def Po (P:Program) (ap:AP) (H:dw) (lf:Nat) (ls:List Nat) (f:Nat) (args:List AV) (h:List bi) (l:xW) (c:Cx):R (kC × List bi × AV):=
 match ap.fnAt f with
 |none=> .bad 80
 |some F=>(lX P ap H h F.keep lf F.fn.ntmps ls (af F.fn) (nU .dead args h) l c).bind fun r c=>BO ap H h.length F.fn r.1.1 r.1.2 c
theorem Us (i:iM P ap) (o:P.follows .mixedOrders=true) (d:JS P ap) (K:jX P ap H) (C:vk P ap H) {lf:Nat} {I:List Nat} {f:Nat} {args:List AV} {h x:List bi} {l:xW} {c v:Cx} {out:kC} {t:AV}
  (b:Po P ap H lf I f args h l c= .ok (out,x,t) v) (hc:v.Ok):ax P ap f args h out x:=by
 unfold Po at b;split at b
 ·cases b
 ·rename_i F r;obtain ⟨⟨⟨e,s⟩,M⟩,N,z,b⟩:=R.bind_ok b;dsimp only at b;obtain ⟨a,y,j⟩:=d.body f F r;have hbody:af F.fn=a:=by simp [af,y]
  rw [hbody] at z;obtain ⟨q,n,g⟩:=yF i C b hc;refine ⟨n,zq d r,fun m S w cargs B D=> ?_⟩;obtain ⟨A,p⟩:=I7 (md:= .dead) B D F.fn.ntmps;have k:F.fn.ntmps≤(cargs.toArray++Array.replicate (F.fn.ntmps - cargs.toArray.size) undef).size:=by simp;omega
  obtain ⟨_,u⟩:=ul i o K k a (fA k a j) _ _ _ _ _ z q;obtain ⟨_,u⟩:=u rfl;refine calls_of_wp_defers (d.fn f F r) y ?_;refine u m S w m S w _ (by rw [A];exact Fr.refl _ _ _ _) p _ ?_;intro L S' w' J G E;exact g m S w L S' w' J _ G E
end
end AM
namespace AM
open Go
def xN (P:Program) (ap:AP) (lf:Nat):Nat→dw
 |0=>fun _ _ _ _ _=> .bad 90
 | n+1=>fun c md f args h=>
  match md with
  | .dead=>match c.ans with
   |(out,h')::r=> .ok (out,h',.dead) {c with ans:=r,ps:=ax P ap f args h out h'::c.ps}
   |_=> .bad 91
  |md=>t_ ap (xN P ap lf n) lf md f args h c
theorem lI {P:Program} {ap:AP} (g:iM P ap) (b:P.follows .mixedOrders=true) (e:JS P ap) (lf:Nat):∀ n,jX P ap (xN P ap lf n)∧vk P ap (xN P ap lf n)
 |0=> ⟨fun _ _ _ _ _ _ _ _ h=>(by cases h),fun _ _ _ _ _ _ _ _ _ _ h=>(by cases h)⟩
 | n+1=>by
  obtain ⟨m,o⟩:=lI g b e lf n;constructor
  ·intro c f args h out l d k a j;simp only [xN] at a;split at a
   ·cases a;exact ⟨⟨j.bs,fun p hp=>j.ps p (by simp [hp])⟩,j.ps _ (by simp)⟩
   ·cases a
  ·intro c md f args h out l d k i a j;have a:t_ ap (xN P ap lf n) lf md f args h c= .ok (out,l,d) k:=by
    cases md<;>first|exact absurd rfl i|exact a
   exact Iz g b e m lf c md f args h out l d k i a j
inductive JQ:List Prop→Prop where
 |nil:JQ []
 |cons {p:Prop} {l:List Prop}:p→JQ l→JQ (p::l)
theorem JQ.mem {l:List Prop} (h:JQ l):∀ p ∈ l,p:=by
 induction h with
 |nil=>intro p hp;cases hp
 |cons hp _ ih=>
  intro q a;rcases List.mem_cons.1 a with rfl|a
  ·exact hp
  ·exact ih q a
inductive lV:List Bool→Prop where
 |nil:lV []
 |t {l:List Bool}:lV l→lV (true::l)
 |c {b:Bool} {l:List Bool}:b=true→lV l→lV (b::l)
theorem lV.mem {l:List Bool} (h:lV l):∀ b ∈ l,b=true:=by
 induction h with
 |nil=>intro p hp;cases hp
 |t _ ih=>
  intro q a;rcases List.mem_cons.1 a with rfl|a
  ·rfl
  ·exact ih q a
 |c hp _ ih=>
  intro q a;rcases List.mem_cons.1 a with rfl|a
  ·exact hp
  ·exact ih q a
structure CG (P:Program) (ap:AP):Prop where
 apok:iM P ap
 mixed:P.follows .mixedOrders=true
 fnok:JS P ap
theorem GK {P:Program} {ap:AP} (g:CG P ap) {lf n:Nat} {ans:List (kC × List bi)} {ps:List Prop} {f:Nat} {args:List AV} {h a:List bi} {out:kC} (hp:JQ ps)
  (he:t_ ap (xN P ap lf n) lf .dead f args h ⟨true,[],[],[],ans,[]⟩= .ok (out,a,.dead) ⟨true,[],[],ps,[],[]⟩):ax P ap f args h out a:=by
 obtain ⟨e,d⟩:=lI g.apok g.mixed g.fnok lf n;exact (J9 g.apok g.mixed g.fnok e d lf _ f args h out a .dead _ he ⟨fun b c=>(by cases c),hp.mem⟩).2
end AM
namespace AM
open Go Go.ChangeShapes Go.WideShapes Go.ChangeAt Go.RowKit
def pX:Lit→Value
 | .int k n=> .int k n
 | .bool b=> .bool b
 | .string s=> .string ⟨s.toArray⟩
 |_=> .nilFunc
def KQ:Lit→AV
 | .int k n=> .int k n
 | .bool b=> .bool b
 | .string s=> .str s
 |_=> .dead
def Eg:Lit→Bool
 | .int _ _=>true
 | .bool _=>true
 | .string _=>true
 |_=>false
def KR (f:TypeId→DataW Unit→Nat→Option (List (Nat × Lit))):List (TypeId × Nat)→List (DataW Unit)→Option (List (Nat × Lit))
 | [],[]=>some []
 |(t,o)::r,d::ds=>match f t d o,KR f r ds with
  |some a,some b=>some (a++b)
  |_,_=>none
 |_,_=>none
def lZ (P:Program):Nat→TypeId→DataW Unit→Nat→Option (List (Nat × Lit))
 |0,_,_,_=>none
 |n+1,t,d,off=>match P.underlying t,d with
  |some (.struct fs),.agg ds=>KR (lZ P n) (fs.toList.map fun f=>(f.type,off+f.offset)) ds
  |some (.array m e),.agg ds=>KR (lZ P n) ((Xq2 m).map fun i=>(e,off+i*P.cellsOf e)) ds
  |some (.int _),.lit (.int k n)=>some [(off,.int k n)]
  |some .bool,.lit (.bool b)=>some [(off,.bool b)]
  |some .string,.lit (.string s)=>some [(off,.string s)]
  |_,_=>none
theorem Ee {f:TypeId→DataW Unit→Nat→Option (List (Nat × Lit))}:∀ {ts:List (TypeId × Nat)} {ds:List (DataW Unit)} {l:List (Nat × Lit)},KR f ts ds=some l→ts.length=ds.length∧∀ x ∈ l,∃ (i:Nat) (t o:Nat) (d:DataW Unit) (a:List (Nat × Lit)),ts[i]? =some (t,o)∧ds[i]? =some d∧f t d o=some a∧x ∈ a
 | [],[],l,h=>by simp [KR] at h;subst h;simp
 | (t,o)::r,d::ds,l,h=>by
  simp only [KR] at h;split at h
  ·rename_i a b k m;cases h;obtain ⟨q,n⟩:=Ee m;refine ⟨by simp [q],fun x c=> ?_⟩;rcases List.mem_append.1 c with c|c
   ·exact ⟨0,t,o,d,a,rfl,rfl,k,c⟩
   ·obtain ⟨i,w,e,p,s,u,g,j,v⟩:=n x c;exact ⟨i+1,w,e,p,s,by simpa using u,by simpa using g,j,v⟩
  ·cases h
 | [],_::_,_,h=>by simp [KR] at h
 |_::_,[],_,h=>by simp [KR] at h
theorem nY {P:Program} {w:World} {base:Nat} {N:Nat→Bool} {A:Bool}:∀ (n:Nat) (t:TypeId) (d:DataW Unit) (off:Nat) (l:List (Nat × Lit)),lZ P n t d off=some l→∀ (c:Nat) (cs:List Value) (p:List MemPlace),DataW.trod (fun _=>()) P w base N A c t cs=some (d,p)→∀ x ∈ l,∃ j,x.1=off+j∧cs[j]? =some (pX x.2)
 |0,_,_,_,_,h=>by simp [lZ] at h
 | n +1,t,d,off,l,h=>by
  intro c cs p hd x r;simp only [lZ] at h;split at h
  ·rename_i U L q;cases c with
   |zero=>simp [DataW.trod] at hd
   | succ m=>
    simp only [DataW.trod,q] at hd;split at hd
    ·obtain ⟨J,B,g⟩:=Option.map_eq_some_iff.1 hd;simp only [Prod.mk.injEq,DataW.agg.injEq] at g;obtain ⟨rfl,rfl⟩:=g;obtain ⟨M,E⟩:=Ee h;obtain ⟨i,R,K,O,a,y,u,G,D⟩:=E x r;rw [Xqz,Xqs] at y;obtain ⟨f,C,z⟩:=y;simp only [Prod.mk.injEq] at z;obtain ⟨rfl,rfl⟩:=z;obtain ⟨b,I,F⟩:=Lib.mapM_at B i f C;rw [Xqz,I] at u;simp only [Xjf,Option.some.injEq] at u;subst u;obtain ⟨j,Q,o⟩:=nY n _ _ _ _ G m _ b.2 F x D;refine ⟨f.offset+j,by omega, ?_⟩;rw [Xjp] at o;split at o
     ·rwa [Xj0] at o
     ·cases o
    ·cases hd
  ·rename_i k e L q;cases c with
   |zero=>simp [DataW.trod] at hd
   | succ m=>
    simp only [DataW.trod,q] at hd;split at hd
    ·obtain ⟨J,B,g⟩:=Option.map_eq_some_iff.1 hd;simp only [Prod.mk.injEq,DataW.agg.injEq] at g;obtain ⟨rfl,rfl⟩:=g;obtain ⟨M,E⟩:=Ee h;obtain ⟨i,R,K,O,a,y,u,G,D⟩:=E x r;rw [Xqz,Xqs] at y;obtain ⟨f,C,z⟩:=y;simp only [Prod.mk.injEq] at z;obtain ⟨rfl,rfl⟩:=z;obtain ⟨b,I,F⟩:=Lib.mapM_at B i f C;rw [Xqz,I] at u;simp only [Xjf,Option.some.injEq] at u;subst u;obtain ⟨j,Q,o⟩:=nY n _ _ _ _ G m _ b.2 F x D;refine ⟨f*P.cellsOf e+j,by omega, ?_⟩;rw [Xjp] at o;split at o
     ·rwa [Xj0] at o
     ·cases o
    ·cases hd
  ·rename_i T k V q;cases h;simp at r;subst r;obtain ⟨S,rfl,v,_⟩:=DataW.trod_int q hd;simp only [Prod.mk.injEq,DataW.lit.injEq,Lit.int.injEq] at v;obtain ⟨⟨rfl,rfl⟩,_⟩:=v;exact ⟨0,rfl,rfl⟩
  ·rename_i b q;cases h;simp at r;subst r;cases c with
   |zero=>simp [DataW.trod] at hd
   |succ m=>
    unfold DataW.trod at hd;rw [q] at hd;split at hd<;>simp_all
    rfl
  ·rename_i s q;cases h;simp at r;subst r;cases c with
   |zero=>simp [DataW.trod] at hd
   |succ m=>
    unfold DataW.trod at hd;rw [q] at hd;split at hd<;>simp_all
    obtain ⟨_,rfl,_⟩:=hd;rfl
  ·cases h
theorem yK {P:Program} {w:World}:∀ {l:List (String × DataW Unit)} {ps:List MemPlace},DataW.LaidVars P w l ps→∀ n d,(n,d) ∈ l→∃ g t cs a p,P.globalNamed n=some g∧(P.globals[g]?).map (·.type)=some t∧w.var? P n=some cs∧DataW.trod (fun _=>()) P w 0 (fun _=>true) false a t cs.toList=some (d,p)
 | [],_,_,n,d,hm=>by cases hm
 | (n',d')::r,ps,h,n,d,hm=>by
  obtain ⟨g,t,cs,a,p,q,f,e,i,b,c,_⟩:=h;rcases List.mem_cons.1 hm with he|hm
  ·cases he;exact ⟨g,t,cs,a,p,f,e,i,b⟩
  ·exact yK c n d hm
theorem N_ {P:Program} {W:World} {a:List (String × DataW Unit)} (h:laidMetH P a W) (e:a.filter (fun x=>x.2.handleName?.isSome)= []) {n:String} {d:DataW Unit} (o:(n,d) ∈ a) {g:Nat} {t:TypeId} (k:P.globalNamed n=some g) (s:(P.globals[g]?).map (·.type)=some t)
  {ls:List Lit} (hl:lZ P 6 t d 0=some (ls.zipIdx.map fun (l,i)=>(i,l))):∀ (j:Nat) (l:Lit),ls[j]? =some l→W.cell? ⟨g,j,none⟩=some (pX l):=by
 have c:laidMet P a W:=by
  unfold laidMetH at h;rw [e] at h;exact h
 obtain ⟨ps,v,_⟩:=c;obtain ⟨g',A,cs,b,p,w,z,u,q⟩:=yK v n d o;obtain rfl:=Option.some.inj (k.symm.trans w);obtain rfl:=Option.some.inj (s.symm.trans z);intro j l y;obtain ⟨m,f,r⟩:=nY 6 t d 0 _ hl b cs.toList p q (j,l) (by
  rw [List.mem_map];exact ⟨(l,j),by rw [List.mem_zipIdx_iff_getElem?];exact y,rfl⟩)
 have:m=j:=by simp at f;exact f.symm
 subst this;rw [World.var?_cell k u m];simpa using r
def je (W:World):aU:=fun k o=>match W.cell? ⟨k,o,none⟩ with|some v=>if v.oneCell' then some v else none|none=>none
theorem Ie {W:World} {k o:Nat} {v:Value} (h:W.cell? ⟨k,o,none⟩=some v) (a:v.oneCell'=true):je W k o=some v:=by
 unfold je;rw [h];simp only;rw [if_pos a]
theorem MK {W:World} {k o:Nat} {v:Value} (h:je W k o=some v):dU W k o=some v:=by
 unfold je at h;split at h
 ·rename_i c a;split at h
  ·rename_i b;cases h;exact Dc a b
  ·cases h
 ·cases h
theorem JU (S:aU):∀ (ls:List Lit),ls.all Eg=true→dD S (ls.map KQ) (ls.map pX)
 | [],_=>by simp [dD]
 |l::r,h=>by
  simp only [Xx2,σ] at h;simp only [Xqf,dD];refine ⟨?_,JU S r h.2⟩;cases l<;>simp only [KQ,pX,PR]<;>first|rfl|(exact absurd h.1 (by simp [Eg]))
theorem Ob {l:Lit} (h:Eg l=true):(pX l).oneCell'=true:=by
 cases l<;>first|rfl|(exact absurd h (by simp [Eg]))
def Uh (ap:AP) (W:World):Prop:=∀ k xs,(ap.gl[k]?).join=some xs→∃ ls:List Lit,xs=ls.map KQ∧ls.all Eg=true∧∀ (j:Nat) (l:Lit),ls[j]? =some l→W.cell? ⟨k,j,none⟩=some (pX l)
theorem YG {ap:AP} {W:World} (h:Uh ap W):mi ap (je W):=by
 intro k e i;obtain ⟨f,rfl,b,g⟩:=h k e i;refine ⟨f.map pX,JU _ _ b, ?_⟩;intro j u c;rw [Xqz,Xqs] at c;obtain ⟨l,a,rfl⟩:=c;have d:=Ob (List.all_eq_true.1 b l (Xqr a));refine ⟨?_,d⟩;rw [Nat.zero_add];exact Ie (g j l a) d
theorem acb {P:Program} {ap:AP} {f:Nat} {args:List AV} {b:Bool} (m:ax P ap f args [] (.ret (.bool b)) []) {W:World} (j:Uh ap W) {cargs:List Value} (l:dD (je W) args cargs):
  Calls P f cargs.toArray W fun e W'=>e= .returned (.bool b)∧Below W.heap.size W W':=by
 have g:cZ ap (bH []) (fun _=>(0,0)) (je W) W:=
  ⟨fun b n B B' h=>by simp [bH] at h,fun b B h=>by simp [bH] at h,fun k o v h=>MK h,fun b B h=>by simp [bH] at h,YG j⟩
 refine (m.calls (fun _=>(0,0)) (je W) W cargs g (bY _ l)).mono ?_
 rintro e W' ⟨m',S',hF⟩
 obtain ⟨_,a,c⟩:=hF;obtain ⟨cv,rfl,d⟩:=c;simp only [xY,VR,PR] at d;subst d;exact ⟨rfl,a.os,a.tape,a.output,a.size,fun k i=>a.rest k i fun b B h=>by simp [bH] at h⟩
def Ce (P:Program) (ts:List TypeId):Bool:=ts.all fun t=>P.readableRec t && decide (t<P.types.size)
theorem wW {H:Type} {enc:TypeId × Value→H} {P:Program} (c:laidOutB P=true) {W W':World} {b:Nat→Bool}:∀ {ts:List TypeId} {vs:List Value} {ds:List (DataW H)} {ps:List MemPlace},Ce P ts=true→DataW.TrodAll enc P W 0 (fun _=>true) true ts vs ds ps→(∀ p ∈ ps,W.sameAt W' p)→(∀ p ∈ ps,b p.block=true)→DataW.TrodAll enc P W' 0 b true ts vs ds ps
 | [],vs,ds,ps,_,h,_,_=>by
  obtain ⟨rfl,rfl,rfl⟩:=trodAll_nil h;rfl
 |t::ts,vs,ds,ps,hf,h,hs,hsp=>by
  obtain ⟨v,e,d,f,p,q,rfl,rfl,rfl,i,g⟩:=trodAll_cons h;simp only [Ce,Xx2,σ,decide_eq_true_eq] at hf;exact trodAll_cons_mk (WideElems.Trod_stays c hf.1.1 hf.1.2 i (fun x a=>hs x (by simp [a])) (fun x a=>hsp x (by simp [a]))) (wW c (by simpa [Ce] using hf.2) g (fun x a=>hs x (by simp [a])) (fun x a=>hsp x (by simp [a])))
theorem ahn {H:Type} {enc:TypeId × Value→H} {P:Program} {f:Func} {s:ChangeSpec} {apart fresh handsOn again:Bool} {W W':World} {args:Array Value} {e m:List (DataW H)} {before:List MemPlace} (v:laidOutB P=true) (t:Ce P f.params.toList=true)
  (hW:DataW.Whole enc P f.params.toList s.vars apart W args.toList e m before) (hvars:s.vars= []) {tb:TypeId} (hr:f.resultTypes=#[tb]) (htb:P.underlying tb=some .bool) (hfn:s.fn H (e++m)={results:= [.lit (.bool true)],args:=e,vars:= []})
  (hb:Below W.heap.size W W'):s.post enc P f apart fresh handsOn again W args (.bool true) W':=by
 have g:∀ p ∈ before,p.block<W.heap.size:=fun p hp=>hW.lt p hp
 have d:∀ p ∈ before,(fun b=>decide (b<W.heap.size)) p.block=true:=fun p hp=>by simpa using hW.lt p hp
 have h:=hW;obtain ⟨p,q,w,r,rfl,o,n⟩:=hW;rw [hvars] at r;obtain ⟨rfl,rfl⟩:=trodVars_none r;simp only [Γ] at g d o n h hfn ⊢;have hargs:∀ a:Nat→Bool,(∀ x ∈ p,a x.block=true)→DataW.TrodAll enc P W' 0 a true f.params.toList args.toList (s.fn H e).args p:=by
  intro a l;rw [hfn];exact wW v t w (fun x k=>hb.same (g x k)) l
 have c:∀ (b:Nat) (a:Nat→Bool) (hd:Bool),DataW.TrodAll enc P W' b a hd f.resultTypes.toList ((Value.bool true).resultList f.resultTypes.size) (s.fn H e).results []:=by
  intro b a hd;rw [hfn,hr];exact trodAll_cons_mk (p:= []) (shut_bool htb true) trodAll_mk0
 have j:∀ a:Nat→Bool,DataW.TrodVars enc P W' a s.vars (s.fn H e).vars []:=by
  intro a;rw [hvars,hfn];rfl
 refine ⟨e,[],p,[],p,[],h,by rw [Γ];exact c _ _ _,by rw [Γ];exact hargs _ d,by rw [Γ];exact j _,World.keptBut_mono (fun x k=>k) (hb.frame _),fun _=> ?_⟩;refine ⟨ok_one hr rfl (okWide_bool_mk htb _),_,_,([]++p)++ [],⟨[]++p,[],trodAll_append (hargs _ (fun _ _=>rfl)) (c _ _ _),by simpa using j _,rfl, ?_, ?_⟩, ?_⟩
 ·intro b i hp;have hp':MemPlace.cell b i ∈ p:=by simpa using hp
  rw [hb.frozen (g _ hp')];exact o b i hp'
 ·intro u;simpa using n u
 ·intro x k _;simpa using k
end AM
