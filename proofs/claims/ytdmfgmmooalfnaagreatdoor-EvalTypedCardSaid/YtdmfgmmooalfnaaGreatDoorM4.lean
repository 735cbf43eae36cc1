/- The abstract machine over the code of the model, and the proof that it is sound. No conditions. -/
import Derived.Test.YtdmfgmmooalfnaaGreatDoorM3
import Derived.Recover
import Derived.ProofKit
import Derived.OpenShut
import Derived.LaidLaws
import Derived.LaidSub
import Derived.Lib.LaidTab
set_option linter.unusedSimpArgs false
set_option linter.unusedVariables false
open Bool renaming and_eq_true→ο,not_eq_true'→Xqw
open Nat renaming beq→Xqn,zero_le→Xx1,lt_of_lt_of_le→Φ,sub_zero→Xzd
open List renaming mem_of_getElem?→Xqt,flatMap_cons→Xxu,flatMap_nil→Yqf,append_nil→Γ,range→Xq9,getElem?_map→Xq6,map_cons→Xqb,flatMap_map→Yqg,range'→Yqs,getElem?_range→Xzh,mem_cons_self→Xjv,mem_cons_of_mem→Xje,getElem?_take→Xj7,getElem?_drop→Xzl,all_cons→Xj3
open Option renaming map_eq_some_iff→Xqr,map_some→Xjn
namespace AM
open Go
theorem xB {α:Type} {P:Program} {w:World} (f:α→Sem Value):∀ (l:List α) (vs:List Value),l.length=vs.length→(∀ (i:Nat) (x:α) (v:Value),l[i]? =some x→vs[i]? =some v→(f x).run P w= .ok v w)→(l.mapM f).run P w= .ok vs w
 | [],[],_,_=>rfl
 |a::l,v::vs,hl,h=>by
  rw [List.mapM_cons,Sem.run_bind,h 0 a v rfl rfl,Result.andThen_ok,Sem.run_bind,xB f l vs (by simpa using hl) fun i x u b c=>h (i+1) x u (by simpa using b) (by simpa using c),Result.andThen_ok];rfl
 | [],_::_,hl,_=>by simp at hl
 |_::_,[],hl,_=>by simp at hl
def Nr (tmps:Array Value):ResultVar→Sem Value
 | .tmp t=>pure (tmps.getD t undef)
 | .cell a t=>do loadVar t (← asAddr (tmps.getD a undef))
def YA (vs:List Value):Value:=match vs with| [v]=>v|vs=> .tuple vs.toArray
theorem PV (a:Func) (tmps:Array Value):results a tmps=(do let vs ← a.results.mapM (Nr tmps);pure (if h:vs.size=1 then vs[0] else .tuple vs)):=by
 unfold results;congr 2
theorem CY {P:Program} {w:World} {a:Func} {tmps:Array Value} {vs:List Value} (b:a.results.toList.length=vs.length)
  (h:∀ (i:Nat) (r:ResultVar) (v:Value),a.results.toList[i]? =some r→vs[i]? =some v→(Nr tmps r).run P w= .ok v w):
  (results a tmps).run P w= .ok (YA vs) w:=by
 rw [PV,Array.mapM_eq_mapM_toList];simp only [bind_map_left];rw [Sem.run_bind,xB _ _ vs b h,Result.andThen_ok]
 match vs with
 | []=>rfl
 | [v]=>rfl
 |_::_::_=>simp [YA]
theorem NC {S:aZ} {m:bf} {rd c:dJ} {w:World} (h:∀ b B,rd b=some B→c b=some B):pY (dL S m rd w) (dL S m c w):=by
 intro k o v a;unfold dL at a ⊢;split at a
 ·rename_i u i;exact a
 ·rename_i i;split at a
  ·rename_i e;obtain ⟨b,B,g,f,d⟩:=e;rw [if_pos ⟨b,B,h b B g,f,d⟩];exact a
  ·cases a
def cl (rd:dJ) (v:AV):List Nat:=uO rd 6 (jl (d_ v))
inductive H8 (base:Nat) (rd:dJ) (all:List Nat):AV→AV→Prop
 |own {b n:Nat} {B:bg}:rd b=some B→base≤b→B.fro=false→B.pr=true→gq all b=1→0<B.esz→H8 base rd all (.ref b B.ver 0 n) (.own (B.cells.take (n*B.esz)) n B.esz)
 |low {v:AV}:(∀ b ∈ d_ v,b<base)→H8 base rd all v v
 |frz {v v':AV}:(∀ b ∈ cl rd v,base≤b)→frz (fun b=>match uf (cl rd v) b with|true=>rd b|false=>none) 6 v=some v'→H8 base rd all v v'
theorem UM {base:Nat} {rd:dJ} {v a:AV} (h:abm base rd v=some a):(∀ b ∈ cl rd v,base≤b)∧frz (fun b=>match uf (cl rd v) b with|true=>rd b|false=>none) 6 v=some a:=by
 unfold abm at h;dsimp only at h;split at h
 ·rename_i d;exact ⟨fun b c=>gB (List.all_eq_true.1 d b c),h⟩
 ·cases h
theorem Iz {base:Nat} {rd:dJ} {all:List Nat} {v a:AV} (h:(match (d_ v).all (fun b=>Nat.blt b base) with|true=>some v|false=>abm base rd v)=some a):H8 base rd all v a:=by
 split at h
 ·rename_i e;cases h;exact .low fun b d=>gG (List.all_eq_true.1 e b d)
 ·obtain ⟨f,c⟩:=UM h;exact .frz f c
theorem zx {base:Nat} {rd:dJ} {all:List Nat} {v d:AV} (h:tX base rd all v=some d):H8 base rd all v d:=by
 unfold tX at h;dsimp only at h;split at h
 ·rename_i b ver n;split at h
  ·rename_i B f;split at h
   ·rename_i c;cases h;simp only [ο,Xqw] at c;obtain ⟨⟨⟨⟨⟨k,a⟩,i⟩,j⟩,e⟩,g⟩:=c;have a:=aU a;subst a;exact .own f (gB k) i j (aU e) (gG g)
   ·exact Iz h
  ·cases h
 ·exact Iz h
theorem wF {l:List Nat} {b:Nat} (h:b ∈ l):1≤gq l b:=by
 unfold gq;have:b ∈ l.filter (Xqn b):=by rw [List.mem_filter];exact ⟨h,Nat.beq_refl b⟩
 exact List.length_pos_of_mem this
theorem tH {l a:List Nat} {b:Nat}:gq (l++a) b=gq l b+gq a b:=by simp [gq,List.filter_append]
theorem AC {α:Type} {f:α→List Nat} {b:Nat}:∀ (vs:List α) (i j:Nat) (v v':α),vs[i]? =some v→vs[j]? =some v'→i ≠ j→b ∈ f v→b ∈ f v'→2≤gq (vs.flatMap f) b
 | [],i,j,v,v',h,_,_,_,_=>by simp at h
 | a::r,i,j,v,v',hi,hj,hne,hb,hb'=>by
  have c:∀ (k:Nat) (u:α),r[k]? =some u→b ∈ f u→1≤gq (r.flatMap f) b:=by
   intro k u d e;exact wF (List.mem_flatMap.2 ⟨u,Xqt d,e⟩)
  rw [Xxu,tH];cases i with
  |zero=>
   simp at hi;subst hi;cases j with
   |zero=>exact absurd rfl hne
   |succ j=>have:=c j v' (by simpa using hj) hb';have:=wF hb;omega
  | succ i=>
   cases j with
   |zero=>simp at hj;subst hj;have:=c i v (by simpa using hi) hb;have:=wF hb';omega
   |succ j=>
    have:=AC r i j v v' (by simpa using hi) (by simpa using hj) (by omega) hb hb';omega
def lg:List AV→List AV→List (Nat × bg)
 |v::r,.own xs _ esz::q=>(match v with| .ref b _ _ _=> [(b,JZ xs esz)]|_=> [])++lg r q
 |_::r,_::q=>lg r q
 |_,_=> []
theorem jB {v x:AV} {r q:List AV} (h:∀ xs k e,x ≠ .own xs k e):lg (v::r) (x::q)=lg r q:=by
 cases x<;>first|rfl|exact absurd rfl (h _ _ _)
section
variable {P:Program} {ap:AP} {base:Nat} {rd:dJ} {all:List Nat}
theorem xI {g:dJ} {m:bf} {S:aZ} {x:AV} {v:Value} (h:VR g m S x v):∀ xs k e,x ≠ .own xs k e:=by
 rintro xs k e rfl;simp [VR] at h
theorem Eh {S:aZ} {x:AV} {v:Value} (h:PR S x v):∀ xs k e,x ≠ .own xs k e:=by
 rintro xs k e rfl;simp [PR] at h
end
end AM
namespace AM
open Go
theorem FD {b:Nat}:∀ (l acc:List Nat),(b ∈ l∨b ∈ acc)→b ∈ l.foldl Di acc
 | [],acc,h=>by simpa using h
 | a::r,acc,h=>by
  simp only [List.foldl_cons];refine FD r _ ?_;rcases h with h|h
  ·rcases List.mem_cons.1 h with rfl|h
   ·right;unfold Di;split
    ·rename_i c;exact jM.1 c
    ·simp
   ·exact .inl h
  ·right;obtain h':=h;unfold Di;split
   ·exact h
   ·simp [h]
theorem Pv {l:List Nat} {b:Nat} (h:b ∈ l):b ∈ jl l:=FD l [] (.inl h)
theorem JS (l:List Nat):(jl l).Nodup:=(ql l [] (by simp)).1
theorem Yf {rd:dJ} {v:AV} {b:Nat} (h:b ∈ d_ v):b ∈ cl rd v:=by
 obtain ⟨_,t,a⟩:=u_ rd 6 (jl (d_ v)) (JS _);unfold cl;rw [a];exact List.mem_append.2 (.inl (Pv h))
theorem Bz:∀ {vs l:List AV} {b:Nat} {Bo:bg},(b,Bo) ∈ lg vs l→∃ ver i n xs k e,(AV.ref b ver i n,AV.own xs k e) ∈ vs.zip l∧Bo=JZ xs e
 | [],l,b,Bo,h=>by cases l<;>simp [lg] at h
 |v::r,[],b,Bo,h=>by simp [lg] at h
 | v ::r,x::q,b,Bo,h=>by
  rcases jF x with ⟨xs,k,e,rfl⟩|hx
  ·simp only [lg,List.mem_append] at h;rcases h with h|h
   ·cases v with
    |ref b' ver i n=>
     simp at h;obtain ⟨rfl,rfl⟩:=h;exact ⟨ver,i,n,xs,k,e,by simp,rfl⟩
    |_=>simp at h
   ·obtain ⟨ver,i,n,a,d,e',f,c⟩:=Bz h;exact ⟨ver,i,n,a,d,e',by simp [f],c⟩
  ·rw [jB hx] at h;obtain ⟨ver,i,n,a,d,e',f,c⟩:=Bz h;exact ⟨ver,i,n,a,d,e',by simp [f],c⟩
theorem FX {rd:dJ} {b:Nat}:∀ (vs l:List AV),gq ((lg vs l).flatMap fun q=> [q.1]) b≤gq (vs.flatMap (cl rd)) b
 | [],l=>by cases l<;>simp [lg,gq]
 |v::r,[]=>by simp [lg,gq]
 | v :: r,x::q=>by
  have d:=FX (rd:=rd) (b:=b) r q;rw [Xxu,tH];rcases jF x with ⟨xs,k,e,rfl⟩|hx
  ·simp only [lg,List.flatMap_append,tH];cases v with
   | ref b' ver i n=>
    simp only [Xxu,Yqf,Γ];have:gq [b'] b≤gq (cl rd (.ref b' ver i n)) b:=by
     by_cases hb:b=b'
     ·subst hb;have a:gq [b] b=1:=by simp [gq]
      rw [a];exact wF (Yf (by simp [d_]))
     ·have a:gq [b'] b=0:=by
       have:Xqn b b'=false:=by
        cases c:Xqn b b' with
        |false=>rfl
        |true=>exact absurd (aU c) hb
       simp [gq,this]
      omega
    omega
   |_=>simp [gq] at*;omega
  ·rw [jB hx];omega
theorem Gg:∀ (vs l:List AV) (n:Nat),vs.length=l.length→(∀ v x,(v,x) ∈ vs.zip l→(∃ xs k e,x= .own xs k e)→∃ b ver i n,v= .ref b ver i n)→(fU n l).2=(lg vs l).map (·.2)
 | [],[],n,_,_=>by simp [fU,lg]
 | v::r,x::q,n,hl,h=>by
  have c:=fun n=>Gg r q n (by simpa using hl) fun v x d a=>h v x (by simp [d]) a
  rcases jF x with ⟨xs,k,e,rfl⟩|a
  ·obtain ⟨b,ver,i,f,rfl⟩:=h v _ (by simp) ⟨xs,k,e,rfl⟩;simp only [fU,lg,c];simp
  ·rw [bI n a,jB a];exact c n
 | [],_::_,_,hl,_=>by simp at hl
 |_::_,[],_,hl,_=>by simp at hl
theorem JY {rd gh u:dJ} {m p:bf} {S S':aZ}:∀ (vs l:List AV) (cvs:List Value) (n:Nat),vs.length=l.length→bF rd m S vs cvs→
  (∀ v x,(v,x) ∈ vs.zip l→(∃ xs k e,x= .own xs k e)→∃ b ver n,v= .ref b ver 0 n∧∃ xs e,x= .own xs n e)→
  (∀ v x c,(v,x) ∈ vs.zip l→(∀ xs k e,x ≠ .own xs k e)→VR rd m S v c→VR gh p S' x c)→
  (∀ (k b:Nat) (Bo:bg),(lg vs l)[k]? =some (b,Bo)→∀ ver i c,VR rd m S (.ref b ver 0 i) c→(∃ xs e,(AV.ref b ver 0 i,AV.own xs i e) ∈ vs.zip l)→VR u p S' (.ref (n+k) 0 0 i) c)→jH gh u p S' n l cvs
 | [],[],[],n,_,_,_,_,_=>by simp [jH]
 | v::r,x::q,c::cs,n,hl,hv,ho,hx,hr=>by
  simp only [bF] at hv;rcases jF x with ⟨xs,k,e,rfl⟩|hxo
  ·obtain ⟨b,ver,i,rfl,w,e',y⟩:=ho v _ (by simp) ⟨xs,k,e,rfl⟩;cases y;simp only [jH];refine ⟨?_, ?_⟩
   ·have:=hr 0 b (JZ xs e) (by simp [lg]) ver k c hv.1 ⟨xs,e,by simp⟩;rwa [Nat.add_zero] at this
   ·refine JY r q cs (n+1) (by simpa using hl) hv.2 (fun v x g=>ho v x (by simp [g])) (fun v x c g=>hx v x c (by simp [g])) ?_;intro j t Bo o a d s h f;have:=hr (j+1) t Bo (by simpa [lg] using o) a d s h (by obtain ⟨xs,e,f⟩:=f;exact ⟨xs,e,by simp [f]⟩);rwa [show n+(j+1)=n+1+j by omega] at this
  ·rw [bW hxo];refine ⟨hx v x c (by simp) hxo hv.1, ?_⟩;refine JY r q cs n (by simpa using hl) hv.2 (fun v x g=>ho v x (by simp [g])) (fun v x c g=>hx v x c (by simp [g])) ?_;intro j t Bo o a d s h f;exact hr j t Bo (by rw [jB hxo];exact o) a d s h (by obtain ⟨xs,e,f⟩:=f;exact ⟨xs,e,by simp [f]⟩)
 | [],_::_,_,_,hl,_,_,_,_=>by simp at hl
 |_::_,[],_,_,hl,_,_,_,_=>by simp at hl
 | [],[],_::_,_,_,hv,_,_,_=>by simp [bF] at hv
 |_::_,_::_,[],_,_,hv,_,_,_=>by simp [bF] at hv
theorem MK {α β:Type} {f:α→Option β}:∀ {l:List α} {l':List β},kK f l=some l'→∀ x y,(x,y) ∈ l.zip l'→f x=some y
 | [],l',h,x,y,hm=>by simp at hm
 | a::r,l',h,x,y,hm=>by
  simp only [kK] at h;split at h
  ·rename_i b d;split at h
   ·rename_i q c;cases h;simp only [List.zip_cons_cons,List.mem_cons,Prod.mk.injEq] at hm;rcases hm with ⟨rfl,rfl⟩|hm
    ·exact d
    ·exact MK c x y hm
   ·cases h
  ·cases h
theorem TW {α β:Type} {l:List α} {a:List β} {x:α} {y:β} (h:(x,y) ∈ l.zip a):∃ i:Nat,l[i]? =some x∧a[i]? =some y:=by
 obtain ⟨i,b⟩:=List.mem_iff_getElem?.1 h;rw [List.getElem?_zip_eq_some] at b;exact ⟨i,b⟩
theorem Z5 {g:dJ} {m:bf} {S:aZ} {l:List AV} {vs:List Value} (h:bF g m S l vs) {x:AV} (a:x ∈ l):∃ v,VR g m S x v:=by
 obtain ⟨i,c⟩:=List.mem_iff_getElem?.1 a;obtain ⟨v,_,b⟩:=sZ h i c;exact ⟨v,b⟩
end AM
namespace AM
open Go
section
variable {P:Program} {ap:AP}
theorem xW {h0 F:List bg} {hp:Hp} {m m0:bf} {S S0:aZ} {w w0:World} {vs l:List AV} {cvs:List Value} (U:bY ap (aB hp) m S w) (z:Fr (bP h0) m0 S0 w0 (aB hp) m S w) (hv:bF (aB hp) m S vs cvs)
  {N:Nat} (hN:h0.length≤N) (hl:kK (tX N (aB hp) (vs.flatMap (cl (aB hp)))) vs=some l) (hh':kK (aB hp) (Xq9 N)=some F) (hbase:F.all (fun B=>B.pr||(bV B.cells).all fun b=>Nat.blt b N)=true):
  ∃ m' S',bY ap (bP (F++(fU F.length l).2)) m' S' w∧Fr (bP h0) m0 S0 w0 (bP (F++(fU F.length l).2)) m' S' w∧jH (bP F) (bP (F++(fU F.length l).2)) m' S' F.length l cvs:=by
 have X:=(jh hl).1;have hz:∀ v x,(v,x) ∈ vs.zip l→H8 N (aB hp) (vs.flatMap (cl (aB hp))) v x:=fun v x D=>zx (MK hl v x D)
 have L:∀ v x,(v,x) ∈ vs.zip l→(∃ xs k e,x= .own xs k e)→∃ (b n:Nat) (B:bg),v= .ref b B.ver 0 n∧aB hp b=some B∧N≤b∧B.fro=false∧B.pr=true∧gq (vs.flatMap (cl (aB hp))) b=1∧0<B.esz∧x= .own (B.cells.take (n*B.esz)) n B.esz:=by
  rintro v x D ⟨xs,k,e,rfl⟩
  obtain ⟨c,T⟩:=Z5 hv (List.of_mem_zip D).1;generalize hxe:AV.own xs k e=x at D;cases hz v x D with
  |own a d p t A O=>exact ⟨_,_,_,rfl,a,d,p,t,A,O,rfl⟩
  |low a=>exact absurd hxe.symm (xI T _ _ _)
  |frz a d=>
   refine absurd hxe.symm (Eh (lU U (fun b B g=> ?_) 6 v c x d T) _ _ _);split at g
   ·exact g
   ·cases g
 generalize J:lg vs l=obs;have hbs:∀ n,(fU n l).2=obs.map (·.2):=by
  intro n;rw [← J];refine Gg vs l n X.symm fun v x D Y=> ?_
  obtain ⟨b,n',B,a,_⟩:=L v x D Y;exact ⟨b,_,0,n',a⟩
 rw [hbs];have C:∀ b Bo,(b,Bo) ∈ obs→∃ (n:Nat) (B:bg),aB hp b=some B∧N≤b∧B.fro=false∧B.pr=true∧gq (vs.flatMap (cl (aB hp))) b=1∧0<B.esz∧Bo=JZ (B.cells.take (n*B.esz)) B.esz∧(AV.ref b B.ver 0 n,AV.own (B.cells.take (n*B.esz)) n B.esz) ∈ vs.zip l:=by
  intro b Bo D;rw [← J] at D;obtain ⟨ver,i,n,xs,k,e,a,d⟩:=Bz D;obtain ⟨b',n',B,p,t,A,O,V,R,W,E⟩:=L _ _ a ⟨xs,k,e,rfl⟩;cases p;cases E;exact ⟨_,B,t,A,O,V,R,W,d,a⟩
 have hobd:∀ (k k' b:Nat) (Bo Bo':bg),obs[k]? =some (b,Bo)→obs[k']? =some (b,Bo')→k=k':=by
  intro k k' b Bo Bo' a d;obtain ⟨n,B,_,_,_,_,A,_⟩:=C b Bo (Xqt a);by_cases s:k=k'
  ·exact s
  ·have p:=AC (f:=fun q:Nat × bg=> [q.1]) obs k k' _ _ a d s (b:=b) (by simp) (by simp);have t:=FX (rd:=aB hp) (b:=b) vs l;rw [J] at t;omega
 have hobx:∀ b Bo,(b,Bo) ∈ obs→∀ v x,(v,x) ∈ vs.zip l→(∀ xs k e,x ≠ .own xs k e)→b ∉ cl (aB hp) v:=by
  intro b Bo D v x hvx Y g;obtain ⟨n,B,_,_,_,_,A,_,_,O⟩:=C b Bo D;obtain ⟨i,V,R⟩:=TW O;obtain ⟨j,W,E⟩:=TW hvx;have hne:i ≠ j:=by
   rintro rfl
   rw [R] at E;cases E;exact Y _ _ _ rfl
  have:=AC (f:=cl (aB hp)) vs i j _ _ V W hne (b:=b) (Yf (by simp [d_])) g;omega
 have hl0:F.length=N:=by rw [(jh hh').1];simp
 have M:∀ b,b<N→∃ B,aB hp b=some B∧bP F b=some B:=by
  intro b g;obtain ⟨B,a,d⟩:=(jh hh').2 b b (by simp [g]);exact ⟨B,d,a⟩
 have hlow':∀ b B,bP F b=some B→b<N∧aB hp b=some B:=by
  intro b B g;have I:b<N:=by
   have:=(List.getElem?_eq_some_iff.1 g).1;omega
  obtain ⟨B',a,d⟩:=M b I;rw [g] at d;cases d;exact ⟨I,a⟩
 let rdF:dJ:=open Classical in fun b=>if ∃ v x,(v,x) ∈ vs.zip l∧(∀ xs k e,x ≠ .own xs k e)∧b ∈ cl (aB hp) v∧∀ y ∈ cl (aB hp) v,N≤y then aB hp b else none
 have Q:∀ b B,rdF b=some B→aB hp b=some B∧N≤b∧∀ Bo,(b,Bo) ∉ obs:=by
  intro b B g;dsimp only [rdF] at g;split at g
  ·rename_i T;obtain ⟨v,x,a,d,p,t⟩:=T;exact ⟨g,t b p,fun Bo D=>hobx b Bo D v x a d p⟩
  ·cases g
 have r:=oG S m rdF w
 let m':bf:=fun i=>if i<N then m i else m ((obs.map (·.1)).getD (i - N) 0)
 have hm'lo:∀ i,i<N→m' i=m i:=fun i G=>if_pos G
 have hm'hi:∀ (k b:Nat) (Bo:bg),obs[k]? =some (b,Bo)→m' (N+k)=m b:=by
  intro k b Bo s;show (if _ then _ else _)=_;rw [if_neg (by omega),show N+k - N=k by omega,List.getD_eq_getElem?_getD,Xq6,s];rfl
 have hgf:∀ i Bi,bP (F++obs.map (·.2)) i=some Bi→(i<N∧aB hp i=some Bi∧bP F i=some Bi)∨(∃ k b,i=N+k∧obs[k]? =some (b,Bi)):=by
  intro i Bi G;by_cases I:i<N
  ·rw [fG (by omega)] at G;exact .inl ⟨I,(hlow' i Bi G).2,G⟩
  ·rw [jg (by omega),hl0] at G;right;refine ⟨i - N, ?_⟩;have hi':(obs.map (·.2))[i - N]? =some Bi:=G;rw [Xq6,Xqr] at hi';obtain ⟨⟨b,Bo⟩,a,d⟩:=hi';exact ⟨b,by omega,by rw [a];simp at d;rw [d]⟩
 have hgfk:∀ (k b:Nat) (Bo:bg),obs[k]? =some (b,Bo)→bP (F++obs.map (·.2)) (N+k)=some Bo:=by
  intro k b Bo s;rw [jg (by omega),hl0,show N+k - N=k by omega];show (obs.map (·.2))[k]? =_;rw [Xq6,s];rfl
 have K:∀ i Bi,bP (F++obs.map (·.2)) i=some Bi→∃ b B,aB hp b=some B∧m' i=m b∧((i<N∧b=i∧Bi=B)∨(N≤b∧∃ k,i=N+k∧obs[k]? =some (b,Bi))):=by
  intro i Bi G;rcases hgf i Bi G with ⟨a,d,p⟩|⟨k,b,rfl,s⟩
  ·exact ⟨i,Bi,d,hm'lo i a,.inl ⟨a,rfl,rfl⟩⟩
  ·obtain ⟨n,B,a,d,_⟩:=C b Bi (Xqt s);exact ⟨b,B,a,hm'hi k b Bi s,.inr ⟨d,k,rfl,s⟩⟩
 refine ⟨m',dL S m rdF w, ?_, ?_, ?_⟩
 ·refine ⟨?_, ?_,fun k o v h=>qG U h, ?_, ?_⟩
  ·intro i j Bi Bj G hj e;obtain ⟨b,B,a,d,p⟩:=K i Bi G;obtain ⟨b',B',h1',h2',h3'⟩:=K j Bj hj;rw [d,h2'] at e;have:=U.inj b b' B B' a h1' e;subst this;rcases p with ⟨t,rfl,_⟩|⟨t,k,rfl,s⟩<;>rcases h3' with ⟨h4',rfl,_⟩|⟨h4',k',rfl,hk'⟩
   ·rfl
   ·omega
   ·omega
   ·rw [hobd k k' b _ _ s hk']
  ·intro i Bi G;rcases hgf i Bi G with ⟨a,d,p⟩|⟨k,b,rfl,s⟩
   ·rw [hm'lo i a];obtain ⟨⟨cur,e,us,rest,k1,k2,k3,k4,k5,k6⟩,k7,k8⟩:=U.blk i Bi d;refine ⟨⟨cur,e,us,rest,k1,k2,fun hp=>dE r _ (k3 hp), ?_,k5,k6⟩,k7,k8⟩;cases hpr:Bi.pr with
    |true=>exact b_ _ (dE r _ (k3 hpr))
    |false=>
     refine oh r _ (fun b g=> ?_) k4;have A:=List.all_eq_true.1 hbase Bi (Xqt p);rw [hpr] at A;simp only [Bool.false_or] at A;have O:=gG (List.all_eq_true.1 A b g);obtain ⟨B,V,R⟩:=M b O;exact ⟨by rw [fG (by omega),R,V],hm'lo b O⟩
   ·obtain ⟨n,B,a,d,p,t,A,O,rfl,_⟩:=C b Bi (Xqt s);rw [hm'hi k b _ s];obtain ⟨⟨cur,e,us,rest,k1,k2,k3,k4,k5,k6⟩,k7,k8⟩:=U.blk b B a;have hp:=dE r _ (kN (n*B.esz) (k3 t));refine ⟨⟨cur,e,us.take (n*B.esz),us.drop (n*B.esz)++rest,k1, ?_,fun _=>hp,b_ _ hp,fun hz u hu=>k5 hz u (List.mem_of_mem_take hu),k6⟩,fun _=>rfl,Xx1 _⟩;rw [← List.append_assoc,List.take_append_drop];exact k2
  ·intro i Bi G o v ho;obtain ⟨b,B,a,d,p⟩:=K i Bi G;rw [d] at ho;have hno:rdF b=none:=by
    cases hr:rdF b with
    |none=>rfl
    |some B'=>
     obtain ⟨_,t,A⟩:=Q b B' hr;rcases p with ⟨O,rfl,_⟩|⟨_,k,_,s⟩
     ·omega
     ·exact absurd (Xqt s) (A _)
   have hSo:S (m b).1 o=some v:=by
    rcases fV ho with h|⟨_,b',B',t,A,_⟩
    ·exact h
    ·have:=U.inj b' b B' B (Q b' B' t).1 a A;subst this;rw [hno] at t;cases t
   obtain ⟨V,R⟩:=U.own b B a o v hSo;rcases p with ⟨_,rfl,rfl⟩|⟨_,k,_,s⟩
   ·exact ⟨V,R⟩
   ·obtain ⟨n,B2,W,_,E,_⟩:=C b _ (Xqt s);rw [a] at W;cases W;rw [V] at E;cases E
  ·intro k xs s;obtain ⟨us,a,d⟩:=U.glob k xs s;exact ⟨us,dE r _ a,d.mono r⟩
 ·refine ⟨?_,z.sle.trans r,z.os,z.tape,z.output,z.size,z.rest, ?_, ?_⟩
  ·intro b B0 g;have I:b<N:=Φ (List.getElem?_eq_some_iff.1 g).1 hN;obtain ⟨B,a,d,p⟩:=z.ge b B0 g;obtain ⟨B',t,A⟩:=M b I;rw [a] at t;cases t;exact ⟨B,by rw [fG (by omega)];exact A,d,by rw [hm'lo b I];exact p⟩
  ·intro i Bi G;obtain ⟨b,B,a,d,p⟩:=K i Bi G;rw [d];rcases z.img b B a with h|⟨B0,t,A⟩
   ·exact .inl h
   ·have I:b<N:=Φ (List.getElem?_eq_some_iff.1 t).1 hN;rcases p with ⟨_,rfl,_⟩|⟨O,_⟩
    ·exact .inr ⟨B0,t,A⟩
    ·omega
  ·intro k o v hv;rcases fV hv with h|⟨_,b,B,a,d,_⟩
   ·exact z.sealN k o v h
   ·obtain ⟨p,t,_⟩:=Q b B a;rcases z.img b B p with h|⟨B0,A,_⟩
    ·exact .inr (.inl (d ▸ h))
    ·have:=(List.getElem?_eq_some_iff.1 A).1;omega
 ·rw [hl0];refine JY (rd:=aB hp) (m:=m) (S:=S) vs l cvs N X.symm hv ?_ ?_ ?_
  ·intro v x D Y;obtain ⟨b,n,B,a,_,_,_,_,_,_,d⟩:=L v x D Y;exact ⟨b,B.ver,n,a,_,_,d⟩
  ·intro v x c D Y T;cases hz v x D with
   |own _ _ _ _ _ _=>exact absurd rfl (Y _ _ _)
   |low a=>
    refine yJ r v (fun b g=> ?_) T;obtain ⟨B,d,p⟩:=M b (a b g);exact ⟨by rw [p,d],hm'lo b (a b g)⟩
   | frz a d=>
    have p:=lU U (fun b B g=>by split at g;exact g;cases g) 6 v c x d T;refine iG x (dF (NC fun b B g=> ?_) x p);split at g
    ·rename_i hm2;dsimp only [rdF];rw [if_pos ⟨v,x,D,Y,jM.1 hm2,a⟩];exact g
    ·cases g
  ·rw [J];intro k b Bo s ver n' c T Z;obtain ⟨n,B,a,d,p,t,A,O,rfl,V⟩:=C b Bo (Xqt s);obtain ⟨xs,e,Z⟩:=Z;have hver:ver=B.ver:=by
    obtain ⟨b2,n2,B2,e1,e2,_⟩:=L _ _ Z ⟨xs,_,e,rfl⟩;cases e1;rw [a] at e2;cases e2;rfl
   subst hver;simp only [VR] at T ⊢;obtain ⟨B',R,_,W,E⟩:=T;rw [a] at R;cases R;refine ⟨_,hgfk k b _ s,Xx1 _,W,fun _=> ?_⟩;rw [hm'hi k b _ s];exact E rfl
end
end AM
namespace AM
open Go
section
variable {P:Program} {ap:AP}
theorem Hy (n:iU P ap) {env:iT} {hp:Hp} {m:bf} {S:aZ} {w:World} {tmps:Array Value} (A:bY ap (aB hp) m S w) (q:∀ t,VR (aB hp) m S (env.get t) (tmps.getD t undef)) {r:ResultVar} {v:AV} {bs:List Bool}
  (h:zX ap env hp r=some (v,bs)) (hbs:∀ b ∈ bs,b=true):∃ cv,(Nr tmps r).run P w= .ok cv w∧VR (aB hp) m S v cv:=by
 cases r with
 |tmp t=>
  simp only [zX,Option.some.injEq,Prod.mk.injEq] at h;obtain ⟨rfl,rfl⟩:=h;exact ⟨_,rfl,q t⟩
 | cell a t=>
  simp only [zX] at h;have G:=bind_some h;clear h;obtain ⟨I,p,h⟩:=G;simp only [Xqr] at h;obtain ⟨⟨J,ups,C⟩,j,u⟩:=h;simp only [Prod.mk.injEq] at u;obtain ⟨rfl,rfl⟩:=u;obtain ⟨i,d,z,D⟩:=dZ n p;have c:=q a;obtain ⟨_,cv,s,F⟩:=Ci A (fun b B E=>E) D c j hbs;refine ⟨cv, ?_,F⟩;have g:∃ x,tmps.getD a undef= .pointer (some x):=by
   unfold MI at j;split at j
   ·rename_i xs l f;rw [f] at c;simp only [VR,PR] at c;obtain ⟨b,o,vs,e,_⟩:=c;exact ⟨_,e⟩
   ·rename_i b ver l f;rw [f] at c;simp only [VR] at c;obtain ⟨B,_,_,⟨k,o,e⟩,_⟩:=c;exact ⟨_,e⟩
   ·cases j
  obtain ⟨x,y⟩:=g;rw [y] at s;simp only [Nr,y];exact s
theorem qW (a:iU P ap) {env:iT} {hp:Hp} {m:bf} {S:aZ} {w:World} {tmps:Array Value} (f:bY ap (aB hp) m S w) (g:∀ t,VR (aB hp) m S (env.get t) (tmps.getD t undef)):
  ∀ {rs:List ResultVar} {vs:List (AV × List Bool)},kK (zX ap env hp) rs=some vs→(∀ b ∈ vs.flatMap (·.2),b=true)→∃ cvs:List Value,rs.length=cvs.length∧bF (aB hp) m S (vs.map (·.1)) cvs∧∀ (i:Nat) (r:ResultVar) (v:Value),rs[i]? =some r→cvs[i]? =some v→(Nr tmps r).run P w= .ok v w
 | [],vs,h,_=>by
  simp [kK] at h;subst h;exact ⟨[],rfl,by simp [bF],fun i r v h=>by simp at h⟩
 | r::rs,vs,h,hbs=>by
  simp only [kK] at h;split at h
  ·rename_i q u;split at h
   ·rename_i l s;cases h;obtain ⟨v,bs⟩:=q;obtain ⟨cv,y,j⟩:=Hy a f g u (fun b e=>hbs b (by simp [e]));obtain ⟨cvs,o,x,k⟩:=qW a f g s (fun b e=>hbs b (by rw [Xxu];exact List.mem_append.2 (.inr e)));refine ⟨cv::cvs,by simp [o],by simp only [Xqb,bF];exact ⟨j,x⟩, ?_⟩;intro i p n d c;cases i with
    |zero=>simp at d c;subst d;subst c;exact y
    |succ i=>exact k i p n (by simpa using d) (by simpa using c)
   ·cases h
  ·cases h
theorem V9 {gh d:dJ} {m:bf} {S:aZ} {n:Nat} {x:AV} {v:Value} (h:jH gh d m S n [x] [v]):Dh gh d m S n x v∧(lW n x).2=(fU n [x]).2:=by
 rcases jF x with ⟨xs,k,e,rfl⟩|hx
 ·simp only [jH] at h;exact ⟨h.1,rfl⟩
 ·rw [bW hx] at h;rcases BN x with ⟨l,rfl⟩|ht
  ·have g:=h.1;simp only [VR] at g;obtain ⟨vs,rfl,i⟩:=g;have key:∀ (l:List AV) (vs:List Value) (n:Nat),bF gh m S l vs→jH gh d m S n l vs∧(fU n l).2= []:=by
    intro l
    induction l with
    |nil=>intro vs n a;cases vs with
     |nil=>exact ⟨by simp [jH],rfl⟩
     |cons _ _=>simp [bF] at a
    | cons y r ih=>intro vs n a;cases vs with
     |nil=>simp [bF] at a
     |cons u us=>
      simp only [bF] at a;have b:=xI a.1;obtain ⟨c,f⟩:=ih us n a.2;rw [bW b,bI n b];exact ⟨⟨a.1,c⟩,f⟩
   obtain ⟨c,f⟩:=key l vs n i;refine ⟨?_, ?_⟩
   ·simp only [Dh];exact ⟨vs,rfl,c⟩
   ·simp only [lW,fU];exact f
  ·rw [lM hx ht,jq n hx ht,bI n hx];exact ⟨h.1,rfl⟩
theorem wU (rd:dJ) (n:Nat):n≤VJ rd n:=by
 obtain ⟨_,t,a⟩:=u_ rd 20 (Xq9 n) List.nodup_range;unfold VJ;rw [a,List.length_append,List.length_range];exact Nat.le_add_right _ _
theorem mD (p:iU P ap) {k o:List bg} {I:Func} {env:iT} {hp:Hp} {m m0:bf} {S S0:aZ} {w w0:World} {tmps:Array Value} {c G:Cx} {out:kG} (h:wQ ap k.length I env hp c= .ok (out,o) G) (F:G.Ok):
  c.Ok∧k.length≤o.length∧(bY ap (aB hp) m S w→Fr (bP k) m0 S0 w0 (aB hp) m S w→(∀ t,VR (aB hp) m S (env.get t) (tmps.getD t undef))→
   ∃ cv,(results I tmps).run P w= .ok cv w∧∃ x S',G_ ap k m0 S0 w0 out o x S' w (.returned cv)):=by
 unfold wQ at h;dsimp only at h;split at h
 ·rename_i vs L s b;split at h
  ·cases h
  ·rename_i hbase;obtain ⟨_,M,K,h⟩:=R.bind_ok h;split at h
   ·rename_i v e;cases h;obtain ⟨d,i⟩:=Jq K F;have hlen':k.length≤o.length:=by rw [(jh b).1];simpa using wU _ _
    refine ⟨d,hlen',fun n g A=> ?_⟩;obtain ⟨cvs,D,r,C⟩:=qW p n A s i;have a:(vs.flatMap fun q=>uO (aB hp) 6 (jl (d_ q.1)))=(vs.map (·.1)).flatMap (cl (aB hp)):=by rw [Yqg];rfl
    rw [a] at e;obtain ⟨x,S',z,y,B⟩:=xW n g r (wU _ _) e b hbase;have E:cvs.length=1:=by
     have:=bZ r;have f:=(jh e).1;simp at f this;omega
    match cvs,E with
    | [cv],_=>
     obtain ⟨f,J⟩:=V9 B;refine ⟨cv,CY D C,x,S', ?_⟩;rw [← J] at z y;refine ⟨z,y,cv,rfl, ?_⟩;rw [J];exact f
   ·rename_i l j e;cases h;obtain ⟨d,i⟩:=Jq K F;have hlen':k.length≤o.length:=by rw [(jh b).1];simpa using wU _ _
    refine ⟨d,hlen',fun n g A=> ?_⟩;obtain ⟨cvs,D,r,C⟩:=qW p n A s i;have a:(vs.flatMap fun q=>uO (aB hp) 6 (jl (d_ q.1)))=(vs.map (·.1)).flatMap (cl (aB hp)):=by rw [Yqg];rfl
    rw [a] at e;obtain ⟨x,S',z,y,B⟩:=xW n g r (wU _ _) e b hbase;have u:YA cvs= .tuple cvs.toArray:=by
     match cvs with
     | []=>rfl
     | [cv]=>
      exfalso;have:=bZ r;have f:=(jh e).1;simp at f this
      match l,j with
      | [],_=>simp at f;omega
      | [v],j=>exact j v rfl
      |_::_::_,_=>simp at f;omega
     |_::_::_=>rfl
    refine ⟨_,CY D C,x,S',z,y, ?_⟩;rw [u];exact ⟨_,rfl,cvs,rfl,B⟩
   ·cases h
 ·cases h
theorem zU {a i:List bg} {v:AV} {hp:Hp} {m m0:bf} {S S0:aZ} {w w0:World} {c y:Cx} {out:kG} (h:J4 a.length v hp c= .ok (out,i) y):
  c=y∧a.length≤i.length∧(bY ap (aB hp) m S w→Fr (bP a) m0 S0 w0 (aB hp) m S w→∀ cv,VR (aB hp) m S v cv→(∀ b ver n,v ≠ .ref b ver 0 n)→
   ∃ t S',G_ ap a m0 S0 w0 out i t S' w (.panicked [{v:=cv,recovered:=false}])):=by
 unfold J4 at h;dsimp only at h;split at h
 ·rename_i q C g d;split at h
  ·cases h
  ·rename_i hbase;cases h;have hlen':a.length≤i.length:=by rw [(jh d).1];simpa using wU _ _
   refine ⟨rfl,hlen',fun x j cv o l=> ?_⟩;have A:kK (tX (VJ (aB hp) a.length) (aB hp) ([v].flatMap (cl (aB hp)))) [v]=some [q]:=by
    simp only [Xxu,Yqf,Γ,kK];have z:tX (VJ (aB hp) a.length) (aB hp) (cl (aB hp) v) v=some q:=g;rw [z]
   obtain ⟨t,S',u,p,r⟩:=xW x j (vs:= [v]) (cvs:= [cv]) (by simp only [bF];exact ⟨o,trivial⟩) (wU _ _) A d hbase;have f:∀ xs k e,q ≠ .own xs k e:=by
    rintro xs k e rfl
    cases zx g with
    |own h1 h2 h3 u p r=>exact l _ _ _ rfl
    |low h1=>exact xI o _ _ _ rfl
    |frz h1 h2=>
     exact Eh (lU x (fun b B s=>by split at s;exact s;cases s) 6 v cv _ h2 o) _ _ _ rfl
   rw [bW f] at r;rw [bI _ f] at u p;exact ⟨t,S',u,p,cv,rfl,r.1⟩
 ·cases h
end
end AM
namespace AM
open Go
def uG (S:aZ):AV→FrameMode→Prop
 | .nilI,u=>u= .returning
 | .ifc t v,u=> ∃ cv,u= .panicking [{v:=cv,recovered:=false}]∧PR S (.ifc t v) cv
 |_,_=>False
def Oi (md md':AV) (u u':FrameMode):Prop:=(md'=md∧u'=u)∨(md'= .nilI∧settle u'= .returning)
structure ZV (P:Program) (ap:AP) (f:Nat) (args:List AV) (h:List bg) (out:kG) (h':List bg) (md md':AV):Prop where
 ent:Ed P f
 calls:∀ m S w cargs u,bY ap (bP h) m S w→bF (bP h) m S args cargs→uG S md u→CallsD P f cargs.toArray u w fun e u' w'=>(∃ m' S',G_ ap h m S w out h' m' S' w' e)∧Oi md md' u u'
def wz (P:Program) (ap:AP) (H:dD):Prop:=∀ c md f args h out h' md' c',md ≠ .dead→H c md f args h= .ok (out,h',md') c'→c'.Ok→c.Ok∧ZV P ap f args h out h' md md'
structure KN (P:Program) (ap:AP):Prop where
 fn:∀ (f:Nat) (F:AF),ap.fnAt f=some F→P.funcs[f]? =some F.fn
 body:∀ (f:Nat) (F:AF),ap.fnAt f=some F→∃ c,F.fn.body=some c∧dO F.fn.ntmps c=true
 name:∀ (f:Nat) (F:AF),ap.fnAt f=some F→(F.fn.name== "runtime.NumGoroutine")=false
section
variable {P:Program} {ap:AP} {H:dD}
theorem Aw (a:KN P ap) {f:Nat} {F:AF} (b:ap.fnAt f=some F):Ed P f:=by
 intro args w;obtain ⟨c,d,_⟩:=a.body f F b;unfold callFunc;rw [Sem.run_bind];have:(program).run P w= .ok P w:=rfl;rw [this,Result.andThen_ok,a.fn f F b];dsimp only;rw [a.name f F b];simp [d]
theorem ND {S:aZ} {md:AV} {u:FrameMode} (h:uG S md u):settle u=u∧u ≠ .run:=by
 cases md<;>simp only [uG] at h
 ·obtain ⟨cv,rfl,_⟩:=h;exact ⟨rfl,by simp⟩
 ·subst h;exact ⟨rfl,by simp⟩
theorem vM (G:iU P ap) (Q:wz P ap H):
  ∀ (dfs:List (Nat × List AV)) (mode mode':AV) (hp hp':Hp) (c c':Cx),E9 ap H dfs mode hp c= .ok (mode',hp') c'→c'.Ok→c.Ok∧
   ∀ (x:List bg) (z:Func) (tmps:Array Value) (env:iT) (RR:Ending→World→Prop) (m0:bf) (S0:aZ) (w0:World) m S w k u,bY ap (aB hp) m S w→Fr (bP x) m0 S0 w0 (aB hp) m S w→(∀ t,VR (aB hp) m S (env.get t) (tmps.getD t undef))→iy (aB hp) m S dfs k→uG S mode u→
   (∀ m' S' w' n,bY ap (aB hp') m' S' w'→Fr (bP x) m0 S0 w0 (aB hp') m' S' w'→(∀ t,VR (aB hp') m' S' (env.get t) (tmps.getD t undef))→uG S' mode' n→Leaves P z tmps RR [] n w')→Leaves P z tmps RR k u w
 | [],mode,mode',hp,hp',c,c',h,hc=>by
  cases h;refine ⟨hc,fun x z tmps env RR m0 S0 w0 m S w k u A o F hd g I=> ?_⟩;cases k with
  |nil=>exact I m S w u A o F g
  |cons _ _=>simp [iy] at hd
 | (f, args)::r,mode,mode',hp,hp',c,c',h,hc=>by
  simp only [E9] at h;split at h
  ·cases h
  ·rename_i hrefs;simp only [ο] at hrefs;have J:mode ≠ .dead:=by rintro rfl;cases hrefs.1
   obtain ⟨q,c1,e1,h⟩:=R.bind_ok h;split at h
   ·rename_i v y;obtain ⟨M,ih⟩:=vM G Q r q.md mode' (q.ups++hp) hp' c1 c' h hc;obtain ⟨args0,hh0,U,V,e2,O,hg⟩:=yR e1;obtain ⟨C,W⟩:=Q _ _ _ _ _ _ _ _ _ J e2 M;refine ⟨C,fun x z tmps env RR m0 S0 w0 m S w k u A o F hd g I=> ?_⟩;cases k with
    |nil=>simp [iy] at hd
    | cons d k=>
     simp only [iy] at hd;obtain ⟨⟨l,T,Z⟩,Y⟩:=hd;have hfresh:∀ i,i<4→aB hp (kY hp+i)=none:=by
      intro i _;cases hb:aB hp (kY hp+i) with
      |none=>rfl
      |some B=>have:=wK hb;omega
     have hcall:=hg (aB hp) m S w (d.args++l).toList (fun cargs R=>CallsD P f cargs.toArray u w fun e n w'=>R e w'∧Oi mode q.md u n)
      (fun cargs R R' p a=>CallsD.mono p fun e n w' j=> ⟨a e w' j.1,j.2⟩) A (fun b _ B hB=>hB) hfresh Z
      (fun m1 S1 D p a=>W.calls m1 S1 w _ u p a (by
       cases mode<;>simp only [uG] at g ⊢
       ·obtain ⟨cv,L,j⟩:=g;exact ⟨cv,L,dF D _ j⟩
       ·exact g))
     obtain ⟨s,E⟩:=ND g;refine ⟨E,.func f,l,f,d.args++l,T, ?_, ?_⟩
     ·rw [T];exact W.ent _ w
     ·rw [Array.toArray_toList] at hcall;refine CallsD.mono hcall ?_
      rintro e n w' ⟨⟨m',S',p,a,j⟩,h7⟩
      rw [y] at j;obtain ⟨cv,rfl,j⟩:=j;rw [kF] at p a j;refine ih x z tmps env RR m0 S0 w0 m' S' w' k (settle n) p (o.trans a) (fun t=>qj a.sle a.ge _ (F t)) (ww a.sle a.ge Y) ?_ I;rcases h7 with ⟨N,rfl⟩|⟨N,X⟩
      ·rw [s,N];cases mode<;>simp only [uG] at g ⊢
       ·obtain ⟨cv,L,K⟩:=g;exact ⟨cv,L,dF a.sle _ K⟩
       ·exact g
      ·rw [N,X];rfl
   ·cases h
theorem eH {n f:Nat} (h:n≤f):∀ (c:Code),dO n c=true→dO f c=true
 | .region _ ops _,hd=>by
  simp only [dO,List.all_eq_true] at hd ⊢;intro o g;have:=hd o g;unfold QR at this ⊢;split
  ·rename_i d e;rw [e] at this;exact Nat.ble_eq_true_of_le (Nat.le_trans (gB this) h)
  ·rfl
 | .seq a b,hd=>by simp only [dO,ο] at hd ⊢;exact ⟨eH h a hd.1,eH h b hd.2⟩
 | .cond _ a b,hd=>by simp only [dO,ο] at hd ⊢;exact ⟨eH h a hd.1,eH h b hd.2⟩
 | .block _ b,hd=>by simp only [dO] at hd ⊢;exact eH h b hd
 | .loop b,hd=>by simp only [dO] at hd ⊢;exact eH h b hd
 | .scope b,hd=>by simp only [dO] at hd ⊢;exact eH h b hd
 | .skip,_=>rfl
 | .label _,_=>rfl
 | .exit _,_=>rfl
 | .ret,_=>rfl
 | .rangeFunc _ _ _ _,_=>rfl
 | .goto _,_=>rfl
 | .refuse _,_=>rfl
theorem Ba {α:Type}:∀ (l:List α) (j t:Nat),aB ((l.zipIdx j).map fun (x,i)=>(i,x)) t=if j≤t then l[t - j]? else none
 | [],j,t=>by simp [aB]
 | a::r,j,t=>by
  rw [List.zipIdx_cons,Xqb];simp only [aB];cases h:Xqn j t with
  |true=>have:=aU h;subst this;simp
  | false=>
   have b:j ≠ t:=by intro e;subst e;simp at h
   simp only [Ba r (j+1) t];by_cases hj:j+1≤t
   ·rw [if_pos hj,if_pos (by omega)];obtain ⟨d,hd⟩:∃ d,t - j=d+1:=⟨t - j - 1,by omega⟩
    rw [hd,List.getElem?_cons_succ,show t - (j+1)=d by omega]
   ·rw [if_neg hj,if_neg (by omega)]
theorem JE {h:List bg} {args:List AV} {cargs:List Value} {m:bf} {S:aZ} {w:World} {md:AV} (e:bY ap (bP h) m S w) (g:bF (bP h) m S args cargs) (n:Nat):
  aB (oU md args h).hp=bP h∧FR ap (oU md args h).env (oU md args h).hp [] (cargs.toArray++Array.replicate (n - cargs.toArray.size) undef).size m S w {tmps:=cargs.toArray++Array.replicate (n - cargs.toArray.size) undef,defers:= []}:=by
 have a:aB (oU md args h).hp=bP h:=by
  funext b;have:=Ba h 0 b;simp only [oU,bP];rw [this,if_pos (Xx1 _),Xzd]
 refine ⟨a,⟨a ▸ e, ?_,by simp [iy],rfl⟩⟩;intro t;rw [a];have i:(oU md args h).env.get t=(args[t]?).getD .dead:=by
  have:=Ba args 0 t;simp only [oU,iT.get];rw [this,if_pos (Xx1 _),Xzd]
 rw [i];cases j:args[t]? with
 |none=>simp [VR]
 | some x=>
  obtain ⟨v,d,f⟩:=sZ g t j;have c:=(List.getElem?_eq_some_iff.1 d).1;have:(cargs.toArray++Array.replicate (n - cargs.toArray.size) undef).getD t undef=v:=by
   rw [Array.getD_eq_getD_getElem?,Array.getElem?_append_left (by simpa using c)];simp [d]
  rw [this];exact f
theorem zq (p:iU P ap) (O:wz P ap H) {g z:List bg} {A:Func} {e:bM} {s:St} {c M:Cx} {out:kG} {E:AV} (h:DN ap H g.length A e s c= .ok (out,z,E) M) (G:M.Ok):
  c.Ok∧g.length≤z.length∧∀ m0 S0 w0 m S w a nt,Fr (bP g) m0 S0 w0 (aB s.hp) m S w→FR ap s.env s.hp s.dfs nt m S w a→V6 s.hp m S (bodyPostD P A fun e w'=> ∃ y S',G_ ap g m0 S0 w0 out z y S' w' e) a w e:=by
 have r:∀ mode,((E9 ap H s.dfs mode s.hp c).bind fun (mode,hp) c=>
   match mode with
   | .nilI=>(wQ ap g.length A s.env hp c).bind fun (o,h) c=> .ok (o,h,s.md) c
   | .ifc t v=>(J4 g.length (.ifc t v) hp c).bind fun (o,h) c=> .ok (o,h,s.md) c
   |_=> .bad 74)= .ok (out,z,E) M→c.Ok∧g.length≤z.length∧∀ m0 S0 w0 m S w a nt u,Fr (bP g) m0 S0 w0 (aB s.hp) m S w→FR ap s.env s.hp s.dfs nt m S w a→uG S mode u→Leaves P A a.tmps (fun e w'=> ∃ y S',G_ ap g m0 S0 w0 out z y S' w' e) a.defers u w:=by
  intro mode j;obtain ⟨⟨mode',F⟩,V,T,j⟩:=R.bind_ok j;dsimp only at j;split at j
  ·obtain ⟨⟨o,x⟩,U,D,j⟩:=R.bind_ok j;cases j;obtain ⟨N,i,C⟩:=mD (P:=P) (m:=fun _=>(0,0)) (m0:=fun _=>(0,0)) (S:=fun _ _=>none) (S0:=fun _ _=>none) (w:=default) (w0:=default) (tmps:=#[]) p D G;obtain ⟨q,L⟩:=vM p O s.dfs mode _ s.hp F c V T N;refine ⟨q,i,fun m0 S0 w0 m S w a nt u d f J=> ?_⟩;refine L g A a.tmps s.env _ m0 S0 w0 m S w a.defers u f.srel d f.env f.dfs J ?_;intro y S' w' W l k Q B;simp only [uG] at B;subst B;obtain ⟨_,_,C⟩:=mD (P:=P) (m:=y) (m0:=m0) (S:=S') (S0:=S0) (w:=w') (w0:=w0) (tmps:=a.tmps) p D G;obtain ⟨cv,K,X⟩:=C l k Q;exact ⟨cv,K,X⟩
  ·rename_i t v;obtain ⟨⟨o,x⟩,U,D,j⟩:=R.bind_ok j;cases j;obtain ⟨rfl,i,_⟩:=zU (ap:=ap) (m:=fun _=>(0,0)) (m0:=fun _=>(0,0)) (S:=fun _ _=>none) (S0:=fun _ _=>none) (w:=default) (w0:=default) D;obtain ⟨q,L⟩:=vM p O s.dfs mode _ s.hp F c _ T G;refine ⟨q,i,fun m0 S0 w0 m S w a nt u d f J=> ?_⟩;refine L g A a.tmps s.env _ m0 S0 w0 m S w a.defers u f.srel d f.env f.dfs J ?_;intro y S' w' W l k Q B;simp only [uG] at B;obtain ⟨cv,rfl,K⟩:=B;obtain ⟨_,_,I⟩:=zU (ap:=ap) (m:=y) (m0:=m0) (S:=S') (S0:=S0) (w:=w') (w0:=w0) D;exact I l k cv (iG _ K) (fun b ver n h=>by cases h)
  ·cases j
 unfold DN at h;dsimp only at h;split at h
 ·obtain ⟨x,l,k⟩:=r .nilI h;exact ⟨x,l,fun m0 S0 w0 m S w a nt d f=>k m0 S0 w0 m S w a nt .returning d f rfl⟩
 ·obtain ⟨x,l,k⟩:=r .nilI h;exact ⟨x,l,fun m0 S0 w0 m S w a nt d f=>k m0 S0 w0 m S w a nt .returning d f rfl⟩
 ·rename_i t v;split at h
  ·rename_i Y;obtain ⟨x,l,k⟩:=r (.ifc t v) h;refine ⟨x,l,fun m0 S0 w0 m S w a nt d f cv Z=>k m0 S0 w0 m S w a nt _ d f ⟨cv,rfl, ?_⟩⟩;exact nS (by simpa [d_] using Y) Z
  ·cases h
 ·cases h
theorem La (j:iU P ap) (d:P.follows .mixedOrders=true) (i:KN P ap) (x:nG P ap H) (D:wz P ap H) (lf:Nat):nG P ap fun c md f args h=>uX ap H lf md f args h c:=by
 intro c f args h out A r G b B;have b:uX ap H lf .dead f args h c= .ok (out,A,r) G:=b;unfold uX at b;split at b
 ·cases b
 ·rename_i F t;dsimp only at b;obtain ⟨⟨e,s⟩,M,v,b⟩:=R.bind_ok b;dsimp only at b;obtain ⟨a,y,g⟩:=i.body f F t;have hbody:ai F.fn=a:=by simp [ai,y]
  rw [hbody] at v;obtain ⟨l,k,n⟩:=zq j D b B;obtain ⟨o,_⟩:=fA (nt:=F.fn.ntmps) j d x a g _ _ _ _ _ v l;refine ⟨o,k,Aw i t,fun m S w cargs z J=> ?_⟩;obtain ⟨I,q⟩:=JE (md:= .dead) z J F.fn.ntmps;have p:F.fn.ntmps≤(cargs.toArray++Array.replicate (F.fn.ntmps - cargs.toArray.size) undef).size:=by simp;omega
  obtain ⟨_,u⟩:=fA j d x a (eH p a g) _ _ _ _ _ v l;obtain ⟨_,u⟩:=u rfl;refine calls_of_wp_defers (i.fn f F t) y ?_;refine u m S w m S w _ (by rw [I];exact Fr.refl _ _ _ _) q _ ?_;intro L S' w' K E C;exact n m S w L S' w' K _ E C
end
end AM
namespace AM
open Go
section
variable {P:Program} {ap:AP} {H:dD}
theorem VU {o:Oper} {a:Act} {K K':Act→World→Prop} {Q Q':Exit→Act→World→Prop} {r:Result Next} (c:∀ a w,K a w→K' a w) (d:∀ e a w,Q e a w→Q' e a w) (f:¬ LetsOut Q) (h:o.upon P a K Q r):o.upon P a K' Q' r:=by
 cases r with
 | ok n w'=>
  cases n<;>simp only [Oper.upon] at h ⊢ <;>
   first
    |exact c _ _ h
    |exact Calls.mono h (fun e g b=>by cases e<;>first|exact c _ _ b|exact d _ _ _ b|exact absurd b f)
    |exact Rows.mono h (fun _ _ b=>c _ _ b)
 |halt x w'=>cases x<;>simp only [Oper.upon] at h ⊢ <;>exact d _ _ _ h
theorem jV {ops:Array Oper} {Q:Exit→Act→List Frame→World→Prop} {f:List Frame} {Q':Exit→Act→World→Prop} (c:∀ e a w,Q' e a w→Q e a f w) (b:¬ LetsOut Q'):∀ (l:List Nat) (a:Act) (w:World),wpOps P ops Q' l a w→wpOpsS P ops Q l a f w
 | [],a,w,h=>c _ _ _ h
 | i ::rest,a,w,h=>by
  simp only [wpOps] at h;simp only [wpOpsS];cases g:ops[i]? with
  |none=>
   simp only [g] at h ⊢;exact jV c b rest a w h
  | some o=>
   simp only [g] at h ⊢;by_cases hw:Region.wanted o (yielded ops a.tmps)=true
   ·rw [if_pos hw] at h ⊢;rcases h with h|⟨_,h⟩
    ·unfold Oper.wp at h;split
     ·rename_i w' j;rw [j] at h;exact h.elim
     ·exact VU (fun a w d=>jV c b rest a w d) (fun e a w d=>c e a w d) b h
    ·exact absurd h b
   ·rw [if_neg hw] at h ⊢;exact jV c b rest _ w h
theorem akE {Q:Exit→Act→World→Prop}:¬ LetsOut (fun e a w=>e ≠ .outgrown∧Q e a w):=fun ⟨_,_,h,_⟩=>h rfl
theorem Nw {a:Act} {o:Oper} {args:Array Operand} {argTypes:Array TypeId} (h:o.op= .call {callee:= .builtin .recover,args,argTypes}) (w:World):(execOp a.eval o).run P w= .ok .recover w:=by
 unfold execOp;rw [h];rfl
theorem FR.env_cons {env:iT} {hp:Hp} {dfs:List (Nat × List AV)} {nt:Nat} {m:bf} {S:aZ} {w:World} {a:Act} (h:FR ap env hp dfs nt m S w a) {d:Nat} (hd:d<nt) {v:AV} {cv:Value} (b:VR (aB hp) m S v cv):FR ap ((d,v)::env) hp dfs nt m S w (a.put (some d) cv):=by
 refine ⟨h.srel,fun t=> ?_,by rw [F6];exact h.dfs,by rw [Na];exact h.size⟩;by_cases ht:d=t
 ·subst ht;rw [F7 _ _ _ (by rw [h.size];exact hd)];have:iT.get ((d,v)::env) d=v:=mP (env:=env);rw [this];exact b
 ·rw [F8 _ _ _ (fun e=>ht (by cases e;rfl))];have:iT.get ((d,v)::env) t=env.get t:=zt (env:=env) (dst:=some d) (fun e=>ht (by cases e;rfl));rw [this];exact h.env t
theorem Jj (l:iU P ap) (D:P.follows .mixedOrders=true) (J:KN P ap) (hH:nG P ap H) (lf:Nat):wz P ap fun c md f args h=>uX ap H lf md f args h c:=by
 intro c md f args h out h' O c' hmd g hc;have g:uX ap H lf md f args h c= .ok (out,h',O) c':=g;unfold uX at g;split at g
 ·cases g
 ·rename_i F hF;split at g
  ·exact absurd rfl hmd
  ·split at g
   ·rename_i hrefs;simp only [ο] at hrefs;obtain ⟨U,K,k⟩:=J.body f F hF;have hbody:ai F.fn=U:=by simp [ai,K]
    unfold Wy at g;rw [hbody] at g;split at g
    ·rename_i id ops rest;split at g
     ·rename_i o r j;split at g
      ·rename_i args' argTypes d hop hg hd;dsimp only at g;obtain ⟨⟨s1,p⟩,c1,e1,g⟩:=R.bind_ok g;dsimp only at g;split at g
       ·cases g
       ·obtain ⟨⟨e,C⟩,c2,e2,g⟩:=R.bind_ok g;dsimp only at g;split at g
        ·cases g
        ·rename_i W;have q:∃ X,(e= .normal∨e= .ret)∧wQ ap h.length F.fn C.env C.hp c2= .ok (out,h') X∧O= .nilI∧X=c':=by
          split at g
          ·obtain ⟨⟨o1,h1⟩,X,L,g⟩:=R.bind_ok g;cases g;exact ⟨_,.inl rfl,L,rfl,rfl⟩
          ·obtain ⟨⟨o1,h1⟩,X,L,g⟩:=R.bind_ok g;cases g;exact ⟨_,.inr rfl,L,rfl,rfl⟩
          ·cases g
         obtain ⟨X,q,L,rfl,rfl⟩:=q;obtain ⟨M,hlen,_⟩:=mD (P:=P) (m:=fun _=>(0,0)) (m0:=fun _=>(0,0)) (S:=fun _ _=>none) (S0:=fun _ _=>none) (w:=default) (w0:=default) (tmps:=#[]) l L hc;simp only [dO,ο] at k;obtain ⟨T,_⟩:=fA (nt:=F.fn.ntmps) l D hH rest k.2 _ _ _ _ _ e2 M;have A:∀ nt,F.fn.ntmps≤nt→∀ o' ∈ o::r,∀ d,o'.dst=some d→d<nt:=by
          intro nt z o' ho' d' hd';have:=List.all_eq_true.1 k.1 o' (by rw [j];exact ho');simp only [QR,hd'] at this;exact Φ (gG this) z
         obtain ⟨hc0,_⟩:=oH (nt:=F.fn.ntmps) l hH (ops:=o::r) (A _ (Nat.le_refl _)) r 1 _ _ _ _ _ _ e1 T;refine ⟨hc0,Aw J hF,fun m S w cargs u hS hv hm=> ?_⟩;obtain ⟨hh,hFR⟩:=JE (md:= .dead) hS hv F.fn.ntmps;have z:F.fn.ntmps≤(cargs.toArray++Array.replicate (F.fn.ntmps - cargs.toArray.size) undef).size:=by simp;omega
         obtain ⟨_,hx⟩:=fA l D hH rest (eH z rest k.2) _ _ _ _ _ e2 M;obtain ⟨_,hs⟩:=oH l hH (ops:=o::r) (A _ z) r 1 _ _ _ _ _ _ e1 T;obtain ⟨N,hs⟩:=hs rfl (fun t b K=>by cases K) rfl (fun b B K=>wK K);obtain ⟨_,hx⟩:=hx N;have Y:=A _ z o (by simp) d hd;refine callsD_of_wpS (J.fn f F hF) K fun c₀ I hc₀=> ?_
         have i:∃ cv n,uG S md u∧VR (aB (oU .dead args h).hp) m S md cv∧settle n= .returning∧((recoverD (c₀::I)=some (cv,{c₀ with mode:=n}::I))∨(recoverD (c₀::I)=none∧cv= .nilIface∧{c₀ with mode:=n}=c₀)):=by
          cases md<;>simp only [uG] at hm
          ·obtain ⟨cv,rfl,hp⟩:=hm;exact ⟨cv,.panicking [{v:=cv,recovered:=true}],⟨cv,rfl,hp⟩,iG _ hp,rfl,.inl (by simp [recoverD,hc₀])⟩
          ·subst hm;exact ⟨.nilIface,.returning,rfl,by simp only [VR,PR],rfl,.inr ⟨by simp [recoverD,hc₀],rfl,by rw [← hc₀]⟩⟩
         obtain ⟨cv,n,_,hvcv,E,i⟩:=i;have hcont:∀ (Q:Exit→Act→List Frame→World→Prop),(∀ e a w',(∃ m' S',Fr (bP h) m S w (aB C.hp) m' S' w'∧FR ap C.env C.hp C.dfs (cargs.toArray++Array.replicate (F.fn.ntmps - cargs.toArray.size) undef).size m' S' w' a)→(e= .normal∨e= .ret)→Q e a ({c₀ with mode:=n}::I) w')→
           wpOpsS P ops (Exit.thenS (rest.wpS P Q) Q) (Yqs 1 r.length) (({tmps:=cargs.toArray++Array.replicate (F.fn.ntmps - cargs.toArray.size) undef,defers:= []}:Act).put (some d) cv) ({c₀ with mode:=n}::I) w:=by
          intro Q hQ;have hopsA:ops=(o::r).toArray:=by rw [← j]
          rw [hopsA];refine jV (Q':=fun e a w'=>e ≠ .outgrown∧e= .normal∧rest.wpS P Q a ({c₀ with mode:=n}::I) w') ?_ akE _ _ _ ?_
          ·rintro e a w' ⟨_,rfl,hh⟩
           exact hh
          ·refine hs m S w _ (hFR.env_cons Y hvcv) _ ?_;intro m1 S1 w1 a1 h3 V;refine ⟨by simp,rfl,wpS_of_wp ?_⟩;rw [hh] at h3;obtain ⟨m2,h5,h6⟩:=uj (keep:=F.keep) (s:=⟨s1.env,s1.hp,s1.md,s1.dfs⟩) h3 V;refine hx m S w m2 S1 w1 a1 h5 h6 _ ?_;intro m3 S3 w3 a3 h7 h8;rcases q with rfl|rfl
           ·exact hQ .normal a3 w3 ⟨m3,S3,h7,h8⟩ (.inl rfl)
           ·exact hQ .ret a3 w3 ⟨m3,S3,h7,h8⟩ (.inr rfl)
         have G:∀ e a w',(∃ m' S',Fr (bP h) m S w (aB C.hp) m' S' w'∧FR ap C.env C.hp C.dfs (cargs.toArray++Array.replicate (F.fn.ntmps - cargs.toArray.size) undef).size m' S' w' a)→(e= .normal∨e= .ret)→
           bodyPostS P F.fn c₀ I (fun e n w'=>(∃ m' S',G_ ap h m S w out h' m' S' w' e)∧Oi md .nilI u n) e a ({c₀ with mode:=n}::I) w':=by
          rintro e a w' ⟨m',S',h3,V⟩ hee
          obtain ⟨_,_,hro⟩:=mD (P:=P) (m:=m') (m0:=m) (S:=S') (S0:=S) (w:=w') (w0:=w) (tmps:=a.tmps) l L hc;obtain ⟨Z,h5,h6⟩:=hro V.srel h3 V.env;have hdf:a.defers= []:=by
           have:=V.dfs;rw [W] at this;cases hd:a.defers with
           |nil=>rfl
           |cons x y=>rw [hd] at this;simp [iy] at this
          rcases hee with rfl|rfl
          ·exact ⟨hdf,n,rfl,Z,h5,h6,.inr ⟨rfl,E⟩⟩
          ·exact ⟨hdf,n,rfl,Z,h5,h6,.inr ⟨rfl,E⟩⟩
         refine wpS_seq (wpS_region ?_);have hrange:Xq9 ops.size=0::Yqs 1 r.length:=by
          have:ops.size=r.length+1:=by rw [← Array.length_toList,j];simp
          rw [this,List.range_eq_range',List.range'_succ]
         rw [hrange];have ho0:ops[0]? =some o:=by
          have:ops.toList[0]? =some o:=by rw [j];rfl
          simpa using this
         simp only [wpOpsS,ho0,Region.wanted,hg,if_true,Nw hop];rw [hd];rcases i with i|⟨i,rfl,hsame⟩
         ·rw [i];exact hcont _ G
         ·rw [i];have:=hcont _ G;rw [hsame] at this;exact this
      ·cases g
     ·cases g
    ·cases g
   ·cases g
end
end AM
namespace AM
open Go
def EQ:Option AF→Bool
 |some F=>(match F.fn.body with|some c=>dO F.fn.ntmps c|none=>false) && !(F.fn.name== "runtime.NumGoroutine")
 |none=>true
theorem aae {P:Program} {ap:AP} (h:(Xq9 ap.nty).map ap.ty.get=(Xq9 ap.nty).map (Zx P)):iU P ap:=by
 constructor;intro t e a;unfold AP.tyAt at a;split at a
 ·rename_i b;have d:=gG b;have c:((Xq9 ap.nty).map ap.ty.get)[t]? =some (some e):=by rw [Xq6,Xzh d];simp [a]
  rw [h,Xq6,Xzh d] at c;simpa using c
 ·cases a
theorem abj {P:Program} {ap:AP} {keep:Nat→Bool} (h:(Xq9 ap.nfn).map (fun i=>(ap.fn.get i).map AF.fn)=(Xq9 ap.nfn).map fun i=>match keep i with|true=>P.funcs[i]? |false=>none) (l:(Xq9 ap.nfn).all (fun i=>EQ (ap.fn.get i))=true):KN P ap:=by
 have b:∀ (f:Nat) (F:AF),ap.fnAt f=some F→f<ap.nfn∧ap.fn.get f=some F:=by
  intro f F a;unfold AP.fnAt at a;split at a
  ·rename_i j;exact ⟨gG j,a⟩
  ·cases a
 have hgood:∀ (f:Nat) (F:AF),ap.fnAt f=some F→EQ (some F)=true:=by
  intro f F a;obtain ⟨e,g⟩:=b f F a;have:=List.all_eq_true.1 l f (by simpa using e);rwa [g] at this
 constructor
 ·intro f F a;obtain ⟨e,g⟩:=b f F a;have d:((Xq9 ap.nfn).map fun i=>(ap.fn.get i).map AF.fn)[f]? =some (some F.fn):=by rw [Xq6,Xzh e];simp [g]
  rw [h,Xq6,Xzh e] at d;simp only [Xjn,Option.some.injEq] at d;split at d
  ·exact d
  ·cases d
 ·intro f F a;have:=hgood f F a;simp only [EQ,ο] at this;cases k:F.fn.body with
  |none=>rw [k] at this;cases this.1
  |some c=>rw [k] at this;exact ⟨c,rfl,this.1⟩
 ·intro f F a;have:=hgood f F a;simp only [EQ,ο,Xqw] at this;exact this.2
end AM
namespace AM
open Go
def aN (P:Program) (ap:AP) (h0:List bg) (n:Nat) (code:Code) (s:St) (e:bM) (s':St):Prop:=∀ nt,n≤nt→au P ap h0 nt code s e s'
abbrev yE:=List (bM × St)
def mO (P:Program) (ap:AP) (H:dD) (h0:List bg) (keep:List Nat) (lf nt:Nat) (ls:List Nat):Code→St→yE→Cx→R ((bM × St) × yE)
 | .seq a b,s,l,c=>(mO P ap H h0 keep lf nt ls a s l c).bind fun r c=>match r.1.1 with
  | .normal=>mO P ap H h0 keep lf nt ls b r.1.2 r.2 c
  |e=> .ok ((e,r.1.2),r.2) c
 | .cond t a b,s,l,c=>match rQ ap s.env t with
  | .bool x=>(Az c x).bind fun x c=>match x with
   |true=>mO P ap H h0 keep lf nt ls a s l c
   |false=>mO P ap H h0 keep lf nt ls b s l c
  |_=> .bad 60
 | .block id b,s,l,c=>match uf ls id with
  |true=>match l with
   |(e,s')::r=> .ok ((e,s'),r) {c with ps:=aN P ap h0 nt (.block id b) s e s'::c.ps}
   | []=> .bad 62
  |false=>(mO P ap H h0 keep lf nt ls b s l c).bind fun r c=>match r.1.1 with
   | .exit id'=>match Xqn id' id with|true=> .ok ((.normal,r.1.2),r.2) c|false=> .ok ((.exit id',r.1.2),r.2) c
   |e=> .ok ((e,r.1.2),r.2) c
 | .scope b,s,l,c=>mO P ap H h0 keep lf nt ls b s l c
 | .region id ops draw,s,l,c=>match uf ls (id+1000) with
  |true=>match l with
   |(e,s')::r=> .ok ((e,s'),r) {c with ps:=aN P ap h0 nt (.region id ops draw) s e s'::c.ps}
   | []=> .bad 63
  |false=>(lK ap H h0.length keep lf (.region id ops draw) s c).bind fun r c=> .ok (r,l) c
 |code,s,l,c=>(lK ap H h0.length keep lf code s c).bind fun r c=> .ok (r,l) c
section
variable {P:Program} {ap:AP} {H:dD}
theorem au.seq {d:List bg} {nt:Nat} {x y:Code} {s g f:St} {e:bM} (k:au P ap d nt x s .normal g) (o:au P ap d nt y g e f):au P ap d nt (.seq x y) s e f:=by
 intro b;obtain ⟨u,r⟩:=k b;obtain ⟨i,t⟩:=o u;refine ⟨i,fun m0 S0 w0 m S w a c j Q n=>wp_seq (r m0 S0 w0 m S w a c j _ ?_)⟩;intro q S' w' l h p;exact t m0 S0 w0 q S' w' l h p Q n
theorem au.seq_out {g:List bg} {nt:Nat} {x y:Code} {s f:St} {e:bM} (d:e ≠ .normal) (j:au P ap g nt x s e f):au P ap g nt (.seq x y) s e f:=by
 intro b;obtain ⟨o,q⟩:=j b;refine ⟨o,fun m0 S0 w0 m S w a c i Q n=>wp_seq (q m0 S0 w0 m S w a c i _ ?_)⟩;intro p S' w' l h k;have:=n p S' w' l h k;cases e with
 |normal=>exact absurd rfl d
 |exit id=>exact this
 |ret=>exact this
 |panic v=>exact this
theorem au.cond {g:List bg} {nt:Nat} {t:Operand} {x y:Code} {s s':St} {e:bM} {f:Bool} (k:rQ ap s.env t= .bool f) (h:au P ap g nt (if f then x else y) s e s'):au P ap g nt (.cond t x y) s e s':=by
 intro b;obtain ⟨i,j⟩:=h b;refine ⟨i,fun m0 S0 w0 m S w a c d Q l=>wp_cond (t:=f) ?_ (j m0 S0 w0 m S w a c d Q l)⟩;have:=xR d.srel (a:=a) (env:=s.env) t (fun t _=>d.env t);rw [k] at this;simpa only [VR,PR] using this
def qw (id:Nat):bM→bM
 | .exit id'=>match Xqn id' id with|true=> .normal|false=> .exit id'
 |e=>e
theorem au.block {k:List bg} {nt:Nat} {id:Nat} {b:Code} {s s':St} {e:bM} (h:au P ap k nt b s e s'):au P ap k nt (.block id b) s (qw id e) s':=by
 intro d;obtain ⟨p,t⟩:=h d;refine ⟨p,fun m0 S0 w0 m S w a f n Q q=>wp_block (t m0 S0 w0 m S w a f n _ ?_)⟩;intro r S' w' j l o;have c:=q r S' w' j l o;cases e with
 |normal=>exact c
 |ret=>exact c
 |panic v=>exact c
 | exit id'=>
  simp only [qw] at c;split at c
  ·rename_i g;show Exit.inBlock id Q (.exit id') j w';simp only [Exit.inBlock,if_pos (aU g)];exact c
  ·rename_i g;show Exit.inBlock id Q (.exit id') j w';have i:id' ≠ id:=by intro e;subst e;simp at g
   simp only [Exit.inBlock,if_neg i];exact c
theorem au.scope {g:List bg} {nt:Nat} {b:Code} {s s':St} {e:bM} (h:au P ap g nt b s e s'):au P ap g nt (.scope b) s e s':=by
 intro d;obtain ⟨l,q⟩:=h d;refine ⟨l,fun m0 S0 w0 m S w a f j Q o=>wp_scope_straight (q m0 S0 w0 m S w a f j _ ?_)⟩;intro p S' w' n i k;have c:=o p S' w' n i k;cases e with
 |normal=>exact c
 |exit id=>exact c
 |ret=>exact c
 |panic v=>exact c
theorem vz (C:iU P ap) (A:P.follows .mixedOrders=true) (K:nG P ap H) {m:List bg} {keep:List Nat} {lf n nt:Nat} (I:n≤nt) {ls:List Nat}:∀ (d:Code),dO nt d=true→∀ (s:St) (l:yE) (r:(bM × St) × yE) (c f:Cx),mO P ap H m keep lf n ls d s l c= .ok r f→f.Ok→c.Ok∧au P ap m nt d s r.1.1 r.1.2:=by
 have hbase:∀ (d:Code),dO nt d=true→∀ (s:St) (l:yE) (r:(bM × St) × yE) (c f:Cx),((lK ap H m.length keep lf d s c).bind fun r c=> .ok (r,l) c)= .ok r f→f.Ok→c.Ok∧au P ap m nt d s r.1.1 r.1.2:=by
  intro d hd s l r c f h a;obtain ⟨⟨e,s'⟩,u,k,h⟩:=R.bind_ok h;cases h;exact fA C A K d hd s e s' c _ k a
 intro d
 induction d with
 | seq x y ihx ihy=>
  intro hd s l r c f h a;simp only [dO,ο] at hd;simp only [mO] at h;obtain ⟨⟨⟨o,E⟩,B⟩,u,k,h⟩:=R.bind_ok h;dsimp only at h;have hother:o ≠ .normal→R.ok ((o,E),B) u=R.ok r f→c.Ok∧au P ap m nt (.seq x y) s r.1.1 r.1.2:=by
   intro D J;cases J;obtain ⟨g,j⟩:=ihx hd.1 _ _ _ _ _ k a;exact ⟨g,j.seq_out D⟩
  cases o with
  |normal=>
   dsimp only at h;obtain ⟨i,N⟩:=ihy hd.2 _ _ _ _ _ h a;obtain ⟨g,j⟩:=ihx hd.1 _ _ _ _ _ k i;exact ⟨g,j.seq N⟩
  |exit id=>exact hother (by simp) h
  |ret=>exact hother (by simp) h
  |panic v=>exact hother (by simp) h
 | cond t x y ihx ihy=>
  intro hd s l r c f h a;simp only [dO,ο] at hd;simp only [mO] at h;split at h
  ·rename_i O w;obtain ⟨L,u,k,h⟩:=R.bind_ok h;cases L with
   |true=>
    obtain ⟨i,j⟩:=ihx hd.1 _ _ _ _ _ h a;obtain ⟨g,z⟩:=lN k i;exact ⟨g,au.cond w (by rw [← z];exact j)⟩
   |false=>
    obtain ⟨i,j⟩:=ihy hd.2 _ _ _ _ _ h a;obtain ⟨g,z⟩:=lN k i;exact ⟨g,au.cond w (by rw [← z];exact j)⟩
  ·cases h
 | block id b ih=>
  intro hd s l r c f h a;simp only [dO] at hd;simp only [mO] at h;split at h
  ·split at h
   ·rename_i G F M;cases h;have hp:aN P ap m n (.block id b) s G F:=a.ps _ (Xjv ..);exact ⟨⟨a.bs,fun p hp=>a.ps p (Xje _ hp)⟩,hp nt I⟩
   ·cases h
  ·obtain ⟨⟨⟨o,E⟩,B⟩,u,k,h⟩:=R.bind_ok h;dsimp only at h;have q:r=((qw id o,E),B)∧u=f:=by
    cases o<;>dsimp only at h
    ·cases h;exact ⟨rfl,rfl⟩
    ·unfold qw;split at h<;>cases h<;>rename_i z<;>dsimp only<;>rw [z]<;>exact ⟨rfl,rfl⟩
    ·cases h;exact ⟨rfl,rfl⟩
    ·cases h;exact ⟨rfl,rfl⟩
   obtain ⟨rfl,rfl⟩:=q;obtain ⟨g,j⟩:=ih hd _ _ _ _ _ k a;exact ⟨g,j.block⟩
 |scope b ih=>
  intro hd s l r c f h a;simp only [dO] at hd;simp only [mO] at h;obtain ⟨g,j⟩:=ih hd _ _ _ _ _ h a;exact ⟨g,j.scope⟩
 |skip=>exact fun hd s l r c f h a=>hbase _ hd s l r c f h a
 | region id ops draw=>
  intro hd s l r c f h a;simp only [mO] at h;split at h
  ·split at h
   ·rename_i G F M;cases h;have hp:aN P ap m n (.region id ops draw) s G F:=a.ps _ (Xjv ..);exact ⟨⟨a.bs,fun p hp=>a.ps p (Xje _ hp)⟩,hp nt I⟩
   ·cases h
  ·exact hbase _ hd s l r c f h a
 |loop _ _=>exact fun hd s l r c f h a=>hbase _ hd s l r c f h a
 |rangeFunc _ _ _ _=>exact fun hd s l r c f h a=>hbase _ hd s l r c f h a
 |exit _=>exact fun hd s l r c f h a=>hbase _ hd s l r c f h a
 |label _=>exact fun hd s l r c f h a=>hbase _ hd s l r c f h a
 |goto _=>exact fun hd s l r c f h a=>hbase _ hd s l r c f h a
 |ret=>exact fun hd s l r c f h a=>hbase _ hd s l r c f h a
 |refuse _=>exact fun hd s l r c f h a=>hbase _ hd s l r c f h a
def Lc (P:Program) (ap:AP) (H:dD) (lf:Nat) (ls:List Nat) (f:Nat) (args:List AV) (h:List bg) (l:yE) (c:Cx):R (kG × List bg × AV):=
 match ap.fnAt f with
 |none=> .bad 80
 |some F=>(mO P ap H h F.keep lf F.fn.ntmps ls (ai F.fn) (oU .dead args h) l c).bind fun r c=>DN ap H h.length F.fn r.1.1 r.1.2 c
theorem Ld (i:iU P ap) (n:P.follows .mixedOrders=true) (b:KN P ap) (C:nG P ap H) (D:wz P ap H) {lf:Nat} {ls:List Nat} {f:Nat} {args:List AV} {h v:List bg} {l:yE} {c x:Cx} {out:kG} {q:AV}
  (d:Lc P ap H lf ls f args h l c= .ok (out,v,q) x) (hc:x.Ok):aG P ap f args h out v:=by
 unfold Lc at d;split at d
 ·cases d
 ·rename_i F t;obtain ⟨⟨⟨e,s⟩,L⟩,M,z,d⟩:=R.bind_ok d;dsimp only at d;obtain ⟨a,y,o⟩:=b.body f F t;have hbody:ai F.fn=a:=by simp [ai,y]
  rw [hbody] at z;obtain ⟨r,j,k⟩:=zq i D d hc;refine ⟨j,Aw b t,fun m S w cargs A I=> ?_⟩;obtain ⟨G,p⟩:=JE (md:= .dead) A I F.fn.ntmps;have g:F.fn.ntmps≤(cargs.toArray++Array.replicate (F.fn.ntmps - cargs.toArray.size) undef).size:=by simp;omega
  obtain ⟨_,u⟩:=vz i n C g a (eH g a o) _ _ _ _ _ z r;obtain ⟨_,u⟩:=u rfl;refine calls_of_wp_defers (b.fn f F t) y ?_;refine u m S w m S w _ (by rw [G];exact Fr.refl _ _ _ _) p _ ?_;intro K S' w' J E B;exact k m S w K S' w' J _ E B
end
end AM
namespace AM
open Go
def yu (P:Program) (ap:AP) (lf:Nat):Nat→dD
 |0=>fun _ _ _ _ _=> .bad 90
 | n+1=>fun c md f args h=>
  match md with
  | .dead=>match c.ans with
   |(out,h')::r=> .ok (out,h',.dead) {c with ans:=r,ps:=aG P ap f args h out h'::c.ps}
   |_=> .bad 91
  |md=>uX ap (yu P ap lf n) lf md f args h c
theorem lZ {P:Program} {ap:AP} (j:iU P ap) (b:P.follows .mixedOrders=true) (e:KN P ap) (lf:Nat):∀ n,nG P ap (yu P ap lf n)∧wz P ap (yu P ap lf n)
 |0=> ⟨fun _ _ _ _ _ _ _ _ h=>(by cases h),fun _ _ _ _ _ _ _ _ _ _ h=>(by cases h)⟩
 | n+1=>by
  obtain ⟨m,o⟩:=lZ j b e lf n;constructor
  ·intro c f args h out l d k a g;simp only [yu] at a;split at a
   ·cases a;exact ⟨⟨g.bs,fun p hp=>g.ps p (by simp [hp])⟩,g.ps _ (by simp)⟩
   ·cases a
  ·intro c md f args h out l d k i a g;have a:uX ap (yu P ap lf n) lf md f args h c= .ok (out,l,d) k:=by
    cases md<;>first|exact absurd rfl i|exact a
   exact Jj j b e m lf c md f args h out l d k i a g
inductive qZ:List Prop→Prop where
 |nil:qZ []
 |cons {p:Prop} {l:List Prop}:p→qZ l→qZ (p::l)
theorem qZ.mem {l:List Prop} (h:qZ l):∀ p ∈ l,p:=by
 induction h with
 |nil=>intro p hp;cases hp
 |cons hp _ ih=>
  intro q a;rcases List.mem_cons.1 a with rfl|a
  ·exact hp
  ·exact ih q a
inductive jw:List Bool→Prop where
 |nil:jw []
 |t {l:List Bool}:jw l→jw (true::l)
 |c {b:Bool} {l:List Bool}:b=true→jw l→jw (b::l)
theorem jw.mem {l:List Bool} (h:jw l):∀ b ∈ l,b=true:=by
 induction h with
 |nil=>intro p hp;cases hp
 |t _ ih=>
  intro q a;rcases List.mem_cons.1 a with rfl|a
  ·rfl
  ·exact ih q a
 |c hp _ ih=>
  intro q a;rcases List.mem_cons.1 a with rfl|a
  ·exact hp
  ·exact ih q a
structure Ef (P:Program) (ap:AP):Prop where
 apok:iU P ap
 mixed:P.follows .mixedOrders=true
 fnok:KN P ap
theorem lQ {P:Program} {ap:AP} (g:Ef P ap) {lf n:Nat} {ans:List (kG × List bg)} {ps:List Prop} {f:Nat} {args:List AV} {h a:List bg} {out:kG} (hp:qZ ps)
  (he:uX ap (yu P ap lf n) lf .dead f args h ⟨true,[],[],[],ans,[]⟩= .ok (out,a,.dead) ⟨true,[],[],ps,[],[]⟩):aG P ap f args h out a:=by
 obtain ⟨e,c⟩:=lZ g.apok g.mixed g.fnok lf n;exact (La g.apok g.mixed g.fnok e c lf _ f args h out a .dead _ he ⟨fun b d=>(by cases d),hp.mem⟩).2
theorem ul {P:Program} {ap:AP} (g:Ef P ap) {lf n:Nat} {ls:List Nat} {orc:List Bool} {ans:List (kG × List bg)} {lps:yE} {bs:List Bool} {ps:List Prop} {f:Nat} {args:List AV} {h a:List bg} {out:kG}
  (hb:jw bs) (hp:qZ ps) (he:Lc P ap (yu P ap lf n) lf ls f args h lps ⟨false,orc,[],[],ans,[]⟩= .ok (out,a,.dead) ⟨false,[],bs,ps,[],[]⟩):aG P ap f args h out a:=by
 obtain ⟨b,c⟩:=lZ g.apok g.mixed g.fnok lf n;exact Ld g.apok g.mixed g.fnok b c he ⟨hb.mem,hp.mem⟩
end AM
namespace AM
open Go Go.ChangeShapes Go.WideShapes Go.ChangeAt Go.RowKit
def qQ:Lit→Value
 | .int k n=> .int k n
 | .bool b=> .bool b
 | .string s=> .string ⟨s.toArray⟩
 |_=> .nilFunc
def MF:Lit→AV
 | .int k n=> .int k n
 | .bool b=> .bool b
 | .string s=> .str s
 |_=> .dead
def Fe:Lit→Bool
 | .int _ _=>true
 | .bool _=>true
 | .string _=>true
 |_=>false
def MG (f:TypeId→DataW Unit→Nat→Option (List (Nat × Lit))):List (TypeId × Nat)→List (DataW Unit)→Option (List (Nat × Lit))
 | [],[]=>some []
 |(t,o)::r,d::ds=>match f t d o,MG f r ds with
  |some a,some b=>some (a++b)
  |_,_=>none
 |_,_=>none
def mQ (P:Program):Nat→TypeId→DataW Unit→Nat→Option (List (Nat × Lit))
 |0,_,_,_=>none
 |n+1,t,d,off=>match P.underlying t,d with
  |some (.struct fs),.agg ds=>MG (mQ P n) (fs.toList.map fun f=>(f.type,off+f.offset)) ds
  |some (.array m e),.agg ds=>MG (mQ P n) ((Xq9 m).map fun i=>(e,off+i*P.cellsOf e)) ds
  |some (.int _),.lit (.int k n)=>some [(off,.int k n)]
  |some .bool,.lit (.bool b)=>some [(off,.bool b)]
  |some .string,.lit (.string s)=>some [(off,.string s)]
  |_,_=>none
theorem Fb {f:TypeId→DataW Unit→Nat→Option (List (Nat × Lit))}:∀ {ts:List (TypeId × Nat)} {ds:List (DataW Unit)} {l:List (Nat × Lit)},MG f ts ds=some l→ts.length=ds.length∧∀ x ∈ l,∃ (i:Nat) (t o:Nat) (d:DataW Unit) (a:List (Nat × Lit)),ts[i]? =some (t,o)∧ds[i]? =some d∧f t d o=some a∧x ∈ a
 | [],[],l,h=>by simp [MG] at h;subst h;simp
 | (t,o)::r,d::ds,l,h=>by
  simp only [MG] at h;split at h
  ·rename_i a b v p;cases h;obtain ⟨w,m⟩:=Fb p;refine ⟨by simp [w],fun x c=> ?_⟩;rcases List.mem_append.1 c with c|c
   ·exact ⟨0,t,o,d,a,rfl,rfl,v,c⟩
   ·obtain ⟨i,e,s,j,n,k,q,u,g⟩:=m x c;exact ⟨i+1,e,s,j,n,by simpa using k,by simpa using q,u,g⟩
  ·cases h
 | [],_::_,_,h=>by simp [MG] at h
 |_::_,[],_,h=>by simp [MG] at h
theorem pg {P:Program} {w:World} {base:Nat} {M:Nat→Bool} {z:Bool}:∀ (n:Nat) (t:TypeId) (d:DataW Unit) (off:Nat) (l:List (Nat × Lit)),mQ P n t d off=some l→∀ (c:Nat) (I:List Value) (p:List MemPlace),DataW.trod (fun _=>()) P w base M z c t I=some (d,p)→∀ x ∈ l,∃ j,x.1=off+j∧I[j]? =some (qQ x.2)
 |0,_,_,_,_,h=>by simp [mQ] at h
 | n +1,t,d,off,l,h=>by
  intro c I p hd x r;simp only [mQ] at h;split at h
  ·rename_i U R q;cases c with
   |zero=>simp [DataW.trod] at hd
   | succ m=>
    simp only [DataW.trod,q] at hd;split at hd
    ·obtain ⟨xs,C,g⟩:=Option.map_eq_some_iff.1 hd;simp only [Prod.mk.injEq,DataW.agg.injEq] at g;obtain ⟨rfl,rfl⟩:=g;obtain ⟨N,F⟩:=Fb h;obtain ⟨i,O,K,Q,a,y,u,B,D⟩:=F x r;rw [Xq6,Xqr] at y;obtain ⟨f,E,v⟩:=y;simp only [Prod.mk.injEq] at v;obtain ⟨rfl,rfl⟩:=v;obtain ⟨b,J,G⟩:=Lib.mapM_at C i f E;rw [Xq6,J] at u;simp only [Xjn,Option.some.injEq] at u;subst u;obtain ⟨j,L,o⟩:=pg n _ _ _ _ B m _ b.2 G x D;refine ⟨f.offset+j,by omega, ?_⟩;rw [Xj7] at o;split at o
     ·rwa [Xzl] at o
     ·cases o
    ·cases hd
  ·rename_i k e R q;cases c with
   |zero=>simp [DataW.trod] at hd
   | succ m=>
    simp only [DataW.trod,q] at hd;split at hd
    ·obtain ⟨xs,C,g⟩:=Option.map_eq_some_iff.1 hd;simp only [Prod.mk.injEq,DataW.agg.injEq] at g;obtain ⟨rfl,rfl⟩:=g;obtain ⟨N,F⟩:=Fb h;obtain ⟨i,O,K,Q,a,y,u,B,D⟩:=F x r;rw [Xq6,Xqr] at y;obtain ⟨f,E,v⟩:=y;simp only [Prod.mk.injEq] at v;obtain ⟨rfl,rfl⟩:=v;obtain ⟨b,J,G⟩:=Lib.mapM_at C i f E;rw [Xq6,J] at u;simp only [Xjn,Option.some.injEq] at u;subst u;obtain ⟨j,L,o⟩:=pg n _ _ _ _ B m _ b.2 G x D;refine ⟨f*P.cellsOf e+j,by omega, ?_⟩;rw [Xj7] at o;split at o
     ·rwa [Xzl] at o
     ·cases o
    ·cases hd
  ·rename_i V k T q;cases h;simp at r;subst r;obtain ⟨S,rfl,A,_⟩:=DataW.trod_int q hd;simp only [Prod.mk.injEq,DataW.lit.injEq,Lit.int.injEq] at A;obtain ⟨⟨rfl,rfl⟩,_⟩:=A;exact ⟨0,rfl,rfl⟩
  ·rename_i b q;cases h;simp at r;subst r;cases c with
   |zero=>simp [DataW.trod] at hd
   |succ m=>
    unfold DataW.trod at hd;rw [q] at hd;split at hd<;>simp_all
    rfl
  ·rename_i s q;cases h;simp at r;subst r;cases c with
   |zero=>simp [DataW.trod] at hd
   |succ m=>
    unfold DataW.trod at hd;rw [q] at hd;split at hd<;>simp_all
    obtain ⟨_,rfl,_⟩:=hd;rfl
  ·cases h
theorem zC {P:Program} {w:World}:∀ {l:List (String × DataW Unit)} {ps:List MemPlace},DataW.LaidVars P w l ps→∀ n d,(n,d) ∈ l→∃ g t b a p,P.globalNamed n=some g∧(P.globals[g]?).map (·.type)=some t∧w.var? P n=some b∧DataW.trod (fun _=>()) P w 0 (fun _=>true) false a t b.toList=some (d,p)
 | [],_,_,n,d,hm=>by cases hm
 | (n',d')::r,ps,h,n,d,hm=>by
  obtain ⟨g,t,b,a,p,q,j,e,c,f,i,_⟩:=h;rcases List.mem_cons.1 hm with he|hm
  ·cases he;exact ⟨g,t,b,a,p,j,e,c,f⟩
  ·exact zC i n d hm
theorem Ph {P:Program} {W:World} {a:List (String × DataW Unit)} (h:laidMetH P a W) (e:a.filter (fun x=>x.2.handleName?.isSome)= []) {n:String} {d:DataW Unit} (s:(n,d) ∈ a) {g:Nat} {t:TypeId} (k:P.globalNamed n=some g) (r:(P.globals[g]?).map (·.type)=some t)
  {ls:List Lit} (hl:mQ P 6 t d 0=some (ls.zipIdx.map fun (l,i)=>(i,l))):∀ (j:Nat) (l:Lit),ls[j]? =some l→W.cell? ⟨g,j,none⟩=some (qQ l):=by
 have c:laidMet P a W:=by
  unfold laidMetH at h;rw [e] at h;exact h
 obtain ⟨ps,q,_⟩:=c;obtain ⟨g',B,v,b,p,A,w,u,y⟩:=zC q n d s;obtain rfl:=Option.some.inj (k.symm.trans A);obtain rfl:=Option.some.inj (r.symm.trans w);intro j l o;obtain ⟨f,m,z⟩:=pg 6 t d 0 _ hl b v.toList p y (j,l) (by
  rw [List.mem_map];exact ⟨(l,j),by rw [List.mem_zipIdx_iff_getElem?];exact o,rfl⟩)
 have:f=j:=by simp at m;exact m.symm
 subst this;rw [World.var?_cell k u f];simpa using z
def mf (W:World):aZ:=fun k o=>match W.cell? ⟨k,o,none⟩ with|some v=>if v.oneCell' then some v else none|none=>none
theorem I_ {W:World} {k o:Nat} {v:Value} (h:W.cell? ⟨k,o,none⟩=some v) (a:v.oneCell'=true):mf W k o=some v:=by
 unfold mf;rw [h];simp only;rw [if_pos a]
theorem Oa {W:World} {k o:Nat} {v:Value} (h:mf W k o=some v):kR W k o=some v:=by
 unfold mf at h;split at h
 ·rename_i c a;split at h
  ·rename_i b;cases h;exact Ew a b
  ·cases h
 ·cases h
theorem KP (S:aZ):∀ (ls:List Lit),ls.all Fe=true→eG S (ls.map MF) (ls.map qQ)
 | [],_=>by simp [eG]
 |l::r,h=>by
  simp only [Xj3,ο] at h;simp only [Xqb,eG];refine ⟨?_,KP S r h.2⟩;cases l<;>simp only [MF,qQ,PR]<;>first|rfl|(exact absurd h.1 (by simp [Fe]))
theorem Pn {l:Lit} (h:Fe l=true):(qQ l).oneCell'=true:=by
 cases l<;>first|rfl|(exact absurd h (by simp [Fe]))
def V8 (ap:AP) (W:World):Prop:=∀ k xs,(ap.gl[k]?).join=some xs→∃ ls:List Lit,xs=ls.map MF∧ls.all Fe=true∧∀ (j:Nat) (l:Lit),ls[j]? =some l→W.cell? ⟨k,j,none⟩=some (qQ l)
theorem abo {ap:AP} {W:World} (h:V8 ap W):V7 ap (mf W):=by
 intro k xs f;obtain ⟨ls,rfl,b,e⟩:=h k xs f;refine ⟨ls.map qQ,KP _ _ b, ?_⟩;intro j u a;rw [Xq6,Xqr] at a;obtain ⟨l,c,rfl⟩:=a;have d:=Pn (List.all_eq_true.1 b l (Xqt c));refine ⟨?_,d⟩;rw [Nat.zero_add];exact I_ (e j l c) d
theorem aeN {P:Program} {ap:AP} {f:Nat} {args:List AV} {b:Bool} (i:aG P ap f args [] (.ret (.bool b)) []) {W:World} (j:V8 ap W) {cargs:List Value} (l:eG (mf W) args cargs):
  Calls P f cargs.toArray W fun e W'=>e= .returned (.bool b)∧Below W.heap.size W W':=by
 have g:bY ap (bP []) (fun _=>(0,0)) (mf W) W:=
  ⟨fun b n B B' h=>by simp [bP] at h,fun b B h=>by simp [bP] at h,fun k o v h=>Oa h,fun b B h=>by simp [bP] at h,abo j⟩
 refine (i.calls (fun _=>(0,0)) (mf W) W cargs g (b_ _ l)).mono ?_
 rintro e W' ⟨m',S',hF⟩
 obtain ⟨_,a,c⟩:=hF;obtain ⟨cv,rfl,d⟩:=c;simp only [Dh,VR,PR] at d;subst d;exact ⟨rfl,a.os,a.tape,a.output,a.size,fun k m=>a.rest k m fun b B h=>by simp [bP] at h⟩
def D_ (P:Program) (ts:List TypeId):Bool:=ts.all fun t=>P.readableRec t && decide (t<P.types.size)
theorem xF {H:Type} {enc:TypeId × Value→H} {P:Program} (c:laidOutB P=true) {W W':World} {b:Nat→Bool}:∀ {ts:List TypeId} {vs:List Value} {ds:List (DataW H)} {ps:List MemPlace},D_ P ts=true→DataW.TrodAll enc P W 0 (fun _=>true) true ts vs ds ps→(∀ p ∈ ps,W.sameAt W' p)→(∀ p ∈ ps,b p.block=true)→DataW.TrodAll enc P W' 0 b true ts vs ds ps
 | [],vs,ds,ps,_,h,_,_=>by
  obtain ⟨rfl,rfl,rfl⟩:=trodAll_nil h;rfl
 |t::ts,vs,ds,ps,hf,h,hs,hsp=>by
  obtain ⟨v,g,d,f,p,q,rfl,rfl,rfl,e,i⟩:=trodAll_cons h;simp only [D_,Xj3,ο,decide_eq_true_eq] at hf;exact trodAll_cons_mk (WideElems.Trod_stays c hf.1.1 hf.1.2 e (fun x a=>hs x (by simp [a])) (fun x a=>hsp x (by simp [a]))) (xF c (by simpa [D_] using hf.2) i (fun x a=>hs x (by simp [a])) (fun x a=>hsp x (by simp [a])))
theorem akj {H:Type} {enc:TypeId × Value→H} {P:Program} {f:Func} {s:ChangeSpec} {apart fresh handsOn again:Bool} {W W':World} {args:Array Value} {g t:List (DataW H)} {before:List MemPlace} (w:laidOutB P=true) (v:D_ P f.params.toList=true)
  (hW:DataW.Whole enc P f.params.toList s.vars apart W args.toList g t before) (hvars:s.vars= []) {tb:TypeId} (hr:f.resultTypes=#[tb]) (htb:P.underlying tb=some .bool) (hfn:s.fn H (g++t)={results:= [.lit (.bool true)],args:=g,vars:= []})
  (hb:Below W.heap.size W W'):s.post enc P f apart fresh handsOn again W args (.bool true) W':=by
 have e:∀ p ∈ before,p.block<W.heap.size:=fun p hp=>hW.lt p hp
 have d:∀ p ∈ before,(fun b=>decide (b<W.heap.size)) p.block=true:=fun p hp=>by simpa using hW.lt p hp
 have k:=hW;obtain ⟨p,q,u,o,rfl,n,r⟩:=hW;rw [hvars] at o;obtain ⟨rfl,rfl⟩:=trodVars_none o;simp only [Γ] at e d n r k hfn ⊢;have hargs:∀ a:Nat→Bool,(∀ x ∈ p,a x.block=true)→DataW.TrodAll enc P W' 0 a true f.params.toList args.toList (s.fn H g).args p:=by
  intro a m;rw [hfn];exact xF w v u (fun x j=>hb.same (e x j)) m
 have c:∀ (b:Nat) (a:Nat→Bool) (hd:Bool),DataW.TrodAll enc P W' b a hd f.resultTypes.toList ((Value.bool true).resultList f.resultTypes.size) (s.fn H g).results []:=by
  intro b a hd;rw [hfn,hr];exact trodAll_cons_mk (p:= []) (shut_bool htb true) trodAll_mk0
 have i:∀ a:Nat→Bool,DataW.TrodVars enc P W' a s.vars (s.fn H g).vars []:=by
  intro a;rw [hvars,hfn];rfl
 refine ⟨g,[],p,[],p,[],k,by rw [Γ];exact c _ _ _,by rw [Γ];exact hargs _ d,by rw [Γ];exact i _,World.keptBut_mono (fun x j=>j) (hb.frame _),fun _=> ?_⟩;refine ⟨ok_one hr rfl (okWide_bool_mk htb _),_,_,([]++p)++ [],⟨[]++p,[],trodAll_append (hargs _ (fun _ _=>rfl)) (c _ _ _),by simpa using i _,rfl, ?_, ?_⟩, ?_⟩
 ·intro b h hp;have l:MemPlace.cell b h ∈ p:=by simpa using hp
  rw [hb.frozen (e _ l)];exact n b h l
 ·intro y;simpa using r y
 ·intro x j _;simpa using j
end AM
