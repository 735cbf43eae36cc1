/- The abstract machine over the code of the model, and the proof that it is sound. No conditions. -/
import Derived.Test.YtdmfgmmooalfnaaGreatDoorM3
import Derived.Recover
import Derived.ProofKit
import Derived.OpenShut
import Derived.LaidLaws
import Derived.LaidSub
import Derived.Lib.LaidTab
set_option linter.unusedSimpArgs false
set_option linter.unusedVariables false
open Bool renaming and_eq_true→ο,not_eq_true'→Xqo
open Nat renaming beq→Xqq,zero_le→Xxo,lt_of_lt_of_le→Ψ,sub_zero→Xjx
open List renaming mem_of_getElem?→Xqh,flatMap_cons→Xjc,flatMap_nil→Xk5,append_nil→Θ,range→Xq6,getElem?_map→Xq3,map_cons→Xqi,flatMap_map→Xv0,range'→Yqh,getElem?_range→Xj7,mem_cons_self→Xjo,mem_cons_of_mem→Xx1,getElem?_take→Xj0,getElem?_drop→Xzf,all_cons→Xxr
open Option renaming map_eq_some_iff→Xqp,map_some→Xja
namespace AM
open Go
theorem wH {α:Type} {P:Program} {w:World} (f:α→Sem Value):∀ (l:List α) (vs:List Value),l.length=vs.length→(∀ (i:Nat) (x:α) (v:Value),l[i]? =some x→vs[i]? =some v→(f x).run P w= .ok v w)→(l.mapM f).run P w= .ok vs w
 | [],[],_,_=>rfl
 |a::l,v::vs,hl,h=>by
  rw [List.mapM_cons,Sem.run_bind,h 0 a v rfl rfl,Result.andThen_ok,Sem.run_bind,wH f l vs (by simpa using hl) fun i x u b c=>h (i+1) x u (by simpa using b) (by simpa using c),Result.andThen_ok];rfl
 | [],_::_,hl,_=>by simp at hl
 |_::_,[],hl,_=>by simp at hl
def Lr (tmps:Array Value):ResultVar→Sem Value
 | .tmp t=>pure (tmps.getD t undef)
 | .cell a t=>do loadVar t (← asAddr (tmps.getD a undef))
def V7 (vs:List Value):Value:=match vs with| [v]=>v|vs=> .tuple vs.toArray
theorem Oi (a:Func) (tmps:Array Value):results a tmps=(do let vs ← a.results.mapM (Lr tmps);pure (if h:vs.size=1 then vs[0] else .tuple vs)):=by
 unfold results;congr 2
theorem BD {P:Program} {w:World} {a:Func} {tmps:Array Value} {vs:List Value} (b:a.results.toList.length=vs.length)
  (h:∀ (i:Nat) (r:ResultVar) (v:Value),a.results.toList[i]? =some r→vs[i]? =some v→(Lr tmps r).run P w= .ok v w):
  (results a tmps).run P w= .ok (V7 vs) w:=by
 rw [Oi,Array.mapM_eq_mapM_toList];simp only [bind_map_left];rw [Sem.run_bind,wH _ _ vs b h,Result.andThen_ok]
 match vs with
 | []=>rfl
 | [v]=>rfl
 |_::_::_=>simp [V7]
theorem LH {S:aQ} {m:aV} {rd c:dw} {w:World} (h:∀ b B,rd b=some B→c b=some B):oM (dB S m rd w) (dB S m c w):=by
 intro k o v a;unfold dB at a ⊢;split at a
 ·rename_i u f;exact a
 ·rename_i f;split at a
  ·rename_i i;obtain ⟨b,B,d,g,e⟩:=i;rw [if_pos ⟨b,B,h b B d,g,e⟩];exact a
  ·cases a
def cl (rd:dw) (v:AV):List Nat:=tq rd 6 (jh (dR v))
inductive Gj (base:Nat) (rd:dw) (all:List Nat):AV→AV→Prop
 |own {b n:Nat} {B:a_}:rd b=some B→base≤b→B.fro=false→B.pr=true→fO all b=1→0<B.esz→Gj base rd all (.ref b B.ver 0 n) (.own (B.cells.take (n*B.esz)) n B.esz)
 |low {v:AV}:(∀ b ∈ dR v,b<base)→Gj base rd all v v
 |frz {v v':AV}:(∀ b ∈ cl rd v,base≤b)→frz (fun b=>match rO (cl rd v) b with|true=>rd b|false=>none) 6 v=some v'→Gj base rd all v v'
theorem Ry {base:Nat} {rd:dw} {v a:AV} (h:YZ base rd v=some a):(∀ b ∈ cl rd v,base≤b)∧frz (fun b=>match rO (cl rd v) b with|true=>rd b|false=>none) 6 v=some a:=by
 unfold YZ at h;dsimp only at h;split at h
 ·rename_i d;exact ⟨fun b c=>fU (List.all_eq_true.1 d b c),h⟩
 ·cases h
theorem GR {base:Nat} {rd:dw} {all:List Nat} {v a:AV} (h:(match (dR v).all (fun b=>Nat.blt b base) with|true=>some v|false=>YZ base rd v)=some a):Gj base rd all v a:=by
 split at h
 ·rename_i d;cases h;exact .low fun b c=>fV (List.all_eq_true.1 d b c)
 ·obtain ⟨e,f⟩:=Ry h;exact .frz e f
theorem yu {base:Nat} {rd:dw} {all:List Nat} {v c:AV} (h:rJ base rd all v=some c):Gj base rd all v c:=by
 unfold rJ at h;dsimp only at h;split at h
 ·rename_i b ver n;split at h
  ·rename_i B i;split at h
   ·rename_i d;cases h;simp only [ο,Xqo] at d;obtain ⟨⟨⟨⟨⟨f,a⟩,j⟩,k⟩,g⟩,e⟩:=d;have a:=aJ a;subst a;exact .own i (fU f) j k (aJ g) (fV e)
   ·exact GR h
  ·cases h
 ·exact GR h
theorem uU {l:List Nat} {b:Nat} (h:b ∈ l):1≤fO l b:=by
 unfold fO;have:b ∈ l.filter (Xqq b):=by rw [List.mem_filter];exact ⟨h,Nat.beq_refl b⟩
 exact List.length_pos_of_mem this
theorem rF {l a:List Nat} {b:Nat}:fO (l++a) b=fO l b+fO a b:=by simp [fO,List.filter_append]
theorem zo {α:Type} {f:α→List Nat} {b:Nat}:∀ (vs:List α) (i j:Nat) (v v':α),vs[i]? =some v→vs[j]? =some v'→i ≠ j→b ∈ f v→b ∈ f v'→2≤fO (vs.flatMap f) b
 | [],i,j,v,v',h,_,_,_,_=>by simp at h
 | a::r,i,j,v,v',hi,hj,hne,hb,hb'=>by
  have c:∀ (k:Nat) (u:α),r[k]? =some u→b ∈ f u→1≤fO (r.flatMap f) b:=by
   intro k u d e;exact uU (List.mem_flatMap.2 ⟨u,Xqh d,e⟩)
  rw [Xjc,rF];cases i with
  |zero=>
   simp at hi;subst hi;cases j with
   |zero=>exact absurd rfl hne
   |succ j=>have:=c j v' (by simpa using hj) hb';have:=uU hb;omega
  | succ i=>
   cases j with
   |zero=>simp at hj;subst hj;have:=c i v (by simpa using hi) hb;have:=uU hb';omega
   |succ j=>
    have:=zo r i j v v' (by simpa using hi) (by simpa using hj) (by omega) hb hb';omega
def kV:List AV→List AV→List (Nat × a_)
 |v::r,.own xs _ esz::q=>(match v with| .ref b _ _ _=> [(b,I9 xs esz)]|_=> [])++kV r q
 |_::r,_::q=>kV r q
 |_,_=> []
theorem jq {v x:AV} {r q:List AV} (h:∀ xs k e,x ≠ .own xs k e):kV (v::r) (x::q)=kV r q:=by
 cases x<;>first|rfl|exact absurd rfl (h _ _ _)
section
variable {P:Program} {ap:AP} {base:Nat} {rd:dw} {all:List Nat}
theorem wL {g:dw} {m:aV} {S:aQ} {x:AV} {v:Value} (h:VR g m S x v):∀ xs k e,x ≠ .own xs k e:=by
 rintro xs k e rfl;simp [VR] at h
theorem Dc {S:aQ} {x:AV} {v:Value} (h:PR S x v):∀ xs k e,x ≠ .own xs k e:=by
 rintro xs k e rfl;simp [PR] at h
end
end AM
namespace AM
open Go
theorem Ew {b:Nat}:∀ (l acc:List Nat),(b ∈ l∨b ∈ acc)→b ∈ l.foldl BK acc
 | [],acc,h=>by simpa using h
 | a::r,acc,h=>by
  simp only [List.foldl_cons];refine Ew r _ ?_;rcases h with h|h
  ·rcases List.mem_cons.1 h with rfl|h
   ·right;unfold BK;split
    ·rename_i c;exact jH.1 c
    ·simp
   ·exact .inl h
  ·right;obtain h':=h;unfold BK;split
   ·exact h
   ·simp [h]
theorem NS {l:List Nat} {b:Nat} (h:b ∈ l):b ∈ jh l:=Ew l [] (.inl h)
theorem IX (l:List Nat):(jh l).Nodup:=(oV l [] (by simp)).1
theorem VK {rd:dw} {v:AV} {b:Nat} (h:b ∈ dR v):b ∈ cl rd v:=by
 obtain ⟨_,t,a⟩:=tZ rd 6 (jh (dR v)) (IX _);unfold cl;rw [a];exact List.mem_append.2 (.inl (NS h))
theorem zX:∀ {vs l:List AV} {b:Nat} {Bo:a_},(b,Bo) ∈ kV vs l→∃ ver i n c k e,(AV.ref b ver i n,AV.own c k e) ∈ vs.zip l∧Bo=I9 c e
 | [],l,b,Bo,h=>by cases l<;>simp [kV] at h
 |v::r,[],b,Bo,h=>by simp [kV] at h
 | v ::r,x::q,b,Bo,h=>by
  rcases jv x with ⟨c,k,e,rfl⟩|hx
  ·simp only [kV,List.mem_append] at h;rcases h with h|h
   ·cases v with
    |ref b' ver i n=>
     simp at h;obtain ⟨rfl,rfl⟩:=h;exact ⟨ver,i,n,c,k,e,by simp,rfl⟩
    |_=>simp at h
   ·obtain ⟨ver,i,n,a,d,e',f,g⟩:=zX h;exact ⟨ver,i,n,a,d,e',by simp [f],g⟩
  ·rw [jq hx] at h;obtain ⟨ver,i,n,a,d,e',f,g⟩:=zX h;exact ⟨ver,i,n,a,d,e',by simp [f],g⟩
theorem EM {rd:dw} {b:Nat}:∀ (vs l:List AV),fO ((kV vs l).flatMap fun q=> [q.1]) b≤fO (vs.flatMap (cl rd)) b
 | [],l=>by cases l<;>simp [kV,fO]
 |v::r,[]=>by simp [kV,fO]
 | v :: r,x::q=>by
  have d:=EM (rd:=rd) (b:=b) r q;rw [Xjc,rF];rcases jv x with ⟨f,k,e,rfl⟩|hx
  ·simp only [kV,List.flatMap_append,rF];cases v with
   | ref b' ver i n=>
    simp only [Xjc,Xk5,Θ];have:fO [b'] b≤fO (cl rd (.ref b' ver i n)) b:=by
     by_cases hb:b=b'
     ·subst hb;have a:fO [b] b=1:=by simp [fO]
      rw [a];exact uU (VK (by simp [dR]))
     ·have a:fO [b'] b=0:=by
       have:Xqq b b'=false:=by
        cases c:Xqq b b' with
        |false=>rfl
        |true=>exact absurd (aJ c) hb
       simp [fO,this]
      omega
    omega
   |_=>simp [fO] at*;omega
  ·rw [jq hx];omega
theorem EX:∀ (vs l:List AV) (n:Nat),vs.length=l.length→(∀ v x,(v,x) ∈ vs.zip l→(∃ c k e,x= .own c k e)→∃ b ver i n,v= .ref b ver i n)→(fF n l).2=(kV vs l).map (·.2)
 | [],[],n,_,_=>by simp [fF,kV]
 | v::r,x::q,n,hl,h=>by
  have d:=fun n=>EX r q n (by simpa using hl) fun v x f a=>h v x (by simp [f]) a
  rcases jv x with ⟨c,k,e,rfl⟩|a
  ·obtain ⟨b,ver,i,g,rfl⟩:=h v _ (by simp) ⟨c,k,e,rfl⟩;simp only [fF,kV,d];simp
  ·rw [bu n a,jq a];exact d n
 | [],_::_,_,hl,_=>by simp at hl
 |_::_,[],_,hl,_=>by simp at hl
theorem I8 {rd gh w:dw} {m p:aV} {S S':aQ}:∀ (vs l:List AV) (cvs:List Value) (n:Nat),vs.length=l.length→bg rd m S vs cvs→
  (∀ v x,(v,x) ∈ vs.zip l→(∃ a k e,x= .own a k e)→∃ b ver n,v= .ref b ver 0 n∧∃ a e,x= .own a n e)→
  (∀ v x c,(v,x) ∈ vs.zip l→(∀ a k e,x ≠ .own a k e)→VR rd m S v c→VR gh p S' x c)→
  (∀ (k b:Nat) (Bo:a_),(kV vs l)[k]? =some (b,Bo)→∀ ver o c,VR rd m S (.ref b ver 0 o) c→(∃ a e,(AV.ref b ver 0 o,AV.own a o e) ∈ vs.zip l)→VR w p S' (.ref (n+k) 0 0 o) c)→jA gh w p S' n l cvs
 | [],[],[],n,_,_,_,_,_=>by simp [jA]
 | v::r,x::q,c::cs,n,hl,hv,ho,hx,hr=>by
  simp only [bg] at hv;rcases jv x with ⟨a,k,e,rfl⟩|hxo
  ·obtain ⟨b,ver,o,rfl,z,e',y⟩:=ho v _ (by simp) ⟨a,k,e,rfl⟩;cases y;simp only [jA];refine ⟨?_, ?_⟩
   ·have:=hr 0 b (I9 a e) (by simp [kV]) ver k c hv.1 ⟨a,e,by simp⟩;rwa [Nat.add_zero] at this
   ·refine I8 r q cs (n+1) (by simpa using hl) hv.2 (fun v x g=>ho v x (by simp [g])) (fun v x c g=>hx v x c (by simp [g])) ?_;intro j s Bo t d h u i f;have:=hr (j+1) s Bo (by simpa [kV] using t) d h u i (by obtain ⟨a,e,f⟩:=f;exact ⟨a,e,by simp [f]⟩);rwa [show n+(j+1)=n+1+j by omega] at this
  ·rw [bM hxo];refine ⟨hx v x c (by simp) hxo hv.1, ?_⟩;refine I8 r q cs n (by simpa using hl) hv.2 (fun v x g=>ho v x (by simp [g])) (fun v x c g=>hx v x c (by simp [g])) ?_;intro j s Bo t d h u i f;exact hr j s Bo (by rw [jq hxo];exact t) d h u i (by obtain ⟨a,e,f⟩:=f;exact ⟨a,e,by simp [f]⟩)
 | [],_::_,_,_,hl,_,_,_,_=>by simp at hl
 |_::_,[],_,_,hl,_,_,_,_=>by simp at hl
 | [],[],_::_,_,_,hv,_,_,_=>by simp [bg] at hv
 |_::_,_::_,[],_,_,hv,_,_,_=>by simp [bg] at hv
theorem KL {α β:Type} {f:α→Option β}:∀ {l:List α} {l':List β},kz f l=some l'→∀ x y,(x,y) ∈ l.zip l'→f x=some y
 | [],l',h,x,y,hm=>by simp at hm
 | a::r,l',h,x,y,hm=>by
  simp only [kz] at h;split at h
  ·rename_i b c;split at h
   ·rename_i q d;cases h;simp only [List.zip_cons_cons,List.mem_cons,Prod.mk.injEq] at hm;rcases hm with ⟨rfl,rfl⟩|hm
    ·exact c
    ·exact KL d x y hm
   ·cases h
  ·cases h
theorem QM {α β:Type} {l:List α} {b:List β} {x:α} {y:β} (h:(x,y) ∈ l.zip b):∃ i:Nat,l[i]? =some x∧b[i]? =some y:=by
 obtain ⟨i,a⟩:=List.mem_iff_getElem?.1 h;rw [List.getElem?_zip_eq_some] at a;exact ⟨i,a⟩
theorem XO {g:dw} {m:aV} {S:aQ} {l:List AV} {vs:List Value} (h:bg g m S l vs) {x:AV} (c:x ∈ l):∃ v,VR g m S x v:=by
 obtain ⟨i,b⟩:=List.mem_iff_getElem?.1 c;obtain ⟨v,_,a⟩:=ry h i b;exact ⟨v,a⟩
end AM
namespace AM
open Go
section
variable {P:Program} {ap:AP}
theorem wW {h0 G:List a_} {hp:Hp} {m m0:aV} {S S0:aQ} {w w0:World} {vs l:List AV} {cvs:List Value} (V:bP ap (az hp) m S w) (A:Fr (bF h0) m0 S0 w0 (az hp) m S w) (hv:bg (az hp) m S vs cvs)
  {N:Nat} (hN:h0.length≤N) (hl:kz (rJ N (az hp) (vs.flatMap (cl (az hp)))) vs=some l) (hh':kz (az hp) (Xq6 N)=some G) (hbase:G.all (fun B=>B.pr||(bK B.cells).all fun b=>Nat.blt b N)=true):
  ∃ m' S',bP ap (bF (G++(fF G.length l).2)) m' S' w∧Fr (bF h0) m0 S0 w0 (bF (G++(fF G.length l).2)) m' S' w∧jA (bF G) (bF (G++(fF G.length l).2)) m' S' G.length l cvs:=by
 have Y:=(jf hl).1;have hz:∀ v x,(v,x) ∈ vs.zip l→Gj N (az hp) (vs.flatMap (cl (az hp))) v x:=fun v x E=>yu (KL hl v x E)
 have M:∀ v x,(v,x) ∈ vs.zip l→(∃ O k e,x= .own O k e)→∃ (b n:Nat) (B:a_),v= .ref b B.ver 0 n∧az hp b=some B∧N≤b∧B.fro=false∧B.pr=true∧fO (vs.flatMap (cl (az hp))) b=1∧0<B.esz∧x= .own (B.cells.take (n*B.esz)) n B.esz:=by
  rintro v x E ⟨O,k,e,rfl⟩
  obtain ⟨c,U⟩:=XO hv (List.of_mem_zip E).1;generalize hxe:AV.own O k e=x at E;cases hz v x E with
  |own a d p t z Q=>exact ⟨_,_,_,rfl,a,d,p,t,z,Q,rfl⟩
  |low a=>exact absurd hxe.symm (wL U _ _ _)
  |frz a d=>
   refine absurd hxe.symm (Dc (lG V (fun b B g=> ?_) 6 v c x d U) _ _ _);split at g
   ·exact g
   ·cases g
 generalize K:kV vs l=obs;have hbs:∀ n,(fF n l).2=obs.map (·.2):=by
  intro n;rw [← K];refine EX vs l n Y.symm fun v x E Z=> ?_
  obtain ⟨b,n',B,a,_⟩:=M v x E Z;exact ⟨b,_,0,n',a⟩
 rw [hbs];have C:∀ b Bo,(b,Bo) ∈ obs→∃ (n:Nat) (B:a_),az hp b=some B∧N≤b∧B.fro=false∧B.pr=true∧fO (vs.flatMap (cl (az hp))) b=1∧0<B.esz∧Bo=I9 (B.cells.take (n*B.esz)) B.esz∧(AV.ref b B.ver 0 n,AV.own (B.cells.take (n*B.esz)) n B.esz) ∈ vs.zip l:=by
  intro b Bo E;rw [← K] at E;obtain ⟨ver,i,n,O,k,e,a,d⟩:=zX E;obtain ⟨b',n',B,p,t,z,Q,W,T,X,D⟩:=M _ _ a ⟨O,k,e,rfl⟩;cases p;cases D;exact ⟨_,B,t,z,Q,W,T,X,d,a⟩
 have hobd:∀ (k k' b:Nat) (Bo Bo':a_),obs[k]? =some (b,Bo)→obs[k']? =some (b,Bo')→k=k':=by
  intro k k' b Bo Bo' a d;obtain ⟨n,B,_,_,_,_,z,_⟩:=C b Bo (Xqh a);by_cases s:k=k'
  ·exact s
  ·have p:=zo (f:=fun q:Nat × a_=> [q.1]) obs k k' _ _ a d s (b:=b) (by simp) (by simp);have t:=EM (rd:=az hp) (b:=b) vs l;rw [K] at t;omega
 have hobx:∀ b Bo,(b,Bo) ∈ obs→∀ v x,(v,x) ∈ vs.zip l→(∀ O k e,x ≠ .own O k e)→b ∉ cl (az hp) v:=by
  intro b Bo E v x hvx Z g;obtain ⟨n,B,_,_,_,_,z,_,_,Q⟩:=C b Bo E;obtain ⟨i,W,T⟩:=QM Q;obtain ⟨j,X,D⟩:=QM hvx;have hne:i ≠ j:=by
   rintro rfl
   rw [T] at D;cases D;exact Z _ _ _ rfl
  have:=zo (f:=cl (az hp)) vs i j _ _ W X hne (b:=b) (VK (by simp [dR])) g;omega
 have hl0:G.length=N:=by rw [(jf hh').1];simp
 have J:∀ b,b<N→∃ B,az hp b=some B∧bF G b=some B:=by
  intro b g;obtain ⟨B,a,d⟩:=(jf hh').2 b b (by simp [g]);exact ⟨B,d,a⟩
 have hlow':∀ b B,bF G b=some B→b<N∧az hp b=some B:=by
  intro b B g;have F:b<N:=by
   have:=(List.getElem?_eq_some_iff.1 g).1;omega
  obtain ⟨B',a,d⟩:=J b F;rw [g] at d;cases d;exact ⟨F,a⟩
 let rdF:dw:=open Classical in fun b=>if ∃ v x,(v,x) ∈ vs.zip l∧(∀ O k e,x ≠ .own O k e)∧b ∈ cl (az hp) v∧∀ y ∈ cl (az hp) v,N≤y then az hp b else none
 have R:∀ b B,rdF b=some B→az hp b=some B∧N≤b∧∀ Bo,(b,Bo) ∉ obs:=by
  intro b B g;dsimp only [rdF] at g;split at g
  ·rename_i U;obtain ⟨v,x,a,d,p,t⟩:=U;exact ⟨g,t b p,fun Bo E=>hobx b Bo E v x a d p⟩
  ·cases g
 have r:=nJ S m rdF w
 let m':aV:=fun i=>if i<N then m i else m ((obs.map (·.1)).getD (i - N) 0)
 have hm'lo:∀ i,i<N→m' i=m i:=fun i I=>if_pos I
 have hm'hi:∀ (k b:Nat) (Bo:a_),obs[k]? =some (b,Bo)→m' (N+k)=m b:=by
  intro k b Bo s;show (if _ then _ else _)=_;rw [if_neg (by omega),show N+k - N=k by omega,List.getD_eq_getElem?_getD,Xq3,s];rfl
 have hgf:∀ i Bi,bF (G++obs.map (·.2)) i=some Bi→(i<N∧az hp i=some Bi∧bF G i=some Bi)∨(∃ k b,i=N+k∧obs[k]? =some (b,Bi)):=by
  intro i Bi I;by_cases F:i<N
  ·rw [eU (by omega)] at I;exact .inl ⟨F,(hlow' i Bi I).2,I⟩
  ·rw [je (by omega),hl0] at I;right;refine ⟨i - N, ?_⟩;have hi':(obs.map (·.2))[i - N]? =some Bi:=I;rw [Xq3,Xqp] at hi';obtain ⟨⟨b,Bo⟩,a,d⟩:=hi';exact ⟨b,by omega,by rw [a];simp at d;rw [d]⟩
 have hgfk:∀ (k b:Nat) (Bo:a_),obs[k]? =some (b,Bo)→bF (G++obs.map (·.2)) (N+k)=some Bo:=by
  intro k b Bo s;rw [je (by omega),hl0,show N+k - N=k by omega];show (obs.map (·.2))[k]? =_;rw [Xq3,s];rfl
 have L:∀ i Bi,bF (G++obs.map (·.2)) i=some Bi→∃ b B,az hp b=some B∧m' i=m b∧((i<N∧b=i∧Bi=B)∨(N≤b∧∃ k,i=N+k∧obs[k]? =some (b,Bi))):=by
  intro i Bi I;rcases hgf i Bi I with ⟨a,d,p⟩|⟨k,b,rfl,s⟩
  ·exact ⟨i,Bi,d,hm'lo i a,.inl ⟨a,rfl,rfl⟩⟩
  ·obtain ⟨n,B,a,d,_⟩:=C b Bi (Xqh s);exact ⟨b,B,a,hm'hi k b Bi s,.inr ⟨d,k,rfl,s⟩⟩
 refine ⟨m',dB S m rdF w, ?_, ?_, ?_⟩
 ·refine ⟨?_, ?_,fun k o v h=>pU V h, ?_, ?_⟩
  ·intro i j Bi Bj I hj e;obtain ⟨b,B,a,d,p⟩:=L i Bi I;obtain ⟨b',B',h1',h2',h3'⟩:=L j Bj hj;rw [d,h2'] at e;have:=V.inj b b' B B' a h1' e;subst this;rcases p with ⟨t,rfl,_⟩|⟨t,k,rfl,s⟩<;>rcases h3' with ⟨h4',rfl,_⟩|⟨h4',k',rfl,hk'⟩
   ·rfl
   ·omega
   ·omega
   ·rw [hobd k k' b _ _ s hk']
  ·intro i Bi I;rcases hgf i Bi I with ⟨a,d,p⟩|⟨k,b,rfl,s⟩
   ·rw [hm'lo i a];obtain ⟨⟨cur,e,us,rest,k1,k2,k3,k4,k5,k6⟩,k7,k8⟩:=V.blk i Bi d;refine ⟨⟨cur,e,us,rest,k1,k2,fun hp=>cO r _ (k3 hp), ?_,k5,k6⟩,k7,k8⟩;cases hpr:Bi.pr with
    |true=>exact bT _ (cO r _ (k3 hpr))
    |false=>
     refine nH r _ (fun b g=> ?_) k4;have z:=List.all_eq_true.1 hbase Bi (Xqh p);rw [hpr] at z;simp only [Bool.false_or] at z;have Q:=fV (List.all_eq_true.1 z b g);obtain ⟨B,W,T⟩:=J b Q;exact ⟨by rw [eU (by omega),T,W],hm'lo b Q⟩
   ·obtain ⟨n,B,a,d,p,t,z,Q,rfl,_⟩:=C b Bi (Xqh s);rw [hm'hi k b _ s];obtain ⟨⟨cur,e,us,rest,k1,k2,k3,k4,k5,k6⟩,k7,k8⟩:=V.blk b B a;have hp:=cO r _ (kE (n*B.esz) (k3 t));refine ⟨⟨cur,e,us.take (n*B.esz),us.drop (n*B.esz)++rest,k1, ?_,fun _=>hp,bT _ hp,fun hz u hu=>k5 hz u (List.mem_of_mem_take hu),k6⟩,fun _=>rfl,Xxo _⟩;rw [← List.append_assoc,List.take_append_drop];exact k2
  ·intro i Bi I o v ho;obtain ⟨b,B,a,d,p⟩:=L i Bi I;rw [d] at ho;have hno:rdF b=none:=by
    cases hr:rdF b with
    |none=>rfl
    |some B'=>
     obtain ⟨_,t,z⟩:=R b B' hr;rcases p with ⟨Q,rfl,_⟩|⟨_,k,_,s⟩
     ·omega
     ·exact absurd (Xqh s) (z _)
   have hSo:S (m b).1 o=some v:=by
    rcases fG ho with h|⟨_,b',B',t,z,_⟩
    ·exact h
    ·have:=V.inj b' b B' B (R b' B' t).1 a z;subst this;rw [hno] at t;cases t
   obtain ⟨W,T⟩:=V.own b B a o v hSo;rcases p with ⟨_,rfl,rfl⟩|⟨_,k,_,s⟩
   ·exact ⟨W,T⟩
   ·obtain ⟨n,B2,X,_,D,_⟩:=C b _ (Xqh s);rw [a] at X;cases X;rw [W] at D;cases D
  ·intro k O s;obtain ⟨us,a,d⟩:=V.glob k O s;exact ⟨us,cO r _ a,d.mono r⟩
 ·refine ⟨?_,A.sle.trans r,A.os,A.tape,A.output,A.size,A.rest, ?_, ?_⟩
  ·intro b B0 g;have F:b<N:=Ψ (List.getElem?_eq_some_iff.1 g).1 hN;obtain ⟨B,a,d,p⟩:=A.ge b B0 g;obtain ⟨B',t,z⟩:=J b F;rw [a] at t;cases t;exact ⟨B,by rw [eU (by omega)];exact z,d,by rw [hm'lo b F];exact p⟩
  ·intro i Bi I;obtain ⟨b,B,a,d,p⟩:=L i Bi I;rw [d];rcases A.img b B a with h|⟨B0,t,z⟩
   ·exact .inl h
   ·have F:b<N:=Ψ (List.getElem?_eq_some_iff.1 t).1 hN;rcases p with ⟨_,rfl,_⟩|⟨Q,_⟩
    ·exact .inr ⟨B0,t,z⟩
    ·omega
  ·intro k o v hv;rcases fG hv with h|⟨_,b,B,a,d,_⟩
   ·exact A.sealN k o v h
   ·obtain ⟨p,t,_⟩:=R b B a;rcases A.img b B p with h|⟨B0,z,_⟩
    ·exact .inr (.inl (d ▸ h))
    ·have:=(List.getElem?_eq_some_iff.1 z).1;omega
 ·rw [hl0];refine I8 (rd:=az hp) (m:=m) (S:=S) vs l cvs N Y.symm hv ?_ ?_ ?_
  ·intro v x E Z;obtain ⟨b,n,B,a,_,_,_,_,_,_,d⟩:=M v x E Z;exact ⟨b,B.ver,n,a,_,_,d⟩
  ·intro v x c E Z U;cases hz v x E with
   |own _ _ _ _ _ _=>exact absurd rfl (Z _ _ _)
   |low a=>
    refine xG r v (fun b g=> ?_) U;obtain ⟨B,d,p⟩:=J b (a b g);exact ⟨by rw [p,d],hm'lo b (a b g)⟩
   | frz a d=>
    have p:=lG V (fun b B g=>by split at g;exact g;cases g) 6 v c x d U;refine iw x (cZ (LH fun b B g=> ?_) x p);split at g
    ·rename_i hm2;dsimp only [rdF];rw [if_pos ⟨v,x,E,Z,jH.1 hm2,a⟩];exact g
    ·cases g
  ·rw [K];intro k b Bo s ver n' c U hzz;obtain ⟨n,B,a,d,p,t,z,Q,rfl,W⟩:=C b Bo (Xqh s);obtain ⟨O,e,hzz⟩:=hzz;have hver:ver=B.ver:=by
    obtain ⟨b2,n2,B2,e1,e2,_⟩:=M _ _ hzz ⟨O,_,e,rfl⟩;cases e1;rw [a] at e2;cases e2;rfl
   subst hver;simp only [VR] at U ⊢;obtain ⟨B',T,_,X,D⟩:=U;rw [a] at T;cases T;refine ⟨_,hgfk k b _ s,Xxo _,X,fun _=> ?_⟩;rw [hm'hi k b _ s];exact D rfl
end
end AM
namespace AM
open Go
section
variable {P:Program} {ap:AP}
theorem F_ (n:iU P ap) {env:iY} {hp:Hp} {m:aV} {S:aQ} {w:World} {tmps:Array Value} (F:bP ap (az hp) m S w) (u:∀ t,VR (az hp) m S (env.get t) (tmps.getD t undef)) {r:ResultVar} {v:AV} {bs:List Bool}
  (h:yG ap env hp r=some (v,bs)) (hbs:∀ b ∈ bs,b=true):∃ cv,(Lr tmps r).run P w= .ok cv w∧VR (az hp) m S v cv:=by
 cases r with
 |tmp t=>
  simp only [yG,Option.some.injEq,Prod.mk.injEq] at h;obtain ⟨rfl,rfl⟩:=h;exact ⟨_,rfl,u t⟩
 | cell a t=>
  simp only [yG] at h;have D:=bind_some h;clear h;obtain ⟨I,p,h⟩:=D;simp only [Xqp] at h;obtain ⟨⟨K,ups,C⟩,j,q⟩:=h;simp only [Prod.mk.injEq] at q;obtain ⟨rfl,rfl⟩:=q;obtain ⟨i,d,z,G⟩:=dM n p;have c:=u a;obtain ⟨_,cv,s,E⟩:=A_ F (fun b B A=>A) G c j hbs;refine ⟨cv, ?_,E⟩;have g:∃ x,tmps.getD a undef= .pointer (some x):=by
   unfold KI at j;split at j
   ·rename_i J l f;rw [f] at c;simp only [VR,PR] at c;obtain ⟨b,o,vs,e,_⟩:=c;exact ⟨_,e⟩
   ·rename_i b ver l f;rw [f] at c;simp only [VR] at c;obtain ⟨B,_,_,⟨k,o,e⟩,_⟩:=c;exact ⟨_,e⟩
   ·cases j
  obtain ⟨x,y⟩:=g;rw [y] at s;simp only [Lr,y];exact s
theorem qi (a:iU P ap) {env:iY} {hp:Hp} {m:aV} {S:aQ} {w:World} {tmps:Array Value} (f:bP ap (az hp) m S w) (g:∀ t,VR (az hp) m S (env.get t) (tmps.getD t undef)):
  ∀ {rs:List ResultVar} {vs:List (AV × List Bool)},kz (yG ap env hp) rs=some vs→(∀ b ∈ vs.flatMap (·.2),b=true)→∃ cvs:List Value,rs.length=cvs.length∧bg (az hp) m S (vs.map (·.1)) cvs∧∀ (i:Nat) (r:ResultVar) (v:Value),rs[i]? =some r→cvs[i]? =some v→(Lr tmps r).run P w= .ok v w
 | [],vs,h,_=>by
  simp [kz] at h;subst h;exact ⟨[],rfl,by simp [bg],fun i r v h=>by simp at h⟩
 | r::rs,vs,h,hbs=>by
  simp only [kz] at h;split at h
  ·rename_i q s;split at h
   ·rename_i l k;cases h;obtain ⟨v,bs⟩:=q;obtain ⟨cv,n,p⟩:=F_ a f g s (fun b d=>hbs b (by simp [d]));obtain ⟨cvs,x,y,o⟩:=qi a f g k (fun b d=>hbs b (by rw [Xjc];exact List.mem_append.2 (.inr d)));refine ⟨cv::cvs,by simp [x],by simp only [Xqi,bg];exact ⟨p,y⟩, ?_⟩;intro i j u e c;cases i with
    |zero=>simp at e c;subst e;subst c;exact n
    |succ i=>exact o i j u (by simpa using e) (by simpa using c)
   ·cases h
  ·cases h
theorem TV {gh c:dw} {m:aV} {S:aQ} {n:Nat} {x:AV} {v:Value} (h:jA gh c m S n [x] [v]):BJ gh c m S n x v∧(lI n x).2=(fF n [x]).2:=by
 rcases jv x with ⟨j,k,e,rfl⟩|hx
 ·simp only [jA] at h;exact ⟨h.1,rfl⟩
 ·rw [bM hx] at h;rcases Au x with ⟨l,rfl⟩|ht
  ·have g:=h.1;simp only [VR] at g;obtain ⟨vs,rfl,i⟩:=g;have key:∀ (l:List AV) (vs:List Value) (n:Nat),bg gh m S l vs→jA gh c m S n l vs∧(fF n l).2= []:=by
    intro l
    induction l with
    |nil=>intro vs n a;cases vs with
     |nil=>exact ⟨by simp [jA],rfl⟩
     |cons _ _=>simp [bg] at a
    | cons y r ih=>intro vs n a;cases vs with
     |nil=>simp [bg] at a
     |cons u us=>
      simp only [bg] at a;have b:=wL a.1;obtain ⟨d,f⟩:=ih us n a.2;rw [bM b,bu n b];exact ⟨⟨a.1,d⟩,f⟩
   obtain ⟨d,f⟩:=key l vs n i;refine ⟨?_, ?_⟩
   ·simp only [BJ];exact ⟨vs,rfl,d⟩
   ·simp only [lI,fF];exact f
  ·rw [lu hx ht,jk n hx ht,bu n hx];exact ⟨h.1,rfl⟩
theorem vO (rd:dw) (n:Nat):n≤Tv rd n:=by
 obtain ⟨_,t,a⟩:=tZ rd 20 (Xq6 n) List.nodup_range;unfold Tv;rw [a,List.length_append,List.length_range];exact Nat.le_add_right _ _
theorem lS (n:iU P ap) {k x:List a_} {G:Func} {env:iY} {hp:Hp} {m m0:aV} {S S0:aQ} {w w0:World} {tmps:Array Value} {c I:Cx} {out:kD} (h:vJ ap k.length G env hp c= .ok (out,x) I) (J:I.Ok):
  c.Ok∧k.length≤x.length∧(bP ap (az hp) m S w→Fr (bF k) m0 S0 w0 (az hp) m S w→(∀ t,VR (az hp) m S (env.get t) (tmps.getD t undef))→
   ∃ cv,(results G tmps).run P w= .ok cv w∧∃ p S',FU ap k m0 S0 w0 out x p S' w (.returned cv)):=by
 unfold vJ at h;dsimp only at h;split at h
 ·rename_i vs L s b;split at h
  ·cases h
  ·rename_i hbase;obtain ⟨_,M,F,h⟩:=R.bind_ok h;split at h
   ·rename_i v d;cases h;obtain ⟨i,e⟩:=Ik F J;have hlen':k.length≤x.length:=by rw [(jf b).1];simpa using vO _ _
    refine ⟨i,hlen',fun u j C=> ?_⟩;obtain ⟨cvs,D,o,B⟩:=qi n u C s e;have a:(vs.flatMap fun q=>tq (az hp) 6 (jh (dR q.1)))=(vs.map (·.1)).flatMap (cl (az hp)):=by rw [Xv0];rfl
    rw [a] at d;obtain ⟨p,S',z,y,E⟩:=wW u j o (vO _ _) d b hbase;have A:cvs.length=1:=by
     have:=bQ o;have g:=(jf d).1;simp at g this;omega
    match cvs,A with
    | [cv],_=>
     obtain ⟨g,K⟩:=TV E;refine ⟨cv,BD D B,p,S', ?_⟩;rw [← K] at z y;refine ⟨z,y,cv,rfl, ?_⟩;rw [K];exact g
   ·rename_i l f d;cases h;obtain ⟨i,e⟩:=Ik F J;have hlen':k.length≤x.length:=by rw [(jf b).1];simpa using vO _ _
    refine ⟨i,hlen',fun u j C=> ?_⟩;obtain ⟨cvs,D,o,B⟩:=qi n u C s e;have a:(vs.flatMap fun q=>tq (az hp) 6 (jh (dR q.1)))=(vs.map (·.1)).flatMap (cl (az hp)):=by rw [Xv0];rfl
    rw [a] at d;obtain ⟨p,S',z,y,E⟩:=wW u j o (vO _ _) d b hbase;have r:V7 cvs= .tuple cvs.toArray:=by
     match cvs with
     | []=>rfl
     | [cv]=>
      exfalso;have:=bQ o;have g:=(jf d).1;simp at g this
      match l,f with
      | [],_=>simp at g;omega
      | [v],f=>exact f v rfl
      |_::_::_,_=>simp at g;omega
     |_::_::_=>rfl
    refine ⟨_,BD D B,p,S',z,y, ?_⟩;rw [r];exact ⟨_,rfl,cvs,rfl,E⟩
   ·cases h
 ·cases h
theorem yE {a i:List a_} {v:AV} {hp:Hp} {m m0:aV} {S S0:aQ} {w w0:World} {c y:Cx} {out:kD} (h:Ja a.length v hp c= .ok (out,i) y):
  c=y∧a.length≤i.length∧(bP ap (az hp) m S w→Fr (bF a) m0 S0 w0 (az hp) m S w→∀ cv,VR (az hp) m S v cv→(∀ b ver n,v ≠ .ref b ver 0 n)→
   ∃ s S',FU ap a m0 S0 w0 out i s S' w (.panicked [{v:=cv,recovered:=false}])):=by
 unfold Ja at h;dsimp only at h;split at h
 ·rename_i t z g d;split at h
  ·cases h
  ·rename_i hbase;cases h;have hlen':a.length≤i.length:=by rw [(jf d).1];simpa using vO _ _
   refine ⟨rfl,hlen',fun x o cv j p=> ?_⟩;have A:kz (rJ (Tv (az hp) a.length) (az hp) ([v].flatMap (cl (az hp)))) [v]=some [t]:=by
    simp only [Xjc,Xk5,Θ,kz];have C:rJ (Tv (az hp) a.length) (az hp) (cl (az hp) v) v=some t:=g;rw [C]
   obtain ⟨s,S',u,r,q⟩:=wW x o (vs:= [v]) (cvs:= [cv]) (by simp only [bg];exact ⟨j,trivial⟩) (vO _ _) A d hbase;have f:∀ xs k e,t ≠ .own xs k e:=by
    rintro xs k e rfl
    cases yu g with
    |own h1 h2 h3 u r q=>exact p _ _ _ rfl
    |low h1=>exact wL j _ _ _ rfl
    |frz h1 h2=>
     exact Dc (lG x (fun b B l=>by split at l;exact l;cases l) 6 v cv _ h2 j) _ _ _ rfl
   rw [bM f] at q;rw [bu _ f] at u r;exact ⟨s,S',u,r,cv,rfl,q.1⟩
 ·cases h
end
end AM
namespace AM
open Go
def sN (S:aQ):AV→FrameMode→Prop
 | .nilI,u=>u= .returning
 | .ifc t v,u=> ∃ cv,u= .panicking [{v:=cv,recovered:=false}]∧PR S (.ifc t v) cv
 |_,_=>False
def MI (md md':AV) (u u':FrameMode):Prop:=(md'=md∧u'=u)∨(md'= .nilI∧settle u'= .returning)
structure XK (P:Program) (ap:AP) (f:Nat) (args:List AV) (h:List a_) (out:kD) (h':List a_) (md md':AV):Prop where
 ent:CY P f
 calls:∀ m S w cargs u,bP ap (bF h) m S w→bg (bF h) m S args cargs→sN S md u→CallsD P f cargs.toArray u w fun e u' w'=>(∃ m' S',FU ap h m S w out h' m' S' w' e)∧MI md md' u u'
def uP (P:Program) (ap:AP) (H:b_):Prop:=∀ c md f args h out h' md' c',md ≠ .dead→H c md f args h= .ok (out,h',md') c'→c'.Ok→c.Ok∧XK P ap f args h out h' md md'
structure JB (P:Program) (ap:AP):Prop where
 fn:∀ (f:Nat) (F:AF),ap.fnAt f=some F→P.funcs[f]? =some F.fn
 body:∀ (f:Nat) (F:AF),ap.fnAt f=some F→∃ c,F.fn.body=some c∧dE F.fn.ntmps c=true
 name:∀ (f:Nat) (F:AF),ap.fnAt f=some F→(F.fn.name== "runtime.NumGoroutine")=false
section
variable {P:Program} {ap:AP} {H:b_}
theorem y_ (a:JB P ap) {f:Nat} {F:AF} (b:ap.fnAt f=some F):CY P f:=by
 intro args w;obtain ⟨c,d,_⟩:=a.body f F b;unfold callFunc;rw [Sem.run_bind];have:(program).run P w= .ok P w:=rfl;rw [this,Result.andThen_ok,a.fn f F b];dsimp only;rw [a.name f F b];simp [d]
theorem LJ {S:aQ} {md:AV} {u:FrameMode} (h:sN S md u):settle u=u∧u ≠ .run:=by
 cases md<;>simp only [sN] at h
 ·obtain ⟨cv,rfl,_⟩:=h;exact ⟨rfl,by simp⟩
 ·subst h;exact ⟨rfl,by simp⟩
theorem ut (C:iU P ap) (U:uP P ap H):
  ∀ (dfs:List (Nat × List AV)) (mode mode':AV) (hp hp':Hp) (c c':Cx),Ec ap H dfs mode hp c= .ok (mode',hp') c'→c'.Ok→c.Ok∧
   ∀ (z:List a_) (y:Func) (tmps:Array Value) (env:iY) (RR:Ending→World→Prop) (m0:aV) (S0:aQ) (w0:World) m S w k u,bP ap (az hp) m S w→Fr (bF z) m0 S0 w0 (az hp) m S w→(∀ t,VR (az hp) m S (env.get t) (tmps.getD t undef))→gX (az hp) m S dfs k→sN S mode u→
   (∀ m' S' w' n,bP ap (az hp') m' S' w'→Fr (bF z) m0 S0 w0 (az hp') m' S' w'→(∀ t,VR (az hp') m' S' (env.get t) (tmps.getD t undef))→sN S' mode' n→Leaves P y tmps RR [] n w')→Leaves P y tmps RR k u w
 | [],mode,mode',hp,hp',c,c',h,hc=>by
  cases h;refine ⟨hc,fun z y tmps env RR m0 S0 w0 m S w k u I o F hd g M=> ?_⟩;cases k with
  |nil=>exact M m S w u I o F g
  |cons _ _=>simp [gX] at hd
 | (f, args)::r,mode,mode',hp,hp',c,c',h,hc=>by
  simp only [Ec] at h;split at h
  ·cases h
  ·rename_i hrefs;simp only [ο] at hrefs;have L:mode ≠ .dead:=by rintro rfl;cases hrefs.1
   obtain ⟨q,c1,e1,h⟩:=R.bind_ok h;split at h
   ·rename_i v s;obtain ⟨A,ih⟩:=ut C U r q.md mode' (q.ups++hp) hp' c1 c' h hc;obtain ⟨args0,hh0,Q,O,e2,W,hg⟩:=xO e1;obtain ⟨K,T⟩:=U _ _ _ _ _ _ _ _ _ L e2 A;refine ⟨K,fun z y tmps env RR m0 S0 w0 m S w k u I o F hd g M=> ?_⟩;cases k with
    |nil=>simp [gX] at hd
    | cons d k=>
     simp only [gX] at hd;obtain ⟨⟨l,V,Y⟩,h3⟩:=hd;have hfresh:∀ i,i<4→az hp (kU hp+i)=none:=by
      intro i _;cases X:az hp (kU hp+i) with
      |none=>rfl
      |some B=>have:=vz X;omega
     have hcall:=hg (az hp) m S w (d.args++l).toList (fun cargs R=>CallsD P f cargs.toArray u w fun e n w'=>R e w'∧MI mode q.md u n)
      (fun cargs R R' p a=>CallsD.mono p fun e n w' j=> ⟨a e w' j.1,j.2⟩) I (fun b _ B hB=>hB) hfresh Y
      (fun m1 S1 E p a=>T.calls m1 S1 w _ u p a (by
       cases mode<;>simp only [sN] at g ⊢
       ·obtain ⟨cv,J,j⟩:=g;exact ⟨cv,J,cZ E _ j⟩
       ·exact g))
     obtain ⟨x,G⟩:=LJ g;refine ⟨G,.func f,l,f,d.args++l,V, ?_, ?_⟩
     ·rw [V];exact T.ent _ w
     ·rw [Array.toArray_toList] at hcall;refine CallsD.mono hcall ?_
      rintro e n w' ⟨⟨m',S',p,a,j⟩,h7⟩
      rw [s] at j;obtain ⟨cv,rfl,j⟩:=j;rw [kw] at p a j;refine ih z y tmps env RR m0 S0 w0 m' S' w' k (settle n) p (o.trans a) (fun t=>oU a.sle a.ge _ (F t)) (uO a.sle a.ge h3) ?_ M;rcases h7 with ⟨N,rfl⟩|⟨N,Z⟩
      ·rw [x,N];cases mode<;>simp only [sN] at g ⊢
       ·obtain ⟨cv,J,D⟩:=g;exact ⟨cv,J,cZ a.sle _ D⟩
       ·exact g
      ·rw [N,Z];rfl
   ·cases h
theorem dX {n f:Nat} (h:n≤f):∀ (c:Code),dE n c=true→dE f c=true
 | .region _ ops _,hd=>by
  simp only [dE,List.all_eq_true] at hd ⊢;intro o g;have:=hd o g;unfold O_ at this ⊢;split
  ·rename_i d e;rw [e] at this;exact Nat.ble_eq_true_of_le (Nat.le_trans (fU this) h)
  ·rfl
 | .seq a b,hd=>by simp only [dE,ο] at hd ⊢;exact ⟨dX h a hd.1,dX h b hd.2⟩
 | .cond _ a b,hd=>by simp only [dE,ο] at hd ⊢;exact ⟨dX h a hd.1,dX h b hd.2⟩
 | .block _ b,hd=>by simp only [dE] at hd ⊢;exact dX h b hd
 | .loop b,hd=>by simp only [dE] at hd ⊢;exact dX h b hd
 | .scope b,hd=>by simp only [dE] at hd ⊢;exact dX h b hd
 | .skip,_=>rfl
 | .label _,_=>rfl
 | .exit _,_=>rfl
 | .ret,_=>rfl
 | .rangeFunc _ _ _ _,_=>rfl
 | .goto _,_=>rfl
 | .refuse _,_=>rfl
theorem zJ {α:Type}:∀ (l:List α) (j t:Nat),az ((l.zipIdx j).map fun (x,i)=>(i,x)) t=if j≤t then l[t - j]? else none
 | [],j,t=>by simp [az]
 | a::r,j,t=>by
  rw [List.zipIdx_cons,Xqi];simp only [az];cases h:Xqq j t with
  |true=>have:=aJ h;subst this;simp
  | false=>
   have b:j ≠ t:=by intro e;subst e;simp at h
   simp only [zJ r (j+1) t];by_cases hj:j+1≤t
   ·rw [if_pos hj,if_pos (by omega)];obtain ⟨d,hd⟩:∃ d,t - j=d+1:=⟨t - j - 1,by omega⟩
    rw [hd,List.getElem?_cons_succ,show t - (j+1)=d by omega]
   ·rw [if_neg hj,if_neg (by omega)]
theorem II {h:List a_} {args:List AV} {cargs:List Value} {m:aV} {S:aQ} {w:World} {md:AV} (i:bP ap (bF h) m S w) (e:bg (bF h) m S args cargs) (n:Nat):
  az (nX md args h).hp=bF h∧FR ap (nX md args h).env (nX md args h).hp [] (cargs.toArray++Array.replicate (n - cargs.toArray.size) undef).size m S w {tmps:=cargs.toArray++Array.replicate (n - cargs.toArray.size) undef,defers:= []}:=by
 have c:az (nX md args h).hp=bF h:=by
  funext b;have:=zJ h 0 b;simp only [nX,bF];rw [this,if_pos (Xxo _),Xjx]
 refine ⟨c,⟨c ▸ i, ?_,by simp [gX],rfl⟩⟩;intro t;rw [c];have g:(nX md args h).env.get t=(args[t]?).getD .dead:=by
  have:=zJ args 0 t;simp only [nX,iY.get];rw [this,if_pos (Xxo _),Xjx]
 rw [g];cases f:args[t]? with
 |none=>simp [VR]
 | some x=>
  obtain ⟨v,d,j⟩:=ry e t f;have a:=(List.getElem?_eq_some_iff.1 d).1;have:(cargs.toArray++Array.replicate (n - cargs.toArray.size) undef).getD t undef=v:=by
   rw [Array.getD_eq_getD_getElem?,Array.getElem?_append_left (by simpa using a)];simp [d]
  rw [this];exact j
theorem yg (k:iU P ap) (O:uP P ap H) {g A:List a_} {z:Func} {e:bD} {s:St} {c M:Cx} {out:kD} {F:AV} (h:Ce ap H g.length z e s c= .ok (out,A,F) M) (N:M.Ok):
  c.Ok∧g.length≤A.length∧∀ m0 S0 w0 m S w a nt,Fr (bF g) m0 S0 w0 (az s.hp) m S w→FR ap s.env s.hp s.dfs nt m S w a→TS s.hp m S (bodyPostD P z fun e w'=> ∃ q S',FU ap g m0 S0 w0 out A q S' w' e) a w e:=by
 have x:∀ mode,((Ec ap H s.dfs mode s.hp c).bind fun (mode,hp) c=>
   match mode with
   | .nilI=>(vJ ap g.length z s.env hp c).bind fun (o,h) c=> .ok (o,h,s.md) c
   | .ifc t v=>(Ja g.length (.ifc t v) hp c).bind fun (o,h) c=> .ok (o,h,s.md) c
   |_=> .bad 74)= .ok (out,A,F) M→c.Ok∧g.length≤A.length∧∀ m0 S0 w0 m S w a nt u,Fr (bF g) m0 S0 w0 (az s.hp) m S w→FR ap s.env s.hp s.dfs nt m S w a→sN S mode u→Leaves P z a.tmps (fun e w'=> ∃ q S',FU ap g m0 S0 w0 out A q S' w' e) a.defers u w:=by
  intro mode j;obtain ⟨⟨mode',C⟩,Y,T,j⟩:=R.bind_ok j;dsimp only at j;split at j
  ·obtain ⟨⟨o,r⟩,W,E,j⟩:=R.bind_ok j;cases j;obtain ⟨G,i,D⟩:=lS (P:=P) (m:=fun _=>(0,0)) (m0:=fun _=>(0,0)) (S:=fun _ _=>none) (S0:=fun _ _=>none) (w:=default) (w0:=default) (tmps:=#[]) k E N;obtain ⟨y,I⟩:=ut k O s.dfs mode _ s.hp C c Y T G;refine ⟨y,i,fun m0 S0 w0 m S w a nt u d f J=> ?_⟩;refine I g z a.tmps s.env _ m0 S0 w0 m S w a.defers u f.srel d f.env f.dfs J ?_;intro q S' w' V l p Q B;simp only [sN] at B;subst B;obtain ⟨_,_,D⟩:=lS (P:=P) (m:=q) (m0:=m0) (S:=S') (S0:=S0) (w:=w') (w0:=w0) (tmps:=a.tmps) k E N;obtain ⟨cv,K,X⟩:=D l p Q;exact ⟨cv,K,X⟩
  ·rename_i t v;obtain ⟨⟨o,r⟩,W,E,j⟩:=R.bind_ok j;cases j;obtain ⟨rfl,i,_⟩:=yE (ap:=ap) (m:=fun _=>(0,0)) (m0:=fun _=>(0,0)) (S:=fun _ _=>none) (S0:=fun _ _=>none) (w:=default) (w0:=default) E;obtain ⟨y,I⟩:=ut k O s.dfs mode _ s.hp C c _ T N;refine ⟨y,i,fun m0 S0 w0 m S w a nt u d f J=> ?_⟩;refine I g z a.tmps s.env _ m0 S0 w0 m S w a.defers u f.srel d f.env f.dfs J ?_;intro q S' w' V l p Q B;simp only [sN] at B;obtain ⟨cv,rfl,K⟩:=B;obtain ⟨_,_,L⟩:=yE (ap:=ap) (m:=q) (m0:=m0) (S:=S') (S0:=S0) (w:=w') (w0:=w0) E;exact L l p cv (iw _ K) (fun b ver n h=>by cases h)
  ·cases j
 unfold Ce at h;dsimp only at h;split at h
 ·obtain ⟨r,l,p⟩:=x .nilI h;exact ⟨r,l,fun m0 S0 w0 m S w a nt d f=>p m0 S0 w0 m S w a nt .returning d f rfl⟩
 ·obtain ⟨r,l,p⟩:=x .nilI h;exact ⟨r,l,fun m0 S0 w0 m S w a nt d f=>p m0 S0 w0 m S w a nt .returning d f rfl⟩
 ·rename_i t v;split at h
  ·rename_i Z;obtain ⟨r,l,p⟩:=x (.ifc t v) h;refine ⟨r,l,fun m0 S0 w0 m S w a nt d f cv U=>p m0 S0 w0 m S w a nt _ d f ⟨cv,rfl, ?_⟩⟩;exact m_ (by simpa [dR] using Z) U
  ·cases h
 ·cases h
theorem JP (i:iU P ap) (g:P.follows .mixedOrders=true) (j:JB P ap) (y:mM P ap H) (D:uP P ap H) (lf:Nat):mM P ap fun c md f args h=>tN ap H lf md f args h c:=by
 intro c f args h out B q K b L;have b:tN ap H lf .dead f args h c= .ok (out,B,q) K:=b;unfold tN at b;split at b
 ·cases b
 ·rename_i F v;dsimp only at b;obtain ⟨⟨e,s⟩,M,p,b⟩:=R.bind_ok b;dsimp only at b;obtain ⟨a,x,d⟩:=j.body f F v;have hbody:ah F.fn=a:=by simp [ah,x]
  rw [hbody] at p;obtain ⟨k,n,l⟩:=yg i D b L;obtain ⟨r,_⟩:=eH (nt:=F.fn.ntmps) i g y a d _ _ _ _ _ p k;refine ⟨r,n,y_ j v,fun m S w cargs I z=> ?_⟩;obtain ⟨J,u⟩:=II (md:= .dead) I z F.fn.ntmps;have o:F.fn.ntmps≤(cargs.toArray++Array.replicate (F.fn.ntmps - cargs.toArray.size) undef).size:=by simp;omega
  obtain ⟨_,t⟩:=eH i g y a (dX o a d) _ _ _ _ _ p k;obtain ⟨_,t⟩:=t rfl;refine calls_of_wp_defers (j.fn f F v) x ?_;refine t m S w m S w _ (by rw [J];exact Fr.refl _ _ _ _) u _ ?_;intro C S' w' E G A;exact l m S w C S' w' E _ G A
end
end AM
namespace AM
open Go
section
variable {P:Program} {ap:AP} {H:b_}
theorem TG {o:Oper} {a:Act} {K K':Act→World→Prop} {Q Q':Exit→Act→World→Prop} {r:Result Next} (c:∀ a w,K a w→K' a w) (d:∀ e a w,Q e a w→Q' e a w) (g:¬ LetsOut Q) (h:o.upon P a K Q r):o.upon P a K' Q' r:=by
 cases r with
 | ok n w'=>
  cases n<;>simp only [Oper.upon] at h ⊢ <;>
   first
    |exact c _ _ h
    |exact Calls.mono h (fun e f b=>by cases e<;>first|exact c _ _ b|exact d _ _ _ b|exact absurd b g)
    |exact Rows.mono h (fun _ _ b=>c _ _ b)
 |halt x w'=>cases x<;>simp only [Oper.upon] at h ⊢ <;>exact d _ _ _ h
theorem jQ {ops:Array Oper} {Q:Exit→Act→List Frame→World→Prop} {cs:List Frame} {Q':Exit→Act→World→Prop} (b:∀ e a w,Q' e a w→Q e a cs w) (c:¬ LetsOut Q'):∀ (l:List Nat) (a:Act) (w:World),wpOps P ops Q' l a w→wpOpsS P ops Q l a cs w
 | [],a,w,h=>b _ _ _ h
 | i ::rest,a,w,h=>by
  simp only [wpOps] at h;simp only [wpOpsS];cases f:ops[i]? with
  |none=>
   simp only [f] at h ⊢;exact jQ b c rest a w h
  | some o=>
   simp only [f] at h ⊢;by_cases hw:Region.wanted o (yielded ops a.tmps)=true
   ·rw [if_pos hw] at h ⊢;rcases h with h|⟨_,h⟩
    ·unfold Oper.wp at h;split
     ·rename_i w' g;rw [g] at h;exact h.elim
     ·exact TG (fun a w d=>jQ b c rest a w d) (fun e a w d=>b e a w d) c h
    ·exact absurd h c
   ·rw [if_neg hw] at h ⊢;exact jQ b c rest _ w h
theorem ahY {Q:Exit→Act→World→Prop}:¬ LetsOut (fun e a w=>e ≠ .outgrown∧Q e a w):=fun ⟨_,_,h,_⟩=>h rfl
theorem Lu {a:Act} {o:Oper} {args:Array Operand} {argTypes:Array TypeId} (h:o.op= .call {callee:= .builtin .recover,args,argTypes}) (w:World):(execOp a.eval o).run P w= .ok .recover w:=by
 unfold execOp;rw [h];rfl
theorem FR.env_cons {env:iY} {hp:Hp} {dfs:List (Nat × List AV)} {nt:Nat} {m:aV} {S:aQ} {w:World} {a:Act} (h:FR ap env hp dfs nt m S w a) {d:Nat} (hd:d<nt) {v:AV} {cv:Value} (b:VR (az hp) m S v cv):FR ap ((d,v)::env) hp dfs nt m S w (a.put (some d) cv):=by
 refine ⟨h.srel,fun t=> ?_,by rw [EP];exact h.dfs,by rw [K_];exact h.size⟩;by_cases ht:d=t
 ·subst ht;rw [EQ _ _ _ (by rw [h.size];exact hd)];have:iY.get ((d,v)::env) d=v:=l_ (env:=env);rw [this];exact b
 ·rw [ER _ _ _ (fun e=>ht (by cases e;rfl))];have:iY.get ((d,v)::env) t=env.get t:=yl (env:=env) (dst:=some d) (fun e=>ht (by cases e;rfl));rw [this];exact h.env t
theorem Ia (l:iU P ap) (G:P.follows .mixedOrders=true) (I:JB P ap) (hH:mM P ap H) (lf:Nat):uP P ap fun c md f args h=>tN ap H lf md f args h c:=by
 intro c md f args h out h' Z c' hmd g hc;have g:tN ap H lf md f args h c= .ok (out,h',Z) c':=g;unfold tN at g;split at g
 ·cases g
 ·rename_i F hF;split at g
  ·exact absurd rfl hmd
  ·split at g
   ·rename_i hrefs;simp only [ο] at hrefs;obtain ⟨V,J,j⟩:=I.body f F hF;have hbody:ah F.fn=V:=by simp [ah,J]
    unfold Ui at g;rw [hbody] at g;split at g
    ·rename_i id ops rest;split at g
     ·rename_i o r k;split at g
      ·rename_i args' argTypes d hop hg hd;dsimp only at g;obtain ⟨⟨s1,p⟩,c1,e1,g⟩:=R.bind_ok g;dsimp only at g;split at g
       ·cases g
       ·obtain ⟨⟨e,C⟩,c2,e2,g⟩:=R.bind_ok g;dsimp only at g;split at g
        ·cases g
        ·rename_i T;have A:∃ N,(e= .normal∨e= .ret)∧vJ ap h.length F.fn C.env C.hp c2= .ok (out,h') N∧Z= .nilI∧N=c':=by
          split at g
          ·obtain ⟨⟨o1,h1⟩,N,K,g⟩:=R.bind_ok g;cases g;exact ⟨_,.inl rfl,K,rfl,rfl⟩
          ·obtain ⟨⟨o1,h1⟩,N,K,g⟩:=R.bind_ok g;cases g;exact ⟨_,.inr rfl,K,rfl,rfl⟩
          ·cases g
         obtain ⟨N,A,K,rfl,rfl⟩:=A;obtain ⟨Y,hlen,_⟩:=lS (P:=P) (m:=fun _=>(0,0)) (m0:=fun _=>(0,0)) (S:=fun _ _=>none) (S0:=fun _ _=>none) (w:=default) (w0:=default) (tmps:=#[]) l K hc;simp only [dE,ο] at j;obtain ⟨L,_⟩:=eH (nt:=F.fn.ntmps) l G hH rest j.2 _ _ _ _ _ e2 Y;have z:∀ nt,F.fn.ntmps≤nt→∀ o' ∈ o::r,∀ d,o'.dst=some d→d<nt:=by
          intro nt q o' ho' d' hd';have:=List.all_eq_true.1 j.1 o' (by rw [k];exact ho');simp only [O_,hd'] at this;exact Ψ (fV this) q
         obtain ⟨hc0,_⟩:=nK (nt:=F.fn.ntmps) l hH (ops:=o::r) (z _ (Nat.le_refl _)) r 1 _ _ _ _ _ _ e1 L;refine ⟨hc0,y_ I hF,fun m S w cargs u hS hv hm=> ?_⟩;obtain ⟨hh,hFR⟩:=II (md:= .dead) hS hv F.fn.ntmps;have q:F.fn.ntmps≤(cargs.toArray++Array.replicate (F.fn.ntmps - cargs.toArray.size) undef).size:=by simp;omega
         obtain ⟨_,hx⟩:=eH l G hH rest (dX q rest j.2) _ _ _ _ _ e2 Y;obtain ⟨_,hs⟩:=nK l hH (ops:=o::r) (z _ q) r 1 _ _ _ _ _ _ e1 L;obtain ⟨U,hs⟩:=hs rfl (fun t b J=>by cases J) rfl (fun b B J=>vz J);obtain ⟨_,hx⟩:=hx U;have M:=z _ q o (by simp) d hd;refine callsD_of_wpS (I.fn f F hF) J fun c₀ cs hc₀=> ?_
         have i:∃ cv n,sN S md u∧VR (az (nX .dead args h).hp) m S md cv∧settle n= .returning∧((recoverD (c₀::cs)=some (cv,{c₀ with mode:=n}::cs))∨(recoverD (c₀::cs)=none∧cv= .nilIface∧{c₀ with mode:=n}=c₀)):=by
          cases md<;>simp only [sN] at hm
          ·obtain ⟨cv,rfl,hp⟩:=hm;exact ⟨cv,.panicking [{v:=cv,recovered:=true}],⟨cv,rfl,hp⟩,iw _ hp,rfl,.inl (by simp [recoverD,hc₀])⟩
          ·subst hm;exact ⟨.nilIface,.returning,rfl,by simp only [VR,PR],rfl,.inr ⟨by simp [recoverD,hc₀],rfl,by rw [← hc₀]⟩⟩
         obtain ⟨cv,n,_,X,E,i⟩:=i;have hcont:∀ (Q:Exit→Act→List Frame→World→Prop),(∀ e a w',(∃ m' S',Fr (bF h) m S w (az C.hp) m' S' w'∧FR ap C.env C.hp C.dfs (cargs.toArray++Array.replicate (F.fn.ntmps - cargs.toArray.size) undef).size m' S' w' a)→(e= .normal∨e= .ret)→Q e a ({c₀ with mode:=n}::cs) w')→
           wpOpsS P ops (Exit.thenS (rest.wpS P Q) Q) (Yqh 1 r.length) (({tmps:=cargs.toArray++Array.replicate (F.fn.ntmps - cargs.toArray.size) undef,defers:= []}:Act).put (some d) cv) ({c₀ with mode:=n}::cs) w:=by
          intro Q hQ;have hopsA:ops=(o::r).toArray:=by rw [← k]
          rw [hopsA];refine jQ (Q':=fun e a w'=>e ≠ .outgrown∧e= .normal∧rest.wpS P Q a ({c₀ with mode:=n}::cs) w') ?_ ahY _ _ _ ?_
          ·rintro e a w' ⟨_,rfl,hh⟩
           exact hh
          ·refine hs m S w _ (hFR.env_cons M X) _ ?_;intro m1 S1 w1 a1 h3 O;refine ⟨by simp,rfl,wpS_of_wp ?_⟩;rw [hh] at h3;obtain ⟨m2,h5,h6⟩:=rW (keep:=F.keep) (s:=⟨s1.env,s1.hp,s1.md,s1.dfs⟩) h3 O;refine hx m S w m2 S1 w1 a1 h5 h6 _ ?_;intro m3 S3 w3 a3 h7 h8;rcases A with rfl|rfl
           ·exact hQ .normal a3 w3 ⟨m3,S3,h7,h8⟩ (.inl rfl)
           ·exact hQ .ret a3 w3 ⟨m3,S3,h7,h8⟩ (.inr rfl)
         have D:∀ e a w',(∃ m' S',Fr (bF h) m S w (az C.hp) m' S' w'∧FR ap C.env C.hp C.dfs (cargs.toArray++Array.replicate (F.fn.ntmps - cargs.toArray.size) undef).size m' S' w' a)→(e= .normal∨e= .ret)→
           bodyPostS P F.fn c₀ cs (fun e n w'=>(∃ m' S',FU ap h m S w out h' m' S' w' e)∧MI md .nilI u n) e a ({c₀ with mode:=n}::cs) w':=by
          rintro e a w' ⟨m',S',h3,O⟩ hee
          obtain ⟨_,_,hro⟩:=lS (P:=P) (m:=m') (m0:=m) (S:=S') (S0:=S) (w:=w') (w0:=w) (tmps:=a.tmps) l K hc;obtain ⟨W,h5,h6⟩:=hro O.srel h3 O.env;have hdf:a.defers= []:=by
           have:=O.dfs;rw [T] at this;cases hd:a.defers with
           |nil=>rfl
           |cons x y=>rw [hd] at this;simp [gX] at this
          rcases hee with rfl|rfl
          ·exact ⟨hdf,n,rfl,W,h5,h6,.inr ⟨rfl,E⟩⟩
          ·exact ⟨hdf,n,rfl,W,h5,h6,.inr ⟨rfl,E⟩⟩
         refine wpS_seq (wpS_region ?_);have hrange:Xq6 ops.size=0::Yqh 1 r.length:=by
          have:ops.size=r.length+1:=by rw [← Array.length_toList,k];simp
          rw [this,List.range_eq_range',List.range'_succ]
         rw [hrange];have ho0:ops[0]? =some o:=by
          have:ops.toList[0]? =some o:=by rw [k];rfl
          simpa using this
         simp only [wpOpsS,ho0,Region.wanted,hg,if_true,Lu hop];rw [hd];rcases i with i|⟨i,rfl,hsame⟩
         ·rw [i];exact hcont _ D
         ·rw [i];have:=hcont _ D;rw [hsame] at this;exact this
      ·cases g
     ·cases g
    ·cases g
   ·cases g
end
end AM
namespace AM
open Go
def DW:Option AF→Bool
 |some F=>(match F.fn.body with|some c=>dE F.fn.ntmps c|none=>false) && !(F.fn.name== "runtime.NumGoroutine")
 |none=>true
theorem XV {P:Program} {ap:AP} (h:(Xq6 ap.nty).map ap.ty.get=(Xq6 ap.nty).map (Xo P)):iU P ap:=by
 constructor;intro t e a;unfold AP.tyAt at a;split at a
 ·rename_i b;have d:=fV b;have c:((Xq6 ap.nty).map ap.ty.get)[t]? =some (some e):=by rw [Xq3,Xj7 d];simp [a]
  rw [h,Xq3,Xj7 d] at c;simpa using c
 ·cases a
theorem YY {P:Program} {ap:AP} {keep:Nat→Bool} (h:(Xq6 ap.nfn).map (fun i=>(ap.fn.get i).map AF.fn)=(Xq6 ap.nfn).map fun i=>match keep i with|true=>P.funcs[i]? |false=>none) (l:(Xq6 ap.nfn).all (fun i=>DW (ap.fn.get i))=true):JB P ap:=by
 have b:∀ (f:Nat) (F:AF),ap.fnAt f=some F→f<ap.nfn∧ap.fn.get f=some F:=by
  intro f F a;unfold AP.fnAt at a;split at a
  ·rename_i g;exact ⟨fV g,a⟩
  ·cases a
 have hgood:∀ (f:Nat) (F:AF),ap.fnAt f=some F→DW (some F)=true:=by
  intro f F a;obtain ⟨e,j⟩:=b f F a;have:=List.all_eq_true.1 l f (by simpa using e);rwa [j] at this
 constructor
 ·intro f F a;obtain ⟨e,j⟩:=b f F a;have d:((Xq6 ap.nfn).map fun i=>(ap.fn.get i).map AF.fn)[f]? =some (some F.fn):=by rw [Xq3,Xj7 e];simp [j]
  rw [h,Xq3,Xj7 e] at d;simp only [Xja,Option.some.injEq] at d;split at d
  ·exact d
  ·cases d
 ·intro f F a;have:=hgood f F a;simp only [DW,ο] at this;cases k:F.fn.body with
  |none=>rw [k] at this;cases this.1
  |some c=>rw [k] at this;exact ⟨c,rfl,this.1⟩
 ·intro f F a;have:=hgood f F a;simp only [DW,ο,Xqo] at this;exact this.2
end AM
namespace AM
open Go
def aG (P:Program) (ap:AP) (h0:List a_) (n:Nat) (code:Code) (s:St) (e:bD) (s':St):Prop:=∀ nt,n≤nt→ak P ap h0 nt code s e s'
abbrev xC:=List (bD × St)
def lZ (P:Program) (ap:AP) (H:b_) (h0:List a_) (keep:List Nat) (lf nt:Nat) (ls:List Nat):Code→St→xC→Cx→R ((bD × St) × xC)
 | .seq a b,s,l,c=>(lZ P ap H h0 keep lf nt ls a s l c).bind fun r c=>match r.1.1 with
  | .normal=>lZ P ap H h0 keep lf nt ls b r.1.2 r.2 c
  |e=> .ok ((e,r.1.2),r.2) c
 | .cond t a b,s,l,c=>match qK ap s.env t with
  | .bool x=>(zh c x).bind fun x c=>match x with
   |true=>lZ P ap H h0 keep lf nt ls a s l c
   |false=>lZ P ap H h0 keep lf nt ls b s l c
  |_=> .bad 60
 | .block id b,s,l,c=>match rO ls id with
  |true=>match l with
   |(e,s')::r=> .ok ((e,s'),r) {c with ps:=aG P ap h0 nt (.block id b) s e s'::c.ps}
   | []=> .bad 62
  |false=>(lZ P ap H h0 keep lf nt ls b s l c).bind fun r c=>match r.1.1 with
   | .exit id'=>match Xqq id' id with|true=> .ok ((.normal,r.1.2),r.2) c|false=> .ok ((.exit id',r.1.2),r.2) c
   |e=> .ok ((e,r.1.2),r.2) c
 | .scope b,s,l,c=>lZ P ap H h0 keep lf nt ls b s l c
 | .region id ops draw,s,l,c=>match rO ls (id+1000) with
  |true=>match l with
   |(e,s')::r=> .ok ((e,s'),r) {c with ps:=aG P ap h0 nt (.region id ops draw) s e s'::c.ps}
   | []=> .bad 63
  |false=>(lm ap H h0.length keep lf (.region id ops draw) s c).bind fun r c=> .ok (r,l) c
 |code,s,l,c=>(lm ap H h0.length keep lf code s c).bind fun r c=> .ok (r,l) c
section
variable {P:Program} {ap:AP} {H:b_}
theorem ak.seq {b:List a_} {nt:Nat} {x y:Code} {s f g:St} {e:bD} (p:ak P ap b nt x s .normal f) (l:ak P ap b nt y f e g):ak P ap b nt (.seq x y) s e g:=by
 intro c;obtain ⟨q,r⟩:=p c;obtain ⟨k,i⟩:=l q;refine ⟨k,fun m0 S0 w0 m S w a d h Q j=>wp_seq (r m0 S0 w0 m S w a d h _ ?_)⟩;intro o S' w' t n u;exact i m0 S0 w0 o S' w' t n u Q j
theorem ak.seq_out {g:List a_} {nt:Nat} {x y:Code} {s f:St} {e:bD} (b:e ≠ .normal) (l:ak P ap g nt x s e f):ak P ap g nt (.seq x y) s e f:=by
 intro c;obtain ⟨n,p⟩:=l c;refine ⟨n,fun m0 S0 w0 m S w a d h Q i=>wp_seq (p m0 S0 w0 m S w a d h _ ?_)⟩;intro k S' w' o j q;have:=i k S' w' o j q;cases e with
 |normal=>exact absurd rfl b
 |exit id=>exact this
 |ret=>exact this
 |panic v=>exact this
theorem ak.cond {g:List a_} {nt:Nat} {t:Operand} {x y:Code} {s s':St} {e:bD} {c:Bool} (i:qK ap s.env t= .bool c) (h:ak P ap g nt (if c then x else y) s e s'):ak P ap g nt (.cond t x y) s e s':=by
 intro d;obtain ⟨l,j⟩:=h d;refine ⟨l,fun m0 S0 w0 m S w a f b Q k=>wp_cond (t:=c) ?_ (j m0 S0 w0 m S w a f b Q k)⟩;have:=wV b.srel (a:=a) (env:=s.env) t (fun t _=>b.env t);rw [i] at this;simpa only [VR,PR] using this
def pg (id:Nat):bD→bD
 | .exit id'=>match Xqq id' id with|true=> .normal|false=> .exit id'
 |e=>e
theorem ak.block {k:List a_} {nt:Nat} {id:Nat} {b:Code} {s s':St} {e:bD} (h:ak P ap k nt b s e s'):ak P ap k nt (.block id b) s (pg id e) s':=by
 intro f;obtain ⟨r,t⟩:=h f;refine ⟨r,fun m0 S0 w0 m S w a j l Q o=>wp_block (t m0 S0 w0 m S w a j l _ ?_)⟩;intro q S' w' g p n;have c:=o q S' w' g p n;cases e with
 |normal=>exact c
 |ret=>exact c
 |panic v=>exact c
 | exit id'=>
  simp only [pg] at c;split at c
  ·rename_i i;show Exit.inBlock id Q (.exit id') g w';simp only [Exit.inBlock,if_pos (aJ i)];exact c
  ·rename_i i;show Exit.inBlock id Q (.exit id') g w';have d:id' ≠ id:=by intro e;subst e;simp at i
   simp only [Exit.inBlock,if_neg d];exact c
theorem ak.scope {g:List a_} {nt:Nat} {b:Code} {s s':St} {e:bD} (h:ak P ap g nt b s e s'):ak P ap g nt (.scope b) s e s':=by
 intro d;obtain ⟨n,o⟩:=h d;refine ⟨n,fun m0 S0 w0 m S w a f i Q j=>wp_scope_straight (o m0 S0 w0 m S w a f i _ ?_)⟩;intro l S' w' p k q;have c:=j l S' w' p k q;cases e with
 |normal=>exact c
 |exit id=>exact c
 |ret=>exact c
 |panic v=>exact c
theorem uj (C:iU P ap) (u:P.follows .mixedOrders=true) (N:mM P ap H) {m:List a_} {keep:List Nat} {lf n nt:Nat} (I:n≤nt) {ls:List Nat}:∀ (a:Code),dE nt a=true→∀ (s:St) (l:xC) (r:(bD × St) × xC) (c f:Cx),lZ P ap H m keep lf n ls a s l c= .ok r f→f.Ok→c.Ok∧ak P ap m nt a s r.1.1 r.1.2:=by
 have hbase:∀ (a:Code),dE nt a=true→∀ (s:St) (l:xC) (r:(bD × St) × xC) (c f:Cx),((lm ap H m.length keep lf a s c).bind fun r c=> .ok (r,l) c)= .ok r f→f.Ok→c.Ok∧ak P ap m nt a s r.1.1 r.1.2:=by
  intro a hd s l r c f h d;obtain ⟨⟨e,s'⟩,w,k,h⟩:=R.bind_ok h;cases h;exact eH C u N a hd s e s' c _ k d
 intro a
 induction a with
 | seq x y ihx ihy=>
  intro hd s l r c f h d;simp only [dE,ο] at hd;simp only [lZ] at h;obtain ⟨⟨⟨o,B⟩,E⟩,w,k,h⟩:=R.bind_ok h;dsimp only at h;have hother:o ≠ .normal→R.ok ((o,B),E) w=R.ok r f→c.Ok∧ak P ap m nt (.seq x y) s r.1.1 r.1.2:=by
   intro G M;cases M;obtain ⟨g,j⟩:=ihx hd.1 _ _ _ _ _ k d;exact ⟨g,j.seq_out G⟩
  cases o with
  |normal=>
   dsimp only at h;obtain ⟨i,K⟩:=ihy hd.2 _ _ _ _ _ h d;obtain ⟨g,j⟩:=ihx hd.1 _ _ _ _ _ k i;exact ⟨g,j.seq K⟩
  |exit id=>exact hother (by simp) h
  |ret=>exact hother (by simp) h
  |panic v=>exact hother (by simp) h
 | cond t x y ihx ihy=>
  intro hd s l r c f h d;simp only [dE,ο] at hd;simp only [lZ] at h;split at h
  ·rename_i O z;obtain ⟨L,w,k,h⟩:=R.bind_ok h;cases L with
   |true=>
    obtain ⟨i,j⟩:=ihx hd.1 _ _ _ _ _ h d;obtain ⟨g,q⟩:=lD k i;exact ⟨g,ak.cond z (by rw [← q];exact j)⟩
   |false=>
    obtain ⟨i,j⟩:=ihy hd.2 _ _ _ _ _ h d;obtain ⟨g,q⟩:=lD k i;exact ⟨g,ak.cond z (by rw [← q];exact j)⟩
  ·cases h
 | block id b ih=>
  intro hd s l r c f h d;simp only [dE] at hd;simp only [lZ] at h;split at h
  ·split at h
   ·rename_i D F J;cases h;have hp:aG P ap m n (.block id b) s D F:=d.ps _ (Xjo ..);exact ⟨⟨d.bs,fun p hp=>d.ps p (Xx1 _ hp)⟩,hp nt I⟩
   ·cases h
  ·obtain ⟨⟨⟨o,B⟩,E⟩,w,k,h⟩:=R.bind_ok h;dsimp only at h;have A:r=((pg id o,B),E)∧w=f:=by
    cases o<;>dsimp only at h
    ·cases h;exact ⟨rfl,rfl⟩
    ·unfold pg;split at h<;>cases h<;>rename_i q<;>dsimp only<;>rw [q]<;>exact ⟨rfl,rfl⟩
    ·cases h;exact ⟨rfl,rfl⟩
    ·cases h;exact ⟨rfl,rfl⟩
   obtain ⟨rfl,rfl⟩:=A;obtain ⟨g,j⟩:=ih hd _ _ _ _ _ k d;exact ⟨g,j.block⟩
 |scope b ih=>
  intro hd s l r c f h d;simp only [dE] at hd;simp only [lZ] at h;obtain ⟨g,j⟩:=ih hd _ _ _ _ _ h d;exact ⟨g,j.scope⟩
 |skip=>exact fun hd s l r c f h d=>hbase _ hd s l r c f h d
 | region id ops draw=>
  intro hd s l r c f h d;simp only [lZ] at h;split at h
  ·split at h
   ·rename_i D F J;cases h;have hp:aG P ap m n (.region id ops draw) s D F:=d.ps _ (Xjo ..);exact ⟨⟨d.bs,fun p hp=>d.ps p (Xx1 _ hp)⟩,hp nt I⟩
   ·cases h
  ·exact hbase _ hd s l r c f h d
 |loop _ _=>exact fun hd s l r c f h d=>hbase _ hd s l r c f h d
 |rangeFunc _ _ _ _=>exact fun hd s l r c f h d=>hbase _ hd s l r c f h d
 |exit _=>exact fun hd s l r c f h d=>hbase _ hd s l r c f h d
 |label _=>exact fun hd s l r c f h d=>hbase _ hd s l r c f h d
 |goto _=>exact fun hd s l r c f h d=>hbase _ hd s l r c f h d
 |ret=>exact fun hd s l r c f h d=>hbase _ hd s l r c f h d
 |refuse _=>exact fun hd s l r c f h d=>hbase _ hd s l r c f h d
def O0 (P:Program) (ap:AP) (H:b_) (lf:Nat) (ls:List Nat) (f:Nat) (args:List AV) (h:List a_) (l:xC) (c:Cx):R (kD × List a_ × AV):=
 match ap.fnAt f with
 |none=> .bad 80
 |some F=>(lZ P ap H h F.keep lf F.fn.ntmps ls (ah F.fn) (nX .dead args h) l c).bind fun r c=>Ce ap H h.length F.fn r.1.1 r.1.2 c
theorem Uj (g:iU P ap) (n:P.follows .mixedOrders=true) (d:JB P ap) (J:mM P ap H) (D:uP P ap H) {lf:Nat} {ls:List Nat} {f:Nat} {args:List AV} {h x:List a_} {l:xC} {c z:Cx} {out:kD} {q:AV}
  (b:O0 P ap H lf ls f args h l c= .ok (out,x,q) z) (hc:z.Ok):bC P ap f args h out x:=by
 unfold O0 at b;split at b
 ·cases b
 ·rename_i F u;obtain ⟨⟨⟨e,s⟩,L⟩,M,y,b⟩:=R.bind_ok b;dsimp only at b;obtain ⟨a,v,i⟩:=d.body f F u;have hbody:ah F.fn=a:=by simp [ah,v]
  rw [hbody] at y;obtain ⟨p,o,k⟩:=yg g D b hc;refine ⟨o,y_ d u,fun m S w cargs I A=> ?_⟩;obtain ⟨K,t⟩:=II (md:= .dead) I A F.fn.ntmps;have j:F.fn.ntmps≤(cargs.toArray++Array.replicate (F.fn.ntmps - cargs.toArray.size) undef).size:=by simp;omega
  obtain ⟨_,r⟩:=uj g n J j a (dX j a i) _ _ _ _ _ y p;obtain ⟨_,r⟩:=r rfl;refine calls_of_wp_defers (d.fn f F u) v ?_;refine r m S w m S w _ (by rw [K];exact Fr.refl _ _ _ _) t _ ?_;intro C S' w' E G B;exact k m S w C S' w' E _ G B
end
end AM
namespace AM
open Go
def yK (P:Program) (ap:AP) (lf:Nat):Nat→b_
 |0=>fun _ _ _ _ _=> .bad 90
 | n+1=>fun c md f args h=>
  match md with
  | .dead=>match c.ans with
   |(out,h')::r=> .ok (out,h',.dead) {c with ans:=r,ps:=bC P ap f args h out h'::c.ps}
   |_=> .bad 91
  |md=>tN ap (yK P ap lf n) lf md f args h c
theorem oG {P:Program} {ap:AP} (g:iU P ap) (a:P.follows .mixedOrders=true) (e:JB P ap) (lf:Nat):∀ n,mM P ap (yK P ap lf n)∧uP P ap (yK P ap lf n)
 |0=> ⟨fun _ _ _ _ _ _ _ _ h=>(by cases h),fun _ _ _ _ _ _ _ _ _ _ h=>(by cases h)⟩
 | n+1=>by
  obtain ⟨m,o⟩:=oG g a e lf n;constructor
  ·intro c f args h out k d l b j;simp only [yK] at b;split at b
   ·cases b;exact ⟨⟨j.bs,fun p hp=>j.ps p (by simp [hp])⟩,j.ps _ (by simp)⟩
   ·cases b
  ·intro c md f args h out k d l i b j;have b:tN ap (yK P ap lf n) lf md f args h c= .ok (out,k,d) l:=by
    cases md<;>first|exact absurd rfl i|exact b
   exact Ia g a e m lf c md f args h out k d l i b j
inductive MG:List Prop→Prop where
 |nil:MG []
 |cons {p:Prop} {l:List Prop}:p→MG l→MG (p::l)
theorem MG.mem {l:List Prop} (h:MG l):∀ p ∈ l,p:=by
 induction h with
 |nil=>intro p hp;cases hp
 |cons hp _ ih=>
  intro q a;rcases List.mem_cons.1 a with rfl|a
  ·exact hp
  ·exact ih q a
inductive lV:List Bool→Prop where
 |nil:lV []
 |t {l:List Bool}:lV l→lV (true::l)
 |c {b:Bool} {l:List Bool}:b=true→lV l→lV (b::l)
theorem lV.mem {l:List Bool} (h:lV l):∀ b ∈ l,b=true:=by
 induction h with
 |nil=>intro p hp;cases hp
 |t _ ih=>
  intro q a;rcases List.mem_cons.1 a with rfl|a
  ·rfl
  ·exact ih q a
 |c hp _ ih=>
  intro q a;rcases List.mem_cons.1 a with rfl|a
  ·exact hp
  ·exact ih q a
structure Gi (P:Program) (ap:AP):Prop where
 apok:iU P ap
 mixed:P.follows .mixedOrders=true
 fnok:JB P ap
theorem Gx {P:Program} {ap:AP} (g:Gi P ap) {lf n:Nat} {ans:List (kD × List a_)} {ps:List Prop} {f:Nat} {args:List AV} {h a:List a_} {out:kD} (hp:MG ps)
  (he:tN ap (yK P ap lf n) lf .dead f args h ⟨true,[],[],[],ans,[]⟩= .ok (out,a,.dead) ⟨true,[],[],ps,[],[]⟩):bC P ap f args h out a:=by
 obtain ⟨d,e⟩:=oG g.apok g.mixed g.fnok lf n;exact (JP g.apok g.mixed g.fnok d e lf _ f args h out a .dead _ he ⟨fun b c=>(by cases c),hp.mem⟩).2
end AM
namespace AM
open Go Go.ChangeShapes Go.WideShapes Go.ChangeAt Go.RowKit
def qf:Lit→Value
 | .int k n=> .int k n
 | .bool b=> .bool b
 | .string s=> .string ⟨s.toArray⟩
 |_=> .nilFunc
def KE:Lit→AV
 | .int k n=> .int k n
 | .bool b=> .bool b
 | .string s=> .str s
 |_=> .dead
def Ei:Lit→Bool
 | .int _ _=>true
 | .bool _=>true
 | .string _=>true
 |_=>false
def KF (f:TypeId→DataW Unit→Nat→Option (List (Nat × Lit))):List (TypeId × Nat)→List (DataW Unit)→Option (List (Nat × Lit))
 | [],[]=>some []
 |(t,o)::r,d::ds=>match f t d o,KF f r ds with
  |some a,some b=>some (a++b)
  |_,_=>none
 |_,_=>none
def mf (P:Program):Nat→TypeId→DataW Unit→Nat→Option (List (Nat × Lit))
 |0,_,_,_=>none
 |n+1,t,d,off=>match P.underlying t,d with
  |some (.struct fs),.agg ds=>KF (mf P n) (fs.toList.map fun f=>(f.type,off+f.offset)) ds
  |some (.array m e),.agg ds=>KF (mf P n) ((Xq6 m).map fun i=>(e,off+i*P.cellsOf e)) ds
  |some (.int _),.lit (.int k n)=>some [(off,.int k n)]
  |some .bool,.lit (.bool b)=>some [(off,.bool b)]
  |some .string,.lit (.string s)=>some [(off,.string s)]
  |_,_=>none
theorem Eh {f:TypeId→DataW Unit→Nat→Option (List (Nat × Lit))}:∀ {ts:List (TypeId × Nat)} {ds:List (DataW Unit)} {l:List (Nat × Lit)},KF f ts ds=some l→ts.length=ds.length∧∀ x ∈ l,∃ (i:Nat) (t o:Nat) (d:DataW Unit) (a:List (Nat × Lit)),ts[i]? =some (t,o)∧ds[i]? =some d∧f t d o=some a∧x ∈ a
 | [],[],l,h=>by simp [KF] at h;subst h;simp
 | (t,o)::r,d::ds,l,h=>by
  simp only [KF] at h;split at h
  ·rename_i a b j e;cases h;obtain ⟨m,u⟩:=Eh e;refine ⟨by simp [m],fun x c=> ?_⟩;rcases List.mem_append.1 c with c|c
   ·exact ⟨0,t,o,d,a,rfl,rfl,j,c⟩
   ·obtain ⟨i,g,k,w,s,n,q,p,v⟩:=u x c;exact ⟨i+1,g,k,w,s,by simpa using n,by simpa using q,p,v⟩
  ·cases h
 | [],_::_,_,h=>by simp [KF] at h
 |_::_,[],_,h=>by simp [KF] at h
theorem og {P:Program} {w:World} {base:Nat} {Q:Nat→Bool} {v:Bool}:∀ (n:Nat) (t:TypeId) (d:DataW Unit) (off:Nat) (l:List (Nat × Lit)),mf P n t d off=some l→∀ (c:Nat) (cs:List Value) (p:List MemPlace),DataW.trod (fun _=>()) P w base Q v c t cs=some (d,p)→∀ x ∈ l,∃ j,x.1=off+j∧cs[j]? =some (qf x.2)
 |0,_,_,_,_,h=>by simp [mf] at h
 | n +1,t,d,off,l,h=>by
  intro c cs p hd x r;simp only [mf] at h;split at h
  ·rename_i T N q;cases c with
   |zero=>simp [DataW.trod] at hd
   | succ m=>
    simp only [DataW.trod,q] at hd;split at hd
    ·obtain ⟨K,E,g⟩:=Option.map_eq_some_iff.1 hd;simp only [Prod.mk.injEq,DataW.agg.injEq] at g;obtain ⟨rfl,rfl⟩:=g;obtain ⟨O,D⟩:=Eh h;obtain ⟨i,M,J,R,a,y,u,C,G⟩:=D x r;rw [Xq3,Xqp] at y;obtain ⟨f,F,z⟩:=y;simp only [Prod.mk.injEq] at z;obtain ⟨rfl,rfl⟩:=z;obtain ⟨b,B,I⟩:=Lib.mapM_at E i f F;rw [Xq3,B] at u;simp only [Xja,Option.some.injEq] at u;subst u;obtain ⟨j,L,o⟩:=og n _ _ _ _ C m _ b.2 I x G;refine ⟨f.offset+j,by omega, ?_⟩;rw [Xj0] at o;split at o
     ·rwa [Xzf] at o
     ·cases o
    ·cases hd
  ·rename_i k e N q;cases c with
   |zero=>simp [DataW.trod] at hd
   | succ m=>
    simp only [DataW.trod,q] at hd;split at hd
    ·obtain ⟨K,E,g⟩:=Option.map_eq_some_iff.1 hd;simp only [Prod.mk.injEq,DataW.agg.injEq] at g;obtain ⟨rfl,rfl⟩:=g;obtain ⟨O,D⟩:=Eh h;obtain ⟨i,M,J,R,a,y,u,C,G⟩:=D x r;rw [Xq3,Xqp] at y;obtain ⟨f,F,z⟩:=y;simp only [Prod.mk.injEq] at z;obtain ⟨rfl,rfl⟩:=z;obtain ⟨b,B,I⟩:=Lib.mapM_at E i f F;rw [Xq3,B] at u;simp only [Xja,Option.some.injEq] at u;subst u;obtain ⟨j,L,o⟩:=og n _ _ _ _ C m _ b.2 I x G;refine ⟨f*P.cellsOf e+j,by omega, ?_⟩;rw [Xj0] at o;split at o
     ·rwa [Xzf] at o
     ·cases o
    ·cases hd
  ·rename_i S k V q;cases h;simp at r;subst r;obtain ⟨U,rfl,A,_⟩:=DataW.trod_int q hd;simp only [Prod.mk.injEq,DataW.lit.injEq,Lit.int.injEq] at A;obtain ⟨⟨rfl,rfl⟩,_⟩:=A;exact ⟨0,rfl,rfl⟩
  ·rename_i b q;cases h;simp at r;subst r;cases c with
   |zero=>simp [DataW.trod] at hd
   |succ m=>
    unfold DataW.trod at hd;rw [q] at hd;split at hd<;>simp_all
    rfl
  ·rename_i s q;cases h;simp at r;subst r;cases c with
   |zero=>simp [DataW.trod] at hd
   |succ m=>
    unfold DataW.trod at hd;rw [q] at hd;split at hd<;>simp_all
    obtain ⟨_,rfl,_⟩:=hd;rfl
  ·cases h
theorem yz {P:Program} {w:World}:∀ {l:List (String × DataW Unit)} {ps:List MemPlace},DataW.LaidVars P w l ps→∀ n d,(n,d) ∈ l→∃ g t cs a p,P.globalNamed n=some g∧(P.globals[g]?).map (·.type)=some t∧w.var? P n=some cs∧DataW.trod (fun _=>()) P w 0 (fun _=>true) false a t cs.toList=some (d,p)
 | [],_,_,n,d,hm=>by cases hm
 | (n',d')::r,ps,h,n,d,hm=>by
  obtain ⟨g,t,cs,a,p,q,b,i,c,f,e,_⟩:=h;rcases List.mem_cons.1 hm with he|hm
  ·cases he;exact ⟨g,t,cs,a,p,b,i,c,f⟩
  ·exact yz e n d hm
theorem NM {P:Program} {W:World} {a:List (String × DataW Unit)} (h:laidMetH P a W) (e:a.filter (fun x=>x.2.handleName?.isSome)= []) {n:String} {d:DataW Unit} (s:(n,d) ∈ a) {g:Nat} {t:TypeId} (m:P.globalNamed n=some g) (y:(P.globals[g]?).map (·.type)=some t)
  {ls:List Lit} (hl:mf P 6 t d 0=some (ls.zipIdx.map fun (l,i)=>(i,l))):∀ (j:Nat) (l:Lit),ls[j]? =some l→W.cell? ⟨g,j,none⟩=some (qf l):=by
 have b:laidMet P a W:=by
  unfold laidMetH at h;rw [e] at h;exact h
 obtain ⟨ps,o,_⟩:=b;obtain ⟨g',A,cs,c,p,q,r,u,w⟩:=yz o n d s;obtain rfl:=Option.some.inj (m.symm.trans q);obtain rfl:=Option.some.inj (y.symm.trans r);intro j l z;obtain ⟨k,f,v⟩:=og 6 t d 0 _ hl c cs.toList p w (j,l) (by
  rw [List.mem_map];exact ⟨(l,j),by rw [List.mem_zipIdx_iff_getElem?];exact z,rfl⟩)
 have:k=j:=by simp at f;exact f.symm
 subst this;rw [World.var?_cell m u k];simpa using v
def iW (W:World):aQ:=fun k o=>match W.cell? ⟨k,o,none⟩ with|some v=>if v.oneCell' then some v else none|none=>none
theorem Hu {W:World} {k o:Nat} {v:Value} (h:W.cell? ⟨k,o,none⟩=some v) (a:v.oneCell'=true):iW W k o=some v:=by
 unfold iW;rw [h];simp only;rw [if_pos a]
theorem Me {W:World} {k o:Nat} {v:Value} (h:iW W k o=some v):kH W k o=some v:=by
 unfold iW at h;split at h
 ·rename_i c b;split at h
  ·rename_i a;cases h;exact Dt b a
  ·cases h
 ·cases h
theorem JC (S:aQ):∀ (ls:List Lit),ls.all Ei=true→dO S (ls.map KE) (ls.map qf)
 | [],_=>by simp [dO]
 |l::r,h=>by
  simp only [Xxr,ο] at h;simp only [Xqi,dO];refine ⟨?_,JC S r h.2⟩;cases l<;>simp only [KE,qf,PR]<;>first|rfl|(exact absurd h.1 (by simp [Ei]))
theorem NQ {l:Lit} (h:Ei l=true):(qf l).oneCell'=true:=by
 cases l<;>first|rfl|(exact absurd h (by simp [Ei]))
def TU (ap:AP) (W:World):Prop:=∀ k xs,(ap.gl[k]?).join=some xs→∃ ls:List Lit,xs=ls.map KE∧ls.all Ei=true∧∀ (j:Nat) (l:Lit),ls[j]? =some l→W.cell? ⟨k,j,none⟩=some (qf l)
theorem Y1 {ap:AP} {W:World} (h:TU ap W):TT ap (iW W):=by
 intro k g f;obtain ⟨ls,rfl,b,e⟩:=h k g f;refine ⟨ls.map qf,JC _ _ b, ?_⟩;intro j u d;rw [Xq3,Xqp] at d;obtain ⟨l,a,rfl⟩:=d;have c:=NQ (List.all_eq_true.1 b l (Xqh a));refine ⟨?_,c⟩;rw [Nat.zero_add];exact Hu (e j l a) c
theorem acP {P:Program} {ap:AP} {f:Nat} {args:List AV} {b:Bool} (m:bC P ap f args [] (.ret (.bool b)) []) {W:World} (l:TU ap W) {cargs:List Value} (g:dO (iW W) args cargs):
  Calls P f cargs.toArray W fun e W'=>e= .returned (.bool b)∧Below W.heap.size W W':=by
 have i:bP ap (bF []) (fun _=>(0,0)) (iW W) W:=
  ⟨fun b n B B' h=>by simp [bF] at h,fun b B h=>by simp [bF] at h,fun k o v h=>Me h,fun b B h=>by simp [bF] at h,Y1 l⟩
 refine (m.calls (fun _=>(0,0)) (iW W) W cargs i (bT _ g)).mono ?_
 rintro e W' ⟨m',S',hF⟩
 obtain ⟨_,a,c⟩:=hF;obtain ⟨cv,rfl,d⟩:=c;simp only [BJ,VR,PR] at d;subst d;exact ⟨rfl,a.os,a.tape,a.output,a.size,fun k j=>a.rest k j fun b B h=>by simp [bF] at h⟩
def CU (P:Program) (ts:List TypeId):Bool:=ts.all fun t=>P.readableRec t && decide (t<P.types.size)
theorem wI {H:Type} {enc:TypeId × Value→H} {P:Program} (b:laidOutB P=true) {W W':World} {c:Nat→Bool}:∀ {ts:List TypeId} {vs:List Value} {ds:List (DataW H)} {ps:List MemPlace},CU P ts=true→DataW.TrodAll enc P W 0 (fun _=>true) true ts vs ds ps→(∀ p ∈ ps,W.sameAt W' p)→(∀ p ∈ ps,c p.block=true)→DataW.TrodAll enc P W' 0 c true ts vs ds ps
 | [],vs,ds,ps,_,h,_,_=>by
  obtain ⟨rfl,rfl,rfl⟩:=trodAll_nil h;rfl
 |t::ts,vs,ds,ps,hf,h,hs,hsp=>by
  obtain ⟨v,i,d,f,p,q,rfl,rfl,rfl,e,g⟩:=trodAll_cons h;simp only [CU,Xxr,ο,decide_eq_true_eq] at hf;exact trodAll_cons_mk (WideElems.Trod_stays b hf.1.1 hf.1.2 e (fun x a=>hs x (by simp [a])) (fun x a=>hsp x (by simp [a]))) (wI b (by simpa [CU] using hf.2) g (fun x a=>hs x (by simp [a])) (fun x a=>hsp x (by simp [a])))
theorem ahz {H:Type} {enc:TypeId × Value→H} {P:Program} {f:Func} {s:ChangeSpec} {apart fresh handsOn again:Bool} {W W':World} {args:Array Value} {g n:List (DataW H)} {before:List MemPlace} (u:laidOutB P=true) (w:CU P f.params.toList=true)
  (hW:DataW.Whole enc P f.params.toList s.vars apart W args.toList g n before) (hvars:s.vars= []) {tb:TypeId} (hr:f.resultTypes=#[tb]) (htb:P.underlying tb=some .bool) (hfn:s.fn H (g++n)={results:= [.lit (.bool true)],args:=g,vars:= []})
  (hb:Below W.heap.size W W'):s.post enc P f apart fresh handsOn again W args (.bool true) W':=by
 have e:∀ p ∈ before,p.block<W.heap.size:=fun p hp=>hW.lt p hp
 have c:∀ p ∈ before,(fun b=>decide (b<W.heap.size)) p.block=true:=fun p hp=>by simpa using hW.lt p hp
 have j:=hW;obtain ⟨p,q,y,t,rfl,r,o⟩:=hW;rw [hvars] at t;obtain ⟨rfl,rfl⟩:=trodVars_none t;simp only [Θ] at e c r o j hfn ⊢;have hargs:∀ a:Nat→Bool,(∀ x ∈ p,a x.block=true)→DataW.TrodAll enc P W' 0 a true f.params.toList args.toList (s.fn H g).args p:=by
  intro a m;rw [hfn];exact wI u w y (fun x l=>hb.same (e x l)) m
 have d:∀ (b:Nat) (a:Nat→Bool) (hd:Bool),DataW.TrodAll enc P W' b a hd f.resultTypes.toList ((Value.bool true).resultList f.resultTypes.size) (s.fn H g).results []:=by
  intro b a hd;rw [hfn,hr];exact trodAll_cons_mk (p:= []) (shut_bool htb true) trodAll_mk0
 have k:∀ a:Nat→Bool,DataW.TrodVars enc P W' a s.vars (s.fn H g).vars []:=by
  intro a;rw [hvars,hfn];rfl
 refine ⟨g,[],p,[],p,[],j,by rw [Θ];exact d _ _ _,by rw [Θ];exact hargs _ c,by rw [Θ];exact k _,World.keptBut_mono (fun x l=>l) (hb.frame _),fun _=> ?_⟩;refine ⟨ok_one hr rfl (okWide_bool_mk htb _),_,_,([]++p)++ [],⟨[]++p,[],trodAll_append (hargs _ (fun _ _=>rfl)) (d _ _ _),by simpa using k _,rfl, ?_, ?_⟩, ?_⟩
 ·intro b h hp;have i:MemPlace.cell b h ∈ p:=by simpa using hp
  rw [hb.frozen (e _ i)];exact r b h i
 ·intro v;simpa using o v
 ·intro x l _;simpa using l
end AM
