/- The machine and its soundness. -/
import Derived.Test.YtcpedihclbogjaaGreatDoorM3
import Derived.Recover
import Derived.ProofKit
import Derived.OpenShut
import Derived.LaidLaws
import Derived.LaidSub
import Derived.Lib.LaidTab
set_option linter.unusedSimpArgs false
set_option linter.unusedVariables false
open Bool renaming and_eq_true->τ,not_eq_true'->Xqs
open Nat renaming beq->Xqk,zero_le->Xq7,lt_of_lt_of_le->υ,sub_zero->Xzg
open List renaming mem_of_getElem?->Xqm,flatMap_cons->Xxx,flatMap_nil->Xkj,append_nil->Xqd,range->Xqo,getElem?_map->Xqw,map_cons->Xqg,flatMap_map->Yq3,getElem?_range->Xzc,mem_cons_self->Xjp,mem_cons_of_mem->Xx2,getElem?_take->Xjq,getElem?_drop->Xj5,all_cons->Xzr
open Option renaming map_eq_some_iff->Xqq,map_some->Xjm
namespace AM
open Go
theorem zK {α:Type} {P:Program} {w:World} (f:α->Sem Value):∀ (l:List α) (vs:List Value),l.length=vs.length->(∀ (i:Nat) (x:α) (v:Value),l[i]? =some x->vs[i]? =some v->(f x).run P w= .ok v w)->(l.mapM f).run P w= .ok vs w
 | [],[],_,_=>rfl
 |a::l,v::vs,hl,h=>by
  rw [List.mapM_cons,Sem.run_bind,h 0 a v rfl rfl,Result.andThen_ok,Sem.run_bind,zK f l vs (by simpa using hl) λi x u c b=>h (i+1) x u (by simpa using c) (by simpa using b),Result.andThen_ok];rfl
 | [],_::_,hl,_=>by simp at hl
 |_::_,[],hl,_=>by simp at hl
def zJ (tmps:Array Value):ResultVar->Sem Value
 | .tmp t=>pure (tmps.getD t undef)
 | .cell a t=>do loadVar t (<- asAddr (tmps.getD a undef))
def abd (vs:List Value):Value:=match vs with| [v]=>v|vs=> .tuple vs.toArray
theorem TQ (fn:Func) (tmps:Array Value):results fn tmps=(do let vs <- fn.results.mapM (zJ tmps);pure (if h:vs.size=1 then vs[0] else .tuple vs)):=by
 unfold results;congr 2
theorem oV {P:Program} {w:World} {fn:Func} {tmps:Array Value} {vs:List Value} (a:fn.results.toList.length=vs.length)
  (h:∀ (i:Nat) (r:ResultVar) (v:Value),fn.results.toList[i]? =some r->vs[i]? =some v->(zJ tmps r).run P w= .ok v w):
  (results fn tmps).run P w= .ok (abd vs) w:=by
 rw [TQ,Array.mapM_eq_mapM_toList];simp only [bind_map_left];rw [Sem.run_bind,zK _ _ vs a h,Result.andThen_ok]
 match vs with
 | []=>rfl
 | [v]=>rfl
 |_::_::_=>simp [abd]
theorem QC {S:aO} {m:aW} {rd c:dK} {w:World} (h:∀ b B,rd b=some B->c b=some B):iV (dL S m rd w) (dL S m c w):=by
 intro k o v a;unfold dL at a ⊢;split at a
 .rename_i u f;exact a
 .rename_i f;split at a
  .rename_i i;obtain ⟨b,B,e,g,d⟩:=i;rw [if_pos ⟨b,B,h b B e,g,d⟩];exact a
  .cases a
def cl (rd:dK) (v:AV):List Nat:=wW rd 6 (jK (eG v))
inductive J9 (base:Nat) (rd:dK) (all:List Nat):AV->AV->Prop
 |own {b n:Nat} {B:aU}:rd b=some B->base<=b->B.fro=false->B.pr=true->gq all b=1->0<B.esz->J9 base rd all (.ref b B.ver 0 n) (.own (B.cells.take (n*B.esz)) n B.esz)
 |low {v:AV}:(∀ b ∈ eG v,b<base)->J9 base rd all v v
 |frz {v v':AV}:(∀ b ∈ cl rd v,base<=b)->frz (λb=>match rP (cl rd v) b with|true=>rd b|false=>none) 6 v=some v'->J9 base rd all v v'
theorem Xm {base:Nat} {rd:dK} {v a:AV} (h:adY base rd v=some a):(∀ b ∈ cl rd v,base<=b)/\frz (λb=>match rP (cl rd v) b with|true=>rd b|false=>none) 6 v=some a:=by
 unfold adY at h;dsimp only at h;split at h
 .rename_i d;exact ⟨λb c=>gG (List.all_eq_true.1 d b c),h⟩
 .cases h
theorem KQ {base:Nat} {rd:dK} {all:List Nat} {v a:AV} (h:(match (eG v).all (λb=>Nat.blt b base) with|true=>some v|false=>adY base rd v)=some a):J9 base rd all v a:=by
 split at h
 .rename_i d;cases h;exact .low λb c=>gI (List.all_eq_true.1 d b c)
 .obtain ⟨e,f⟩:=Xm h;exact .frz e f
theorem BN {base:Nat} {rd:dK} {all:List Nat} {v d:AV} (h:vI base rd all v=some d):J9 base rd all v d:=by
 unfold vI at h;dsimp only at h;split at h
 .rename_i b ver n;split at h
  .rename_i B g;split at h
   .rename_i c;cases h;simp only [τ,Xqs] at c;obtain ⟨⟨⟨⟨⟨i,a⟩,f⟩,e⟩,h5⟩,j⟩:=c;have a:=aN a;subst a;exact .own g (gG i) f e (aN h5) (gI j)
   .exact KQ h
  .cases h
 .exact KQ h
theorem yI {l:List Nat} {b:Nat} (h:b ∈ l):1<=gq l b:=by
 unfold gq;have:b ∈ l.filter (Xqk b):=by rw [List.mem_filter];exact ⟨h,Nat.beq_refl b⟩
 exact List.length_pos_of_mem this
theorem vF {l a:List Nat} {b:Nat}:gq (l++a) b=gq l b+gq a b:=by simp [gq,List.filter_append]
theorem Dz {α:Type} {f:α->List Nat} {b:Nat}:∀ (vs:List α) (i j:Nat) (v v':α),vs[i]? =some v->vs[j]? =some v'->i ≠ j->b ∈ f v->b ∈ f v'->2<=gq (vs.flatMap f) b
 | [],i,j,v,v',h,_,_,_,_=>by simp at h
 | a::r,i,j,v,v',hi,hj,hne,hb,hb'=>by
  have c:∀ (k:Nat) (u:α),r[k]? =some u->b ∈ f u->1<=gq (r.flatMap f) b:=by
   intro k u d e;exact yI (List.mem_flatMap.2 ⟨u,Xqm d,e⟩)
  rw [Xxx,vF];cases i with
  |zero=>
   simp at hi;subst hi;cases j with
   |zero=>exact absurd rfl hne
   |succ j=>have:=c j v' (by simpa using hj) hb';have:=yI hb;omega
  | succ i=>
   cases j with
   |zero=>simp at hj;subst hj;have:=c i v (by simpa using hi) hb;have:=yI hb';omega
   |succ j=>
    have:=Dz r i j v v' (by simpa using hi) (by simpa using hj) (by omega) hb hb';omega
def mJ:List AV->List AV->List (Nat × aU)
 |v::r,.own xs _ esz::q=>(match v with| .ref b _ _ _=> [(b,NY xs esz)]|_=> [])++mJ r q
 |_::r,_::q=>mJ r q
 |_,_=> []
theorem jX {v x:AV} {r q:List AV} (h:∀ xs k e,x ≠ .own xs k e):mJ (v::r) (x::q)=mJ r q:=by
 cases x<;>first|rfl|exact absurd rfl (h _ _ _)
section
variable {P:Program} {ap:AP} {base:Nat} {rd:dK} {all:List Nat}
theorem z_ {g:dK} {m:aW} {S:aO} {x:AV} {v:Value} (h:VR g m S x v):∀ xs k e,x ≠ .own xs k e:=by
 rintro xs k e rfl;simp [VR] at h
theorem GL {S:aO} {x:AV} {v:Value} (h:PR S x v):∀ xs k e,x ≠ .own xs k e:=by
 rintro xs k e rfl;simp [PR] at h
end
end AM
namespace AM
open Go
theorem IM {b:Nat}:∀ (l acc:List Nat),(b ∈ l\/b ∈ acc)->b ∈ l.foldl Fq acc
 | [],acc,h=>by simpa using h
 | a::r,acc,h=>by
  simp only [List.foldl_cons];refine IM r _ ?_;rcases h with h|h
  .rcases List.mem_cons.1 h with rfl|h
   .right;unfold Fq;split
    .rename_i c;exact jf.1 c
    .simp
   .exact .inl h
  .right;obtain h':=h;unfold Fq;split
   .exact h
   .simp [h]
theorem Ti {l:List Nat} {b:Nat} (h:b ∈ l):b ∈ jK l:=IM l [] (.inl h)
theorem NQ (l:List Nat):(jK l).Nodup:=(rY l [] (by simp)).1
theorem aaN {rd:dK} {v:AV} {b:Nat} (h:b ∈ eG v):b ∈ cl rd v:=by
 obtain ⟨_,t,a⟩:=xB rd 6 (jK (eG v)) (NQ _);unfold cl;rw [a];exact List.mem_append.2 (.inl (Ti h))
theorem D9:∀ {vs l:List AV} {b:Nat} {Bo:aU},(b,Bo) ∈ mJ vs l->∃ ver i n c k e,(AV.ref b ver i n,AV.own c k e) ∈ vs.zip l/\Bo=NY c e
 | [],l,b,Bo,h=>by cases l<;>simp [mJ] at h
 |v::r,[],b,Bo,h=>by simp [mJ] at h
 | v ::r,x::q,b,Bo,h=>by
  rcases kD x with ⟨c,k,e,rfl⟩|hx
  .simp only [mJ,List.mem_append] at h;rcases h with h|h
   .cases v with
    |ref b' ver i n=>
     simp at h;obtain ⟨rfl,rfl⟩:=h;exact ⟨ver,i,n,c,k,e,by simp,rfl⟩
    |_=>simp at h
   .obtain ⟨ver,i,n,a,f,e',g,d⟩:=D9 h;exact ⟨ver,i,n,a,f,e',by simp [g],d⟩
  .rw [jX hx] at h;obtain ⟨ver,i,n,a,f,e',g,d⟩:=D9 h;exact ⟨ver,i,n,a,f,e',by simp [g],d⟩
theorem I5 {rd:dK} {b:Nat}:∀ (vs l:List AV),gq ((mJ vs l).flatMap λq=> [q.1]) b<=gq (vs.flatMap (cl rd)) b
 | [],l=>by cases l<;>simp [mJ,gq]
 |v::r,[]=>by simp [mJ,gq]
 | v :: r,x::q=>by
  have d:=I5 (rd:=rd) (b:=b) r q;rw [Xxx,vF];rcases kD x with ⟨f,k,e,rfl⟩|hx
  .simp only [mJ,List.flatMap_append,vF];cases v with
   | ref b' ver i n=>
    simp only [Xxx,Xkj,Xqd];have:gq [b'] b<=gq (cl rd (.ref b' ver i n)) b:=by
     by_cases hb:b=b'
     .subst hb;have a:gq [b] b=1:=by simp [gq]
      rw [a];exact yI (aaN (by simp [eG]))
     .have a:gq [b'] b=0:=by
       have:Xqk b b'=false:=by
        cases c:Xqk b b' with
        |false=>rfl
        |true=>exact absurd (aN c) hb
       simp [gq,this]
      omega
    omega
   |_=>simp [gq] at*;omega
  .rw [jX hx];omega
theorem Jc:∀ (vs l:List AV) (n:Nat),vs.length=l.length->(∀ v x,(v,x) ∈ vs.zip l->(∃ c k e,x= .own c k e)->∃ b ver i n,v= .ref b ver i n)->(fK n l).2=(mJ vs l).map (·.2)
 | [],[],n,_,_=>by simp [fK,mJ]
 | v::r,x::q,n,hl,h=>by
  have d:=λn=>Jc r q n (by simpa using hl) λv x f a=>h v x (by simp [f]) a
  rcases kD x with ⟨c,k,e,rfl⟩|a
  .obtain ⟨b,ver,i,g,rfl⟩:=h v _ (by simp) ⟨c,k,e,rfl⟩;simp only [fK,mJ,d];simp
  .rw [bJ n a,jX a];exact d n
 | [],_::_,_,hl,_=>by simp at hl
 |_::_,[],_,hl,_=>by simp at hl
theorem NW {rd gh gf:dK} {m u:aW} {S S':aO}:∀ (vs l:List AV) (cvs:List Value) (n:Nat),vs.length=l.length->bu rd m S vs cvs->
  (∀ v x,(v,x) ∈ vs.zip l->(∃ a k e,x= .own a k e)->∃ b ver n,v= .ref b ver 0 n/\∃ a e,x= .own a n e)->
  (∀ v x c,(v,x) ∈ vs.zip l->(∀ a k e,x ≠ .own a k e)->VR rd m S v c->VR gh u S' x c)->
  (∀ (k b:Nat) (Bo:aU),(mJ vs l)[k]? =some (b,Bo)->∀ ver o c,VR rd m S (.ref b ver 0 o) c->(∃ a e,(AV.ref b ver 0 o,AV.own a o e) ∈ vs.zip l)->VR gf u S' (.ref (n+k) 0 0 o) c)->jm gh gf u S' n l cvs
 | [],[],[],n,_,_,_,_,_=>by simp [jm]
 | v::r,x::q,c::cs,n,hl,hv,ho,hx,hr=>by
  simp only [bu] at hv;rcases kD x with ⟨a,k,e,rfl⟩|hxo
  .obtain ⟨b,ver,o,rfl,w,e',y⟩:=ho v _ (by simp) ⟨a,k,e,rfl⟩;cases y;simp only [jm];refine ⟨?_, ?_⟩
   .have:=hr 0 b (NY a e) (by simp [mJ]) ver k c hv.1 ⟨a,e,by simp⟩;rwa [Nat.add_zero] at this
   .refine NW r q cs (n+1) (by simpa using hl) hv.2 (λv x i=>ho v x (by simp [i])) (λv x c i=>hx v x c (by simp [i])) ?_;intro j t Bo p d g s f h;have:=hr (j+1) t Bo (by simpa [mJ] using p) d g s f (by obtain ⟨a,e,h⟩:=h;exact ⟨a,e,by simp [h]⟩);rwa [show n+(j+1)=n+1+j by omega] at this
  .rw [dh hxo];refine ⟨hx v x c (by simp) hxo hv.1, ?_⟩;refine NW r q cs n (by simpa using hl) hv.2 (λv x i=>ho v x (by simp [i])) (λv x c i=>hx v x c (by simp [i])) ?_;intro j t Bo p d g s f h;exact hr j t Bo (by rw [jX hxo];exact p) d g s f (by obtain ⟨a,e,h⟩:=h;exact ⟨a,e,by simp [h]⟩)
 | [],_::_,_,_,hl,_,_,_,_=>by simp at hl
 |_::_,[],_,_,hl,_,_,_,_=>by simp at hl
 | [],[],_::_,_,_,hv,_,_,_=>by simp [bu] at hv
 |_::_,_::_,[],_,_,hv,_,_,_=>by simp [bu] at hv
theorem PV {α β:Type} {f:α->Option β}:∀ {l:List α} {l':List β},lQ f l=some l'->∀ x y,(x,y) ∈ l.zip l'->f x=some y
 | [],l',h,x,y,hm=>by simp at hm
 | a::r,l',h,x,y,hm=>by
  simp only [lQ] at h;split at h
  .rename_i b c;split at h
   .rename_i q d;cases h;simp only [List.zip_cons_cons,List.mem_cons,Prod.mk.injEq] at hm;rcases hm with ⟨rfl,rfl⟩|hm
    .exact c
    .exact PV d x y hm
   .cases h
  .cases h
theorem Wp {α β:Type} {l:List α} {a:List β} {x:α} {y:β} (h:(x,y) ∈ l.zip a):∃ i:Nat,l[i]? =some x/\a[i]? =some y:=by
 obtain ⟨i,b⟩:=List.mem_iff_getElem?.1 h;rw [List.getElem?_zip_eq_some] at b;exact ⟨i,b⟩
theorem ac0 {g:dK} {m:aW} {S:aO} {l:List AV} {vs:List Value} (h:bu g m S l vs) {x:AV} (a:x ∈ l):∃ v,VR g m S x v:=by
 obtain ⟨i,c⟩:=List.mem_iff_getElem?.1 a;obtain ⟨v,_,b⟩:=uZ h i c;exact ⟨v,b⟩
end AM
namespace AM
open Go
section
variable {P:Program} {ap:AP}
theorem Ah {h0 G:List aU} {hp:Hp} {m m0:aW} {S S0:aO} {w w0:World} {vs l:List AV} {cvs:List Value} (U:b_ ap (look hp) m S w) (z:Fr (bz h0) m0 S0 w0 (look hp) m S w) (hv:bu (look hp) m S vs cvs)
  {N:Nat} (hN:h0.length<=N) (hl:lQ (vI N (look hp) (vs.flatMap (cl (look hp)))) vs=some l) (hh':lQ (look hp) (Xqo N)=some G) (hbase:G.all (λB=>B.pr||(cZ B.cells).all λb=>Nat.blt b N)=true):
  ∃ m' S',b_ ap (bz (G++(fK G.length l).2)) m' S' w/\Fr (bz h0) m0 S0 w0 (bz (G++(fK G.length l).2)) m' S' w/\jm (bz G) (bz (G++(fK G.length l).2)) m' S' G.length l cvs:=by
 have W:=(jH hl).1;have hz:∀ v x,(v,x) ∈ vs.zip l->J9 N (look hp) (vs.flatMap (cl (look hp))) v x:=λv x D=>BN (PV hl v x D)
 have J:∀ v x,(v,x) ∈ vs.zip l->(∃ M k e,x= .own M k e)->∃ (b n:Nat) (B:aU),v= .ref b B.ver 0 n/\look hp b=some B/\N<=b/\B.fro=false/\B.pr=true/\gq (vs.flatMap (cl (look hp))) b=1/\0<B.esz/\x= .own (B.cells.take (n*B.esz)) n B.esz:=by
  rintro v x D ⟨M,k,e,rfl⟩
  obtain ⟨c,R⟩:=ac0 hv (List.of_mem_zip D).1;generalize hxe:AV.own M k e=x at D;cases hz v x D with
  |own a d p t h5 O=>exact ⟨_,_,_,rfl,a,d,p,t,h5,O,rfl⟩
  |low a=>exact absurd hxe.symm (z_ R _ _ _)
  |frz a d=>
   refine absurd hxe.symm (GL (nJ U (λb B g=> ?_) 6 v c x d R) _ _ _);split at g
   .exact g
   .cases g
 generalize I:mJ vs l=obs;have hbs:∀ n,(fK n l).2=obs.map (·.2):=by
  intro n;rw [<- I];refine Jc vs l n W.symm λv x D X=> ?_
  obtain ⟨b,n',B,a,_⟩:=J v x D X;exact ⟨b,_,0,n',a⟩
 rw [hbs];have A:∀ b Bo,(b,Bo) ∈ obs->∃ (n:Nat) (B:aU),look hp b=some B/\N<=b/\B.fro=false/\B.pr=true/\gq (vs.flatMap (cl (look hp))) b=1/\0<B.esz/\Bo=NY (B.cells.take (n*B.esz)) B.esz/\(AV.ref b B.ver 0 n,AV.own (B.cells.take (n*B.esz)) n B.esz) ∈ vs.zip l:=by
  intro b Bo D;rw [<- I] at D;obtain ⟨ver,i,n,M,k,e,a,d⟩:=D9 D;obtain ⟨b',n',B,p,t,h5,O,h7,T,V,C⟩:=J _ _ a ⟨M,k,e,rfl⟩;cases p;cases C;exact ⟨_,B,t,h5,O,h7,T,V,d,a⟩
 have hobd:∀ (k Y b:Nat) (Bo Bo':aU),obs[k]? =some (b,Bo)->obs[Y]? =some (b,Bo')->k=Y:=by
  intro k Y b Bo Bo' a d;obtain ⟨n,B,_,_,_,_,h5,_⟩:=A b Bo (Xqm a);by_cases s:k=Y
  .exact s
  .have p:=Dz (f:=λq:Nat × aU=> [q.1]) obs k Y _ _ a d s (b:=b) (by simp) (by simp);have t:=I5 (rd:=look hp) (b:=b) vs l;rw [I] at t;omega
 have hobx:∀ b Bo,(b,Bo) ∈ obs->∀ v x,(v,x) ∈ vs.zip l->(∀ M k e,x ≠ .own M k e)->b ∉ cl (look hp) v:=by
  intro b Bo D v x hvx X g;obtain ⟨n,B,_,_,_,_,h5,_,_,O⟩:=A b Bo D;obtain ⟨i,h7,T⟩:=Wp O;obtain ⟨j,V,C⟩:=Wp hvx;have hne:i ≠ j:=by
   rintro rfl
   rw [T] at C;cases C;exact X _ _ _ rfl
  have:=Dz (f:=cl (look hp)) vs i j _ _ h7 V hne (b:=b) (aaN (by simp [eG])) g;omega
 have hl0:G.length=N:=by rw [(jH hh').1];simp
 have K:∀ b,b<N->∃ B,look hp b=some B/\bz G b=some B:=by
  intro b g;obtain ⟨B,a,d⟩:=(jH hh').2 b b (by simp [g]);exact ⟨B,d,a⟩
 have hlow':∀ b B,bz G b=some B->b<N/\look hp b=some B:=by
  intro b B g;have E:b<N:=by
   have:=(List.getElem?_eq_some_iff.1 g).1;omega
  obtain ⟨B',a,d⟩:=K b E;rw [g] at d;cases d;exact ⟨E,a⟩
 let rdF:dK:=open Classical in λb=>if ∃ v x,(v,x) ∈ vs.zip l/\(∀ M k e,x ≠ .own M k e)/\b ∈ cl (look hp) v/\∀ y ∈ cl (look hp) v,N<=y then look hp b else none
 have Q:∀ b B,rdF b=some B->look hp b=some B/\N<=b/\∀ Bo,(b,Bo) ∉ obs:=by
  intro b B g;dsimp only [rdF] at g;split at g
  .rename_i R;obtain ⟨v,x,a,d,p,t⟩:=R;exact ⟨g,t b p,λBo D=>hobx b Bo D v x a d p⟩
  .cases g
 have r:=qo S m rdF w
 let m':aW:=λi=>if i<N then m i else m ((obs.map (·.1)).getD (i - N) 0)
 have hm'lo:∀ i,i<N->m' i=m i:=λi F=>if_pos F
 have hm'hi:∀ (k b:Nat) (Bo:aU),obs[k]? =some (b,Bo)->m' (N+k)=m b:=by
  intro k b Bo s;show (if _ then _ else _)=_;rw [if_neg (by omega),show N+k - N=k by omega,List.getD_eq_getElem?_getD,Xqw,s];rfl
 have hgf:∀ i Bi,bz (G++obs.map (·.2)) i=some Bi->(i<N/\look hp i=some Bi/\bz G i=some Bi)\/(∃ k b,i=N+k/\obs[k]? =some (b,Bi)):=by
  intro i Bi F;by_cases E:i<N
  .rw [fH (by omega)] at F;exact .inl ⟨E,(hlow' i Bi F).2,F⟩
  .rw [jE (by omega),hl0] at F;right;refine ⟨i - N, ?_⟩;have hi':(obs.map (·.2))[i - N]? =some Bi:=F;rw [Xqw,Xqq] at hi';obtain ⟨⟨b,Bo⟩,a,d⟩:=hi';exact ⟨b,by omega,by rw [a];simp at d;rw [d]⟩
 have hgfk:∀ (k b:Nat) (Bo:aU),obs[k]? =some (b,Bo)->bz (G++obs.map (·.2)) (N+k)=some Bo:=by
  intro k b Bo s;rw [jE (by omega),hl0,show N+k - N=k by omega];show (obs.map (·.2))[k]? =_;rw [Xqw,s];rfl
 have L:∀ i Bi,bz (G++obs.map (·.2)) i=some Bi->∃ b B,look hp b=some B/\m' i=m b/\((i<N/\b=i/\Bi=B)\/(N<=b/\∃ k,i=N+k/\obs[k]? =some (b,Bi))):=by
  intro i Bi F;rcases hgf i Bi F with ⟨a,d,p⟩|⟨k,b,rfl,s⟩
  .exact ⟨i,Bi,d,hm'lo i a,.inl ⟨a,rfl,rfl⟩⟩
  .obtain ⟨n,B,a,d,_⟩:=A b Bi (Xqm s);exact ⟨b,B,a,hm'hi k b Bi s,.inr ⟨d,k,rfl,s⟩⟩
 refine ⟨m',dL S m rdF w, ?_, ?_, ?_⟩
 .refine ⟨?_, ?_,λk o v h=>sS U h, ?_, ?_⟩
  .intro i j Bi Bj F hj e;obtain ⟨b,B,a,d,p⟩:=L i Bi F;obtain ⟨b',B',h1',h2',h3'⟩:=L j Bj hj;rw [d,h2'] at e;have:=U.inj b b' B B' a h1' e;subst this;rcases p with ⟨t,rfl,_⟩|⟨t,k,rfl,s⟩<;>rcases h3' with ⟨h4',rfl,_⟩|⟨h4',Y,rfl,hk'⟩
   .rfl
   .omega
   .omega
   .rw [hobd k Y b _ _ s hk']
  .intro i Bi F;rcases hgf i Bi F with ⟨a,d,p⟩|⟨k,b,rfl,s⟩
   .rw [hm'lo i a];obtain ⟨⟨cur,e,us,rest,k1,k2,k3,k4,k5,k6⟩,k7,k8⟩:=U.blk i Bi d;refine ⟨⟨cur,e,us,rest,k1,k2,λhp=>bD r _ (k3 hp), ?_,k5,k6⟩,k7,k8⟩;cases hpr:Bi.pr with
    |true=>exact bU _ (bD r _ (k3 hpr))
    |false=>
     refine qh r _ (λb g=> ?_) k4;have h5:=List.all_eq_true.1 hbase Bi (Xqm p);rw [hpr] at h5;simp only [Bool.false_or] at h5;have O:=gI (List.all_eq_true.1 h5 b g);obtain ⟨B,h7,T⟩:=K b O;exact ⟨by rw [fH (by omega),T,h7],hm'lo b O⟩
   .obtain ⟨n,B,a,d,p,t,h5,O,rfl,_⟩:=A b Bi (Xqm s);rw [hm'hi k b _ s];obtain ⟨⟨cur,e,us,rest,k1,k2,k3,k4,k5,k6⟩,k7,k8⟩:=U.blk b B a;have hp:=bD r _ (lW (n*B.esz) (k3 t));refine ⟨⟨cur,e,us.take (n*B.esz),us.drop (n*B.esz)++rest,k1, ?_,λ_=>hp,bU _ hp,λhz u hu=>k5 hz u (List.mem_of_mem_take hu),k6⟩,λ_=>rfl,Xq7 _⟩;rw [<- List.append_assoc,List.take_append_drop];exact k2
  .intro i Bi F o v ho;obtain ⟨b,B,a,d,p⟩:=L i Bi F;rw [d] at ho;have hno:rdF b=none:=by
    cases hr:rdF b with
    |none=>rfl
    |some B'=>
     obtain ⟨_,t,h5⟩:=Q b B' hr;rcases p with ⟨O,rfl,_⟩|⟨_,k,_,s⟩
     .omega
     .exact absurd (Xqm s) (h5 _)
   have hSo:S (m b).1 o=some v:=by
    rcases fU ho with h|⟨_,b',B',t,h5,_⟩
    .exact h
    .have:=U.inj b' b B' B (Q b' B' t).1 a h5;subst this;rw [hno] at t;cases t
   obtain ⟨h7,T⟩:=U.own b B a o v hSo;rcases p with ⟨_,rfl,rfl⟩|⟨_,k,_,s⟩
   .exact ⟨h7,T⟩
   .obtain ⟨n,B2,V,_,C,_⟩:=A b _ (Xqm s);rw [a] at V;cases V;rw [h7] at C;cases C
  .intro k M s;obtain ⟨us,a,d⟩:=U.glob k M s;exact ⟨us,bD r _ a,d.mono r⟩
 .refine ⟨?_,z.sle.trans r,z.os,z.tape,z.output,z.size,z.rest, ?_, ?_⟩
  .intro b B0 g;have E:b<N:=υ (List.getElem?_eq_some_iff.1 g).1 hN;obtain ⟨B,a,d,p⟩:=z.ge b B0 g;obtain ⟨B',t,h5⟩:=K b E;rw [a] at t;cases t;exact ⟨B,by rw [fH (by omega)];exact h5,d,by rw [hm'lo b E];exact p⟩
  .intro i Bi F;obtain ⟨b,B,a,d,p⟩:=L i Bi F;rw [d];rcases z.img b B a with h|⟨B0,t,h5⟩
   .exact .inl h
   .have E:b<N:=υ (List.getElem?_eq_some_iff.1 t).1 hN;rcases p with ⟨_,rfl,_⟩|⟨O,_⟩
    .exact .inr ⟨B0,t,h5⟩
    .omega
  .intro k o v hv;rcases fU hv with h|⟨_,b,B,a,d,_⟩
   .exact z.sealN k o v h
   .obtain ⟨p,t,_⟩:=Q b B a;rcases z.img b B p with h|⟨B0,h5,_⟩
    .exact .inr (.inl (d ▸ h))
    .have:=(List.getElem?_eq_some_iff.1 h5).1;omega
 .rw [hl0];refine NW (rd:=look hp) (m:=m) (S:=S) vs l cvs N W.symm hv ?_ ?_ ?_
  .intro v x D X;obtain ⟨b,n,B,a,_,_,_,_,_,_,d⟩:=J v x D X;exact ⟨b,B.ver,n,a,_,_,d⟩
  .intro v x c D X R;cases hz v x D with
   |own _ _ _ _ _ _=>exact absurd rfl (X _ _ _)
   |low a=>
    refine Bd r v (λb g=> ?_) R;obtain ⟨B,d,p⟩:=K b (a b g);exact ⟨by rw [p,d],hm'lo b (a b g)⟩
   | frz a d=>
    have p:=nJ U (λb B g=>by split at g;exact g;cases g) 6 v c x d R;refine iE x (aZ (QC λb B g=> ?_) x p);split at g
    .rename_i hm2;dsimp only [rdF];rw [if_pos ⟨v,x,D,X,jf.1 hm2,a⟩];exact g
    .cases g
  .rw [I];intro k b Bo s ver n' c R Z;obtain ⟨n,B,a,d,p,t,h5,O,rfl,h7⟩:=A b Bo (Xqm s);obtain ⟨M,e,Z⟩:=Z;have hver:ver=B.ver:=by
    obtain ⟨b2,n2,B2,e1,e2,_⟩:=J _ _ Z ⟨M,_,e,rfl⟩;cases e1;rw [a] at e2;cases e2;rfl
   subst hver;simp only [VR] at R ⊢;obtain ⟨B',T,_,V,C⟩:=R;rw [a] at T;cases T;refine ⟨_,hgfk k b _ s,Xq7 _,V,λ_=> ?_⟩;rw [hm'hi k b _ s];exact C rfl
end
end AM
namespace AM
open Go
section
variable {P:Program} {ap:AP}
theorem J4 (l:iy P ap) {env:ji} {hp:Hp} {m:aW} {S:aO} {w:World} {tmps:Array Value} (A:b_ ap (look hp) m S w) (u:∀ t,VR (look hp) m S (env.get t) (tmps.getD t undef)) {r:ResultVar} {v:AV} {bs:List Bool}
  (h:CG ap env hp r=some (v,bs)) (hbs:∀ b ∈ bs,b=true):∃ cv,(zJ tmps r).run P w= .ok cv w/\VR (look hp) m S v cv:=by
 cases r with
 |tmp t=>
  simp only [CG,Option.some.injEq,Prod.mk.injEq] at h;obtain ⟨rfl,rfl⟩:=h;exact ⟨_,rfl,u t⟩
 | cell a t=>
  simp only [CG] at h;have G:=bind_some h;clear h;obtain ⟨ti,n,h⟩:=G;simp only [Xqq] at h;obtain ⟨⟨I,ups,E⟩,j,q⟩:=h;simp only [Prod.mk.injEq] at q;obtain ⟨rfl,rfl⟩:=q;obtain ⟨i,d,z,F⟩:=dQ l n;have c:=u a;obtain ⟨_,cv,s,D⟩:=EJ A (λb B C=>C) F c j hbs;refine ⟨cv, ?_,D⟩;have g:∃ x,tmps.getD a undef= .pointer (some x):=by
   unfold PQ at j;split at j
   .rename_i J p f;rw [f] at c;simp only [VR,PR] at c;obtain ⟨b,o,vs,e,_⟩:=c;exact ⟨_,e⟩
   .rename_i b ver p f;rw [f] at c;simp only [VR] at c;obtain ⟨B,_,_,⟨k,o,e⟩,_⟩:=c;exact ⟨_,e⟩
   .cases j
  obtain ⟨x,y⟩:=g;rw [y] at s;simp only [zJ,y];exact s
theorem tV (a:iy P ap) {env:ji} {hp:Hp} {m:aW} {S:aO} {w:World} {tmps:Array Value} (g:b_ ap (look hp) m S w) (f:∀ t,VR (look hp) m S (env.get t) (tmps.getD t undef)):
  ∀ {rs:List ResultVar} {vs:List (AV × List Bool)},lQ (CG ap env hp) rs=some vs->(∀ b ∈ vs.flatMap (·.2),b=true)->∃ cvs:List Value,rs.length=cvs.length/\bu (look hp) m S (vs.map (·.1)) cvs/\∀ (i:Nat) (r:ResultVar) (v:Value),rs[i]? =some r->cvs[i]? =some v->(zJ tmps r).run P w= .ok v w
 | [],vs,h,_=>by
  simp [lQ] at h;subst h;exact ⟨[],rfl,by simp [bu],λi r v h=>by simp at h⟩
 | r::rs,vs,h,hbs=>by
  simp only [lQ] at h;split at h
  .rename_i q u;split at h
   .rename_i l k;cases h;obtain ⟨v,bs⟩:=q;obtain ⟨cv,s,j⟩:=J4 a g f u (λb d=>hbs b (by simp [d]));obtain ⟨cvs,p,o,h5⟩:=tV a g f k (λb d=>hbs b (by rw [Xxx];exact List.mem_append.2 (.inr d)));refine ⟨cv::cvs,by simp [p],by simp only [Xqg,bu];exact ⟨j,o⟩, ?_⟩;intro i r' n c e;cases i with
    |zero=>simp at c e;subst c;subst e;exact s
    |succ i=>exact h5 i r' n (by simpa using c) (by simpa using e)
   .cases h
  .cases h
theorem YN {gh gf:dK} {m:aW} {S:aO} {n:Nat} {x:AV} {v:Value} (h:jm gh gf m S n [x] [v]):zi gh gf m S n x v/\(kE n x).2=(fK n [x]).2:=by
 rcases kD x with ⟨i,k,e,rfl⟩|hx
 .simp only [jm] at h;exact ⟨h.1,rfl⟩
 .rw [dh hx] at h;rcases Em x with ⟨l,rfl⟩|ht
  .have f:=h.1;simp only [VR] at f;obtain ⟨vs,rfl,g⟩:=f;have key:∀ (l:List AV) (vs:List Value) (n:Nat),bu gh m S l vs->jm gh gf m S n l vs/\(fK n l).2= []:=by
    intro l
    induction l with
    |nil=>intro vs n a;cases vs with
     |nil=>exact ⟨by simp [jm],rfl⟩
     |cons _ _=>simp [bu] at a
    | cons y r ih=>intro vs n a;cases vs with
     |nil=>simp [bu] at a
     |cons u us=>
      simp only [bu] at a;have b:=z_ a.1;obtain ⟨d,c⟩:=ih us n a.2;rw [dh b,bJ n b];exact ⟨⟨a.1,d⟩,c⟩
   obtain ⟨d,c⟩:=key l vs n g;refine ⟨?_, ?_⟩
   .simp only [zi];exact ⟨vs,rfl,d⟩
   .simp only [kE,fK];exact c
  .rw [ni hx ht,jP n hx ht,bJ n hx];exact ⟨h.1,rfl⟩
theorem yZ (rd:dK) (n:Nat):n<=Ym rd n:=by
 obtain ⟨_,t,a⟩:=xB rd 20 (Xqo n) List.nodup_range;unfold Ym;rw [a,List.length_append,List.length_range];exact Nat.le_add_right _ _
theorem zI (j:iy P ap) {h0 s:List aU} {fn:Func} {env:ji} {hp:Hp} {m m0:aW} {S S0:aO} {w w0:World} {tmps:Array Value} {c D:Cx} {out:lG} (h:Gl ap h0.length fn env hp c= .ok (out,s) D) (C:D.Ok):
  c.Ok/\h0.length<=s.length/\(b_ ap (look hp) m S w->Fr (bz h0) m0 S0 w0 (look hp) m S w->(∀ t,VR (look hp) m S (env.get t) (tmps.getD t undef))->
   ∃ cv,(results fn tmps).run P w= .ok cv w/\∃ r S',L9 ap h0 m0 S0 w0 out s r S' w (.returned cv)):=by
 unfold Gl at h;dsimp only at h;split at h
 .rename_i vs G n b;split at h
  .cases h
  .rename_i hbase;obtain ⟨_,I,F,h⟩:=R.bind_ok h;split at h
   .rename_i v f;cases h;obtain ⟨e,d⟩:=Nb F C;have hlen':h0.length<=s.length:=by rw [(jH b).1];simpa using yZ _ _
    refine ⟨e,hlen',λo g A=> ?_⟩;obtain ⟨cvs,B,k,y⟩:=tV j o A n d;have a:(vs.flatMap λq=>wW (look hp) 6 (jK (eG q.1)))=(vs.map (·.1)).flatMap (cl (look hp)):=by rw [Yq3];rfl
    rw [a] at f;obtain ⟨r,S',u,h5,z⟩:=Ah o g k (yZ _ _) f b hbase;have x:cvs.length=1:=by
     have:=di k;have h7:=(jH f).1;simp at h7 this;omega
    match cvs,x with
    | [cv],_=>
     obtain ⟨h7,E⟩:=YN z;refine ⟨cv,oV B y,r,S', ?_⟩;rw [<- E] at u h5;refine ⟨u,h5,cv,rfl, ?_⟩;rw [E];exact h7
   .rename_i l i f;cases h;obtain ⟨e,d⟩:=Nb F C;have hlen':h0.length<=s.length:=by rw [(jH b).1];simpa using yZ _ _
    refine ⟨e,hlen',λo g A=> ?_⟩;obtain ⟨cvs,B,k,y⟩:=tV j o A n d;have a:(vs.flatMap λq=>wW (look hp) 6 (jK (eG q.1)))=(vs.map (·.1)).flatMap (cl (look hp)):=by rw [Yq3];rfl
    rw [a] at f;obtain ⟨r,S',u,h5,z⟩:=Ah o g k (yZ _ _) f b hbase;have p:abd cvs= .tuple cvs.toArray:=by
     match cvs with
     | []=>rfl
     | [cv]=>
      exfalso;have:=di k;have h7:=(jH f).1;simp at h7 this
      match l,i with
      | [],_=>simp at h7;omega
      | [v],i=>exact i v rfl
      |_::_::_,_=>simp at h7;omega
     |_::_::_=>rfl
    refine ⟨_,oV B y,r,S',u,h5, ?_⟩;rw [p];exact ⟨_,rfl,cvs,rfl,z⟩
   .cases h
 .cases h
theorem CB {h0 g:List aU} {v:AV} {hp:Hp} {m m0:aW} {S S0:aO} {w w0:World} {c u:Cx} {out:lG} (h:N7 h0.length v hp c= .ok (out,g) u):
  c=u/\h0.length<=g.length/\(b_ ap (look hp) m S w->Fr (bz h0) m0 S0 w0 (look hp) m S w->∀ cv,VR (look hp) m S v cv->(∀ b ver n,v ≠ .ref b ver 0 n)->
   ∃ q S',L9 ap h0 m0 S0 w0 out g q S' w (.panicked [{v:=cv,recovered:=false}])):=by
 unfold N7 at h;dsimp only at h;split at h
 .rename_i j x a d;split at h
  .cases h
  .rename_i hbase;cases h;have hlen':h0.length<=g.length:=by rw [(jH d).1];simpa using yZ _ _
   refine ⟨rfl,hlen',λt i cv s r=> ?_⟩;have y:lQ (vI (Ym (look hp) h0.length) (look hp) ([v].flatMap (cl (look hp)))) [v]=some [j]:=by
    simp only [Xxx,Xkj,Xqd,lQ];have z:vI (Ym (look hp) h0.length) (look hp) (cl (look hp) v) v=some j:=a;rw [z]
   obtain ⟨q,S',o,h5,p⟩:=Ah t i (vs:= [v]) (cvs:= [cv]) (by simp only [bu];exact ⟨s,trivial⟩) (yZ _ _) y d hbase;have f:∀ xs k e,j ≠ .own xs k e:=by
    rintro xs k e rfl
    cases BN a with
    |own h1 h2 h3 o h5 p=>exact r _ _ _ rfl
    |low h1=>exact z_ s _ _ _ rfl
    |frz h1 h2=>
     exact GL (nJ t (λb B l=>by split at l;exact l;cases l) 6 v cv _ h2 s) _ _ _ rfl
   rw [dh f] at p;rw [bJ _ f] at o h5;exact ⟨q,S',o,h5,cv,rfl,p.1⟩
 .cases h
end
end AM
namespace AM
open Go
def Ko (S:aO):AV->FrameMode->Prop
 | .nilI,u=>u= .returning
 | .ifc t v,u=> ∃ cv,u= .panicking [{v:=cv,recovered:=false}]/\PR S (.ifc t v) cv
 |_,_=>False
def ahw (md md':AV) (u u':FrameMode):Prop:=(md'=md/\u'=u)\/(md'= .nilI/\settle u'= .returning)
structure acW (P:Program) (ap:AP) (f:Nat) (args:List AV) (h:List aU) (out:lG) (h':List aU) (md md':AV):Prop where
 ent:zU P f
 calls:∀ m S w cargs u,b_ ap (bz h) m S w->bu (bz h) m S args cargs->Ko S md u->CallsD P f cargs.toArray u w λe u' w'=>(∃ m' S',L9 ap h m S w out h' m' S' w' e)/\ahw md md' u u'
def uX (P:Program) (ap:AP) (H:dD):Prop:=∀ c md f args h out h' md' c',md ≠ .dead->H c md f args h= .ok (out,h',md') c'->c'.Ok->c.Ok/\acW P ap f args h out h' md md'
structure JM (P:Program) (ap:AP):Prop where
 fn:∀ (f:Nat) (F:AF),ap.fnAt f=some F->P.funcs[f]? =some F.fn
 body:∀ (f:Nat) (F:AF),ap.fnAt f=some F->∃ c,F.fn.body=some c/\dV F.fn.ntmps c=true
 name:∀ (f:Nat) (F:AF),ap.fnAt f=some F->(F.fn.name== "runtime.NumGoroutine")=false
section
variable {P:Program} {ap:AP} {H:dD}
theorem Kv (a:JM P ap) {f:Nat} {F:AF} (b:ap.fnAt f=some F):zU P f:=by
 intro args w;obtain ⟨c,d,_⟩:=a.body f F b;unfold callFunc;rw [Sem.run_bind];have:(program).run P w= .ok P w:=rfl;rw [this,Result.andThen_ok,a.fn f F b];dsimp only;rw [a.name f F b];simp [d]
theorem EH (d:iy P ap) (j:uX P ap H):
  ∀ (dfs:List (Nat × List AV)) (mode mode':AV) (hp hp':Hp) (c c':Cx),SY ap H dfs mode hp c= .ok (mode',hp') c'->c'.Ok->c.Ok/\
   ∀ (h0:List aU) (fn:Func) (tmps:Array Value) (env:ji) (RR:Ending->World->Prop) (m0:aW) (S0:aO) (w0:World) m S w a u,b_ ap (look hp) m S w->Fr (bz h0) m0 S0 w0 (look hp) m S w->(∀ t,VR (look hp) m S (env.get t) (tmps.getD t undef))->iO (look hp) m S dfs a->Ko S mode u->
   (∀ m' S' w' u',b_ ap (look hp') m' S' w'->Fr (bz h0) m0 S0 w0 (look hp') m' S' w'->(∀ t,VR (look hp') m' S' (env.get t) (tmps.getD t undef))->Ko S' mode' u'->Leaves P fn tmps RR [] u' w')->Leaves P fn tmps RR a u w
 | [],mode,mode',hp,hp',c,c',h,hc=>by
  cases h;refine ⟨hc,λh0 fn tmps env RR m0 S0 w0 m S w a u g b f hd e i=> ?_⟩;cases a with
  |nil=>exact i m S w u g b f e
  |cons _ _=>simp [iO] at hd
 |_::_,mode,mode',hp,hp',c,c',h,hc=>by cases h
theorem fG {n f:Nat} (h:n<=f):∀ (c:Code),dV n c=true->dV f c=true
 | .region _ ops _,hd=>by
  simp only [dV,List.all_eq_true] at hd ⊢;intro o g;have:=hd o g;unfold O7 at this ⊢;split
  .rename_i d e;rw [e] at this;exact Nat.ble_eq_true_of_le (Nat.le_trans (gG this) h)
  .rfl
 | .seq a b,hd=>by simp only [dV,τ] at hd ⊢;exact ⟨fG h a hd.1,fG h b hd.2⟩
 | .cond _ a b,hd=>by simp only [dV,τ] at hd ⊢;exact ⟨fG h a hd.1,fG h b hd.2⟩
 | .block _ b,hd=>by simp only [dV] at hd ⊢;exact fG h b hd
 | .loop b,hd=>by simp only [dV] at hd ⊢;exact fG h b hd
 | .scope b,hd=>by simp only [dV] at hd ⊢;exact fG h b hd
 | .skip,_=>rfl
 | .label _,_=>rfl
 | .exit _,_=>rfl
 | .ret,_=>rfl
 | .rangeFunc _ _ _ _,_=>rfl
 | .goto _,_=>rfl
 | .refuse _,_=>rfl
theorem DV {α:Type}:∀ (l:List α) (j t:Nat),look ((l.zipIdx j).map λ(x,i)=>(i,x)) t=if j<=t then l[t - j]? else none
 | [],j,t=>by simp [look]
 | a::r,j,t=>by
  rw [List.zipIdx_cons,Xqg];simp only [look];cases h:Xqk j t with
  |true=>have:=aN h;subst this;simp
  | false=>
   have b:j ≠ t:=by intro e;subst e;simp at h
   simp only [DV r (j+1) t];by_cases hj:j+1<=t
   .rw [if_pos hj,if_pos (by omega)];obtain ⟨d,hd⟩:∃ d,t - j=d+1:=⟨t - j - 1,by omega⟩
    rw [hd,List.getElem?_cons_succ,show t - (j+1)=d by omega]
   .rw [if_neg hj,if_neg (by omega)]
theorem UY {h:List aU} {args:List AV} {cargs:List Value} {m:aW} {S:aO} {w:World} {md:AV} (f:b_ ap (bz h) m S w) (i:bu (bz h) m S args cargs) (n:Nat):
  look (vJ md args h).hp=bz h/\FR ap (vJ md args h).env (vJ md args h).hp [] (cargs.toArray++Array.replicate (n - cargs.toArray.size) undef).size m S w {tmps:=cargs.toArray++Array.replicate (n - cargs.toArray.size) undef,defers:= []}:=by
 have c:look (vJ md args h).hp=bz h:=by
  funext b;have:=DV h 0 b;simp only [vJ,bz];rw [this,if_pos (Xq7 _),Xzg]
 refine ⟨c,⟨c ▸ f, ?_,by simp [iO],rfl⟩⟩;intro t;rw [c];have j:(vJ md args h).env.get t=(args[t]?).getD .dead:=by
  have:=DV args 0 t;simp only [vJ,ji.get];rw [this,if_pos (Xq7 _),Xzg]
 rw [j];cases g:args[t]? with
 |none=>simp [VR]
 | some x=>
  obtain ⟨v,d,e⟩:=uZ i t g;have a:=(List.getElem?_eq_some_iff.1 d).1;have:(cargs.toArray++Array.replicate (n - cargs.toArray.size) undef).getD t undef=v:=by
   rw [Array.getD_eq_getD_getElem?,Array.getElem?_append_left (by simpa using a)];simp [d]
  rw [this];exact e
theorem BL (k:iy P ap) (L:uX P ap H) {h0 z:List aU} {fn:Func} {e:bI} {s:St} {c G:Cx} {out:lG} {C:AV} (h:F5 ap H h0.length fn e s c= .ok (out,z,C) G) (F:G.Ok):
  c.Ok/\h0.length<=z.length/\∀ m0 S0 w0 m S w a nt,Fr (bz h0) m0 S0 w0 (look s.hp) m S w->FR ap s.env s.hp s.dfs nt m S w a->YK s.hp m S (bodyPostD P fn λe w'=> ∃ y S',L9 ap h0 m0 S0 w0 out z y S' w' e) a w e:=by
 have r:∀ d,((SY ap H s.dfs d s.hp c).bind λ(d,hp) c=>
   match d with
   | .nilI=>(Gl ap h0.length fn s.env hp c).bind λ(o,h) c=> .ok (o,h,s.md) c
   | .ifc t v=>(N7 h0.length (.ifc t v) hp c).bind λ(o,h) c=> .ok (o,h,s.md) c
   |_=> .bad 74)= .ok (out,z,C) G->c.Ok/\h0.length<=z.length/\∀ m0 S0 w0 m S w a nt u,Fr (bz h0) m0 S0 w0 (look s.hp) m S w->FR ap s.env s.hp s.dfs nt m S w a->Ko S d u->Leaves P fn a.tmps (λe w'=> ∃ y S',L9 ap h0 m0 S0 w0 out z y S' w' e) a.defers u w:=by
  intro d j;obtain ⟨⟨mode',hp'⟩,Q,N,j⟩:=R.bind_ok j;dsimp only at j;split at j
  .obtain ⟨⟨o,x⟩,O,A,j⟩:=R.bind_ok j;cases j;obtain ⟨J,i,B⟩:=zI (P:=P) (m:=λ_=>(0,0)) (m0:=λ_=>(0,0)) (S:=λ_ _=>none) (S0:=λ_ _=>none) (w:=default) (w0:=default) (tmps:=#[]) k A F;obtain ⟨q,K⟩:=EH k L s.dfs d _ s.hp hp' c Q N J;refine ⟨q,i,λm0 S0 w0 m S w a nt u f g E=> ?_⟩;refine K h0 fn a.tmps s.env _ m0 S0 w0 m S w a.defers u g.srel f g.env g.dfs E ?_;intro y S' w' T l p M h5;simp only [Ko] at h5;subst h5;obtain ⟨_,_,B⟩:=zI (P:=P) (m:=y) (m0:=m0) (S:=S') (S0:=S0) (w:=w') (w0:=w0) (tmps:=a.tmps) k A F;obtain ⟨cv,I,h7⟩:=B l p M;exact ⟨cv,I,h7⟩
  .rename_i t v;obtain ⟨⟨o,x⟩,O,A,j⟩:=R.bind_ok j;cases j;obtain ⟨rfl,i,_⟩:=CB (ap:=ap) (m:=λ_=>(0,0)) (m0:=λ_=>(0,0)) (S:=λ_ _=>none) (S0:=λ_ _=>none) (w:=default) (w0:=default) A;obtain ⟨q,K⟩:=EH k L s.dfs d _ s.hp hp' c _ N F;refine ⟨q,i,λm0 S0 w0 m S w a nt u f g E=> ?_⟩;refine K h0 fn a.tmps s.env _ m0 S0 w0 m S w a.defers u g.srel f g.env g.dfs E ?_;intro y S' w' T l p M h5;simp only [Ko] at h5;obtain ⟨cv,rfl,I⟩:=h5;obtain ⟨_,_,D⟩:=CB (ap:=ap) (m:=y) (m0:=m0) (S:=S') (S0:=S0) (w:=w') (w0:=w0) A;exact D l p cv (iE _ I) (λb ver n h=>by cases h)
  .cases j
 unfold F5 at h;dsimp only at h;split at h
 .obtain ⟨x,l,p⟩:=r .nilI h;exact ⟨x,l,λm0 S0 w0 m S w a nt f g=>p m0 S0 w0 m S w a nt .returning f g rfl⟩
 .obtain ⟨x,l,p⟩:=r .nilI h;exact ⟨x,l,λm0 S0 w0 m S w a nt f g=>p m0 S0 w0 m S w a nt .returning f g rfl⟩
 .rename_i t v;split at h
  .rename_i V;obtain ⟨x,l,p⟩:=r (.ifc t v) h;refine ⟨x,l,λm0 S0 w0 m S w a nt f g cv U=>p m0 S0 w0 m S w a nt _ f g ⟨cv,rfl, ?_⟩⟩;exact pX (by simpa [eG] using V) U
  .cases h
 .cases h
theorem xx (g:iy P ap) (b:P.follows .mixedOrders=true) (i:JM P ap) (v:ku P ap H) (B:uX P ap H) (lf:Nat):ku P ap λc md f args h=>sD ap H lf md f args h c:=by
 intro c f args h out K t D a A;have a:sD ap H lf .dead f args h c= .ok (out,K,t) D:=a;unfold sD at a;split at a
 .cases a
 .rename_i F p;dsimp only at a;obtain ⟨⟨e,s⟩,L,u,a⟩:=R.bind_ok a;dsimp only at a;obtain ⟨body,x,d⟩:=i.body f F p;have hbody:ax F.fn=body:=by simp [ax,x]
  rw [hbody] at u;obtain ⟨l,j,k⟩:=BL g B a A;obtain ⟨o,_⟩:=gu (nt:=F.fn.ntmps) g b v body d _ _ _ _ _ u l;refine ⟨o,j,Kv i p,λm S w cargs C E=> ?_⟩;obtain ⟨J,n⟩:=UY (md:= .dead) C E F.fn.ntmps;have q:F.fn.ntmps<=(cargs.toArray++Array.replicate (F.fn.ntmps - cargs.toArray.size) undef).size:=by simp;omega
  obtain ⟨_,r⟩:=gu g b v body (fG q body d) _ _ _ _ _ u l;obtain ⟨_,r⟩:=r rfl;refine calls_of_wp_defers (i.fn f F p) x ?_;refine r m S w m S w _ (by rw [J];exact Fr.refl _ _ _ _) n _ ?_;intro I S' w' y G z;exact k m S w I S' w' y _ G z
end
end AM
namespace AM
open Go
section
variable {P:Program} {ap:AP} {H:dD}
theorem Bv (g:iy P ap) (e:P.follows .mixedOrders=true) (j:JM P ap) (l:ku P ap H) (lf:Nat):uX P ap λc md f args h=>sD ap H lf md f args h c:=by
 intro c md f args h out k b i d a m;have a:sD ap H lf md f args h c= .ok (out,k,b) i:=a;unfold sD at a;split at a
 .cases a
 .cases md<;>first|exact absurd rfl d|cases a
end
end AM
namespace AM
open Go
def TY (P:Program) (ap:AP) (lf:Nat) (fs:List Nat):Nat->dD
 |0=>λ_ _ _ _ _=> .bad 90
 | n+1=>λc md f args h=>
  match rP fs f with
  |false=>sD ap (TY P ap lf fs n) lf md f args h c
  |true=>match md,c.ans with
   | .dead,(out,h')::r=> .ok (out,h',.dead) {c with ans:=r,ps:=aG P ap f args h out h'::c.ps}
   |_,_=> .bad 91
theorem Jq {P:Program} {ap:AP} (d:iy P ap) (b:P.follows .mixedOrders=true) (g:JM P ap) (lf:Nat) (k:List Nat):∀ n,ku P ap (TY P ap lf k n)/\uX P ap (TY P ap lf k n)
 |0=> ⟨λ_ _ _ _ _ _ _ _ h=>(by cases h),λ_ _ _ _ _ _ _ _ _ _ h=>(by cases h)⟩
 | n +1=>by
  obtain ⟨o,q⟩:=Jq d b g lf k n;constructor
  .intro c f args h out m e l a i;simp only [TY] at a;split at a
   .exact xx d b g o q lf c f args h out m e l a i
   .split at a
    .cases a;exact ⟨⟨i.bs,λp hp=>i.ps p (by simp [hp])⟩,i.ps _ (by simp)⟩
    .cases a
  .intro c md f args h out m e l j a i;simp only [TY] at a;split at a
   .exact Bv d b g o lf c md f args h out m e l j a i
   .split at a
    .exact absurd rfl j
    .cases a
theorem ajB {P:Program} {ap:AP} (b:iy P ap) (a:P.follows .mixedOrders=true) (d:JM P ap) {lf:Nat} {i:List Nat} {n:Nat} {c g:Cx} {f:Nat} {args:List AV} {h e:List aU} {out:lG} {md:AV}
  (he:sD ap (TY P ap lf i n) lf .dead f args h c= .ok (out,e,md) g) (hc:g.Ok):aG P ap f args h out e:=by
 obtain ⟨j,k⟩:=Jq b a d lf i n;exact (xx b a d j k lf c f args h out e md g he hc).2
def H8:Option AF->Bool
 |some F=>(match F.fn.body with|some c=>dV F.fn.ntmps c|none=>false) && !(F.fn.name== "runtime.NumGoroutine")
 |none=>true
theorem ac6 {P:Program} {ap:AP} {keep:Nat->Bool} (h:(Xqo ap.nty).map ap.ty.get=(Xqo ap.nty).map λi=>match keep i with|true=>acw P i|false=>none):iy P ap:=by
 constructor;intro t ti b;unfold AP.tyAt at b;split at b
 .rename_i c;have d:=gI c;have a:((Xqo ap.nty).map ap.ty.get)[t]? =some (some ti):=by rw [Xqw,Xzc d];simp [b]
  rw [h,Xqw,Xzc d] at a;simp only [Xjm,Option.some.injEq] at a;split at a
  .exact a
  .cases a
 .cases b
theorem adX {P:Program} {ap:AP} {keep:Nat->Bool} (h:(Xqo ap.nfn).map (λi=>(ap.fn.get i).map AF.fn)=(Xqo ap.nfn).map λi=>match keep i with|true=>P.funcs[i]? |false=>none) (l:(Xqo ap.nfn).all (λi=>H8 (ap.fn.get i))=true):JM P ap:=by
 have d:∀ (f:Nat) (F:AF),ap.fnAt f=some F->f<ap.nfn/\ap.fn.get f=some F:=by
  intro f F a;unfold AP.fnAt at a;split at a
  .rename_i g;exact ⟨gI g,a⟩
  .cases a
 have hgood:∀ (f:Nat) (F:AF),ap.fnAt f=some F->H8 (some F)=true:=by
  intro f F a;obtain ⟨e,j⟩:=d f F a;have:=List.all_eq_true.1 l f (by simpa using e);rwa [j] at this
 constructor
 .intro f F a;obtain ⟨e,j⟩:=d f F a;have b:((Xqo ap.nfn).map λi=>(ap.fn.get i).map AF.fn)[f]? =some (some F.fn):=by rw [Xqw,Xzc e];simp [j]
  rw [h,Xqw,Xzc e] at b;simp only [Xjm,Option.some.injEq] at b;split at b
  .exact b
  .cases b
 .intro f F a;have:=hgood f F a;simp only [H8,τ] at this;cases k:F.fn.body with
  |none=>rw [k] at this;cases this.1
  |some c=>rw [k] at this;exact ⟨c,rfl,this.1⟩
 .intro f F a;have:=hgood f F a;simp only [H8,τ,Xqs] at this;exact this.2
end AM
namespace AM
open Go
def kw (P:Program) (ap:AP) (h0:List aU) (n:Nat) (code:Code) (s:St) (e:bI) (s':St):Prop:=∀ nt,n<=nt->ak P ap h0 nt code s e s'
abbrev A8:=List (bI × St)
def oI (P:Program) (ap:AP) (H:dD) (h0:List aU) (keep:List Nat) (lf nt:Nat) (ls:List Nat):Code->St->A8->Cx->R ((bI × St) × A8)
 | .seq a b,s,l,c=>(oI P ap H h0 keep lf nt ls a s l c).bind λr c=>match r.1.1 with
  | .normal=>oI P ap H h0 keep lf nt ls b r.1.2 r.2 c
  |e=> .ok ((e,r.1.2),r.2) c
 | .cond t a b,s,l,c=>match uq ap s.env t with
  | .bool x=>(Dw c x).bind λx c=>match x with
   |true=>oI P ap H h0 keep lf nt ls a s l c
   |false=>oI P ap H h0 keep lf nt ls b s l c
  |_=> .bad 60
 | .block id b,s,l,c=>match rP ls id with
  |true=>match l with
   |(e,s')::r=> .ok ((e,s'),r) {c with ps:=kw P ap h0 nt (.block id b) s e s'::c.ps}
   | []=> .bad 62
  |false=>(oI P ap H h0 keep lf nt ls b s l c).bind λr c=>match r.1.1 with
   | .exit id'=>match Xqk id' id with|true=> .ok ((.normal,r.1.2),r.2) c|false=> .ok ((.exit id',r.1.2),r.2) c
   |e=> .ok ((e,r.1.2),r.2) c
 | .scope b,s,l,c=>oI P ap H h0 keep lf nt ls b s l c
 | .region id ops draw,s,l,c=>match rP ls (id+1000) with
  |true=>match l with
   |(e,s')::r=> .ok ((e,s'),r) {c with ps:=kw P ap h0 nt (.region id ops draw) s e s'::c.ps}
   | []=> .bad 63
  |false=>(oH ap H h0.length keep lf (.region id ops draw) s c).bind λr c=> .ok (r,l) c
 |code,s,l,c=>(oH ap H h0.length keep lf code s c).bind λr c=> .ok (r,l) c
section
variable {P:Program} {ap:AP} {H:dD}
theorem ak.seq {h0:List aU} {nt:Nat} {x y:Code} {s s1 d:St} {e:bI} (j:ak P ap h0 nt x s .normal s1) (i:ak P ap h0 nt y s1 e d):ak P ap h0 nt (.seq x y) s e d:=by
 intro c;obtain ⟨l,k⟩:=j c;obtain ⟨h5,n⟩:=i l;refine ⟨h5,λm0 S0 w0 m S w a b p Q f=>wp_seq (k m0 S0 w0 m S w a b p _ ?_)⟩;intro o S' w' g h7 h;exact n m0 S0 w0 o S' w' g h7 h Q f
theorem ak.seq_out {h0:List aU} {nt:Nat} {x y:Code} {s s1:St} {e:bI} (c:e ≠ .normal) (h:ak P ap h0 nt x s e s1):ak P ap h0 nt (.seq x y) s e s1:=by
 intro d;obtain ⟨j,i⟩:=h d;refine ⟨j,λm0 S0 w0 m S w a b n Q f=>wp_seq (i m0 S0 w0 m S w a b n _ ?_)⟩;intro l S' w' g h5 k;have:=f l S' w' g h5 k;cases e with
 |normal=>exact absurd rfl c
 |exit id=>exact this
 |ret=>exact this
 |panic v=>exact this
theorem ak.cond {h0:List aU} {nt:Nat} {t:Operand} {x y:Code} {s s':St} {e:bI} {c:Bool} (i:uq ap s.env t= .bool c) (h:ak P ap h0 nt (if c then x else y) s e s'):ak P ap h0 nt (.cond t x y) s e s':=by
 intro d;obtain ⟨h5,j⟩:=h d;refine ⟨h5,λm0 S0 w0 m S w a b f Q g=>wp_cond (t:=c) ?_ (j m0 S0 w0 m S w a b f Q g)⟩;have:=Ag f.srel (a:=a) (env:=s.env) t (λt _=>f.env t);rw [i] at this;simpa only [VR,PR] using this
def vg (id:Nat):bI->bI
 | .exit id'=>match Xqk id' id with|true=> .normal|false=> .exit id'
 |e=>e
theorem ak.block {h0:List aU} {nt:Nat} {id:Nat} {b:Code} {s s':St} {e:bI} (h:ak P ap h0 nt b s e s'):ak P ap h0 nt (.block id b) s (vg id e) s':=by
 intro j;obtain ⟨n,l⟩:=h j;refine ⟨n,λm0 S0 w0 m S w a g q Q k=>wp_block (l m0 S0 w0 m S w a g q _ ?_)⟩;intro p S' w' d h5 o;have c:=k p S' w' d h5 o;cases e with
 |normal=>exact c
 |ret=>exact c
 |panic v=>exact c
 | exit id'=>
  simp only [vg] at c;split at c
  .rename_i f;show Exit.inBlock id Q (.exit id') d w';simp only [Exit.inBlock,if_pos (aN f)];exact c
  .rename_i f;show Exit.inBlock id Q (.exit id') d w';have i:id' ≠ id:=by intro e;subst e;simp at f
   simp only [Exit.inBlock,if_neg i];exact c
theorem ak.scope {h0:List aU} {nt:Nat} {b:Code} {s s':St} {e:bI} (h:ak P ap h0 nt b s e s'):ak P ap h0 nt (.scope b) s e s':=by
 intro f;obtain ⟨k,j⟩:=h f;refine ⟨k,λm0 S0 w0 m S w a d o Q g=>wp_scope_straight (j m0 S0 w0 m S w a d o _ ?_)⟩;intro n S' w' i h5 l;have c:=g n S' w' i h5 l;cases e with
 |normal=>exact c
 |exit id=>exact c
 |ret=>exact c
 |panic v=>exact c
theorem xJ (A:iy P ap) (z:P.follows .mixedOrders=true) (G:ku P ap H) {h0:List aU} {keep:List Nat} {lf n nt:Nat} (F:n<=nt) {I:List Nat}:∀ (d:Code),dV nt d=true->∀ (s:St) (l:A8) (r:(bI × St) × A8) (c f:Cx),oI P ap H h0 keep lf n I d s l c= .ok r f->f.Ok->c.Ok/\ak P ap h0 nt d s r.1.1 r.1.2:=by
 have hbase:∀ (d:Code),dV nt d=true->∀ (s:St) (l:A8) (r:(bI × St) × A8) (c f:Cx),((oH ap H h0.length keep lf d s c).bind λr c=> .ok (r,l) c)= .ok r f->f.Ok->c.Ok/\ak P ap h0 nt d s r.1.1 r.1.2:=by
  intro d hd s l r c f h a;obtain ⟨⟨e,s'⟩,q,k,h⟩:=R.bind_ok h;cases h;exact gu A z G d hd s e s' c _ k a
 intro d
 induction d with
 | seq x y ihx ihy=>
  intro hd s l r c f h a;simp only [dV,τ] at hd;simp only [oI] at h;obtain ⟨⟨⟨m,s1⟩,C⟩,q,k,h⟩:=R.bind_ok h;dsimp only at h;have hother:m ≠ .normal->R.ok ((m,s1),C) q=R.ok r f->c.Ok/\ak P ap h0 nt (.seq x y) s r.1.1 r.1.2:=by
   intro D J;cases J;obtain ⟨g,j⟩:=ihx hd.1 _ _ _ _ _ k a;exact ⟨g,j.seq_out D⟩
  cases m with
  |normal=>
   dsimp only at h;obtain ⟨i,K⟩:=ihy hd.2 _ _ _ _ _ h a;obtain ⟨g,j⟩:=ihx hd.1 _ _ _ _ _ k i;exact ⟨g,j.seq K⟩
  |exit id=>exact hother (by simp) h
  |ret=>exact hother (by simp) h
  |panic v=>exact hother (by simp) h
 | cond t x y ihx ihy=>
  intro hd s l r c f h a;simp only [dV,τ] at hd;simp only [oI] at h;split at h
  .rename_i N o;obtain ⟨L,q,k,h⟩:=R.bind_ok h;cases L with
   |true=>
    obtain ⟨i,j⟩:=ihx hd.1 _ _ _ _ _ h a;obtain ⟨g,u⟩:=nD k i;exact ⟨g,ak.cond o (by rw [<- u];exact j)⟩
   |false=>
    obtain ⟨i,j⟩:=ihy hd.2 _ _ _ _ _ h a;obtain ⟨g,u⟩:=nD k i;exact ⟨g,ak.cond o (by rw [<- u];exact j)⟩
  .cases h
 | block id b ih=>
  intro hd s l r c f h a;simp only [dV] at hd;simp only [oI] at h;split at h
  .split at h
   .rename_i E B M;cases h;have hp:kw P ap h0 n (.block id b) s E B:=a.ps _ (Xjp ..);exact ⟨⟨a.bs,λp hp=>a.ps p (Xx2 _ hp)⟩,hp nt F⟩
   .cases h
  .obtain ⟨⟨⟨m,s1⟩,C⟩,q,k,h⟩:=R.bind_ok h;dsimp only at h;have w:r=((vg id m,s1),C)/\q=f:=by
    cases m<;>dsimp only at h
    .cases h;exact ⟨rfl,rfl⟩
    .unfold vg;split at h<;>cases h<;>rename_i u<;>dsimp only<;>rw [u]<;>exact ⟨rfl,rfl⟩
    .cases h;exact ⟨rfl,rfl⟩
    .cases h;exact ⟨rfl,rfl⟩
   obtain ⟨rfl,rfl⟩:=w;obtain ⟨g,j⟩:=ih hd _ _ _ _ _ k a;exact ⟨g,j.block⟩
 |scope b ih=>
  intro hd s l r c f h a;simp only [dV] at hd;simp only [oI] at h;obtain ⟨g,j⟩:=ih hd _ _ _ _ _ h a;exact ⟨g,j.scope⟩
 |skip=>exact λhd s l r c f h a=>hbase _ hd s l r c f h a
 | region id ops draw=>
  intro hd s l r c f h a;simp only [oI] at h;split at h
  .split at h
   .rename_i E B M;cases h;have hp:kw P ap h0 n (.region id ops draw) s E B:=a.ps _ (Xjp ..);exact ⟨⟨a.bs,λp hp=>a.ps p (Xx2 _ hp)⟩,hp nt F⟩
   .cases h
  .exact hbase _ hd s l r c f h a
 |loop _ _=>exact λhd s l r c f h a=>hbase _ hd s l r c f h a
 |rangeFunc _ _ _ _=>exact λhd s l r c f h a=>hbase _ hd s l r c f h a
 |exit _=>exact λhd s l r c f h a=>hbase _ hd s l r c f h a
 |label _=>exact λhd s l r c f h a=>hbase _ hd s l r c f h a
 |goto _=>exact λhd s l r c f h a=>hbase _ hd s l r c f h a
 |ret=>exact λhd s l r c f h a=>hbase _ hd s l r c f h a
 |refuse _=>exact λhd s l r c f h a=>hbase _ hd s l r c f h a
def UE (P:Program) (ap:AP) (H:dD) (lf:Nat) (ls:List Nat) (f:Nat) (args:List AV) (h:List aU) (l:A8) (c:Cx):R (lG × List aU × AV):=
 match ap.fnAt f with
 |none=> .bad 80
 |some F=>(oI P ap H h F.keep lf F.fn.ntmps ls (ax F.fn) (vJ .dead args h) l c).bind λr c=>F5 ap H h.length F.fn r.1.1 r.1.2 c
theorem Y3 (d:iy P ap) (n:P.follows .mixedOrders=true) (a:JM P ap) (z:ku P ap H) (C:uX P ap H) {lf:Nat} {G:List Nat} {f:Nat} {args:List AV} {h x:List aU} {l:A8} {c v:Cx} {out:lG} {t:AV}
  (b:UE P ap H lf G f args h l c= .ok (out,x,t) v) (hc:v.Ok):aG P ap f args h out x:=by
 unfold UE at b;split at b
 .cases b
 .rename_i F q;obtain ⟨⟨⟨e,s⟩,M⟩,L,y,b⟩:=R.bind_ok b;dsimp only at b;obtain ⟨body,u,k⟩:=a.body f F q;have hbody:ax F.fn=body:=by simp [ax,u]
  rw [hbody] at y;obtain ⟨p,g,i⟩:=BL d C b hc;refine ⟨g,Kv a q,λm S w cargs D E=> ?_⟩;obtain ⟨K,o⟩:=UY (md:= .dead) D E F.fn.ntmps;have j:F.fn.ntmps<=(cargs.toArray++Array.replicate (F.fn.ntmps - cargs.toArray.size) undef).size:=by simp;omega
  obtain ⟨_,r⟩:=xJ d n z j body (fG j body k) _ _ _ _ _ y p;obtain ⟨_,r⟩:=r rfl;refine calls_of_wp_defers (a.fn f F q) u ?_;refine r m S w m S w _ (by rw [K];exact Fr.refl _ _ _ _) o _ ?_;intro J S' w' A I B;exact i m S w J S' w' A _ I B
end
end AM
namespace AM
open Go
def AL (P:Program) (ap:AP) (lf:Nat):Nat->dD
 |0=>λ_ _ _ _ _=> .bad 90
 | n+1=>λc md f args h=>
  match md with
  | .dead=>match c.ans with
   |(out,h')::r=> .ok (out,h',.dead) {c with ans:=r,ps:=aG P ap f args h out h'::c.ps}
   |_=> .bad 91
  |md=>sD ap (AL P ap lf n) lf md f args h c
theorem nO {P:Program} {ap:AP} (e:iy P ap) (b:P.follows .mixedOrders=true) (i:JM P ap) (lf:Nat):∀ n,ku P ap (AL P ap lf n)/\uX P ap (AL P ap lf n)
 |0=> ⟨λ_ _ _ _ _ _ _ _ h=>(by cases h),λ_ _ _ _ _ _ _ _ _ _ h=>(by cases h)⟩
 | n+1=>by
  obtain ⟨m,o⟩:=nO e b i lf n;constructor
  .intro c f args h out l d k a g;simp only [AL] at a;split at a
   .cases a;exact ⟨⟨g.bs,λp hp=>g.ps p (by simp [hp])⟩,g.ps _ (by simp)⟩
   .cases a
  .intro c md f args h out l d k j a g;have a:sD ap (AL P ap lf n) lf md f args h c= .ok (out,l,d) k:=by
    cases md<;>first|exact absurd rfl j|exact a
   exact Bv e b i m lf c md f args h out l d k j a g
inductive OH:List Prop->Prop where
 |nil:OH []
 |cons {p:Prop} {l:List Prop}:p->OH l->OH (p::l)
theorem OH.mem {l:List Prop} (h:OH l):∀ p ∈ l,p:=by
 induction h with
 |nil=>intro p hp;cases hp
 |cons hp _ ih=>
  intro q a;rcases List.mem_cons.1 a with rfl|a
  .exact hp
  .exact ih q a
inductive oD:List Bool->Prop where
 |nil:oD []
 |t {l:List Bool}:oD l->oD (true::l)
 |c {b:Bool} {l:List Bool}:b=true->oD l->oD (b::l)
theorem oD.mem {l:List Bool} (h:oD l):∀ b ∈ l,b=true:=by
 induction h with
 |nil=>intro p hp;cases hp
 |t _ ih=>
  intro q a;rcases List.mem_cons.1 a with rfl|a
  .rfl
  .exact ih q a
 |c hp _ ih=>
  intro q a;rcases List.mem_cons.1 a with rfl|a
  .exact hp
  .exact ih q a
structure GH (P:Program) (ap:AP):Prop where
 apok:iy P ap
 mixed:P.follows .mixedOrders=true
 fnok:JM P ap
theorem KD {P:Program} {ap:AP} (g:GH P ap) {lf n:Nat} {ans:List (lG × List aU)} {ps:List Prop} {f:Nat} {args:List AV} {h a:List aU} {out:lG} (hp:OH ps)
  (he:sD ap (AL P ap lf n) lf .dead f args h ⟨true,[],[],[],ans,[]⟩= .ok (out,a,.dead) ⟨true,[],[],ps,[],[]⟩):aG P ap f args h out a:=by
 obtain ⟨d,e⟩:=nO g.apok g.mixed g.fnok lf n;exact (xx g.apok g.mixed g.fnok d e lf _ f args h out a .dead _ he ⟨λb c=>(by cases c),hp.mem⟩).2
end AM
namespace AM
open Go Go.ChangeShapes Go.WideShapes Go.ChangeAt Go.RowKit
def tH:Lit->Value
 | .int k n=> .int k n
 | .bool b=> .bool b
 | .string s=> .string ⟨s.toArray⟩
 |_=> .nilFunc
def PK:Lit->AV
 | .int k n=> .int k n
 | .bool b=> .bool b
 | .string s=> .str s
 |_=> .dead
def Iy:Lit->Bool
 | .int _ _=>true
 | .bool _=>true
 | .string _=>true
 |_=>false
def PM (f:TypeId->DataW Unit->Nat->Option (List (Nat × Lit))):List (TypeId × Nat)->List (DataW Unit)->Option (List (Nat × Lit))
 | [],[]=>some []
 |(t,o)::r,d::ds=>match f t d o,PM f r ds with
  |some a,some b=>some (a++b)
  |_,_=>none
 |_,_=>none
def oM (P:Program):Nat->TypeId->DataW Unit->Nat->Option (List (Nat × Lit))
 |0,_,_,_=>none
 |n+1,t,d,off=>match P.underlying t,d with
  |some (.struct fs),.agg ds=>PM (oM P n) (fs.toList.map λf=>(f.type,off+f.offset)) ds
  |some (.array m e),.agg ds=>PM (oM P n) ((Xqo m).map λi=>(e,off+i*P.cellsOf e)) ds
  |some (.int _),.lit (.int k n)=>some [(off,.int k n)]
  |some .bool,.lit (.bool b)=>some [(off,.bool b)]
  |some .string,.lit (.string s)=>some [(off,.string s)]
  |_,_=>none
theorem Iw {f:TypeId->DataW Unit->Nat->Option (List (Nat × Lit))}:∀ {ts:List (TypeId × Nat)} {ds:List (DataW Unit)} {l:List (Nat × Lit)},PM f ts ds=some l->ts.length=ds.length/\∀ x ∈ l,∃ (i:Nat) (t o:Nat) (d:DataW Unit) (a:List (Nat × Lit)),ts[i]? =some (t,o)/\ds[i]? =some d/\f t d o=some a/\x ∈ a
 | [],[],l,h=>by simp [PM] at h;subst h;simp
 | (t,o)::r,d::ds,l,h=>by
  simp only [PM] at h;split at h
  .rename_i a b n m;cases h;obtain ⟨p,e⟩:=Iw m;refine ⟨by simp [p],λx c=> ?_⟩;rcases List.mem_append.1 c with c|c
   .exact ⟨0,t,o,d,a,rfl,rfl,n,c⟩
   .obtain ⟨i,u,v,s,k,j,g,h5,q⟩:=e x c;exact ⟨i+1,u,v,s,k,by simpa using j,by simpa using g,h5,q⟩
  .cases h
 | [],_::_,_,h=>by simp [PM] at h
 |_::_,[],_,h=>by simp [PM] at h
theorem qR {P:Program} {w:World} {base:Nat} {M:Nat->Bool} {y:Bool}:∀ (n:Nat) (t:TypeId) (d:DataW Unit) (off:Nat) (l:List (Nat × Lit)),oM P n t d off=some l->∀ (c:Nat) (cs:List Value) (p:List MemPlace),DataW.trod (λ_=>()) P w base M y c t cs=some (d,p)->∀ x ∈ l,∃ j,x.1=off+j/\cs[j]? =some (tH x.2)
 |0,_,_,_,_,h=>by simp [oM] at h
 | n +1,t,d,off,l,h=>by
  intro c cs p hd x r;simp only [oM] at h;split at h
  .rename_i R K q;cases c with
   |zero=>simp [DataW.trod] at hd
   | succ m=>
    simp only [DataW.trod,q] at hd;split at hd
    .obtain ⟨L,B,g⟩:=Option.map_eq_some_iff.1 hd;simp only [Prod.mk.injEq,DataW.agg.injEq] at g;obtain ⟨rfl,rfl⟩:=g;obtain ⟨N,C⟩:=Iw h;obtain ⟨i,J,Q,I,a,v,u,h5,E⟩:=C x r;rw [Xqw,Xqq] at v;obtain ⟨f,G,z⟩:=v;simp only [Prod.mk.injEq] at z;obtain ⟨rfl,rfl⟩:=z;obtain ⟨b,D,F⟩:=Lib.mapM_at B i f G;rw [Xqw,D] at u;simp only [Xjm,Option.some.injEq] at u;subst u;obtain ⟨j,O,o⟩:=qR n _ _ _ _ h5 m _ b.2 F x E;refine ⟨f.offset+j,by omega, ?_⟩;rw [Xjq] at o;split at o
     .rwa [Xj5] at o
     .cases o
    .cases hd
  .rename_i k e K q;cases c with
   |zero=>simp [DataW.trod] at hd
   | succ m=>
    simp only [DataW.trod,q] at hd;split at hd
    .obtain ⟨L,B,g⟩:=Option.map_eq_some_iff.1 hd;simp only [Prod.mk.injEq,DataW.agg.injEq] at g;obtain ⟨rfl,rfl⟩:=g;obtain ⟨N,C⟩:=Iw h;obtain ⟨i,J,Q,I,a,v,u,h5,E⟩:=C x r;rw [Xqw,Xqq] at v;obtain ⟨f,G,z⟩:=v;simp only [Prod.mk.injEq] at z;obtain ⟨rfl,rfl⟩:=z;obtain ⟨b,D,F⟩:=Lib.mapM_at B i f G;rw [Xqw,D] at u;simp only [Xjm,Option.some.injEq] at u;subst u;obtain ⟨j,O,o⟩:=qR n _ _ _ _ h5 m _ b.2 F x E;refine ⟨f*P.cellsOf e+j,by omega, ?_⟩;rw [Xjq] at o;split at o
     .rwa [Xj5] at o
     .cases o
    .cases hd
  .rename_i S k U q;cases h;simp at r;subst r;obtain ⟨T,rfl,A,_⟩:=DataW.trod_int q hd;simp only [Prod.mk.injEq,DataW.lit.injEq,Lit.int.injEq] at A;obtain ⟨⟨rfl,rfl⟩,_⟩:=A;exact ⟨0,rfl,rfl⟩
  .rename_i b q;cases h;simp at r;subst r;cases c with
   |zero=>simp [DataW.trod] at hd
   |succ m=>
    unfold DataW.trod at hd;rw [q] at hd;split at hd<;>simp_all
    rfl
  .rename_i s q;cases h;simp at r;subst r;cases c with
   |zero=>simp [DataW.trod] at hd
   |succ m=>
    unfold DataW.trod at hd;rw [q] at hd;split at hd<;>simp_all
    obtain ⟨_,rfl,_⟩:=hd;rfl
  .cases h
theorem BR {P:Program} {w:World}:∀ {l:List (String × DataW Unit)} {ps:List MemPlace},DataW.LaidVars P w l ps->∀ n d,(n,d) ∈ l->∃ g t cs a p,P.globalNamed n=some g/\(P.globals[g]?).map (·.type)=some t/\w.var? P n=some cs/\DataW.trod (λ_=>()) P w 0 (λ_=>true) false a t cs.toList=some (d,p)
 | [],_,_,n,d,hm=>by cases hm
 | (n',d')::r,ps,h,n,d,hm=>by
  obtain ⟨g,t,cs,a,p,q,e,f,c,b,h5,_⟩:=h;rcases List.mem_cons.1 hm with he|hm
  .cases he;exact ⟨g,t,cs,a,p,e,f,c,b⟩
  .exact BR h5 n d hm
theorem SX {P:Program} {W:World} {a:List (String × DataW Unit)} (h:laidMetH P a W) (e:a.filter (λx=>x.2.handleName?.isSome)= []) {n:String} {d:DataW Unit} (q:(n,d) ∈ a) {g:Nat} {t:TypeId} (m:P.globalNamed n=some g) (y:(P.globals[g]?).map (·.type)=some t)
  {ls:List Lit} (hl:oM P 6 t d 0=some (ls.zipIdx.map λ(l,i)=>(i,l))):∀ (j:Nat) (l:Lit),ls[j]? =some l->W.cell? ⟨g,j,none⟩=some (tH l):=by
 have c:laidMet P a W:=by
  unfold laidMetH at h;rw [e] at h;exact h
 obtain ⟨ps,z,_⟩:=c;obtain ⟨g',A,cs,b,p,w,r,u,s⟩:=BR z n d q;obtain rfl:=Option.some.inj (m.symm.trans w);obtain rfl:=Option.some.inj (y.symm.trans r);intro j l o;obtain ⟨f,k,v⟩:=qR 6 t d 0 _ hl b cs.toList p s (j,l) (by
  rw [List.mem_map];exact ⟨(l,j),by rw [List.mem_zipIdx_iff_getElem?];exact o,rfl⟩)
 have:f=j:=by simp at k;exact k.symm
 subst this;rw [World.var?_cell m u f];simpa using v
def jT (W:World):aO:=λk o=>match W.cell? ⟨k,o,none⟩ with|some v=>if v.oneCell' then some v else none|none=>none
theorem L8 {W:World} {k o:Nat} {v:Value} (h:W.cell? ⟨k,o,none⟩=some v) (a:v.oneCell'=true):jT W k o=some v:=by
 unfold jT;rw [h];simp only;rw [if_pos a]
theorem Q8 {W:World} {k o:Nat} {v:Value} (h:jT W k o=some v):bf W k o=some v:=by
 unfold jT at h;split at h
 .rename_i c b;split at h
  .rename_i a;cases h;exact iW b a
  .cases h
 .cases h
theorem OL (S:aO):∀ (ls:List Lit),ls.all Iy=true->bT S (ls.map PK) (ls.map tH)
 | [],_=>by simp [bT]
 |l::r,h=>by
  simp only [Xzr,τ] at h;simp only [Xqg,bT];refine ⟨?_,OL S r h.2⟩;cases l<;>simp only [PK,tH,PR]<;>first|rfl|(exact absurd h.1 (by simp [Iy]))
theorem Tc {l:Lit} (h:Iy l=true):(tH l).oneCell'=true:=by
 cases l<;>first|rfl|(exact absurd h (by simp [Iy]))
def YM (ap:AP) (W:World):Prop:=∀ k xs,(ap.gl[k]?).join=some xs->∃ ls:List Lit,xs=ls.map PK/\ls.all Iy=true/\∀ (j:Nat) (l:Lit),ls[j]? =some l->W.cell? ⟨k,j,none⟩=some (tH l)
theorem ad2 {ap:AP} {W:World} (h:YM ap W):dY ap (jT W):=by
 intro k i e;obtain ⟨f,rfl,c,g⟩:=h k i e;refine ⟨f.map tH,OL _ _ c, ?_⟩;intro j u d;rw [Xqw,Xqq] at d;obtain ⟨l,a,rfl⟩:=d;have b:=Tc (List.all_eq_true.1 c l (Xqm a));refine ⟨?_,b⟩;rw [Nat.zero_add];exact L8 (g j l a) b
theorem ahN {P:Program} {ap:AP} {f:Nat} {args:List AV} {b:Bool} (g:aG P ap f args [] (.ret (.bool b)) []) {W:World} (m:YM ap W) {cargs:List Value} (l:bT (jT W) args cargs):
  Calls P f cargs.toArray W λe W'=>e= .returned (.bool b)/\Below W.heap.size W W':=by
 have i:b_ ap (bz []) (λ_=>(0,0)) (jT W) W:=
  ⟨λb n B B' h=>by simp [bz] at h,λb B h=>by simp [bz] at h,λk o v h=>Q8 h,λb B h=>by simp [bz] at h,ad2 m⟩
 refine (g.calls (λ_=>(0,0)) (jT W) W cargs i (bU _ l)).mono ?_
 rintro e W' ⟨m',S',hF⟩
 obtain ⟨_,a,c⟩:=hF;obtain ⟨cv,rfl,d⟩:=c;simp only [zi,VR,PR] at d;subst d;exact ⟨rfl,a.os,a.tape,a.output,a.size,λk j=>a.rest k j λb B h=>by simp [bz] at h⟩
def Gv (P:Program) (ts:List TypeId):Bool:=ts.all λt=>P.readableRec t && decide (t<P.types.size)
theorem zQ {H:Type} {enc:TypeId × Value->H} {P:Program} (c:laidOutB P=true) {W W':World} {b:Nat->Bool}:∀ {ts:List TypeId} {vs:List Value} {ds:List (DataW H)} {ps:List MemPlace},Gv P ts=true->DataW.TrodAll enc P W 0 (λ_=>true) true ts vs ds ps->(∀ p ∈ ps,W.sameAt W' p)->(∀ p ∈ ps,b p.block=true)->DataW.TrodAll enc P W' 0 b true ts vs ds ps
 | [],vs,ds,ps,_,h,_,_=>by
  obtain ⟨rfl,rfl,rfl⟩:=trodAll_nil h;rfl
 |t::ts,vs,ds,ps,hf,h,hs,hsp=>by
  obtain ⟨v,i,d,f,p,q,rfl,rfl,rfl,g,e⟩:=trodAll_cons h;simp only [Gv,Xzr,τ,decide_eq_true_eq] at hf;exact trodAll_cons_mk (WideElems.Trod_stays c hf.1.1 hf.1.2 g (λx a=>hs x (by simp [a])) (λx a=>hsp x (by simp [a]))) (zQ c (by simpa [Gv] using hf.2) e (λx a=>hs x (by simp [a])) (λx a=>hsp x (by simp [a])))
theorem alP {H:Type} {enc:TypeId × Value->H} {P:Program} {f:Func} {s:ChangeSpec} {apart fresh handsOn again:Bool} {W W':World} {args:Array Value} {g m:List (DataW H)} {before:List MemPlace} (u:laidOutB P=true) (w:Gv P f.params.toList=true)
  (hW:DataW.Whole enc P f.params.toList s.vars apart W args.toList g m before) (hvars:s.vars= []) {tb:TypeId} (hr:f.resultTypes=#[tb]) (htb:P.underlying tb=some .bool) (hfn:s.fn H (g++m)={results:= [.lit (.bool true)],args:=g,vars:= []})
  (hb:Below W.heap.size W W'):s.post enc P f apart fresh handsOn again W args (.bool true) W':=by
 have e:∀ p ∈ before,p.block<W.heap.size:=λp hp=>hW.lt p hp
 have c:∀ p ∈ before,(λb=>decide (b<W.heap.size)) p.block=true:=λp hp=>by simpa using hW.lt p hp
 have j:=hW;obtain ⟨p,q,t,r,rfl,o,n⟩:=hW;rw [hvars] at r;obtain ⟨rfl,rfl⟩:=trodVars_none r;simp only [Xqd] at e c o n j hfn ⊢;have hargs:∀ a:Nat->Bool,(∀ x ∈ p,a x.block=true)->DataW.TrodAll enc P W' 0 a true f.params.toList args.toList (s.fn H g).args p:=by
  intro a l;rw [hfn];exact zQ u w t (λx i=>hb.same (e x i)) l
 have d:∀ (b:Nat) (a:Nat->Bool) (hd:Bool),DataW.TrodAll enc P W' b a hd f.resultTypes.toList ((Value.bool true).resultList f.resultTypes.size) (s.fn H g).results []:=by
  intro b a hd;rw [hfn,hr];exact trodAll_cons_mk (p:= []) (shut_bool htb true) trodAll_mk0
 have h:∀ a:Nat->Bool,DataW.TrodVars enc P W' a s.vars (s.fn H g).vars []:=by
  intro a;rw [hvars,hfn];rfl
 refine ⟨g,[],p,[],p,[],j,by rw [Xqd];exact d _ _ _,by rw [Xqd];exact hargs _ c,by rw [Xqd];exact h _,World.keptBut_mono (λx i=>i) (hb.frame _),λ_=> ?_⟩;refine ⟨ok_one hr rfl (okWide_bool_mk htb _),_,_,([]++p)++ [],⟨[]++p,[],trodAll_append (hargs _ (λ_ _=>rfl)) (d _ _ _),by simpa using h _,rfl, ?_, ?_⟩, ?_⟩
 .intro b k hp;have hp':MemPlace.cell b k ∈ p:=by simpa using hp
  rw [hb.frozen (e _ hp')];exact o b k hp'
 .intro v;simpa using n v
 .intro x i _;simpa using i
end AM
