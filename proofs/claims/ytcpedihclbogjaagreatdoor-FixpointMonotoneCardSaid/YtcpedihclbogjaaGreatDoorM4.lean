/- The machine and its soundness. -/
import Derived.Test.YtcpedihclbogjaaGreatDoorM3
import Derived.Recover
import Derived.ProofKit
import Derived.OpenShut
import Derived.LaidLaws
import Derived.LaidSub
import Derived.Lib.LaidTab
set_option linter.unusedSimpArgs false
set_option linter.unusedVariables false
open Bool renaming and_eq_true->τ,not_eq_true'->Xqs
open Nat renaming beq->Xqk,zero_le->Xq7,lt_of_lt_of_le->υ,sub_zero->Xzg
open List renaming mem_of_getElem?->Xqm,flatMap_cons->Xxx,flatMap_nil->Xkj,append_nil->Xqd,range->Xqo,getElem?_map->Xqw,map_cons->Xqg,flatMap_map->Yq3,getElem?_range->Xzc,mem_cons_self->Xjp,mem_cons_of_mem->Xx2,getElem?_take->Xjq,getElem?_drop->Xj5,all_cons->Xzr
open Option renaming map_eq_some_iff->Xqq,map_some->Xjm
namespace AM
open Go
theorem zK {α:Type} {P:Program} {w:World} (f:α->Sem Value):∀ (l:List α) (vs:List Value),l.length=vs.length->(∀ (i:Nat) (x:α) (v:Value),l[i]? =some x->vs[i]? =some v->(f x).run P w= .ok v w)->(l.mapM f).run P w= .ok vs w
 | [],[],_,_=>rfl
 |a::l,v::vs,hl,h=>by
  rw [List.mapM_cons,Sem.run_bind,h 0 a v rfl rfl,Result.andThen_ok,Sem.run_bind,zK f l vs (by simpa using hl) λi x u b c=>h (i+1) x u (by simpa using b) (by simpa using c),Result.andThen_ok];rfl
 | [],_::_,hl,_=>by simp at hl
 |_::_,[],hl,_=>by simp at hl
def zJ (tmps:Array Value):ResultVar->Sem Value
 | .tmp t=>pure (tmps.getD t undef)
 | .cell a t=>do loadVar t (<- asAddr (tmps.getD a undef))
def abd (vs:List Value):Value:=match vs with| [v]=>v|vs=> .tuple vs.toArray
theorem TQ (a:Func) (tmps:Array Value):results a tmps=(do let vs <- a.results.mapM (zJ tmps);pure (if h:vs.size=1 then vs[0] else .tuple vs)):=by
 unfold results;congr 2
theorem oV {P:Program} {w:World} {a:Func} {tmps:Array Value} {vs:List Value} (b:a.results.toList.length=vs.length)
  (h:∀ (i:Nat) (r:ResultVar) (v:Value),a.results.toList[i]? =some r->vs[i]? =some v->(zJ tmps r).run P w= .ok v w):
  (results a tmps).run P w= .ok (abd vs) w:=by
 rw [TQ,Array.mapM_eq_mapM_toList];simp only [bind_map_left];rw [Sem.run_bind,zK _ _ vs b h,Result.andThen_ok]
 match vs with
 | []=>rfl
 | [v]=>rfl
 |_::_::_=>simp [abd]
theorem QC {S:aO} {m:aW} {rd c:dK} {w:World} (h:∀ b B,rd b=some B->c b=some B):iV (dL S m rd w) (dL S m c w):=by
 intro k o v a;unfold dL at a ⊢;split at a
 .rename_i u f;exact a
 .rename_i f;split at a
  .rename_i d;obtain ⟨b,B,g,i,e⟩:=d;rw [if_pos ⟨b,B,h b B g,i,e⟩];exact a
  .cases a
def cl (rd:dK) (v:AV):List Nat:=wW rd 6 (jK (eG v))
inductive J9 (base:Nat) (rd:dK) (all:List Nat):AV->AV->Prop
 |own {b n:Nat} {B:aU}:rd b=some B->base<=b->B.fro=false->B.pr=true->gq all b=1->0<B.esz->J9 base rd all (.ref b B.ver 0 n) (.own (B.cells.take (n*B.esz)) n B.esz)
 |low {v:AV}:(∀ b ∈ eG v,b<base)->J9 base rd all v v
 |frz {v v':AV}:(∀ b ∈ cl rd v,base<=b)->frz (λb=>match rP (cl rd v) b with|true=>rd b|false=>none) 6 v=some v'->J9 base rd all v v'
theorem Xm {base:Nat} {rd:dK} {v a:AV} (h:adY base rd v=some a):(∀ b ∈ cl rd v,base<=b)/\frz (λb=>match rP (cl rd v) b with|true=>rd b|false=>none) 6 v=some a:=by
 unfold adY at h;dsimp only at h;split at h
 .rename_i c;exact ⟨λb d=>gG (List.all_eq_true.1 c b d),h⟩
 .cases h
theorem KQ {base:Nat} {rd:dK} {all:List Nat} {v a:AV} (h:(match (eG v).all (λb=>Nat.blt b base) with|true=>some v|false=>adY base rd v)=some a):J9 base rd all v a:=by
 split at h
 .rename_i c;cases h;exact .low λb d=>gI (List.all_eq_true.1 c b d)
 .obtain ⟨e,f⟩:=Xm h;exact .frz e f
theorem BN {base:Nat} {rd:dK} {all:List Nat} {v d:AV} (h:vI base rd all v=some d):J9 base rd all v d:=by
 unfold vI at h;dsimp only at h;split at h
 .rename_i b ver n;split at h
  .rename_i B e;split at h
   .rename_i c;cases h;simp only [τ,Xqs] at c;obtain ⟨⟨⟨⟨⟨j,a⟩,g⟩,f⟩,h5⟩,i⟩:=c;have a:=aN a;subst a;exact .own e (gG j) g f (aN h5) (gI i)
   .exact KQ h
  .cases h
 .exact KQ h
theorem yI {l:List Nat} {b:Nat} (h:b ∈ l):1<=gq l b:=by
 unfold gq;have:b ∈ l.filter (Xqk b):=by rw [List.mem_filter];exact ⟨h,Nat.beq_refl b⟩
 exact List.length_pos_of_mem this
theorem vF {l a:List Nat} {b:Nat}:gq (l++a) b=gq l b+gq a b:=by simp [gq,List.filter_append]
theorem Dz {α:Type} {f:α->List Nat} {b:Nat}:∀ (vs:List α) (i j:Nat) (v v':α),vs[i]? =some v->vs[j]? =some v'->i ≠ j->b ∈ f v->b ∈ f v'->2<=gq (vs.flatMap f) b
 | [],i,j,v,v',h,_,_,_,_=>by simp at h
 | a::r,i,j,v,v',hi,hj,hne,hb,hb'=>by
  have c:∀ (k:Nat) (u:α),r[k]? =some u->b ∈ f u->1<=gq (r.flatMap f) b:=by
   intro k u d e;exact yI (List.mem_flatMap.2 ⟨u,Xqm d,e⟩)
  rw [Xxx,vF];cases i with
  |zero=>
   simp at hi;subst hi;cases j with
   |zero=>exact absurd rfl hne
   |succ j=>have:=c j v' (by simpa using hj) hb';have:=yI hb;omega
  | succ i=>
   cases j with
   |zero=>simp at hj;subst hj;have:=c i v (by simpa using hi) hb;have:=yI hb';omega
   |succ j=>
    have:=Dz r i j v v' (by simpa using hi) (by simpa using hj) (by omega) hb hb';omega
def mJ:List AV->List AV->List (Nat × aU)
 |v::r,.own xs _ esz::q=>(match v with| .ref b _ _ _=> [(b,NY xs esz)]|_=> [])++mJ r q
 |_::r,_::q=>mJ r q
 |_,_=> []
theorem jX {v x:AV} {r q:List AV} (h:∀ xs k e,x ≠ .own xs k e):mJ (v::r) (x::q)=mJ r q:=by
 cases x<;>first|rfl|exact absurd rfl (h _ _ _)
section
variable {P:Program} {ap:AP} {base:Nat} {rd:dK} {all:List Nat}
theorem z_ {g:dK} {m:aW} {S:aO} {x:AV} {v:Value} (h:VR g m S x v):∀ xs k e,x ≠ .own xs k e:=by
 rintro xs k e rfl;simp [VR] at h
theorem GL {S:aO} {x:AV} {v:Value} (h:PR S x v):∀ xs k e,x ≠ .own xs k e:=by
 rintro xs k e rfl;simp [PR] at h
end
end AM
namespace AM
open Go
theorem IM {b:Nat}:∀ (l acc:List Nat),(b ∈ l\/b ∈ acc)->b ∈ l.foldl Fq acc
 | [],acc,h=>by simpa using h
 | a::r,acc,h=>by
  simp only [List.foldl_cons];refine IM r _ ?_;rcases h with h|h
  .rcases List.mem_cons.1 h with rfl|h
   .right;unfold Fq;split
    .rename_i c;exact jf.1 c
    .simp
   .exact .inl h
  .right;obtain h':=h;unfold Fq;split
   .exact h
   .simp [h]
theorem Ti {l:List Nat} {b:Nat} (h:b ∈ l):b ∈ jK l:=IM l [] (.inl h)
theorem NQ (l:List Nat):(jK l).Nodup:=(rY l [] (by simp)).1
theorem aaN {rd:dK} {v:AV} {b:Nat} (h:b ∈ eG v):b ∈ cl rd v:=by
 obtain ⟨_,t,a⟩:=xB rd 6 (jK (eG v)) (NQ _);unfold cl;rw [a];exact List.mem_append.2 (.inl (Ti h))
theorem D9:∀ {vs l:List AV} {b:Nat} {Bo:aU},(b,Bo) ∈ mJ vs l->∃ ver i n c k e,(AV.ref b ver i n,AV.own c k e) ∈ vs.zip l/\Bo=NY c e
 | [],l,b,Bo,h=>by cases l<;>simp [mJ] at h
 |v::r,[],b,Bo,h=>by simp [mJ] at h
 | v ::r,x::q,b,Bo,h=>by
  rcases kD x with ⟨c,k,e,rfl⟩|hx
  .simp only [mJ,List.mem_append] at h;rcases h with h|h
   .cases v with
    |ref b' ver i n=>
     simp at h;obtain ⟨rfl,rfl⟩:=h;exact ⟨ver,i,n,c,k,e,by simp,rfl⟩
    |_=>simp at h
   .obtain ⟨ver,i,n,a,d,e',g,f⟩:=D9 h;exact ⟨ver,i,n,a,d,e',by simp [g],f⟩
  .rw [jX hx] at h;obtain ⟨ver,i,n,a,d,e',g,f⟩:=D9 h;exact ⟨ver,i,n,a,d,e',by simp [g],f⟩
theorem I5 {rd:dK} {b:Nat}:∀ (vs l:List AV),gq ((mJ vs l).flatMap λq=> [q.1]) b<=gq (vs.flatMap (cl rd)) b
 | [],l=>by cases l<;>simp [mJ,gq]
 |v::r,[]=>by simp [mJ,gq]
 | v :: r,x::q=>by
  have d:=I5 (rd:=rd) (b:=b) r q;rw [Xxx,vF];rcases kD x with ⟨f,k,e,rfl⟩|hx
  .simp only [mJ,List.flatMap_append,vF];cases v with
   | ref b' ver i n=>
    simp only [Xxx,Xkj,Xqd];have:gq [b'] b<=gq (cl rd (.ref b' ver i n)) b:=by
     by_cases hb:b=b'
     .subst hb;have a:gq [b] b=1:=by simp [gq]
      rw [a];exact yI (aaN (by simp [eG]))
     .have a:gq [b'] b=0:=by
       have:Xqk b b'=false:=by
        cases c:Xqk b b' with
        |false=>rfl
        |true=>exact absurd (aN c) hb
       simp [gq,this]
      omega
    omega
   |_=>simp [gq] at*;omega
  .rw [jX hx];omega
theorem Jc:∀ (vs l:List AV) (n:Nat),vs.length=l.length->(∀ v x,(v,x) ∈ vs.zip l->(∃ c k e,x= .own c k e)->∃ b ver i n,v= .ref b ver i n)->(fK n l).2=(mJ vs l).map (·.2)
 | [],[],n,_,_=>by simp [fK,mJ]
 | v::r,x::q,n,hl,h=>by
  have d:=λn=>Jc r q n (by simpa using hl) λv x f a=>h v x (by simp [f]) a
  rcases kD x with ⟨c,k,e,rfl⟩|a
  .obtain ⟨b,ver,i,g,rfl⟩:=h v _ (by simp) ⟨c,k,e,rfl⟩;simp only [fK,mJ,d];simp
  .rw [bJ n a,jX a];exact d n
 | [],_::_,_,hl,_=>by simp at hl
 |_::_,[],_,hl,_=>by simp at hl
theorem NW {rd gh gf:dK} {m t:aW} {S S':aO}:∀ (vs l:List AV) (cvs:List Value) (n:Nat),vs.length=l.length->bu rd m S vs cvs->
  (∀ v x,(v,x) ∈ vs.zip l->(∃ a k e,x= .own a k e)->∃ b ver n,v= .ref b ver 0 n/\∃ a e,x= .own a n e)->
  (∀ v x c,(v,x) ∈ vs.zip l->(∀ a k e,x ≠ .own a k e)->VR rd m S v c->VR gh t S' x c)->
  (∀ (k b:Nat) (Bo:aU),(mJ vs l)[k]? =some (b,Bo)->∀ ver o c,VR rd m S (.ref b ver 0 o) c->(∃ a e,(AV.ref b ver 0 o,AV.own a o e) ∈ vs.zip l)->VR gf t S' (.ref (n+k) 0 0 o) c)->jm gh gf t S' n l cvs
 | [],[],[],n,_,_,_,_,_=>by simp [jm]
 | v::r,x::q,c::cs,n,hl,hv,ho,hx,hr=>by
  simp only [bu] at hv;rcases kD x with ⟨a,k,e,rfl⟩|hxo
  .obtain ⟨b,ver,o,rfl,w,e',y⟩:=ho v _ (by simp) ⟨a,k,e,rfl⟩;cases y;simp only [jm];refine ⟨?_, ?_⟩
   .have:=hr 0 b (NY a e) (by simp [mJ]) ver k c hv.1 ⟨a,e,by simp⟩;rwa [Nat.add_zero] at this
   .refine NW r q cs (n+1) (by simpa using hl) hv.2 (λv x i=>ho v x (by simp [i])) (λv x c i=>hx v x c (by simp [i])) ?_;intro j u Bo p d h s f g;have:=hr (j+1) u Bo (by simpa [mJ] using p) d h s f (by obtain ⟨a,e,g⟩:=g;exact ⟨a,e,by simp [g]⟩);rwa [show n+(j+1)=n+1+j by omega] at this
  .rw [dh hxo];refine ⟨hx v x c (by simp) hxo hv.1, ?_⟩;refine NW r q cs n (by simpa using hl) hv.2 (λv x i=>ho v x (by simp [i])) (λv x c i=>hx v x c (by simp [i])) ?_;intro j u Bo p d h s f g;exact hr j u Bo (by rw [jX hxo];exact p) d h s f (by obtain ⟨a,e,g⟩:=g;exact ⟨a,e,by simp [g]⟩)
 | [],_::_,_,_,hl,_,_,_,_=>by simp at hl
 |_::_,[],_,_,hl,_,_,_,_=>by simp at hl
 | [],[],_::_,_,_,hv,_,_,_=>by simp [bu] at hv
 |_::_,_::_,[],_,_,hv,_,_,_=>by simp [bu] at hv
theorem PV {α β:Type} {f:α->Option β}:∀ {l:List α} {l':List β},lQ f l=some l'->∀ x y,(x,y) ∈ l.zip l'->f x=some y
 | [],l',h,x,y,hm=>by simp at hm
 | a::r,l',h,x,y,hm=>by
  simp only [lQ] at h;split at h
  .rename_i b d;split at h
   .rename_i q c;cases h;simp only [List.zip_cons_cons,List.mem_cons,Prod.mk.injEq] at hm;rcases hm with ⟨rfl,rfl⟩|hm
    .exact d
    .exact PV c x y hm
   .cases h
  .cases h
theorem Wp {α β:Type} {l:List α} {a:List β} {x:α} {y:β} (h:(x,y) ∈ l.zip a):∃ i:Nat,l[i]? =some x/\a[i]? =some y:=by
 obtain ⟨i,b⟩:=List.mem_iff_getElem?.1 h;rw [List.getElem?_zip_eq_some] at b;exact ⟨i,b⟩
theorem ac0 {g:dK} {m:aW} {S:aO} {l:List AV} {vs:List Value} (h:bu g m S l vs) {x:AV} (b:x ∈ l):∃ v,VR g m S x v:=by
 obtain ⟨i,c⟩:=List.mem_iff_getElem?.1 b;obtain ⟨v,_,a⟩:=uZ h i c;exact ⟨v,a⟩
end AM
namespace AM
open Go
section
variable {P:Program} {ap:AP}
theorem Ah {h0 F:List aU} {hp:Hp} {m m0:aW} {S S0:aO} {w w0:World} {vs l:List AV} {cvs:List Value} (U:b_ ap (look hp) m S w) (z:Fr (bz h0) m0 S0 w0 (look hp) m S w) (hv:bu (look hp) m S vs cvs)
  {N:Nat} (hN:h0.length<=N) (hl:lQ (vI N (look hp) (vs.flatMap (cl (look hp)))) vs=some l) (hh':lQ (look hp) (Xqo N)=some F) (hbase:F.all (λB=>B.pr||(cZ B.cells).all λb=>Nat.blt b N)=true):
  ∃ m' S',b_ ap (bz (F++(fK F.length l).2)) m' S' w/\Fr (bz h0) m0 S0 w0 (bz (F++(fK F.length l).2)) m' S' w/\jm (bz F) (bz (F++(fK F.length l).2)) m' S' F.length l cvs:=by
 have X:=(jH hl).1;have hz:∀ v x,(v,x) ∈ vs.zip l->J9 N (look hp) (vs.flatMap (cl (look hp))) v x:=λv x C=>BN (PV hl v x C)
 have K:∀ v x,(v,x) ∈ vs.zip l->(∃ M k e,x= .own M k e)->∃ (b n:Nat) (B:aU),v= .ref b B.ver 0 n/\look hp b=some B/\N<=b/\B.fro=false/\B.pr=true/\gq (vs.flatMap (cl (look hp))) b=1/\0<B.esz/\x= .own (B.cells.take (n*B.esz)) n B.esz:=by
  rintro v x C ⟨M,k,e,rfl⟩
  obtain ⟨c,R⟩:=ac0 hv (List.of_mem_zip C).1;generalize hxe:AV.own M k e=x at C;cases hz v x C with
  |own a d p t h5 O=>exact ⟨_,_,_,rfl,a,d,p,t,h5,O,rfl⟩
  |low a=>exact absurd hxe.symm (z_ R _ _ _)
  |frz a d=>
   refine absurd hxe.symm (GL (nJ U (λb B g=> ?_) 6 v c x d R) _ _ _);split at g
   .exact g
   .cases g
 generalize I:mJ vs l=obs;have hbs:∀ n,(fK n l).2=obs.map (·.2):=by
  intro n;rw [<- I];refine Jc vs l n X.symm λv x C W=> ?_
  obtain ⟨b,n',B,a,_⟩:=K v x C W;exact ⟨b,_,0,n',a⟩
 rw [hbs];have A:∀ b Bo,(b,Bo) ∈ obs->∃ (n:Nat) (B:aU),look hp b=some B/\N<=b/\B.fro=false/\B.pr=true/\gq (vs.flatMap (cl (look hp))) b=1/\0<B.esz/\Bo=NY (B.cells.take (n*B.esz)) B.esz/\(AV.ref b B.ver 0 n,AV.own (B.cells.take (n*B.esz)) n B.esz) ∈ vs.zip l:=by
  intro b Bo C;rw [<- I] at C;obtain ⟨ver,i,n,M,k,e,a,d⟩:=D9 C;obtain ⟨b',n',B,p,t,h5,O,h7,T,V,D⟩:=K _ _ a ⟨M,k,e,rfl⟩;cases p;cases D;exact ⟨_,B,t,h5,O,h7,T,V,d,a⟩
 have hobd:∀ (k Z b:Nat) (Bo Bo':aU),obs[k]? =some (b,Bo)->obs[Z]? =some (b,Bo')->k=Z:=by
  intro k Z b Bo Bo' a d;obtain ⟨n,B,_,_,_,_,h5,_⟩:=A b Bo (Xqm a);by_cases s:k=Z
  .exact s
  .have p:=Dz (f:=λq:Nat × aU=> [q.1]) obs k Z _ _ a d s (b:=b) (by simp) (by simp);have t:=I5 (rd:=look hp) (b:=b) vs l;rw [I] at t;omega
 have hobx:∀ b Bo,(b,Bo) ∈ obs->∀ v x,(v,x) ∈ vs.zip l->(∀ M k e,x ≠ .own M k e)->b ∉ cl (look hp) v:=by
  intro b Bo C v x hvx W g;obtain ⟨n,B,_,_,_,_,h5,_,_,O⟩:=A b Bo C;obtain ⟨i,h7,T⟩:=Wp O;obtain ⟨j,V,D⟩:=Wp hvx;have hne:i ≠ j:=by
   rintro rfl
   rw [T] at D;cases D;exact W _ _ _ rfl
  have:=Dz (f:=cl (look hp)) vs i j _ _ h7 V hne (b:=b) (aaN (by simp [eG])) g;omega
 have Y:F.length=N:=by rw [(jH hh').1];simp
 have L:∀ b,b<N->∃ B,look hp b=some B/\bz F b=some B:=by
  intro b g;obtain ⟨B,a,d⟩:=(jH hh').2 b b (by simp [g]);exact ⟨B,d,a⟩
 have hlow':∀ b B,bz F b=some B->b<N/\look hp b=some B:=by
  intro b B g;have E:b<N:=by
   have:=(List.getElem?_eq_some_iff.1 g).1;omega
  obtain ⟨B',a,d⟩:=L b E;rw [g] at d;cases d;exact ⟨E,a⟩
 let rdF:dK:=open Classical in λb=>if ∃ v x,(v,x) ∈ vs.zip l/\(∀ M k e,x ≠ .own M k e)/\b ∈ cl (look hp) v/\∀ y ∈ cl (look hp) v,N<=y then look hp b else none
 have Q:∀ b B,rdF b=some B->look hp b=some B/\N<=b/\∀ Bo,(b,Bo) ∉ obs:=by
  intro b B g;dsimp only [rdF] at g;split at g
  .rename_i R;obtain ⟨v,x,a,d,p,t⟩:=R;exact ⟨g,t b p,λBo C=>hobx b Bo C v x a d p⟩
  .cases g
 have r:=qo S m rdF w
 let m':aW:=λi=>if i<N then m i else m ((obs.map (·.1)).getD (i - N) 0)
 have hm'lo:∀ i,i<N->m' i=m i:=λi G=>if_pos G
 have hm'hi:∀ (k b:Nat) (Bo:aU),obs[k]? =some (b,Bo)->m' (N+k)=m b:=by
  intro k b Bo s;show (if _ then _ else _)=_;rw [if_neg (by omega),show N+k - N=k by omega,List.getD_eq_getElem?_getD,Xqw,s];rfl
 have hgf:∀ i Bi,bz (F++obs.map (·.2)) i=some Bi->(i<N/\look hp i=some Bi/\bz F i=some Bi)\/(∃ k b,i=N+k/\obs[k]? =some (b,Bi)):=by
  intro i Bi G;by_cases E:i<N
  .rw [fH (by omega)] at G;exact .inl ⟨E,(hlow' i Bi G).2,G⟩
  .rw [jE (by omega),Y] at G;right;refine ⟨i - N, ?_⟩;have hi':(obs.map (·.2))[i - N]? =some Bi:=G;rw [Xqw,Xqq] at hi';obtain ⟨⟨b,Bo⟩,a,d⟩:=hi';exact ⟨b,by omega,by rw [a];simp at d;rw [d]⟩
 have hgfk:∀ (k b:Nat) (Bo:aU),obs[k]? =some (b,Bo)->bz (F++obs.map (·.2)) (N+k)=some Bo:=by
  intro k b Bo s;rw [jE (by omega),Y,show N+k - N=k by omega];show (obs.map (·.2))[k]? =_;rw [Xqw,s];rfl
 have J:∀ i Bi,bz (F++obs.map (·.2)) i=some Bi->∃ b B,look hp b=some B/\m' i=m b/\((i<N/\b=i/\Bi=B)\/(N<=b/\∃ k,i=N+k/\obs[k]? =some (b,Bi))):=by
  intro i Bi G;rcases hgf i Bi G with ⟨a,d,p⟩|⟨k,b,rfl,s⟩
  .exact ⟨i,Bi,d,hm'lo i a,.inl ⟨a,rfl,rfl⟩⟩
  .obtain ⟨n,B,a,d,_⟩:=A b Bi (Xqm s);exact ⟨b,B,a,hm'hi k b Bi s,.inr ⟨d,k,rfl,s⟩⟩
 refine ⟨m',dL S m rdF w, ?_, ?_, ?_⟩
 .refine ⟨?_, ?_,λk o v h=>sS U h, ?_, ?_⟩
  .intro i j Bi Bj G hj e;obtain ⟨b,B,a,d,p⟩:=J i Bi G;obtain ⟨b',B',h1',h2',h3'⟩:=J j Bj hj;rw [d,h2'] at e;have:=U.inj b b' B B' a h1' e;subst this;rcases p with ⟨t,rfl,_⟩|⟨t,k,rfl,s⟩<;>rcases h3' with ⟨h4',rfl,_⟩|⟨h4',Z,rfl,hk'⟩
   .rfl
   .omega
   .omega
   .rw [hobd k Z b _ _ s hk']
  .intro i Bi G;rcases hgf i Bi G with ⟨a,d,p⟩|⟨k,b,rfl,s⟩
   .rw [hm'lo i a];obtain ⟨⟨cur,e,us,rest,k1,k2,k3,k4,k5,k6⟩,k7,k8⟩:=U.blk i Bi d;refine ⟨⟨cur,e,us,rest,k1,k2,λhp=>bD r _ (k3 hp), ?_,k5,k6⟩,k7,k8⟩;cases hpr:Bi.pr with
    |true=>exact bU _ (bD r _ (k3 hpr))
    |false=>
     refine qh r _ (λb g=> ?_) k4;have h5:=List.all_eq_true.1 hbase Bi (Xqm p);rw [hpr] at h5;simp only [Bool.false_or] at h5;have O:=gI (List.all_eq_true.1 h5 b g);obtain ⟨B,h7,T⟩:=L b O;exact ⟨by rw [fH (by omega),T,h7],hm'lo b O⟩
   .obtain ⟨n,B,a,d,p,t,h5,O,rfl,_⟩:=A b Bi (Xqm s);rw [hm'hi k b _ s];obtain ⟨⟨cur,e,us,rest,k1,k2,k3,k4,k5,k6⟩,k7,k8⟩:=U.blk b B a;have hp:=bD r _ (lW (n*B.esz) (k3 t));refine ⟨⟨cur,e,us.take (n*B.esz),us.drop (n*B.esz)++rest,k1, ?_,λ_=>hp,bU _ hp,λhz u hu=>k5 hz u (List.mem_of_mem_take hu),k6⟩,λ_=>rfl,Xq7 _⟩;rw [<- List.append_assoc,List.take_append_drop];exact k2
  .intro i Bi G o v ho;obtain ⟨b,B,a,d,p⟩:=J i Bi G;rw [d] at ho;have hno:rdF b=none:=by
    cases hr:rdF b with
    |none=>rfl
    |some B'=>
     obtain ⟨_,t,h5⟩:=Q b B' hr;rcases p with ⟨O,rfl,_⟩|⟨_,k,_,s⟩
     .omega
     .exact absurd (Xqm s) (h5 _)
   have hSo:S (m b).1 o=some v:=by
    rcases fU ho with h|⟨_,b',B',t,h5,_⟩
    .exact h
    .have:=U.inj b' b B' B (Q b' B' t).1 a h5;subst this;rw [hno] at t;cases t
   obtain ⟨h7,T⟩:=U.own b B a o v hSo;rcases p with ⟨_,rfl,rfl⟩|⟨_,k,_,s⟩
   .exact ⟨h7,T⟩
   .obtain ⟨n,B2,V,_,D,_⟩:=A b _ (Xqm s);rw [a] at V;cases V;rw [h7] at D;cases D
  .intro k M s;obtain ⟨us,a,d⟩:=U.glob k M s;exact ⟨us,bD r _ a,d.mono r⟩
 .refine ⟨?_,z.sle.trans r,z.os,z.tape,z.output,z.size,z.rest, ?_, ?_⟩
  .intro b B0 g;have E:b<N:=υ (List.getElem?_eq_some_iff.1 g).1 hN;obtain ⟨B,a,d,p⟩:=z.ge b B0 g;obtain ⟨B',t,h5⟩:=L b E;rw [a] at t;cases t;exact ⟨B,by rw [fH (by omega)];exact h5,d,by rw [hm'lo b E];exact p⟩
  .intro i Bi G;obtain ⟨b,B,a,d,p⟩:=J i Bi G;rw [d];rcases z.img b B a with h|⟨B0,t,h5⟩
   .exact .inl h
   .have E:b<N:=υ (List.getElem?_eq_some_iff.1 t).1 hN;rcases p with ⟨_,rfl,_⟩|⟨O,_⟩
    .exact .inr ⟨B0,t,h5⟩
    .omega
  .intro k o v hv;rcases fU hv with h|⟨_,b,B,a,d,_⟩
   .exact z.sealN k o v h
   .obtain ⟨p,t,_⟩:=Q b B a;rcases z.img b B p with h|⟨B0,h5,_⟩
    .exact .inr (.inl (d ▸ h))
    .have:=(List.getElem?_eq_some_iff.1 h5).1;omega
 .rw [Y];refine NW (rd:=look hp) (m:=m) (S:=S) vs l cvs N X.symm hv ?_ ?_ ?_
  .intro v x C W;obtain ⟨b,n,B,a,_,_,_,_,_,_,d⟩:=K v x C W;exact ⟨b,B.ver,n,a,_,_,d⟩
  .intro v x c C W R;cases hz v x C with
   |own _ _ _ _ _ _=>exact absurd rfl (W _ _ _)
   |low a=>
    refine Bd r v (λb g=> ?_) R;obtain ⟨B,d,p⟩:=L b (a b g);exact ⟨by rw [p,d],hm'lo b (a b g)⟩
   | frz a d=>
    have p:=nJ U (λb B g=>by split at g;exact g;cases g) 6 v c x d R;refine iE x (aZ (QC λb B g=> ?_) x p);split at g
    .rename_i hm2;dsimp only [rdF];rw [if_pos ⟨v,x,C,W,jf.1 hm2,a⟩];exact g
    .cases g
  .rw [I];intro k b Bo s ver n' c R hzz;obtain ⟨n,B,a,d,p,t,h5,O,rfl,h7⟩:=A b Bo (Xqm s);obtain ⟨M,e,hzz⟩:=hzz;have hver:ver=B.ver:=by
    obtain ⟨b2,n2,B2,e1,e2,_⟩:=K _ _ hzz ⟨M,_,e,rfl⟩;cases e1;rw [a] at e2;cases e2;rfl
   subst hver;simp only [VR] at R ⊢;obtain ⟨B',T,_,V,D⟩:=R;rw [a] at T;cases T;refine ⟨_,hgfk k b _ s,Xq7 _,V,λ_=> ?_⟩;rw [hm'hi k b _ s];exact D rfl
end
end AM
namespace AM
open Go
section
variable {P:Program} {ap:AP}
theorem J4 (n:iy P ap) {env:ji} {hp:Hp} {m:aW} {S:aO} {w:World} {tmps:Array Value} (E:b_ ap (look hp) m S w) (q:∀ t,VR (look hp) m S (env.get t) (tmps.getD t undef)) {r:ResultVar} {v:AV} {bs:List Bool}
  (h:CG ap env hp r=some (v,bs)) (hbs:∀ b ∈ bs,b=true):∃ cv,(zJ tmps r).run P w= .ok cv w/\VR (look hp) m S v cv:=by
 cases r with
 |tmp t=>
  simp only [CG,Option.some.injEq,Prod.mk.injEq] at h;obtain ⟨rfl,rfl⟩:=h;exact ⟨_,rfl,q t⟩
 | cell a t=>
  simp only [CG] at h;have D:=bind_some h;clear h;obtain ⟨ti,l,h⟩:=D;simp only [Xqq] at h;obtain ⟨⟨I,ups,F⟩,j,u⟩:=h;simp only [Prod.mk.injEq] at u;obtain ⟨rfl,rfl⟩:=u;obtain ⟨i,d,z,G⟩:=dQ n l;have c:=q a;obtain ⟨_,cv,y,A⟩:=EJ E (λb B C=>C) G c j hbs;refine ⟨cv, ?_,A⟩;have g:∃ x,tmps.getD a undef= .pointer (some x):=by
   unfold PQ at j;split at j
   .rename_i J p f;rw [f] at c;simp only [VR,PR] at c;obtain ⟨b,o,vs,e,_⟩:=c;exact ⟨_,e⟩
   .rename_i b ver p f;rw [f] at c;simp only [VR] at c;obtain ⟨B,_,_,⟨k,o,e⟩,_⟩:=c;exact ⟨_,e⟩
   .cases j
  obtain ⟨x,s⟩:=g;rw [s] at y;simp only [zJ,s];exact y
theorem tV (a:iy P ap) {env:ji} {hp:Hp} {m:aW} {S:aO} {w:World} {tmps:Array Value} (g:b_ ap (look hp) m S w) (f:∀ t,VR (look hp) m S (env.get t) (tmps.getD t undef)):
  ∀ {rs:List ResultVar} {vs:List (AV × List Bool)},lQ (CG ap env hp) rs=some vs->(∀ b ∈ vs.flatMap (·.2),b=true)->∃ cvs:List Value,rs.length=cvs.length/\bu (look hp) m S (vs.map (·.1)) cvs/\∀ (i:Nat) (r:ResultVar) (v:Value),rs[i]? =some r->cvs[i]? =some v->(zJ tmps r).run P w= .ok v w
 | [],vs,h,_=>by
  simp [lQ] at h;subst h;exact ⟨[],rfl,by simp [bu],λi r v h=>by simp at h⟩
 | r::rs,vs,h,hbs=>by
  simp only [lQ] at h;split at h
  .rename_i q u;split at h
   .rename_i l k;cases h;obtain ⟨v,bs⟩:=q;obtain ⟨cv,s,o⟩:=J4 a g f u (λb e=>hbs b (by simp [e]));obtain ⟨cvs,p,n,h5⟩:=tV a g f k (λb e=>hbs b (by rw [Xxx];exact List.mem_append.2 (.inr e)));refine ⟨cv::cvs,by simp [p],by simp only [Xqg,bu];exact ⟨o,n⟩, ?_⟩;intro i r' j d c;cases i with
    |zero=>simp at d c;subst d;subst c;exact s
    |succ i=>exact h5 i r' j (by simpa using d) (by simpa using c)
   .cases h
  .cases h
theorem YN {gh gf:dK} {m:aW} {S:aO} {n:Nat} {x:AV} {v:Value} (h:jm gh gf m S n [x] [v]):zi gh gf m S n x v/\(kE n x).2=(fK n [x]).2:=by
 rcases kD x with ⟨i,k,e,rfl⟩|hx
 .simp only [jm] at h;exact ⟨h.1,rfl⟩
 .rw [dh hx] at h;rcases Em x with ⟨l,rfl⟩|ht
  .have f:=h.1;simp only [VR] at f;obtain ⟨vs,rfl,g⟩:=f;have key:∀ (l:List AV) (vs:List Value) (n:Nat),bu gh m S l vs->jm gh gf m S n l vs/\(fK n l).2= []:=by
    intro l
    induction l with
    |nil=>intro vs n a;cases vs with
     |nil=>exact ⟨by simp [jm],rfl⟩
     |cons _ _=>simp [bu] at a
    | cons y r ih=>intro vs n a;cases vs with
     |nil=>simp [bu] at a
     |cons u us=>
      simp only [bu] at a;have b:=z_ a.1;obtain ⟨d,c⟩:=ih us n a.2;rw [dh b,bJ n b];exact ⟨⟨a.1,d⟩,c⟩
   obtain ⟨d,c⟩:=key l vs n g;refine ⟨?_, ?_⟩
   .simp only [zi];exact ⟨vs,rfl,d⟩
   .simp only [kE,fK];exact c
  .rw [ni hx ht,jP n hx ht,bJ n hx];exact ⟨h.1,rfl⟩
theorem yZ (rd:dK) (n:Nat):n<=Ym rd n:=by
 obtain ⟨_,t,a⟩:=xB rd 20 (Xqo n) List.nodup_range;unfold Ym;rw [a,List.length_append,List.length_range];exact Nat.le_add_right _ _
theorem zI (k:iy P ap) {h0 r:List aU} {E:Func} {env:ji} {hp:Hp} {m m0:aW} {S S0:aO} {w w0:World} {tmps:Array Value} {c D:Cx} {out:lG} (h:Gl ap h0.length E env hp c= .ok (out,r) D) (C:D.Ok):
  c.Ok/\h0.length<=r.length/\(b_ ap (look hp) m S w->Fr (bz h0) m0 S0 w0 (look hp) m S w->(∀ t,VR (look hp) m S (env.get t) (tmps.getD t undef))->
   ∃ cv,(results E tmps).run P w= .ok cv w/\∃ n S',L9 ap h0 m0 S0 w0 out r n S' w (.returned cv)):=by
 unfold Gl at h;dsimp only at h;split at h
 .rename_i vs I j b;split at h
  .cases h
  .rename_i hbase;obtain ⟨_,J,G,h⟩:=R.bind_ok h;split at h
   .rename_i v f;cases h;obtain ⟨e,g⟩:=Nb G C;have hlen':h0.length<=r.length:=by rw [(jH b).1];simpa using yZ _ _
    refine ⟨e,hlen',λo d z=> ?_⟩;obtain ⟨cvs,B,s,A⟩:=tV k o z j g;have a:(vs.flatMap λq=>wW (look hp) 6 (jK (eG q.1)))=(vs.map (·.1)).flatMap (cl (look hp)):=by rw [Yq3];rfl
    rw [a] at f;obtain ⟨n,S',u,h5,y⟩:=Ah o d s (yZ _ _) f b hbase;have x:cvs.length=1:=by
     have:=di s;have h7:=(jH f).1;simp at h7 this;omega
    match cvs,x with
    | [cv],_=>
     obtain ⟨h7,F⟩:=YN y;refine ⟨cv,oV B A,n,S', ?_⟩;rw [<- F] at u h5;refine ⟨u,h5,cv,rfl, ?_⟩;rw [F];exact h7
   .rename_i l i f;cases h;obtain ⟨e,g⟩:=Nb G C;have hlen':h0.length<=r.length:=by rw [(jH b).1];simpa using yZ _ _
    refine ⟨e,hlen',λo d z=> ?_⟩;obtain ⟨cvs,B,s,A⟩:=tV k o z j g;have a:(vs.flatMap λq=>wW (look hp) 6 (jK (eG q.1)))=(vs.map (·.1)).flatMap (cl (look hp)):=by rw [Yq3];rfl
    rw [a] at f;obtain ⟨n,S',u,h5,y⟩:=Ah o d s (yZ _ _) f b hbase;have p:abd cvs= .tuple cvs.toArray:=by
     match cvs with
     | []=>rfl
     | [cv]=>
      exfalso;have:=di s;have h7:=(jH f).1;simp at h7 this
      match l,i with
      | [],_=>simp at h7;omega
      | [v],i=>exact i v rfl
      |_::_::_,_=>simp at h7;omega
     |_::_::_=>rfl
    refine ⟨_,oV B A,n,S',u,h5, ?_⟩;rw [p];exact ⟨_,rfl,cvs,rfl,y⟩
   .cases h
 .cases h
theorem CB {h0 g:List aU} {v:AV} {hp:Hp} {m m0:aW} {S S0:aO} {w w0:World} {c t:Cx} {out:lG} (h:N7 h0.length v hp c= .ok (out,g) t):
  c=t/\h0.length<=g.length/\(b_ ap (look hp) m S w->Fr (bz h0) m0 S0 w0 (look hp) m S w->∀ cv,VR (look hp) m S v cv->(∀ b ver n,v ≠ .ref b ver 0 n)->
   ∃ p S',L9 ap h0 m0 S0 w0 out g p S' w (.panicked [{v:=cv,recovered:=false}])):=by
 unfold N7 at h;dsimp only at h;split at h
 .rename_i j z f d;split at h
  .cases h
  .rename_i hbase;cases h;have hlen':h0.length<=g.length:=by rw [(jH d).1];simpa using yZ _ _
   refine ⟨rfl,hlen',λu s cv i l=> ?_⟩;have y:lQ (vI (Ym (look hp) h0.length) (look hp) ([v].flatMap (cl (look hp)))) [v]=some [j]:=by
    simp only [Xxx,Xkj,Xqd,lQ];have x:vI (Ym (look hp) h0.length) (look hp) (cl (look hp) v) v=some j:=f;rw [x]
   obtain ⟨p,S',o,h5,q⟩:=Ah u s (vs:= [v]) (cvs:= [cv]) (by simp only [bu];exact ⟨i,trivial⟩) (yZ _ _) y d hbase;have a:∀ xs k e,j ≠ .own xs k e:=by
    rintro xs k e rfl
    cases BN f with
    |own h1 h2 h3 o h5 q=>exact l _ _ _ rfl
    |low h1=>exact z_ i _ _ _ rfl
    |frz h1 h2=>
     exact GL (nJ u (λb B r=>by split at r;exact r;cases r) 6 v cv _ h2 i) _ _ _ rfl
   rw [dh a] at q;rw [bJ _ a] at o h5;exact ⟨p,S',o,h5,cv,rfl,q.1⟩
 .cases h
end
end AM
namespace AM
open Go
def Ko (S:aO):AV->FrameMode->Prop
 | .nilI,u=>u= .returning
 | .ifc t v,u=> ∃ cv,u= .panicking [{v:=cv,recovered:=false}]/\PR S (.ifc t v) cv
 |_,_=>False
def ahw (md md':AV) (u u':FrameMode):Prop:=(md'=md/\u'=u)\/(md'= .nilI/\settle u'= .returning)
structure acW (P:Program) (ap:AP) (f:Nat) (args:List AV) (h:List aU) (out:lG) (h':List aU) (md md':AV):Prop where
 ent:zU P f
 calls:∀ m S w cargs u,b_ ap (bz h) m S w->bu (bz h) m S args cargs->Ko S md u->CallsD P f cargs.toArray u w λe u' w'=>(∃ m' S',L9 ap h m S w out h' m' S' w' e)/\ahw md md' u u'
def uX (P:Program) (ap:AP) (H:dD):Prop:=∀ c md f args h out h' md' c',md ≠ .dead->H c md f args h= .ok (out,h',md') c'->c'.Ok->c.Ok/\acW P ap f args h out h' md md'
structure JM (P:Program) (ap:AP):Prop where
 fn:∀ (f:Nat) (F:AF),ap.fnAt f=some F->P.funcs[f]? =some F.fn
 body:∀ (f:Nat) (F:AF),ap.fnAt f=some F->∃ c,F.fn.body=some c/\dV F.fn.ntmps c=true
 name:∀ (f:Nat) (F:AF),ap.fnAt f=some F->(F.fn.name== "runtime.NumGoroutine")=false
section
variable {P:Program} {ap:AP} {H:dD}
theorem Kv (a:JM P ap) {f:Nat} {F:AF} (b:ap.fnAt f=some F):zU P f:=by
 intro args w;obtain ⟨c,d,_⟩:=a.body f F b;unfold callFunc;rw [Sem.run_bind];have:(program).run P w= .ok P w:=rfl;rw [this,Result.andThen_ok,a.fn f F b];dsimp only;rw [a.name f F b];simp [d]
theorem EH (g:iy P ap) (k:uX P ap H):
  ∀ (dfs:List (Nat × List AV)) (mode mode':AV) (hp hp':Hp) (c c':Cx),SY ap H dfs mode hp c= .ok (mode',hp') c'->c'.Ok->c.Ok/\
   ∀ (h0:List aU) (b:Func) (tmps:Array Value) (env:ji) (RR:Ending->World->Prop) (m0:aW) (S0:aO) (w0:World) m S w a u,b_ ap (look hp) m S w->Fr (bz h0) m0 S0 w0 (look hp) m S w->(∀ t,VR (look hp) m S (env.get t) (tmps.getD t undef))->iO (look hp) m S dfs a->Ko S mode u->
   (∀ m' S' w' u',b_ ap (look hp') m' S' w'->Fr (bz h0) m0 S0 w0 (look hp') m' S' w'->(∀ t,VR (look hp') m' S' (env.get t) (tmps.getD t undef))->Ko S' mode' u'->Leaves P b tmps RR [] u' w')->Leaves P b tmps RR a u w
 | [],mode,mode',hp,hp',c,c',h,hc=>by
  cases h;refine ⟨hc,λh0 b tmps env RR m0 S0 w0 m S w a u f d e hd j i=> ?_⟩;cases a with
  |nil=>exact i m S w u f d e j
  |cons _ _=>simp [iO] at hd
 |_::_,mode,mode',hp,hp',c,c',h,hc=>by cases h
theorem fG {n f:Nat} (h:n<=f):∀ (c:Code),dV n c=true->dV f c=true
 | .region _ ops _,hd=>by
  simp only [dV,List.all_eq_true] at hd ⊢;intro o g;have:=hd o g;unfold O7 at this ⊢;split
  .rename_i d e;rw [e] at this;exact Nat.ble_eq_true_of_le (Nat.le_trans (gG this) h)
  .rfl
 | .seq a b,hd=>by simp only [dV,τ] at hd ⊢;exact ⟨fG h a hd.1,fG h b hd.2⟩
 | .cond _ a b,hd=>by simp only [dV,τ] at hd ⊢;exact ⟨fG h a hd.1,fG h b hd.2⟩
 | .block _ b,hd=>by simp only [dV] at hd ⊢;exact fG h b hd
 | .loop b,hd=>by simp only [dV] at hd ⊢;exact fG h b hd
 | .scope b,hd=>by simp only [dV] at hd ⊢;exact fG h b hd
 | .skip,_=>rfl
 | .label _,_=>rfl
 | .exit _,_=>rfl
 | .ret,_=>rfl
 | .rangeFunc _ _ _ _,_=>rfl
 | .goto _,_=>rfl
 | .refuse _,_=>rfl
theorem DV {α:Type}:∀ (l:List α) (j t:Nat),look ((l.zipIdx j).map λ(x,i)=>(i,x)) t=if j<=t then l[t - j]? else none
 | [],j,t=>by simp [look]
 | a::r,j,t=>by
  rw [List.zipIdx_cons,Xqg];simp only [look];cases h:Xqk j t with
  |true=>have:=aN h;subst this;simp
  | false=>
   have b:j ≠ t:=by intro e;subst e;simp at h
   simp only [DV r (j+1) t];by_cases hj:j+1<=t
   .rw [if_pos hj,if_pos (by omega)];obtain ⟨d,hd⟩:∃ d,t - j=d+1:=⟨t - j - 1,by omega⟩
    rw [hd,List.getElem?_cons_succ,show t - (j+1)=d by omega]
   .rw [if_neg hj,if_neg (by omega)]
theorem UY {h:List aU} {args:List AV} {cargs:List Value} {m:aW} {S:aO} {w:World} {md:AV} (g:b_ ap (bz h) m S w) (e:bu (bz h) m S args cargs) (n:Nat):
  look (vJ md args h).hp=bz h/\FR ap (vJ md args h).env (vJ md args h).hp [] (cargs.toArray++Array.replicate (n - cargs.toArray.size) undef).size m S w {tmps:=cargs.toArray++Array.replicate (n - cargs.toArray.size) undef,defers:= []}:=by
 have a:look (vJ md args h).hp=bz h:=by
  funext b;have:=DV h 0 b;simp only [vJ,bz];rw [this,if_pos (Xq7 _),Xzg]
 refine ⟨a,⟨a ▸ g, ?_,by simp [iO],rfl⟩⟩;intro t;rw [a];have f:(vJ md args h).env.get t=(args[t]?).getD .dead:=by
  have:=DV args 0 t;simp only [vJ,ji.get];rw [this,if_pos (Xq7 _),Xzg]
 rw [f];cases i:args[t]? with
 |none=>simp [VR]
 | some x=>
  obtain ⟨v,d,j⟩:=uZ e t i;have c:=(List.getElem?_eq_some_iff.1 d).1;have:(cargs.toArray++Array.replicate (n - cargs.toArray.size) undef).getD t undef=v:=by
   rw [Array.getD_eq_getD_getElem?,Array.getElem?_append_left (by simpa using c)];simp [d]
  rw [this];exact j
theorem BL (k:iy P ap) (N:uX P ap H) {h0 A:List aU} {z:Func} {e:bI} {s:St} {c I:Cx} {out:lG} {D:AV} (h:F5 ap H h0.length z e s c= .ok (out,A,D) I) (E:I.Ok):
  c.Ok/\h0.length<=A.length/\∀ m0 S0 w0 m S w a nt,Fr (bz h0) m0 S0 w0 (look s.hp) m S w->FR ap s.env s.hp s.dfs nt m S w a->YK s.hp m S (bodyPostD P z λe w'=> ∃ q S',L9 ap h0 m0 S0 w0 out A q S' w' e) a w e:=by
 have x:∀ d,((SY ap H s.dfs d s.hp c).bind λ(d,hp) c=>
   match d with
   | .nilI=>(Gl ap h0.length z s.env hp c).bind λ(o,h) c=> .ok (o,h,s.md) c
   | .ifc t v=>(N7 h0.length (.ifc t v) hp c).bind λ(o,h) c=> .ok (o,h,s.md) c
   |_=> .bad 74)= .ok (out,A,D) I->c.Ok/\h0.length<=A.length/\∀ m0 S0 w0 m S w a nt u,Fr (bz h0) m0 S0 w0 (look s.hp) m S w->FR ap s.env s.hp s.dfs nt m S w a->Ko S d u->Leaves P z a.tmps (λe w'=> ∃ q S',L9 ap h0 m0 S0 w0 out A q S' w' e) a.defers u w:=by
  intro d j;obtain ⟨⟨mode',hp'⟩,T,O,j⟩:=R.bind_ok j;dsimp only at j;split at j
  .obtain ⟨⟨o,y⟩,U,C,j⟩:=R.bind_ok j;cases j;obtain ⟨K,i,B⟩:=zI (P:=P) (m:=λ_=>(0,0)) (m0:=λ_=>(0,0)) (S:=λ_ _=>none) (S0:=λ_ _=>none) (w:=default) (w0:=default) (tmps:=#[]) k C E;obtain ⟨r,J⟩:=EH k N s.dfs d _ s.hp hp' c T O K;refine ⟨r,i,λm0 S0 w0 m S w a nt u f g L=> ?_⟩;refine J h0 z a.tmps s.env _ m0 S0 w0 m S w a.defers u g.srel f g.env g.dfs L ?_;intro q S' w' W p l M h5;simp only [Ko] at h5;subst h5;obtain ⟨_,_,B⟩:=zI (P:=P) (m:=q) (m0:=m0) (S:=S') (S0:=S0) (w:=w') (w0:=w0) (tmps:=a.tmps) k C E;obtain ⟨cv,G,h7⟩:=B p l M;exact ⟨cv,G,h7⟩
  .rename_i t v;obtain ⟨⟨o,y⟩,U,C,j⟩:=R.bind_ok j;cases j;obtain ⟨rfl,i,_⟩:=CB (ap:=ap) (m:=λ_=>(0,0)) (m0:=λ_=>(0,0)) (S:=λ_ _=>none) (S0:=λ_ _=>none) (w:=default) (w0:=default) C;obtain ⟨r,J⟩:=EH k N s.dfs d _ s.hp hp' c _ O E;refine ⟨r,i,λm0 S0 w0 m S w a nt u f g L=> ?_⟩;refine J h0 z a.tmps s.env _ m0 S0 w0 m S w a.defers u g.srel f g.env g.dfs L ?_;intro q S' w' W p l M h5;simp only [Ko] at h5;obtain ⟨cv,rfl,G⟩:=h5;obtain ⟨_,_,F⟩:=CB (ap:=ap) (m:=q) (m0:=m0) (S:=S') (S0:=S0) (w:=w') (w0:=w0) C;exact F p l cv (iE _ G) (λb ver n h=>by cases h)
  .cases j
 unfold F5 at h;dsimp only at h;split at h
 .obtain ⟨y,p,l⟩:=x .nilI h;exact ⟨y,p,λm0 S0 w0 m S w a nt f g=>l m0 S0 w0 m S w a nt .returning f g rfl⟩
 .obtain ⟨y,p,l⟩:=x .nilI h;exact ⟨y,p,λm0 S0 w0 m S w a nt f g=>l m0 S0 w0 m S w a nt .returning f g rfl⟩
 .rename_i t v;split at h
  .rename_i Q;obtain ⟨y,p,l⟩:=x (.ifc t v) h;refine ⟨y,p,λm0 S0 w0 m S w a nt f g cv V=>l m0 S0 w0 m S w a nt _ f g ⟨cv,rfl, ?_⟩⟩;exact pX (by simpa [eG] using Q) V
  .cases h
 .cases h
theorem xx (i:iy P ap) (g:P.follows .mixedOrders=true) (j:JM P ap) (y:ku P ap H) (B:uX P ap H) (lf:Nat):ku P ap λc md f args h=>sD ap H lf md f args h c:=by
 intro c f args h out I t D b z;have b:sD ap H lf .dead f args h c= .ok (out,I,t) D:=b;unfold sD at b;split at b
 .cases b
 .rename_i F p;dsimp only at b;obtain ⟨⟨e,s⟩,M,v,b⟩:=R.bind_ok b;dsimp only at b;obtain ⟨a,x,d⟩:=j.body f F p;have hbody:ax F.fn=a:=by simp [ax,x]
  rw [hbody] at v;obtain ⟨n,k,l⟩:=BL i B b z;obtain ⟨q,_⟩:=gu (nt:=F.fn.ntmps) i g y a d _ _ _ _ _ v n;refine ⟨q,k,Kv j p,λm S w cargs G C=> ?_⟩;obtain ⟨E,u⟩:=UY (md:= .dead) G C F.fn.ntmps;have o:F.fn.ntmps<=(cargs.toArray++Array.replicate (F.fn.ntmps - cargs.toArray.size) undef).size:=by simp;omega
  obtain ⟨_,r⟩:=gu i g y a (fG o a d) _ _ _ _ _ v n;obtain ⟨_,r⟩:=r rfl;refine calls_of_wp_defers (j.fn f F p) x ?_;refine r m S w m S w _ (by rw [E];exact Fr.refl _ _ _ _) u _ ?_;intro A S' w' J K L;exact l m S w A S' w' J _ K L
end
end AM
namespace AM
open Go
section
variable {P:Program} {ap:AP} {H:dD}
theorem Bv (i:iy P ap) (e:P.follows .mixedOrders=true) (j:JM P ap) (m:ku P ap H) (lf:Nat):uX P ap λc md f args h=>sD ap H lf md f args h c:=by
 intro c md f args h out k d g b a l;have a:sD ap H lf md f args h c= .ok (out,k,d) g:=a;unfold sD at a;split at a
 .cases a
 .cases md<;>first|exact absurd rfl b|cases a
end
end AM
namespace AM
open Go
def TY (P:Program) (ap:AP) (lf:Nat) (fs:List Nat):Nat->dD
 |0=>λ_ _ _ _ _=> .bad 90
 | n+1=>λc md f args h=>
  match rP fs f with
  |false=>sD ap (TY P ap lf fs n) lf md f args h c
  |true=>match md,c.ans with
   | .dead,(out,h')::r=> .ok (out,h',.dead) {c with ans:=r,ps:=aG P ap f args h out h'::c.ps}
   |_,_=> .bad 91
theorem Jq {P:Program} {ap:AP} (d:iy P ap) (b:P.follows .mixedOrders=true) (e:JM P ap) (lf:Nat) (k:List Nat):∀ n,ku P ap (TY P ap lf k n)/\uX P ap (TY P ap lf k n)
 |0=> ⟨λ_ _ _ _ _ _ _ _ h=>(by cases h),λ_ _ _ _ _ _ _ _ _ _ h=>(by cases h)⟩
 | n +1=>by
  obtain ⟨o,q⟩:=Jq d b e lf k n;constructor
  .intro c f args h out m g l a i;simp only [TY] at a;split at a
   .exact xx d b e o q lf c f args h out m g l a i
   .split at a
    .cases a;exact ⟨⟨i.bs,λp hp=>i.ps p (by simp [hp])⟩,i.ps _ (by simp)⟩
    .cases a
  .intro c md f args h out m g l j a i;simp only [TY] at a;split at a
   .exact Bv d b e o lf c md f args h out m g l j a i
   .split at a
    .exact absurd rfl j
    .cases a
theorem ajB {P:Program} {ap:AP} (b:iy P ap) (a:P.follows .mixedOrders=true) (d:JM P ap) {lf:Nat} {i:List Nat} {n:Nat} {c e:Cx} {f:Nat} {args:List AV} {h g:List aU} {out:lG} {md:AV}
  (he:sD ap (TY P ap lf i n) lf .dead f args h c= .ok (out,g,md) e) (hc:e.Ok):aG P ap f args h out g:=by
 obtain ⟨j,k⟩:=Jq b a d lf i n;exact (xx b a d j k lf c f args h out g md e he hc).2
def H8:Option AF->Bool
 |some F=>(match F.fn.body with|some c=>dV F.fn.ntmps c|none=>false) && !(F.fn.name== "runtime.NumGoroutine")
 |none=>true
theorem ac6 {P:Program} {ap:AP} {keep:Nat->Bool} (h:(Xqo ap.nty).map ap.ty.get=(Xqo ap.nty).map λi=>match keep i with|true=>acw P i|false=>none):iy P ap:=by
 constructor;intro t ti b;unfold AP.tyAt at b;split at b
 .rename_i c;have d:=gI c;have a:((Xqo ap.nty).map ap.ty.get)[t]? =some (some ti):=by rw [Xqw,Xzc d];simp [b]
  rw [h,Xqw,Xzc d] at a;simp only [Xjm,Option.some.injEq] at a;split at a
  .exact a
  .cases a
 .cases b
theorem adX {P:Program} {ap:AP} {keep:Nat->Bool} (h:(Xqo ap.nfn).map (λi=>(ap.fn.get i).map AF.fn)=(Xqo ap.nfn).map λi=>match keep i with|true=>P.funcs[i]? |false=>none) (l:(Xqo ap.nfn).all (λi=>H8 (ap.fn.get i))=true):JM P ap:=by
 have d:∀ (f:Nat) (F:AF),ap.fnAt f=some F->f<ap.nfn/\ap.fn.get f=some F:=by
  intro f F a;unfold AP.fnAt at a;split at a
  .rename_i g;exact ⟨gI g,a⟩
  .cases a
 have hgood:∀ (f:Nat) (F:AF),ap.fnAt f=some F->H8 (some F)=true:=by
  intro f F a;obtain ⟨e,j⟩:=d f F a;have:=List.all_eq_true.1 l f (by simpa using e);rwa [j] at this
 constructor
 .intro f F a;obtain ⟨e,j⟩:=d f F a;have b:((Xqo ap.nfn).map λi=>(ap.fn.get i).map AF.fn)[f]? =some (some F.fn):=by rw [Xqw,Xzc e];simp [j]
  rw [h,Xqw,Xzc e] at b;simp only [Xjm,Option.some.injEq] at b;split at b
  .exact b
  .cases b
 .intro f F a;have:=hgood f F a;simp only [H8,τ] at this;cases k:F.fn.body with
  |none=>rw [k] at this;cases this.1
  |some c=>rw [k] at this;exact ⟨c,rfl,this.1⟩
 .intro f F a;have:=hgood f F a;simp only [H8,τ,Xqs] at this;exact this.2
end AM
namespace AM
open Go
def kw (P:Program) (ap:AP) (h0:List aU) (n:Nat) (code:Code) (s:St) (e:bI) (s':St):Prop:=∀ nt,n<=nt->ak P ap h0 nt code s e s'
abbrev A8:=List (bI × St)
def oI (P:Program) (ap:AP) (H:dD) (h0:List aU) (keep:List Nat) (lf nt:Nat) (ls:List Nat):Code->St->A8->Cx->R ((bI × St) × A8)
 | .seq a b,s,l,c=>(oI P ap H h0 keep lf nt ls a s l c).bind λr c=>match r.1.1 with
  | .normal=>oI P ap H h0 keep lf nt ls b r.1.2 r.2 c
  |e=> .ok ((e,r.1.2),r.2) c
 | .cond t a b,s,l,c=>match uq ap s.env t with
  | .bool x=>(Dw c x).bind λx c=>match x with
   |true=>oI P ap H h0 keep lf nt ls a s l c
   |false=>oI P ap H h0 keep lf nt ls b s l c
  |_=> .bad 60
 | .block id b,s,l,c=>match rP ls id with
  |true=>match l with
   |(e,s')::r=> .ok ((e,s'),r) {c with ps:=kw P ap h0 nt (.block id b) s e s'::c.ps}
   | []=> .bad 62
  |false=>(oI P ap H h0 keep lf nt ls b s l c).bind λr c=>match r.1.1 with
   | .exit id'=>match Xqk id' id with|true=> .ok ((.normal,r.1.2),r.2) c|false=> .ok ((.exit id',r.1.2),r.2) c
   |e=> .ok ((e,r.1.2),r.2) c
 | .scope b,s,l,c=>oI P ap H h0 keep lf nt ls b s l c
 | .region id ops draw,s,l,c=>match rP ls (id+1000) with
  |true=>match l with
   |(e,s')::r=> .ok ((e,s'),r) {c with ps:=kw P ap h0 nt (.region id ops draw) s e s'::c.ps}
   | []=> .bad 63
  |false=>(oH ap H h0.length keep lf (.region id ops draw) s c).bind λr c=> .ok (r,l) c
 |code,s,l,c=>(oH ap H h0.length keep lf code s c).bind λr c=> .ok (r,l) c
section
variable {P:Program} {ap:AP} {H:dD}
theorem ak.seq {h0:List aU} {nt:Nat} {x y:Code} {s s1 d:St} {e:bI} (f:ak P ap h0 nt x s .normal s1) (p:ak P ap h0 nt y s1 e d):ak P ap h0 nt (.seq x y) s e d:=by
 intro b;obtain ⟨j,h⟩:=f b;obtain ⟨h5,l⟩:=p j;refine ⟨h5,λm0 S0 w0 m S w a c n Q g=>wp_seq (h m0 S0 w0 m S w a c n _ ?_)⟩;intro k S' w' o h7 i;exact l m0 S0 w0 k S' w' o h7 i Q g
theorem ak.seq_out {h0:List aU} {nt:Nat} {x y:Code} {s s1:St} {e:bI} (c:e ≠ .normal) (f:ak P ap h0 nt x s e s1):ak P ap h0 nt (.seq x y) s e s1:=by
 intro b;obtain ⟨i,h⟩:=f b;refine ⟨i,λm0 S0 w0 m S w a d l Q g=>wp_seq (h m0 S0 w0 m S w a d l _ ?_)⟩;intro j S' w' n h5 k;have:=g j S' w' n h5 k;cases e with
 |normal=>exact absurd rfl c
 |exit id=>exact this
 |ret=>exact this
 |panic v=>exact this
theorem ak.cond {h0:List aU} {nt:Nat} {t:Operand} {x y:Code} {s s':St} {e:bI} {c:Bool} (j:uq ap s.env t= .bool c) (h:ak P ap h0 nt (if c then x else y) s e s'):ak P ap h0 nt (.cond t x y) s e s':=by
 intro b;obtain ⟨h5,i⟩:=h b;refine ⟨h5,λm0 S0 w0 m S w a f d Q g=>wp_cond (t:=c) ?_ (i m0 S0 w0 m S w a f d Q g)⟩;have:=Ag d.srel (a:=a) (env:=s.env) t (λt _=>d.env t);rw [j] at this;simpa only [VR,PR] using this
def vg (id:Nat):bI->bI
 | .exit id'=>match Xqk id' id with|true=> .normal|false=> .exit id'
 |e=>e
theorem ak.block {h0:List aU} {nt:Nat} {id:Nat} {b:Code} {s s':St} {e:bI} (h:ak P ap h0 nt b s e s'):ak P ap h0 nt (.block id b) s (vg id e) s':=by
 intro d;obtain ⟨n,l⟩:=h d;refine ⟨n,λm0 S0 w0 m S w a j q Q k=>wp_block (l m0 S0 w0 m S w a j q _ ?_)⟩;intro o S' w' i h5 p;have c:=k o S' w' i h5 p;cases e with
 |normal=>exact c
 |ret=>exact c
 |panic v=>exact c
 | exit id'=>
  simp only [vg] at c;split at c
  .rename_i f;show Exit.inBlock id Q (.exit id') i w';simp only [Exit.inBlock,if_pos (aN f)];exact c
  .rename_i f;show Exit.inBlock id Q (.exit id') i w';have g:id' ≠ id:=by intro e;subst e;simp at f
   simp only [Exit.inBlock,if_neg g];exact c
theorem ak.scope {h0:List aU} {nt:Nat} {b:Code} {s s':St} {e:bI} (h:ak P ap h0 nt b s e s'):ak P ap h0 nt (.scope b) s e s':=by
 intro d;obtain ⟨j,i⟩:=h d;refine ⟨j,λm0 S0 w0 m S w a f n Q g=>wp_scope_straight (i m0 S0 w0 m S w a f n _ ?_)⟩;intro k S' w' o h5 l;have c:=g k S' w' o h5 l;cases e with
 |normal=>exact c
 |exit id=>exact c
 |ret=>exact c
 |panic v=>exact c
theorem xJ (A:iy P ap) (w:P.follows .mixedOrders=true) (K:ku P ap H) {h0:List aU} {keep:List Nat} {lf n nt:Nat} (F:n<=nt) {L:List Nat}:∀ (d:Code),dV nt d=true->∀ (s:St) (l:A8) (r:(bI × St) × A8) (c f:Cx),oI P ap H h0 keep lf n L d s l c= .ok r f->f.Ok->c.Ok/\ak P ap h0 nt d s r.1.1 r.1.2:=by
 have hbase:∀ (d:Code),dV nt d=true->∀ (s:St) (l:A8) (r:(bI × St) × A8) (c f:Cx),((oH ap H h0.length keep lf d s c).bind λr c=> .ok (r,l) c)= .ok r f->f.Ok->c.Ok/\ak P ap h0 nt d s r.1.1 r.1.2:=by
  intro d hd s l r c f h a;obtain ⟨⟨e,s'⟩,u,k,h⟩:=R.bind_ok h;cases h;exact gu A w K d hd s e s' c _ k a
 intro d
 induction d with
 | seq x y ihx ihy=>
  intro hd s l r c f h a;simp only [dV,τ] at hd;simp only [oI] at h;obtain ⟨⟨⟨m,s1⟩,D⟩,u,k,h⟩:=R.bind_ok h;dsimp only at h;have hother:m ≠ .normal->R.ok ((m,s1),D) u=R.ok r f->c.Ok/\ak P ap h0 nt (.seq x y) s r.1.1 r.1.2:=by
   intro E J;cases J;obtain ⟨g,i⟩:=ihx hd.1 _ _ _ _ _ k a;exact ⟨g,i.seq_out E⟩
  cases m with
  |normal=>
   dsimp only at h;obtain ⟨j,M⟩:=ihy hd.2 _ _ _ _ _ h a;obtain ⟨g,i⟩:=ihx hd.1 _ _ _ _ _ k j;exact ⟨g,i.seq M⟩
  |exit id=>exact hother (by simp) h
  |ret=>exact hother (by simp) h
  |panic v=>exact hother (by simp) h
 | cond t x y ihx ihy=>
  intro hd s l r c f h a;simp only [dV,τ] at hd;simp only [oI] at h;split at h
  .rename_i N q;obtain ⟨I,u,k,h⟩:=R.bind_ok h;cases I with
   |true=>
    obtain ⟨j,i⟩:=ihx hd.1 _ _ _ _ _ h a;obtain ⟨g,z⟩:=nD k j;exact ⟨g,ak.cond q (by rw [<- z];exact i)⟩
   |false=>
    obtain ⟨j,i⟩:=ihy hd.2 _ _ _ _ _ h a;obtain ⟨g,z⟩:=nD k j;exact ⟨g,ak.cond q (by rw [<- z];exact i)⟩
  .cases h
 | block id b ih=>
  intro hd s l r c f h a;simp only [dV] at hd;simp only [oI] at h;split at h
  .split at h
   .rename_i B C G;cases h;have hp:kw P ap h0 n (.block id b) s B C:=a.ps _ (Xjp ..);exact ⟨⟨a.bs,λp hp=>a.ps p (Xx2 _ hp)⟩,hp nt F⟩
   .cases h
  .obtain ⟨⟨⟨m,s1⟩,D⟩,u,k,h⟩:=R.bind_ok h;dsimp only at h;have o:r=((vg id m,s1),D)/\u=f:=by
    cases m<;>dsimp only at h
    .cases h;exact ⟨rfl,rfl⟩
    .unfold vg;split at h<;>cases h<;>rename_i z<;>dsimp only<;>rw [z]<;>exact ⟨rfl,rfl⟩
    .cases h;exact ⟨rfl,rfl⟩
    .cases h;exact ⟨rfl,rfl⟩
   obtain ⟨rfl,rfl⟩:=o;obtain ⟨g,i⟩:=ih hd _ _ _ _ _ k a;exact ⟨g,i.block⟩
 |scope b ih=>
  intro hd s l r c f h a;simp only [dV] at hd;simp only [oI] at h;obtain ⟨g,i⟩:=ih hd _ _ _ _ _ h a;exact ⟨g,i.scope⟩
 |skip=>exact λhd s l r c f h a=>hbase _ hd s l r c f h a
 | region id ops draw=>
  intro hd s l r c f h a;simp only [oI] at h;split at h
  .split at h
   .rename_i B C G;cases h;have hp:kw P ap h0 n (.region id ops draw) s B C:=a.ps _ (Xjp ..);exact ⟨⟨a.bs,λp hp=>a.ps p (Xx2 _ hp)⟩,hp nt F⟩
   .cases h
  .exact hbase _ hd s l r c f h a
 |loop _ _=>exact λhd s l r c f h a=>hbase _ hd s l r c f h a
 |rangeFunc _ _ _ _=>exact λhd s l r c f h a=>hbase _ hd s l r c f h a
 |exit _=>exact λhd s l r c f h a=>hbase _ hd s l r c f h a
 |label _=>exact λhd s l r c f h a=>hbase _ hd s l r c f h a
 |goto _=>exact λhd s l r c f h a=>hbase _ hd s l r c f h a
 |ret=>exact λhd s l r c f h a=>hbase _ hd s l r c f h a
 |refuse _=>exact λhd s l r c f h a=>hbase _ hd s l r c f h a
def UE (P:Program) (ap:AP) (H:dD) (lf:Nat) (ls:List Nat) (f:Nat) (args:List AV) (h:List aU) (l:A8) (c:Cx):R (lG × List aU × AV):=
 match ap.fnAt f with
 |none=> .bad 80
 |some F=>(oI P ap H h F.keep lf F.fn.ntmps ls (ax F.fn) (vJ .dead args h) l c).bind λr c=>F5 ap H h.length F.fn r.1.1 r.1.2 c
theorem Y3 (g:iy P ap) (n:P.follows .mixedOrders=true) (b:JM P ap) (G:ku P ap H) (B:uX P ap H) {lf:Nat} {I:List Nat} {f:Nat} {args:List AV} {h y:List aU} {l:A8} {c x:Cx} {out:lG} {t:AV}
  (d:UE P ap H lf I f args h l c= .ok (out,y,t) x) (hc:x.Ok):aG P ap f args h out y:=by
 unfold UE at d;split at d
 .cases d
 .rename_i F p;obtain ⟨⟨⟨e,s⟩,N⟩,M,z,d⟩:=R.bind_ok d;dsimp only at d;obtain ⟨a,v,i⟩:=b.body f F p;have hbody:ax F.fn=a:=by simp [ax,v]
  rw [hbody] at z;obtain ⟨r,j,o⟩:=BL g B d hc;refine ⟨j,Kv b p,λm S w cargs D C=> ?_⟩;obtain ⟨E,u⟩:=UY (md:= .dead) D C F.fn.ntmps;have k:F.fn.ntmps<=(cargs.toArray++Array.replicate (F.fn.ntmps - cargs.toArray.size) undef).size:=by simp;omega
  obtain ⟨_,q⟩:=xJ g n G k a (fG k a i) _ _ _ _ _ z r;obtain ⟨_,q⟩:=q rfl;refine calls_of_wp_defers (b.fn f F p) v ?_;refine q m S w m S w _ (by rw [E];exact Fr.refl _ _ _ _) u _ ?_;intro A S' w' J K L;exact o m S w A S' w' J _ K L
end
end AM
namespace AM
open Go
def AL (P:Program) (ap:AP) (lf:Nat):Nat->dD
 |0=>λ_ _ _ _ _=> .bad 90
 | n+1=>λc md f args h=>
  match md with
  | .dead=>match c.ans with
   |(out,h')::r=> .ok (out,h',.dead) {c with ans:=r,ps:=aG P ap f args h out h'::c.ps}
   |_=> .bad 91
  |md=>sD ap (AL P ap lf n) lf md f args h c
theorem nO {P:Program} {ap:AP} (i:iy P ap) (b:P.follows .mixedOrders=true) (j:JM P ap) (lf:Nat):∀ n,ku P ap (AL P ap lf n)/\uX P ap (AL P ap lf n)
 |0=> ⟨λ_ _ _ _ _ _ _ _ h=>(by cases h),λ_ _ _ _ _ _ _ _ _ _ h=>(by cases h)⟩
 | n+1=>by
  obtain ⟨m,o⟩:=nO i b j lf n;constructor
  .intro c f args h out l d k a e;simp only [AL] at a;split at a
   .cases a;exact ⟨⟨e.bs,λp hp=>e.ps p (by simp [hp])⟩,e.ps _ (by simp)⟩
   .cases a
  .intro c md f args h out l d k g a e;have a:sD ap (AL P ap lf n) lf md f args h c= .ok (out,l,d) k:=by
    cases md<;>first|exact absurd rfl g|exact a
   exact Bv i b j m lf c md f args h out l d k g a e
inductive OH:List Prop->Prop where
 |nil:OH []
 |cons {p:Prop} {l:List Prop}:p->OH l->OH (p::l)
theorem OH.mem {l:List Prop} (h:OH l):∀ p ∈ l,p:=by
 induction h with
 |nil=>intro p hp;cases hp
 |cons hp _ ih=>
  intro q a;rcases List.mem_cons.1 a with rfl|a
  .exact hp
  .exact ih q a
inductive oD:List Bool->Prop where
 |nil:oD []
 |t {l:List Bool}:oD l->oD (true::l)
 |c {b:Bool} {l:List Bool}:b=true->oD l->oD (b::l)
theorem oD.mem {l:List Bool} (h:oD l):∀ b ∈ l,b=true:=by
 induction h with
 |nil=>intro p hp;cases hp
 |t _ ih=>
  intro q a;rcases List.mem_cons.1 a with rfl|a
  .rfl
  .exact ih q a
 |c hp _ ih=>
  intro q a;rcases List.mem_cons.1 a with rfl|a
  .exact hp
  .exact ih q a
structure GH (P:Program) (ap:AP):Prop where
 apok:iy P ap
 mixed:P.follows .mixedOrders=true
 fnok:JM P ap
theorem KD {P:Program} {ap:AP} (g:GH P ap) {lf n:Nat} {ans:List (lG × List aU)} {ps:List Prop} {f:Nat} {args:List AV} {h a:List aU} {out:lG} (hp:OH ps)
  (he:sD ap (AL P ap lf n) lf .dead f args h ⟨true,[],[],[],ans,[]⟩= .ok (out,a,.dead) ⟨true,[],[],ps,[],[]⟩):aG P ap f args h out a:=by
 obtain ⟨d,e⟩:=nO g.apok g.mixed g.fnok lf n;exact (xx g.apok g.mixed g.fnok d e lf _ f args h out a .dead _ he ⟨λb c=>(by cases c),hp.mem⟩).2
end AM
namespace AM
open Go Go.ChangeShapes Go.WideShapes Go.ChangeAt Go.RowKit
def tH:Lit->Value
 | .int k n=> .int k n
 | .bool b=> .bool b
 | .string s=> .string ⟨s.toArray⟩
 |_=> .nilFunc
def PK:Lit->AV
 | .int k n=> .int k n
 | .bool b=> .bool b
 | .string s=> .str s
 |_=> .dead
def Iy:Lit->Bool
 | .int _ _=>true
 | .bool _=>true
 | .string _=>true
 |_=>false
def PM (f:TypeId->DataW Unit->Nat->Option (List (Nat × Lit))):List (TypeId × Nat)->List (DataW Unit)->Option (List (Nat × Lit))
 | [],[]=>some []
 |(t,o)::r,d::ds=>match f t d o,PM f r ds with
  |some a,some b=>some (a++b)
  |_,_=>none
 |_,_=>none
def oM (P:Program):Nat->TypeId->DataW Unit->Nat->Option (List (Nat × Lit))
 |0,_,_,_=>none
 |n+1,t,d,off=>match P.underlying t,d with
  |some (.struct fs),.agg ds=>PM (oM P n) (fs.toList.map λf=>(f.type,off+f.offset)) ds
  |some (.array m e),.agg ds=>PM (oM P n) ((Xqo m).map λi=>(e,off+i*P.cellsOf e)) ds
  |some (.int _),.lit (.int k n)=>some [(off,.int k n)]
  |some .bool,.lit (.bool b)=>some [(off,.bool b)]
  |some .string,.lit (.string s)=>some [(off,.string s)]
  |_,_=>none
theorem Iw {f:TypeId->DataW Unit->Nat->Option (List (Nat × Lit))}:∀ {ts:List (TypeId × Nat)} {ds:List (DataW Unit)} {l:List (Nat × Lit)},PM f ts ds=some l->ts.length=ds.length/\∀ x ∈ l,∃ (i:Nat) (t o:Nat) (d:DataW Unit) (a:List (Nat × Lit)),ts[i]? =some (t,o)/\ds[i]? =some d/\f t d o=some a/\x ∈ a
 | [],[],l,h=>by simp [PM] at h;subst h;simp
 | (t,o)::r,d::ds,l,h=>by
  simp only [PM] at h;split at h
  .rename_i a b k m;cases h;obtain ⟨u,v⟩:=Iw m;refine ⟨by simp [u],λx c=> ?_⟩;rcases List.mem_append.1 c with c|c
   .exact ⟨0,t,o,d,a,rfl,rfl,k,c⟩
   .obtain ⟨i,n,s,j,p,e,q,h5,g⟩:=v x c;exact ⟨i+1,n,s,j,p,by simpa using e,by simpa using q,h5,g⟩
  .cases h
 | [],_::_,_,h=>by simp [PM] at h
 |_::_,[],_,h=>by simp [PM] at h
theorem qR {P:Program} {w:World} {base:Nat} {I:Nat->Bool} {v:Bool}:∀ (n:Nat) (t:TypeId) (d:DataW Unit) (off:Nat) (l:List (Nat × Lit)),oM P n t d off=some l->∀ (c:Nat) (cs:List Value) (p:List MemPlace),DataW.trod (λ_=>()) P w base I v c t cs=some (d,p)->∀ x ∈ l,∃ j,x.1=off+j/\cs[j]? =some (tH x.2)
 |0,_,_,_,_,h=>by simp [oM] at h
 | n +1,t,d,off,l,h=>by
  intro c cs p hd x r;simp only [oM] at h;split at h
  .rename_i R J q;cases c with
   |zero=>simp [DataW.trod] at hd
   | succ m=>
    simp only [DataW.trod,q] at hd;split at hd
    .obtain ⟨K,G,g⟩:=Option.map_eq_some_iff.1 hd;simp only [Prod.mk.injEq,DataW.agg.injEq] at g;obtain ⟨rfl,rfl⟩:=g;obtain ⟨Q,F⟩:=Iw h;obtain ⟨i,N,L,M,a,A,u,h5,C⟩:=F x r;rw [Xqw,Xqq] at A;obtain ⟨f,E,z⟩:=A;simp only [Prod.mk.injEq] at z;obtain ⟨rfl,rfl⟩:=z;obtain ⟨b,D,B⟩:=Lib.mapM_at G i f E;rw [Xqw,D] at u;simp only [Xjm,Option.some.injEq] at u;subst u;obtain ⟨j,O,o⟩:=qR n _ _ _ _ h5 m _ b.2 B x C;refine ⟨f.offset+j,by omega, ?_⟩;rw [Xjq] at o;split at o
     .rwa [Xj5] at o
     .cases o
    .cases hd
  .rename_i k e J q;cases c with
   |zero=>simp [DataW.trod] at hd
   | succ m=>
    simp only [DataW.trod,q] at hd;split at hd
    .obtain ⟨K,G,g⟩:=Option.map_eq_some_iff.1 hd;simp only [Prod.mk.injEq,DataW.agg.injEq] at g;obtain ⟨rfl,rfl⟩:=g;obtain ⟨Q,F⟩:=Iw h;obtain ⟨i,N,L,M,a,A,u,h5,C⟩:=F x r;rw [Xqw,Xqq] at A;obtain ⟨f,E,z⟩:=A;simp only [Prod.mk.injEq] at z;obtain ⟨rfl,rfl⟩:=z;obtain ⟨b,D,B⟩:=Lib.mapM_at G i f E;rw [Xqw,D] at u;simp only [Xjm,Option.some.injEq] at u;subst u;obtain ⟨j,O,o⟩:=qR n _ _ _ _ h5 m _ b.2 B x C;refine ⟨f*P.cellsOf e+j,by omega, ?_⟩;rw [Xjq] at o;split at o
     .rwa [Xj5] at o
     .cases o
    .cases hd
  .rename_i S k U q;cases h;simp at r;subst r;obtain ⟨T,rfl,y,_⟩:=DataW.trod_int q hd;simp only [Prod.mk.injEq,DataW.lit.injEq,Lit.int.injEq] at y;obtain ⟨⟨rfl,rfl⟩,_⟩:=y;exact ⟨0,rfl,rfl⟩
  .rename_i b q;cases h;simp at r;subst r;cases c with
   |zero=>simp [DataW.trod] at hd
   |succ m=>
    unfold DataW.trod at hd;rw [q] at hd;split at hd<;>simp_all
    rfl
  .rename_i s q;cases h;simp at r;subst r;cases c with
   |zero=>simp [DataW.trod] at hd
   |succ m=>
    unfold DataW.trod at hd;rw [q] at hd;split at hd<;>simp_all
    obtain ⟨_,rfl,_⟩:=hd;rfl
  .cases h
theorem BR {P:Program} {w:World}:∀ {l:List (String × DataW Unit)} {ps:List MemPlace},DataW.LaidVars P w l ps->∀ n d,(n,d) ∈ l->∃ g t cs a p,P.globalNamed n=some g/\(P.globals[g]?).map (·.type)=some t/\w.var? P n=some cs/\DataW.trod (λ_=>()) P w 0 (λ_=>true) false a t cs.toList=some (d,p)
 | [],_,_,n,d,hm=>by cases hm
 | (n',d')::r,ps,h,n,d,hm=>by
  obtain ⟨g,t,cs,a,p,q,e,f,b,c,h5,_⟩:=h;rcases List.mem_cons.1 hm with he|hm
  .cases he;exact ⟨g,t,cs,a,p,e,f,b,c⟩
  .exact BR h5 n d hm
theorem SX {P:Program} {W:World} {a:List (String × DataW Unit)} (h:laidMetH P a W) (e:a.filter (λx=>x.2.handleName?.isSome)= []) {n:String} {d:DataW Unit} (y:(n,d) ∈ a) {g:Nat} {t:TypeId} (f:P.globalNamed n=some g) (v:(P.globals[g]?).map (·.type)=some t)
  {ls:List Lit} (hl:oM P 6 t d 0=some (ls.zipIdx.map λ(l,i)=>(i,l))):∀ (j:Nat) (l:Lit),ls[j]? =some l->W.cell? ⟨g,j,none⟩=some (tH l):=by
 have b:laidMet P a W:=by
  unfold laidMetH at h;rw [e] at h;exact h
 obtain ⟨ps,o,_⟩:=b;obtain ⟨g',A,cs,c,p,z,s,u,r⟩:=BR o n d y;obtain rfl:=Option.some.inj (f.symm.trans z);obtain rfl:=Option.some.inj (v.symm.trans s);intro j l q;obtain ⟨k,m,w⟩:=qR 6 t d 0 _ hl c cs.toList p r (j,l) (by
  rw [List.mem_map];exact ⟨(l,j),by rw [List.mem_zipIdx_iff_getElem?];exact q,rfl⟩)
 have:k=j:=by simp at m;exact m.symm
 subst this;rw [World.var?_cell f u k];simpa using w
def jT (W:World):aO:=λk o=>match W.cell? ⟨k,o,none⟩ with|some v=>if v.oneCell' then some v else none|none=>none
theorem L8 {W:World} {k o:Nat} {v:Value} (h:W.cell? ⟨k,o,none⟩=some v) (a:v.oneCell'=true):jT W k o=some v:=by
 unfold jT;rw [h];simp only;rw [if_pos a]
theorem Q8 {W:World} {k o:Nat} {v:Value} (h:jT W k o=some v):bf W k o=some v:=by
 unfold jT at h;split at h
 .rename_i c a;split at h
  .rename_i b;cases h;exact iW a b
  .cases h
 .cases h
theorem OL (S:aO):∀ (ls:List Lit),ls.all Iy=true->bT S (ls.map PK) (ls.map tH)
 | [],_=>by simp [bT]
 |l::r,h=>by
  simp only [Xzr,τ] at h;simp only [Xqg,bT];refine ⟨?_,OL S r h.2⟩;cases l<;>simp only [PK,tH,PR]<;>first|rfl|(exact absurd h.1 (by simp [Iy]))
theorem Tc {l:Lit} (h:Iy l=true):(tH l).oneCell'=true:=by
 cases l<;>first|rfl|(exact absurd h (by simp [Iy]))
def YM (ap:AP) (W:World):Prop:=∀ k xs,(ap.gl[k]?).join=some xs->∃ ls:List Lit,xs=ls.map PK/\ls.all Iy=true/\∀ (j:Nat) (l:Lit),ls[j]? =some l->W.cell? ⟨k,j,none⟩=some (tH l)
theorem ad2 {ap:AP} {W:World} (h:YM ap W):dY ap (jT W):=by
 intro k i e;obtain ⟨f,rfl,d,g⟩:=h k i e;refine ⟨f.map tH,OL _ _ d, ?_⟩;intro j u b;rw [Xqw,Xqq] at b;obtain ⟨l,c,rfl⟩:=b;have a:=Tc (List.all_eq_true.1 d l (Xqm c));refine ⟨?_,a⟩;rw [Nat.zero_add];exact L8 (g j l c) a
theorem ahN {P:Program} {ap:AP} {f:Nat} {args:List AV} {b:Bool} (g:aG P ap f args [] (.ret (.bool b)) []) {W:World} (l:YM ap W) {cargs:List Value} (i:bT (jT W) args cargs):
  Calls P f cargs.toArray W λe W'=>e= .returned (.bool b)/\Below W.heap.size W W':=by
 have j:b_ ap (bz []) (λ_=>(0,0)) (jT W) W:=
  ⟨λb n B B' h=>by simp [bz] at h,λb B h=>by simp [bz] at h,λk o v h=>Q8 h,λb B h=>by simp [bz] at h,ad2 l⟩
 refine (g.calls (λ_=>(0,0)) (jT W) W cargs j (bU _ i)).mono ?_
 rintro e W' ⟨m',S',hF⟩
 obtain ⟨_,a,c⟩:=hF;obtain ⟨cv,rfl,d⟩:=c;simp only [zi,VR,PR] at d;subst d;exact ⟨rfl,a.os,a.tape,a.output,a.size,λk m=>a.rest k m λb B h=>by simp [bz] at h⟩
def Gv (P:Program) (ts:List TypeId):Bool:=ts.all λt=>P.readableRec t && decide (t<P.types.size)
theorem zQ {H:Type} {enc:TypeId × Value->H} {P:Program} (b:laidOutB P=true) {W W':World} {c:Nat->Bool}:∀ {ts:List TypeId} {vs:List Value} {ds:List (DataW H)} {ps:List MemPlace},Gv P ts=true->DataW.TrodAll enc P W 0 (λ_=>true) true ts vs ds ps->(∀ p ∈ ps,W.sameAt W' p)->(∀ p ∈ ps,c p.block=true)->DataW.TrodAll enc P W' 0 c true ts vs ds ps
 | [],vs,ds,ps,_,h,_,_=>by
  obtain ⟨rfl,rfl,rfl⟩:=trodAll_nil h;rfl
 |t::ts,vs,ds,ps,hf,h,hs,hsp=>by
  obtain ⟨v,f,d,e,p,q,rfl,rfl,rfl,g,i⟩:=trodAll_cons h;simp only [Gv,Xzr,τ,decide_eq_true_eq] at hf;exact trodAll_cons_mk (WideElems.Trod_stays b hf.1.1 hf.1.2 g (λx a=>hs x (by simp [a])) (λx a=>hsp x (by simp [a]))) (zQ b (by simpa [Gv] using hf.2) i (λx a=>hs x (by simp [a])) (λx a=>hsp x (by simp [a])))
theorem alP {H:Type} {enc:TypeId × Value->H} {P:Program} {f:Func} {s:ChangeSpec} {apart fresh handsOn again:Bool} {W W':World} {args:Array Value} {g m:List (DataW H)} {before:List MemPlace} (w:laidOutB P=true) (v:Gv P f.params.toList=true)
  (hW:DataW.Whole enc P f.params.toList s.vars apart W args.toList g m before) (hvars:s.vars= []) {tb:TypeId} (hr:f.resultTypes=#[tb]) (htb:P.underlying tb=some .bool) (hfn:s.fn H (g++m)={results:= [.lit (.bool true)],args:=g,vars:= []})
  (hb:Below W.heap.size W W'):s.post enc P f apart fresh handsOn again W args (.bool true) W':=by
 have e:∀ p ∈ before,p.block<W.heap.size:=λp hp=>hW.lt p hp
 have d:∀ p ∈ before,(λb=>decide (b<W.heap.size)) p.block=true:=λp hp=>by simpa using hW.lt p hp
 have k:=hW;obtain ⟨p,q,u,r,rfl,n,o⟩:=hW;rw [hvars] at r;obtain ⟨rfl,rfl⟩:=trodVars_none r;simp only [Xqd] at e d n o k hfn ⊢;have hargs:∀ a:Nat->Bool,(∀ x ∈ p,a x.block=true)->DataW.TrodAll enc P W' 0 a true f.params.toList args.toList (s.fn H g).args p:=by
  intro a l;rw [hfn];exact zQ w v u (λx i=>hb.same (e x i)) l
 have c:∀ (b:Nat) (a:Nat->Bool) (hd:Bool),DataW.TrodAll enc P W' b a hd f.resultTypes.toList ((Value.bool true).resultList f.resultTypes.size) (s.fn H g).results []:=by
  intro b a hd;rw [hfn,hr];exact trodAll_cons_mk (p:= []) (shut_bool htb true) trodAll_mk0
 have j:∀ a:Nat->Bool,DataW.TrodVars enc P W' a s.vars (s.fn H g).vars []:=by
  intro a;rw [hvars,hfn];rfl
 refine ⟨g,[],p,[],p,[],k,by rw [Xqd];exact c _ _ _,by rw [Xqd];exact hargs _ d,by rw [Xqd];exact j _,World.keptBut_mono (λx i=>i) (hb.frame _),λ_=> ?_⟩;refine ⟨ok_one hr rfl (okWide_bool_mk htb _),_,_,([]++p)++ [],⟨[]++p,[],trodAll_append (hargs _ (λ_ _=>rfl)) (c _ _ _),by simpa using j _,rfl, ?_, ?_⟩, ?_⟩
 .intro b h hp;have hp':MemPlace.cell b h ∈ p:=by simpa using hp
  rw [hb.frozen (e _ hp')];exact n b h hp'
 .intro t;simpa using o t
 .intro x i _;simpa using i
end AM
