/- The machine and its soundness. -/
import Derived.Test.YtcpedihclbogjaaGreatDoorM3
import Derived.Recover
import Derived.ProofKit
import Derived.OpenShut
import Derived.LaidLaws
import Derived.LaidSub
import Derived.Lib.LaidTab
set_option linter.unusedSimpArgs false
set_option linter.unusedVariables false
open Bool renaming and_eq_true->π,not_eq_true'->Xqt
open Nat renaming beq->Xqk,zero_le->Xqo,lt_of_lt_of_le->υ,sub_zero->Xzc
open List renaming mem_of_getElem?->Xqn,flatMap_cons->Xxw,flatMap_nil->Xki,append_nil->Xqd,range->Xqm,getElem?_map->Xqx,map_cons->Xqf,flatMap_map->Xvg,getElem?_range->Xj6,mem_cons_self->Xjm,mem_cons_of_mem->Xx1,getElem?_take->Xjn,getElem?_drop->Xj2,all_cons->Xzn
open Option renaming map_eq_some_iff->Xqq,map_some->Xjj
namespace AM
open Go
theorem rr {α:Type} {P:Program} {w:World} (f:α->Sem Value):∀ (l:List α) (vs:List Value),l.length=vs.length->(∀ (i:Nat) (x:α) (v:Value),l[i]? =some x->vs[i]? =some v->(f x).run P w= .ok v w)->(l.mapM f).run P w= .ok vs w
 | [],[],_,_=>rfl
 |a::l,v::vs,hl,h=>by
  rw [List.mapM_cons,Sem.run_bind,h 0 a v rfl rfl,Result.andThen_ok,Sem.run_bind,rr f l vs (by simpa using hl) λi x u c b=>h (i+1) x u (by simpa using c) (by simpa using b),Result.andThen_ok];rfl
 | [],_::_,hl,_=>by simp at hl
 |_::_,[],hl,_=>by simp at hl
def rq (tmps:Array Value):ResultVar->Sem Value
 | .tmp t=>pure (tmps.getD t undef)
 | .cell a t=>do loadVar t (<- asAddr (tmps.getD a undef))
def Im (vs:List Value):Value:=match vs with| [v]=>v|vs=> .tuple vs.toArray
theorem G5 (fn:Func) (tmps:Array Value):results fn tmps=(do let vs <- fn.results.mapM (rq tmps);pure (if h:vs.size=1 then vs[0] else .tuple vs)):=by
 unfold results;congr 2
theorem fP {P:Program} {w:World} {fn:Func} {tmps:Array Value} {vs:List Value} (a:fn.results.toList.length=vs.length)
  (h:∀ (i:Nat) (r:ResultVar) (v:Value),fn.results.toList[i]? =some r->vs[i]? =some v->(rq tmps r).run P w= .ok v w):
  (results fn tmps).run P w= .ok (Im vs) w:=by
 rw [G5,Array.mapM_eq_mapM_toList];simp only [bind_map_left];rw [Sem.run_bind,rr _ _ vs a h,Result.andThen_ok]
 match vs with
 | []=>rfl
 | [v]=>rfl
 |_::_::_=>simp [Im]
theorem E3 {S:aH} {m:aN} {rd c:bW} {w:World} (h:∀ b B,rd b=some B->c b=some B):eO (bZ S m rd w) (bZ S m c w):=by
 intro k o v a;unfold bZ at a ⊢;split at a
 .rename_i u g;exact a
 .rename_i g;split at a
  .rename_i d;obtain ⟨b,B,e,f,i⟩:=d;rw [if_pos ⟨b,B,h b B e,f,i⟩];exact a
  .cases a
def cl (rd:bW) (v:AV):List Nat:=lW rd 6 (eB (cH v))
inductive AC (base:Nat) (rd:bW) (all:List Nat):AV->AV->Prop
 |own {b n:Nat} {B:aM}:rd b=some B->base<=b->B.fro=false->B.pr=true->dm all b=1->0<B.esz->AC base rd all (.ref b B.ver 0 n) (.own (B.cells.take (n*B.esz)) n B.esz)
 |low {v:AV}:(∀ b ∈ cH v,b<base)->AC base rd all v v
 |frz {v v':AV}:(∀ b ∈ cl rd v,base<=b)->frz (λb=>match lp (cl rd v) b with|true=>rd b|false=>none) 6 v=some v'->AC base rd all v v'
theorem J5 {base:Nat} {rd:bW} {v a:AV} (h:QU base rd v=some a):(∀ b ∈ cl rd v,base<=b)/\frz (λb=>match lp (cl rd v) b with|true=>rd b|false=>none) 6 v=some a:=by
 unfold QU at h;dsimp only at h;split at h
 .rename_i c;exact ⟨λb d=>dB (List.all_eq_true.1 c b d),h⟩
 .cases h
theorem A6 {base:Nat} {rd:bW} {all:List Nat} {v a:AV} (h:(match (cH v).all (λb=>Nat.blt b base) with|true=>some v|false=>QU base rd v)=some a):AC base rd all v a:=by
 split at h
 .rename_i c;cases h;exact .low λb e=>dC (List.all_eq_true.1 c b e)
 .obtain ⟨d,f⟩:=J5 h;exact .frz d f
theorem tj {base:Nat} {rd:bW} {all:List Nat} {v c:AV} (h:lJ base rd all v=some c):AC base rd all v c:=by
 unfold lJ at h;dsimp only at h;split at h
 .rename_i b ver n;split at h
  .rename_i B j;split at h
   .rename_i d;cases h;simp only [π,Xqt] at d;obtain ⟨⟨⟨⟨⟨g,a⟩,i⟩,e⟩,h5⟩,f⟩:=d;have a:=aG a;subst a;exact .own j (dB g) i e (aG h5) (dC f)
   .exact A6 h
  .cases h
 .exact A6 h
theorem qj {l:List Nat} {b:Nat} (h:b ∈ l):1<=dm l b:=by
 unfold dm;have:b ∈ l.filter (Xqk b):=by rw [List.mem_filter];exact ⟨h,Nat.beq_refl b⟩
 exact List.length_pos_of_mem this
theorem nN {l a:List Nat} {b:Nat}:dm (l++a) b=dm l b+dm a b:=by simp [dm,List.filter_append]
theorem uu {α:Type} {f:α->List Nat} {b:Nat}:∀ (vs:List α) (i j:Nat) (v v':α),vs[i]? =some v->vs[j]? =some v'->i ≠ j->b ∈ f v->b ∈ f v'->2<=dm (vs.flatMap f) b
 | [],i,j,v,v',h,_,_,_,_=>by simp at h
 | a::r,i,j,v,v',hi,hj,hne,hb,hb'=>by
  have c:∀ (k:Nat) (u:α),r[k]? =some u->b ∈ f u->1<=dm (r.flatMap f) b:=by
   intro k u e d;exact qj (List.mem_flatMap.2 ⟨u,Xqn e,d⟩)
  rw [Xxw,nN];cases i with
  |zero=>
   simp at hi;subst hi;cases j with
   |zero=>exact absurd rfl hne
   |succ j=>have:=c j v' (by simpa using hj) hb';have:=qj hb;omega
  | succ i=>
   cases j with
   |zero=>simp at hj;subst hj;have:=c i v (by simpa using hi) hb;have:=qj hb';omega
   |succ j=>
    have:=uu r i j v v' (by simpa using hi) (by simpa using hj) (by omega) hb hb';omega
def iJ:List AV->List AV->List (Nat × aM)
 |v::r,.own xs _ esz::q=>(match v with| .ref b _ _ _=> [(b,C0 xs esz)]|_=> [])++iJ r q
 |_::r,_::q=>iJ r q
 |_,_=> []
theorem fY {v x:AV} {r q:List AV} (h:∀ xs k e,x ≠ .own xs k e):iJ (v::r) (x::q)=iJ r q:=by
 cases x<;>first|rfl|exact absurd rfl (h _ _ _)
section
variable {P:Program} {ap:AP} {base:Nat} {rd:bW} {all:List Nat}
theorem rK {g:bW} {m:aN} {S:aH} {x:AV} {v:Value} (h:VR g m S x v):∀ xs k e,x ≠ .own xs k e:=by
 rintro xs k e rfl;simp [VR] at h
theorem xB {S:aH} {x:AV} {v:Value} (h:PR S x v):∀ xs k e,x ≠ .own xs k e:=by
 rintro xs k e rfl;simp [PR] at h
end
end AM
namespace AM
open Go
theorem yT {b:Nat}:∀ (l acc:List Nat),(b ∈ l\/b ∈ acc)->b ∈ l.foldl ww acc
 | [],acc,h=>by simpa using h
 | a::r,acc,h=>by
  simp only [List.foldl_cons];refine yT r _ ?_;rcases h with h|h
  .rcases List.mem_cons.1 h with rfl|h
   .right;unfold ww;split
    .rename_i c;exact fe.1 c
    .simp
   .exact .inl h
  .right;obtain h':=h;unfold ww;split
   .exact h
   .simp [h]
theorem GH {l:List Nat} {b:Nat} (h:b ∈ l):b ∈ eB l:=yT l [] (.inl h)
theorem CT (l:List Nat):(eB l).Nodup:=(lB l [] (by simp)).1
theorem Nz {rd:bW} {v:AV} {b:Nat} (h:b ∈ cH v):b ∈ cl rd v:=by
 obtain ⟨_,t,a⟩:=oX rd 6 (eB (cH v)) (CT _);unfold cl;rw [a];exact List.mem_append.2 (.inl (GH h))
theorem uT:∀ {vs l:List AV} {b:Nat} {Bo:aM},(b,Bo) ∈ iJ vs l->∃ ver i n c k e,(AV.ref b ver i n,AV.own c k e) ∈ vs.zip l/\Bo=C0 c e
 | [],l,b,Bo,h=>by cases l<;>simp [iJ] at h
 |v::r,[],b,Bo,h=>by simp [iJ] at h
 | v ::r,x::q,b,Bo,h=>by
  rcases gp x with ⟨c,k,e,rfl⟩|hx
  .simp only [iJ,List.mem_append] at h;rcases h with h|h
   .cases v with
    |ref b' ver i n=>
     simp at h;obtain ⟨rfl,rfl⟩:=h;exact ⟨ver,i,n,c,k,e,by simp,rfl⟩
    |_=>simp at h
   .obtain ⟨ver,i,n,a,d,e',f,g⟩:=uT h;exact ⟨ver,i,n,a,d,e',by simp [f],g⟩
  .rw [fY hx] at h;obtain ⟨ver,i,n,a,d,e',f,g⟩:=uT h;exact ⟨ver,i,n,a,d,e',by simp [f],g⟩
theorem zj {rd:bW} {b:Nat}:∀ (vs l:List AV),dm ((iJ vs l).flatMap λq=> [q.1]) b<=dm (vs.flatMap (cl rd)) b
 | [],l=>by cases l<;>simp [iJ,dm]
 |v::r,[]=>by simp [iJ,dm]
 | v :: r,x::q=>by
  have f:=zj (rd:=rd) (b:=b) r q;rw [Xxw,nN];rcases gp x with ⟨d,k,e,rfl⟩|hx
  .simp only [iJ,List.flatMap_append,nN];cases v with
   | ref b' ver i n=>
    simp only [Xxw,Xki,Xqd];have:dm [b'] b<=dm (cl rd (.ref b' ver i n)) b:=by
     by_cases hb:b=b'
     .subst hb;have a:dm [b] b=1:=by simp [dm]
      rw [a];exact qj (Nz (by simp [cH]))
     .have a:dm [b'] b=0:=by
       have:Xqk b b'=false:=by
        cases c:Xqk b b' with
        |false=>rfl
        |true=>exact absurd (aG c) hb
       simp [dm,this]
      omega
    omega
   |_=>simp [dm] at*;omega
  .rw [fY hx];omega
theorem zr:∀ (vs l:List AV) (n:Nat),vs.length=l.length->(∀ v x,(v,x) ∈ vs.zip l->(∃ c k e,x= .own c k e)->∃ b ver i n,v= .ref b ver i n)->(cX n l).2=(iJ vs l).map (·.2)
 | [],[],n,_,_=>by simp [cX,iJ]
 | v::r,x::q,n,hl,h=>by
  have d:=λn=>zr r q n (by simpa using hl) λv x f a=>h v x (by simp [f]) a
  rcases gp x with ⟨c,k,e,rfl⟩|a
  .obtain ⟨b,ver,i,g,rfl⟩:=h v _ (by simp) ⟨c,k,e,rfl⟩;simp only [cX,iJ,d];simp
  .rw [bh n a,fY a];exact d n
 | [],_::_,_,hl,_=>by simp at hl
 |_::_,[],_,hl,_=>by simp at hl
theorem CZ {rd gh gf:bW} {m u:aN} {S S':aH}:∀ (vs l:List AV) (cvs:List Value) (n:Nat),vs.length=l.length->aU rd m S vs cvs->
  (∀ v x,(v,x) ∈ vs.zip l->(∃ a k e,x= .own a k e)->∃ b ver n,v= .ref b ver 0 n/\∃ a e,x= .own a n e)->
  (∀ v x c,(v,x) ∈ vs.zip l->(∀ a k e,x ≠ .own a k e)->VR rd m S v c->VR gh u S' x c)->
  (∀ (k b:Nat) (Bo:aM),(iJ vs l)[k]? =some (b,Bo)->∀ ver o c,VR rd m S (.ref b ver 0 o) c->(∃ a e,(AV.ref b ver 0 o,AV.own a o e) ∈ vs.zip l)->VR gf u S' (.ref (n+k) 0 0 o) c)->fq gh gf u S' n l cvs
 | [],[],[],n,_,_,_,_,_=>by simp [fq]
 | v::r,x::q,c::cs,n,hl,hv,ho,hx,hr=>by
  simp only [aU] at hv;rcases gp x with ⟨a,k,e,rfl⟩|hxo
  .obtain ⟨b,ver,o,rfl,y,e',w⟩:=ho v _ (by simp) ⟨a,k,e,rfl⟩;cases w;simp only [fq];refine ⟨?_, ?_⟩
   .have:=hr 0 b (C0 a e) (by simp [iJ]) ver k c hv.1 ⟨a,e,by simp⟩;rwa [Nat.add_zero] at this
   .refine CZ r q cs (n+1) (by simpa using hl) hv.2 (λv x h=>ho v x (by simp [h])) (λv x c h=>hx v x c (by simp [h])) ?_;intro j t Bo p d g s i f;have:=hr (j+1) t Bo (by simpa [iJ] using p) d g s i (by obtain ⟨a,e,f⟩:=f;exact ⟨a,e,by simp [f]⟩);rwa [show n+(j+1)=n+1+j by omega] at this
  .rw [bI hxo];refine ⟨hx v x c (by simp) hxo hv.1, ?_⟩;refine CZ r q cs n (by simpa using hl) hv.2 (λv x h=>ho v x (by simp [h])) (λv x c h=>hx v x c (by simp [h])) ?_;intro j t Bo p d g s i f;exact hr j t Bo (by rw [fY hxo];exact p) d g s i (by obtain ⟨a,e,f⟩:=f;exact ⟨a,e,by simp [f]⟩)
 | [],_::_,_,_,hl,_,_,_,_=>by simp at hl
 |_::_,[],_,_,hl,_,_,_,_=>by simp at hl
 | [],[],_::_,_,_,hv,_,_,_=>by simp [aU] at hv
 |_::_,_::_,[],_,_,hv,_,_,_=>by simp [aU] at hv
theorem Eu {α β:Type} {f:α->Option β}:∀ {l:List α} {l':List β},gm f l=some l'->∀ x y,(x,y) ∈ l.zip l'->f x=some y
 | [],l',h,x,y,hm=>by simp at hm
 | a::r,l',h,x,y,hm=>by
  simp only [gm] at h;split at h
  .rename_i b d;split at h
   .rename_i q c;cases h;simp only [List.zip_cons_cons,List.mem_cons,Prod.mk.injEq] at hm;rcases hm with ⟨rfl,rfl⟩|hm
    .exact d
    .exact Eu c x y hm
   .cases h
  .cases h
theorem Jl {α β:Type} {l:List α} {a:List β} {x:α} {y:β} (h:(x,y) ∈ l.zip a):∃ i:Nat,l[i]? =some x/\a[i]? =some y:=by
 obtain ⟨i,b⟩:=List.mem_iff_getElem?.1 h;rw [List.getElem?_zip_eq_some] at b;exact ⟨i,b⟩
theorem P0 {g:bW} {m:aN} {S:aH} {l:List AV} {vs:List Value} (h:aU g m S l vs) {x:AV} (b:x ∈ l):∃ v,VR g m S x v:=by
 obtain ⟨i,a⟩:=List.mem_iff_getElem?.1 b;obtain ⟨v,_,c⟩:=nH h i a;exact ⟨v,c⟩
end AM
namespace AM
open Go
section
variable {P:Program} {ap:AP}
theorem kK {h0 E:List aM} {hp:Hp} {m m0:aN} {S S0:aH} {w w0:World} {vs l:List AV} {cvs:List Value} (U:bE ap (look hp) m S w) (z:Fr (aW h0) m0 S0 w0 (look hp) m S w) (hv:aU (look hp) m S vs cvs)
  {N:Nat} (hN:h0.length<=N) (hl:gm (lJ N (look hp) (vs.flatMap (cl (look hp)))) vs=some l) (hh':gm (look hp) (Xqm N)=some E) (hbase:E.all (λB=>B.pr||(bD B.cells).all λb=>Nat.blt b N)=true):
  ∃ m' S',bE ap (aW (E++(cX E.length l).2)) m' S' w/\Fr (aW h0) m0 S0 w0 (aW (E++(cX E.length l).2)) m' S' w/\fq (aW E) (aW (E++(cX E.length l).2)) m' S' E.length l cvs:=by
 have X:=(dx hl).1;have hz:∀ v x,(v,x) ∈ vs.zip l->AC N (look hp) (vs.flatMap (cl (look hp))) v x:=λv x D=>tj (Eu hl v x D)
 have K:∀ v x,(v,x) ∈ vs.zip l->(∃ M k e,x= .own M k e)->∃ (b n:Nat) (B:aM),v= .ref b B.ver 0 n/\look hp b=some B/\N<=b/\B.fro=false/\B.pr=true/\dm (vs.flatMap (cl (look hp))) b=1/\0<B.esz/\x= .own (B.cells.take (n*B.esz)) n B.esz:=by
  rintro v x D ⟨M,k,e,rfl⟩
  obtain ⟨c,R⟩:=P0 hv (List.of_mem_zip D).1;generalize hxe:AV.own M k e=x at D;cases hz v x D with
  |own a d p t h5 O=>exact ⟨_,_,_,rfl,a,d,p,t,h5,O,rfl⟩
  |low a=>exact absurd hxe.symm (rK R _ _ _)
  |frz a d=>
   refine absurd hxe.symm (xB (i_ U (λb B g=> ?_) 6 v c x d R) _ _ _);split at g
   .exact g
   .cases g
 generalize L:iJ vs l=obs;have hbs:∀ n,(cX n l).2=obs.map (·.2):=by
  intro n;rw [<- L];refine zr vs l n X.symm λv x D W=> ?_
  obtain ⟨b,n',B,a,_⟩:=K v x D W;exact ⟨b,_,0,n',a⟩
 rw [hbs];have A:∀ b Bo,(b,Bo) ∈ obs->∃ (n:Nat) (B:aM),look hp b=some B/\N<=b/\B.fro=false/\B.pr=true/\dm (vs.flatMap (cl (look hp))) b=1/\0<B.esz/\Bo=C0 (B.cells.take (n*B.esz)) B.esz/\(AV.ref b B.ver 0 n,AV.own (B.cells.take (n*B.esz)) n B.esz) ∈ vs.zip l:=by
  intro b Bo D;rw [<- L] at D;obtain ⟨ver,i,n,M,k,e,a,d⟩:=uT D;obtain ⟨b',n',B,p,t,h5,O,h7,T,V,C⟩:=K _ _ a ⟨M,k,e,rfl⟩;cases p;cases C;exact ⟨_,B,t,h5,O,h7,T,V,d,a⟩
 have hobd:∀ (k Y b:Nat) (Bo Bo':aM),obs[k]? =some (b,Bo)->obs[Y]? =some (b,Bo')->k=Y:=by
  intro k Y b Bo Bo' a d;obtain ⟨n,B,_,_,_,_,h5,_⟩:=A b Bo (Xqn a);by_cases s:k=Y
  .exact s
  .have p:=uu (f:=λq:Nat × aM=> [q.1]) obs k Y _ _ a d s (b:=b) (by simp) (by simp);have t:=zj (rd:=look hp) (b:=b) vs l;rw [L] at t;omega
 have hobx:∀ b Bo,(b,Bo) ∈ obs->∀ v x,(v,x) ∈ vs.zip l->(∀ M k e,x ≠ .own M k e)->b ∉ cl (look hp) v:=by
  intro b Bo D v x hvx W g;obtain ⟨n,B,_,_,_,_,h5,_,_,O⟩:=A b Bo D;obtain ⟨i,h7,T⟩:=Jl O;obtain ⟨j,V,C⟩:=Jl hvx;have hne:i ≠ j:=by
   rintro rfl
   rw [T] at C;cases C;exact W _ _ _ rfl
  have:=uu (f:=cl (look hp)) vs i j _ _ h7 V hne (b:=b) (Nz (by simp [cH])) g;omega
 have Z:E.length=N:=by rw [(dx hh').1];simp
 have J:∀ b,b<N->∃ B,look hp b=some B/\aW E b=some B:=by
  intro b g;obtain ⟨B,a,d⟩:=(dx hh').2 b b (by simp [g]);exact ⟨B,d,a⟩
 have hlow':∀ b B,aW E b=some B->b<N/\look hp b=some B:=by
  intro b B g;have G:b<N:=by
   have:=(List.getElem?_eq_some_iff.1 g).1;omega
  obtain ⟨B',a,d⟩:=J b G;rw [g] at d;cases d;exact ⟨G,a⟩
 let rdF:bW:=open Classical in λb=>if ∃ v x,(v,x) ∈ vs.zip l/\(∀ M k e,x ≠ .own M k e)/\b ∈ cl (look hp) v/\∀ y ∈ cl (look hp) v,N<=y then look hp b else none
 have Q:∀ b B,rdF b=some B->look hp b=some B/\N<=b/\∀ Bo,(b,Bo) ∉ obs:=by
  intro b B g;dsimp only [rdF] at g;split at g
  .rename_i R;obtain ⟨v,x,a,d,p,t⟩:=R;exact ⟨g,t b p,λBo D=>hobx b Bo D v x a d p⟩
  .cases g
 have r:=kg S m rdF w
 let m':aN:=λi=>if i<N then m i else m ((obs.map (·.1)).getD (i - N) 0)
 have hm'lo:∀ i,i<N->m' i=m i:=λi F=>if_pos F
 have hm'hi:∀ (k b:Nat) (Bo:aM),obs[k]? =some (b,Bo)->m' (N+k)=m b:=by
  intro k b Bo s;show (if _ then _ else _)=_;rw [if_neg (by omega),show N+k - N=k by omega,List.getD_eq_getElem?_getD,Xqx,s];rfl
 have hgf:∀ i Bi,aW (E++obs.map (·.2)) i=some Bi->(i<N/\look hp i=some Bi/\aW E i=some Bi)\/(∃ k b,i=N+k/\obs[k]? =some (b,Bi)):=by
  intro i Bi F;by_cases G:i<N
  .rw [cU (by omega)] at F;exact .inl ⟨G,(hlow' i Bi F).2,F⟩
  .rw [fG (by omega),Z] at F;right;refine ⟨i - N, ?_⟩;have hi':(obs.map (·.2))[i - N]? =some Bi:=F;rw [Xqx,Xqq] at hi';obtain ⟨⟨b,Bo⟩,a,d⟩:=hi';exact ⟨b,by omega,by rw [a];simp at d;rw [d]⟩
 have hgfk:∀ (k b:Nat) (Bo:aM),obs[k]? =some (b,Bo)->aW (E++obs.map (·.2)) (N+k)=some Bo:=by
  intro k b Bo s;rw [fG (by omega),Z,show N+k - N=k by omega];show (obs.map (·.2))[k]? =_;rw [Xqx,s];rfl
 have I:∀ i Bi,aW (E++obs.map (·.2)) i=some Bi->∃ b B,look hp b=some B/\m' i=m b/\((i<N/\b=i/\Bi=B)\/(N<=b/\∃ k,i=N+k/\obs[k]? =some (b,Bi))):=by
  intro i Bi F;rcases hgf i Bi F with ⟨a,d,p⟩|⟨k,b,rfl,s⟩
  .exact ⟨i,Bi,d,hm'lo i a,.inl ⟨a,rfl,rfl⟩⟩
  .obtain ⟨n,B,a,d,_⟩:=A b Bi (Xqn s);exact ⟨b,B,a,hm'hi k b Bi s,.inr ⟨d,k,rfl,s⟩⟩
 refine ⟨m',bZ S m rdF w, ?_, ?_, ?_⟩
 .refine ⟨?_, ?_,λk o v h=>lQ U h, ?_, ?_⟩
  .intro i j Bi Bj F hj e;obtain ⟨b,B,a,d,p⟩:=I i Bi F;obtain ⟨b',B',h1',h2',h3'⟩:=I j Bj hj;rw [d,h2'] at e;have:=U.inj b b' B B' a h1' e;subst this;rcases p with ⟨t,rfl,_⟩|⟨t,k,rfl,s⟩<;>rcases h3' with ⟨h4',rfl,_⟩|⟨h4',Y,rfl,hk'⟩
   .rfl
   .omega
   .omega
   .rw [hobd k Y b _ _ s hk']
  .intro i Bi F;rcases hgf i Bi F with ⟨a,d,p⟩|⟨k,b,rfl,s⟩
   .rw [hm'lo i a];obtain ⟨⟨cur,e,us,rest,k1,k2,k3,k4,k5,k6⟩,k7,k8⟩:=U.blk i Bi d;refine ⟨⟨cur,e,us,rest,k1,k2,λhp=>aY r _ (k3 hp), ?_,k5,k6⟩,k7,k8⟩;cases hpr:Bi.pr with
    |true=>exact bz _ (aY r _ (k3 hpr))
    |false=>
     refine jV r _ (λb g=> ?_) k4;have h5:=List.all_eq_true.1 hbase Bi (Xqn p);rw [hpr] at h5;simp only [Bool.false_or] at h5;have O:=dC (List.all_eq_true.1 h5 b g);obtain ⟨B,h7,T⟩:=J b O;exact ⟨by rw [cU (by omega),T,h7],hm'lo b O⟩
   .obtain ⟨n,B,a,d,p,t,h5,O,rfl,_⟩:=A b Bi (Xqn s);rw [hm'hi k b _ s];obtain ⟨⟨cur,e,us,rest,k1,k2,k3,k4,k5,k6⟩,k7,k8⟩:=U.blk b B a;have hp:=aY r _ (iy (n*B.esz) (k3 t));refine ⟨⟨cur,e,us.take (n*B.esz),us.drop (n*B.esz)++rest,k1, ?_,λ_=>hp,bz _ hp,λhz u hu=>k5 hz u (List.mem_of_mem_take hu),k6⟩,λ_=>rfl,Xqo _⟩;rw [<- List.append_assoc,List.take_append_drop];exact k2
  .intro i Bi F o v ho;obtain ⟨b,B,a,d,p⟩:=I i Bi F;rw [d] at ho;have hno:rdF b=none:=by
    cases hr:rdF b with
    |none=>rfl
    |some B'=>
     obtain ⟨_,t,h5⟩:=Q b B' hr;rcases p with ⟨O,rfl,_⟩|⟨_,k,_,s⟩
     .omega
     .exact absurd (Xqn s) (h5 _)
   have hSo:S (m b).1 o=some v:=by
    rcases dc ho with h|⟨_,b',B',t,h5,_⟩
    .exact h
    .have:=U.inj b' b B' B (Q b' B' t).1 a h5;subst this;rw [hno] at t;cases t
   obtain ⟨h7,T⟩:=U.own b B a o v hSo;rcases p with ⟨_,rfl,rfl⟩|⟨_,k,_,s⟩
   .exact ⟨h7,T⟩
   .obtain ⟨n,B2,V,_,C,_⟩:=A b _ (Xqn s);rw [a] at V;cases V;rw [h7] at C;cases C
  .intro k M s;obtain ⟨us,a,d⟩:=U.glob k M s;exact ⟨us,aY r _ a,d.mono r⟩
 .refine ⟨?_,z.sle.trans r,z.os,z.tape,z.output,z.size,z.rest, ?_, ?_⟩
  .intro b B0 g;have G:b<N:=υ (List.getElem?_eq_some_iff.1 g).1 hN;obtain ⟨B,a,d,p⟩:=z.ge b B0 g;obtain ⟨B',t,h5⟩:=J b G;rw [a] at t;cases t;exact ⟨B,by rw [cU (by omega)];exact h5,d,by rw [hm'lo b G];exact p⟩
  .intro i Bi F;obtain ⟨b,B,a,d,p⟩:=I i Bi F;rw [d];rcases z.img b B a with h|⟨B0,t,h5⟩
   .exact .inl h
   .have G:b<N:=υ (List.getElem?_eq_some_iff.1 t).1 hN;rcases p with ⟨_,rfl,_⟩|⟨O,_⟩
    .exact .inr ⟨B0,t,h5⟩
    .omega
  .intro k o v hv;rcases dc hv with h|⟨_,b,B,a,d,_⟩
   .exact z.sealN k o v h
   .obtain ⟨p,t,_⟩:=Q b B a;rcases z.img b B p with h|⟨B0,h5,_⟩
    .exact .inr (.inl (d ▸ h))
    .have:=(List.getElem?_eq_some_iff.1 h5).1;omega
 .rw [Z];refine CZ (rd:=look hp) (m:=m) (S:=S) vs l cvs N X.symm hv ?_ ?_ ?_
  .intro v x D W;obtain ⟨b,n,B,a,_,_,_,_,_,_,d⟩:=K v x D W;exact ⟨b,B.ver,n,a,_,_,d⟩
  .intro v x c D W R;cases hz v x D with
   |own _ _ _ _ _ _=>exact absurd rfl (W _ _ _)
   |low a=>
    refine sG r v (λb g=> ?_) R;obtain ⟨B,d,p⟩:=J b (a b g);exact ⟨by rw [p,d],hm'lo b (a b g)⟩
   | frz a d=>
    have p:=i_ U (λb B g=>by split at g;exact g;cases g) 6 v c x d R;refine dZ x (aQ (E3 λb B g=> ?_) x p);split at g
    .rename_i hm2;dsimp only [rdF];rw [if_pos ⟨v,x,D,W,fe.1 hm2,a⟩];exact g
    .cases g
  .rw [L];intro k b Bo s ver n' c R hzz;obtain ⟨n,B,a,d,p,t,h5,O,rfl,h7⟩:=A b Bo (Xqn s);obtain ⟨M,e,hzz⟩:=hzz;have hver:ver=B.ver:=by
    obtain ⟨b2,n2,B2,e1,e2,_⟩:=K _ _ hzz ⟨M,_,e,rfl⟩;cases e1;rw [a] at e2;cases e2;rfl
   subst hver;simp only [VR] at R ⊢;obtain ⟨B',T,_,V,C⟩:=R;rw [a] at T;cases T;refine ⟨_,hgfk k b _ s,Xqo _,V,λ_=> ?_⟩;rw [hm'hi k b _ s];exact C rfl
end
end AM
namespace AM
open Go
section
variable {P:Program} {ap:AP}
theorem Ax (l:dP P ap) {env:eW} {hp:Hp} {m:aN} {S:aH} {w:World} {tmps:Array Value} (G:bE ap (look hp) m S w) (y:∀ t,VR (look hp) m S (env.get t) (tmps.getD t undef)) {r:ResultVar} {v:AV} {bs:List Bool}
  (h:qz ap env hp r=some (v,bs)) (hbs:∀ b ∈ bs,b=true):∃ cv,(rq tmps r).run P w= .ok cv w/\VR (look hp) m S v cv:=by
 cases r with
 |tmp t=>
  simp only [qz,Option.some.injEq,Prod.mk.injEq] at h;obtain ⟨rfl,rfl⟩:=h;exact ⟨_,rfl,y t⟩
 | cell a t=>
  simp only [qz] at h;have C:=bind_some h;clear h;obtain ⟨ti,n,h⟩:=C;simp only [Xqq] at h;obtain ⟨⟨I,ups,E⟩,j,s⟩:=h;simp only [Prod.mk.injEq] at s;obtain ⟨rfl,rfl⟩:=s;obtain ⟨i,d,z,F⟩:=cB l n;have c:=y a;obtain ⟨_,cv,u,A⟩:=vI G (λb B D=>D) F c j hbs;refine ⟨cv, ?_,A⟩;have g:∃ x,tmps.getD a undef= .pointer (some x):=by
   unfold Er at j;split at j
   .rename_i J p f;rw [f] at c;simp only [VR,PR] at c;obtain ⟨b,o,vs,e,_⟩:=c;exact ⟨_,e⟩
   .rename_i b ver p f;rw [f] at c;simp only [VR] at c;obtain ⟨B,_,_,⟨k,o,e⟩,_⟩:=c;exact ⟨_,e⟩
   .cases j
  obtain ⟨x,q⟩:=g;rw [q] at u;simp only [rq,q];exact u
theorem gE (a:dP P ap) {env:eW} {hp:Hp} {m:aN} {S:aH} {w:World} {tmps:Array Value} (g:bE ap (look hp) m S w) (f:∀ t,VR (look hp) m S (env.get t) (tmps.getD t undef)):
  ∀ {rs:List ResultVar} {vs:List (AV × List Bool)},gm (qz ap env hp) rs=some vs->(∀ b ∈ vs.flatMap (·.2),b=true)->∃ cvs:List Value,rs.length=cvs.length/\aU (look hp) m S (vs.map (·.1)) cvs/\∀ (i:Nat) (r:ResultVar) (v:Value),rs[i]? =some r->cvs[i]? =some v->(rq tmps r).run P w= .ok v w
 | [],vs,h,_=>by
  simp [gm] at h;subst h;exact ⟨[],rfl,by simp [aU],λi r v h=>by simp at h⟩
 | r::rs,vs,h,hbs=>by
  simp only [gm] at h;split at h
  .rename_i q s;split at h
   .rename_i l k;cases h;obtain ⟨v,bs⟩:=q;obtain ⟨cv,p,u⟩:=Ax a g f s (λb d=>hbs b (by simp [d]));obtain ⟨cvs,o,j,h5⟩:=gE a g f k (λb d=>hbs b (by rw [Xxw];exact List.mem_append.2 (.inr d)));refine ⟨cv::cvs,by simp [o],by simp only [Xqf,aU];exact ⟨u,j⟩, ?_⟩;intro i r' n c e;cases i with
    |zero=>simp at c e;subst c;subst e;exact p
    |succ i=>exact h5 i r' n (by simpa using c) (by simpa using e)
   .cases h
  .cases h
theorem DD {gh gf:bW} {m:aN} {S:aH} {n:Nat} {x:AV} {v:Value} (h:fq gh gf m S n [x] [v]):qL gh gf m S n x v/\(gq n x).2=(cX n [x]).2:=by
 rcases gp x with ⟨i,k,e,rfl⟩|hx
 .simp only [fq] at h;exact ⟨h.1,rfl⟩
 .rw [bI hx] at h;rcases vm x with ⟨l,rfl⟩|ht
  .have f:=h.1;simp only [VR] at f;obtain ⟨vs,rfl,g⟩:=f;have key:∀ (l:List AV) (vs:List Value) (n:Nat),aU gh m S l vs->fq gh gf m S n l vs/\(cX n l).2= []:=by
    intro l
    induction l with
    |nil=>intro vs n a;cases vs with
     |nil=>exact ⟨by simp [fq],rfl⟩
     |cons _ _=>simp [aU] at a
    | cons y r ih=>intro vs n a;cases vs with
     |nil=>simp [aU] at a
     |cons u us=>
      simp only [aU] at a;have b:=rK a.1;obtain ⟨d,c⟩:=ih us n a.2;rw [bI b,bh n b];exact ⟨⟨a.1,d⟩,c⟩
   obtain ⟨d,c⟩:=key l vs n g;refine ⟨?_, ?_⟩
   .simp only [qL];exact ⟨vs,rfl,d⟩
   .simp only [gq,cX];exact c
  .rw [iU hx ht,fO n hx ht,bh n hx];exact ⟨h.1,rfl⟩
theorem qG (rd:bW) (n:Nat):n<=K5 rd n:=by
 obtain ⟨_,t,a⟩:=oX rd 20 (Xqm n) List.nodup_range;unfold K5;rw [a,List.length_append,List.length_range];exact Nat.le_add_right _ _
theorem rp (n:dP P ap) {h0 j:List aM} {fn:Func} {env:eW} {hp:Hp} {m m0:aN} {S S0:aH} {w w0:World} {tmps:Array Value} {c F:Cx} {out:gy} (h:xf ap h0.length fn env hp c= .ok (out,j) F) (C:F.Ok):
  c.Ok/\h0.length<=j.length/\(bE ap (look hp) m S w->Fr (aW h0) m0 S0 w0 (look hp) m S w->(∀ t,VR (look hp) m S (env.get t) (tmps.getD t undef))->
   ∃ cv,(results fn tmps).run P w= .ok cv w/\∃ r S',Ai ap h0 m0 S0 w0 out j r S' w (.returned cv)):=by
 unfold xf at h;dsimp only at h;split at h
 .rename_i vs G o b;split at h
  .cases h
  .rename_i hbase;obtain ⟨_,I,D,h⟩:=R.bind_ok h;split at h
   .rename_i v i;cases h;obtain ⟨d,g⟩:=Cs D C;have hlen':h0.length<=j.length:=by rw [(dx b).1];simpa using qG _ _
    refine ⟨d,hlen',λs f A=> ?_⟩;obtain ⟨cvs,y,k,z⟩:=gE n s A o g;have a:(vs.flatMap λq=>lW (look hp) 6 (eB (cH q.1)))=(vs.map (·.1)).flatMap (cl (look hp)):=by rw [Xvg];rfl
    rw [a] at i;obtain ⟨r,S',u,h5,B⟩:=kK s f k (qG _ _) i b hbase;have x:cvs.length=1:=by
     have:=bA k;have h7:=(dx i).1;simp at h7 this;omega
    match cvs,x with
    | [cv],_=>
     obtain ⟨h7,E⟩:=DD B;refine ⟨cv,fP y z,r,S', ?_⟩;rw [<- E] at u h5;refine ⟨u,h5,cv,rfl, ?_⟩;rw [E];exact h7
   .rename_i l e i;cases h;obtain ⟨d,g⟩:=Cs D C;have hlen':h0.length<=j.length:=by rw [(dx b).1];simpa using qG _ _
    refine ⟨d,hlen',λs f A=> ?_⟩;obtain ⟨cvs,y,k,z⟩:=gE n s A o g;have a:(vs.flatMap λq=>lW (look hp) 6 (eB (cH q.1)))=(vs.map (·.1)).flatMap (cl (look hp)):=by rw [Xvg];rfl
    rw [a] at i;obtain ⟨r,S',u,h5,B⟩:=kK s f k (qG _ _) i b hbase;have p:Im cvs= .tuple cvs.toArray:=by
     match cvs with
     | []=>rfl
     | [cv]=>
      exfalso;have:=bA k;have h7:=(dx i).1;simp at h7 this
      match l,e with
      | [],_=>simp at h7;omega
      | [v],e=>exact e v rfl
      |_::_::_,_=>simp at h7;omega
     |_::_::_=>rfl
    refine ⟨_,fP y z,r,S',u,h5, ?_⟩;rw [p];exact ⟨_,rfl,cvs,rfl,B⟩
   .cases h
 .cases h
theorem tL {h0 g:List aM} {v:AV} {hp:Hp} {m m0:aN} {S S0:aH} {w w0:World} {c t:Cx} {out:gy} (h:C4 h0.length v hp c= .ok (out,g) t):
  c=t/\h0.length<=g.length/\(bE ap (look hp) m S w->Fr (aW h0) m0 S0 w0 (look hp) m S w->∀ cv,VR (look hp) m S v cv->(∀ b ver n,v ≠ .ref b ver 0 n)->
   ∃ q S',Ai ap h0 m0 S0 w0 out g q S' w (.panicked [{v:=cv,recovered:=false}])):=by
 unfold C4 at h;dsimp only at h;split at h
 .rename_i l y d a;split at h
  .cases h
  .rename_i hbase;cases h;have hlen':h0.length<=g.length:=by rw [(dx a).1];simpa using qG _ _
   refine ⟨rfl,hlen',λu r cv j s=> ?_⟩;have x:gm (lJ (K5 (look hp) h0.length) (look hp) ([v].flatMap (cl (look hp)))) [v]=some [l]:=by
    simp only [Xxw,Xki,Xqd,gm];have z:lJ (K5 (look hp) h0.length) (look hp) (cl (look hp) v) v=some l:=d;rw [z]
   obtain ⟨q,S',i,h5,o⟩:=kK u r (vs:= [v]) (cvs:= [cv]) (by simp only [aU];exact ⟨j,trivial⟩) (qG _ _) x a hbase;have f:∀ xs k e,l ≠ .own xs k e:=by
    rintro xs k e rfl
    cases tj d with
    |own h1 h2 h3 i h5 o=>exact s _ _ _ rfl
    |low h1=>exact rK j _ _ _ rfl
    |frz h1 h2=>
     exact xB (i_ u (λb B p=>by split at p;exact p;cases p) 6 v cv _ h2 j) _ _ _ rfl
   rw [bI f] at o;rw [bh _ f] at i h5;exact ⟨q,S',i,h5,cv,rfl,o.1⟩
 .cases h
end
end AM
namespace AM
open Go
def xy (S:aH):AV->FrameMode->Prop
 | .nilI,u=>u= .returning
 | .ifc t v,u=> ∃ cv,u= .panicking [{v:=cv,recovered:=false}]/\PR S (.ifc t v) cv
 |_,_=>False
def UZ (md md':AV) (u u':FrameMode):Prop:=(md'=md/\u'=u)\/(md'= .nilI/\settle u'= .returning)
structure PW (P:Program) (ap:AP) (f:Nat) (args:List AV) (h:List aM) (out:gy) (h':List aM) (md md':AV):Prop where
 ent:rD P f
 calls:∀ m S w cargs u,bE ap (aW h) m S w->aU (aW h) m S args cargs->xy S md u->CallsD P f cargs.toArray u w λe u' w'=>(∃ m' S',Ai ap h m S w out h' m' S' w' e)/\UZ md md' u u'
def nD (P:Program) (ap:AP) (H:bK):Prop:=∀ c md f args h out h' md' c',md ≠ .dead->H c md f args h= .ok (out,h',md') c'->c'.Ok->c.Ok/\PW P ap f args h out h' md md'
structure Aj (P:Program) (ap:AP):Prop where
 fn:∀ (f:Nat) (F:AF),ap.fnAt f=some F->P.funcs[f]? =some F.fn
 body:∀ (f:Nat) (F:AF),ap.fnAt f=some F->∃ c,F.fn.body=some c/\cC F.fn.ntmps c=true
 name:∀ (f:Nat) (F:AF),ap.fnAt f=some F->(F.fn.name== "runtime.NumGoroutine")=false
section
variable {P:Program} {ap:AP} {H:bK}
theorem uo (a:Aj P ap) {f:Nat} {F:AF} (b:ap.fnAt f=some F):rD P f:=by
 intro args w;obtain ⟨c,d,_⟩:=a.body f F b;unfold callFunc;rw [Sem.run_bind];have:(program).run P w= .ok P w:=rfl;rw [this,Result.andThen_ok,a.fn f F b];dsimp only;rw [a.name f F b];simp [d]
theorem pz (f:dP P ap) (j:nD P ap H):
  ∀ (dfs:List (Nat × List AV)) (mode mode':AV) (hp hp':Hp) (c c':Cx),Gx ap H dfs mode hp c= .ok (mode',hp') c'->c'.Ok->c.Ok/\
   ∀ (h0:List aM) (fn:Func) (tmps:Array Value) (env:eW) (RR:Ending->World->Prop) (m0:aN) (S0:aH) (w0:World) m S w a u,bE ap (look hp) m S w->Fr (aW h0) m0 S0 w0 (look hp) m S w->(∀ t,VR (look hp) m S (env.get t) (tmps.getD t undef))->eE (look hp) m S dfs a->xy S mode u->
   (∀ m' S' w' u',bE ap (look hp') m' S' w'->Fr (aW h0) m0 S0 w0 (look hp') m' S' w'->(∀ t,VR (look hp') m' S' (env.get t) (tmps.getD t undef))->xy S' mode' u'->Leaves P fn tmps RR [] u' w')->Leaves P fn tmps RR a u w
 | [],mode,mode',hp,hp',c,c',h,hc=>by
  cases h;refine ⟨hc,λh0 fn tmps env RR m0 S0 w0 m S w a u i b d hd e g=> ?_⟩;cases a with
  |nil=>exact g m S w u i b d e
  |cons _ _=>simp [eE] at hd
 |_::_,mode,mode',hp,hp',c,c',h,hc=>by cases h
theorem cS {n f:Nat} (h:n<=f):∀ (c:Code),cC n c=true->cC f c=true
 | .region _ ops _,hd=>by
  simp only [cC,List.all_eq_true] at hd ⊢;intro o g;have:=hd o g;unfold DX at this ⊢;split
  .rename_i d e;rw [e] at this;exact Nat.ble_eq_true_of_le (Nat.le_trans (dB this) h)
  .rfl
 | .seq a b,hd=>by simp only [cC,π] at hd ⊢;exact ⟨cS h a hd.1,cS h b hd.2⟩
 | .cond _ a b,hd=>by simp only [cC,π] at hd ⊢;exact ⟨cS h a hd.1,cS h b hd.2⟩
 | .block _ b,hd=>by simp only [cC] at hd ⊢;exact cS h b hd
 | .loop b,hd=>by simp only [cC] at hd ⊢;exact cS h b hd
 | .scope b,hd=>by simp only [cC] at hd ⊢;exact cS h b hd
 | .skip,_=>rfl
 | .label _,_=>rfl
 | .exit _,_=>rfl
 | .ret,_=>rfl
 | .rangeFunc _ _ _ _,_=>rfl
 | .goto _,_=>rfl
 | .refuse _,_=>rfl
theorem uK {α:Type}:∀ (l:List α) (j t:Nat),look ((l.zipIdx j).map λ(x,i)=>(i,x)) t=if j<=t then l[t - j]? else none
 | [],j,t=>by simp [look]
 | a::r,j,t=>by
  rw [List.zipIdx_cons,Xqf];simp only [look];cases h:Xqk j t with
  |true=>have:=aG h;subst this;simp
  | false=>
   have b:j ≠ t:=by intro e;subst e;simp at h
   simp only [uK r (j+1) t];by_cases hj:j+1<=t
   .rw [if_pos hj,if_pos (by omega)];obtain ⟨d,hd⟩:∃ d,t - j=d+1:=⟨t - j - 1,by omega⟩
    rw [hd,List.getElem?_cons_succ,show t - (j+1)=d by omega]
   .rw [if_neg hj,if_neg (by omega)]
theorem CI {h:List aM} {args:List AV} {cargs:List Value} {m:aN} {S:aH} {w:World} {md:AV} (j:bE ap (aW h) m S w) (i:aU (aW h) m S args cargs) (n:Nat):
  look (fI md args h).hp=aW h/\FR ap (fI md args h).env (fI md args h).hp [] (cargs.toArray++Array.replicate (n - cargs.toArray.size) undef).size m S w {tmps:=cargs.toArray++Array.replicate (n - cargs.toArray.size) undef,defers:= []}:=by
 have a:look (fI md args h).hp=aW h:=by
  funext b;have:=uK h 0 b;simp only [fI,aW];rw [this,if_pos (Xqo _),Xzc]
 refine ⟨a,⟨a ▸ j, ?_,by simp [eE],rfl⟩⟩;intro t;rw [a];have g:(fI md args h).env.get t=(args[t]?).getD .dead:=by
  have:=uK args 0 t;simp only [fI,eW.get];rw [this,if_pos (Xqo _),Xzc]
 rw [g];cases e:args[t]? with
 |none=>simp [VR]
 | some x=>
  obtain ⟨v,d,f⟩:=nH i t e;have c:=(List.getElem?_eq_some_iff.1 d).1;have:(cargs.toArray++Array.replicate (n - cargs.toArray.size) undef).getD t undef=v:=by
   rw [Array.getD_eq_getD_getElem?,Array.getElem?_append_left (by simpa using c)];simp [d]
  rw [this];exact f
theorem sZ (l:dP P ap) (L:nD P ap H) {h0 z:List aM} {fn:Func} {e:a_} {s:St} {c F:Cx} {out:gy} {A:AV} (h:wT ap H h0.length fn e s c= .ok (out,z,A) F) (D:F.Ok):
  c.Ok/\h0.length<=z.length/\∀ m0 S0 w0 m S w a nt,Fr (aW h0) m0 S0 w0 (look s.hp) m S w->FR ap s.env s.hp s.dfs nt m S w a->Lr s.hp m S (bodyPostD P fn λe w'=> ∃ x S',Ai ap h0 m0 S0 w0 out z x S' w' e) a w e:=by
 have y:∀ d,((Gx ap H s.dfs d s.hp c).bind λ(d,hp) c=>
   match d with
   | .nilI=>(xf ap h0.length fn s.env hp c).bind λ(o,h) c=> .ok (o,h,s.md) c
   | .ifc t v=>(C4 h0.length (.ifc t v) hp c).bind λ(o,h) c=> .ok (o,h,s.md) c
   |_=> .bad 74)= .ok (out,z,A) F->c.Ok/\h0.length<=z.length/\∀ m0 S0 w0 m S w a nt u,Fr (aW h0) m0 S0 w0 (look s.hp) m S w->FR ap s.env s.hp s.dfs nt m S w a->xy S d u->Leaves P fn a.tmps (λe w'=> ∃ x S',Ai ap h0 m0 S0 w0 out z x S' w' e) a.defers u w:=by
  intro d j;obtain ⟨⟨mode',hp'⟩,T,M,j⟩:=R.bind_ok j;dsimp only at j;split at j
  .obtain ⟨⟨o,r⟩,U,C,j⟩:=R.bind_ok j;cases j;obtain ⟨E,i,B⟩:=rp (P:=P) (m:=λ_=>(0,0)) (m0:=λ_=>(0,0)) (S:=λ_ _=>none) (S0:=λ_ _=>none) (w:=default) (w0:=default) (tmps:=#[]) l C D;obtain ⟨q,G⟩:=pz l L s.dfs d _ s.hp hp' c T M E;refine ⟨q,i,λm0 S0 w0 m S w a nt u f g J=> ?_⟩;refine G h0 fn a.tmps s.env _ m0 S0 w0 m S w a.defers u g.srel f g.env g.dfs J ?_;intro x S' w' Q k p N h5;simp only [xy] at h5;subst h5;obtain ⟨_,_,B⟩:=rp (P:=P) (m:=x) (m0:=m0) (S:=S') (S0:=S0) (w:=w') (w0:=w0) (tmps:=a.tmps) l C D;obtain ⟨cv,K,h7⟩:=B k p N;exact ⟨cv,K,h7⟩
  .rename_i t v;obtain ⟨⟨o,r⟩,U,C,j⟩:=R.bind_ok j;cases j;obtain ⟨rfl,i,_⟩:=tL (ap:=ap) (m:=λ_=>(0,0)) (m0:=λ_=>(0,0)) (S:=λ_ _=>none) (S0:=λ_ _=>none) (w:=default) (w0:=default) C;obtain ⟨q,G⟩:=pz l L s.dfs d _ s.hp hp' c _ M D;refine ⟨q,i,λm0 S0 w0 m S w a nt u f g J=> ?_⟩;refine G h0 fn a.tmps s.env _ m0 S0 w0 m S w a.defers u g.srel f g.env g.dfs J ?_;intro x S' w' Q k p N h5;simp only [xy] at h5;obtain ⟨cv,rfl,K⟩:=h5;obtain ⟨_,_,I⟩:=tL (ap:=ap) (m:=x) (m0:=m0) (S:=S') (S0:=S0) (w:=w') (w0:=w0) C;exact I k p cv (dZ _ K) (λb ver n h=>by cases h)
  .cases j
 unfold wT at h;dsimp only at h;split at h
 .obtain ⟨r,k,p⟩:=y .nilI h;exact ⟨r,k,λm0 S0 w0 m S w a nt f g=>p m0 S0 w0 m S w a nt .returning f g rfl⟩
 .obtain ⟨r,k,p⟩:=y .nilI h;exact ⟨r,k,λm0 S0 w0 m S w a nt f g=>p m0 S0 w0 m S w a nt .returning f g rfl⟩
 .rename_i t v;split at h
  .rename_i O;obtain ⟨r,k,p⟩:=y (.ifc t v) h;refine ⟨r,k,λm0 S0 w0 m S w a nt f g cv V=>p m0 S0 w0 m S w a nt _ f g ⟨cv,rfl, ?_⟩⟩;exact jP (by simpa [cH] using O) V
  .cases h
 .cases h
theorem oU (g:dP P ap) (d:P.follows .mixedOrders=true) (i:Aj P ap) (v:gj P ap H) (y:nD P ap H) (lf:Nat):gj P ap λc md f args h=>lF ap H lf md f args h c:=by
 intro c f args h out z q E a A;have a:lF ap H lf .dead f args h c= .ok (out,z,q) E:=a;unfold lF at a;split at a
 .cases a
 .rename_i F o;dsimp only at a;obtain ⟨⟨e,s⟩,L,r,a⟩:=R.bind_ok a;dsimp only at a;obtain ⟨body,x,b⟩:=i.body f F o;have hbody:am F.fn=body:=by simp [am,x]
  rw [hbody] at r;obtain ⟨l,k,j⟩:=sZ g y a A;obtain ⟨n,_⟩:=du (nt:=F.fn.ntmps) g d v body b _ _ _ _ _ r l;refine ⟨n,k,uo i o,λm S w cargs K J=> ?_⟩;obtain ⟨D,t⟩:=CI (md:= .dead) K J F.fn.ntmps;have u:F.fn.ntmps<=(cargs.toArray++Array.replicate (F.fn.ntmps - cargs.toArray.size) undef).size:=by simp;omega
  obtain ⟨_,p⟩:=du g d v body (cS u body b) _ _ _ _ _ r l;obtain ⟨_,p⟩:=p rfl;refine calls_of_wp_defers (i.fn f F o) x ?_;refine p m S w m S w _ (by rw [D];exact Fr.refl _ _ _ _) t _ ?_;intro I S' w' G B C;exact j m S w I S' w' G _ B C
end
end AM
namespace AM
open Go
section
variable {P:Program} {ap:AP} {H:bK}
theorem sN (k:dP P ap) (e:P.follows .mixedOrders=true) (i:Aj P ap) (l:gj P ap H) (lf:Nat):nD P ap λc md f args h=>lF ap H lf md f args h c:=by
 intro c md f args h out j d g b a m;have a:lF ap H lf md f args h c= .ok (out,j,d) g:=a;unfold lF at a;split at a
 .cases a
 .cases md<;>first|exact absurd rfl b|cases a
end
end AM
namespace AM
open Go
def Hb (P:Program) (ap:AP) (lf:Nat) (fs:List Nat):Nat->bK
 |0=>λ_ _ _ _ _=> .bad 90
 | n+1=>λc md f args h=>
  match lp fs f with
  |false=>lF ap (Hb P ap lf fs n) lf md f args h c
  |true=>match md,c.ans with
   | .dead,(out,h')::r=> .ok (out,h',.dead) {c with ans:=r,ps:=az P ap f args h out h'::c.ps}
   |_,_=> .bad 91
theorem zK {P:Program} {ap:AP} (g:dP P ap) (b:P.follows .mixedOrders=true) (d:Aj P ap) (lf:Nat) (l:List Nat):∀ n,gj P ap (Hb P ap lf l n)/\nD P ap (Hb P ap lf l n)
 |0=> ⟨λ_ _ _ _ _ _ _ _ h=>(by cases h),λ_ _ _ _ _ _ _ _ _ _ h=>(by cases h)⟩
 | n +1=>by
  obtain ⟨o,q⟩:=zK g b d lf l n;constructor
  .intro c f args h out m e k a i;simp only [Hb] at a;split at a
   .exact oU g b d o q lf c f args h out m e k a i
   .split at a
    .cases a;exact ⟨⟨i.bs,λp hp=>i.ps p (by simp [hp])⟩,i.ps _ (by simp)⟩
    .cases a
  .intro c md f args h out m e k j a i;simp only [Hb] at a;split at a
   .exact sN g b d o lf c md f args h out m e k j a i
   .split at a
    .exact absurd rfl j
    .cases a
theorem Xn {P:Program} {ap:AP} (b:dP P ap) (a:P.follows .mixedOrders=true) (d:Aj P ap) {lf:Nat} {i:List Nat} {n:Nat} {c g:Cx} {f:Nat} {args:List AV} {h e:List aM} {out:gy} {md:AV}
  (he:lF ap (Hb P ap lf i n) lf .dead f args h c= .ok (out,e,md) g) (hc:g.Ok):az P ap f args h out e:=by
 obtain ⟨j,k⟩:=zK b a d lf i n;exact (oU b a d j k lf c f args h out e md g he hc).2
def yj:Option AF->Bool
 |some F=>(match F.fn.body with|some c=>cC F.fn.ntmps c|none=>false) && !(F.fn.name== "runtime.NumGoroutine")
 |none=>true
theorem P6 {P:Program} {ap:AP} {keep:Nat->Bool} (h:(Xqm ap.nty).map ap.ty.get=(Xqm ap.nty).map λi=>match keep i with|true=>Pw P i|false=>none):dP P ap:=by
 constructor;intro t ti b;unfold AP.tyAt at b;split at b
 .rename_i c;have d:=dC c;have a:((Xqm ap.nty).map ap.ty.get)[t]? =some (some ti):=by rw [Xqx,Xj6 d];simp [b]
  rw [h,Xqx,Xj6 d] at a;simp only [Xjj,Option.some.injEq] at a;split at a
  .exact a
  .cases a
 .cases b
theorem QT {P:Program} {ap:AP} {keep:Nat->Bool} (h:(Xqm ap.nfn).map (λi=>(ap.fn.get i).map AF.fn)=(Xqm ap.nfn).map λi=>match keep i with|true=>P.funcs[i]? |false=>none) (l:(Xqm ap.nfn).all (λi=>yj (ap.fn.get i))=true):Aj P ap:=by
 have b:∀ (f:Nat) (F:AF),ap.fnAt f=some F->f<ap.nfn/\ap.fn.get f=some F:=by
  intro f F a;unfold AP.fnAt at a;split at a
  .rename_i j;exact ⟨dC j,a⟩
  .cases a
 have hgood:∀ (f:Nat) (F:AF),ap.fnAt f=some F->yj (some F)=true:=by
  intro f F a;obtain ⟨e,g⟩:=b f F a;have:=List.all_eq_true.1 l f (by simpa using e);rwa [g] at this
 constructor
 .intro f F a;obtain ⟨e,g⟩:=b f F a;have d:((Xqm ap.nfn).map λi=>(ap.fn.get i).map AF.fn)[f]? =some (some F.fn):=by rw [Xqx,Xj6 e];simp [g]
  rw [h,Xqx,Xj6 e] at d;simp only [Xjj,Option.some.injEq] at d;split at d
  .exact d
  .cases d
 .intro f F a;have:=hgood f F a;simp only [yj,π] at this;cases k:F.fn.body with
  |none=>rw [k] at this;cases this.1
  |some c=>rw [k] at this;exact ⟨c,rfl,this.1⟩
 .intro f F a;have:=hgood f F a;simp only [yj,π,Xqt] at this;exact this.2
end AM
namespace AM
open Go
def gk (P:Program) (ap:AP) (h0:List aM) (n:Nat) (code:Code) (s:St) (e:a_) (s':St):Prop:=∀ nt,n<=nt->ag P ap h0 nt code s e s'
abbrev sD:=List (a_ × St)
def jw (P:Program) (ap:AP) (H:bK) (h0:List aM) (keep:List Nat) (lf nt:Nat) (ls:List Nat):Code->St->sD->Cx->R ((a_ × St) × sD)
 | .seq a b,s,l,c=>(jw P ap H h0 keep lf nt ls a s l c).bind λr c=>match r.1.1 with
  | .normal=>jw P ap H h0 keep lf nt ls b r.1.2 r.2 c
  |e=> .ok ((e,r.1.2),r.2) c
 | .cond t a b,s,l,c=>match mM ap s.env t with
  | .bool x=>(ur c x).bind λx c=>match x with
   |true=>jw P ap H h0 keep lf nt ls a s l c
   |false=>jw P ap H h0 keep lf nt ls b s l c
  |_=> .bad 60
 | .block id b,s,l,c=>match lp ls id with
  |true=>match l with
   |(e,s')::r=> .ok ((e,s'),r) {c with ps:=gk P ap h0 nt (.block id b) s e s'::c.ps}
   | []=> .bad 62
  |false=>(jw P ap H h0 keep lf nt ls b s l c).bind λr c=>match r.1.1 with
   | .exit id'=>match Xqk id' id with|true=> .ok ((.normal,r.1.2),r.2) c|false=> .ok ((.exit id',r.1.2),r.2) c
   |e=> .ok ((e,r.1.2),r.2) c
 | .scope b,s,l,c=>jw P ap H h0 keep lf nt ls b s l c
 | .region id ops draw,s,l,c=>match lp ls (id+1000) with
  |true=>match l with
   |(e,s')::r=> .ok ((e,s'),r) {c with ps:=gk P ap h0 nt (.region id ops draw) s e s'::c.ps}
   | []=> .bad 63
  |false=>(jv ap H h0.length keep lf (.region id ops draw) s c).bind λr c=> .ok (r,l) c
 |code,s,l,c=>(jv ap H h0.length keep lf code s c).bind λr c=> .ok (r,l) c
section
variable {P:Program} {ap:AP} {H:bK}
theorem ag.seq {h0:List aM} {nt:Nat} {x y:Code} {s s1 d:St} {e:a_} (n:ag P ap h0 nt x s .normal s1) (g:ag P ap h0 nt y s1 e d):ag P ap h0 nt (.seq x y) s e d:=by
 intro b;obtain ⟨p,i⟩:=n b;obtain ⟨h5,o⟩:=g p;refine ⟨h5,λm0 S0 w0 m S w a c h Q k=>wp_seq (i m0 S0 w0 m S w a c h _ ?_)⟩;intro l S' w' j h7 f;exact o m0 S0 w0 l S' w' j h7 f Q k
theorem ag.seq_out {h0:List aM} {nt:Nat} {x y:Code} {s s1:St} {e:a_} (d:e ≠ .normal) (i:ag P ap h0 nt x s e s1):ag P ap h0 nt (.seq x y) s e s1:=by
 intro b;obtain ⟨n,g⟩:=i b;refine ⟨n,λm0 S0 w0 m S w a c f Q j=>wp_seq (g m0 S0 w0 m S w a c f _ ?_)⟩;intro k S' w' h h5 l;have:=j k S' w' h h5 l;cases e with
 |normal=>exact absurd rfl d
 |exit id=>exact this
 |ret=>exact this
 |panic v=>exact this
theorem ag.cond {h0:List aM} {nt:Nat} {t:Operand} {x y:Code} {s s':St} {e:a_} {c:Bool} (g:mM ap s.env t= .bool c) (h:ag P ap h0 nt (if c then x else y) s e s'):ag P ap h0 nt (.cond t x y) s e s':=by
 intro d;obtain ⟨h5,j⟩:=h d;refine ⟨h5,λm0 S0 w0 m S w a f b Q i=>wp_cond (t:=c) ?_ (j m0 S0 w0 m S w a f b Q i)⟩;have:=rP b.srel (a:=a) (env:=s.env) t (λt _=>b.env t);rw [g] at this;simpa only [VR,PR] using this
def nJ (id:Nat):a_->a_
 | .exit id'=>match Xqk id' id with|true=> .normal|false=> .exit id'
 |e=>e
theorem ag.block {h0:List aM} {nt:Nat} {id:Nat} {b:Code} {s s':St} {e:a_} (h:ag P ap h0 nt b s e s'):ag P ap h0 nt (.block id b) s (nJ id e) s':=by
 intro g;obtain ⟨q,l⟩:=h g;refine ⟨q,λm0 S0 w0 m S w a i k Q n=>wp_block (l m0 S0 w0 m S w a i k _ ?_)⟩;intro o S' w' d h5 p;have c:=n o S' w' d h5 p;cases e with
 |normal=>exact c
 |ret=>exact c
 |panic v=>exact c
 | exit id'=>
  simp only [nJ] at c;split at c
  .rename_i f;show Exit.inBlock id Q (.exit id') d w';simp only [Exit.inBlock,if_pos (aG f)];exact c
  .rename_i f;show Exit.inBlock id Q (.exit id') d w';have j:id' ≠ id:=by intro e;subst e;simp at f
   simp only [Exit.inBlock,if_neg j];exact c
theorem ag.scope {h0:List aM} {nt:Nat} {b:Code} {s s':St} {e:a_} (h:ag P ap h0 nt b s e s'):ag P ap h0 nt (.scope b) s e s':=by
 intro d;obtain ⟨o,i⟩:=h d;refine ⟨o,λm0 S0 w0 m S w a f g Q k=>wp_scope_straight (i m0 S0 w0 m S w a f g _ ?_)⟩;intro l S' w' j h5 n;have c:=k l S' w' j h5 n;cases e with
 |normal=>exact c
 |exit id=>exact c
 |ret=>exact c
 |panic v=>exact c
theorem pm (C:dP P ap) (u:P.follows .mixedOrders=true) (J:gj P ap H) {h0:List aM} {keep:List Nat} {lf n nt:Nat} (F:n<=nt) {I:List Nat}:∀ (a:Code),cC nt a=true->∀ (s:St) (l:sD) (r:(a_ × St) × sD) (c f:Cx),jw P ap H h0 keep lf n I a s l c= .ok r f->f.Ok->c.Ok/\ag P ap h0 nt a s r.1.1 r.1.2:=by
 have hbase:∀ (a:Code),cC nt a=true->∀ (s:St) (l:sD) (r:(a_ × St) × sD) (c f:Cx),((jv ap H h0.length keep lf a s c).bind λr c=> .ok (r,l) c)= .ok r f->f.Ok->c.Ok/\ag P ap h0 nt a s r.1.1 r.1.2:=by
  intro a hd s l r c f h d;obtain ⟨⟨e,s'⟩,w,k,h⟩:=R.bind_ok h;cases h;exact du C u J a hd s e s' c _ k d
 intro a
 induction a with
 | seq x y ihx ihy=>
  intro hd s l r c f h d;simp only [cC,π] at hd;simp only [jw] at h;obtain ⟨⟨⟨m,s1⟩,D⟩,w,k,h⟩:=R.bind_ok h;dsimp only at h;have hother:m ≠ .normal->R.ok ((m,s1),D) w=R.ok r f->c.Ok/\ag P ap h0 nt (.seq x y) s r.1.1 r.1.2:=by
   intro B K;cases K;obtain ⟨g,i⟩:=ihx hd.1 _ _ _ _ _ k d;exact ⟨g,i.seq_out B⟩
  cases m with
  |normal=>
   dsimp only at h;obtain ⟨j,G⟩:=ihy hd.2 _ _ _ _ _ h d;obtain ⟨g,i⟩:=ihx hd.1 _ _ _ _ _ k j;exact ⟨g,i.seq G⟩
  |exit id=>exact hother (by simp) h
  |ret=>exact hother (by simp) h
  |panic v=>exact hother (by simp) h
 | cond t x y ihx ihy=>
  intro hd s l r c f h d;simp only [cC,π] at hd;simp only [jw] at h;split at h
  .rename_i N q;obtain ⟨L,w,k,h⟩:=R.bind_ok h;cases L with
   |true=>
    obtain ⟨j,i⟩:=ihx hd.1 _ _ _ _ _ h d;obtain ⟨g,z⟩:=iX k j;exact ⟨g,ag.cond q (by rw [<- z];exact i)⟩
   |false=>
    obtain ⟨j,i⟩:=ihy hd.2 _ _ _ _ _ h d;obtain ⟨g,z⟩:=iX k j;exact ⟨g,ag.cond q (by rw [<- z];exact i)⟩
  .cases h
 | block id b ih=>
  intro hd s l r c f h d;simp only [cC] at hd;simp only [jw] at h;split at h
  .split at h
   .rename_i A E M;cases h;have hp:gk P ap h0 n (.block id b) s A E:=d.ps _ (Xjm ..);exact ⟨⟨d.bs,λp hp=>d.ps p (Xx1 _ hp)⟩,hp nt F⟩
   .cases h
  .obtain ⟨⟨⟨m,s1⟩,D⟩,w,k,h⟩:=R.bind_ok h;dsimp only at h;have o:r=((nJ id m,s1),D)/\w=f:=by
    cases m<;>dsimp only at h
    .cases h;exact ⟨rfl,rfl⟩
    .unfold nJ;split at h<;>cases h<;>rename_i z<;>dsimp only<;>rw [z]<;>exact ⟨rfl,rfl⟩
    .cases h;exact ⟨rfl,rfl⟩
    .cases h;exact ⟨rfl,rfl⟩
   obtain ⟨rfl,rfl⟩:=o;obtain ⟨g,i⟩:=ih hd _ _ _ _ _ k d;exact ⟨g,i.block⟩
 |scope b ih=>
  intro hd s l r c f h d;simp only [cC] at hd;simp only [jw] at h;obtain ⟨g,i⟩:=ih hd _ _ _ _ _ h d;exact ⟨g,i.scope⟩
 |skip=>exact λhd s l r c f h d=>hbase _ hd s l r c f h d
 | region id ops draw=>
  intro hd s l r c f h d;simp only [jw] at h;split at h
  .split at h
   .rename_i A E M;cases h;have hp:gk P ap h0 n (.region id ops draw) s A E:=d.ps _ (Xjm ..);exact ⟨⟨d.bs,λp hp=>d.ps p (Xx1 _ hp)⟩,hp nt F⟩
   .cases h
  .exact hbase _ hd s l r c f h d
 |loop _ _=>exact λhd s l r c f h d=>hbase _ hd s l r c f h d
 |rangeFunc _ _ _ _=>exact λhd s l r c f h d=>hbase _ hd s l r c f h d
 |exit _=>exact λhd s l r c f h d=>hbase _ hd s l r c f h d
 |label _=>exact λhd s l r c f h d=>hbase _ hd s l r c f h d
 |goto _=>exact λhd s l r c f h d=>hbase _ hd s l r c f h d
 |ret=>exact λhd s l r c f h d=>hbase _ hd s l r c f h d
 |refuse _=>exact λhd s l r c f h d=>hbase _ hd s l r c f h d
def HK (P:Program) (ap:AP) (H:bK) (lf:Nat) (ls:List Nat) (f:Nat) (args:List AV) (h:List aM) (l:sD) (c:Cx):R (gy × List aM × AV):=
 match ap.fnAt f with
 |none=> .bad 80
 |some F=>(jw P ap H h F.keep lf F.fn.ntmps ls (am F.fn) (fI .dead args h) l c).bind λr c=>wT ap H h.length F.fn r.1.1 r.1.2 c
theorem LO (i:dP P ap) (j:P.follows .mixedOrders=true) (a:Aj P ap) (G:gj P ap H) (z:nD P ap H) {lf:Nat} {B:List Nat} {f:Nat} {args:List AV} {h u:List aM} {l:sD} {c x:Cx} {out:gy} {q:AV}
  (b:HK P ap H lf B f args h l c= .ok (out,u,q) x) (hc:x.Ok):az P ap f args h out u:=by
 unfold HK at b;split at b
 .cases b
 .rename_i F o;obtain ⟨⟨⟨e,s⟩,L⟩,M,v,b⟩:=R.bind_ok b;dsimp only at b;obtain ⟨body,y,d⟩:=a.body f F o;have hbody:am F.fn=body:=by simp [am,y]
  rw [hbody] at v;obtain ⟨t,k,g⟩:=sZ i z b hc;refine ⟨k,uo a o,λm S w cargs K J=> ?_⟩;obtain ⟨D,r⟩:=CI (md:= .dead) K J F.fn.ntmps;have n:F.fn.ntmps<=(cargs.toArray++Array.replicate (F.fn.ntmps - cargs.toArray.size) undef).size:=by simp;omega
  obtain ⟨_,p⟩:=pm i j G n body (cS n body d) _ _ _ _ _ v t;obtain ⟨_,p⟩:=p rfl;refine calls_of_wp_defers (a.fn f F o) y ?_;refine p m S w m S w _ (by rw [D];exact Fr.refl _ _ _ _) r _ ?_;intro I S' w' E A C;exact g m S w I S' w' E _ A C
end
end AM
namespace AM
open Go
def si (P:Program) (ap:AP) (lf:Nat):Nat->bK
 |0=>λ_ _ _ _ _=> .bad 90
 | n+1=>λc md f args h=>
  match md with
  | .dead=>match c.ans with
   |(out,h')::r=> .ok (out,h',.dead) {c with ans:=r,ps:=az P ap f args h out h'::c.ps}
   |_=> .bad 91
  |md=>lF ap (si P ap lf n) lf md f args h c
theorem gW {P:Program} {ap:AP} (j:dP P ap) (b:P.follows .mixedOrders=true) (e:Aj P ap) (lf:Nat):∀ n,gj P ap (si P ap lf n)/\nD P ap (si P ap lf n)
 |0=> ⟨λ_ _ _ _ _ _ _ _ h=>(by cases h),λ_ _ _ _ _ _ _ _ _ _ h=>(by cases h)⟩
 | n+1=>by
  obtain ⟨m,o⟩:=gW j b e lf n;constructor
  .intro c f args h out l d k a i;simp only [si] at a;split at a
   .cases a;exact ⟨⟨i.bs,λp hp=>i.ps p (by simp [hp])⟩,i.ps _ (by simp)⟩
   .cases a
  .intro c md f args h out l d k g a i;have a:lF ap (si P ap lf n) lf md f args h c= .ok (out,l,d) k:=by
    cases md<;>first|exact absurd rfl g|exact a
   exact sN j b e m lf c md f args h out l d k g a i
inductive DB:List Prop->Prop where
 |nil:DB []
 |cons {p:Prop} {l:List Prop}:p->DB l->DB (p::l)
theorem DB.mem {l:List Prop} (h:DB l):∀ p ∈ l,p:=by
 induction h with
 |nil=>intro p hp;cases hp
 |cons hp _ ih=>
  intro q a;rcases List.mem_cons.1 a with rfl|a
  .exact hp
  .exact ih q a
inductive jt:List Bool->Prop where
 |nil:jt []
 |t {l:List Bool}:jt l->jt (true::l)
 |c {b:Bool} {l:List Bool}:b=true->jt l->jt (b::l)
theorem jt.mem {l:List Bool} (h:jt l):∀ b ∈ l,b=true:=by
 induction h with
 |nil=>intro p hp;cases hp
 |t _ ih=>
  intro q a;rcases List.mem_cons.1 a with rfl|a
  .rfl
  .exact ih q a
 |c hp _ ih=>
  intro q a;rcases List.mem_cons.1 a with rfl|a
  .exact hp
  .exact ih q a
structure vp (P:Program) (ap:AP):Prop where
 apok:dP P ap
 mixed:P.follows .mixedOrders=true
 fnok:Aj P ap
theorem AU {P:Program} {ap:AP} (g:vp P ap) {lf n:Nat} {ans:List (gy × List aM)} {ps:List Prop} {f:Nat} {args:List AV} {h a:List aM} {out:gy} (hp:DB ps)
  (he:lF ap (si P ap lf n) lf .dead f args h ⟨true,[],[],[],ans,[]⟩= .ok (out,a,.dead) ⟨true,[],[],ps,[],[]⟩):az P ap f args h out a:=by
 obtain ⟨c,e⟩:=gW g.apok g.mixed g.fnok lf n;exact (oU g.apok g.mixed g.fnok c e lf _ f args h out a .dead _ he ⟨λb d=>(by cases d),hp.mem⟩).2
end AM
namespace AM
open Go Go.ChangeShapes Go.WideShapes Go.ChangeAt Go.RowKit
def l_:Lit->Value
 | .int k n=> .int k n
 | .bool b=> .bool b
 | .string s=> .string ⟨s.toArray⟩
 |_=> .nilFunc
def Ej:Lit->AV
 | .int k n=> .int k n
 | .bool b=> .bool b
 | .string s=> .str s
 |_=> .dead
def yI:Lit->Bool
 | .int _ _=>true
 | .bool _=>true
 | .string _=>true
 |_=>false
def Em (f:TypeId->DataW Unit->Nat->Option (List (Nat × Lit))):List (TypeId × Nat)->List (DataW Unit)->Option (List (Nat × Lit))
 | [],[]=>some []
 |(t,o)::r,d::ds=>match f t d o,Em f r ds with
  |some a,some b=>some (a++b)
  |_,_=>none
 |_,_=>none
def jA (P:Program):Nat->TypeId->DataW Unit->Nat->Option (List (Nat × Lit))
 |0,_,_,_=>none
 |n+1,t,d,off=>match P.underlying t,d with
  |some (.struct fs),.agg ds=>Em (jA P n) (fs.toList.map λf=>(f.type,off+f.offset)) ds
  |some (.array m e),.agg ds=>Em (jA P n) ((Xqm m).map λi=>(e,off+i*P.cellsOf e)) ds
  |some (.int _),.lit (.int k n)=>some [(off,.int k n)]
  |some .bool,.lit (.bool b)=>some [(off,.bool b)]
  |some .string,.lit (.string s)=>some [(off,.string s)]
  |_,_=>none
theorem yH {f:TypeId->DataW Unit->Nat->Option (List (Nat × Lit))}:∀ {ts:List (TypeId × Nat)} {ds:List (DataW Unit)} {l:List (Nat × Lit)},Em f ts ds=some l->ts.length=ds.length/\∀ x ∈ l,∃ (i:Nat) (t o:Nat) (d:DataW Unit) (a:List (Nat × Lit)),ts[i]? =some (t,o)/\ds[i]? =some d/\f t d o=some a/\x ∈ a
 | [],[],l,h=>by simp [Em] at h;subst h;simp
 | (t,o)::r,d::ds,l,h=>by
  simp only [Em] at h;split at h
  .rename_i a b e j;cases h;obtain ⟨g,k⟩:=yH j;refine ⟨by simp [g],λx c=> ?_⟩;rcases List.mem_append.1 c with c|c
   .exact ⟨0,t,o,d,a,rfl,rfl,e,c⟩
   .obtain ⟨i,m,n,u,q,v,p,h5,s⟩:=k x c;exact ⟨i+1,m,n,u,q,by simpa using v,by simpa using p,h5,s⟩
  .cases h
 | [],_::_,_,h=>by simp [Em] at h
 |_::_,[],_,h=>by simp [Em] at h
theorem kP {P:Program} {w:World} {base:Nat} {O:Nat->Bool} {y:Bool}:∀ (n:Nat) (t:TypeId) (d:DataW Unit) (off:Nat) (l:List (Nat × Lit)),jA P n t d off=some l->∀ (c:Nat) (cs:List Value) (p:List MemPlace),DataW.trod (λ_=>()) P w base O y c t cs=some (d,p)->∀ x ∈ l,∃ j,x.1=off+j/\cs[j]? =some (l_ x.2)
 |0,_,_,_,_,h=>by simp [jA] at h
 | n +1,t,d,off,l,h=>by
  intro c cs p hd x r;simp only [jA] at h;split at h
  .rename_i S Q o;cases c with
   |zero=>simp [DataW.trod] at hd
   | succ m=>
    simp only [DataW.trod,o] at hd;split at hd
    .obtain ⟨K,E,g⟩:=Option.map_eq_some_iff.1 hd;simp only [Prod.mk.injEq,DataW.agg.injEq] at g;obtain ⟨rfl,rfl⟩:=g;obtain ⟨J,B⟩:=yH h;obtain ⟨i,N,M,I,a,z,u,h5,G⟩:=B x r;rw [Xqx,Xqq] at z;obtain ⟨f,C,A⟩:=z;simp only [Prod.mk.injEq] at A;obtain ⟨rfl,rfl⟩:=A;obtain ⟨b,F,D⟩:=Lib.mapM_at E i f C;rw [Xqx,F] at u;simp only [Xjj,Option.some.injEq] at u;subst u;obtain ⟨j,L,q⟩:=kP n _ _ _ _ h5 m _ b.2 D x G;refine ⟨f.offset+j,by omega, ?_⟩;rw [Xjn] at q;split at q
     .rwa [Xj2] at q
     .cases q
    .cases hd
  .rename_i k e Q o;cases c with
   |zero=>simp [DataW.trod] at hd
   | succ m=>
    simp only [DataW.trod,o] at hd;split at hd
    .obtain ⟨K,E,g⟩:=Option.map_eq_some_iff.1 hd;simp only [Prod.mk.injEq,DataW.agg.injEq] at g;obtain ⟨rfl,rfl⟩:=g;obtain ⟨J,B⟩:=yH h;obtain ⟨i,N,M,I,a,z,u,h5,G⟩:=B x r;rw [Xqx,Xqq] at z;obtain ⟨f,C,A⟩:=z;simp only [Prod.mk.injEq] at A;obtain ⟨rfl,rfl⟩:=A;obtain ⟨b,F,D⟩:=Lib.mapM_at E i f C;rw [Xqx,F] at u;simp only [Xjj,Option.some.injEq] at u;subst u;obtain ⟨j,L,q⟩:=kP n _ _ _ _ h5 m _ b.2 D x G;refine ⟨f*P.cellsOf e+j,by omega, ?_⟩;rw [Xjn] at q;split at q
     .rwa [Xj2] at q
     .cases q
    .cases hd
  .rename_i R k T o;cases h;simp at r;subst r;obtain ⟨U,rfl,v,_⟩:=DataW.trod_int o hd;simp only [Prod.mk.injEq,DataW.lit.injEq,Lit.int.injEq] at v;obtain ⟨⟨rfl,rfl⟩,_⟩:=v;exact ⟨0,rfl,rfl⟩
  .rename_i b o;cases h;simp at r;subst r;cases c with
   |zero=>simp [DataW.trod] at hd
   |succ m=>
    unfold DataW.trod at hd;rw [o] at hd;split at hd<;>simp_all
    rfl
  .rename_i s o;cases h;simp at r;subst r;cases c with
   |zero=>simp [DataW.trod] at hd
   |succ m=>
    unfold DataW.trod at hd;rw [o] at hd;split at hd<;>simp_all
    obtain ⟨_,rfl,_⟩:=hd;rfl
  .cases h
theorem tw {P:Program} {w:World}:∀ {l:List (String × DataW Unit)} {ps:List MemPlace},DataW.LaidVars P w l ps->∀ n d,(n,d) ∈ l->∃ g t cs a p,P.globalNamed n=some g/\(P.globals[g]?).map (·.type)=some t/\w.var? P n=some cs/\DataW.trod (λ_=>()) P w 0 (λ_=>true) false a t cs.toList=some (d,p)
 | [],_,_,n,d,hm=>by cases hm
 | (n',d')::r,ps,h,n,d,hm=>by
  obtain ⟨g,t,cs,a,p,q,b,c,f,e,h5,_⟩:=h;rcases List.mem_cons.1 hm with he|hm
  .cases he;exact ⟨g,t,cs,a,p,b,c,f,e⟩
  .exact tw h5 n d hm
theorem Gw {P:Program} {W:World} {a:List (String × DataW Unit)} (h:laidMetH P a W) (e:a.filter (λx=>x.2.handleName?.isSome)= []) {n:String} {d:DataW Unit} (r:(n,d) ∈ a) {g:Nat} {t:TypeId} (k:P.globalNamed n=some g) (w:(P.globals[g]?).map (·.type)=some t)
  {ls:List Lit} (hl:jA P 6 t d 0=some (ls.zipIdx.map λ(l,i)=>(i,l))):∀ (j:Nat) (l:Lit),ls[j]? =some l->W.cell? ⟨g,j,none⟩=some (l_ l):=by
 have b:laidMet P a W:=by
  unfold laidMetH at h;rw [e] at h;exact h
 obtain ⟨ps,y,_⟩:=b;obtain ⟨g',A,cs,c,p,s,u,z,q⟩:=tw y n d r;obtain rfl:=Option.some.inj (k.symm.trans s);obtain rfl:=Option.some.inj (w.symm.trans u);intro j l o;obtain ⟨f,m,v⟩:=kP 6 t d 0 _ hl c cs.toList p q (j,l) (by
  rw [List.mem_map];exact ⟨(l,j),by rw [List.mem_zipIdx_iff_getElem?];exact o,rfl⟩)
 have:f=j:=by simp at m;exact m.symm
 subst this;rw [World.var?_cell k z f];simpa using v
def gY (W:World):aH:=λk o=>match W.cell? ⟨k,o,none⟩ with|some v=>if v.oneCell' then some v else none|none=>none
theorem BR {W:World} {k o:Nat} {v:Value} (h:W.cell? ⟨k,o,none⟩=some v) (a:v.oneCell'=true):gY W k o=some v:=by
 unfold gY;rw [h];simp only;rw [if_pos a]
theorem Fy {W:World} {k o:Nat} {v:Value} (h:gY W k o=some v):aR W k o=some v:=by
 unfold gY at h;split at h
 .rename_i c a;split at h
  .rename_i b;cases h;exact eQ a b
  .cases h
 .cases h
theorem DE (S:aH):∀ (ls:List Lit),ls.all yI=true->bw S (ls.map Ej) (ls.map l_)
 | [],_=>by simp [bw]
 |l::r,h=>by
  simp only [Xzn,π] at h;simp only [Xqf,bw];refine ⟨?_,DE S r h.2⟩;cases l<;>simp only [Ej,l_,PR]<;>first|rfl|(exact absurd h.1 (by simp [yI]))
theorem GD {l:Lit} (h:yI l=true):(l_ l).oneCell'=true:=by
 cases l<;>first|rfl|(exact absurd h (by simp [yI]))
def Lu (ap:AP) (W:World):Prop:=∀ k xs,(ap.gl[k]?).join=some xs->∃ ls:List Lit,xs=ls.map Ej/\ls.all yI=true/\∀ (j:Nat) (l:Lit),ls[j]? =some l->W.cell? ⟨k,j,none⟩=some (l_ l)
theorem QZ {ap:AP} {W:World} (h:Lu ap W):cG ap (gY W):=by
 intro k e i;obtain ⟨g,rfl,a,f⟩:=h k e i;refine ⟨g.map l_,DE _ _ a, ?_⟩;intro j u c;rw [Xqx,Xqq] at c;obtain ⟨l,d,rfl⟩:=c;have b:=GD (List.all_eq_true.1 a l (Xqn d));refine ⟨?_,b⟩;rw [Nat.zero_add];exact BR (f j l d) b
theorem Vj {P:Program} {ap:AP} {f:Nat} {args:List AV} {b:Bool} (i:az P ap f args [] (.ret (.bool b)) []) {W:World} (g:Lu ap W) {cargs:List Value} (l:bw (gY W) args cargs):
  Calls P f cargs.toArray W λe W'=>e= .returned (.bool b)/\Below W.heap.size W W':=by
 have m:bE ap (aW []) (λ_=>(0,0)) (gY W) W:=
  ⟨λb n B B' h=>by simp [aW] at h,λb B h=>by simp [aW] at h,λk o v h=>Fy h,λb B h=>by simp [aW] at h,QZ g⟩
 refine (i.calls (λ_=>(0,0)) (gY W) W cargs m (bz _ l)).mono ?_
 rintro e W' ⟨m',S',hF⟩
 obtain ⟨_,a,c⟩:=hF;obtain ⟨cv,rfl,d⟩:=c;simp only [qL,VR,PR] at d;subst d;exact ⟨rfl,a.os,a.tape,a.output,a.size,λk j=>a.rest k j λb B h=>by simp [aW] at h⟩
def xo (P:Program) (ts:List TypeId):Bool:=ts.all λt=>P.readableRec t && decide (t<P.types.size)
theorem rB {H:Type} {enc:TypeId × Value->H} {P:Program} (b:laidOutB P=true) {W W':World} {c:Nat->Bool}:∀ {ts:List TypeId} {vs:List Value} {ds:List (DataW H)} {ps:List MemPlace},xo P ts=true->DataW.TrodAll enc P W 0 (λ_=>true) true ts vs ds ps->(∀ p ∈ ps,W.sameAt W' p)->(∀ p ∈ ps,c p.block=true)->DataW.TrodAll enc P W' 0 c true ts vs ds ps
 | [],vs,ds,ps,_,h,_,_=>by
  obtain ⟨rfl,rfl,rfl⟩:=trodAll_nil h;rfl
 |t::ts,vs,ds,ps,hf,h,hs,hsp=>by
  obtain ⟨v,i,d,g,p,q,rfl,rfl,rfl,e,f⟩:=trodAll_cons h;simp only [xo,Xzn,π,decide_eq_true_eq] at hf;exact trodAll_cons_mk (WideElems.Trod_stays b hf.1.1 hf.1.2 e (λx a=>hs x (by simp [a])) (λx a=>hsp x (by simp [a]))) (rB b (by simpa [xo] using hf.2) f (λx a=>hs x (by simp [a])) (λx a=>hsp x (by simp [a])))
theorem ZA {H:Type} {enc:TypeId × Value->H} {P:Program} {f:Func} {s:ChangeSpec} {apart fresh handsOn again:Bool} {W W':World} {args:Array Value} {g r:List (DataW H)} {before:List MemPlace} (w:laidOutB P=true) (v:xo P f.params.toList=true)
  (hW:DataW.Whole enc P f.params.toList s.vars apart W args.toList g r before) (hvars:s.vars= []) {tb:TypeId} (hr:f.resultTypes=#[tb]) (htb:P.underlying tb=some .bool) (hfn:s.fn H (g++r)={results:= [.lit (.bool true)],args:=g,vars:= []})
  (hb:Below W.heap.size W W'):s.post enc P f apart fresh handsOn again W args (.bool true) W':=by
 have e:∀ p ∈ before,p.block<W.heap.size:=λp hp=>hW.lt p hp
 have d:∀ p ∈ before,(λb=>decide (b<W.heap.size)) p.block=true:=λp hp=>by simpa using hW.lt p hp
 have i:=hW;obtain ⟨p,q,u,n,rfl,m,o⟩:=hW;rw [hvars] at n;obtain ⟨rfl,rfl⟩:=trodVars_none n;simp only [Xqd] at e d m o i hfn ⊢;have hargs:∀ a:Nat->Bool,(∀ x ∈ p,a x.block=true)->DataW.TrodAll enc P W' 0 a true f.params.toList args.toList (s.fn H g).args p:=by
  intro a l;rw [hfn];exact rB w v u (λx j=>hb.same (e x j)) l
 have c:∀ (b:Nat) (a:Nat->Bool) (hd:Bool),DataW.TrodAll enc P W' b a hd f.resultTypes.toList ((Value.bool true).resultList f.resultTypes.size) (s.fn H g).results []:=by
  intro b a hd;rw [hfn,hr];exact trodAll_cons_mk (p:= []) (shut_bool htb true) trodAll_mk0
 have h:∀ a:Nat->Bool,DataW.TrodVars enc P W' a s.vars (s.fn H g).vars []:=by
  intro a;rw [hvars,hfn];rfl
 refine ⟨g,[],p,[],p,[],i,by rw [Xqd];exact c _ _ _,by rw [Xqd];exact hargs _ d,by rw [Xqd];exact h _,World.keptBut_mono (λx j=>j) (hb.frame _),λ_=> ?_⟩;refine ⟨ok_one hr rfl (okWide_bool_mk htb _),_,_,([]++p)++ [],⟨[]++p,[],trodAll_append (hargs _ (λ_ _=>rfl)) (c _ _ _),by simpa using h _,rfl, ?_, ?_⟩, ?_⟩
 .intro b k hp;have hp':MemPlace.cell b k ∈ p:=by simpa using hp
  rw [hb.frozen (e _ hp')];exact m b k hp'
 .intro t;simpa using o t
 .intro x j _;simpa using j
end AM
