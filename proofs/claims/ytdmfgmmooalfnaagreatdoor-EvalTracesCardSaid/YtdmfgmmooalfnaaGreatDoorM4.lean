/- The machine and its soundness. -/
import Derived.Test.YtdmfgmmooalfnaaGreatDoorM3
import Derived.Recover
import Derived.ProofKit
import Derived.OpenShut
import Derived.LaidLaws
import Derived.LaidSub
import Derived.Lib.LaidTab
set_option linter.unusedSimpArgs false
set_option linter.unusedVariables false
open Bool renaming and_eq_true->φ,not_eq_true'->Xqq
open Nat renaming beq->Xqn,zero_le->Xxr,lt_of_lt_of_le->Xqa,sub_zero->Xjq
open List renaming mem_of_getElem?->Xql,flatMap_cons->Xxk,flatMap_nil->Yqe,append_nil->Δ,range->Xq7,getElem?_map->Xq5,map_cons->Xqg,flatMap_map->Yqf,range'->Yqr,getElem?_range->Xzf,mem_cons_self->Xjy,mem_cons_of_mem->Xjd,getElem?_take->Xj7,getElem?_drop->Xzj,all_cons->Xx5
open Option renaming map_eq_some_iff->Xqs,map_some->Xjo
namespace AM
open Go
theorem xY {α:Type} {P:Program} {w:World} (f:α->Sem Value):∀ (l:List α) (vs:List Value),l.length=vs.length->(∀ (i:Nat) (x:α) (v:Value),l[i]? =some x->vs[i]? =some v->(f x).run P w= .ok v w)->(l.mapM f).run P w= .ok vs w
 | [],[],_,_=>rfl
 |a::l,v::vs,hl,h=>by
  rw [List.mapM_cons,Sem.run_bind,h 0 a v rfl rfl,Result.andThen_ok,Sem.run_bind,xY f l vs (by simpa using hl) λi x u c b=>h (i+1) x u (by simpa using c) (by simpa using b),Result.andThen_ok];rfl
 | [],_::_,hl,_=>by simp at hl
 |_::_,[],hl,_=>by simp at hl
def Ou (tmps:Array Value):ResultVar->Sem Value
 | .tmp t=>pure (tmps.getD t undef)
 | .cell a t=>do loadVar t (<- asAddr (tmps.getD a undef))
def YM (vs:List Value):Value:=match vs with| [v]=>v|vs=> .tuple vs.toArray
theorem QB (a:Func) (tmps:Array Value):results a tmps=(do let vs <- a.results.mapM (Ou tmps);pure (if h:vs.size=1 then vs[0] else .tuple vs)):=by
 unfold results;congr 2
theorem Dy {P:Program} {w:World} {a:Func} {tmps:Array Value} {vs:List Value} (b:a.results.toList.length=vs.length)
  (h:∀ (i:Nat) (r:ResultVar) (v:Value),a.results.toList[i]? =some r->vs[i]? =some v->(Ou tmps r).run P w= .ok v w):
  (results a tmps).run P w= .ok (YM vs) w:=by
 rw [QB,Array.mapM_eq_mapM_toList];simp only [bind_map_left];rw [Sem.run_bind,xY _ _ vs b h,Result.andThen_ok]
 match vs with
 | []=>rfl
 | [v]=>rfl
 |_::_::_=>simp [YM]
theorem OE {S:aY} {m:bg} {rd c:dO} {w:World} (h:∀ b B,rd b=some B->c b=some B):qj (dR S m rd w) (dR S m c w):=by
 intro k o v a;unfold dR at a ⊢;split at a
 .rename_i u e;exact a
 .rename_i e;split at a
  .rename_i i;obtain ⟨b,B,g,d,f⟩:=i;rw [if_pos ⟨b,B,h b B g,d,f⟩];exact a
  .cases a
def cl (rd:dO) (v:AV):List Nat:=uN rd 6 (jG (eQ v))
inductive IL (base:Nat) (rd:dO) (all:List Nat):AV->AV->Prop
 |own {b n:Nat} {B:bu}:rd b=some B->base<=b->B.fro=false->B.pr=true->gQ all b=1->0<B.esz->IL base rd all (.ref b B.ver 0 n) (.own (B.cells.take (n*B.esz)) n B.esz)
 |low {v:AV}:(∀ b ∈ eQ v,b<base)->IL base rd all v v
 |frz {v v':AV}:(∀ b ∈ cl rd v,base<=b)->frz (λb=>match uh (cl rd v) b with|true=>rd b|false=>none) 6 v=some v'->IL base rd all v v'
theorem UR {base:Nat} {rd:dO} {v a:AV} (h:abH base rd v=some a):(∀ b ∈ cl rd v,base<=b)/\frz (λb=>match uh (cl rd v) b with|true=>rd b|false=>none) 6 v=some a:=by
 unfold abH at h;dsimp only at h;split at h
 .rename_i d;exact ⟨λb c=>gW (List.all_eq_true.1 d b c),h⟩
 .cases h
theorem Je {base:Nat} {rd:dO} {all:List Nat} {v a:AV} (h:(match (eQ v).all (λb=>Nat.blt b base) with|true=>some v|false=>abH base rd v)=some a):IL base rd all v a:=by
 split at h
 .rename_i f;cases h;exact .low λb d=>gX (List.all_eq_true.1 f b d)
 .obtain ⟨e,c⟩:=UR h;exact .frz e c
theorem z_ {base:Nat} {rd:dO} {all:List Nat} {v c:AV} (h:uf base rd all v=some c):IL base rd all v c:=by
 unfold uf at h;dsimp only at h;split at h
 .rename_i b ver n;split at h
  .rename_i B k;split at h
   .rename_i d;cases h;simp only [φ,Xqq] at d;obtain ⟨⟨⟨⟨⟨g,a⟩,e⟩,f⟩,j⟩,i⟩:=d;have a:=aP a;subst a;exact .own k (gW g) e f (aP j) (gX i)
   .exact Je h
  .cases h
 .exact Je h
theorem wQ {l:List Nat} {b:Nat} (h:b ∈ l):1<=gQ l b:=by
 unfold gQ;have:b ∈ l.filter (Xqn b):=by rw [List.mem_filter];exact ⟨h,Nat.beq_refl b⟩
 exact List.length_pos_of_mem this
theorem tN {l a:List Nat} {b:Nat}:gQ (l++a) b=gQ l b+gQ a b:=by simp [gQ,List.filter_append]
theorem Bd {α:Type} {f:α->List Nat} {b:Nat}:∀ (vs:List α) (i j:Nat) (v v':α),vs[i]? =some v->vs[j]? =some v'->i ≠ j->b ∈ f v->b ∈ f v'->2<=gQ (vs.flatMap f) b
 | [],i,j,v,v',h,_,_,_,_=>by simp at h
 | a::r,i,j,v,v',hi,hj,hne,hb,hb'=>by
  have c:∀ (k:Nat) (u:α),r[k]? =some u->b ∈ f u->1<=gQ (r.flatMap f) b:=by
   intro k u e d;exact wQ (List.mem_flatMap.2 ⟨u,Xql e,d⟩)
  rw [Xxk,tN];cases i with
  |zero=>
   simp at hi;subst hi;cases j with
   |zero=>exact absurd rfl hne
   |succ j=>have:=c j v' (by simpa using hj) hb';have:=wQ hb;omega
  | succ i=>
   cases j with
   |zero=>simp at hj;subst hj;have:=c i v (by simpa using hi) hb;have:=wQ hb';omega
   |succ j=>
    have:=Bd r i j v v' (by simpa using hi) (by simpa using hj) (by omega) hb hb';omega
def lM:List AV->List AV->List (Nat × bu)
 |v::r,.own xs _ esz::q=>(match v with| .ref b _ _ _=> [(b,KX xs esz)]|_=> [])++lM r q
 |_::r,_::q=>lM r q
 |_,_=> []
theorem jO {v x:AV} {r q:List AV} (h:∀ xs k e,x ≠ .own xs k e):lM (v::r) (x::q)=lM r q:=by
 cases x<;>first|rfl|exact absurd rfl (h _ _ _)
section
variable {P:Program} {ap:AP} {base:Nat} {rd:dO} {all:List Nat}
theorem yg {g:dO} {m:bg} {S:aY} {x:AV} {v:Value} (h:VR g m S x v):∀ xs k e,x ≠ .own xs k e:=by
 rintro xs k e rfl;simp [VR] at h
theorem EF {S:aY} {x:AV} {v:Value} (h:PR S x v):∀ xs k e,x ≠ .own xs k e:=by
 rintro xs k e rfl;simp [PR] at h
end
end AM
namespace AM
open Go
theorem F9 {b:Nat}:∀ (l acc:List Nat),(b ∈ l\/b ∈ acc)->b ∈ l.foldl DK acc
 | [],acc,h=>by simpa using h
 | a::r,acc,h=>by
  simp only [List.foldl_cons];refine F9 r _ ?_;rcases h with h|h
  .rcases List.mem_cons.1 h with rfl|h
   .right;unfold DK;split
    .rename_i c;exact kw.1 c
    .simp
   .exact .inl h
  .right;obtain h':=h;unfold DK;split
   .exact h
   .simp [h]
theorem Qi {l:List Nat} {b:Nat} (h:b ∈ l):b ∈ jG l:=F9 l [] (.inl h)
theorem KO (l:List Nat):(jG l).Nodup:=(qB l [] (by simp)).1
theorem Yq {rd:dO} {v:AV} {b:Nat} (h:b ∈ eQ v):b ∈ cl rd v:=by
 obtain ⟨_,t,a⟩:=u_ rd 6 (jG (eQ v)) (KO _);unfold cl;rw [a];exact List.mem_append.2 (.inl (Qi h))
theorem BN:∀ {vs l:List AV} {b:Nat} {Bo:bu},(b,Bo) ∈ lM vs l->∃ ver i n xs k e,(AV.ref b ver i n,AV.own xs k e) ∈ vs.zip l/\Bo=KX xs e
 | [],l,b,Bo,h=>by cases l<;>simp [lM] at h
 |v::r,[],b,Bo,h=>by simp [lM] at h
 | v ::r,x::q,b,Bo,h=>by
  rcases jU x with ⟨xs,k,e,rfl⟩|hx
  .simp only [lM,List.mem_append] at h;rcases h with h|h
   .cases v with
    |ref b' ver i n=>
     simp at h;obtain ⟨rfl,rfl⟩:=h;exact ⟨ver,i,n,xs,k,e,by simp,rfl⟩
    |_=>simp at h
   .obtain ⟨ver,i,n,a,f,e',d,c⟩:=BN h;exact ⟨ver,i,n,a,f,e',by simp [d],c⟩
  .rw [jO hx] at h;obtain ⟨ver,i,n,a,f,e',d,c⟩:=BN h;exact ⟨ver,i,n,a,f,e',by simp [d],c⟩
theorem Gt {rd:dO} {b:Nat}:∀ (vs l:List AV),gQ ((lM vs l).flatMap λq=> [q.1]) b<=gQ (vs.flatMap (cl rd)) b
 | [],l=>by cases l<;>simp [lM,gQ]
 |v::r,[]=>by simp [lM,gQ]
 | v :: r,x::q=>by
  have d:=Gt (rd:=rd) (b:=b) r q;rw [Xxk,tN];rcases jU x with ⟨xs,k,e,rfl⟩|hx
  .simp only [lM,List.flatMap_append,tN];cases v with
   | ref b' ver i n=>
    simp only [Xxk,Yqe,Δ];have:gQ [b'] b<=gQ (cl rd (.ref b' ver i n)) b:=by
     by_cases hb:b=b'
     .subst hb;have a:gQ [b] b=1:=by simp [gQ]
      rw [a];exact wQ (Yq (by simp [eQ]))
     .have a:gQ [b'] b=0:=by
       have:Xqn b b'=false:=by
        cases c:Xqn b b' with
        |false=>rfl
        |true=>exact absurd (aP c) hb
       simp [gQ,this]
      omega
    omega
   |_=>simp [gQ] at*;omega
  .rw [jO hx];omega
theorem GN:∀ (vs l:List AV) (n:Nat),vs.length=l.length->(∀ v x,(v,x) ∈ vs.zip l->(∃ xs k e,x= .own xs k e)->∃ b ver i n,v= .ref b ver i n)->(gy n l).2=(lM vs l).map (·.2)
 | [],[],n,_,_=>by simp [gy,lM]
 | v::r,x::q,n,hl,h=>by
  have c:=λn=>GN r q n (by simpa using hl) λv x d a=>h v x (by simp [d]) a
  rcases jU x with ⟨xs,k,e,rfl⟩|a
  .obtain ⟨b,ver,i,f,rfl⟩:=h v _ (by simp) ⟨xs,k,e,rfl⟩;simp only [gy,lM,c];simp
  .rw [bH n a,jO a];exact c n
 | [],_::_,_,hl,_=>by simp at hl
 |_::_,[],_,hl,_=>by simp at hl
theorem KW {rd gh u:dO} {m o:bg} {S S':aY}:∀ (vs l:List AV) (cvs:List Value) (n:Nat),vs.length=l.length->bC rd m S vs cvs->
  (∀ v x,(v,x) ∈ vs.zip l->(∃ xs k e,x= .own xs k e)->∃ b ver n,v= .ref b ver 0 n/\∃ xs e,x= .own xs n e)->
  (∀ v x c,(v,x) ∈ vs.zip l->(∀ xs k e,x ≠ .own xs k e)->VR rd m S v c->VR gh o S' x c)->
  (∀ (k b:Nat) (Bo:bu),(lM vs l)[k]? =some (b,Bo)->∀ ver i c,VR rd m S (.ref b ver 0 i) c->(∃ xs e,(AV.ref b ver 0 i,AV.own xs i e) ∈ vs.zip l)->VR u o S' (.ref (n+k) 0 0 i) c)->jW gh u o S' n l cvs
 | [],[],[],n,_,_,_,_,_=>by simp [jW]
 | v::r,x::q,c::cs,n,hl,hv,ho,hx,hr=>by
  simp only [bC] at hv;rcases jU x with ⟨xs,k,e,rfl⟩|hxo
  .obtain ⟨b,ver,i,rfl,w,e',y⟩:=ho v _ (by simp) ⟨xs,k,e,rfl⟩;cases y;simp only [jW];refine ⟨?_, ?_⟩
   .have:=hr 0 b (KX xs e) (by simp [lM]) ver k c hv.1 ⟨xs,e,by simp⟩;rwa [Nat.add_zero] at this
   .refine KW r q cs (n+1) (by simpa using hl) hv.2 (λv x f=>ho v x (by simp [f])) (λv x c f=>hx v x c (by simp [f])) ?_;intro j t Bo p a d s g h;have:=hr (j+1) t Bo (by simpa [lM] using p) a d s g (by obtain ⟨xs,e,h⟩:=h;exact ⟨xs,e,by simp [h]⟩);rwa [show n+(j+1)=n+1+j by omega] at this
  .rw [bY hxo];refine ⟨hx v x c (by simp) hxo hv.1, ?_⟩;refine KW r q cs n (by simpa using hl) hv.2 (λv x f=>ho v x (by simp [f])) (λv x c f=>hx v x c (by simp [f])) ?_;intro j t Bo p a d s g h;exact hr j t Bo (by rw [jO hxo];exact p) a d s g (by obtain ⟨xs,e,h⟩:=h;exact ⟨xs,e,by simp [h]⟩)
 | [],_::_,_,_,hl,_,_,_,_=>by simp at hl
 |_::_,[],_,_,hl,_,_,_,_=>by simp at hl
 | [],[],_::_,_,_,hv,_,_,_=>by simp [bC] at hv
 |_::_,_::_,[],_,_,hv,_,_,_=>by simp [bC] at hv
theorem NM {α β:Type} {f:α->Option β}:∀ {l:List α} {l':List β},kX f l=some l'->∀ x y,(x,y) ∈ l.zip l'->f x=some y
 | [],l',h,x,y,hm=>by simp at hm
 | a::r,l',h,x,y,hm=>by
  simp only [kX] at h;split at h
  .rename_i b c;split at h
   .rename_i q d;cases h;simp only [List.zip_cons_cons,List.mem_cons,Prod.mk.injEq] at hm;rcases hm with ⟨rfl,rfl⟩|hm
    .exact c
    .exact NM d x y hm
   .cases h
  .cases h
theorem Ug {α β:Type} {l:List α} {a:List β} {x:α} {y:β} (h:(x,y) ∈ l.zip a):∃ i:Nat,l[i]? =some x/\a[i]? =some y:=by
 obtain ⟨i,b⟩:=List.mem_iff_getElem?.1 h;rw [List.getElem?_zip_eq_some] at b;exact ⟨i,b⟩
theorem aar {g:dO} {m:bg} {S:aY} {l:List AV} {vs:List Value} (h:bC g m S l vs) {x:AV} (a:x ∈ l):∃ v,VR g m S x v:=by
 obtain ⟨i,b⟩:=List.mem_iff_getElem?.1 a;obtain ⟨v,_,c⟩:=tu h i b;exact ⟨v,c⟩
end AM
namespace AM
open Go
section
variable {P:Program} {ap:AP}
theorem yC {h0 G:List bu} {hp:Hp} {m m0:bg} {S S0:aY} {w w0:World} {vs l:List AV} {cvs:List Value} (V:bZ ap (aF hp) m S w) (A:Fr (bK h0) m0 S0 w0 (aF hp) m S w) (hv:bC (aF hp) m S vs cvs)
  {N:Nat} (hN:h0.length<=N) (hl:kX (uf N (aF hp) (vs.flatMap (cl (aF hp)))) vs=some l) (hh':kX (aF hp) (Xq7 N)=some G) (hbase:G.all (λB=>B.pr||(bW B.cells).all λb=>Nat.blt b N)=true):
  ∃ m' S',bZ ap (bK (G++(gy G.length l).2)) m' S' w/\Fr (bK h0) m0 S0 w0 (bK (G++(gy G.length l).2)) m' S' w/\jW (bK G) (bK (G++(gy G.length l).2)) m' S' G.length l cvs:=by
 have W:=(jE hl).1;have hz:∀ v x,(v,x) ∈ vs.zip l->IL N (aF hp) (vs.flatMap (cl (aF hp))) v x:=λv x E=>z_ (NM hl v x E)
 have K:∀ v x,(v,x) ∈ vs.zip l->(∃ xs k e,x= .own xs k e)->∃ (b n:Nat) (B:bu),v= .ref b B.ver 0 n/\aF hp b=some B/\N<=b/\B.fro=false/\B.pr=true/\gQ (vs.flatMap (cl (aF hp))) b=1/\0<B.esz/\x= .own (B.cells.take (n*B.esz)) n B.esz:=by
  rintro v x E ⟨xs,k,e,rfl⟩
  obtain ⟨c,R⟩:=aar hv (List.of_mem_zip E).1;generalize hxe:AV.own xs k e=x at E;cases hz v x E with
  |own a d p t z O=>exact ⟨_,_,_,rfl,a,d,p,t,z,O,rfl⟩
  |low a=>exact absurd hxe.symm (yg R _ _ _)
  |frz a d=>
   refine absurd hxe.symm (EF (mJ V (λb B g=> ?_) 6 v c x d R) _ _ _);split at g
   .exact g
   .cases g
 generalize L:lM vs l=obs;have hbs:∀ n,(gy n l).2=obs.map (·.2):=by
  intro n;rw [<- L];refine GN vs l n W.symm λv x E Y=> ?_
  obtain ⟨b,n',B,a,_⟩:=K v x E Y;exact ⟨b,_,0,n',a⟩
 rw [hbs];have C:∀ b Bo,(b,Bo) ∈ obs->∃ (n:Nat) (B:bu),aF hp b=some B/\N<=b/\B.fro=false/\B.pr=true/\gQ (vs.flatMap (cl (aF hp))) b=1/\0<B.esz/\Bo=KX (B.cells.take (n*B.esz)) B.esz/\(AV.ref b B.ver 0 n,AV.own (B.cells.take (n*B.esz)) n B.esz) ∈ vs.zip l:=by
  intro b Bo E;rw [<- L] at E;obtain ⟨ver,i,n,xs,k,e,a,d⟩:=BN E;obtain ⟨b',n',B,p,t,z,O,U,T,X,D⟩:=K _ _ a ⟨xs,k,e,rfl⟩;cases p;cases D;exact ⟨_,B,t,z,O,U,T,X,d,a⟩
 have hobd:∀ (k k' b:Nat) (Bo Bo':bu),obs[k]? =some (b,Bo)->obs[k']? =some (b,Bo')->k=k':=by
  intro k k' b Bo Bo' a d;obtain ⟨n,B,_,_,_,_,z,_⟩:=C b Bo (Xql a);by_cases s:k=k'
  .exact s
  .have p:=Bd (f:=λq:Nat × bu=> [q.1]) obs k k' _ _ a d s (b:=b) (by simp) (by simp);have t:=Gt (rd:=aF hp) (b:=b) vs l;rw [L] at t;omega
 have hobx:∀ b Bo,(b,Bo) ∈ obs->∀ v x,(v,x) ∈ vs.zip l->(∀ xs k e,x ≠ .own xs k e)->b ∉ cl (aF hp) v:=by
  intro b Bo E v x hvx Y g;obtain ⟨n,B,_,_,_,_,z,_,_,O⟩:=C b Bo E;obtain ⟨i,U,T⟩:=Ug O;obtain ⟨j,X,D⟩:=Ug hvx;have hne:i ≠ j:=by
   rintro rfl
   rw [T] at D;cases D;exact Y _ _ _ rfl
  have:=Bd (f:=cl (aF hp)) vs i j _ _ U X hne (b:=b) (Yq (by simp [eQ])) g;omega
 have Z:G.length=N:=by rw [(jE hh').1];simp
 have M:∀ b,b<N->∃ B,aF hp b=some B/\bK G b=some B:=by
  intro b g;obtain ⟨B,a,d⟩:=(jE hh').2 b b (by simp [g]);exact ⟨B,d,a⟩
 have hlow':∀ b B,bK G b=some B->b<N/\aF hp b=some B:=by
  intro b B g;have F:b<N:=by
   have:=(List.getElem?_eq_some_iff.1 g).1;omega
  obtain ⟨B',a,d⟩:=M b F;rw [g] at d;cases d;exact ⟨F,a⟩
 let rdF:dO:=open Classical in λb=>if ∃ v x,(v,x) ∈ vs.zip l/\(∀ xs k e,x ≠ .own xs k e)/\b ∈ cl (aF hp) v/\∀ y ∈ cl (aF hp) v,N<=y then aF hp b else none
 have Q:∀ b B,rdF b=some B->aF hp b=some B/\N<=b/\∀ Bo,(b,Bo) ∉ obs:=by
  intro b B g;dsimp only [rdF] at g;split at g
  .rename_i R;obtain ⟨v,x,a,d,p,t⟩:=R;exact ⟨g,t b p,λBo E=>hobx b Bo E v x a d p⟩
  .cases g
 have r:=oO S m rdF w
 let m':bg:=λi=>if i<N then m i else m ((obs.map (·.1)).getD (i - N) 0)
 have hm'lo:∀ i,i<N->m' i=m i:=λi I=>if_pos I
 have hm'hi:∀ (k b:Nat) (Bo:bu),obs[k]? =some (b,Bo)->m' (N+k)=m b:=by
  intro k b Bo s;show (if _ then _ else _)=_;rw [if_neg (by omega),show N+k - N=k by omega,List.getD_eq_getElem?_getD,Xq5,s];rfl
 have hgf:∀ i Bi,bK (G++obs.map (·.2)) i=some Bi->(i<N/\aF hp i=some Bi/\bK G i=some Bi)\/(∃ k b,i=N+k/\obs[k]? =some (b,Bi)):=by
  intro i Bi I;by_cases F:i<N
  .rw [fJ (by omega)] at I;exact .inl ⟨F,(hlow' i Bi I).2,I⟩
  .rw [jD (by omega),Z] at I;right;refine ⟨i - N, ?_⟩;have hi':(obs.map (·.2))[i - N]? =some Bi:=I;rw [Xq5,Xqs] at hi';obtain ⟨⟨b,Bo⟩,a,d⟩:=hi';exact ⟨b,by omega,by rw [a];simp at d;rw [d]⟩
 have hgfk:∀ (k b:Nat) (Bo:bu),obs[k]? =some (b,Bo)->bK (G++obs.map (·.2)) (N+k)=some Bo:=by
  intro k b Bo s;rw [jD (by omega),Z,show N+k - N=k by omega];show (obs.map (·.2))[k]? =_;rw [Xq5,s];rfl
 have J:∀ i Bi,bK (G++obs.map (·.2)) i=some Bi->∃ b B,aF hp b=some B/\m' i=m b/\((i<N/\b=i/\Bi=B)\/(N<=b/\∃ k,i=N+k/\obs[k]? =some (b,Bi))):=by
  intro i Bi I;rcases hgf i Bi I with ⟨a,d,p⟩|⟨k,b,rfl,s⟩
  .exact ⟨i,Bi,d,hm'lo i a,.inl ⟨a,rfl,rfl⟩⟩
  .obtain ⟨n,B,a,d,_⟩:=C b Bi (Xql s);exact ⟨b,B,a,hm'hi k b Bi s,.inr ⟨d,k,rfl,s⟩⟩
 refine ⟨m',dR S m rdF w, ?_, ?_, ?_⟩
 .refine ⟨?_, ?_,λk o v h=>qP V h, ?_, ?_⟩
  .intro i j Bi Bj I hj e;obtain ⟨b,B,a,d,p⟩:=J i Bi I;obtain ⟨b',B',h1',h2',h3'⟩:=J j Bj hj;rw [d,h2'] at e;have:=V.inj b b' B B' a h1' e;subst this;rcases p with ⟨t,rfl,_⟩|⟨t,k,rfl,s⟩<;>rcases h3' with ⟨h4',rfl,_⟩|⟨h4',k',rfl,hk'⟩
   .rfl
   .omega
   .omega
   .rw [hobd k k' b _ _ s hk']
  .intro i Bi I;rcases hgf i Bi I with ⟨a,d,p⟩|⟨k,b,rfl,s⟩
   .rw [hm'lo i a];obtain ⟨⟨cur,e,us,rest,k1,k2,k3,k4,k5,k6⟩,k7,k8⟩:=V.blk i Bi d;refine ⟨⟨cur,e,us,rest,k1,k2,λhp=>dE r _ (k3 hp), ?_,k5,k6⟩,k7,k8⟩;cases hpr:Bi.pr with
    |true=>exact cO _ (dE r _ (k3 hpr))
    |false=>
     refine oJ r _ (λb g=> ?_) k4;have z:=List.all_eq_true.1 hbase Bi (Xql p);rw [hpr] at z;simp only [Bool.false_or] at z;have O:=gX (List.all_eq_true.1 z b g);obtain ⟨B,U,T⟩:=M b O;exact ⟨by rw [fJ (by omega),T,U],hm'lo b O⟩
   .obtain ⟨n,B,a,d,p,t,z,O,rfl,_⟩:=C b Bi (Xql s);rw [hm'hi k b _ s];obtain ⟨⟨cur,e,us,rest,k1,k2,k3,k4,k5,k6⟩,k7,k8⟩:=V.blk b B a;have hp:=dE r _ (lg (n*B.esz) (k3 t));refine ⟨⟨cur,e,us.take (n*B.esz),us.drop (n*B.esz)++rest,k1, ?_,λ_=>hp,cO _ hp,λhz u hu=>k5 hz u (List.mem_of_mem_take hu),k6⟩,λ_=>rfl,Xxr _⟩;rw [<- List.append_assoc,List.take_append_drop];exact k2
  .intro i Bi I o v ho;obtain ⟨b,B,a,d,p⟩:=J i Bi I;rw [d] at ho;have hno:rdF b=none:=by
    cases hr:rdF b with
    |none=>rfl
    |some B'=>
     obtain ⟨_,t,z⟩:=Q b B' hr;rcases p with ⟨O,rfl,_⟩|⟨_,k,_,s⟩
     .omega
     .exact absurd (Xql s) (z _)
   have hSo:S (m b).1 o=some v:=by
    rcases gz ho with h|⟨_,b',B',t,z,_⟩
    .exact h
    .have:=V.inj b' b B' B (Q b' B' t).1 a z;subst this;rw [hno] at t;cases t
   obtain ⟨U,T⟩:=V.own b B a o v hSo;rcases p with ⟨_,rfl,rfl⟩|⟨_,k,_,s⟩
   .exact ⟨U,T⟩
   .obtain ⟨n,B2,X,_,D,_⟩:=C b _ (Xql s);rw [a] at X;cases X;rw [U] at D;cases D
  .intro k xs s;obtain ⟨us,a,d⟩:=V.glob k xs s;exact ⟨us,dE r _ a,d.mono r⟩
 .refine ⟨?_,A.sle.trans r,A.os,A.tape,A.output,A.size,A.rest, ?_, ?_⟩
  .intro b B0 g;have F:b<N:=Xqa (List.getElem?_eq_some_iff.1 g).1 hN;obtain ⟨B,a,d,p⟩:=A.ge b B0 g;obtain ⟨B',t,z⟩:=M b F;rw [a] at t;cases t;exact ⟨B,by rw [fJ (by omega)];exact z,d,by rw [hm'lo b F];exact p⟩
  .intro i Bi I;obtain ⟨b,B,a,d,p⟩:=J i Bi I;rw [d];rcases A.img b B a with h|⟨B0,t,z⟩
   .exact .inl h
   .have F:b<N:=Xqa (List.getElem?_eq_some_iff.1 t).1 hN;rcases p with ⟨_,rfl,_⟩|⟨O,_⟩
    .exact .inr ⟨B0,t,z⟩
    .omega
  .intro k o v hv;rcases gz hv with h|⟨_,b,B,a,d,_⟩
   .exact A.sealN k o v h
   .obtain ⟨p,t,_⟩:=Q b B a;rcases A.img b B p with h|⟨B0,z,_⟩
    .exact .inr (.inl (d ▸ h))
    .have:=(List.getElem?_eq_some_iff.1 z).1;omega
 .rw [Z];refine KW (rd:=aF hp) (m:=m) (S:=S) vs l cvs N W.symm hv ?_ ?_ ?_
  .intro v x E Y;obtain ⟨b,n,B,a,_,_,_,_,_,_,d⟩:=K v x E Y;exact ⟨b,B.ver,n,a,_,_,d⟩
  .intro v x c E Y R;cases hz v x E with
   |own _ _ _ _ _ _=>exact absurd rfl (Y _ _ _)
   |low a=>
    refine zt r v (λb g=> ?_) R;obtain ⟨B,d,p⟩:=M b (a b g);exact ⟨by rw [p,d],hm'lo b (a b g)⟩
   | frz a d=>
    have p:=mJ V (λb B g=>by split at g;exact g;cases g) 6 v c x d R;refine iU x (dF (OE λb B g=> ?_) x p);split at g
    .rename_i hm2;dsimp only [rdF];rw [if_pos ⟨v,x,E,Y,kw.1 hm2,a⟩];exact g
    .cases g
  .rw [L];intro k b Bo s ver n' c R hzz;obtain ⟨n,B,a,d,p,t,z,O,rfl,U⟩:=C b Bo (Xql s);obtain ⟨xs,e,hzz⟩:=hzz;have hver:ver=B.ver:=by
    obtain ⟨b2,n2,B2,e1,e2,_⟩:=K _ _ hzz ⟨xs,_,e,rfl⟩;cases e1;rw [a] at e2;cases e2;rfl
   subst hver;simp only [VR] at R ⊢;obtain ⟨B',T,_,X,D⟩:=R;rw [a] at T;cases T;refine ⟨_,hgfk k b _ s,Xxr _,X,λ_=> ?_⟩;rw [hm'hi k b _ s];exact D rfl
end
end AM
namespace AM
open Go
section
variable {P:Program} {ap:AP}
theorem IE (p:jm P ap) {env:jq} {hp:Hp} {m:bg} {S:aY} {w:World} {tmps:Array Value} (E:bZ ap (aF hp) m S w) (u:∀ t,VR (aF hp) m S (env.get t) (tmps.getD t undef)) {r:ResultVar} {v:AV} {bs:List Bool}
  (h:Aj ap env hp r=some (v,bs)) (hbs:∀ b ∈ bs,b=true):∃ cv,(Ou tmps r).run P w= .ok cv w/\VR (aF hp) m S v cv:=by
 cases r with
 |tmp t=>
  simp only [Aj,Option.some.injEq,Prod.mk.injEq] at h;obtain ⟨rfl,rfl⟩:=h;exact ⟨_,rfl,u t⟩
 | cell a t=>
  simp only [Aj] at h;have G:=bind_some h;clear h;obtain ⟨I,n,h⟩:=G;simp only [Xqs] at h;obtain ⟨⟨J,ups,F⟩,j,q⟩:=h;simp only [Prod.mk.injEq] at q;obtain ⟨rfl,rfl⟩:=q;obtain ⟨i,d,z,D⟩:=eP p n;have c:=u a;obtain ⟨_,cv,s,C⟩:=Dc E (λb B A=>A) D c j hbs;refine ⟨cv, ?_,C⟩;have g:∃ x,tmps.getD a undef= .pointer (some x):=by
   unfold NK at j;split at j
   .rename_i xs l f;rw [f] at c;simp only [VR,PR] at c;obtain ⟨b,o,vs,e,_⟩:=c;exact ⟨_,e⟩
   .rename_i b ver l f;rw [f] at c;simp only [VR] at c;obtain ⟨B,_,_,⟨k,o,e⟩,_⟩:=c;exact ⟨_,e⟩
   .cases j
  obtain ⟨x,y⟩:=g;rw [y] at s;simp only [Ou,y];exact s
theorem ry (a:jm P ap) {env:jq} {hp:Hp} {m:bg} {S:aY} {w:World} {tmps:Array Value} (g:bZ ap (aF hp) m S w) (f:∀ t,VR (aF hp) m S (env.get t) (tmps.getD t undef)):
  ∀ {rs:List ResultVar} {vs:List (AV × List Bool)},kX (Aj ap env hp) rs=some vs->(∀ b ∈ vs.flatMap (·.2),b=true)->∃ cvs:List Value,rs.length=cvs.length/\bC (aF hp) m S (vs.map (·.1)) cvs/\∀ (i:Nat) (r:ResultVar) (v:Value),rs[i]? =some r->cvs[i]? =some v->(Ou tmps r).run P w= .ok v w
 | [],vs,h,_=>by
  simp [kX] at h;subst h;exact ⟨[],rfl,by simp [bC],λi r v h=>by simp at h⟩
 | r::rs,vs,h,hbs=>by
  simp only [kX] at h;split at h
  .rename_i q n;split at h
   .rename_i l x;cases h;obtain ⟨v,bs⟩:=q;obtain ⟨cv,o,j⟩:=IE a g f n (λb c=>hbs b (by simp [c]));obtain ⟨cvs,p,s,y⟩:=ry a g f x (λb c=>hbs b (by rw [Xxk];exact List.mem_append.2 (.inr c)));refine ⟨cv::cvs,by simp [p],by simp only [Xqg,bC];exact ⟨j,s⟩, ?_⟩;intro i u k d e;cases i with
    |zero=>simp at d e;subst d;subst e;exact o
    |succ i=>exact y i u k (by simpa using d) (by simpa using e)
   .cases h
  .cases h
theorem Wp {gh f:dO} {m:bg} {S:aY} {n:Nat} {x:AV} {v:Value} (h:jW gh f m S n [x] [v]):DJ gh f m S n x v/\(mO n x).2=(gy n [x]).2:=by
 rcases jU x with ⟨xs,k,e,rfl⟩|hx
 .simp only [jW] at h;exact ⟨h.1,rfl⟩
 .rw [bY hx] at h;rcases CE x with ⟨l,rfl⟩|ht
  .have g:=h.1;simp only [VR] at g;obtain ⟨vs,rfl,i⟩:=g;have key:∀ (l:List AV) (vs:List Value) (n:Nat),bC gh m S l vs->jW gh f m S n l vs/\(gy n l).2= []:=by
    intro l
    induction l with
    |nil=>intro vs n a;cases vs with
     |nil=>exact ⟨by simp [jW],rfl⟩
     |cons _ _=>simp [bC] at a
    | cons y r ih=>intro vs n a;cases vs with
     |nil=>simp [bC] at a
     |cons u us=>
      simp only [bC] at a;have b:=yg a.1;obtain ⟨c,d⟩:=ih us n a.2;rw [bY b,bH n b];exact ⟨⟨a.1,c⟩,d⟩
   obtain ⟨c,d⟩:=key l vs n i;refine ⟨?_, ?_⟩
   .simp only [DJ];exact ⟨vs,rfl,c⟩
   .simp only [mO,gy];exact d
  .rw [mf hx ht,jI n hx ht,bH n hx];exact ⟨h.1,rfl⟩
theorem xx (rd:dO) (n:Nat):n<=VV rd n:=by
 obtain ⟨_,t,a⟩:=u_ rd 20 (Xq7 n) List.nodup_range;unfold VV;rw [a,List.length_append,List.length_range];exact Nat.le_add_right _ _
theorem ny (x:jm P ap) {k o:List bu} {J:Func} {env:jq} {hp:Hp} {m m0:bg} {S S0:aY} {w w0:World} {tmps:Array Value} {c I:Cx} {out:kW} (h:xn ap k.length J env hp c= .ok (out,o) I) (F:I.Ok):
  c.Ok/\k.length<=o.length/\(bZ ap (aF hp) m S w->Fr (bK k) m0 S0 w0 (aF hp) m S w->(∀ t,VR (aF hp) m S (env.get t) (tmps.getD t undef))->
   ∃ cv,(results J tmps).run P w= .ok cv w/\∃ s S',Ii ap k m0 S0 w0 out o s S' w (.returned cv)):=by
 unfold xn at h;dsimp only at h;split at h
 .rename_i vs L r b;split at h
  .cases h
  .rename_i hbase;obtain ⟨_,M,K,h⟩:=R.bind_ok h;split at h
   .rename_i v i;cases h;obtain ⟨j,e⟩:=J5 K F;have hlen':k.length<=o.length:=by rw [(jE b).1];simpa using xx _ _
    refine ⟨j,hlen',λp f D=> ?_⟩;obtain ⟨cvs,C,n,A⟩:=ry x p D r e;have a:(vs.flatMap λq=>uN (aF hp) 6 (jG (eQ q.1)))=(vs.map (·.1)).flatMap (cl (aF hp)):=by rw [Yqf];rfl
    rw [a] at i;obtain ⟨s,S',y,z,E⟩:=yC p f n (xx _ _) i b hbase;have B:cvs.length=1:=by
     have:=b_ n;have g:=(jE i).1;simp at g this;omega
    match cvs,B with
    | [cv],_=>
     obtain ⟨g,G⟩:=Wp E;refine ⟨cv,Dy C A,s,S', ?_⟩;rw [<- G] at y z;refine ⟨y,z,cv,rfl, ?_⟩;rw [G];exact g
   .rename_i l d i;cases h;obtain ⟨j,e⟩:=J5 K F;have hlen':k.length<=o.length:=by rw [(jE b).1];simpa using xx _ _
    refine ⟨j,hlen',λp f D=> ?_⟩;obtain ⟨cvs,C,n,A⟩:=ry x p D r e;have a:(vs.flatMap λq=>uN (aF hp) 6 (jG (eQ q.1)))=(vs.map (·.1)).flatMap (cl (aF hp)):=by rw [Yqf];rfl
    rw [a] at i;obtain ⟨s,S',y,z,E⟩:=yC p f n (xx _ _) i b hbase;have u:YM cvs= .tuple cvs.toArray:=by
     match cvs with
     | []=>rfl
     | [cv]=>
      exfalso;have:=b_ n;have g:=(jE i).1;simp at g this
      match l,d with
      | [],_=>simp at g;omega
      | [v],d=>exact d v rfl
      |_::_::_,_=>simp at g;omega
     |_::_::_=>rfl
    refine ⟨_,Dy C A,s,S',y,z, ?_⟩;rw [u];exact ⟨_,rfl,cvs,rfl,E⟩
   .cases h
 .cases h
theorem Ah {a i:List bu} {v:AV} {hp:Hp} {m m0:bg} {S S0:aY} {w w0:World} {c x:Cx} {out:kW} (h:KZ a.length v hp c= .ok (out,i) x):
  c=x/\a.length<=i.length/\(bZ ap (aF hp) m S w->Fr (bK a) m0 S0 w0 (aF hp) m S w->∀ cv,VR (aF hp) m S v cv->(∀ b ver n,v ≠ .ref b ver 0 n)->
   ∃ q S',Ii ap a m0 S0 w0 out i q S' w (.panicked [{v:=cv,recovered:=false}])):=by
 unfold KZ at h;dsimp only at h;split at h
 .rename_i j C f g;split at h
  .cases h
  .rename_i hbase;cases h;have hlen':a.length<=i.length:=by rw [(jE g).1];simpa using xx _ _
   refine ⟨rfl,hlen',λy l cv t u=> ?_⟩;have A:kX (uf (VV (aF hp) a.length) (aF hp) ([v].flatMap (cl (aF hp)))) [v]=some [j]:=by
    simp only [Xxk,Yqe,Δ,kX];have z:uf (VV (aF hp) a.length) (aF hp) (cl (aF hp) v) v=some j:=f;rw [z]
   obtain ⟨q,S',p,s,r⟩:=yC y l (vs:= [v]) (cvs:= [cv]) (by simp only [bC];exact ⟨t,trivial⟩) (xx _ _) A g hbase;have d:∀ xs k e,j ≠ .own xs k e:=by
    rintro xs k e rfl
    cases z_ f with
    |own h1 h2 h3 p s r=>exact u _ _ _ rfl
    |low h1=>exact yg t _ _ _ rfl
    |frz h1 h2=>
     exact EF (mJ y (λb B o=>by split at o;exact o;cases o) 6 v cv _ h2 t) _ _ _ rfl
   rw [bY d] at r;rw [bH _ d] at p s;exact ⟨q,S',p,s,cv,rfl,r.1⟩
 .cases h
end
end AM
namespace AM
open Go
def uF (S:aY):AV->FrameMode->Prop
 | .nilI,u=>u= .returning
 | .ifc t v,u=> ∃ cv,u= .panicking [{v:=cv,recovered:=false}]/\PR S (.ifc t v) cv
 |_,_=>False
def O9 (md md':AV) (u u':FrameMode):Prop:=(md'=md/\u'=u)\/(md'= .nilI/\settle u'= .returning)
structure aam (P:Program) (ap:AP) (f:Nat) (args:List AV) (h:List bu) (out:kW) (h':List bu) (md md':AV):Prop where
 ent:Ey P f
 calls:∀ m S w cargs u,bZ ap (bK h) m S w->bC (bK h) m S args cargs->uF S md u->CallsD P f cargs.toArray u w λe u' w'=>(∃ m' S',Ii ap h m S w out h' m' S' w' e)/\O9 md md' u u'
def wL (P:Program) (ap:AP) (H:dD):Prop:=∀ c md f args h out h' md' c',md ≠ .dead->H c md f args h= .ok (out,h',md') c'->c'.Ok->c.Ok/\aam P ap f args h out h' md md'
structure L9 (P:Program) (ap:AP):Prop where
 fn:∀ (f:Nat) (F:AF),ap.fnAt f=some F->P.funcs[f]? =some F.fn
 body:∀ (f:Nat) (F:AF),ap.fnAt f=some F->∃ c,F.fn.body=some c/\dU F.fn.ntmps c=true
 name:∀ (f:Nat) (F:AF),ap.fnAt f=some F->(F.fn.name== "runtime.NumGoroutine")=false
section
variable {P:Program} {ap:AP} {H:dD}
theorem A7 (a:L9 P ap) {f:Nat} {F:AF} (b:ap.fnAt f=some F):Ey P f:=by
 intro args w;obtain ⟨c,d,_⟩:=a.body f F b;unfold callFunc;rw [Sem.run_bind];have:(program).run P w= .ok P w:=rfl;rw [this,Result.andThen_ok,a.fn f F b];dsimp only;rw [a.name f F b];simp [d]
theorem OG {S:aY} {md:AV} {u:FrameMode} (h:uF S md u):settle u=u/\u ≠ .run:=by
 cases md<;>simp only [uF] at h
 .obtain ⟨cv,rfl,_⟩:=h;exact ⟨rfl,by simp⟩
 .subst h;exact ⟨rfl,by simp⟩
theorem vM (M:jm P ap) (T:wL P ap H):
  ∀ (dfs:List (Nat × List AV)) (mode mode':AV) (hp hp':Hp) (c c':Cx),FN ap H dfs mode hp c= .ok (mode',hp') c'->c'.Ok->c.Ok/\
   ∀ (s:List bu) (x:Func) (tmps:Array Value) (env:jq) (RR:Ending->World->Prop) (m0:bg) (S0:aY) (w0:World) m S w k u,bZ ap (aF hp) m S w->Fr (bK s) m0 S0 w0 (aF hp) m S w->(∀ t,VR (aF hp) m S (env.get t) (tmps.getD t undef))->iH (aF hp) m S dfs k->uF S mode u->
   (∀ m' S' w' l,bZ ap (aF hp') m' S' w'->Fr (bK s) m0 S0 w0 (aF hp') m' S' w'->(∀ t,VR (aF hp') m' S' (env.get t) (tmps.getD t undef))->uF S' mode' l->Leaves P x tmps RR [] l w')->Leaves P x tmps RR k u w
 | [],mode,mode',hp,hp',c,c',h,hc=>by
  cases h;refine ⟨hc,λs x tmps env RR m0 S0 w0 m S w k u G n E hd j J=> ?_⟩;cases k with
  |nil=>exact J m S w u G n E j
  |cons _ _=>simp [iH] at hd
 | (f, args)::r,mode,mode',hp,hp',c,c',h,hc=>by
  simp only [FN] at h;split at h
  .cases h
  .rename_i hrefs;simp only [φ] at hrefs;have N:mode ≠ .dead:=by rintro rfl;cases hrefs.1
   obtain ⟨q,c1,e1,h⟩:=R.bind_ok h;split at h
   .rename_i v z;obtain ⟨I,ih⟩:=vM M T r q.md mode' (q.ups++hp) hp' c1 c' h hc;obtain ⟨args0,hh0,W,O,e2,U,hg⟩:=zG e1;obtain ⟨K,V⟩:=T _ _ _ _ _ _ _ _ _ N e2 I;refine ⟨K,λs x tmps env RR m0 S0 w0 m S w k u G n E hd j J=> ?_⟩;cases k with
    |nil=>simp [iH] at hd
    | cons d k=>
     simp only [iH] at hd;obtain ⟨⟨o,Q,X⟩,Z⟩:=hd;have hfresh:∀ i,i<4->aF hp (lK hp+i)=none:=by
      intro i _;cases Y:aF hp (lK hp+i) with
      |none=>rfl
      |some B=>have:=w_ Y;omega
     have hcall:=hg (aF hp) m S w (d.args++o).toList (λcargs R=>CallsD P f cargs.toArray u w λe l w'=>R e w'/\O9 mode q.md u l)
      (λcargs R R' p a=>CallsD.mono p λe l w' g=> ⟨a e w' g.1,g.2⟩) G (λb _ B hB=>hB) hfresh X
      (λm1 S1 A p a=>V.calls m1 S1 w _ u p a (by
       cases mode<;>simp only [uF] at j ⊢
       .obtain ⟨cv,F,g⟩:=j;exact ⟨cv,F,dF A _ g⟩
       .exact j))
     obtain ⟨y,L⟩:=OG j;refine ⟨L,.func f,o,f,d.args++o,Q, ?_, ?_⟩
     .rw [Q];exact V.ent _ w
     .rw [Array.toArray_toList] at hcall;refine CallsD.mono hcall ?_
      rintro e l w' ⟨⟨m',S',p,a,g⟩,h7⟩
      rw [z] at g;obtain ⟨cv,rfl,g⟩:=g;rw [kV] at p a g;refine ih s x tmps env RR m0 S0 w0 m' S' w' k (settle l) p (n.trans a) (λt=>qy a.sle a.ge _ (E t)) (wK a.sle a.ge Z) ?_ J;rcases h7 with ⟨D,rfl⟩|⟨D,h9⟩
      .rw [y,D];cases mode<;>simp only [uF] at j ⊢
       .obtain ⟨cv,F,C⟩:=j;exact ⟨cv,F,dF a.sle _ C⟩
       .exact j
      .rw [D,h9];rfl
   .cases h
theorem fB {n f:Nat} (h:n<=f):∀ (c:Code),dU n c=true->dU f c=true
 | .region _ ops _,hd=>by
  simp only [dU,List.all_eq_true] at hd ⊢;intro o g;have:=hd o g;unfold Rz at this ⊢;split
  .rename_i d e;rw [e] at this;exact Nat.ble_eq_true_of_le (Nat.le_trans (gW this) h)
  .rfl
 | .seq a b,hd=>by simp only [dU,φ] at hd ⊢;exact ⟨fB h a hd.1,fB h b hd.2⟩
 | .cond _ a b,hd=>by simp only [dU,φ] at hd ⊢;exact ⟨fB h a hd.1,fB h b hd.2⟩
 | .block _ b,hd=>by simp only [dU] at hd ⊢;exact fB h b hd
 | .loop b,hd=>by simp only [dU] at hd ⊢;exact fB h b hd
 | .scope b,hd=>by simp only [dU] at hd ⊢;exact fB h b hd
 | .skip,_=>rfl
 | .label _,_=>rfl
 | .exit _,_=>rfl
 | .ret,_=>rfl
 | .rangeFunc _ _ _ _,_=>rfl
 | .goto _,_=>rfl
 | .refuse _,_=>rfl
theorem BD {α:Type}:∀ (l:List α) (j t:Nat),aF ((l.zipIdx j).map λ(x,i)=>(i,x)) t=if j<=t then l[t - j]? else none
 | [],j,t=>by simp [aF]
 | a::r,j,t=>by
  rw [List.zipIdx_cons,Xqg];simp only [aF];cases h:Xqn j t with
  |true=>have:=aP h;subst this;simp
  | false=>
   have b:j ≠ t:=by intro e;subst e;simp at h
   simp only [BD r (j+1) t];by_cases hj:j+1<=t
   .rw [if_pos hj,if_pos (by omega)];obtain ⟨d,hd⟩:∃ d,t - j=d+1:=⟨t - j - 1,by omega⟩
    rw [hd,List.getElem?_cons_succ,show t - (j+1)=d by omega]
   .rw [if_neg hj,if_neg (by omega)]
theorem Kz {h:List bu} {args:List AV} {cargs:List Value} {m:bg} {S:aY} {w:World} {md:AV} (g:bZ ap (bK h) m S w) (f:bC (bK h) m S args cargs) (n:Nat):
  aF (pG md args h).hp=bK h/\FR ap (pG md args h).env (pG md args h).hp [] (cargs.toArray++Array.replicate (n - cargs.toArray.size) undef).size m S w {tmps:=cargs.toArray++Array.replicate (n - cargs.toArray.size) undef,defers:= []}:=by
 have c:aF (pG md args h).hp=bK h:=by
  funext b;have:=BD h 0 b;simp only [pG,bK];rw [this,if_pos (Xxr _),Xjq]
 refine ⟨c,⟨c ▸ g, ?_,by simp [iH],rfl⟩⟩;intro t;rw [c];have j:(pG md args h).env.get t=(args[t]?).getD .dead:=by
  have:=BD args 0 t;simp only [pG,jq.get];rw [this,if_pos (Xxr _),Xjq]
 rw [j];cases i:args[t]? with
 |none=>simp [VR]
 | some x=>
  obtain ⟨v,d,e⟩:=tu f t i;have a:=(List.getElem?_eq_some_iff.1 d).1;have:(cargs.toArray++Array.replicate (n - cargs.toArray.size) undef).getD t undef=v:=by
   rw [Array.getD_eq_getD_getElem?,Array.getElem?_append_left (by simpa using a)];simp [d]
  rw [this];exact e
theorem zX (p:jm P ap) (O:wL P ap H) {g z:List bu} {A:Func} {e:bI} {s:St} {c J:Cx} {out:kW} {B:AV} (h:D9 ap H g.length A e s c= .ok (out,z,B) J) (G:J.Ok):
  c.Ok/\g.length<=z.length/\∀ m0 S0 w0 m S w a nt,Fr (bK g) m0 S0 w0 (aF s.hp) m S w->FR ap s.env s.hp s.dfs nt m S w a->Wj s.hp m S (bodyPostD P A λe w'=> ∃ r S',Ii ap g m0 S0 w0 out z r S' w' e) a w e:=by
 have x:∀ mode,((FN ap H s.dfs mode s.hp c).bind λ(mode,hp) c=>
   match mode with
   | .nilI=>(xn ap g.length A s.env hp c).bind λ(o,h) c=> .ok (o,h,s.md) c
   | .ifc t v=>(KZ g.length (.ifc t v) hp c).bind λ(o,h) c=> .ok (o,h,s.md) c
   |_=> .bad 74)= .ok (out,z,B) J->c.Ok/\g.length<=z.length/\∀ m0 S0 w0 m S w a nt u,Fr (bK g) m0 S0 w0 (aF s.hp) m S w->FR ap s.env s.hp s.dfs nt m S w a->uF S mode u->Leaves P A a.tmps (λe w'=> ∃ r S',Ii ap g m0 S0 w0 out z r S' w' e) a.defers u w:=by
  intro mode j;obtain ⟨⟨mode',hp'⟩,U,Q,j⟩:=R.bind_ok j;dsimp only at j;split at j
  .obtain ⟨⟨o,q⟩,V,C,j⟩:=R.bind_ok j;cases j;obtain ⟨I,i,E⟩:=ny (P:=P) (m:=λ_=>(0,0)) (m0:=λ_=>(0,0)) (S:=λ_ _=>none) (S0:=λ_ _=>none) (w:=default) (w0:=default) (tmps:=#[]) p C G;obtain ⟨y,L⟩:=vM p O s.dfs mode _ s.hp hp' c U Q I;refine ⟨y,i,λm0 S0 w0 m S w a nt u d f M=> ?_⟩;refine L g A a.tmps s.env _ m0 S0 w0 m S w a.defers u f.srel d f.env f.dfs M ?_;intro r S' w' T k l N D;simp only [uF] at D;subst D;obtain ⟨_,_,E⟩:=ny (P:=P) (m:=r) (m0:=m0) (S:=S') (S0:=S0) (w:=w') (w0:=w0) (tmps:=a.tmps) p C G;obtain ⟨cv,K,X⟩:=E k l N;exact ⟨cv,K,X⟩
  .rename_i t v;obtain ⟨⟨o,q⟩,V,C,j⟩:=R.bind_ok j;cases j;obtain ⟨rfl,i,_⟩:=Ah (ap:=ap) (m:=λ_=>(0,0)) (m0:=λ_=>(0,0)) (S:=λ_ _=>none) (S0:=λ_ _=>none) (w:=default) (w0:=default) C;obtain ⟨y,L⟩:=vM p O s.dfs mode _ s.hp hp' c _ Q G;refine ⟨y,i,λm0 S0 w0 m S w a nt u d f M=> ?_⟩;refine L g A a.tmps s.env _ m0 S0 w0 m S w a.defers u f.srel d f.env f.dfs M ?_;intro r S' w' T k l N D;simp only [uF] at D;obtain ⟨cv,rfl,K⟩:=D;obtain ⟨_,_,F⟩:=Ah (ap:=ap) (m:=r) (m0:=m0) (S:=S') (S0:=S0) (w:=w') (w0:=w0) C;exact F k l cv (iU _ K) (λb ver n h=>by cases h)
  .cases j
 unfold D9 at h;dsimp only at h;split at h
 .obtain ⟨q,k,l⟩:=x .nilI h;exact ⟨q,k,λm0 S0 w0 m S w a nt d f=>l m0 S0 w0 m S w a nt .returning d f rfl⟩
 .obtain ⟨q,k,l⟩:=x .nilI h;exact ⟨q,k,λm0 S0 w0 m S w a nt d f=>l m0 S0 w0 m S w a nt .returning d f rfl⟩
 .rename_i t v;split at h
  .rename_i W;obtain ⟨q,k,l⟩:=x (.ifc t v) h;refine ⟨q,k,λm0 S0 w0 m S w a nt d f cv Y=>l m0 S0 w0 m S w a nt _ d f ⟨cv,rfl, ?_⟩⟩;exact ou (by simpa [eQ] using W) Y
  .cases h
 .cases h
theorem MJ (j:jm P ap) (g:P.follows .mixedOrders=true) (i:L9 P ap) (y:nV P ap H) (G:wL P ap H) (lf:Nat):nV P ap λc md f args h=>uX ap H lf md f args h c:=by
 intro c f args h out C q E b B;have b:uX ap H lf .dead f args h c= .ok (out,C,q) E:=b;unfold uX at b;split at b
 .cases b
 .rename_i F o;dsimp only at b;obtain ⟨⟨e,s⟩,M,t,b⟩:=R.bind_ok b;dsimp only at b;obtain ⟨a,x,d⟩:=i.body f F o;have hbody:ah F.fn=a:=by simp [ah,x]
  rw [hbody] at t;obtain ⟨l,k,n⟩:=zX j G b B;obtain ⟨u,_⟩:=fF (nt:=F.fn.ntmps) j g y a d _ _ _ _ _ t l;refine ⟨u,k,A7 i o,λm S w cargs D L=> ?_⟩;obtain ⟨J,r⟩:=Kz (md:= .dead) D L F.fn.ntmps;have p:F.fn.ntmps<=(cargs.toArray++Array.replicate (F.fn.ntmps - cargs.toArray.size) undef).size:=by simp;omega
  obtain ⟨_,v⟩:=fF j g y a (fB p a d) _ _ _ _ _ t l;obtain ⟨_,v⟩:=v rfl;refine calls_of_wp_defers (i.fn f F o) x ?_;refine v m S w m S w _ (by rw [J];exact Fr.refl _ _ _ _) r _ ?_;intro K S' w' I A z;exact n m S w K S' w' I _ A z
end
end AM
namespace AM
open Go
section
variable {P:Program} {ap:AP} {H:dD}
theorem V5 {o:Oper} {a:Act} {K K':Act->World->Prop} {Q Q':Exit->Act->World->Prop} {r:Result Next} (c:∀ a w,K a w->K' a w) (d:∀ e a w,Q e a w->Q' e a w) (f:¬ LetsOut Q) (h:o.upon P a K Q r):o.upon P a K' Q' r:=by
 cases r with
 | ok n w'=>
  cases n<;>simp only [Oper.upon] at h ⊢ <;>
   first
    |exact c _ _ h
    |exact Calls.mono h (λe g b=>by cases e<;>first|exact c _ _ b|exact d _ _ _ b|exact absurd b f)
    |exact Rows.mono h (λ_ _ b=>c _ _ b)
 |halt x w'=>cases x<;>simp only [Oper.upon] at h ⊢ <;>exact d _ _ _ h
theorem kJ {ops:Array Oper} {Q:Exit->Act->List Frame->World->Prop} {f:List Frame} {Q':Exit->Act->World->Prop} (c:∀ e a w,Q' e a w->Q e a f w) (b:¬ LetsOut Q'):∀ (l:List Nat) (a:Act) (w:World),wpOps P ops Q' l a w->wpOpsS P ops Q l a f w
 | [],a,w,h=>c _ _ _ h
 | i ::rest,a,w,h=>by
  simp only [wpOps] at h;simp only [wpOpsS];cases g:ops[i]? with
  |none=>
   simp only [g] at h ⊢;exact kJ c b rest a w h
  | some o=>
   simp only [g] at h ⊢;by_cases hw:Region.wanted o (yielded ops a.tmps)=true
   .rw [if_pos hw] at h ⊢;rcases h with h|⟨_,h⟩
    .unfold Oper.wp at h;split
     .rename_i w' j;rw [j] at h;exact h.elim
     .exact V5 (λa w d=>kJ c b rest a w d) (λe a w d=>c e a w d) b h
    .exact absurd h b
   .rw [if_neg hw] at h ⊢;exact kJ c b rest _ w h
theorem alP {Q:Exit->Act->World->Prop}:¬ LetsOut (λe a w=>e ≠ .outgrown/\Q e a w):=λ⟨_,_,h,_⟩=>h rfl
theorem Oz {a:Act} {o:Oper} {args:Array Operand} {argTypes:Array TypeId} (h:o.op= .call {callee:= .builtin .recover,args,argTypes}) (w:World):(execOp a.eval o).run P w= .ok .recover w:=by
 unfold execOp;rw [h];rfl
theorem FR.env_cons {env:jq} {hp:Hp} {dfs:List (Nat × List AV)} {nt:Nat} {m:bg} {S:aY} {w:World} {a:Act} (h:FR ap env hp dfs nt m S w a) {d:Nat} (hd:d<nt) {v:AV} {cv:Value} (b:VR (aF hp) m S v cv):FR ap ((d,v)::env) hp dfs nt m S w (a.put (some d) cv):=by
 refine ⟨h.srel,λt=> ?_,by rw [Gx];exact h.dfs,by rw [Oa];exact h.size⟩;by_cases ht:d=t
 .subst ht;rw [Gy _ _ _ (by rw [h.size];exact hd)];have:jq.get ((d,v)::env) d=v:=nJ (env:=env);rw [this];exact b
 .rw [Gz _ _ _ (λe=>ht (by cases e;rfl))];have:jq.get ((d,v)::env) t=env.get t:=zY (env:=env) (dst:=some d) (λe=>ht (by cases e;rfl));rw [this];exact h.env t
theorem JU (l:jm P ap) (E:P.follows .mixedOrders=true) (J:L9 P ap) (hH:nV P ap H) (lf:Nat):wL P ap λc md f args h=>uX ap H lf md f args h c:=by
 intro c md f args h out h' V c' hmd g hc;have g:uX ap H lf md f args h c= .ok (out,h',V) c':=g;unfold uX at g;split at g
 .cases g
 .rename_i F hF;split at g
  .exact absurd rfl hmd
  .split at g
   .rename_i hrefs;simp only [φ] at hrefs;obtain ⟨body,K,j⟩:=J.body f F hF;have hbody:ah F.fn=body:=by simp [ah,K]
    unfold WL at g;rw [hbody] at g;split at g
    .rename_i id ops rest;split at g
     .rename_i o r k;split at g
      .rename_i args' argTypes d hop hg hd;dsimp only at g;obtain ⟨⟨s1,p⟩,c1,e1,g⟩:=R.bind_ok g;dsimp only at g;split at g
       .cases g
       .obtain ⟨⟨e,C⟩,c2,e2,g⟩:=R.bind_ok g;dsimp only at g;split at g
        .cases g
        .rename_i N;have z:∃ Z,(e= .normal\/e= .ret)/\xn ap h.length F.fn C.env C.hp c2= .ok (out,h') Z/\V= .nilI/\Z=c':=by
          split at g
          .obtain ⟨⟨o1,h1⟩,Z,L,g⟩:=R.bind_ok g;cases g;exact ⟨_,.inl rfl,L,rfl,rfl⟩
          .obtain ⟨⟨o1,h1⟩,Z,L,g⟩:=R.bind_ok g;cases g;exact ⟨_,.inr rfl,L,rfl,rfl⟩
          .cases g
         obtain ⟨Z,z,L,rfl,rfl⟩:=z;obtain ⟨O,hlen,_⟩:=ny (P:=P) (m:=λ_=>(0,0)) (m0:=λ_=>(0,0)) (S:=λ_ _=>none) (S0:=λ_ _=>none) (w:=default) (w0:=default) (tmps:=#[]) l L hc;simp only [dU,φ] at j;obtain ⟨W,_⟩:=fF (nt:=F.fn.ntmps) l E hH rest j.2 _ _ _ _ _ e2 O;have A:∀ nt,F.fn.ntmps<=nt->∀ o' ∈ o::r,∀ d,o'.dst=some d->d<nt:=by
          intro nt q o' ho' d' hd';have:=List.all_eq_true.1 j.1 o' (by rw [k];exact ho');simp only [Rz,hd'] at this;exact Xqa (gX this) q
         obtain ⟨hc0,_⟩:=oP (nt:=F.fn.ntmps) l hH (ops:=o::r) (A _ (Nat.le_refl _)) r 1 _ _ _ _ _ _ e1 W;refine ⟨hc0,A7 J hF,λm S w cargs u hS hv hm=> ?_⟩;obtain ⟨hh,hFR⟩:=Kz (md:= .dead) hS hv F.fn.ntmps;have q:F.fn.ntmps<=(cargs.toArray++Array.replicate (F.fn.ntmps - cargs.toArray.size) undef).size:=by simp;omega
         obtain ⟨_,hx⟩:=fF l E hH rest (fB q rest j.2) _ _ _ _ _ e2 O;obtain ⟨_,hs⟩:=oP l hH (ops:=o::r) (A _ q) r 1 _ _ _ _ _ _ e1 W;obtain ⟨hmd1,hs⟩:=hs rfl (λt b K=>by cases K) rfl (λb B K=>w_ K);obtain ⟨_,hx⟩:=hx hmd1;have X:=A _ q o (by simp) d hd;refine callsD_of_wpS (J.fn f F hF) K λc₀ I hc₀=> ?_
         have i:∃ cv n,uF S md u/\VR (aF (pG .dead args h).hp) m S md cv/\settle n= .returning/\((recoverD (c₀::I)=some (cv,{c₀ with mode:=n}::I))\/(recoverD (c₀::I)=none/\cv= .nilIface/\{c₀ with mode:=n}=c₀)):=by
          cases md<;>simp only [uF] at hm
          .obtain ⟨cv,rfl,hp⟩:=hm;exact ⟨cv,.panicking [{v:=cv,recovered:=true}],⟨cv,rfl,hp⟩,iU _ hp,rfl,.inl (by simp [recoverD,hc₀])⟩
          .subst hm;exact ⟨.nilIface,.returning,rfl,by simp only [VR,PR],rfl,.inr ⟨by simp [recoverD,hc₀],rfl,by rw [<- hc₀]⟩⟩
         obtain ⟨cv,n,_,T,D,i⟩:=i;have hcont:∀ (Q:Exit->Act->List Frame->World->Prop),(∀ e a w',(∃ m' S',Fr (bK h) m S w (aF C.hp) m' S' w'/\FR ap C.env C.hp C.dfs (cargs.toArray++Array.replicate (F.fn.ntmps - cargs.toArray.size) undef).size m' S' w' a)->(e= .normal\/e= .ret)->Q e a ({c₀ with mode:=n}::I) w')->
           wpOpsS P ops (Exit.thenS (rest.wpS P Q) Q) (Yqr 1 r.length) (({tmps:=cargs.toArray++Array.replicate (F.fn.ntmps - cargs.toArray.size) undef,defers:= []}:Act).put (some d) cv) ({c₀ with mode:=n}::I) w:=by
          intro Q hQ;have hopsA:ops=(o::r).toArray:=by rw [<- k]
          rw [hopsA];refine kJ (Q':=λe a w'=>e ≠ .outgrown/\e= .normal/\rest.wpS P Q a ({c₀ with mode:=n}::I) w') ?_ alP _ _ _ ?_
          .rintro e a w' ⟨_,rfl,hh⟩
           exact hh
          .refine hs m S w _ (hFR.env_cons X T) _ ?_;intro m1 S1 w1 a1 h3 M;refine ⟨by simp,rfl,wpS_of_wp ?_⟩;rw [hh] at h3;obtain ⟨m2,h5,h6⟩:=ul (keep:=F.keep) (s:=⟨s1.env,s1.hp,s1.md,s1.dfs⟩) h3 M;refine hx m S w m2 S1 w1 a1 h5 h6 _ ?_;intro m3 S3 w3 a3 h7 h8;rcases z with rfl|rfl
           .exact hQ .normal a3 w3 ⟨m3,S3,h7,h8⟩ (.inl rfl)
           .exact hQ .ret a3 w3 ⟨m3,S3,h7,h8⟩ (.inr rfl)
         have G:∀ e a w',(∃ m' S',Fr (bK h) m S w (aF C.hp) m' S' w'/\FR ap C.env C.hp C.dfs (cargs.toArray++Array.replicate (F.fn.ntmps - cargs.toArray.size) undef).size m' S' w' a)->(e= .normal\/e= .ret)->
           bodyPostS P F.fn c₀ I (λe n w'=>(∃ m' S',Ii ap h m S w out h' m' S' w' e)/\O9 md .nilI u n) e a ({c₀ with mode:=n}::I) w':=by
          rintro e a w' ⟨m',S',h3,M⟩ hee
          obtain ⟨_,_,hro⟩:=ny (P:=P) (m:=m') (m0:=m) (S:=S') (S0:=S) (w:=w') (w0:=w) (tmps:=a.tmps) l L hc;obtain ⟨Y,h5,h6⟩:=hro M.srel h3 M.env;have U:a.defers= []:=by
           have:=M.dfs;rw [N] at this;cases hd:a.defers with
           |nil=>rfl
           |cons x y=>rw [hd] at this;simp [iH] at this
          rcases hee with rfl|rfl
          .exact ⟨U,n,rfl,Y,h5,h6,.inr ⟨rfl,D⟩⟩
          .exact ⟨U,n,rfl,Y,h5,h6,.inr ⟨rfl,D⟩⟩
         refine wpS_seq (wpS_region ?_);have hrange:Xq7 ops.size=0::Yqr 1 r.length:=by
          have:ops.size=r.length+1:=by rw [<- Array.length_toList,k];simp
          rw [this,List.range_eq_range',List.range'_succ]
         rw [hrange];have ho0:ops[0]? =some o:=by
          have:ops.toList[0]? =some o:=by rw [k];rfl
          simpa using this
         simp only [wpOpsS,ho0,Region.wanted,hg,if_true,Oz hop];rw [hd];rcases i with i|⟨i,rfl,hsame⟩
         .rw [i];exact hcont _ G
         .rw [i];have:=hcont _ G;rw [hsame] at this;exact this
      .cases g
     .cases g
    .cases g
   .cases g
end
end AM
namespace AM
open Go
def Fj:Option AF->Bool
 |some F=>(match F.fn.body with|some c=>dU F.fn.ntmps c|none=>false) && !(F.fn.name== "runtime.NumGoroutine")
 |none=>true
theorem aay {P:Program} {ap:AP} (h:(Xq7 ap.nty).map ap.ty.get=(Xq7 ap.nty).map (ZU P)):jm P ap:=by
 constructor;intro t e a;unfold AP.tyAt at a;split at a
 .rename_i b;have d:=gX b;have c:((Xq7 ap.nty).map ap.ty.get)[t]? =some (some e):=by rw [Xq5,Xzf d];simp [a]
  rw [h,Xq5,Xzf d] at c;simpa using c
 .cases a
theorem abD {P:Program} {ap:AP} {keep:Nat->Bool} (h:(Xq7 ap.nfn).map (λi=>(ap.fn.get i).map AF.fn)=(Xq7 ap.nfn).map λi=>match keep i with|true=>P.funcs[i]? |false=>none) (l:(Xq7 ap.nfn).all (λi=>Fj (ap.fn.get i))=true):L9 P ap:=by
 have b:∀ (f:Nat) (F:AF),ap.fnAt f=some F->f<ap.nfn/\ap.fn.get f=some F:=by
  intro f F a;unfold AP.fnAt at a;split at a
  .rename_i j;exact ⟨gX j,a⟩
  .cases a
 have hgood:∀ (f:Nat) (F:AF),ap.fnAt f=some F->Fj (some F)=true:=by
  intro f F a;obtain ⟨e,g⟩:=b f F a;have:=List.all_eq_true.1 l f (by simpa using e);rwa [g] at this
 constructor
 .intro f F a;obtain ⟨e,g⟩:=b f F a;have d:((Xq7 ap.nfn).map λi=>(ap.fn.get i).map AF.fn)[f]? =some (some F.fn):=by rw [Xq5,Xzf e];simp [g]
  rw [h,Xq5,Xzf e] at d;simp only [Xjo,Option.some.injEq] at d;split at d
  .exact d
  .cases d
 .intro f F a;have:=hgood f F a;simp only [Fj,φ] at this;cases k:F.fn.body with
  |none=>rw [k] at this;cases this.1
  |some c=>rw [k] at this;exact ⟨c,rfl,this.1⟩
 .intro f F a;have:=hgood f F a;simp only [Fj,φ,Xqq] at this;exact this.2
end AM
namespace AM
open Go
def aK (P:Program) (ap:AP) (h0:List bu) (n:Nat) (code:Code) (s:St) (e:bI) (s':St):Prop:=∀ nt,n<=nt->aj P ap h0 nt code s e s'
abbrev y_:=List (bI × St)
def nI (P:Program) (ap:AP) (H:dD) (h0:List bu) (keep:List Nat) (lf nt:Nat) (ls:List Nat):Code->St->y_->Cx->R ((bI × St) × y_)
 | .seq a b,s,l,c=>(nI P ap H h0 keep lf nt ls a s l c).bind λr c=>match r.1.1 with
  | .normal=>nI P ap H h0 keep lf nt ls b r.1.2 r.2 c
  |e=> .ok ((e,r.1.2),r.2) c
 | .cond t a b,s,l,c=>match rY ap s.env t with
  | .bool x=>(A8 c x).bind λx c=>match x with
   |true=>nI P ap H h0 keep lf nt ls a s l c
   |false=>nI P ap H h0 keep lf nt ls b s l c
  |_=> .bad 60
 | .block id b,s,l,c=>match uh ls id with
  |true=>match l with
   |(e,s')::r=> .ok ((e,s'),r) {c with ps:=aK P ap h0 nt (.block id b) s e s'::c.ps}
   | []=> .bad 62
  |false=>(nI P ap H h0 keep lf nt ls b s l c).bind λr c=>match r.1.1 with
   | .exit id'=>match Xqn id' id with|true=> .ok ((.normal,r.1.2),r.2) c|false=> .ok ((.exit id',r.1.2),r.2) c
   |e=> .ok ((e,r.1.2),r.2) c
 | .scope b,s,l,c=>nI P ap H h0 keep lf nt ls b s l c
 | .region id ops draw,s,l,c=>match uh ls (id+1000) with
  |true=>match l with
   |(e,s')::r=> .ok ((e,s'),r) {c with ps:=aK P ap h0 nt (.region id ops draw) s e s'::c.ps}
   | []=> .bad 63
  |false=>(l_ ap H h0.length keep lf (.region id ops draw) s c).bind λr c=> .ok (r,l) c
 |code,s,l,c=>(l_ ap H h0.length keep lf code s c).bind λr c=> .ok (r,l) c
section
variable {P:Program} {ap:AP} {H:dD}
theorem aj.seq {b:List bu} {nt:Nat} {x y:Code} {s f g:St} {e:bI} (t:aj P ap b nt x s .normal f) (l:aj P ap b nt y f e g):aj P ap b nt (.seq x y) s e g:=by
 intro d;obtain ⟨k,n⟩:=t d;obtain ⟨r,q⟩:=l k;refine ⟨r,λm0 S0 w0 m S w a c h Q u=>wp_seq (n m0 S0 w0 m S w a c h _ ?_)⟩;intro o S' w' j i p;exact q m0 S0 w0 o S' w' j i p Q u
theorem aj.seq_out {f:List bu} {nt:Nat} {x y:Code} {s g:St} {e:bI} (b:e ≠ .normal) (p:aj P ap f nt x s e g):aj P ap f nt (.seq x y) s e g:=by
 intro d;obtain ⟨j,k⟩:=p d;refine ⟨j,λm0 S0 w0 m S w a c h Q q=>wp_seq (k m0 S0 w0 m S w a c h _ ?_)⟩;intro l S' w' i o n;have:=q l S' w' i o n;cases e with
 |normal=>exact absurd rfl b
 |exit id=>exact this
 |ret=>exact this
 |panic v=>exact this
theorem aj.cond {g:List bu} {nt:Nat} {t:Operand} {x y:Code} {s s':St} {e:bI} {d:Bool} (i:rY ap s.env t= .bool d) (h:aj P ap g nt (if d then x else y) s e s'):aj P ap g nt (.cond t x y) s e s':=by
 intro f;obtain ⟨l,k⟩:=h f;refine ⟨l,λm0 S0 w0 m S w a c b Q j=>wp_cond (t:=d) ?_ (k m0 S0 w0 m S w a c b Q j)⟩;have:=yB b.srel (a:=a) (env:=s.env) t (λt _=>b.env t);rw [i] at this;simpa only [VR,PR] using this
def qG (id:Nat):bI->bI
 | .exit id'=>match Xqn id' id with|true=> .normal|false=> .exit id'
 |e=>e
theorem aj.block {k:List bu} {nt:Nat} {id:Nat} {b:Code} {s s':St} {e:bI} (h:aj P ap k nt b s e s'):aj P ap k nt (.block id b) s (qG id e) s':=by
 intro j;obtain ⟨n,o⟩:=h j;refine ⟨n,λm0 S0 w0 m S w a f l Q t=>wp_block (o m0 S0 w0 m S w a f l _ ?_)⟩;intro p S' w' g r q;have c:=t p S' w' g r q;cases e with
 |normal=>exact c
 |ret=>exact c
 |panic v=>exact c
 | exit id'=>
  simp only [qG] at c;split at c
  .rename_i i;show Exit.inBlock id Q (.exit id') g w';simp only [Exit.inBlock,if_pos (aP i)];exact c
  .rename_i i;show Exit.inBlock id Q (.exit id') g w';have d:id' ≠ id:=by intro e;subst e;simp at i
   simp only [Exit.inBlock,if_neg d];exact c
theorem aj.scope {g:List bu} {nt:Nat} {b:Code} {s s':St} {e:bI} (h:aj P ap g nt b s e s'):aj P ap g nt (.scope b) s e s':=by
 intro f;obtain ⟨k,l⟩:=h f;refine ⟨k,λm0 S0 w0 m S w a d i Q q=>wp_scope_straight (l m0 S0 w0 m S w a d i _ ?_)⟩;intro n S' w' j p o;have c:=q n S' w' j p o;cases e with
 |normal=>exact c
 |exit id=>exact c
 |ret=>exact c
 |panic v=>exact c
theorem vC (G:jm P ap) (A:P.follows .mixedOrders=true) (J:nV P ap H) {m:List bu} {keep:List Nat} {lf n nt:Nat} (I:n<=nt) {ls:List Nat}:∀ (d:Code),dU nt d=true->∀ (s:St) (l:y_) (r:(bI × St) × y_) (c f:Cx),nI P ap H m keep lf n ls d s l c= .ok r f->f.Ok->c.Ok/\aj P ap m nt d s r.1.1 r.1.2:=by
 have hbase:∀ (d:Code),dU nt d=true->∀ (s:St) (l:y_) (r:(bI × St) × y_) (c f:Cx),((l_ ap H m.length keep lf d s c).bind λr c=> .ok (r,l) c)= .ok r f->f.Ok->c.Ok/\aj P ap m nt d s r.1.1 r.1.2:=by
  intro d hd s l r c f h a;obtain ⟨⟨e,s'⟩,z,k,h⟩:=R.bind_ok h;cases h;exact fF G A J d hd s e s' c _ k a
 intro d
 induction d with
 | seq x y ihx ihy=>
  intro hd s l r c f h a;simp only [dU,φ] at hd;simp only [nI] at h;obtain ⟨⟨⟨o,C⟩,E⟩,z,k,h⟩:=R.bind_ok h;dsimp only at h;have hother:o ≠ .normal->R.ok ((o,C),E) z=R.ok r f->c.Ok/\aj P ap m nt (.seq x y) s r.1.1 r.1.2:=by
   intro B K;cases K;obtain ⟨g,j⟩:=ihx hd.1 _ _ _ _ _ k a;exact ⟨g,j.seq_out B⟩
  cases o with
  |normal=>
   dsimp only at h;obtain ⟨i,M⟩:=ihy hd.2 _ _ _ _ _ h a;obtain ⟨g,j⟩:=ihx hd.1 _ _ _ _ _ k i;exact ⟨g,j.seq M⟩
  |exit id=>exact hother (by simp) h
  |ret=>exact hother (by simp) h
  |panic v=>exact hother (by simp) h
 | cond t x y ihx ihy=>
  intro hd s l r c f h a;simp only [dU,φ] at hd;simp only [nI] at h;split at h
  .rename_i O w;obtain ⟨L,z,k,h⟩:=R.bind_ok h;cases L with
   |true=>
    obtain ⟨i,j⟩:=ihx hd.1 _ _ _ _ _ h a;obtain ⟨g,u⟩:=mg k i;exact ⟨g,aj.cond w (by rw [<- u];exact j)⟩
   |false=>
    obtain ⟨i,j⟩:=ihy hd.2 _ _ _ _ _ h a;obtain ⟨g,u⟩:=mg k i;exact ⟨g,aj.cond w (by rw [<- u];exact j)⟩
  .cases h
 | block id b ih=>
  intro hd s l r c f h a;simp only [dU] at hd;simp only [nI] at h;split at h
  .split at h
   .rename_i D F N;cases h;have hp:aK P ap m n (.block id b) s D F:=a.ps _ (Xjy ..);exact ⟨⟨a.bs,λp hp=>a.ps p (Xjd _ hp)⟩,hp nt I⟩
   .cases h
  .obtain ⟨⟨⟨o,C⟩,E⟩,z,k,h⟩:=R.bind_ok h;dsimp only at h;have q:r=((qG id o,C),E)/\z=f:=by
    cases o<;>dsimp only at h
    .cases h;exact ⟨rfl,rfl⟩
    .unfold qG;split at h<;>cases h<;>rename_i u<;>dsimp only<;>rw [u]<;>exact ⟨rfl,rfl⟩
    .cases h;exact ⟨rfl,rfl⟩
    .cases h;exact ⟨rfl,rfl⟩
   obtain ⟨rfl,rfl⟩:=q;obtain ⟨g,j⟩:=ih hd _ _ _ _ _ k a;exact ⟨g,j.block⟩
 |scope b ih=>
  intro hd s l r c f h a;simp only [dU] at hd;simp only [nI] at h;obtain ⟨g,j⟩:=ih hd _ _ _ _ _ h a;exact ⟨g,j.scope⟩
 |skip=>exact λhd s l r c f h a=>hbase _ hd s l r c f h a
 | region id ops draw=>
  intro hd s l r c f h a;simp only [nI] at h;split at h
  .split at h
   .rename_i D F N;cases h;have hp:aK P ap m n (.region id ops draw) s D F:=a.ps _ (Xjy ..);exact ⟨⟨a.bs,λp hp=>a.ps p (Xjd _ hp)⟩,hp nt I⟩
   .cases h
  .exact hbase _ hd s l r c f h a
 |loop _ _=>exact λhd s l r c f h a=>hbase _ hd s l r c f h a
 |rangeFunc _ _ _ _=>exact λhd s l r c f h a=>hbase _ hd s l r c f h a
 |exit _=>exact λhd s l r c f h a=>hbase _ hd s l r c f h a
 |label _=>exact λhd s l r c f h a=>hbase _ hd s l r c f h a
 |goto _=>exact λhd s l r c f h a=>hbase _ hd s l r c f h a
 |ret=>exact λhd s l r c f h a=>hbase _ hd s l r c f h a
 |refuse _=>exact λhd s l r c f h a=>hbase _ hd s l r c f h a
def MK (P:Program) (ap:AP) (H:dD) (lf:Nat) (ls:List Nat) (f:Nat) (args:List AV) (h:List bu) (l:y_) (c:Cx):R (kW × List bu × AV):=
 match ap.fnAt f with
 |none=> .bad 80
 |some F=>(nI P ap H h F.keep lf F.fn.ntmps ls (ah F.fn) (pG .dead args h) l c).bind λr c=>D9 ap H h.length F.fn r.1.1 r.1.2 c
theorem ML (o:jm P ap) (n:P.follows .mixedOrders=true) (d:L9 P ap) (C:nV P ap H) (E:wL P ap H) {lf:Nat} {ls:List Nat} {f:Nat} {args:List AV} {h x:List bu} {l:y_} {c y:Cx} {out:kW} {q:AV}
  (b:MK P ap H lf ls f args h l c= .ok (out,x,q) y) (hc:y.Ok):aH P ap f args h out x:=by
 unfold MK at b;split at b
 .cases b
 .rename_i F p;obtain ⟨⟨⟨e,s⟩,M⟩,L,z,b⟩:=R.bind_ok b;dsimp only at b;obtain ⟨a,v,i⟩:=d.body f F p;have hbody:ah F.fn=a:=by simp [ah,v]
  rw [hbody] at z;obtain ⟨r,j,k⟩:=zX o E b hc;refine ⟨j,A7 d p,λm S w cargs D K=> ?_⟩;obtain ⟨I,t⟩:=Kz (md:= .dead) D K F.fn.ntmps;have g:F.fn.ntmps<=(cargs.toArray++Array.replicate (F.fn.ntmps - cargs.toArray.size) undef).size:=by simp;omega
  obtain ⟨_,u⟩:=vC o n C g a (fB g a i) _ _ _ _ _ z r;obtain ⟨_,u⟩:=u rfl;refine calls_of_wp_defers (d.fn f F p) v ?_;refine u m S w m S w _ (by rw [I];exact Fr.refl _ _ _ _) t _ ?_;intro J S' w' G B A;exact k m S w J S' w' G _ B A
end
end AM
namespace AM
open Go
def yR (P:Program) (ap:AP) (lf:Nat):Nat->dD
 |0=>λ_ _ _ _ _=> .bad 90
 | n+1=>λc md f args h=>
  match md with
  | .dead=>match c.ans with
   |(out,h')::r=> .ok (out,h',.dead) {c with ans:=r,ps:=aH P ap f args h out h'::c.ps}
   |_=> .bad 91
  |md=>uX ap (yR P ap lf n) lf md f args h c
theorem mQ {P:Program} {ap:AP} (i:jm P ap) (a:P.follows .mixedOrders=true) (e:L9 P ap) (lf:Nat):∀ n,nV P ap (yR P ap lf n)/\wL P ap (yR P ap lf n)
 |0=> ⟨λ_ _ _ _ _ _ _ _ h=>(by cases h),λ_ _ _ _ _ _ _ _ _ _ h=>(by cases h)⟩
 | n+1=>by
  obtain ⟨m,o⟩:=mQ i a e lf n;constructor
  .intro c f args h out k d l b g;simp only [yR] at b;split at b
   .cases b;exact ⟨⟨g.bs,λp hp=>g.ps p (by simp [hp])⟩,g.ps _ (by simp)⟩
   .cases b
  .intro c md f args h out k d l j b g;have b:uX ap (yR P ap lf n) lf md f args h c= .ok (out,k,d) l:=by
    cases md<;>first|exact absurd rfl j|exact b
   exact JU i a e m lf c md f args h out k d l j b g
inductive rF:List Prop->Prop where
 |nil:rF []
 |cons {p:Prop} {l:List Prop}:p->rF l->rF (p::l)
theorem rF.mem {l:List Prop} (h:rF l):∀ p ∈ l,p:=by
 induction h with
 |nil=>intro p hp;cases hp
 |cons hp _ ih=>
  intro q a;rcases List.mem_cons.1 a with rfl|a
  .exact hp
  .exact ih q a
inductive jK:List Bool->Prop where
 |nil:jK []
 |t {l:List Bool}:jK l->jK (true::l)
 |c {b:Bool} {l:List Bool}:b=true->jK l->jK (b::l)
theorem jK.mem {l:List Bool} (h:jK l):∀ b ∈ l,b=true:=by
 induction h with
 |nil=>intro p hp;cases hp
 |t _ ih=>
  intro q a;rcases List.mem_cons.1 a with rfl|a
  .rfl
  .exact ih q a
 |c hp _ ih=>
  intro q a;rcases List.mem_cons.1 a with rfl|a
  .exact hp
  .exact ih q a
structure EC (P:Program) (ap:AP):Prop where
 apok:jm P ap
 mixed:P.follows .mixedOrders=true
 fnok:L9 P ap
theorem mD {P:Program} {ap:AP} (g:EC P ap) {lf n:Nat} {ans:List (kW × List bu)} {ps:List Prop} {f:Nat} {args:List AV} {h a:List bu} {out:kW} (hp:rF ps)
  (he:uX ap (yR P ap lf n) lf .dead f args h ⟨true,[],[],[],ans,[]⟩= .ok (out,a,.dead) ⟨true,[],[],ps,[],[]⟩):aH P ap f args h out a:=by
 obtain ⟨e,c⟩:=mQ g.apok g.mixed g.fnok lf n;exact (MJ g.apok g.mixed g.fnok e c lf _ f args h out a .dead _ he ⟨λb d=>(by cases d),hp.mem⟩).2
theorem uo {P:Program} {ap:AP} (g:EC P ap) {lf n:Nat} {ls:List Nat} {orc:List Bool} {ans:List (kW × List bu)} {lps:y_} {bs:List Bool} {ps:List Prop} {f:Nat} {args:List AV} {h a:List bu} {out:kW}
  (hb:jK bs) (hp:rF ps) (he:MK P ap (yR P ap lf n) lf ls f args h lps ⟨false,orc,[],[],ans,[]⟩= .ok (out,a,.dead) ⟨false,[],bs,ps,[],[]⟩):aH P ap f args h out a:=by
 obtain ⟨c,b⟩:=mQ g.apok g.mixed g.fnok lf n;exact ML g.apok g.mixed g.fnok c b he ⟨hb.mem,hp.mem⟩
end AM
namespace AM
open Go Go.ChangeShapes Go.WideShapes Go.ChangeAt Go.RowKit
def qY:Lit->Value
 | .int k n=> .int k n
 | .bool b=> .bool b
 | .string s=> .string ⟨s.toArray⟩
 |_=> .nilFunc
def NG:Lit->AV
 | .int k n=> .int k n
 | .bool b=> .bool b
 | .string s=> .str s
 |_=> .dead
def FU:Lit->Bool
 | .int _ _=>true
 | .bool _=>true
 | .string _=>true
 |_=>false
def NH (f:TypeId->DataW Unit->Nat->Option (List (Nat × Lit))):List (TypeId × Nat)->List (DataW Unit)->Option (List (Nat × Lit))
 | [],[]=>some []
 |(t,o)::r,d::ds=>match f t d o,NH f r ds with
  |some a,some b=>some (a++b)
  |_,_=>none
 |_,_=>none
def nM (P:Program):Nat->TypeId->DataW Unit->Nat->Option (List (Nat × Lit))
 |0,_,_,_=>none
 |n+1,t,d,off=>match P.underlying t,d with
  |some (.struct fs),.agg ds=>NH (nM P n) (fs.toList.map λf=>(f.type,off+f.offset)) ds
  |some (.array m e),.agg ds=>NH (nM P n) ((Xq7 m).map λi=>(e,off+i*P.cellsOf e)) ds
  |some (.int _),.lit (.int k n)=>some [(off,.int k n)]
  |some .bool,.lit (.bool b)=>some [(off,.bool b)]
  |some .string,.lit (.string s)=>some [(off,.string s)]
  |_,_=>none
theorem FT {f:TypeId->DataW Unit->Nat->Option (List (Nat × Lit))}:∀ {ts:List (TypeId × Nat)} {ds:List (DataW Unit)} {l:List (Nat × Lit)},NH f ts ds=some l->ts.length=ds.length/\∀ x ∈ l,∃ (i:Nat) (t o:Nat) (d:DataW Unit) (a:List (Nat × Lit)),ts[i]? =some (t,o)/\ds[i]? =some d/\f t d o=some a/\x ∈ a
 | [],[],l,h=>by simp [NH] at h;subst h;simp
 | (t,o)::r,d::ds,l,h=>by
  simp only [NH] at h;split at h
  .rename_i a b v n;cases h;obtain ⟨u,e⟩:=FT n;refine ⟨by simp [u],λx c=> ?_⟩;rcases List.mem_append.1 c with c|c
   .exact ⟨0,t,o,d,a,rfl,rfl,v,c⟩
   .obtain ⟨i,j,m,w,p,q,s,k,g⟩:=e x c;exact ⟨i+1,j,m,w,p,by simpa using q,by simpa using s,k,g⟩
  .cases h
 | [],_::_,_,h=>by simp [NH] at h
 |_::_,[],_,h=>by simp [NH] at h
theorem pR {P:Program} {w:World} {base:Nat} {M:Nat->Bool} {A:Bool}:∀ (n:Nat) (t:TypeId) (d:DataW Unit) (off:Nat) (l:List (Nat × Lit)),nM P n t d off=some l->∀ (c:Nat) (I:List Value) (p:List MemPlace),DataW.trod (λ_=>()) P w base M A c t I=some (d,p)->∀ x ∈ l,∃ j,x.1=off+j/\I[j]? =some (qY x.2)
 |0,_,_,_,_,h=>by simp [nM] at h
 | n +1,t,d,off,l,h=>by
  intro c I p hd x r;simp only [nM] at h;split at h
  .rename_i V N o;cases c with
   |zero=>simp [DataW.trod] at hd
   | succ m=>
    simp only [DataW.trod,o] at hd;split at hd
    .obtain ⟨xs,J,g⟩:=Option.map_eq_some_iff.1 hd;simp only [Prod.mk.injEq,DataW.agg.injEq] at g;obtain ⟨rfl,rfl⟩:=g;obtain ⟨K,B⟩:=FT h;obtain ⟨i,L,R,Q,a,v,u,G,E⟩:=B x r;rw [Xq5,Xqs] at v;obtain ⟨f,F,y⟩:=v;simp only [Prod.mk.injEq] at y;obtain ⟨rfl,rfl⟩:=y;obtain ⟨b,C,D⟩:=Lib.mapM_at J i f F;rw [Xq5,C] at u;simp only [Xjo,Option.some.injEq] at u;subst u;obtain ⟨j,O,q⟩:=pR n _ _ _ _ G m _ b.2 D x E;refine ⟨f.offset+j,by omega, ?_⟩;rw [Xj7] at q;split at q
     .rwa [Xzj] at q
     .cases q
    .cases hd
  .rename_i k e N o;cases c with
   |zero=>simp [DataW.trod] at hd
   | succ m=>
    simp only [DataW.trod,o] at hd;split at hd
    .obtain ⟨xs,J,g⟩:=Option.map_eq_some_iff.1 hd;simp only [Prod.mk.injEq,DataW.agg.injEq] at g;obtain ⟨rfl,rfl⟩:=g;obtain ⟨K,B⟩:=FT h;obtain ⟨i,L,R,Q,a,v,u,G,E⟩:=B x r;rw [Xq5,Xqs] at v;obtain ⟨f,F,y⟩:=v;simp only [Prod.mk.injEq] at y;obtain ⟨rfl,rfl⟩:=y;obtain ⟨b,C,D⟩:=Lib.mapM_at J i f F;rw [Xq5,C] at u;simp only [Xjo,Option.some.injEq] at u;subst u;obtain ⟨j,O,q⟩:=pR n _ _ _ _ G m _ b.2 D x E;refine ⟨f*P.cellsOf e+j,by omega, ?_⟩;rw [Xj7] at q;split at q
     .rwa [Xzj] at q
     .cases q
    .cases hd
  .rename_i T k S o;cases h;simp at r;subst r;obtain ⟨U,rfl,z,_⟩:=DataW.trod_int o hd;simp only [Prod.mk.injEq,DataW.lit.injEq,Lit.int.injEq] at z;obtain ⟨⟨rfl,rfl⟩,_⟩:=z;exact ⟨0,rfl,rfl⟩
  .rename_i b o;cases h;simp at r;subst r;cases c with
   |zero=>simp [DataW.trod] at hd
   |succ m=>
    unfold DataW.trod at hd;rw [o] at hd;split at hd<;>simp_all
    rfl
  .rename_i s o;cases h;simp at r;subst r;cases c with
   |zero=>simp [DataW.trod] at hd
   |succ m=>
    unfold DataW.trod at hd;rw [o] at hd;split at hd<;>simp_all
    obtain ⟨_,rfl,_⟩:=hd;rfl
  .cases h
theorem Ad {P:Program} {w:World}:∀ {l:List (String × DataW Unit)} {ps:List MemPlace},DataW.LaidVars P w l ps->∀ n d,(n,d) ∈ l->∃ g t b a p,P.globalNamed n=some g/\(P.globals[g]?).map (·.type)=some t/\w.var? P n=some b/\DataW.trod (λ_=>()) P w 0 (λ_=>true) false a t b.toList=some (d,p)
 | [],_,_,n,d,hm=>by cases hm
 | (n',d')::r,ps,h,n,d,hm=>by
  obtain ⟨g,t,b,a,p,q,j,c,f,i,e,_⟩:=h;rcases List.mem_cons.1 hm with he|hm
  .cases he;exact ⟨g,t,b,a,p,j,c,f,i⟩
  .exact Ad e n d hm
theorem Qd {P:Program} {W:World} {a:List (String × DataW Unit)} (h:laidMetH P a W) (e:a.filter (λx=>x.2.handleName?.isSome)= []) {n:String} {d:DataW Unit} (w:(n,d) ∈ a) {g:Nat} {t:TypeId} (k:P.globalNamed n=some g) (u:(P.globals[g]?).map (·.type)=some t)
  {ls:List Lit} (hl:nM P 6 t d 0=some (ls.zipIdx.map λ(l,i)=>(i,l))):∀ (j:Nat) (l:Lit),ls[j]? =some l->W.cell? ⟨g,j,none⟩=some (qY l):=by
 have c:laidMet P a W:=by
  unfold laidMetH at h;rw [e] at h;exact h
 obtain ⟨ps,A,_⟩:=c;obtain ⟨g',B,r,b,p,v,o,q,s⟩:=Ad A n d w;obtain rfl:=Option.some.inj (k.symm.trans v);obtain rfl:=Option.some.inj (u.symm.trans o);intro j l y;obtain ⟨f,m,z⟩:=pR 6 t d 0 _ hl b r.toList p s (j,l) (by
  rw [List.mem_map];exact ⟨(l,j),by rw [List.mem_zipIdx_iff_getElem?];exact y,rfl⟩)
 have:f=j:=by simp at m;exact m.symm
 subst this;rw [World.var?_cell k q f];simpa using z
def mW (W:World):aY:=λk o=>match W.cell? ⟨k,o,none⟩ with|some v=>if v.oneCell' then some v else none|none=>none
theorem JI {W:World} {k o:Nat} {v:Value} (h:W.cell? ⟨k,o,none⟩=some v) (a:v.oneCell'=true):mW W k o=some v:=by
 unfold mW;rw [h];simp only;rw [if_pos a]
theorem O6 {W:World} {k o:Nat} {v:Value} (h:mW W k o=some v):lu W k o=some v:=by
 unfold mW at h;split at h
 .rename_i c b;split at h
  .rename_i a;cases h;exact EO b a
  .cases h
 .cases h
theorem Mc (S:aY):∀ (ls:List Lit),ls.all FU=true->eY S (ls.map NG) (ls.map qY)
 | [],_=>by simp [eY]
 |l::r,h=>by
  simp only [Xx5,φ] at h;simp only [Xqg,eY];refine ⟨?_,Mc S r h.2⟩;cases l<;>simp only [NG,qY,PR]<;>first|rfl|(exact absurd h.1 (by simp [FU]))
theorem Qg {l:Lit} (h:FU l=true):(qY l).oneCell'=true:=by
 cases l<;>first|rfl|(exact absurd h (by simp [FU]))
def Wn (ap:AP) (W:World):Prop:=∀ k xs,(ap.gl[k]?).join=some xs->∃ ls:List Lit,xs=ls.map NG/\ls.all FU=true/\∀ (j:Nat) (l:Lit),ls[j]? =some l->W.cell? ⟨k,j,none⟩=some (qY l)
theorem abJ {ap:AP} {W:World} (h:Wn ap W):Wl ap (mW W):=by
 intro k xs f;obtain ⟨ls,rfl,c,e⟩:=h k xs f;refine ⟨ls.map qY,Mc _ _ c, ?_⟩;intro j u a;rw [Xq5,Xqs] at a;obtain ⟨l,b,rfl⟩:=a;have d:=Qg (List.all_eq_true.1 c l (Xql b));refine ⟨?_,d⟩;rw [Nat.zero_add];exact JI (e j l b) d
theorem afS {P:Program} {ap:AP} {f:Nat} {args:List AV} {b:Bool} (g:aH P ap f args [] (.ret (.bool b)) []) {W:World} (i:Wn ap W) {cargs:List Value} (j:eY (mW W) args cargs):
  Calls P f cargs.toArray W λe W'=>e= .returned (.bool b)/\Below W.heap.size W W':=by
 have l:bZ ap (bK []) (λ_=>(0,0)) (mW W) W:=
  ⟨λb n B B' h=>by simp [bK] at h,λb B h=>by simp [bK] at h,λk o v h=>O6 h,λb B h=>by simp [bK] at h,abJ i⟩
 refine (g.calls (λ_=>(0,0)) (mW W) W cargs l (cO _ j)).mono ?_
 rintro e W' ⟨m',S',hF⟩
 obtain ⟨_,a,c⟩:=hF;obtain ⟨cv,rfl,d⟩:=c;simp only [DJ,VR,PR] at d;subst d;exact ⟨rfl,a.os,a.tape,a.output,a.size,λk m=>a.rest k m λb B h=>by simp [bK] at h⟩
def Ep (P:Program) (ts:List TypeId):Bool:=ts.all λt=>P.readableRec t && decide (t<P.types.size)
theorem x_ {H:Type} {enc:TypeId × Value->H} {P:Program} (b:laidOutB P=true) {W W':World} {c:Nat->Bool}:∀ {ts:List TypeId} {vs:List Value} {ds:List (DataW H)} {ps:List MemPlace},Ep P ts=true->DataW.TrodAll enc P W 0 (λ_=>true) true ts vs ds ps->(∀ p ∈ ps,W.sameAt W' p)->(∀ p ∈ ps,c p.block=true)->DataW.TrodAll enc P W' 0 c true ts vs ds ps
 | [],vs,ds,ps,_,h,_,_=>by
  obtain ⟨rfl,rfl,rfl⟩:=trodAll_nil h;rfl
 |t::ts,vs,ds,ps,hf,h,hs,hsp=>by
  obtain ⟨v,g,d,i,p,q,rfl,rfl,rfl,f,e⟩:=trodAll_cons h;simp only [Ep,Xx5,φ,decide_eq_true_eq] at hf;exact trodAll_cons_mk (WideElems.Trod_stays b hf.1.1 hf.1.2 f (λx a=>hs x (by simp [a])) (λx a=>hsp x (by simp [a]))) (x_ b (by simpa [Ep] using hf.2) e (λx a=>hs x (by simp [a])) (λx a=>hsp x (by simp [a])))
theorem alh {H:Type} {enc:TypeId × Value->H} {P:Program} {f:Func} {s:ChangeSpec} {apart fresh handsOn again:Bool} {W W':World} {args:Array Value} {g n:List (DataW H)} {before:List MemPlace} (w:laidOutB P=true) (u:Ep P f.params.toList=true)
  (hW:DataW.Whole enc P f.params.toList s.vars apart W args.toList g n before) (hvars:s.vars= []) {tb:TypeId} (hr:f.resultTypes=#[tb]) (htb:P.underlying tb=some .bool) (hfn:s.fn H (g++n)={results:= [.lit (.bool true)],args:=g,vars:= []})
  (hb:Below W.heap.size W W'):s.post enc P f apart fresh handsOn again W args (.bool true) W':=by
 have e:∀ p ∈ before,p.block<W.heap.size:=λp hp=>hW.lt p hp
 have d:∀ p ∈ before,(λb=>decide (b<W.heap.size)) p.block=true:=λp hp=>by simpa using hW.lt p hp
 have j:=hW;obtain ⟨p,q,t,m,rfl,o,r⟩:=hW;rw [hvars] at m;obtain ⟨rfl,rfl⟩:=trodVars_none m;simp only [Δ] at e d o r j hfn ⊢;have hargs:∀ a:Nat->Bool,(∀ x ∈ p,a x.block=true)->DataW.TrodAll enc P W' 0 a true f.params.toList args.toList (s.fn H g).args p:=by
  intro a l;rw [hfn];exact x_ w u t (λx k=>hb.same (e x k)) l
 have c:∀ (b:Nat) (a:Nat->Bool) (hd:Bool),DataW.TrodAll enc P W' b a hd f.resultTypes.toList ((Value.bool true).resultList f.resultTypes.size) (s.fn H g).results []:=by
  intro b a hd;rw [hfn,hr];exact trodAll_cons_mk (p:= []) (shut_bool htb true) trodAll_mk0
 have h:∀ a:Nat->Bool,DataW.TrodVars enc P W' a s.vars (s.fn H g).vars []:=by
  intro a;rw [hvars,hfn];rfl
 refine ⟨g,[],p,[],p,[],j,by rw [Δ];exact c _ _ _,by rw [Δ];exact hargs _ d,by rw [Δ];exact h _,World.keptBut_mono (λx k=>k) (hb.frame _),λ_=> ?_⟩;refine ⟨ok_one hr rfl (okWide_bool_mk htb _),_,_,([]++p)++ [],⟨[]++p,[],trodAll_append (hargs _ (λ_ _=>rfl)) (c _ _ _),by simpa using h _,rfl, ?_, ?_⟩, ?_⟩
 .intro b i hp;have hp':MemPlace.cell b i ∈ p:=by simpa using hp
  rw [hb.frozen (e _ hp')];exact o b i hp'
 .intro v;simpa using r v
 .intro x k _;simpa using k
end AM
