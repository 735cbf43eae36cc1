/- The abstract machine over the code of the model, and the proof that it is sound. No conditions. -/
import Derived.Test.YtdmfgmmooalfnaaGreatDoorM3
import Derived.Recover
import Derived.ProofKit
import Derived.OpenShut
import Derived.LaidLaws
import Derived.LaidSub
import Derived.Lib.LaidTab
set_option linter.unusedSimpArgs false
set_option linter.unusedVariables false
open Bool renaming and_eq_true→π,not_eq_true'→Xqo
open Nat renaming beq→Xqq,zero_le→Xxk,lt_of_lt_of_le→Xqa,sub_zero→Xjk
open List renaming mem_of_getElem?→Xqj,flatMap_cons→Xjg,flatMap_nil→Xk7,append_nil→Γ,range→Xq6,getElem?_map→Xq3,map_cons→Xqh,flatMap_map→Xv2,range'→Yqk,getElem?_range→Xj8,mem_cons_self→Xjp,mem_cons_of_mem→Xx3,getElem?_take→Xj0,getElem?_drop→Xzh,all_cons→Xxs
open Option renaming map_eq_some_iff→Xqp,map_some→Xje
namespace AM
open Go
theorem wK {α:Type} {P:Program} {w:World} (f:α→Sem Value):∀ (l:List α) (vs:List Value),l.length=vs.length→(∀ (i:Nat) (x:α) (v:Value),l[i]? =some x→vs[i]? =some v→(f x).run P w= .ok v w)→(l.mapM f).run P w= .ok vs w
 | [],[],_,_=>rfl
 |a::l,v::vs,hl,h=>by
  rw [List.mapM_cons,Sem.run_bind,h 0 a v rfl rfl,Result.andThen_ok,Sem.run_bind,wK f l vs (by simpa using hl) fun i x u b c=>h (i+1) x u (by simpa using b) (by simpa using c),Result.andThen_ok];rfl
 | [],_::_,hl,_=>by simp at hl
 |_::_,[],hl,_=>by simp at hl
def LX (tmps:Array Value):ResultVar→Sem Value
 | .tmp t=>pure (tmps.getD t undef)
 | .cell a t=>do loadVar t (← asAddr (tmps.getD a undef))
def WH (vs:List Value):Value:=match vs with| [v]=>v|vs=> .tuple vs.toArray
theorem OI (a:Func) (tmps:Array Value):results a tmps=(do let vs ← a.results.mapM (LX tmps);pure (if h:vs.size=1 then vs[0] else .tuple vs)):=by
 unfold results;congr 2
theorem BO {P:Program} {w:World} {a:Func} {tmps:Array Value} {vs:List Value} (b:a.results.toList.length=vs.length)
  (h:∀ (i:Nat) (r:ResultVar) (v:Value),a.results.toList[i]? =some r→vs[i]? =some v→(LX tmps r).run P w= .ok v w):
  (results a tmps).run P w= .ok (WH vs) w:=by
 rw [OI,Array.mapM_eq_mapM_toList];simp only [bind_map_left];rw [Sem.run_bind,wK _ _ vs b h,Result.andThen_ok]
 match vs with
 | []=>rfl
 | [v]=>rfl
 |_::_::_=>simp [WH]
theorem Md {S:aT} {m:aZ} {rd c:dG} {w:World} (h:∀ b B,rd b=some B→c b=some B):oQ (dL S m rd w) (dL S m c w):=by
 intro k o v a;unfold dL at a ⊢;split at a
 ·rename_i u i;exact a
 ·rename_i i;split at a
  ·rename_i d;obtain ⟨b,B,e,g,f⟩:=d;rw [if_pos ⟨b,B,h b B e,g,f⟩];exact a
  ·cases a
def cl (rd:dG) (v:AV):List Nat:=tq rd 6 (jk (d_ v))
inductive Gv (base:Nat) (rd:dG) (all:List Nat):AV→AV→Prop
 |own {b n:Nat} {B:bg}:rd b=some B→base≤b→B.fro=false→B.pr=true→f_ all b=1→0<B.esz→Gv base rd all (.ref b B.ver 0 n) (.own (B.cells.take (n*B.esz)) n B.esz)
 |low {v:AV}:(∀ b ∈ d_ v,b<base)→Gv base rd all v v
 |frz {v v':AV}:(∀ b ∈ cl rd v,base≤b)→frz (fun b=>match rQ (cl rd v) b with|true=>rd b|false=>none) 6 v=some v'→Gv base rd all v v'
theorem Sm {base:Nat} {rd:dG} {v a:AV} (h:Zn base rd v=some a):(∀ b ∈ cl rd v,base≤b)∧frz (fun b=>match rQ (cl rd v) b with|true=>rd b|false=>none) 6 v=some a:=by
 unfold Zn at h;dsimp only at h;split at h
 ·rename_i c;exact ⟨fun b d=>gp (List.all_eq_true.1 c b d),h⟩
 ·cases h
theorem G_ {base:Nat} {rd:dG} {all:List Nat} {v a:AV} (h:(match (d_ v).all (fun b=>Nat.blt b base) with|true=>some v|false=>Zn base rd v)=some a):Gv base rd all v a:=by
 split at h
 ·rename_i d;cases h;exact .low fun b c=>gq (List.all_eq_true.1 d b c)
 ·obtain ⟨e,f⟩:=Sm h;exact .frz e f
theorem yD {base:Nat} {rd:dG} {all:List Nat} {v c:AV} (h:rO base rd all v=some c):Gv base rd all v c:=by
 unfold rO at h;dsimp only at h;split at h
 ·rename_i b ver n;split at h
  ·rename_i B e;split at h
   ·rename_i d;cases h;simp only [π,Xqo] at d;obtain ⟨⟨⟨⟨⟨k,a⟩,g⟩,i⟩,j⟩,f⟩:=d;have a:=aJ a;subst a;exact .own e (gp k) g i (aJ j) (gq f)
   ·exact G_ h
  ·cases h
 ·exact G_ h
theorem uV {l:List Nat} {b:Nat} (h:b ∈ l):1≤f_ l b:=by
 unfold f_;have:b ∈ l.filter (Xqq b):=by rw [List.mem_filter];exact ⟨h,Nat.beq_refl b⟩
 exact List.length_pos_of_mem this
theorem rH {l a:List Nat} {b:Nat}:f_ (l++a) b=f_ l b+f_ a b:=by simp [f_,List.filter_append]
theorem zC {α:Type} {f:α→List Nat} {b:Nat}:∀ (vs:List α) (i j:Nat) (v v':α),vs[i]? =some v→vs[j]? =some v'→i ≠ j→b ∈ f v→b ∈ f v'→2≤f_ (vs.flatMap f) b
 | [],i,j,v,v',h,_,_,_,_=>by simp at h
 | a::r,i,j,v,v',hi,hj,hne,hb,hb'=>by
  have c:∀ (k:Nat) (u:α),r[k]? =some u→b ∈ f u→1≤f_ (r.flatMap f) b:=by
   intro k u d e;exact uV (List.mem_flatMap.2 ⟨u,Xqj d,e⟩)
  rw [Xjg,rH];cases i with
  |zero=>
   simp at hi;subst hi;cases j with
   |zero=>exact absurd rfl hne
   |succ j=>have:=c j v' (by simpa using hj) hb';have:=uV hb;omega
  | succ i=>
   cases j with
   |zero=>simp at hj;subst hj;have:=c i v (by simpa using hi) hb;have:=uV hb';omega
   |succ j=>
    have:=zC r i j v v' (by simpa using hi) (by simpa using hj) (by omega) hb hb';omega
def kZ:List AV→List AV→List (Nat × bg)
 |v::r,.own xs _ esz::q=>(match v with| .ref b _ _ _=> [(b,Ji xs esz)]|_=> [])++kZ r q
 |_::r,_::q=>kZ r q
 |_,_=> []
theorem jw {v x:AV} {r q:List AV} (h:∀ xs k e,x ≠ .own xs k e):kZ (v::r) (x::q)=kZ r q:=by
 cases x<;>first|rfl|exact absurd rfl (h _ _ _)
section
variable {P:Program} {ap:AP} {base:Nat} {rd:dG} {all:List Nat}
theorem wQ {g:dG} {m:aZ} {S:aT} {x:AV} {v:Value} (h:VR g m S x v):∀ xs k e,x ≠ .own xs k e:=by
 rintro xs k e rfl;simp [VR] at h
theorem Dp {S:aT} {x:AV} {v:Value} (h:PR S x v):∀ xs k e,x ≠ .own xs k e:=by
 rintro xs k e rfl;simp [PR] at h
end
end AM
namespace AM
open Go
theorem EJ {b:Nat}:∀ (l acc:List Nat),(b ∈ l∨b ∈ acc)→b ∈ l.foldl BX acc
 | [],acc,h=>by simpa using h
 | a::r,acc,h=>by
  simp only [List.foldl_cons];refine EJ r _ ?_;rcases h with h|h
  ·rcases List.mem_cons.1 h with rfl|h
   ·right;unfold BX;split
    ·rename_i c;exact jK.1 c
    ·simp
   ·exact .inl h
  ·right;obtain h':=h;unfold BX;split
   ·exact h
   ·simp [h]
theorem Oj {l:List Nat} {b:Nat} (h:b ∈ l):b ∈ jk l:=EJ l [] (.inl h)
theorem Jc (l:List Nat):(jk l).Nodup:=(pg l [] (by simp)).1
theorem We {rd:dG} {v:AV} {b:Nat} (h:b ∈ d_ v):b ∈ cl rd v:=by
 obtain ⟨_,t,a⟩:=tZ rd 6 (jk (d_ v)) (Jc _);unfold cl;rw [a];exact List.mem_append.2 (.inl (Oj h))
theorem Ae:∀ {vs l:List AV} {b:Nat} {Bo:bg},(b,Bo) ∈ kZ vs l→∃ ver i n c k e,(AV.ref b ver i n,AV.own c k e) ∈ vs.zip l∧Bo=Ji c e
 | [],l,b,Bo,h=>by cases l<;>simp [kZ] at h
 |v::r,[],b,Bo,h=>by simp [kZ] at h
 | v ::r,x::q,b,Bo,h=>by
  rcases jB x with ⟨c,k,e,rfl⟩|hx
  ·simp only [kZ,List.mem_append] at h;rcases h with h|h
   ·cases v with
    |ref b' ver i n=>
     simp at h;obtain ⟨rfl,rfl⟩:=h;exact ⟨ver,i,n,c,k,e,by simp,rfl⟩
    |_=>simp at h
   ·obtain ⟨ver,i,n,a,d,e',f,g⟩:=Ae h;exact ⟨ver,i,n,a,d,e',by simp [f],g⟩
  ·rw [jw hx] at h;obtain ⟨ver,i,n,a,d,e',f,g⟩:=Ae h;exact ⟨ver,i,n,a,d,e',by simp [f],g⟩
theorem EW {rd:dG} {b:Nat}:∀ (vs l:List AV),f_ ((kZ vs l).flatMap fun q=> [q.1]) b≤f_ (vs.flatMap (cl rd)) b
 | [],l=>by cases l<;>simp [kZ,f_]
 |v::r,[]=>by simp [kZ,f_]
 | v :: r,x::q=>by
  have d:=EW (rd:=rd) (b:=b) r q;rw [Xjg,rH];rcases jB x with ⟨f,k,e,rfl⟩|hx
  ·simp only [kZ,List.flatMap_append,rH];cases v with
   | ref b' ver i n=>
    simp only [Xjg,Xk7,Γ];have:f_ [b'] b≤f_ (cl rd (.ref b' ver i n)) b:=by
     by_cases hb:b=b'
     ·subst hb;have a:f_ [b] b=1:=by simp [f_]
      rw [a];exact uV (We (by simp [d_]))
     ·have a:f_ [b'] b=0:=by
       have:Xqq b b'=false:=by
        cases c:Xqq b b' with
        |false=>rfl
        |true=>exact absurd (aJ c) hb
       simp [f_,this]
      omega
    omega
   |_=>simp [f_] at*;omega
  ·rw [jw hx];omega
theorem Ff:∀ (vs l:List AV) (n:Nat),vs.length=l.length→(∀ v x,(v,x) ∈ vs.zip l→(∃ c k e,x= .own c k e)→∃ b ver i n,v= .ref b ver i n)→(fM n l).2=(kZ vs l).map (·.2)
 | [],[],n,_,_=>by simp [fM,kZ]
 | v::r,x::q,n,hl,h=>by
  have d:=fun n=>Ff r q n (by simpa using hl) fun v x f a=>h v x (by simp [f]) a
  rcases jB x with ⟨c,k,e,rfl⟩|a
  ·obtain ⟨b,ver,i,g,rfl⟩:=h v _ (by simp) ⟨c,k,e,rfl⟩;simp only [fM,kZ,d];simp
  ·rw [bC n a,jw a];exact d n
 | [],_::_,_,hl,_=>by simp at hl
 |_::_,[],_,hl,_=>by simp at hl
theorem Jh {rd gh w:dG} {m s:aZ} {S S':aT}:∀ (vs l:List AV) (cvs:List Value) (n:Nat),vs.length=l.length→bi rd m S vs cvs→
  (∀ v x,(v,x) ∈ vs.zip l→(∃ a k e,x= .own a k e)→∃ b ver n,v= .ref b ver 0 n∧∃ a e,x= .own a n e)→
  (∀ v x c,(v,x) ∈ vs.zip l→(∀ a k e,x ≠ .own a k e)→VR rd m S v c→VR gh s S' x c)→
  (∀ (k b:Nat) (Bo:bg),(kZ vs l)[k]? =some (b,Bo)→∀ ver o c,VR rd m S (.ref b ver 0 o) c→(∃ a e,(AV.ref b ver 0 o,AV.own a o e) ∈ vs.zip l)→VR w s S' (.ref (n+k) 0 0 o) c)→jE gh w s S' n l cvs
 | [],[],[],n,_,_,_,_,_=>by simp [jE]
 | v::r,x::q,c::cs,n,hl,hv,ho,hx,hr=>by
  simp only [bi] at hv;rcases jB x with ⟨a,k,e,rfl⟩|hxo
  ·obtain ⟨b,ver,o,rfl,z,e',y⟩:=ho v _ (by simp) ⟨a,k,e,rfl⟩;cases y;simp only [jE];refine ⟨?_, ?_⟩
   ·have:=hr 0 b (Ji a e) (by simp [kZ]) ver k c hv.1 ⟨a,e,by simp⟩;rwa [Nat.add_zero] at this
   ·refine Jh r q cs (n+1) (by simpa using hl) hv.2 (fun v x g=>ho v x (by simp [g])) (fun v x c g=>hx v x c (by simp [g])) ?_;intro j p Bo u d i t h f;have:=hr (j+1) p Bo (by simpa [kZ] using u) d i t h (by obtain ⟨a,e,f⟩:=f;exact ⟨a,e,by simp [f]⟩);rwa [show n+(j+1)=n+1+j by omega] at this
  ·rw [bT hxo];refine ⟨hx v x c (by simp) hxo hv.1, ?_⟩;refine Jh r q cs n (by simpa using hl) hv.2 (fun v x g=>ho v x (by simp [g])) (fun v x c g=>hx v x c (by simp [g])) ?_;intro j p Bo u d i t h f;exact hr j p Bo (by rw [jw hxo];exact u) d i t h (by obtain ⟨a,e,f⟩:=f;exact ⟨a,e,by simp [f]⟩)
 | [],_::_,_,_,hl,_,_,_,_=>by simp at hl
 |_::_,[],_,_,hl,_,_,_,_=>by simp at hl
 | [],[],_::_,_,_,hv,_,_,_=>by simp [bi] at hv
 |_::_,_::_,[],_,_,hv,_,_,_=>by simp [bi] at hv
theorem La {α β:Type} {f:α→Option β}:∀ {l:List α} {l':List β},kG f l=some l'→∀ x y,(x,y) ∈ l.zip l'→f x=some y
 | [],l',h,x,y,hm=>by simp at hm
 | a::r,l',h,x,y,hm=>by
  simp only [kG] at h;split at h
  ·rename_i b d;split at h
   ·rename_i q c;cases h;simp only [List.zip_cons_cons,List.mem_cons,Prod.mk.injEq] at hm;rcases hm with ⟨rfl,rfl⟩|hm
    ·exact d
    ·exact La c x y hm
   ·cases h
  ·cases h
theorem Q_ {α β:Type} {l:List α} {a:List β} {x:α} {y:β} (h:(x,y) ∈ l.zip a):∃ i:Nat,l[i]? =some x∧a[i]? =some y:=by
 obtain ⟨i,b⟩:=List.mem_iff_getElem?.1 h;rw [List.getElem?_zip_eq_some] at b;exact ⟨i,b⟩
theorem Yg {g:dG} {m:aZ} {S:aT} {l:List AV} {vs:List Value} (h:bi g m S l vs) {x:AV} (b:x ∈ l):∃ v,VR g m S x v:=by
 obtain ⟨i,c⟩:=List.mem_iff_getElem?.1 b;obtain ⟨v,_,a⟩:=rE h i c;exact ⟨v,a⟩
end AM
namespace AM
open Go
section
variable {P:Program} {ap:AP}
theorem xe {h0 F:List bg} {hp:Hp} {m m0:aZ} {S S0:aT} {w w0:World} {vs l:List AV} {cvs:List Value} (V:bU ap (aA hp) m S w) (z:Fr (bH h0) m0 S0 w0 (aA hp) m S w) (hv:bi (aA hp) m S vs cvs)
  {N:Nat} (hN:h0.length≤N) (hl:kG (rO N (aA hp) (vs.flatMap (cl (aA hp)))) vs=some l) (hh':kG (aA hp) (Xq6 N)=some F) (hbase:F.all (fun B=>B.pr||(bQ B.cells).all fun b=>Nat.blt b N)=true):
  ∃ m' S',bU ap (bH (F++(fM F.length l).2)) m' S' w∧Fr (bH h0) m0 S0 w0 (bH (F++(fM F.length l).2)) m' S' w∧jE (bH F) (bH (F++(fM F.length l).2)) m' S' F.length l cvs:=by
 have X:=(jh hl).1;have hz:∀ v x,(v,x) ∈ vs.zip l→Gv N (aA hp) (vs.flatMap (cl (aA hp))) v x:=fun v x E=>yD (La hl v x E)
 have M:∀ v x,(v,x) ∈ vs.zip l→(∃ O k e,x= .own O k e)→∃ (b n:Nat) (B:bg),v= .ref b B.ver 0 n∧aA hp b=some B∧N≤b∧B.fro=false∧B.pr=true∧f_ (vs.flatMap (cl (aA hp))) b=1∧0<B.esz∧x= .own (B.cells.take (n*B.esz)) n B.esz:=by
  rintro v x E ⟨O,k,e,rfl⟩
  obtain ⟨c,T⟩:=Yg hv (List.of_mem_zip E).1;generalize hxe:AV.own O k e=x at E;cases hz v x E with
  |own a d p t A Q=>exact ⟨_,_,_,rfl,a,d,p,t,A,Q,rfl⟩
  |low a=>exact absurd hxe.symm (wQ T _ _ _)
  |frz a d=>
   refine absurd hxe.symm (Dp (lK V (fun b B g=> ?_) 6 v c x d T) _ _ _);split at g
   ·exact g
   ·cases g
 generalize K:kZ vs l=obs;have hbs:∀ n,(fM n l).2=obs.map (·.2):=by
  intro n;rw [← K];refine Ff vs l n X.symm fun v x E Y=> ?_
  obtain ⟨b,n',B,a,_⟩:=M v x E Y;exact ⟨b,_,0,n',a⟩
 rw [hbs];have C:∀ b Bo,(b,Bo) ∈ obs→∃ (n:Nat) (B:bg),aA hp b=some B∧N≤b∧B.fro=false∧B.pr=true∧f_ (vs.flatMap (cl (aA hp))) b=1∧0<B.esz∧Bo=Ji (B.cells.take (n*B.esz)) B.esz∧(AV.ref b B.ver 0 n,AV.own (B.cells.take (n*B.esz)) n B.esz) ∈ vs.zip l:=by
  intro b Bo E;rw [← K] at E;obtain ⟨ver,i,n,O,k,e,a,d⟩:=Ae E;obtain ⟨b',n',B,p,t,A,Q,W,U,Z,D⟩:=M _ _ a ⟨O,k,e,rfl⟩;cases p;cases D;exact ⟨_,B,t,A,Q,W,U,Z,d,a⟩
 have hobd:∀ (k k' b:Nat) (Bo Bo':bg),obs[k]? =some (b,Bo)→obs[k']? =some (b,Bo')→k=k':=by
  intro k k' b Bo Bo' a d;obtain ⟨n,B,_,_,_,_,A,_⟩:=C b Bo (Xqj a);by_cases s:k=k'
  ·exact s
  ·have p:=zC (f:=fun q:Nat × bg=> [q.1]) obs k k' _ _ a d s (b:=b) (by simp) (by simp);have t:=EW (rd:=aA hp) (b:=b) vs l;rw [K] at t;omega
 have hobx:∀ b Bo,(b,Bo) ∈ obs→∀ v x,(v,x) ∈ vs.zip l→(∀ O k e,x ≠ .own O k e)→b ∉ cl (aA hp) v:=by
  intro b Bo E v x hvx Y g;obtain ⟨n,B,_,_,_,_,A,_,_,Q⟩:=C b Bo E;obtain ⟨i,W,U⟩:=Q_ Q;obtain ⟨j,Z,D⟩:=Q_ hvx;have hne:i ≠ j:=by
   rintro rfl
   rw [U] at D;cases D;exact Y _ _ _ rfl
  have:=zC (f:=cl (aA hp)) vs i j _ _ W Z hne (b:=b) (We (by simp [d_])) g;omega
 have hl0:F.length=N:=by rw [(jh hh').1];simp
 have J:∀ b,b<N→∃ B,aA hp b=some B∧bH F b=some B:=by
  intro b g;obtain ⟨B,a,d⟩:=(jh hh').2 b b (by simp [g]);exact ⟨B,d,a⟩
 have hlow':∀ b B,bH F b=some B→b<N∧aA hp b=some B:=by
  intro b B g;have G:b<N:=by
   have:=(List.getElem?_eq_some_iff.1 g).1;omega
  obtain ⟨B',a,d⟩:=J b G;rw [g] at d;cases d;exact ⟨G,a⟩
 let rdF:dG:=open Classical in fun b=>if ∃ v x,(v,x) ∈ vs.zip l∧(∀ O k e,x ≠ .own O k e)∧b ∈ cl (aA hp) v∧∀ y ∈ cl (aA hp) v,N≤y then aA hp b else none
 have R:∀ b B,rdF b=some B→aA hp b=some B∧N≤b∧∀ Bo,(b,Bo) ∉ obs:=by
  intro b B g;dsimp only [rdF] at g;split at g
  ·rename_i T;obtain ⟨v,x,a,d,p,t⟩:=T;exact ⟨g,t b p,fun Bo E=>hobx b Bo E v x a d p⟩
  ·cases g
 have r:=nP S m rdF w
 let m':aZ:=fun i=>if i<N then m i else m ((obs.map (·.1)).getD (i - N) 0)
 have hm'lo:∀ i,i<N→m' i=m i:=fun i I=>if_pos I
 have hm'hi:∀ (k b:Nat) (Bo:bg),obs[k]? =some (b,Bo)→m' (N+k)=m b:=by
  intro k b Bo s;show (if _ then _ else _)=_;rw [if_neg (by omega),show N+k - N=k by omega,List.getD_eq_getElem?_getD,Xq3,s];rfl
 have hgf:∀ i Bi,bH (F++obs.map (·.2)) i=some Bi→(i<N∧aA hp i=some Bi∧bH F i=some Bi)∨(∃ k b,i=N+k∧obs[k]? =some (b,Bi)):=by
  intro i Bi I;by_cases G:i<N
  ·rw [fD (by omega)] at I;exact .inl ⟨G,(hlow' i Bi I).2,I⟩
  ·rw [jg (by omega),hl0] at I;right;refine ⟨i - N, ?_⟩;have hi':(obs.map (·.2))[i - N]? =some Bi:=I;rw [Xq3,Xqp] at hi';obtain ⟨⟨b,Bo⟩,a,d⟩:=hi';exact ⟨b,by omega,by rw [a];simp at d;rw [d]⟩
 have hgfk:∀ (k b:Nat) (Bo:bg),obs[k]? =some (b,Bo)→bH (F++obs.map (·.2)) (N+k)=some Bo:=by
  intro k b Bo s;rw [jg (by omega),hl0,show N+k - N=k by omega];show (obs.map (·.2))[k]? =_;rw [Xq3,s];rfl
 have L:∀ i Bi,bH (F++obs.map (·.2)) i=some Bi→∃ b B,aA hp b=some B∧m' i=m b∧((i<N∧b=i∧Bi=B)∨(N≤b∧∃ k,i=N+k∧obs[k]? =some (b,Bi))):=by
  intro i Bi I;rcases hgf i Bi I with ⟨a,d,p⟩|⟨k,b,rfl,s⟩
  ·exact ⟨i,Bi,d,hm'lo i a,.inl ⟨a,rfl,rfl⟩⟩
  ·obtain ⟨n,B,a,d,_⟩:=C b Bi (Xqj s);exact ⟨b,B,a,hm'hi k b Bi s,.inr ⟨d,k,rfl,s⟩⟩
 refine ⟨m',dL S m rdF w, ?_, ?_, ?_⟩
 ·refine ⟨?_, ?_,fun k o v h=>pY V h, ?_, ?_⟩
  ·intro i j Bi Bj I hj e;obtain ⟨b,B,a,d,p⟩:=L i Bi I;obtain ⟨b',B',h1',h2',h3'⟩:=L j Bj hj;rw [d,h2'] at e;have:=V.inj b b' B B' a h1' e;subst this;rcases p with ⟨t,rfl,_⟩|⟨t,k,rfl,s⟩<;>rcases h3' with ⟨h4',rfl,_⟩|⟨h4',k',rfl,hk'⟩
   ·rfl
   ·omega
   ·omega
   ·rw [hobd k k' b _ _ s hk']
  ·intro i Bi I;rcases hgf i Bi I with ⟨a,d,p⟩|⟨k,b,rfl,s⟩
   ·rw [hm'lo i a];obtain ⟨⟨cur,e,us,rest,k1,k2,k3,k4,k5,k6⟩,k7,k8⟩:=V.blk i Bi d;refine ⟨⟨cur,e,us,rest,k1,k2,fun hp=>dm r _ (k3 hp), ?_,k5,k6⟩,k7,k8⟩;cases hpr:Bi.pr with
    |true=>exact bW _ (dm r _ (k3 hpr))
    |false=>
     refine nN r _ (fun b g=> ?_) k4;have A:=List.all_eq_true.1 hbase Bi (Xqj p);rw [hpr] at A;simp only [Bool.false_or] at A;have Q:=gq (List.all_eq_true.1 A b g);obtain ⟨B,W,U⟩:=J b Q;exact ⟨by rw [fD (by omega),U,W],hm'lo b Q⟩
   ·obtain ⟨n,B,a,d,p,t,A,Q,rfl,_⟩:=C b Bi (Xqj s);rw [hm'hi k b _ s];obtain ⟨⟨cur,e,us,rest,k1,k2,k3,k4,k5,k6⟩,k7,k8⟩:=V.blk b B a;have hp:=dm r _ (kK (n*B.esz) (k3 t));refine ⟨⟨cur,e,us.take (n*B.esz),us.drop (n*B.esz)++rest,k1, ?_,fun _=>hp,bW _ hp,fun hz u hu=>k5 hz u (List.mem_of_mem_take hu),k6⟩,fun _=>rfl,Xxk _⟩;rw [← List.append_assoc,List.take_append_drop];exact k2
  ·intro i Bi I o v ho;obtain ⟨b,B,a,d,p⟩:=L i Bi I;rw [d] at ho;have hno:rdF b=none:=by
    cases hr:rdF b with
    |none=>rfl
    |some B'=>
     obtain ⟨_,t,A⟩:=R b B' hr;rcases p with ⟨Q,rfl,_⟩|⟨_,k,_,s⟩
     ·omega
     ·exact absurd (Xqj s) (A _)
   have hSo:S (m b).1 o=some v:=by
    rcases fO ho with h|⟨_,b',B',t,A,_⟩
    ·exact h
    ·have:=V.inj b' b B' B (R b' B' t).1 a A;subst this;rw [hno] at t;cases t
   obtain ⟨W,U⟩:=V.own b B a o v hSo;rcases p with ⟨_,rfl,rfl⟩|⟨_,k,_,s⟩
   ·exact ⟨W,U⟩
   ·obtain ⟨n,B2,Z,_,D,_⟩:=C b _ (Xqj s);rw [a] at Z;cases Z;rw [W] at D;cases D
  ·intro k O s;obtain ⟨us,a,d⟩:=V.glob k O s;exact ⟨us,dm r _ a,d.mono r⟩
 ·refine ⟨?_,z.sle.trans r,z.os,z.tape,z.output,z.size,z.rest, ?_, ?_⟩
  ·intro b B0 g;have G:b<N:=Xqa (List.getElem?_eq_some_iff.1 g).1 hN;obtain ⟨B,a,d,p⟩:=z.ge b B0 g;obtain ⟨B',t,A⟩:=J b G;rw [a] at t;cases t;exact ⟨B,by rw [fD (by omega)];exact A,d,by rw [hm'lo b G];exact p⟩
  ·intro i Bi I;obtain ⟨b,B,a,d,p⟩:=L i Bi I;rw [d];rcases z.img b B a with h|⟨B0,t,A⟩
   ·exact .inl h
   ·have G:b<N:=Xqa (List.getElem?_eq_some_iff.1 t).1 hN;rcases p with ⟨_,rfl,_⟩|⟨Q,_⟩
    ·exact .inr ⟨B0,t,A⟩
    ·omega
  ·intro k o v hv;rcases fO hv with h|⟨_,b,B,a,d,_⟩
   ·exact z.sealN k o v h
   ·obtain ⟨p,t,_⟩:=R b B a;rcases z.img b B p with h|⟨B0,A,_⟩
    ·exact .inr (.inl (d ▸ h))
    ·have:=(List.getElem?_eq_some_iff.1 A).1;omega
 ·rw [hl0];refine Jh (rd:=aA hp) (m:=m) (S:=S) vs l cvs N X.symm hv ?_ ?_ ?_
  ·intro v x E Y;obtain ⟨b,n,B,a,_,_,_,_,_,_,d⟩:=M v x E Y;exact ⟨b,B.ver,n,a,_,_,d⟩
  ·intro v x c E Y T;cases hz v x E with
   |own _ _ _ _ _ _=>exact absurd rfl (Y _ _ _)
   |low a=>
    refine xO r v (fun b g=> ?_) T;obtain ⟨B,d,p⟩:=J b (a b g);exact ⟨by rw [p,d],hm'lo b (a b g)⟩
   | frz a d=>
    have p:=lK V (fun b B g=>by split at g;exact g;cases g) 6 v c x d T;refine iD x (dn (Md fun b B g=> ?_) x p);split at g
    ·rename_i hm2;dsimp only [rdF];rw [if_pos ⟨v,x,E,Y,jK.1 hm2,a⟩];exact g
    ·cases g
  ·rw [K];intro k b Bo s ver n' c T hzz;obtain ⟨n,B,a,d,p,t,A,Q,rfl,W⟩:=C b Bo (Xqj s);obtain ⟨O,e,hzz⟩:=hzz;have hver:ver=B.ver:=by
    obtain ⟨b2,n2,B2,e1,e2,_⟩:=M _ _ hzz ⟨O,_,e,rfl⟩;cases e1;rw [a] at e2;cases e2;rfl
   subst hver;simp only [VR] at T ⊢;obtain ⟨B',U,_,Z,D⟩:=T;rw [a] at U;cases U;refine ⟨_,hgfk k b _ s,Xxk _,Z,fun _=> ?_⟩;rw [hm'hi k b _ s];exact D rfl
end
end AM
namespace AM
open Go
section
variable {P:Program} {ap:AP}
theorem Gp (l:iY P ap) {env:ja} {hp:Hp} {m:aZ} {S:aT} {w:World} {tmps:Array Value} (C:bU ap (aA hp) m S w) (u:∀ t,VR (aA hp) m S (env.get t) (tmps.getD t undef)) {r:ResultVar} {v:AV} {bs:List Bool}
  (h:yM ap env hp r=some (v,bs)) (hbs:∀ b ∈ bs,b=true):∃ cv,(LX tmps r).run P w= .ok cv w∧VR (aA hp) m S v cv:=by
 cases r with
 |tmp t=>
  simp only [yM,Option.some.injEq,Prod.mk.injEq] at h;obtain ⟨rfl,rfl⟩:=h;exact ⟨_,rfl,u t⟩
 | cell a t=>
  simp only [yM] at h;have E:=bind_some h;clear h;obtain ⟨J,n,h⟩:=E;simp only [Xqp] at h;obtain ⟨⟨K,ups,D⟩,j,s⟩:=h;simp only [Prod.mk.injEq] at s;obtain ⟨rfl,rfl⟩:=s;obtain ⟨i,d,z,F⟩:=dX l n;have c:=u a;obtain ⟨_,cv,q,A⟩:=Bz C (fun b B G=>G) F c j hbs;refine ⟨cv, ?_,A⟩;have g:∃ x,tmps.getD a undef= .pointer (some x):=by
   unfold KZ at j;split at j
   ·rename_i I p f;rw [f] at c;simp only [VR,PR] at c;obtain ⟨b,o,vs,e,_⟩:=c;exact ⟨_,e⟩
   ·rename_i b ver p f;rw [f] at c;simp only [VR] at c;obtain ⟨B,_,_,⟨k,o,e⟩,_⟩:=c;exact ⟨_,e⟩
   ·cases j
  obtain ⟨x,y⟩:=g;rw [y] at q;simp only [LX,y];exact q
theorem qo (a:iY P ap) {env:ja} {hp:Hp} {m:aZ} {S:aT} {w:World} {tmps:Array Value} (g:bU ap (aA hp) m S w) (f:∀ t,VR (aA hp) m S (env.get t) (tmps.getD t undef)):
  ∀ {rs:List ResultVar} {vs:List (AV × List Bool)},kG (yM ap env hp) rs=some vs→(∀ b ∈ vs.flatMap (·.2),b=true)→∃ cvs:List Value,rs.length=cvs.length∧bi (aA hp) m S (vs.map (·.1)) cvs∧∀ (i:Nat) (r:ResultVar) (v:Value),rs[i]? =some r→cvs[i]? =some v→(LX tmps r).run P w= .ok v w
 | [],vs,h,_=>by
  simp [kG] at h;subst h;exact ⟨[],rfl,by simp [bi],fun i r v h=>by simp at h⟩
 | r::rs,vs,h,hbs=>by
  simp only [kG] at h;split at h
  ·rename_i q u;split at h
   ·rename_i l n;cases h;obtain ⟨v,bs⟩:=q;obtain ⟨cv,x,y⟩:=Gp a g f u (fun b e=>hbs b (by simp [e]));obtain ⟨cvs,j,k,p⟩:=qo a g f n (fun b e=>hbs b (by rw [Xjg];exact List.mem_append.2 (.inr e)));refine ⟨cv::cvs,by simp [j],by simp only [Xqh,bi];exact ⟨y,k⟩, ?_⟩;intro i s o c d;cases i with
    |zero=>simp at c d;subst c;subst d;exact x
    |succ i=>exact p i s o (by simpa using c) (by simpa using d)
   ·cases h
  ·cases h
theorem Ut {gh f:dG} {m:aZ} {S:aT} {n:Nat} {x:AV} {v:Value} (h:jE gh f m S n [x] [v]):BV gh f m S n x v∧(lM n x).2=(fM n [x]).2:=by
 rcases jB x with ⟨j,k,e,rfl⟩|hx
 ·simp only [jE] at h;exact ⟨h.1,rfl⟩
 ·rw [bT hx] at h;rcases AQ x with ⟨l,rfl⟩|ht
  ·have g:=h.1;simp only [VR] at g;obtain ⟨vs,rfl,i⟩:=g;have key:∀ (l:List AV) (vs:List Value) (n:Nat),bi gh m S l vs→jE gh f m S n l vs∧(fM n l).2= []:=by
    intro l
    induction l with
    |nil=>intro vs n a;cases vs with
     |nil=>exact ⟨by simp [jE],rfl⟩
     |cons _ _=>simp [bi] at a
    | cons y r ih=>intro vs n a;cases vs with
     |nil=>simp [bi] at a
     |cons u us=>
      simp only [bi] at a;have b:=wQ a.1;obtain ⟨c,d⟩:=ih us n a.2;rw [bT b,bC n b];exact ⟨⟨a.1,c⟩,d⟩
   obtain ⟨c,d⟩:=key l vs n i;refine ⟨?_, ?_⟩
   ·simp only [BV];exact ⟨vs,rfl,c⟩
   ·simp only [lM,fM];exact d
  ·rw [lG hx ht,jm n hx ht,bC n hx];exact ⟨h.1,rfl⟩
theorem vP (rd:dG) (n:Nat):n≤TZ rd n:=by
 obtain ⟨_,t,a⟩:=tZ rd 20 (Xq6 n) List.nodup_range;unfold TZ;rw [a,List.length_append,List.length_range];exact Nat.le_add_right _ _
theorem lW (r:iY P ap) {k o:List bg} {J:Func} {env:ja} {hp:Hp} {m m0:aZ} {S S0:aT} {w w0:World} {tmps:Array Value} {c F:Cx} {out:kJ} (h:vM ap k.length J env hp c= .ok (out,o) F) (G:F.Ok):
  c.Ok∧k.length≤o.length∧(bU ap (aA hp) m S w→Fr (bH k) m0 S0 w0 (aA hp) m S w→(∀ t,VR (aA hp) m S (env.get t) (tmps.getD t undef))→
   ∃ cv,(results J tmps).run P w= .ok cv w∧∃ s S',F8 ap k m0 S0 w0 out o s S' w (.returned cv)):=by
 unfold vM at h;dsimp only at h;split at h
 ·rename_i vs L x b;split at h
  ·cases h
  ·rename_i hbase;obtain ⟨_,M,K,h⟩:=R.bind_ok h;split at h
   ·rename_i v e;cases h;obtain ⟨j,i⟩:=IC K G;have hlen':k.length≤o.length:=by rw [(jh b).1];simpa using vP _ _
    refine ⟨j,hlen',fun n d C=> ?_⟩;obtain ⟨cvs,E,p,B⟩:=qo r n C x i;have a:(vs.flatMap fun q=>tq (aA hp) 6 (jk (d_ q.1)))=(vs.map (·.1)).flatMap (cl (aA hp)):=by rw [Xv2];rfl
    rw [a] at e;obtain ⟨s,S',y,z,A⟩:=xe n d p (vP _ _) e b hbase;have D:cvs.length=1:=by
     have:=bV p;have f:=(jh e).1;simp at f this;omega
    match cvs,D with
    | [cv],_=>
     obtain ⟨f,I⟩:=Ut A;refine ⟨cv,BO E B,s,S', ?_⟩;rw [← I] at y z;refine ⟨y,z,cv,rfl, ?_⟩;rw [I];exact f
   ·rename_i l g e;cases h;obtain ⟨j,i⟩:=IC K G;have hlen':k.length≤o.length:=by rw [(jh b).1];simpa using vP _ _
    refine ⟨j,hlen',fun n d C=> ?_⟩;obtain ⟨cvs,E,p,B⟩:=qo r n C x i;have a:(vs.flatMap fun q=>tq (aA hp) 6 (jk (d_ q.1)))=(vs.map (·.1)).flatMap (cl (aA hp)):=by rw [Xv2];rfl
    rw [a] at e;obtain ⟨s,S',y,z,A⟩:=xe n d p (vP _ _) e b hbase;have u:WH cvs= .tuple cvs.toArray:=by
     match cvs with
     | []=>rfl
     | [cv]=>
      exfalso;have:=bV p;have f:=(jh e).1;simp at f this
      match l,g with
      | [],_=>simp at f;omega
      | [v],g=>exact g v rfl
      |_::_::_,_=>simp at f;omega
     |_::_::_=>rfl
    refine ⟨_,BO E B,s,S',y,z, ?_⟩;rw [u];exact ⟨_,rfl,cvs,rfl,A⟩
   ·cases h
 ·cases h
theorem yK {a i:List bg} {v:AV} {hp:Hp} {m m0:aZ} {S S0:aT} {w w0:World} {c y:Cx} {out:kJ} (h:Jk a.length v hp c= .ok (out,i) y):
  c=y∧a.length≤i.length∧(bU ap (aA hp) m S w→Fr (bH a) m0 S0 w0 (aA hp) m S w→∀ cv,VR (aA hp) m S v cv→(∀ b ver n,v ≠ .ref b ver 0 n)→
   ∃ q S',F8 ap a m0 S0 w0 out i q S' w (.panicked [{v:=cv,recovered:=false}])):=by
 unfold Jk at h;dsimp only at h;split at h
 ·rename_i r C g f;split at h
  ·cases h
  ·rename_i hbase;cases h;have hlen':a.length≤i.length:=by rw [(jh f).1];simpa using vP _ _
   refine ⟨rfl,hlen',fun x l cv t p=> ?_⟩;have A:kG (rO (TZ (aA hp) a.length) (aA hp) ([v].flatMap (cl (aA hp)))) [v]=some [r]:=by
    simp only [Xjg,Xk7,Γ,kG];have z:rO (TZ (aA hp) a.length) (aA hp) (cl (aA hp) v) v=some r:=g;rw [z]
   obtain ⟨q,S',o,s,j⟩:=xe x l (vs:= [v]) (cvs:= [cv]) (by simp only [bi];exact ⟨t,trivial⟩) (vP _ _) A f hbase;have d:∀ xs k e,r ≠ .own xs k e:=by
    rintro xs k e rfl
    cases yD g with
    |own h1 h2 h3 o s j=>exact p _ _ _ rfl
    |low h1=>exact wQ t _ _ _ rfl
    |frz h1 h2=>
     exact Dp (lK x (fun b B u=>by split at u;exact u;cases u) 6 v cv _ h2 t) _ _ _ rfl
   rw [bT d] at j;rw [bC _ d] at o s;exact ⟨q,S',o,s,cv,rfl,j.1⟩
 ·cases h
end
end AM
namespace AM
open Go
def sN (S:aT):AV→FrameMode→Prop
 | .nilI,u=>u= .returning
 | .ifc t v,u=> ∃ cv,u= .panicking [{v:=cv,recovered:=false}]∧PR S (.ifc t v) cv
 |_,_=>False
def M_ (md md':AV) (u u':FrameMode):Prop:=(md'=md∧u'=u)∨(md'= .nilI∧settle u'= .returning)
structure Yc (P:Program) (ap:AP) (f:Nat) (args:List AV) (h:List bg) (out:kJ) (h':List bg) (md md':AV):Prop where
 ent:Dj P f
 calls:∀ m S w cargs u,bU ap (bH h) m S w→bi (bH h) m S args cargs→sN S md u→CallsD P f cargs.toArray u w fun e u' w'=>(∃ m' S',F8 ap h m S w out h' m' S' w' e)∧M_ md md' u u'
def uQ (P:Program) (ap:AP) (H:di):Prop:=∀ c md f args h out h' md' c',md ≠ .dead→H c md f args h= .ok (out,h',md') c'→c'.Ok→c.Ok∧Yc P ap f args h out h' md md'
structure JQ (P:Program) (ap:AP):Prop where
 fn:∀ (f:Nat) (F:AF),ap.fnAt f=some F→P.funcs[f]? =some F.fn
 body:∀ (f:Nat) (F:AF),ap.fnAt f=some F→∃ c,F.fn.body=some c∧dM F.fn.ntmps c=true
 name:∀ (f:Nat) (F:AF),ap.fnAt f=some F→(F.fn.name== "runtime.NumGoroutine")=false
section
variable {P:Program} {ap:AP} {H:di}
theorem zu (a:JQ P ap) {f:Nat} {F:AF} (b:ap.fnAt f=some F):Dj P f:=by
 intro args w;obtain ⟨c,d,_⟩:=a.body f F b;unfold callFunc;rw [Sem.run_bind];have:(program).run P w= .ok P w:=rfl;rw [this,Result.andThen_ok,a.fn f F b];dsimp only;rw [a.name f F b];simp [d]
theorem Me {S:aT} {md:AV} {u:FrameMode} (h:sN S md u):settle u=u∧u ≠ .run:=by
 cases md<;>simp only [sN] at h
 ·obtain ⟨cv,rfl,_⟩:=h;exact ⟨rfl,by simp⟩
 ·subst h;exact ⟨rfl,by simp⟩
theorem ut (E:iY P ap) (T:uQ P ap H):
  ∀ (dfs:List (Nat × List AV)) (mode mode':AV) (hp hp':Hp) (c c':Cx),Ep ap H dfs mode hp c= .ok (mode',hp') c'→c'.Ok→c.Ok∧
   ∀ (x:List bg) (z:Func) (tmps:Array Value) (env:ja) (RR:Ending→World→Prop) (m0:aZ) (S0:aT) (w0:World) m S w k u,bU ap (aA hp) m S w→Fr (bH x) m0 S0 w0 (aA hp) m S w→(∀ t,VR (aA hp) m S (env.get t) (tmps.getD t undef))→h_ (aA hp) m S dfs k→sN S mode u→
   (∀ m' S' w' o,bU ap (aA hp') m' S' w'→Fr (bH x) m0 S0 w0 (aA hp') m' S' w'→(∀ t,VR (aA hp') m' S' (env.get t) (tmps.getD t undef))→sN S' mode' o→Leaves P z tmps RR [] o w')→Leaves P z tmps RR k u w
 | [],mode,mode',hp,hp',c,c',h,hc=>by
  cases h;refine ⟨hc,fun x z tmps env RR m0 S0 w0 m S w k u C l G hd j I=> ?_⟩;cases k with
  |nil=>exact I m S w u C l G j
  |cons _ _=>simp [h_] at hd
 | (f, args)::r,mode,mode',hp,hp',c,c',h,hc=>by
  simp only [Ep] at h;split at h
  ·cases h
  ·rename_i hrefs;simp only [π] at hrefs;have N:mode ≠ .dead:=by rintro rfl;cases hrefs.1
   obtain ⟨q,c1,e1,h⟩:=R.bind_ok h;split at h
   ·rename_i v s;obtain ⟨F,ih⟩:=ut E T r q.md mode' (q.ups++hp) hp' c1 c' h hc;obtain ⟨args0,hh0,U,Q,e2,W,Z⟩:=xY e1;obtain ⟨J,O⟩:=T _ _ _ _ _ _ _ _ _ N e2 F;refine ⟨J,fun x z tmps env RR m0 S0 w0 m S w k u C l G hd j I=> ?_⟩;cases k with
    |nil=>simp [h_] at hd
    | cons d k=>
     simp only [h_] at hd;obtain ⟨⟨n,V,h2⟩,Y⟩:=hd;have hfresh:∀ i,i<4→aA hp (kX hp+i)=none:=by
      intro i _;cases hb:aA hp (kX hp+i) with
      |none=>rfl
      |some B=>have:=vF hb;omega
     have hcall:=Z (aA hp) m S w (d.args++n).toList (fun cargs R=>CallsD P f cargs.toArray u w fun e o w'=>R e w'∧M_ mode q.md u o)
      (fun cargs R R' p a=>CallsD.mono p fun e o w' g=> ⟨a e w' g.1,g.2⟩) C (fun b _ B hB=>hB) hfresh h2
      (fun m1 S1 D p a=>O.calls m1 S1 w _ u p a (by
       cases mode<;>simp only [sN] at j ⊢
       ·obtain ⟨cv,L,g⟩:=j;exact ⟨cv,L,dn D _ g⟩
       ·exact j))
     obtain ⟨y,K⟩:=Me j;refine ⟨K,.func f,n,f,d.args++n,V, ?_, ?_⟩
     ·rw [V];exact O.ent _ w
     ·rw [Array.toArray_toList] at hcall;refine CallsD.mono hcall ?_
      rintro e o w' ⟨⟨m',S',p,a,g⟩,h7⟩
      rw [s] at g;obtain ⟨cv,rfl,g⟩:=g;rw [kF] at p a g;refine ih x z tmps env RR m0 S0 w0 m' S' w' k (settle o) p (l.trans a) (fun t=>o_ a.sle a.ge _ (G t)) (uP a.sle a.ge Y) ?_ I;rcases h7 with ⟨M,rfl⟩|⟨M,X⟩
      ·rw [y,M];cases mode<;>simp only [sN] at j ⊢
       ·obtain ⟨cv,L,A⟩:=j;exact ⟨cv,L,dn a.sle _ A⟩
       ·exact j
      ·rw [M,X];rfl
   ·cases h
theorem eH {n f:Nat} (h:n≤f):∀ (c:Code),dM n c=true→dM f c=true
 | .region _ ops _,hd=>by
  simp only [dM,List.all_eq_true] at hd ⊢;intro o g;have:=hd o g;unfold PN at this ⊢;split
  ·rename_i d e;rw [e] at this;exact Nat.ble_eq_true_of_le (Nat.le_trans (gp this) h)
  ·rfl
 | .seq a b,hd=>by simp only [dM,π] at hd ⊢;exact ⟨eH h a hd.1,eH h b hd.2⟩
 | .cond _ a b,hd=>by simp only [dM,π] at hd ⊢;exact ⟨eH h a hd.1,eH h b hd.2⟩
 | .block _ b,hd=>by simp only [dM] at hd ⊢;exact eH h b hd
 | .loop b,hd=>by simp only [dM] at hd ⊢;exact eH h b hd
 | .scope b,hd=>by simp only [dM] at hd ⊢;exact eH h b hd
 | .skip,_=>rfl
 | .label _,_=>rfl
 | .exit _,_=>rfl
 | .ret,_=>rfl
 | .rangeFunc _ _ _ _,_=>rfl
 | .goto _,_=>rfl
 | .refuse _,_=>rfl
theorem zV {α:Type}:∀ (l:List α) (j t:Nat),aA ((l.zipIdx j).map fun (x,i)=>(i,x)) t=if j≤t then l[t - j]? else none
 | [],j,t=>by simp [aA]
 | a::r,j,t=>by
  rw [List.zipIdx_cons,Xqh];simp only [aA];cases h:Xqq j t with
  |true=>have:=aJ h;subst this;simp
  | false=>
   have b:j ≠ t:=by intro e;subst e;simp at h
   simp only [zV r (j+1) t];by_cases hj:j+1≤t
   ·rw [if_pos hj,if_pos (by omega)];obtain ⟨d,hd⟩:∃ d,t - j=d+1:=⟨t - j - 1,by omega⟩
    rw [hd,List.getElem?_cons_succ,show t - (j+1)=d by omega]
   ·rw [if_neg hj,if_neg (by omega)]
theorem IX {h:List bg} {args:List AV} {cargs:List Value} {m:aZ} {S:aT} {w:World} {md:AV} (j:bU ap (bH h) m S w) (g:bi (bH h) m S args cargs) (n:Nat):
  aA (oh md args h).hp=bH h∧FR ap (oh md args h).env (oh md args h).hp [] (cargs.toArray++Array.replicate (n - cargs.toArray.size) undef).size m S w {tmps:=cargs.toArray++Array.replicate (n - cargs.toArray.size) undef,defers:= []}:=by
 have a:aA (oh md args h).hp=bH h:=by
  funext b;have:=zV h 0 b;simp only [oh,bH];rw [this,if_pos (Xxk _),Xjk]
 refine ⟨a,⟨a ▸ j, ?_,by simp [h_],rfl⟩⟩;intro t;rw [a];have e:(oh md args h).env.get t=(args[t]?).getD .dead:=by
  have:=zV args 0 t;simp only [oh,ja.get];rw [this,if_pos (Xxk _),Xjk]
 rw [e];cases f:args[t]? with
 |none=>simp [VR]
 | some x=>
  obtain ⟨v,d,i⟩:=rE g t f;have c:=(List.getElem?_eq_some_iff.1 d).1;have:(cargs.toArray++Array.replicate (n - cargs.toArray.size) undef).getD t undef=v:=by
   rw [Array.getD_eq_getD_getElem?,Array.getElem?_append_left (by simpa using c)];simp [d]
  rw [this];exact i
theorem yx (p:iY P ap) (O:uQ P ap H) {i z:List bg} {A:Func} {e:bG} {s:St} {c I:Cx} {out:kJ} {D:AV} (h:CQ ap H i.length A e s c= .ok (out,z,D) I) (J:I.Ok):
  c.Ok∧i.length≤z.length∧∀ m0 S0 w0 m S w a nt,Fr (bH i) m0 S0 w0 (aA s.hp) m S w→FR ap s.env s.hp s.dfs nt m S w a→Uo s.hp m S (bodyPostD P A fun e w'=> ∃ x S',F8 ap i m0 S0 w0 out z x S' w' e) a w e:=by
 have q:∀ mode,((Ep ap H s.dfs mode s.hp c).bind fun (mode,hp) c=>
   match mode with
   | .nilI=>(vM ap i.length A s.env hp c).bind fun (o,h) c=> .ok (o,h,s.md) c
   | .ifc t v=>(Jk i.length (.ifc t v) hp c).bind fun (o,h) c=> .ok (o,h,s.md) c
   |_=> .bad 74)= .ok (out,z,D) I→c.Ok∧i.length≤z.length∧∀ m0 S0 w0 m S w a nt u,Fr (bH i) m0 S0 w0 (aA s.hp) m S w→FR ap s.env s.hp s.dfs nt m S w a→sN S mode u→Leaves P A a.tmps (fun e w'=> ∃ x S',F8 ap i m0 S0 w0 out z x S' w' e) a.defers u w:=by
  intro mode g;obtain ⟨⟨mode',hp'⟩,X,Q,g⟩:=R.bind_ok g;dsimp only at g;split at g
  ·obtain ⟨⟨o,y⟩,W,C,g⟩:=R.bind_ok g;cases g;obtain ⟨L,j,E⟩:=lW (P:=P) (m:=fun _=>(0,0)) (m0:=fun _=>(0,0)) (S:=fun _ _=>none) (S0:=fun _ _=>none) (w:=default) (w0:=default) (tmps:=#[]) p C J;obtain ⟨r,G⟩:=ut p O s.dfs mode _ s.hp hp' c X Q L;refine ⟨r,j,fun m0 S0 w0 m S w a nt u d f K=> ?_⟩;refine G i A a.tmps s.env _ m0 S0 w0 m S w a.defers u f.srel d f.env f.dfs K ?_;intro x S' w' T l k N B;simp only [sN] at B;subst B;obtain ⟨_,_,E⟩:=lW (P:=P) (m:=x) (m0:=m0) (S:=S') (S0:=S0) (w:=w') (w0:=w0) (tmps:=a.tmps) p C J;obtain ⟨cv,F,U⟩:=E l k N;exact ⟨cv,F,U⟩
  ·rename_i t v;obtain ⟨⟨o,y⟩,W,C,g⟩:=R.bind_ok g;cases g;obtain ⟨rfl,j,_⟩:=yK (ap:=ap) (m:=fun _=>(0,0)) (m0:=fun _=>(0,0)) (S:=fun _ _=>none) (S0:=fun _ _=>none) (w:=default) (w0:=default) C;obtain ⟨r,G⟩:=ut p O s.dfs mode _ s.hp hp' c _ Q J;refine ⟨r,j,fun m0 S0 w0 m S w a nt u d f K=> ?_⟩;refine G i A a.tmps s.env _ m0 S0 w0 m S w a.defers u f.srel d f.env f.dfs K ?_;intro x S' w' T l k N B;simp only [sN] at B;obtain ⟨cv,rfl,F⟩:=B;obtain ⟨_,_,M⟩:=yK (ap:=ap) (m:=x) (m0:=m0) (S:=S') (S0:=S0) (w:=w') (w0:=w0) C;exact M l k cv (iD _ F) (fun b ver n h=>by cases h)
  ·cases g
 unfold CQ at h;dsimp only at h;split at h
 ·obtain ⟨y,l,k⟩:=q .nilI h;exact ⟨y,l,fun m0 S0 w0 m S w a nt d f=>k m0 S0 w0 m S w a nt .returning d f rfl⟩
 ·obtain ⟨y,l,k⟩:=q .nilI h;exact ⟨y,l,fun m0 S0 w0 m S w a nt d f=>k m0 S0 w0 m S w a nt .returning d f rfl⟩
 ·rename_i t v;split at h
  ·rename_i Y;obtain ⟨y,l,k⟩:=q (.ifc t v) h;refine ⟨y,l,fun m0 S0 w0 m S w a nt d f cv V=>k m0 S0 w0 m S w a nt _ d f ⟨cv,rfl, ?_⟩⟩;exact nD (by simpa [d_] using Y) V
  ·cases h
 ·cases h
theorem J6 (j:iY P ap) (g:P.follows .mixedOrders=true) (i:JQ P ap) (y:mW P ap H) (J:uQ P ap H) (lf:Nat):mW P ap fun c md f args h=>tN ap H lf md f args h c:=by
 intro c f args h out G p A b B;have b:tN ap H lf .dead f args h c= .ok (out,G,p) A:=b;unfold tN at b;split at b
 ·cases b
 ·rename_i F t;dsimp only at b;obtain ⟨⟨e,s⟩,M,v,b⟩:=R.bind_ok b;dsimp only at b;obtain ⟨a,x,d⟩:=i.body f F t;have hbody:ah F.fn=a:=by simp [ah,x]
  rw [hbody] at v;obtain ⟨k,l,n⟩:=yx j J b B;obtain ⟨q,_⟩:=eY (nt:=F.fn.ntmps) j g y a d _ _ _ _ _ v k;refine ⟨q,l,zu i t,fun m S w cargs z D=> ?_⟩;obtain ⟨C,u⟩:=IX (md:= .dead) z D F.fn.ntmps;have o:F.fn.ntmps≤(cargs.toArray++Array.replicate (F.fn.ntmps - cargs.toArray.size) undef).size:=by simp;omega
  obtain ⟨_,r⟩:=eY j g y a (eH o a d) _ _ _ _ _ v k;obtain ⟨_,r⟩:=r rfl;refine calls_of_wp_defers (i.fn f F t) x ?_;refine r m S w m S w _ (by rw [C];exact Fr.refl _ _ _ _) u _ ?_;intro K S' w' E L I;exact n m S w K S' w' E _ L I
end
end AM
namespace AM
open Go
section
variable {P:Program} {ap:AP} {H:di}
theorem Uf {o:Oper} {a:Act} {K K':Act→World→Prop} {Q Q':Exit→Act→World→Prop} {r:Result Next} (c:∀ a w,K a w→K' a w) (d:∀ e a w,Q e a w→Q' e a w) (g:¬ LetsOut Q) (h:o.upon P a K Q r):o.upon P a K' Q' r:=by
 cases r with
 | ok n w'=>
  cases n<;>simp only [Oper.upon] at h ⊢ <;>
   first
    |exact c _ _ h
    |exact Calls.mono h (fun e f b=>by cases e<;>first|exact c _ _ b|exact d _ _ _ b|exact absurd b g)
    |exact Rows.mono h (fun _ _ b=>c _ _ b)
 |halt x w'=>cases x<;>simp only [Oper.upon] at h ⊢ <;>exact d _ _ _ h
theorem jU {ops:Array Oper} {Q:Exit→Act→List Frame→World→Prop} {cs:List Frame} {Q':Exit→Act→World→Prop} (b:∀ e a w,Q' e a w→Q e a cs w) (c:¬ LetsOut Q'):∀ (l:List Nat) (a:Act) (w:World),wpOps P ops Q' l a w→wpOpsS P ops Q l a cs w
 | [],a,w,h=>b _ _ _ h
 | i ::rest,a,w,h=>by
  simp only [wpOps] at h;simp only [wpOpsS];cases f:ops[i]? with
  |none=>
   simp only [f] at h ⊢;exact jU b c rest a w h
  | some o=>
   simp only [f] at h ⊢;by_cases hw:Region.wanted o (yielded ops a.tmps)=true
   ·rw [if_pos hw] at h ⊢;rcases h with h|⟨_,h⟩
    ·unfold Oper.wp at h;split
     ·rename_i w' g;rw [g] at h;exact h.elim
     ·exact Uf (fun a w d=>jU b c rest a w d) (fun e a w d=>b e a w d) c h
    ·exact absurd h c
   ·rw [if_neg hw] at h ⊢;exact jU b c rest _ w h
theorem aiF {Q:Exit→Act→World→Prop}:¬ LetsOut (fun e a w=>e ≠ .outgrown∧Q e a w):=fun ⟨_,_,h,_⟩=>h rfl
theorem L8 {a:Act} {o:Oper} {args:Array Operand} {argTypes:Array TypeId} (h:o.op= .call {callee:= .builtin .recover,args,argTypes}) (w:World):(execOp a.eval o).run P w= .ok .recover w:=by
 unfold execOp;rw [h];rfl
theorem FR.env_cons {env:ja} {hp:Hp} {dfs:List (Nat × List AV)} {nt:Nat} {m:aZ} {S:aT} {w:World} {a:Act} (h:FR ap env hp dfs nt m S w a) {d:Nat} (hd:d<nt) {v:AV} {cv:Value} (b:VR (aA hp) m S v cv):FR ap ((d,v)::env) hp dfs nt m S w (a.put (some d) cv):=by
 refine ⟨h.srel,fun t=> ?_,by rw [EZ];exact h.dfs,by rw [LC];exact h.size⟩;by_cases ht:d=t
 ·subst ht;rw [E5 _ _ _ (by rw [h.size];exact hd)];have:ja.get ((d,v)::env) d=v:=mD (env:=env);rw [this];exact b
 ·rw [E8 _ _ _ (fun e=>ht (by cases e;rfl))];have:ja.get ((d,v)::env) t=env.get t:=yB (env:=env) (dst:=some d) (fun e=>ht (by cases e;rfl));rw [this];exact h.env t
theorem Iq (l:iY P ap) (D:P.follows .mixedOrders=true) (I:JQ P ap) (hH:mW P ap H) (lf:Nat):uQ P ap fun c md f args h=>tN ap H lf md f args h c:=by
 intro c md f args h out h' U c' hmd g hc;have g:tN ap H lf md f args h c= .ok (out,h',U) c':=g;unfold tN at g;split at g
 ·cases g
 ·rename_i F hF;split at g
  ·exact absurd rfl hmd
  ·split at g
   ·rename_i hrefs;simp only [π] at hrefs;obtain ⟨X,K,j⟩:=I.body f F hF;have hbody:ah F.fn=X:=by simp [ah,K]
    unfold UH at g;rw [hbody] at g;split at g
    ·rename_i id ops rest;split at g
     ·rename_i o r k;split at g
      ·rename_i args' argTypes d hop hg hd;dsimp only at g;obtain ⟨⟨s1,p⟩,c1,e1,g⟩:=R.bind_ok g;dsimp only at g;split at g
       ·cases g
       ·obtain ⟨⟨e,C⟩,c2,e2,g⟩:=R.bind_ok g;dsimp only at g;split at g
        ·cases g
        ·rename_i O;have q:∃ N,(e= .normal∨e= .ret)∧vM ap h.length F.fn C.env C.hp c2= .ok (out,h') N∧U= .nilI∧N=c':=by
          split at g
          ·obtain ⟨⟨o1,h1⟩,N,J,g⟩:=R.bind_ok g;cases g;exact ⟨_,.inl rfl,J,rfl,rfl⟩
          ·obtain ⟨⟨o1,h1⟩,N,J,g⟩:=R.bind_ok g;cases g;exact ⟨_,.inr rfl,J,rfl,rfl⟩
          ·cases g
         obtain ⟨N,q,J,rfl,rfl⟩:=q;obtain ⟨Z,hlen,_⟩:=lW (P:=P) (m:=fun _=>(0,0)) (m0:=fun _=>(0,0)) (S:=fun _ _=>none) (S0:=fun _ _=>none) (w:=default) (w0:=default) (tmps:=#[]) l J hc;simp only [dM,π] at j;obtain ⟨M,_⟩:=eY (nt:=F.fn.ntmps) l D hH rest j.2 _ _ _ _ _ e2 Z;have z:∀ nt,F.fn.ntmps≤nt→∀ o' ∈ o::r,∀ d,o'.dst=some d→d<nt:=by
          intro nt A o' ho' d' hd';have:=List.all_eq_true.1 j.1 o' (by rw [k];exact ho');simp only [PN,hd'] at this;exact Xqa (gq this) A
         obtain ⟨hc0,_⟩:=nS (nt:=F.fn.ntmps) l hH (ops:=o::r) (z _ (Nat.le_refl _)) r 1 _ _ _ _ _ _ e1 M;refine ⟨hc0,zu I hF,fun m S w cargs u hS hv hm=> ?_⟩;obtain ⟨hh,hFR⟩:=IX (md:= .dead) hS hv F.fn.ntmps;have A:F.fn.ntmps≤(cargs.toArray++Array.replicate (F.fn.ntmps - cargs.toArray.size) undef).size:=by simp;omega
         obtain ⟨_,hx⟩:=eY l D hH rest (eH A rest j.2) _ _ _ _ _ e2 Z;obtain ⟨_,hs⟩:=nS l hH (ops:=o::r) (z _ A) r 1 _ _ _ _ _ _ e1 M;obtain ⟨W,hs⟩:=hs rfl (fun t b K=>by cases K) rfl (fun b B K=>vF K);obtain ⟨_,hx⟩:=hx W;have V:=z _ A o (by simp) d hd;refine callsD_of_wpS (I.fn f F hF) K fun c₀ cs hc₀=> ?_
         have i:∃ cv n,sN S md u∧VR (aA (oh .dead args h).hp) m S md cv∧settle n= .returning∧((recoverD (c₀::cs)=some (cv,{c₀ with mode:=n}::cs))∨(recoverD (c₀::cs)=none∧cv= .nilIface∧{c₀ with mode:=n}=c₀)):=by
          cases md<;>simp only [sN] at hm
          ·obtain ⟨cv,rfl,hp⟩:=hm;exact ⟨cv,.panicking [{v:=cv,recovered:=true}],⟨cv,rfl,hp⟩,iD _ hp,rfl,.inl (by simp [recoverD,hc₀])⟩
          ·subst hm;exact ⟨.nilIface,.returning,rfl,by simp only [VR,PR],rfl,.inr ⟨by simp [recoverD,hc₀],rfl,by rw [← hc₀]⟩⟩
         obtain ⟨cv,n,_,hvcv,E,i⟩:=i;have hcont:∀ (Q:Exit→Act→List Frame→World→Prop),(∀ e a w',(∃ m' S',Fr (bH h) m S w (aA C.hp) m' S' w'∧FR ap C.env C.hp C.dfs (cargs.toArray++Array.replicate (F.fn.ntmps - cargs.toArray.size) undef).size m' S' w' a)→(e= .normal∨e= .ret)→Q e a ({c₀ with mode:=n}::cs) w')→
           wpOpsS P ops (Exit.thenS (rest.wpS P Q) Q) (Yqk 1 r.length) (({tmps:=cargs.toArray++Array.replicate (F.fn.ntmps - cargs.toArray.size) undef,defers:= []}:Act).put (some d) cv) ({c₀ with mode:=n}::cs) w:=by
          intro Q hQ;have hopsA:ops=(o::r).toArray:=by rw [← k]
          rw [hopsA];refine jU (Q':=fun e a w'=>e ≠ .outgrown∧e= .normal∧rest.wpS P Q a ({c₀ with mode:=n}::cs) w') ?_ aiF _ _ _ ?_
          ·rintro e a w' ⟨_,rfl,hh⟩
           exact hh
          ·refine hs m S w _ (hFR.env_cons V hvcv) _ ?_;intro m1 S1 w1 a1 h3 T;refine ⟨by simp,rfl,wpS_of_wp ?_⟩;rw [hh] at h3;obtain ⟨m2,h5,h6⟩:=rX (keep:=F.keep) (s:=⟨s1.env,s1.hp,s1.md,s1.dfs⟩) h3 T;refine hx m S w m2 S1 w1 a1 h5 h6 _ ?_;intro m3 S3 w3 a3 h7 h8;rcases q with rfl|rfl
           ·exact hQ .normal a3 w3 ⟨m3,S3,h7,h8⟩ (.inl rfl)
           ·exact hQ .ret a3 w3 ⟨m3,S3,h7,h8⟩ (.inr rfl)
         have G:∀ e a w',(∃ m' S',Fr (bH h) m S w (aA C.hp) m' S' w'∧FR ap C.env C.hp C.dfs (cargs.toArray++Array.replicate (F.fn.ntmps - cargs.toArray.size) undef).size m' S' w' a)→(e= .normal∨e= .ret)→
           bodyPostS P F.fn c₀ cs (fun e n w'=>(∃ m' S',F8 ap h m S w out h' m' S' w' e)∧M_ md .nilI u n) e a ({c₀ with mode:=n}::cs) w':=by
          rintro e a w' ⟨m',S',h3,T⟩ hee
          obtain ⟨_,_,hro⟩:=lW (P:=P) (m:=m') (m0:=m) (S:=S') (S0:=S) (w:=w') (w0:=w) (tmps:=a.tmps) l J hc;obtain ⟨L,h5,h6⟩:=hro T.srel h3 T.env;have Y:a.defers= []:=by
           have:=T.dfs;rw [O] at this;cases hd:a.defers with
           |nil=>rfl
           |cons x y=>rw [hd] at this;simp [h_] at this
          rcases hee with rfl|rfl
          ·exact ⟨Y,n,rfl,L,h5,h6,.inr ⟨rfl,E⟩⟩
          ·exact ⟨Y,n,rfl,L,h5,h6,.inr ⟨rfl,E⟩⟩
         refine wpS_seq (wpS_region ?_);have hrange:Xq6 ops.size=0::Yqk 1 r.length:=by
          have:ops.size=r.length+1:=by rw [← Array.length_toList,k];simp
          rw [this,List.range_eq_range',List.range'_succ]
         rw [hrange];have ho0:ops[0]? =some o:=by
          have:ops.toList[0]? =some o:=by rw [k];rfl
          simpa using this
         simp only [wpOpsS,ho0,Region.wanted,hg,if_true,L8 hop];rw [hd];rcases i with i|⟨i,rfl,hsame⟩
         ·rw [i];exact hcont _ G
         ·rw [i];have:=hcont _ G;rw [hsame] at this;exact this
      ·cases g
     ·cases g
    ·cases g
   ·cases g
end
end AM
namespace AM
open Go
def Eb:Option AF→Bool
 |some F=>(match F.fn.body with|some c=>dM F.fn.ntmps c|none=>false) && !(F.fn.name== "runtime.NumGoroutine")
 |none=>true
theorem Ym {P:Program} {ap:AP} (h:(Xq6 ap.nty).map ap.ty.get=(Xq6 ap.nty).map (XP P)):iY P ap:=by
 constructor;intro t e a;unfold AP.tyAt at a;split at a
 ·rename_i b;have d:=gq b;have c:((Xq6 ap.nty).map ap.ty.get)[t]? =some (some e):=by rw [Xq3,Xj8 d];simp [a]
  rw [h,Xq3,Xj8 d] at c;simpa using c
 ·cases a
theorem Zm {P:Program} {ap:AP} {keep:Nat→Bool} (h:(Xq6 ap.nfn).map (fun i=>(ap.fn.get i).map AF.fn)=(Xq6 ap.nfn).map fun i=>match keep i with|true=>P.funcs[i]? |false=>none) (l:(Xq6 ap.nfn).all (fun i=>Eb (ap.fn.get i))=true):JQ P ap:=by
 have d:∀ (f:Nat) (F:AF),ap.fnAt f=some F→f<ap.nfn∧ap.fn.get f=some F:=by
  intro f F a;unfold AP.fnAt at a;split at a
  ·rename_i j;exact ⟨gq j,a⟩
  ·cases a
 have hgood:∀ (f:Nat) (F:AF),ap.fnAt f=some F→Eb (some F)=true:=by
  intro f F a;obtain ⟨e,g⟩:=d f F a;have:=List.all_eq_true.1 l f (by simpa using e);rwa [g] at this
 constructor
 ·intro f F a;obtain ⟨e,g⟩:=d f F a;have b:((Xq6 ap.nfn).map fun i=>(ap.fn.get i).map AF.fn)[f]? =some (some F.fn):=by rw [Xq3,Xj8 e];simp [g]
  rw [h,Xq3,Xj8 e] at b;simp only [Xje,Option.some.injEq] at b;split at b
  ·exact b
  ·cases b
 ·intro f F a;have:=hgood f F a;simp only [Eb,π] at this;cases k:F.fn.body with
  |none=>rw [k] at this;cases this.1
  |some c=>rw [k] at this;exact ⟨c,rfl,this.1⟩
 ·intro f F a;have:=hgood f F a;simp only [Eb,π,Xqo] at this;exact this.2
end AM
namespace AM
open Go
def aG (P:Program) (ap:AP) (h0:List bg) (n:Nat) (code:Code) (s:St) (e:bG) (s':St):Prop:=∀ nt,n≤nt→ak P ap h0 nt code s e s'
abbrev xK:=List (bG × St)
def mi (P:Program) (ap:AP) (H:di) (h0:List bg) (keep:List Nat) (lf nt:Nat) (ls:List Nat):Code→St→xK→Cx→R ((bG × St) × xK)
 | .seq a b,s,l,c=>(mi P ap H h0 keep lf nt ls a s l c).bind fun r c=>match r.1.1 with
  | .normal=>mi P ap H h0 keep lf nt ls b r.1.2 r.2 c
  |e=> .ok ((e,r.1.2),r.2) c
 | .cond t a b,s,l,c=>match qM ap s.env t with
  | .bool x=>(zx c x).bind fun x c=>match x with
   |true=>mi P ap H h0 keep lf nt ls a s l c
   |false=>mi P ap H h0 keep lf nt ls b s l c
  |_=> .bad 60
 | .block id b,s,l,c=>match rQ ls id with
  |true=>match l with
   |(e,s')::r=> .ok ((e,s'),r) {c with ps:=aG P ap h0 nt (.block id b) s e s'::c.ps}
   | []=> .bad 62
  |false=>(mi P ap H h0 keep lf nt ls b s l c).bind fun r c=>match r.1.1 with
   | .exit id'=>match Xqq id' id with|true=> .ok ((.normal,r.1.2),r.2) c|false=> .ok ((.exit id',r.1.2),r.2) c
   |e=> .ok ((e,r.1.2),r.2) c
 | .scope b,s,l,c=>mi P ap H h0 keep lf nt ls b s l c
 | .region id ops draw,s,l,c=>match rQ ls (id+1000) with
  |true=>match l with
   |(e,s')::r=> .ok ((e,s'),r) {c with ps:=aG P ap h0 nt (.region id ops draw) s e s'::c.ps}
   | []=> .bad 63
  |false=>(lF ap H h0.length keep lf (.region id ops draw) s c).bind fun r c=> .ok (r,l) c
 |code,s,l,c=>(lF ap H h0.length keep lf code s c).bind fun r c=> .ok (r,l) c
section
variable {P:Program} {ap:AP} {H:di}
theorem ak.seq {d:List bg} {nt:Nat} {x y:Code} {s g f:St} {e:bG} (l:ak P ap d nt x s .normal g) (k:ak P ap d nt y g e f):ak P ap d nt (.seq x y) s e f:=by
 intro c;obtain ⟨i,j⟩:=l c;obtain ⟨q,h⟩:=k i;refine ⟨q,fun m0 S0 w0 m S w a b n Q t=>wp_seq (j m0 S0 w0 m S w a b n _ ?_)⟩;intro o S' w' u r p;exact h m0 S0 w0 o S' w' u r p Q t
theorem ak.seq_out {g:List bg} {nt:Nat} {x y:Code} {s f:St} {e:bG} (c:e ≠ .normal) (k:ak P ap g nt x s e f):ak P ap g nt (.seq x y) s e f:=by
 intro d;obtain ⟨i,j⟩:=k d;refine ⟨i,fun m0 S0 w0 m S w a b l Q p=>wp_seq (j m0 S0 w0 m S w a b l _ ?_)⟩;intro n S' w' q o h;have:=p n S' w' q o h;cases e with
 |normal=>exact absurd rfl c
 |exit id=>exact this
 |ret=>exact this
 |panic v=>exact this
theorem ak.cond {g:List bg} {nt:Nat} {t:Operand} {x y:Code} {s s':St} {e:bG} {d:Bool} (l:qM ap s.env t= .bool d) (h:ak P ap g nt (if d then x else y) s e s'):ak P ap g nt (.cond t x y) s e s':=by
 intro f;obtain ⟨j,i⟩:=h f;refine ⟨j,fun m0 S0 w0 m S w a b c Q k=>wp_cond (t:=d) ?_ (i m0 S0 w0 m S w a b c Q k)⟩;have:=w_ c.srel (a:=a) (env:=s.env) t (fun t _=>c.env t);rw [l] at this;simpa only [VR,PR] using this
def pI (id:Nat):bG→bG
 | .exit id'=>match Xqq id' id with|true=> .normal|false=> .exit id'
 |e=>e
theorem ak.block {k:List bg} {nt:Nat} {id:Nat} {b:Code} {s s':St} {e:bG} (h:ak P ap k nt b s e s'):ak P ap k nt (.block id b) s (pI id e) s':=by
 intro i;obtain ⟨n,o⟩:=h i;refine ⟨n,fun m0 S0 w0 m S w a f p Q t=>wp_block (o m0 S0 w0 m S w a f p _ ?_)⟩;intro q S' w' j r l;have c:=t q S' w' j r l;cases e with
 |normal=>exact c
 |ret=>exact c
 |panic v=>exact c
 | exit id'=>
  simp only [pI] at c;split at c
  ·rename_i d;show Exit.inBlock id Q (.exit id') j w';simp only [Exit.inBlock,if_pos (aJ d)];exact c
  ·rename_i d;show Exit.inBlock id Q (.exit id') j w';have g:id' ≠ id:=by intro e;subst e;simp at d
   simp only [Exit.inBlock,if_neg g];exact c
theorem ak.scope {g:List bg} {nt:Nat} {b:Code} {s s':St} {e:bG} (h:ak P ap g nt b s e s'):ak P ap g nt (.scope b) s e s':=by
 intro f;obtain ⟨j,k⟩:=h f;refine ⟨j,fun m0 S0 w0 m S w a d l Q p=>wp_scope_straight (k m0 S0 w0 m S w a d l _ ?_)⟩;intro n S' w' q o i;have c:=p n S' w' q o i;cases e with
 |normal=>exact c
 |exit id=>exact c
 |ret=>exact c
 |panic v=>exact c
theorem uj (D:iY P ap) (q:P.follows .mixedOrders=true) (K:mW P ap H) {m:List bg} {keep:List Nat} {lf n nt:Nat} (I:n≤nt) {ls:List Nat}:∀ (d:Code),dM nt d=true→∀ (s:St) (l:xK) (r:(bG × St) × xK) (c f:Cx),mi P ap H m keep lf n ls d s l c= .ok r f→f.Ok→c.Ok∧ak P ap m nt d s r.1.1 r.1.2:=by
 have hbase:∀ (d:Code),dM nt d=true→∀ (s:St) (l:xK) (r:(bG × St) × xK) (c f:Cx),((lF ap H m.length keep lf d s c).bind fun r c=> .ok (r,l) c)= .ok r f→f.Ok→c.Ok∧ak P ap m nt d s r.1.1 r.1.2:=by
  intro d hd s l r c f h a;obtain ⟨⟨e,s'⟩,A,k,h⟩:=R.bind_ok h;cases h;exact eY D q K d hd s e s' c _ k a
 intro d
 induction d with
 | seq x y ihx ihy=>
  intro hd s l r c f h a;simp only [dM,π] at hd;simp only [mi] at h;obtain ⟨⟨⟨o,G⟩,E⟩,A,k,h⟩:=R.bind_ok h;dsimp only at h;have hother:o ≠ .normal→R.ok ((o,G),E) A=R.ok r f→c.Ok∧ak P ap m nt (.seq x y) s r.1.1 r.1.2:=by
   intro C J;cases J;obtain ⟨g,j⟩:=ihx hd.1 _ _ _ _ _ k a;exact ⟨g,j.seq_out C⟩
  cases o with
  |normal=>
   dsimp only at h;obtain ⟨i,N⟩:=ihy hd.2 _ _ _ _ _ h a;obtain ⟨g,j⟩:=ihx hd.1 _ _ _ _ _ k i;exact ⟨g,j.seq N⟩
  |exit id=>exact hother (by simp) h
  |ret=>exact hother (by simp) h
  |panic v=>exact hother (by simp) h
 | cond t x y ihx ihy=>
  intro hd s l r c f h a;simp only [dM,π] at hd;simp only [mi] at h;split at h
  ·rename_i O u;obtain ⟨M,A,k,h⟩:=R.bind_ok h;cases M with
   |true=>
    obtain ⟨i,j⟩:=ihx hd.1 _ _ _ _ _ h a;obtain ⟨g,z⟩:=lI k i;exact ⟨g,ak.cond u (by rw [← z];exact j)⟩
   |false=>
    obtain ⟨i,j⟩:=ihy hd.2 _ _ _ _ _ h a;obtain ⟨g,z⟩:=lI k i;exact ⟨g,ak.cond u (by rw [← z];exact j)⟩
  ·cases h
 | block id b ih=>
  intro hd s l r c f h a;simp only [dM] at hd;simp only [mi] at h;split at h
  ·split at h
   ·rename_i B F L;cases h;have hp:aG P ap m n (.block id b) s B F:=a.ps _ (Xjp ..);exact ⟨⟨a.bs,fun p hp=>a.ps p (Xx3 _ hp)⟩,hp nt I⟩
   ·cases h
  ·obtain ⟨⟨⟨o,G⟩,E⟩,A,k,h⟩:=R.bind_ok h;dsimp only at h;have w:r=((pI id o,G),E)∧A=f:=by
    cases o<;>dsimp only at h
    ·cases h;exact ⟨rfl,rfl⟩
    ·unfold pI;split at h<;>cases h<;>rename_i z<;>dsimp only<;>rw [z]<;>exact ⟨rfl,rfl⟩
    ·cases h;exact ⟨rfl,rfl⟩
    ·cases h;exact ⟨rfl,rfl⟩
   obtain ⟨rfl,rfl⟩:=w;obtain ⟨g,j⟩:=ih hd _ _ _ _ _ k a;exact ⟨g,j.block⟩
 |scope b ih=>
  intro hd s l r c f h a;simp only [dM] at hd;simp only [mi] at h;obtain ⟨g,j⟩:=ih hd _ _ _ _ _ h a;exact ⟨g,j.scope⟩
 |skip=>exact fun hd s l r c f h a=>hbase _ hd s l r c f h a
 | region id ops draw=>
  intro hd s l r c f h a;simp only [mi] at h;split at h
  ·split at h
   ·rename_i B F L;cases h;have hp:aG P ap m n (.region id ops draw) s B F:=a.ps _ (Xjp ..);exact ⟨⟨a.bs,fun p hp=>a.ps p (Xx3 _ hp)⟩,hp nt I⟩
   ·cases h
  ·exact hbase _ hd s l r c f h a
 |loop _ _=>exact fun hd s l r c f h a=>hbase _ hd s l r c f h a
 |rangeFunc _ _ _ _=>exact fun hd s l r c f h a=>hbase _ hd s l r c f h a
 |exit _=>exact fun hd s l r c f h a=>hbase _ hd s l r c f h a
 |label _=>exact fun hd s l r c f h a=>hbase _ hd s l r c f h a
 |goto _=>exact fun hd s l r c f h a=>hbase _ hd s l r c f h a
 |ret=>exact fun hd s l r c f h a=>hbase _ hd s l r c f h a
 |refuse _=>exact fun hd s l r c f h a=>hbase _ hd s l r c f h a
def Py (P:Program) (ap:AP) (H:di) (lf:Nat) (ls:List Nat) (f:Nat) (args:List AV) (h:List bg) (l:xK) (c:Cx):R (kJ × List bg × AV):=
 match ap.fnAt f with
 |none=> .bad 80
 |some F=>(mi P ap H h F.keep lf F.fn.ntmps ls (ah F.fn) (oh .dead args h) l c).bind fun r c=>CQ ap H h.length F.fn r.1.1 r.1.2 c
theorem UI (k:iY P ap) (i:P.follows .mixedOrders=true) (b:JQ P ap) (I:mW P ap H) (G:uQ P ap H) {lf:Nat} {ls:List Nat} {f:Nat} {args:List AV} {h x:List bg} {l:xK} {c v:Cx} {out:kJ} {p:AV}
  (d:Py P ap H lf ls f args h l c= .ok (out,x,p) v) (hc:v.Ok):bD P ap f args h out x:=by
 unfold Py at d;split at d
 ·cases d
 ·rename_i F t;obtain ⟨⟨⟨e,s⟩,L⟩,M,z,d⟩:=R.bind_ok d;dsimp only at d;obtain ⟨a,y,g⟩:=b.body f F t;have hbody:ah F.fn=a:=by simp [ah,y]
  rw [hbody] at z;obtain ⟨q,n,o⟩:=yx k G d hc;refine ⟨n,zu b t,fun m S w cargs A C=> ?_⟩;obtain ⟨B,u⟩:=IX (md:= .dead) A C F.fn.ntmps;have j:F.fn.ntmps≤(cargs.toArray++Array.replicate (F.fn.ntmps - cargs.toArray.size) undef).size:=by simp;omega
  obtain ⟨_,r⟩:=uj k i I j a (eH j a g) _ _ _ _ _ z q;obtain ⟨_,r⟩:=r rfl;refine calls_of_wp_defers (b.fn f F t) y ?_;refine r m S w m S w _ (by rw [B];exact Fr.refl _ _ _ _) u _ ?_;intro J S' w' D K E;exact o m S w J S' w' D _ K E
end
end AM
namespace AM
open Go
def yP (P:Program) (ap:AP) (lf:Nat):Nat→di
 |0=>fun _ _ _ _ _=> .bad 90
 | n+1=>fun c md f args h=>
  match md with
  | .dead=>match c.ans with
   |(out,h')::r=> .ok (out,h',.dead) {c with ans:=r,ps:=bD P ap f args h out h'::c.ps}
   |_=> .bad 91
  |md=>tN ap (yP P ap lf n) lf md f args h c
theorem oK {P:Program} {ap:AP} (j:iY P ap) (b:P.follows .mixedOrders=true) (g:JQ P ap) (lf:Nat):∀ n,mW P ap (yP P ap lf n)∧uQ P ap (yP P ap lf n)
 |0=> ⟨fun _ _ _ _ _ _ _ _ h=>(by cases h),fun _ _ _ _ _ _ _ _ _ _ h=>(by cases h)⟩
 | n+1=>by
  obtain ⟨m,o⟩:=oK j b g lf n;constructor
  ·intro c f args h out l d k a e;simp only [yP] at a;split at a
   ·cases a;exact ⟨⟨e.bs,fun p hp=>e.ps p (by simp [hp])⟩,e.ps _ (by simp)⟩
   ·cases a
  ·intro c md f args h out l d k i a e;have a:tN ap (yP P ap lf n) lf md f args h c= .ok (out,l,d) k:=by
    cases md<;>first|exact absurd rfl i|exact a
   exact Iq j b g m lf c md f args h out l d k i a e
inductive MZ:List Prop→Prop where
 |nil:MZ []
 |cons {p:Prop} {l:List Prop}:p→MZ l→MZ (p::l)
theorem MZ.mem {l:List Prop} (h:MZ l):∀ p ∈ l,p:=by
 induction h with
 |nil=>intro p hp;cases hp
 |cons hp _ ih=>
  intro q a;rcases List.mem_cons.1 a with rfl|a
  ·exact hp
  ·exact ih q a
inductive l_:List Bool→Prop where
 |nil:l_ []
 |t {l:List Bool}:l_ l→l_ (true::l)
 |c {b:Bool} {l:List Bool}:b=true→l_ l→l_ (b::l)
theorem l_.mem {l:List Bool} (h:l_ l):∀ b ∈ l,b=true:=by
 induction h with
 |nil=>intro p hp;cases hp
 |t _ ih=>
  intro q a;rcases List.mem_cons.1 a with rfl|a
  ·rfl
  ·exact ih q a
 |c hp _ ih=>
  intro q a;rcases List.mem_cons.1 a with rfl|a
  ·exact hp
  ·exact ih q a
structure Gu (P:Program) (ap:AP):Prop where
 apok:iY P ap
 mixed:P.follows .mixedOrders=true
 fnok:JQ P ap
theorem GR {P:Program} {ap:AP} (g:Gu P ap) {lf n:Nat} {ans:List (kJ × List bg)} {ps:List Prop} {f:Nat} {args:List AV} {h a:List bg} {out:kJ} (hp:MZ ps)
  (he:tN ap (yP P ap lf n) lf .dead f args h ⟨true,[],[],[],ans,[]⟩= .ok (out,a,.dead) ⟨true,[],[],ps,[],[]⟩):bD P ap f args h out a:=by
 obtain ⟨d,e⟩:=oK g.apok g.mixed g.fnok lf n;exact (J6 g.apok g.mixed g.fnok d e lf _ f args h out a .dead _ he ⟨fun b c=>(by cases c),hp.mem⟩).2
end AM
namespace AM
open Go Go.ChangeShapes Go.WideShapes Go.ChangeAt Go.RowKit
def qj:Lit→Value
 | .int k n=> .int k n
 | .bool b=> .bool b
 | .string s=> .string ⟨s.toArray⟩
 |_=> .nilFunc
def KU:Lit→AV
 | .int k n=> .int k n
 | .bool b=> .bool b
 | .string s=> .str s
 |_=> .dead
def Ey:Lit→Bool
 | .int _ _=>true
 | .bool _=>true
 | .string _=>true
 |_=>false
def KW (f:TypeId→DataW Unit→Nat→Option (List (Nat × Lit))):List (TypeId × Nat)→List (DataW Unit)→Option (List (Nat × Lit))
 | [],[]=>some []
 |(t,o)::r,d::ds=>match f t d o,KW f r ds with
  |some a,some b=>some (a++b)
  |_,_=>none
 |_,_=>none
def mF (P:Program):Nat→TypeId→DataW Unit→Nat→Option (List (Nat × Lit))
 |0,_,_,_=>none
 |n+1,t,d,off=>match P.underlying t,d with
  |some (.struct fs),.agg ds=>KW (mF P n) (fs.toList.map fun f=>(f.type,off+f.offset)) ds
  |some (.array m e),.agg ds=>KW (mF P n) ((Xq6 m).map fun i=>(e,off+i*P.cellsOf e)) ds
  |some (.int _),.lit (.int k n)=>some [(off,.int k n)]
  |some .bool,.lit (.bool b)=>some [(off,.bool b)]
  |some .string,.lit (.string s)=>some [(off,.string s)]
  |_,_=>none
theorem Ew {f:TypeId→DataW Unit→Nat→Option (List (Nat × Lit))}:∀ {ts:List (TypeId × Nat)} {ds:List (DataW Unit)} {l:List (Nat × Lit)},KW f ts ds=some l→ts.length=ds.length∧∀ x ∈ l,∃ (i:Nat) (t o:Nat) (d:DataW Unit) (a:List (Nat × Lit)),ts[i]? =some (t,o)∧ds[i]? =some d∧f t d o=some a∧x ∈ a
 | [],[],l,h=>by simp [KW] at h;subst h;simp
 | (t,o)::r,d::ds,l,h=>by
  simp only [KW] at h;split at h
  ·rename_i a b e v;cases h;obtain ⟨k,p⟩:=Ew v;refine ⟨by simp [k],fun x c=> ?_⟩;rcases List.mem_append.1 c with c|c
   ·exact ⟨0,t,o,d,a,rfl,rfl,e,c⟩
   ·obtain ⟨i,q,s,u,w,m,n,g,j⟩:=p x c;exact ⟨i+1,q,s,u,w,by simpa using m,by simpa using n,g,j⟩
  ·cases h
 | [],_::_,_,h=>by simp [KW] at h
 |_::_,[],_,h=>by simp [KW] at h
theorem oC {P:Program} {w:World} {base:Nat} {N:Nat→Bool} {z:Bool}:∀ (n:Nat) (t:TypeId) (d:DataW Unit) (off:Nat) (l:List (Nat × Lit)),mF P n t d off=some l→∀ (c:Nat) (cs:List Value) (p:List MemPlace),DataW.trod (fun _=>()) P w base N z c t cs=some (d,p)→∀ x ∈ l,∃ j,x.1=off+j∧cs[j]? =some (qj x.2)
 |0,_,_,_,_,h=>by simp [mF] at h
 | n +1,t,d,off,l,h=>by
  intro c cs p hd x r;simp only [mF] at h;split at h
  ·rename_i U J q;cases c with
   |zero=>simp [DataW.trod] at hd
   | succ m=>
    simp only [DataW.trod,q] at hd;split at hd
    ·obtain ⟨L,E,g⟩:=Option.map_eq_some_iff.1 hd;simp only [Prod.mk.injEq,DataW.agg.injEq] at g;obtain ⟨rfl,rfl⟩:=g;obtain ⟨O,G⟩:=Ew h;obtain ⟨i,M,R,K,a,v,u,F,B⟩:=G x r;rw [Xq3,Xqp] at v;obtain ⟨f,C,A⟩:=v;simp only [Prod.mk.injEq] at A;obtain ⟨rfl,rfl⟩:=A;obtain ⟨b,I,D⟩:=Lib.mapM_at E i f C;rw [Xq3,I] at u;simp only [Xje,Option.some.injEq] at u;subst u;obtain ⟨j,Q,o⟩:=oC n _ _ _ _ F m _ b.2 D x B;refine ⟨f.offset+j,by omega, ?_⟩;rw [Xj0] at o;split at o
     ·rwa [Xzh] at o
     ·cases o
    ·cases hd
  ·rename_i k e J q;cases c with
   |zero=>simp [DataW.trod] at hd
   | succ m=>
    simp only [DataW.trod,q] at hd;split at hd
    ·obtain ⟨L,E,g⟩:=Option.map_eq_some_iff.1 hd;simp only [Prod.mk.injEq,DataW.agg.injEq] at g;obtain ⟨rfl,rfl⟩:=g;obtain ⟨O,G⟩:=Ew h;obtain ⟨i,M,R,K,a,v,u,F,B⟩:=G x r;rw [Xq3,Xqp] at v;obtain ⟨f,C,A⟩:=v;simp only [Prod.mk.injEq] at A;obtain ⟨rfl,rfl⟩:=A;obtain ⟨b,I,D⟩:=Lib.mapM_at E i f C;rw [Xq3,I] at u;simp only [Xje,Option.some.injEq] at u;subst u;obtain ⟨j,Q,o⟩:=oC n _ _ _ _ F m _ b.2 D x B;refine ⟨f*P.cellsOf e+j,by omega, ?_⟩;rw [Xj0] at o;split at o
     ·rwa [Xzh] at o
     ·cases o
    ·cases hd
  ·rename_i V k T q;cases h;simp at r;subst r;obtain ⟨S,rfl,y,_⟩:=DataW.trod_int q hd;simp only [Prod.mk.injEq,DataW.lit.injEq,Lit.int.injEq] at y;obtain ⟨⟨rfl,rfl⟩,_⟩:=y;exact ⟨0,rfl,rfl⟩
  ·rename_i b q;cases h;simp at r;subst r;cases c with
   |zero=>simp [DataW.trod] at hd
   |succ m=>
    unfold DataW.trod at hd;rw [q] at hd;split at hd<;>simp_all
    rfl
  ·rename_i s q;cases h;simp at r;subst r;cases c with
   |zero=>simp [DataW.trod] at hd
   |succ m=>
    unfold DataW.trod at hd;rw [q] at hd;split at hd<;>simp_all
    obtain ⟨_,rfl,_⟩:=hd;rfl
  ·cases h
theorem yG {P:Program} {w:World}:∀ {l:List (String × DataW Unit)} {ps:List MemPlace},DataW.LaidVars P w l ps→∀ n d,(n,d) ∈ l→∃ g t cs a p,P.globalNamed n=some g∧(P.globals[g]?).map (·.type)=some t∧w.var? P n=some cs∧DataW.trod (fun _=>()) P w 0 (fun _=>true) false a t cs.toList=some (d,p)
 | [],_,_,n,d,hm=>by cases hm
 | (n',d')::r,ps,h,n,d,hm=>by
  obtain ⟨g,t,cs,a,p,q,c,i,e,f,b,_⟩:=h;rcases List.mem_cons.1 hm with he|hm
  ·cases he;exact ⟨g,t,cs,a,p,c,i,e,f⟩
  ·exact yG b n d hm
theorem Oe {P:Program} {W:World} {a:List (String × DataW Unit)} (h:laidMetH P a W) (e:a.filter (fun x=>x.2.handleName?.isSome)= []) {n:String} {d:DataW Unit} (r:(n,d) ∈ a) {g:Nat} {t:TypeId} (f:P.globalNamed n=some g) (z:(P.globals[g]?).map (·.type)=some t)
  {ls:List Lit} (hl:mF P 6 t d 0=some (ls.zipIdx.map fun (l,i)=>(i,l))):∀ (j:Nat) (l:Lit),ls[j]? =some l→W.cell? ⟨g,j,none⟩=some (qj l):=by
 have b:laidMet P a W:=by
  unfold laidMetH at h;rw [e] at h;exact h
 obtain ⟨ps,s,_⟩:=b;obtain ⟨g',A,cs,c,p,u,v,o,q⟩:=yG s n d r;obtain rfl:=Option.some.inj (f.symm.trans u);obtain rfl:=Option.some.inj (z.symm.trans v);intro j l y;obtain ⟨k,m,w⟩:=oC 6 t d 0 _ hl c cs.toList p q (j,l) (by
  rw [List.mem_map];exact ⟨(l,j),by rw [List.mem_zipIdx_iff_getElem?];exact y,rfl⟩)
 have:k=j:=by simp at m;exact m.symm
 subst this;rw [World.var?_cell f o k];simpa using w
def jq (W:World):aT:=fun k o=>match W.cell? ⟨k,o,none⟩ with|some v=>if v.oneCell' then some v else none|none=>none
theorem Ic {W:World} {k o:Nat} {v:Value} (h:W.cell? ⟨k,o,none⟩=some v) (a:v.oneCell'=true):jq W k o=some v:=by
 unfold jq;rw [h];simp only;rw [if_pos a]
theorem MS {W:World} {k o:Nat} {v:Value} (h:jq W k o=some v):kQ W k o=some v:=by
 unfold jq at h;split at h
 ·rename_i c a;split at h
  ·rename_i b;cases h;exact DD a b
  ·cases h
 ·cases h
theorem JR (S:aT):∀ (ls:List Lit),ls.all Ey=true→dY S (ls.map KU) (ls.map qj)
 | [],_=>by simp [dY]
 |l::r,h=>by
  simp only [Xxs,π] at h;simp only [Xqh,dY];refine ⟨?_,JR S r h.2⟩;cases l<;>simp only [KU,qj,PR]<;>first|rfl|(exact absurd h.1 (by simp [Ey]))
theorem Oh {l:Lit} (h:Ey l=true):(qj l).oneCell'=true:=by
 cases l<;>first|rfl|(exact absurd h (by simp [Ey]))
def Us (ap:AP) (W:World):Prop:=∀ k xs,(ap.gl[k]?).join=some xs→∃ ls:List Lit,xs=ls.map KU∧ls.all Ey=true∧∀ (j:Nat) (l:Lit),ls[j]? =some l→W.cell? ⟨k,j,none⟩=some (qj l)
theorem Zp {ap:AP} {W:World} (h:Us ap W):Ur ap (jq W):=by
 intro k g e;obtain ⟨ls,rfl,a,f⟩:=h k g e;refine ⟨ls.map qj,JR _ _ a, ?_⟩;intro j u b;rw [Xq3,Xqp] at b;obtain ⟨l,d,rfl⟩:=b;have c:=Oh (List.all_eq_true.1 a l (Xqj d));refine ⟨?_,c⟩;rw [Nat.zero_add];exact Ic (f j l d) c
theorem adl {P:Program} {ap:AP} {f:Nat} {args:List AV} {b:Bool} (l:bD P ap f args [] (.ret (.bool b)) []) {W:World} (j:Us ap W) {cargs:List Value} (m:dY (jq W) args cargs):
  Calls P f cargs.toArray W fun e W'=>e= .returned (.bool b)∧Below W.heap.size W W':=by
 have i:bU ap (bH []) (fun _=>(0,0)) (jq W) W:=
  ⟨fun b n B B' h=>by simp [bH] at h,fun b B h=>by simp [bH] at h,fun k o v h=>MS h,fun b B h=>by simp [bH] at h,Zp j⟩
 refine (l.calls (fun _=>(0,0)) (jq W) W cargs i (bW _ m)).mono ?_
 rintro e W' ⟨m',S',hF⟩
 obtain ⟨_,a,c⟩:=hF;obtain ⟨cv,rfl,d⟩:=c;simp only [BV,VR,PR] at d;subst d;exact ⟨rfl,a.os,a.tape,a.output,a.size,fun k g=>a.rest k g fun b B h=>by simp [bH] at h⟩
def Dc (P:Program) (ts:List TypeId):Bool:=ts.all fun t=>P.readableRec t && decide (t<P.types.size)
theorem wM {H:Type} {enc:TypeId × Value→H} {P:Program} (c:laidOutB P=true) {W W':World} {b:Nat→Bool}:∀ {ts:List TypeId} {vs:List Value} {ds:List (DataW H)} {ps:List MemPlace},Dc P ts=true→DataW.TrodAll enc P W 0 (fun _=>true) true ts vs ds ps→(∀ p ∈ ps,W.sameAt W' p)→(∀ p ∈ ps,b p.block=true)→DataW.TrodAll enc P W' 0 b true ts vs ds ps
 | [],vs,ds,ps,_,h,_,_=>by
  obtain ⟨rfl,rfl,rfl⟩:=trodAll_nil h;rfl
 |t::ts,vs,ds,ps,hf,h,hs,hsp=>by
  obtain ⟨v,e,d,f,p,q,rfl,rfl,rfl,g,i⟩:=trodAll_cons h;simp only [Dc,Xxs,π,decide_eq_true_eq] at hf;exact trodAll_cons_mk (WideElems.Trod_stays c hf.1.1 hf.1.2 g (fun x a=>hs x (by simp [a])) (fun x a=>hsp x (by simp [a]))) (wM c (by simpa [Dc] using hf.2) i (fun x a=>hs x (by simp [a])) (fun x a=>hsp x (by simp [a])))
theorem aig {H:Type} {enc:TypeId × Value→H} {P:Program} {f:Func} {s:ChangeSpec} {apart fresh handsOn again:Bool} {W W':World} {args:Array Value} {e n:List (DataW H)} {before:List MemPlace} (v:laidOutB P=true) (t:Dc P f.params.toList=true)
  (hW:DataW.Whole enc P f.params.toList s.vars apart W args.toList e n before) (hvars:s.vars= []) {tb:TypeId} (hr:f.resultTypes=#[tb]) (htb:P.underlying tb=some .bool) (hfn:s.fn H (e++n)={results:= [.lit (.bool true)],args:=e,vars:= []})
  (hb:Below W.heap.size W W'):s.post enc P f apart fresh handsOn again W args (.bool true) W':=by
 have g:∀ p ∈ before,p.block<W.heap.size:=fun p hp=>hW.lt p hp
 have d:∀ p ∈ before,(fun b=>decide (b<W.heap.size)) p.block=true:=fun p hp=>by simpa using hW.lt p hp
 have h:=hW;obtain ⟨p,q,u,r,rfl,m,o⟩:=hW;rw [hvars] at r;obtain ⟨rfl,rfl⟩:=trodVars_none r;simp only [Γ] at g d m o h hfn ⊢;have hargs:∀ a:Nat→Bool,(∀ x ∈ p,a x.block=true)→DataW.TrodAll enc P W' 0 a true f.params.toList args.toList (s.fn H e).args p:=by
  intro a l;rw [hfn];exact wM v t u (fun x i=>hb.same (g x i)) l
 have c:∀ (b:Nat) (a:Nat→Bool) (hd:Bool),DataW.TrodAll enc P W' b a hd f.resultTypes.toList ((Value.bool true).resultList f.resultTypes.size) (s.fn H e).results []:=by
  intro b a hd;rw [hfn,hr];exact trodAll_cons_mk (p:= []) (shut_bool htb true) trodAll_mk0
 have k:∀ a:Nat→Bool,DataW.TrodVars enc P W' a s.vars (s.fn H e).vars []:=by
  intro a;rw [hvars,hfn];rfl
 refine ⟨e,[],p,[],p,[],h,by rw [Γ];exact c _ _ _,by rw [Γ];exact hargs _ d,by rw [Γ];exact k _,World.keptBut_mono (fun x i=>i) (hb.frame _),fun _=> ?_⟩;refine ⟨ok_one hr rfl (okWide_bool_mk htb _),_,_,([]++p)++ [],⟨[]++p,[],trodAll_append (hargs _ (fun _ _=>rfl)) (c _ _ _),by simpa using k _,rfl, ?_, ?_⟩, ?_⟩
 ·intro b j hp;have hp':MemPlace.cell b j ∈ p:=by simpa using hp
  rw [hb.frozen (g _ hp')];exact m b j hp'
 ·intro w;simpa using o w
 ·intro x i _;simpa using i
end AM
