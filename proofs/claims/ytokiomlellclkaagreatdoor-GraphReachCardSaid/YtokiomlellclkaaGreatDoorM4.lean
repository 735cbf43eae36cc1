/- The abstract machine over the code of the model, and the proof that it is sound. No conditions. -/
import Derived.Test.YtokiomlellclkaaGreatDoorM3
import Derived.Recover
import Derived.ProofKit
import Derived.OpenShut
import Derived.LaidLaws
import Derived.LaidSub
import Derived.Lib.LaidTab
set_option linter.unusedSimpArgs false
set_option linter.unusedVariables false
open Bool renaming and_eq_true→η,not_eq_true'→Xqk
open Nat renaming beq→Δ,zero_le→Xqp,lt_of_lt_of_le→Xqd,sub_zero→Xz6,le_refl→ε
open List renaming mem_of_getElem?→Γ,flatMap_cons→Xqg,flatMap_nil→Xwm,append_nil→υ,range→Xqf,getElem?_map→Ψ,map_cons→χ,flatMap_map→Xzv,range'→Xjt,getElem?_range→Xja,mem_cons_of_mem→Xql,mem_cons_self→Xqs,getElem?_take→Xxn,getElem?_drop→Xx0,all_cons→Xx5
open Option renaming map_eq_some_iff→Xqb,map_some→Xqr
namespace AM
open Go
theorem uV {α:Type} {P:Program} {w:World} (f:α→Sem Value):∀ (l:List α) (vs:List Value),l.length=vs.length→(∀ (i:Nat) (x:α) (v:Value),l[i]? =some x→vs[i]? =some v→(f x).run P w= .ok v w)→(l.mapM f).run P w= .ok vs w
 | [],[],_,_=>rfl
 |a::l,v::vs,hl,h=>by
  rw [List.mapM_cons,Sem.run_bind,h 0 a v rfl rfl,Result.andThen_ok,Sem.run_bind,uV f l vs (by simpa using hl) fun i x u b c=>h (i+1) x u (by simpa using b) (by simpa using c),Result.andThen_ok];rfl
 | [],_::_,hl,_=>by simp at hl
 |_::_,[],hl,_=>by simp at hl
def FM (tmps:Array Value):ResultVar→Sem Value
 | .tmp t=>pure (tmps.getD t undef)
 | .cell a t=>do loadVar t (← asAddr (tmps.getD a undef))
def OB (vs:List Value):Value:=match vs with| [v]=>v|vs=> .tuple vs.toArray
theorem MH (a:Func) (tmps:Array Value):results a tmps=(do let vs ← a.results.mapM (FM tmps);pure (if h:vs.size=1 then vs[0] else .tuple vs)):=by
 unfold results;congr 2
theorem kN {P:Program} {w:World} {a:Func} {tmps:Array Value} {vs:List Value} (b:a.results.toList.length=vs.length)
  (h:∀ (i:Nat) (r:ResultVar) (v:Value),a.results.toList[i]? =some r→vs[i]? =some v→(FM tmps r).run P w= .ok v w):
  (results a tmps).run P w= .ok (OB vs) w:=by
 rw [MH,Array.mapM_eq_mapM_toList];simp only [bind_map_left];rw [Sem.run_bind,uV _ _ vs b h,Result.andThen_ok]
 match vs with
 | []=>rfl
 | [v]=>rfl
 |_::_::_=>simp [OB]
theorem J5 {S:aB} {m:aI} {rd c:bP} {w:World} (h:∀ b B,rd b=some B→c b=some B):gZ (bY S m rd w) (bY S m c w):=by
 intro k o v a;unfold bY at a ⊢;split at a
 ·rename_i u g;exact a
 ·rename_i g;split at a
  ·rename_i d;obtain ⟨b,B,f,i,e⟩:=d;rw [if_pos ⟨b,B,h b B f,i,e⟩];exact a
  ·cases a
def cl (rd:bP) (v:AV):List Nat:=lM rd 6 (fO (cZ v))
inductive EK (base:Nat) (rd:bP) (all:List Nat):AV→AV→Prop
 |own {b n:Nat} {B:aK}:rd b=some B→base≤b→B.fro=false→B.pr=true→eU all b=1→0<B.esz→EK base rd all (.ref b B.ver 0 n) (.own (B.cells.take (n*B.esz)) n B.esz)
 |low {v:AV}:(∀ b ∈ cZ v,b<base)→EK base rd all v v
 |frz {v v':AV}:(∀ b ∈ cl rd v,base≤b)→frz (fun b=>match lw (cl rd v) b with|true=>rd b|false=>none) 6 v=some v'→EK base rd all v v'
theorem Qm {base:Nat} {rd:bP} {v a:AV} (h:WO base rd v=some a):(∀ b ∈ cl rd v,base≤b)∧frz (fun b=>match lw (cl rd v) b with|true=>rd b|false=>none) 6 v=some a:=by
 unfold WO at h;dsimp only at h;split at h
 ·rename_i d;exact ⟨fun b c=>eG (List.all_eq_true.1 d b c),h⟩
 ·cases h
theorem Fa {base:Nat} {rd:bP} {all:List Nat} {v a:AV} (h:(match (cZ v).all (fun b=>Nat.blt b base) with|true=>some v|false=>WO base rd v)=some a):EK base rd all v a:=by
 split at h
 ·rename_i d;cases h;exact .low fun b c=>dR (List.all_eq_true.1 d b c)
 ·obtain ⟨e,f⟩:=Qm h;exact .frz e f
theorem wV {base:Nat} {rd:bP} {all:List Nat} {v c:AV} (h:nD base rd all v=some c):EK base rd all v c:=by
 unfold nD at h;dsimp only at h;split at h
 ·rename_i b ver n;split at h
  ·rename_i B e;split at h
   ·rename_i d;cases h;simp only [η,Xqk] at d;obtain ⟨⟨⟨⟨⟨i,a⟩,g⟩,f⟩,k⟩,j⟩:=d;have a:=aF a;subst a;exact .own e (eG i) g f (aF k) (dR j)
   ·exact Fa h
  ·cases h
 ·exact Fa h
theorem sW {l:List Nat} {b:Nat} (h:b ∈ l):1≤eU l b:=by
 unfold eU;have:b ∈ l.filter (Δ b):=by rw [List.mem_filter];exact ⟨h,Nat.beq_refl b⟩
 exact List.length_pos_of_mem this
theorem pM {l a:List Nat} {b:Nat}:eU (l++a) b=eU l b+eU a b:=by simp [eU,List.filter_append]
theorem xO {α:Type} {f:α→List Nat} {b:Nat}:∀ (vs:List α) (i j:Nat) (v v':α),vs[i]? =some v→vs[j]? =some v'→i ≠ j→b ∈ f v→b ∈ f v'→2≤eU (vs.flatMap f) b
 | [],i,j,v,v',h,_,_,_,_=>by simp at h
 | a::r,i,j,v,v',hi,hj,hne,hb,hb'=>by
  have c:∀ (k:Nat) (u:α),r[k]? =some u→b ∈ f u→1≤eU (r.flatMap f) b:=by
   intro k u d e;exact sW (List.mem_flatMap.2 ⟨u,Γ d,e⟩)
  rw [Xqg,pM];cases i with
  |zero=>
   simp at hi;subst hi;cases j with
   |zero=>exact absurd rfl hne
   |succ j=>have:=c j v' (by simpa using hj) hb';have:=sW hb;omega
  | succ i=>
   cases j with
   |zero=>simp at hj;subst hj;have:=c i v (by simpa using hi) hb;have:=sW hb';omega
   |succ j=>
    have:=xO r i j v v' (by simpa using hi) (by simpa using hj) (by omega) hb hb';omega
def jI:List AV→List AV→List (Nat × aK)
 |v::r,.own xs _ esz::q=>(match v with| .ref b _ _ _=> [(b,yA xs esz)]|_=> [])++jI r q
 |_::r,_::q=>jI r q
 |_,_=> []
theorem iM {v x:AV} {r q:List AV} (h:∀ xs k e,x ≠ .own xs k e):jI (v::r) (x::q)=jI r q:=by
 cases x<;>first|rfl|exact absurd rfl (h _ _ _)
section
variable {P:Program} {ap:AP} {base:Nat} {rd:bP} {all:List Nat}
theorem vg {g:bP} {m:aI} {S:aB} {x:AV} {v:Value} (h:VR g m S x v):∀ xs k e,x ≠ .own xs k e:=by
 rintro xs k e rfl;simp [VR] at h
theorem AQ {S:aB} {x:AV} {v:Value} (h:PR S x v):∀ xs k e,x ≠ .own xs k e:=by
 rintro xs k e rfl;simp [PR] at h
end
end AM
namespace AM
open Go
theorem CV {b:Nat}:∀ (l acc:List Nat),(b ∈ l∨b ∈ acc)→b ∈ l.foldl zQ acc
 | [],acc,h=>by simpa using h
 | a::r,acc,h=>by
  simp only [List.foldl_cons];refine CV r _ ?_;rcases h with h|h
  ·rcases List.mem_cons.1 h with rfl|h
   ·right;unfold zQ;split
    ·rename_i hm;exact gp.1 hm
    ·simp
   ·exact .inl h
  ·right;obtain h':=h;unfold zQ;split
   ·exact h
   ·simp [h]
theorem LV {l:List Nat} {b:Nat} (h:b ∈ l):b ∈ fO l:=CV l [] (.inl h)
theorem He (l:List Nat):(fO l).Nodup:=(mY l [] (by simp)).1
theorem TR {rd:bP} {v:AV} {b:Nat} (h:b ∈ cZ v):b ∈ cl rd v:=by
 obtain ⟨_,t,a⟩:=lN rd 6 (fO (cZ v)) (He _);unfold cl;rw [a];exact List.mem_append.2 (.inl (LV h))
theorem yB:∀ {vs l:List AV} {b:Nat} {Bo:aK},(b,Bo) ∈ jI vs l→∃ ver i n c k e,(AV.ref b ver i n,AV.own c k e) ∈ vs.zip l∧Bo=yA c e
 | [],l,b,Bo,h=>by cases l<;>simp [jI] at h
 |v::r,[],b,Bo,h=>by simp [jI] at h
 | v ::r,x::q,b,Bo,h=>by
  rcases jH x with ⟨c,k,e,rfl⟩|hx
  ·simp only [jI,List.mem_append] at h;rcases h with h|h
   ·cases v with
    |ref b' ver i n=>
     simp at h;obtain ⟨rfl,rfl⟩:=h;exact ⟨ver,i,n,c,k,e,by simp,rfl⟩
    |_=>simp at h
   ·obtain ⟨ver,i,n,a,d,e',f,g⟩:=yB h;exact ⟨ver,i,n,a,d,e',by simp [f],g⟩
  ·rw [iM hx] at h;obtain ⟨ver,i,n,a,d,e',f,g⟩:=yB h;exact ⟨ver,i,n,a,d,e',by simp [f],g⟩
theorem Dp {rd:bP} {b:Nat}:∀ (vs l:List AV),eU ((jI vs l).flatMap fun q=> [q.1]) b≤eU (vs.flatMap (cl rd)) b
 | [],l=>by cases l<;>simp [jI,eU]
 |v::r,[]=>by simp [jI,eU]
 | v :: r,x::q=>by
  have f:=Dp (rd:=rd) (b:=b) r q;rw [Xqg,pM];rcases jH x with ⟨d,k,e,rfl⟩|hx
  ·simp only [jI,List.flatMap_append,pM];cases v with
   | ref b' ver i n=>
    simp only [Xqg,Xwm,υ];have:eU [b'] b≤eU (cl rd (.ref b' ver i n)) b:=by
     by_cases hb:b=b'
     ·subst hb;have a:eU [b] b=1:=by simp [eU]
      rw [a];exact sW (TR (by simp [cZ]))
     ·have a:eU [b'] b=0:=by
       have:Δ b b'=false:=by
        cases c:Δ b b' with
        |false=>rfl
        |true=>exact absurd (aF c) hb
       simp [eU,this]
      omega
    omega
   |_=>simp [eU] at*;omega
  ·rw [iM hx];omega
theorem Dy:∀ (vs l:List AV) (n:Nat),vs.length=l.length→(∀ v x,(v,x) ∈ vs.zip l→(∃ c k e,x= .own c k e)→∃ b ver i n,v= .ref b ver i n)→(fC n l).2=(jI vs l).map (·.2)
 | [],[],n,_,_=>by simp [fC,jI]
 | v::r,x::q,n,hl,h=>by
  have d:=fun n=>Dy r q n (by simpa using hl) fun v x hm a=>h v x (by simp [hm]) a
  rcases jH x with ⟨c,k,e,rfl⟩|a
  ·obtain ⟨b,ver,i,f,rfl⟩:=h v _ (by simp) ⟨c,k,e,rfl⟩;simp only [fC,jI,d];simp
  ·rw [bU n a,iM a];exact d n
 | [],_::_,_,hl,_=>by simp at hl
 |_::_,[],_,hl,_=>by simp at hl
theorem Hl {rd gh gf:bP} {m o:aI} {S S':aB}:∀ (vs l:List AV) (cvs:List Value) (n:Nat),vs.length=l.length→aX rd m S vs cvs→
  (∀ v x,(v,x) ∈ vs.zip l→(∃ a k e,x= .own a k e)→∃ b ver n,v= .ref b ver 0 n∧∃ a e,x= .own a n e)→
  (∀ v x c,(v,x) ∈ vs.zip l→(∀ a k e,x ≠ .own a k e)→VR rd m S v c→VR gh o S' x c)→
  (∀ (k b:Nat) (Bo:aK),(jI vs l)[k]? =some (b,Bo)→∀ ver i c,VR rd m S (.ref b ver 0 i) c→(∃ a e,(AV.ref b ver 0 i,AV.own a i e) ∈ vs.zip l)→VR gf o S' (.ref (n+k) 0 0 i) c)→ig gh gf o S' n l cvs
 | [],[],[],n,_,_,_,_,_=>by simp [ig]
 | v::r,x::q,c::cs,n,hl,hv,ho,hx,hr=>by
  simp only [aX] at hv;rcases jH x with ⟨a,k,e,rfl⟩|hxo
  ·obtain ⟨b,ver,i,rfl,u,e',t⟩:=ho v _ (by simp) ⟨a,k,e,rfl⟩;cases t;simp only [ig];refine ⟨?_, ?_⟩
   ·have:=hr 0 b (yA a e) (by simp [jI]) ver k c hv.1 ⟨a,e,by simp⟩;rwa [Nat.add_zero] at this
   ·refine Hl r q cs (n+1) (by simpa using hl) hv.2 (fun v x hm=>ho v x (by simp [hm])) (fun v x c hm=>hx v x c (by simp [hm])) ?_;intro j p Bo s d h c' f g;have:=hr (j+1) p Bo (by simpa [jI] using s) d h c' f (by obtain ⟨a,e,g⟩:=g;exact ⟨a,e,by simp [g]⟩);rwa [show n+(j+1)=n+1+j by omega] at this
  ·rw [dw hxo];refine ⟨hx v x c (by simp) hxo hv.1, ?_⟩;refine Hl r q cs n (by simpa using hl) hv.2 (fun v x hm=>ho v x (by simp [hm])) (fun v x c hm=>hx v x c (by simp [hm])) ?_;intro j p Bo s d h c' f g;exact hr j p Bo (by rw [iM hxo];exact s) d h c' f (by obtain ⟨a,e,g⟩:=g;exact ⟨a,e,by simp [g]⟩)
 | [],_::_,_,_,hl,_,_,_,_=>by simp at hl
 |_::_,[],_,_,hl,_,_,_,_=>by simp at hl
 | [],[],_::_,_,_,hv,_,_,_=>by simp [aX] at hv
 |_::_,_::_,[],_,_,hv,_,_,_=>by simp [aX] at hv
theorem Jr {α β:Type} {f:α→Option β}:∀ {l:List α} {l':List β},f_ f l=some l'→∀ x y,(x,y) ∈ l.zip l'→f x=some y
 | [],l',h,x,y,hm=>by simp at hm
 | a::r,l',h,x,y,hm=>by
  simp only [f_] at h;split at h
  ·rename_i b c;split at h
   ·rename_i q d;cases h;simp only [List.zip_cons_cons,List.mem_cons,Prod.mk.injEq] at hm;rcases hm with ⟨rfl,rfl⟩|hm
    ·exact c
    ·exact Jr d x y hm
   ·cases h
  ·cases h
theorem PV {α β:Type} {l:List α} {b:List β} {x:α} {y:β} (h:(x,y) ∈ l.zip b):∃ i:Nat,l[i]? =some x∧b[i]? =some y:=by
 obtain ⟨i,a⟩:=List.mem_iff_getElem?.1 h;rw [List.getElem?_zip_eq_some] at a;exact ⟨i,a⟩
theorem V6 {g:bP} {m:aI} {S:aB} {l:List AV} {vs:List Value} (h:aX g m S l vs) {x:AV} (a:x ∈ l):∃ v,VR g m S x v:=by
 obtain ⟨i,b⟩:=List.mem_iff_getElem?.1 a;obtain ⟨v,_,c⟩:=pq h i b;exact ⟨v,c⟩
end AM
namespace AM
open Go
section
variable {P:Program} {ap:AP}
theorem lT {h0 F:List aK} {hp:Hp} {m m0:aI} {S S0:aB} {w w0:World} {vs l:List AV} {cvs:List Value} (U:bi ap (ag hp) m S w) (z:Fr (aC h0) m0 S0 w0 (ag hp) m S w) (hv:aX (ag hp) m S vs cvs)
  {N:Nat} (hN:h0.length≤N) (hl:f_ (nD N (ag hp) (vs.flatMap (cl (ag hp)))) vs=some l) (hh':f_ (ag hp) (Xqf N)=some F) (hbase:F.all (fun B=>B.pr||(bG B.cells).all fun b=>Nat.blt b N)=true):
  ∃ m' S',bi ap (aC (F++(fC F.length l).2)) m' S' w∧Fr (aC h0) m0 S0 w0 (aC (F++(fC F.length l).2)) m' S' w∧ig (aC F) (aC (F++(fC F.length l).2)) m' S' F.length l cvs:=by
 have X:=(fA hl).1;have hz:∀ v x,(v,x) ∈ vs.zip l→EK N (ag hp) (vs.flatMap (cl (ag hp))) v x:=fun v x hm=>wV (Jr hl v x hm)
 have K:∀ v x,(v,x) ∈ vs.zip l→(∃ M k e,x= .own M k e)→∃ (b n:Nat) (B:aK),v= .ref b B.ver 0 n∧ag hp b=some B∧N≤b∧B.fro=false∧B.pr=true∧eU (vs.flatMap (cl (ag hp))) b=1∧0<B.esz∧x= .own (B.cells.take (n*B.esz)) n B.esz:=by
  rintro v x hm ⟨M,k,e,rfl⟩
  obtain ⟨c,R⟩:=V6 hv (List.of_mem_zip hm).1;generalize hxe:AV.own M k e=x at hm;cases hz v x hm with
  |own a d p t A O=>exact ⟨_,_,_,rfl,a,d,p,t,A,O,rfl⟩
  |low a=>exact absurd hxe.symm (vg R _ _ _)
  |frz a d=>
   refine absurd hxe.symm (AQ (jr U (fun b B g=> ?_) 6 v c x d R) _ _ _);split at g
   ·exact g
   ·cases g
 generalize L:jI vs l=obs;have hbs:∀ n,(fC n l).2=obs.map (·.2):=by
  intro n;rw [← L];refine Dy vs l n X.symm fun v x hm W=> ?_
  obtain ⟨b,n',B,a,_⟩:=K v x hm W;exact ⟨b,_,0,n',a⟩
 rw [hbs];have C:∀ b Bo,(b,Bo) ∈ obs→∃ (n:Nat) (B:aK),ag hp b=some B∧N≤b∧B.fro=false∧B.pr=true∧eU (vs.flatMap (cl (ag hp))) b=1∧0<B.esz∧Bo=yA (B.cells.take (n*B.esz)) B.esz∧(AV.ref b B.ver 0 n,AV.own (B.cells.take (n*B.esz)) n B.esz) ∈ vs.zip l:=by
  intro b Bo hm;rw [← L] at hm;obtain ⟨ver,i,n,M,k,e,a,d⟩:=yB hm;obtain ⟨b',n',B,p,t,A,O,V,T,Y,D⟩:=K _ _ a ⟨M,k,e,rfl⟩;cases p;cases D;exact ⟨_,B,t,A,O,V,T,Y,d,a⟩
 have hobd:∀ (k Z b:Nat) (Bo Bo':aK),obs[k]? =some (b,Bo)→obs[Z]? =some (b,Bo')→k=Z:=by
  intro k Z b Bo Bo' a d;obtain ⟨n,B,_,_,_,_,A,_⟩:=C b Bo (Γ a);by_cases s:k=Z
  ·exact s
  ·have p:=xO (f:=fun q:Nat × aK=> [q.1]) obs k Z _ _ a d s (b:=b) (by simp) (by simp);have t:=Dp (rd:=ag hp) (b:=b) vs l;rw [L] at t;omega
 have hobx:∀ b Bo,(b,Bo) ∈ obs→∀ v x,(v,x) ∈ vs.zip l→(∀ M k e,x ≠ .own M k e)→b ∉ cl (ag hp) v:=by
  intro b Bo hm v x hvx W g;obtain ⟨n,B,_,_,_,_,A,_,_,O⟩:=C b Bo hm;obtain ⟨i,V,T⟩:=PV O;obtain ⟨j,Y,D⟩:=PV hvx;have hne:i ≠ j:=by
   rintro rfl
   rw [T] at D;cases D;exact W _ _ _ rfl
  have:=xO (f:=cl (ag hp)) vs i j _ _ V Y hne (b:=b) (TR (by simp [cZ])) g;omega
 have hl0:F.length=N:=by rw [(fA hh').1];simp
 have J:∀ b,b<N→∃ B,ag hp b=some B∧aC F b=some B:=by
  intro b g;obtain ⟨B,a,d⟩:=(fA hh').2 b b (by simp [g]);exact ⟨B,d,a⟩
 have hlow':∀ b B,aC F b=some B→b<N∧ag hp b=some B:=by
  intro b B g;have I:b<N:=by
   have:=(List.getElem?_eq_some_iff.1 g).1;omega
  obtain ⟨B',a,d⟩:=J b I;rw [g] at d;cases d;exact ⟨I,a⟩
 let rdF:bP:=open Classical in fun b=>if ∃ v x,(v,x) ∈ vs.zip l∧(∀ M k e,x ≠ .own M k e)∧b ∈ cl (ag hp) v∧∀ y ∈ cl (ag hp) v,N≤y then ag hp b else none
 have Q:∀ b B,rdF b=some B→ag hp b=some B∧N≤b∧∀ Bo,(b,Bo) ∉ obs:=by
  intro b B g;dsimp only [rdF] at g;split at g
  ·rename_i R;obtain ⟨v,x,a,d,p,t⟩:=R;exact ⟨g,t b p,fun Bo hm=>hobx b Bo hm v x a d p⟩
  ·cases g
 have r:=j_ S m rdF w
 let m':aI:=fun i=>if i<N then m i else m ((obs.map (·.1)).getD (i - N) 0)
 have hm'lo:∀ i,i<N→m' i=m i:=fun i E=>if_pos E
 have hm'hi:∀ (k b:Nat) (Bo:aK),obs[k]? =some (b,Bo)→m' (N+k)=m b:=by
  intro k b Bo s;show (if _ then _ else _)=_;rw [if_neg (by omega),show N+k - N=k by omega,List.getD_eq_getElem?_getD,Ψ,s];rfl
 have hgf:∀ i Bi,aC (F++obs.map (·.2)) i=some Bi→(i<N∧ag hp i=some Bi∧aC F i=some Bi)∨(∃ k b,i=N+k∧obs[k]? =some (b,Bi)):=by
  intro i Bi E;by_cases I:i<N
  ·rw [dU (by omega)] at E;exact .inl ⟨I,(hlow' i Bi E).2,E⟩
  ·rw [iy (by omega),hl0] at E;right;refine ⟨i - N, ?_⟩;have hi':(obs.map (·.2))[i - N]? =some Bi:=E;rw [Ψ,Xqb] at hi';obtain ⟨⟨b,Bo⟩,a,d⟩:=hi';exact ⟨b,by omega,by rw [a];simp at d;rw [d]⟩
 have hgfk:∀ (k b:Nat) (Bo:aK),obs[k]? =some (b,Bo)→aC (F++obs.map (·.2)) (N+k)=some Bo:=by
  intro k b Bo s;rw [iy (by omega),hl0,show N+k - N=k by omega];show (obs.map (·.2))[k]? =_;rw [Ψ,s];rfl
 have G:∀ i Bi,aC (F++obs.map (·.2)) i=some Bi→∃ b B,ag hp b=some B∧m' i=m b∧((i<N∧b=i∧Bi=B)∨(N≤b∧∃ k,i=N+k∧obs[k]? =some (b,Bi))):=by
  intro i Bi E;rcases hgf i Bi E with ⟨a,d,p⟩|⟨k,b,rfl,s⟩
  ·exact ⟨i,Bi,d,hm'lo i a,.inl ⟨a,rfl,rfl⟩⟩
  ·obtain ⟨n,B,a,d,_⟩:=C b Bi (Γ s);exact ⟨b,B,a,hm'hi k b Bi s,.inr ⟨d,k,rfl,s⟩⟩
 refine ⟨m',bY S m rdF w, ?_, ?_, ?_⟩
 ·refine ⟨?_, ?_,fun k o v h=>kP U h, ?_, ?_⟩
  ·intro i j Bi Bj E hj e;obtain ⟨b,B,a,d,p⟩:=G i Bi E;obtain ⟨b',B',h1',h2',h3'⟩:=G j Bj hj;rw [d,h2'] at e;have:=U.inj b b' B B' a h1' e;subst this;rcases p with ⟨t,rfl,_⟩|⟨t,k,rfl,s⟩<;>rcases h3' with ⟨h4',rfl,_⟩|⟨h4',Z,rfl,hk'⟩
   ·rfl
   ·omega
   ·omega
   ·rw [hobd k Z b _ _ s hk']
  ·intro i Bi E;rcases hgf i Bi E with ⟨a,d,p⟩|⟨k,b,rfl,s⟩
   ·rw [hm'lo i a];obtain ⟨⟨cur,e,us,rest,k1,k2,k3,k4,k5,k6⟩,k7,k8⟩:=U.blk i Bi d;refine ⟨⟨cur,e,us,rest,k1,k2,fun hp=>a_ r _ (k3 hp), ?_,k5,k6⟩,k7,k8⟩;cases hpr:Bi.pr with
    |true=>exact aZ _ (a_ r _ (k3 hpr))
    |false=>
     refine jl r _ (fun b g=> ?_) k4;have A:=List.all_eq_true.1 hbase Bi (Γ p);rw [hpr] at A;simp only [Bool.false_or] at A;have O:=dR (List.all_eq_true.1 A b g);obtain ⟨B,V,T⟩:=J b O;exact ⟨by rw [dU (by omega),T,V],hm'lo b O⟩
   ·obtain ⟨n,B,a,d,p,t,A,O,rfl,_⟩:=C b Bi (Γ s);rw [hm'hi k b _ s];obtain ⟨⟨cur,e,us,rest,k1,k2,k3,k4,k5,k6⟩,k7,k8⟩:=U.blk b B a;have hp:=a_ r _ (jB (n*B.esz) (k3 t));refine ⟨⟨cur,e,us.take (n*B.esz),us.drop (n*B.esz)++rest,k1, ?_,fun _=>hp,aZ _ hp,fun hz u hu=>k5 hz u (List.mem_of_mem_take hu),k6⟩,fun _=>rfl,Xqp _⟩;rw [← List.append_assoc,List.take_append_drop];exact k2
  ·intro i Bi E o v ho;obtain ⟨b,B,a,d,p⟩:=G i Bi E;rw [d] at ho;have hno:rdF b=none:=by
    cases hr:rdF b with
    |none=>rfl
    |some B'=>
     obtain ⟨_,t,A⟩:=Q b B' hr;rcases p with ⟨O,rfl,_⟩|⟨_,k,_,s⟩
     ·omega
     ·exact absurd (Γ s) (A _)
   have hSo:S (m b).1 o=some v:=by
    rcases eP ho with h|⟨_,b',B',t,A,_⟩
    ·exact h
    ·have:=U.inj b' b B' B (Q b' B' t).1 a A;subst this;rw [hno] at t;cases t
   obtain ⟨V,T⟩:=U.own b B a o v hSo;rcases p with ⟨_,rfl,rfl⟩|⟨_,k,_,s⟩
   ·exact ⟨V,T⟩
   ·obtain ⟨n,B2,Y,_,D,_⟩:=C b _ (Γ s);rw [a] at Y;cases Y;rw [V] at D;cases D
  ·intro k M s;obtain ⟨us,a,d⟩:=U.glob k M s;exact ⟨us,a_ r _ a,d.mono r⟩
 ·refine ⟨?_,z.sle.trans r,z.os,z.tape,z.output,z.size,z.rest, ?_, ?_,fun i Bi E=>by
   obtain ⟨b,B,a,d,_⟩:=G i Bi E;rw [d];exact z.mw b B a⟩
  ·intro b B0 g;have I:b<N:=Xqd (List.getElem?_eq_some_iff.1 g).1 hN;obtain ⟨B,a,d,p⟩:=z.ge b B0 g;obtain ⟨B',t,A⟩:=J b I;rw [a] at t;cases t;exact ⟨B,by rw [dU (by omega)];exact A,d,by rw [hm'lo b I];exact p⟩
  ·intro i Bi E;obtain ⟨b,B,a,d,p⟩:=G i Bi E;rw [d];rcases z.img b B a with h|⟨B0,t,A⟩
   ·exact .inl h
   ·have I:b<N:=Xqd (List.getElem?_eq_some_iff.1 t).1 hN;rcases p with ⟨_,rfl,_⟩|⟨O,_⟩
    ·exact .inr ⟨B0,t,A⟩
    ·omega
  ·intro k o v hv;rcases eP hv with h|⟨_,b,B,a,d,_⟩
   ·exact z.sealN k o v h
   ·obtain ⟨p,t,_⟩:=Q b B a;rcases z.img b B p with h|⟨B0,A,_⟩
    ·exact .inr (.inl (d ▸ h))
    ·have:=(List.getElem?_eq_some_iff.1 A).1;omega
 ·rw [hl0];refine Hl (rd:=ag hp) (m:=m) (S:=S) vs l cvs N X.symm hv ?_ ?_ ?_
  ·intro v x hm W;obtain ⟨b,n,B,a,_,_,_,_,_,_,d⟩:=K v x hm W;exact ⟨b,B.ver,n,a,_,_,d⟩
  ·intro v x c hm W R;cases hz v x hm with
   |own _ _ _ _ _ _=>exact absurd rfl (W _ _ _)
   |low a=>
    refine oI r v (fun b g=> ?_) R;obtain ⟨B,d,p⟩:=J b (a b g);exact ⟨by rw [p,d],hm'lo b (a b g)⟩
   | frz a d=>
    have p:=jr U (fun b B g=>by split at g;exact g;cases g) 6 v c x d R;refine d_ x (bK (J5 fun b B g=> ?_) x p);split at g
    ·rename_i hm2;dsimp only [rdF];rw [if_pos ⟨v,x,hm,W,gp.1 hm2,a⟩];exact g
    ·cases g
  ·rw [L];intro k b Bo s ver n' c R hzz;obtain ⟨n,B,a,d,p,t,A,O,rfl,V⟩:=C b Bo (Γ s);obtain ⟨M,e,hzz⟩:=hzz;have hver:ver=B.ver:=by
    obtain ⟨b2,n2,B2,e1,e2,_⟩:=K _ _ hzz ⟨M,_,e,rfl⟩;cases e1;rw [a] at e2;cases e2;rfl
   subst hver;simp only [VR] at R ⊢;obtain ⟨B',T,_,Y,D⟩:=R;rw [a] at T;cases T;refine ⟨_,hgfk k b _ s,Xqp _,Y,fun _=> ?_⟩;rw [hm'hi k b _ s];exact D rfl
end
end AM
namespace AM
open Go
section
variable {P:Program} {ap:AP}
theorem EE (l:dF P ap) {env:dE} {hp:Hp} {m:aI} {S:aB} {w:World} {tmps:Array Value} (F:bi ap (ag hp) m S w) (q:∀ t,VR (ag hp) m S (env.get t) (tmps.getD t undef)) {r:ResultVar} {v:AV} {bs:List Bool}
  (h:t_ ap env hp r=some (v,bs)) (hbs:∀ b ∈ bs,b=true):∃ cv,(FM tmps r).run P w= .ok cv w∧VR (ag hp) m S v cv:=by
 cases r with
 |tmp t=>
  simp only [t_,Option.some.injEq,Prod.mk.injEq] at h;obtain ⟨rfl,rfl⟩:=h;exact ⟨_,rfl,q t⟩
 | cell a t=>
  simp only [t_] at h;have D:=bind_some h;clear h;obtain ⟨J,n,h⟩:=D;simp only [Xqb] at h;obtain ⟨⟨I,ups,C⟩,j,u⟩:=h;simp only [Prod.mk.injEq] at u;obtain ⟨rfl,rfl⟩:=u;obtain ⟨i,d,z,E⟩:=bW l n;have c:=q a;obtain ⟨_,cv,y,G⟩:=zn F (fun b B A=>A) E c j hbs;refine ⟨cv, ?_,G⟩;have g:∃ x,tmps.getD a undef= .pointer (some x):=by
   unfold Jp at j;split at j
   ·rename_i K p f;rw [f] at c;simp only [VR,PR] at c;obtain ⟨b,o,vs,e,_⟩:=c;exact ⟨_,e⟩
   ·rename_i b ver p f;rw [f] at c;simp only [VR] at c;obtain ⟨B,_,_,⟨k,o,e⟩,_⟩:=c;exact ⟨_,e⟩
   ·cases j
  obtain ⟨x,s⟩:=g;rw [s] at y;simp only [FM,s];exact y
theorem iZ (a:dF P ap) {env:dE} {hp:Hp} {m:aI} {S:aB} {w:World} {tmps:Array Value} (g:bi ap (ag hp) m S w) (f:∀ t,VR (ag hp) m S (env.get t) (tmps.getD t undef)):
  ∀ {rs:List ResultVar} {vs:List (AV × List Bool)},f_ (t_ ap env hp) rs=some vs→(∀ b ∈ vs.flatMap (·.2),b=true)→∃ cvs:List Value,rs.length=cvs.length∧aX (ag hp) m S (vs.map (·.1)) cvs∧∀ (i:Nat) (r:ResultVar) (v:Value),rs[i]? =some r→cvs[i]? =some v→(FM tmps r).run P w= .ok v w
 | [],vs,h,_=>by
  simp [f_] at h;subst h;exact ⟨[],rfl,by simp [aX],fun i r v h=>by simp at h⟩
 | r::rs,vs,h,hbs=>by
  simp only [f_] at h;split at h
  ·rename_i q x;split at h
   ·rename_i l y;cases h;obtain ⟨v,bs⟩:=q;obtain ⟨cv,o,k⟩:=EE a g f x (fun b c=>hbs b (by simp [c]));obtain ⟨cvs,n,j,p⟩:=iZ a g f y (fun b c=>hbs b (by rw [Xqg];exact List.mem_append.2 (.inr c)));refine ⟨cv::cvs,by simp [n],by simp only [χ,aX];exact ⟨k,j⟩, ?_⟩;intro i u s d e;cases i with
    |zero=>simp at d e;subst d;subst e;exact o
    |succ i=>exact p i u s (by simpa using d) (by simpa using e)
   ·cases h
  ·cases h
theorem Iu {gh gf:bP} {m:aI} {S:aB} {n:Nat} {x:AV} {v:Value} (h:ig gh gf m S n [x] [v]):u_ gh gf m S n x v∧(jf n x).2=(fC n [x]).2:=by
 rcases jH x with ⟨i,k,e,rfl⟩|hx
 ·simp only [ig] at h;exact ⟨h.1,rfl⟩
 ·rw [dw hx] at h;rcases yI x with ⟨l,rfl⟩|ht
  ·have f:=h.1;simp only [VR] at f;obtain ⟨vs,rfl,g⟩:=f;have key:∀ (l:List AV) (vs:List Value) (n:Nat),aX gh m S l vs→ig gh gf m S n l vs∧(fC n l).2= []:=by
    intro l
    induction l with
    |nil=>intro vs n a;cases vs with
     |nil=>exact ⟨by simp [ig],rfl⟩
     |cons _ _=>simp [aX] at a
    | cons y r ih=>intro vs n a;cases vs with
     |nil=>simp [aX] at a
     |cons u us=>
      simp only [aX] at a;have b:=vg a.1;obtain ⟨d,c⟩:=ih us n a.2;rw [dw b,bU n b];exact ⟨⟨a.1,d⟩,c⟩
   obtain ⟨d,c⟩:=key l vs n g;refine ⟨?_, ?_⟩
   ·simp only [u_];exact ⟨vs,rfl,d⟩
   ·simp only [jf,fC];exact c
  ·rw [jT hx ht,iC n hx ht,bU n hx];exact ⟨h.1,rfl⟩
theorem uj (rd:bP) (n:Nat):n≤QQ rd n:=by
 obtain ⟨_,t,a⟩:=lN rd 20 (Xqf n) List.nodup_range;unfold QQ;rw [a,List.length_append,List.length_range];exact Nat.le_add_right _ _
theorem kG (s:dF P ap) {h0 r:List aK} {E:Func} {env:dE} {hp:Hp} {m m0:aI} {S S0:aB} {w w0:World} {tmps:Array Value} {c c':Cx} {out:h_} (h:tZ ap h0.length E env hp c= .ok (out,r) c') (G:c'.Ok):
  c.Ok∧h0.length≤r.length∧(bi ap (ag hp) m S w→Fr (aC h0) m0 S0 w0 (ag hp) m S w→(∀ t,VR (ag hp) m S (env.get t) (tmps.getD t undef))→
   ∃ cv,(results E tmps).run P w= .ok cv w∧∃ n S',zO ap h0 m0 S0 w0 out r n S' w (.returned cv)):=by
 unfold tZ at h;dsimp only at h;split at h
 ·rename_i vs J k b;split at h
  ·cases h
  ·rename_i hbase;obtain ⟨_,K,F,h⟩:=R.bind_ok h;split at h
   ·rename_i v j;cases h;obtain ⟨e,d⟩:=GI F G;have hlen':h0.length≤r.length:=by rw [(fA b).1];simpa using uj _ _
    refine ⟨e,hlen',fun p i z=> ?_⟩;obtain ⟨cvs,C,o,B⟩:=iZ s p z k d;have a:(vs.flatMap fun q=>lM (ag hp) 6 (fO (cZ q.1)))=(vs.map (·.1)).flatMap (cl (ag hp)):=by rw [Xzv];rfl
    rw [a] at j;obtain ⟨n,S',x,y,A⟩:=lT p i o (uj _ _) j b hbase;have D:cvs.length=1:=by
     have:=aY o;have f:=(fA j).1;simp at f this;omega
    match cvs,D with
    | [cv],_=>
     obtain ⟨f,I⟩:=Iu A;refine ⟨cv,kN C B,n,S', ?_⟩;rw [← I] at x y;refine ⟨x,y,cv,rfl, ?_⟩;rw [I];exact f
   ·rename_i l g j;cases h;obtain ⟨e,d⟩:=GI F G;have hlen':h0.length≤r.length:=by rw [(fA b).1];simpa using uj _ _
    refine ⟨e,hlen',fun p i z=> ?_⟩;obtain ⟨cvs,C,o,B⟩:=iZ s p z k d;have a:(vs.flatMap fun q=>lM (ag hp) 6 (fO (cZ q.1)))=(vs.map (·.1)).flatMap (cl (ag hp)):=by rw [Xzv];rfl
    rw [a] at j;obtain ⟨n,S',x,y,A⟩:=lT p i o (uj _ _) j b hbase;have u:OB cvs= .tuple cvs.toArray:=by
     match cvs with
     | []=>rfl
     | [cv]=>
      exfalso;have:=aY o;have f:=(fA j).1;simp at f this
      match l,g with
      | [],_=>simp at f;omega
      | [v],g=>exact g v rfl
      |_::_::_,_=>simp at f;omega
     |_::_::_=>rfl
    refine ⟨_,kN C B,n,S',x,y, ?_⟩;rw [u];exact ⟨_,rfl,cvs,rfl,A⟩
   ·cases h
 ·cases h
theorem xm {h0 g:List aK} {v:AV} {hp:Hp} {m m0:aI} {S S0:aB} {w w0:World} {c c':Cx} {out:h_} (h:Hq h0.length v hp c= .ok (out,g) c'):
  c=c'∧h0.length≤g.length∧(bi ap (ag hp) m S w→Fr (aC h0) m0 S0 w0 (ag hp) m S w→∀ cv,VR (ag hp) m S v cv→(∀ b ver n,v ≠ .ref b ver 0 n)→
   ∃ q S',zO ap h0 m0 S0 w0 out g q S' w (.panicked [{v:=cv,recovered:=false}])):=by
 unfold Hq at h;dsimp only at h;split at h
 ·rename_i p y d f;split at h
  ·cases h
  ·rename_i hbase;cases h;have hlen':h0.length≤g.length:=by rw [(fA f).1];simpa using uj _ _
   refine ⟨rfl,hlen',fun u r cv l s=> ?_⟩;have z:f_ (nD (QQ (ag hp) h0.length) (ag hp) ([v].flatMap (cl (ag hp)))) [v]=some [p]:=by
    simp only [Xqg,Xwm,υ,f_];have x:nD (QQ (ag hp) h0.length) (ag hp) (cl (ag hp) v) v=some p:=d;rw [x]
   obtain ⟨q,S',j,o,t⟩:=lT u r (vs:= [v]) (cvs:= [cv]) (by simp only [aX];exact ⟨l,trivial⟩) (uj _ _) z f hbase;have a:∀ xs k e,p ≠ .own xs k e:=by
    rintro xs k e rfl
    cases wV d with
    |own h1 h2 h3 j o t=>exact s _ _ _ rfl
    |low h1=>exact vg l _ _ _ rfl
    |frz h1 h2=>
     exact AQ (jr u (fun b B i=>by split at i;exact i;cases i) 6 v cv _ h2 l) _ _ _ rfl
   rw [dw a] at t;rw [bU _ a] at j o;exact ⟨q,S',j,o,cv,rfl,t.1⟩
 ·cases h
end
end AM
namespace AM
open Go
def oq (S:aB):AV→FrameMode→Prop
 | .nilI,u=>u= .returning
 | .ifc t v,u=> ∃ cv,u= .panicking [{v:=cv,recovered:=false}]∧PR S (.ifc t v) cv
 |_,_=>False
def KI (md md':AV) (u u':FrameMode):Prop:=(md'=md∧u'=u)∨(md'= .nilI∧settle u'= .returning)
structure VX (P:Program) (ap:AP) (f:Nat) (args:List AV) (h:List aK) (out:h_) (h':List aK) (md md':AV):Prop where
 ent:qR P f
 calls:∀ m S w cargs u,bi ap (aC h) m S w→aX (aC h) m S args cargs→oq S md u→CallsD P f cargs.toArray u w fun e u' w'=>(∃ m' S',zO ap h m S w out h' m' S' w' e)∧KI md md' u u'
def oZ (P:Program) (ap:AP) (H:bI):Prop:=∀ c md f args h out h' md' c',md ≠ .dead→H c md f args h= .ok (out,h',md') c'→c'.Ok→c.Ok∧VX P ap f args h out h' md md'
structure Eo (P:Program) (ap:AP):Prop where
 fn:∀ (f:Nat) (F:AF),ap.fnAt f=some F→P.funcs[f]? =some F.fn
 body:∀ (f:Nat) (F:AF),ap.fnAt f=some F→∃ c,F.fn.body=some c∧dm F.fn.ntmps c=true
 name:∀ (f:Nat) (F:AF),ap.fnAt f=some F→(F.fn.name== "runtime.NumGoroutine")=false
section
variable {P:Program} {ap:AP} {H:bI}
theorem sO (a:Eo P ap) {f:Nat} {F:AF} (b:ap.fnAt f=some F):qR P f:=by
 intro args w;obtain ⟨c,d,_⟩:=a.body f F b;unfold callFunc;rw [Sem.run_bind];have:(program).run P w= .ok P w:=rfl;rw [this,Result.andThen_ok,a.fn f F b];dsimp only;rw [a.name f F b];simp [d]
theorem J9 {S:aB} {md:AV} {u:FrameMode} (h:oq S md u):settle u=u∧u ≠ .run:=by
 cases md<;>simp only [oq] at h
 ·obtain ⟨cv,rfl,_⟩:=h;exact ⟨rfl,by simp⟩
 ·subst h;exact ⟨rfl,by simp⟩
theorem nG (K:dF P ap) (U:oZ P ap H):
  ∀ (dfs:List (Nat × List AV)) (mode mode':AV) (hp hp':Hp) (c c':Cx),Cm ap H dfs mode hp c= .ok (mode',hp') c'→c'.Ok→c.Ok∧
   ∀ (h0:List aK) (p:Func) (tmps:Array Value) (env:dE) (RR:Ending→World→Prop) (m0:aI) (S0:aB) (w0:World) m S w j u,bi ap (ag hp) m S w→Fr (aC h0) m0 S0 w0 (ag hp) m S w→(∀ t,VR (ag hp) m S (env.get t) (tmps.getD t undef))→dW (ag hp) m S dfs j→oq S mode u→
   (∀ m' S' w' l,bi ap (ag hp') m' S' w'→Fr (aC h0) m0 S0 w0 (ag hp') m' S' w'→(∀ t,VR (ag hp') m' S' (env.get t) (tmps.getD t undef))→oq S' mode' l→Leaves P p tmps RR [] l w')→Leaves P p tmps RR j u w
 | [],mode,mode',hp,hp',c,c',h,hc=>by
  cases h;refine ⟨hc,fun h0 p tmps env RR m0 S0 w0 m S w j u F n z s hm L=> ?_⟩;cases j with
  |nil=>exact L m S w u F n z hm
  |cons _ _=>simp [dW] at s
 | (f, args)::r,mode,mode',hp,hp',c,c',h,hc=>by
  simp only [Cm] at h;split at h
  ·cases h
  ·rename_i hrefs;simp only [η] at hrefs;have J:mode ≠ .dead:=by rintro rfl;cases hrefs.1
   obtain ⟨q,c1,X,h⟩:=R.bind_ok h;split at h
   ·rename_i v y;obtain ⟨A,ih⟩:=nG K U r q.md mode' (q.ups++hp) hp' c1 c' h hc;obtain ⟨args0,hh0,T,N,e2,V,hg⟩:=wI X;obtain ⟨G,O⟩:=U _ _ _ _ _ _ _ _ _ J e2 A;refine ⟨G,fun h0 p tmps env RR m0 S0 w0 m S w j u F n z s hm L=> ?_⟩;cases j with
    |nil=>simp [dW] at s
    | cons d j=>
     simp only [dW] at s;obtain ⟨⟨k,Q,Z⟩,h3⟩:=s;have hfresh:∀ i,i<4→ag hp (fB hp+i)=none:=by
      intro i _;cases W:ag hp (fB hp+i) with
      |none=>rfl
      |some B=>have:=lG W;omega
     have hcall:=hg (ag hp) m S w (d.args++k).toList (fun cargs R=>CallsD P f cargs.toArray u w fun e l w'=>R e w'∧KI mode q.md u l)
      (fun cargs R R' o a=>CallsD.mono o fun e l w' g=> ⟨a e w' g.1,g.2⟩) F (fun b _ B hB=>hB) hfresh Z
      (fun m1 S1 D o a=>O.calls m1 S1 w _ u o a (by
       cases mode<;>simp only [oq] at hm ⊢
       ·obtain ⟨cv,C,g⟩:=hm;exact ⟨cv,C,bK D _ g⟩
       ·exact hm))
     obtain ⟨x,M⟩:=J9 hm;refine ⟨M,.func f,k,f,d.args++k,Q, ?_, ?_⟩
     ·rw [Q];exact O.ent _ w
     ·rw [Array.toArray_toList] at hcall;refine CallsD.mono hcall ?_
      rintro e l w' ⟨⟨m',S',o,a,g⟩,h7⟩
      rw [y] at g;obtain ⟨cv,rfl,g⟩:=g;rw [jA] at o a g;refine ih h0 p tmps env RR m0 S0 w0 m' S' w' j (settle l) o (n.trans a) (fun t=>kE a.sle a.ge _ (z t)) (sJ a.sle a.ge h3) ?_ L;rcases h7 with ⟨I,rfl⟩|⟨I,Y⟩
      ·rw [x,I];cases mode<;>simp only [oq] at hm ⊢
       ·obtain ⟨cv,C,E⟩:=hm;exact ⟨cv,C,bK a.sle _ E⟩
       ·exact hm
      ·rw [I,Y];rfl
   ·cases h
theorem dI {n f:Nat} (h:n≤f):∀ (c:Code),dm n c=true→dm f c=true
 | .region _ ops _,hd=>by
  simp only [dm,List.all_eq_true] at hd ⊢;intro o g;have:=hd o g;unfold uK at this ⊢;split
  ·rename_i d e;rw [e] at this;exact Nat.ble_eq_true_of_le (Nat.le_trans (eG this) h)
  ·rfl
 | .seq a b,hd=>by simp only [dm,η] at hd ⊢;exact ⟨dI h a hd.1,dI h b hd.2⟩
 | .cond _ a b,hd=>by simp only [dm,η] at hd ⊢;exact ⟨dI h a hd.1,dI h b hd.2⟩
 | .block _ b,hd=>by simp only [dm] at hd ⊢;exact dI h b hd
 | .loop b,hd=>by simp only [dm] at hd ⊢;exact dI h b hd
 | .scope b,hd=>by simp only [dm] at hd ⊢;exact dI h b hd
 | .skip,_=>rfl
 | .label _,_=>rfl
 | .exit _,_=>rfl
 | .ret,_=>rfl
 | .rangeFunc _ _ _ _,_=>rfl
 | .goto _,_=>rfl
 | .refuse _,_=>rfl
theorem yj {α:Type}:∀ (l:List α) (j t:Nat),ag ((l.zipIdx j).map fun (x,i)=>(i,x)) t=if j≤t then l[t - j]? else none
 | [],j,t=>by simp [ag]
 | a::r,j,t=>by
  rw [List.zipIdx_cons,χ];simp only [ag];cases h:Δ j t with
  |true=>have:=aF h;subst this;simp
  | false=>
   have b:j ≠ t:=by intro e;subst e;simp at h
   simp only [yj r (j+1) t];by_cases hj:j+1≤t
   ·rw [if_pos hj,if_pos (by omega)];obtain ⟨d,c⟩:∃ d,t - j=d+1:=⟨t - j - 1,by omega⟩
    rw [c,List.getElem?_cons_succ,show t - (j+1)=d by omega]
   ·rw [if_neg hj,if_neg (by omega)]
theorem Ai {h:List aK} {args:List AV} {cargs:List Value} {m:aI} {S:aB} {w:World} {md:AV} (g:bi ap (aC h) m S w) (i:aX (aC h) m S args cargs) (n:Nat):
  ag (dO md args h).hp=aC h∧FR ap (dO md args h).env (dO md args h).hp [] (cargs.toArray++Array.replicate (n - cargs.toArray.size) undef).size m S w {tmps:=cargs.toArray++Array.replicate (n - cargs.toArray.size) undef,defers:= []}:=by
 have c:ag (dO md args h).hp=aC h:=by
  funext b;have:=yj h 0 b;simp only [dO,aC];rw [this,if_pos (Xqp _),Xz6]
 refine ⟨c,⟨c ▸ g, ?_,by simp [dW],rfl⟩⟩;intro t;rw [c];have e:(dO md args h).env.get t=(args[t]?).getD .dead:=by
  have:=yj args 0 t;simp only [dO,dE.get];rw [this,if_pos (Xqp _),Xz6]
 rw [e];cases f:args[t]? with
 |none=>simp [VR]
 | some x=>
  obtain ⟨v,d,j⟩:=pq i t f;have a:=(List.getElem?_eq_some_iff.1 d).1;have:(cargs.toArray++Array.replicate (n - cargs.toArray.size) undef).getD t undef=v:=by
   rw [Array.getD_eq_getD_getElem?,Array.getElem?_append_left (by simpa using a)];simp [d]
  rw [this];exact j
theorem wQ (l:dF P ap) (M:oZ P ap H) {h0 z:List aK} {y:Func} {e:aV} {s:St} {c c':Cx} {out:h_} {C:AV} (h:Ah ap H h0.length y e s c= .ok (out,z,C) c') (F:c'.Ok):
  c.Ok∧h0.length≤z.length∧∀ m0 S0 w0 m S w a nt,Fr (aC h0) m0 S0 w0 (ag s.hp) m S w→FR ap s.env s.hp s.dfs nt m S w a→lH s.hp m S (bodyPostD P y fun e w'=> ∃ p S',zO ap h0 m0 S0 w0 out z p S' w' e) a w e:=by
 have x:∀ mode,((Cm ap H s.dfs mode s.hp c).bind fun (mode,hp) c=>
   match mode with
   | .nilI=>(tZ ap h0.length y s.env hp c).bind fun (o,h) c=> .ok (o,h,s.md) c
   | .ifc t v=>(Hq h0.length (.ifc t v) hp c).bind fun (o,h) c=> .ok (o,h,s.md) c
   |_=> .bad 74)= .ok (out,z,C) c'→c.Ok∧h0.length≤z.length∧∀ m0 S0 w0 m S w a nt u,Fr (aC h0) m0 S0 w0 (ag s.hp) m S w→FR ap s.env s.hp s.dfs nt m S w a→oq S mode u→Leaves P y a.tmps (fun e w'=> ∃ p S',zO ap h0 m0 S0 w0 out z p S' w' e) a.defers u w:=by
  intro mode i;obtain ⟨⟨mode',hp'⟩,T,K,i⟩:=R.bind_ok i;dsimp only at i;split at i
  ·obtain ⟨⟨o,r⟩,U,B,i⟩:=R.bind_ok i;cases i;obtain ⟨E,g,A⟩:=kG (P:=P) (m:=fun _=>(0,0)) (m0:=fun _=>(0,0)) (S:=fun _ _=>none) (S0:=fun _ _=>none) (w:=default) (w0:=default) (tmps:=#[]) l B F;obtain ⟨q,J⟩:=nG l M s.dfs mode _ s.hp hp' c T K E;refine ⟨q,g,fun m0 S0 w0 m S w a nt u d f hm=> ?_⟩;refine J h0 y a.tmps s.env _ m0 S0 w0 m S w a.defers u f.srel d f.env f.dfs hm ?_;intro p S' w' O j k L D;simp only [oq] at D;subst D;obtain ⟨_,_,A⟩:=kG (P:=P) (m:=p) (m0:=m0) (S:=S') (S0:=S0) (w:=w') (w0:=w0) (tmps:=a.tmps) l B F;obtain ⟨cv,I,Q⟩:=A j k L;exact ⟨cv,I,Q⟩
  ·rename_i t v;obtain ⟨⟨o,r⟩,U,B,i⟩:=R.bind_ok i;cases i;obtain ⟨rfl,g,_⟩:=xm (ap:=ap) (m:=fun _=>(0,0)) (m0:=fun _=>(0,0)) (S:=fun _ _=>none) (S0:=fun _ _=>none) (w:=default) (w0:=default) B;obtain ⟨q,J⟩:=nG l M s.dfs mode _ s.hp hp' c _ K F;refine ⟨q,g,fun m0 S0 w0 m S w a nt u d f hm=> ?_⟩;refine J h0 y a.tmps s.env _ m0 S0 w0 m S w a.defers u f.srel d f.env f.dfs hm ?_;intro p S' w' O j k L D;simp only [oq] at D;obtain ⟨cv,rfl,I⟩:=D;obtain ⟨_,_,G⟩:=xm (ap:=ap) (m:=p) (m0:=m0) (S:=S') (S0:=S0) (w:=w') (w0:=w0) B;exact G j k cv (d_ _ I) (fun b ver n h=>by cases h)
  ·cases i
 unfold Ah at h;dsimp only at h;split at h
 ·obtain ⟨r,j,k⟩:=x .nilI h;exact ⟨r,j,fun m0 S0 w0 m S w a nt d f=>k m0 S0 w0 m S w a nt .returning d f rfl⟩
 ·obtain ⟨r,j,k⟩:=x .nilI h;exact ⟨r,j,fun m0 S0 w0 m S w a nt d f=>k m0 S0 w0 m S w a nt .returning d f rfl⟩
 ·rename_i t v;split at h
  ·rename_i V;obtain ⟨r,j,k⟩:=x (.ifc t v) h;refine ⟨r,j,fun m0 S0 w0 m S w a nt d f cv N=>k m0 S0 w0 m S w a nt _ d f ⟨cv,rfl, ?_⟩⟩;exact lm (by simpa [cZ] using V) N
  ·cases h
 ·cases h
theorem rq (j:dF P ap) (d:P.follows .mixedOrders=true) (i:Eo P ap) (y:gY P ap H) (J:oZ P ap H) (lf:Nat):gY P ap fun c md f args h=>lL ap H lf md f args h c:=by
 intro c f args h out G v c' b B;have b:lL ap H lf .dead f args h c= .ok (out,G,v) c':=b;unfold lL at b;split at b
 ·cases b
 ·rename_i F r;dsimp only at b;obtain ⟨⟨e,s⟩,K,p,b⟩:=R.bind_ok b;dsimp only at b;obtain ⟨a,x,g⟩:=i.body f F r;have hbody:ae F.fn=a:=by simp [ae,x]
  rw [hbody] at p;obtain ⟨l,n,k⟩:=wQ j J b B;obtain ⟨t,_⟩:=dN (nt:=F.fn.ntmps) j d y a g _ _ _ _ _ p l;refine ⟨t,n,sO i r,fun m S w cargs D z=> ?_⟩;obtain ⟨E,u⟩:=Ai (md:= .dead) D z F.fn.ntmps;have q:F.fn.ntmps≤(cargs.toArray++Array.replicate (F.fn.ntmps - cargs.toArray.size) undef).size:=by simp;omega
  obtain ⟨_,o⟩:=dN j d y a (dI q a g) _ _ _ _ _ p l;obtain ⟨_,o⟩:=o rfl;refine calls_of_wp_defers (i.fn f F r) x ?_;refine o m S w m S w _ (by rw [E];exact Fr.refl _ _ _ _) u _ ?_;intro A S' w' a' I C;exact k m S w A S' w' a' _ I C
end
end AM
namespace AM
open Go
section
variable {P:Program} {ap:AP} {H:bI}
theorem QT {o:Oper} {a:Act} {K K':Act→World→Prop} {Q Q':Exit→Act→World→Prop} {r:Result Next} (c:∀ a w,K a w→K' a w) (d:∀ e a w,Q e a w→Q' e a w) (f:¬ LetsOut Q) (h:o.upon P a K Q r):o.upon P a K' Q' r:=by
 cases r with
 | ok n w'=>
  cases n<;>simp only [Oper.upon] at h ⊢ <;>
   first
    |exact c _ _ h
    |exact Calls.mono h (fun e g b=>by cases e<;>first|exact c _ _ b|exact d _ _ _ b|exact absurd b f)
    |exact Rows.mono h (fun _ _ b=>c _ _ b)
 |halt x w'=>cases x<;>simp only [Oper.upon] at h ⊢ <;>exact d _ _ _ h
theorem ja {ops:Array Oper} {Q:Exit→Act→List Frame→World→Prop} {cs:List Frame} {Q':Exit→Act→World→Prop} (c:∀ e a w,Q' e a w→Q e a cs w) (b:¬ LetsOut Q'):∀ (l:List Nat) (a:Act) (w:World),wpOps P ops Q' l a w→wpOpsS P ops Q l a cs w
 | [],a,w,h=>c _ _ _ h
 | i ::rest,a,w,h=>by
  simp only [wpOps] at h;simp only [wpOpsS];cases f:ops[i]? with
  |none=>
   simp only [f] at h ⊢;exact ja c b rest a w h
  | some o=>
   simp only [f] at h ⊢;by_cases hw:Region.wanted o (yielded ops a.tmps)=true
   ·rw [if_pos hw] at h ⊢;rcases h with h|⟨_,h⟩
    ·unfold Oper.wp at h;split
     ·rename_i w' g;rw [g] at h;exact h.elim
     ·exact QT (fun a w d=>ja c b rest a w d) (fun e a w d=>c e a w d) b h
    ·exact absurd h b
   ·rw [if_neg hw] at h ⊢;exact ja c b rest _ w h
theorem aez {Q:Exit→Act→World→Prop}:¬ LetsOut (fun e a w=>e ≠ .outgrown∧Q e a w):=fun ⟨_,_,h,_⟩=>h rfl
theorem JU {a:Act} {o:Oper} {args:Array Operand} {argTypes:Array TypeId} (h:o.op= .call {callee:= .builtin .recover,args,argTypes}) (w:World):(execOp a.eval o).run P w= .ok .recover w:=by
 unfold execOp;rw [h];rfl
theorem FR.env_cons {env:dE} {hp:Hp} {dfs:List (Nat × List AV)} {nt:Nat} {m:aI} {S:aB} {w:World} {a:Act} (h:FR ap env hp dfs nt m S w a) {d:Nat} (c:d<nt) {v:AV} {cv:Value} (b:VR (ag hp) m S v cv):FR ap ((d,v)::env) hp dfs nt m S w (a.put (some d) cv):=by
 refine ⟨h.srel,fun t=> ?_,by rw [l_];exact h.dfs,by rw [aG];exact h.size⟩;by_cases ht:d=t
 ·subst ht;rw [dh _ _ _ (by rw [h.size];exact c)];have:dE.get ((d,v)::env) d=v:=iw (env:=env);rw [this];exact b
 ·rw [jZ _ _ _ (fun e=>ht (by cases e;rfl))];have:dE.get ((d,v)::env) t=env.get t:=wR (env:=env) (dst:=some d) (fun e=>ht (by cases e;rfl));rw [this];exact h.env t
theorem wH (l:dF P ap) (C:P.follows .mixedOrders=true) (G:Eo P ap) (hH:gY P ap H) (lf:Nat):oZ P ap fun c md f args h=>lL ap H lf md f args h c:=by
 intro c md f args h out h' Y c' hmd g hc;have g:lL ap H lf md f args h c= .ok (out,h',Y) c':=g;unfold lL at g;split at g
 ·cases g
 ·rename_i F hF;split at g
  ·exact absurd rfl hmd
  ·split at g
   ·rename_i hrefs;simp only [η] at hrefs;obtain ⟨W,I,k⟩:=G.body f F hF;have hbody:ae F.fn=W:=by simp [ae,I]
    unfold Rt at g;rw [hbody] at g;split at g
    ·rename_i id ops rest;split at g
     ·rename_i o r j;split at g
      ·rename_i args' argTypes d hop hg hd;dsimp only at g;obtain ⟨⟨s1,p⟩,c1,e1,g⟩:=R.bind_ok g;dsimp only at g;split at g
       ·cases g
       ·obtain ⟨⟨e,s2⟩,c2,e2,g⟩:=R.bind_ok g;dsimp only at g;split at g
        ·cases g
        ·rename_i K;have A:∃ X,(e= .normal∨e= .ret)∧tZ ap h.length F.fn s2.env s2.hp c2= .ok (out,h') X∧Y= .nilI∧X=c':=by
          split at g
          ·obtain ⟨⟨o1,h1⟩,X,J,g⟩:=R.bind_ok g;cases g;exact ⟨_,.inl rfl,J,rfl,rfl⟩
          ·obtain ⟨⟨o1,h1⟩,X,J,g⟩:=R.bind_ok g;cases g;exact ⟨_,.inr rfl,J,rfl,rfl⟩
          ·cases g
         obtain ⟨X,A,J,rfl,rfl⟩:=A;obtain ⟨T,hlen,_⟩:=kG (P:=P) (m:=fun _=>(0,0)) (m0:=fun _=>(0,0)) (S:=fun _ _=>none) (S0:=fun _ _=>none) (w:=default) (w0:=default) (tmps:=#[]) l J hc;simp only [dm,η] at k;obtain ⟨N,_⟩:=dN (nt:=F.fn.ntmps) l C hH rest k.2 _ _ _ _ _ e2 T;have q:∀ nt,F.fn.ntmps≤nt→∀ o' ∈ o::r,∀ d,o'.dst=some d→d<nt:=by
          intro nt z o' ho' d' hd';have:=List.all_eq_true.1 k.1 o' (by rw [j];exact ho');simp only [uK,hd'] at this;exact Xqd (dR this) z
         obtain ⟨hc0,_⟩:=ku (nt:=F.fn.ntmps) l hH (ops:=o::r) (q _ (ε _)) r 1 _ _ _ _ _ _ e1 N;refine ⟨hc0,sO G hF,fun m S w cargs u hS hv hm=> ?_⟩;obtain ⟨hh,hFR⟩:=Ai (md:= .dead) hS hv F.fn.ntmps;have z:F.fn.ntmps≤(cargs.toArray++Array.replicate (F.fn.ntmps - cargs.toArray.size) undef).size:=by simp;omega
         obtain ⟨_,hx⟩:=dN l C hH rest (dI z rest k.2) _ _ _ _ _ e2 T;obtain ⟨_,hs⟩:=ku l hH (ops:=o::r) (q _ z) r 1 _ _ _ _ _ _ e1 N;obtain ⟨M,hs⟩:=hs rfl (fun t b I=>by cases I) rfl (fun b B I=>lG I);obtain ⟨_,hx⟩:=hx M;have O:=q _ z o (by simp) d hd;refine callsD_of_wpS (G.fn f F hF) I fun c₀ cs hc₀=> ?_
         have i:∃ cv n,oq S md u∧VR (ag (dO .dead args h).hp) m S md cv∧settle n= .returning∧((recoverD (c₀::cs)=some (cv,{c₀ with mode:=n}::cs))∨(recoverD (c₀::cs)=none∧cv= .nilIface∧{c₀ with mode:=n}=c₀)):=by
          cases md<;>simp only [oq] at hm
          ·obtain ⟨cv,rfl,hp⟩:=hm;exact ⟨cv,.panicking [{v:=cv,recovered:=true}],⟨cv,rfl,hp⟩,d_ _ hp,rfl,.inl (by simp [recoverD,hc₀])⟩
          ·subst hm;exact ⟨.nilIface,.returning,rfl,by simp only [VR,PR],rfl,.inr ⟨by simp [recoverD,hc₀],rfl,by rw [← hc₀]⟩⟩
         obtain ⟨cv,n,_,Z,E,i⟩:=i;have hcont:∀ (Q:Exit→Act→List Frame→World→Prop),(∀ e a w',(∃ m' S',Fr (aC h) m S w (ag s2.hp) m' S' w'∧FR ap s2.env s2.hp s2.dfs (cargs.toArray++Array.replicate (F.fn.ntmps - cargs.toArray.size) undef).size m' S' w' a)→(e= .normal∨e= .ret)→Q e a ({c₀ with mode:=n}::cs) w')→
           wpOpsS P ops (Exit.thenS (rest.wpS P Q) Q) (Xjt 1 r.length) (({tmps:=cargs.toArray++Array.replicate (F.fn.ntmps - cargs.toArray.size) undef,defers:= []}:Act).put (some d) cv) ({c₀ with mode:=n}::cs) w:=by
          intro Q hQ;have hopsA:ops=(o::r).toArray:=by rw [← j]
          rw [hopsA];refine ja (Q':=fun e a w'=>e ≠ .outgrown∧e= .normal∧rest.wpS P Q a ({c₀ with mode:=n}::cs) w') ?_ aez _ _ _ ?_
          ·rintro e a w' ⟨_,rfl,hh⟩
           exact hh
          ·refine hs m S w _ (hFR.env_cons O Z) _ ?_;intro m1 S1 w1 a1 h3 U;refine ⟨by simp,rfl,wpS_of_wp ?_⟩;rw [hh] at h3;obtain ⟨m2,h5,h6⟩:=jd (keep:=F.keep) (s:=⟨s1.env,s1.hp,s1.md,s1.dfs⟩) h3 U;refine hx m S w m2 S1 w1 a1 h5 h6 _ ?_;intro m3 S3 w3 a3 h7 h8;rcases A with rfl|rfl
           ·exact hQ .normal a3 w3 ⟨m3,S3,h7,h8⟩ (.inl rfl)
           ·exact hQ .ret a3 w3 ⟨m3,S3,h7,h8⟩ (.inr rfl)
         have D:∀ e a w',(∃ m' S',Fr (aC h) m S w (ag s2.hp) m' S' w'∧FR ap s2.env s2.hp s2.dfs (cargs.toArray++Array.replicate (F.fn.ntmps - cargs.toArray.size) undef).size m' S' w' a)→(e= .normal∨e= .ret)→
           bodyPostS P F.fn c₀ cs (fun e n w'=>(∃ m' S',zO ap h m S w out h' m' S' w' e)∧KI md .nilI u n) e a ({c₀ with mode:=n}::cs) w':=by
          rintro e a w' ⟨m',S',h3,U⟩ hee
          obtain ⟨_,_,hro⟩:=kG (P:=P) (m:=m') (m0:=m) (S:=S') (S0:=S) (w:=w') (w0:=w) (tmps:=a.tmps) l J hc;obtain ⟨V,h5,h6⟩:=hro U.srel h3 U.env;have L:a.defers= []:=by
           have:=U.dfs;rw [K] at this;cases hd:a.defers with
           |nil=>rfl
           |cons x y=>rw [hd] at this;simp [dW] at this
          rcases hee with rfl|rfl
          ·exact ⟨L,n,rfl,V,h5,h6,.inr ⟨rfl,E⟩⟩
          ·exact ⟨L,n,rfl,V,h5,h6,.inr ⟨rfl,E⟩⟩
         refine wpS_seq (wpS_region ?_);have hrange:Xqf ops.size=0::Xjt 1 r.length:=by
          have:ops.size=r.length+1:=by rw [← Array.length_toList,j];simp
          rw [this,List.range_eq_range',List.range'_succ]
         rw [hrange];have ho0:ops[0]? =some o:=by
          have:ops.toList[0]? =some o:=by rw [j];rfl
          simpa using this
         simp only [wpOpsS,ho0,Region.wanted,hg,if_true,JU hop];rw [hd];rcases i with i|⟨i,rfl,hsame⟩
         ·rw [i];exact hcont _ D
         ·rw [i];have:=hcont _ D;rw [hsame] at this;exact this
      ·cases g
     ·cases g
    ·cases g
   ·cases g
end
end AM
namespace AM
open Go
def H5 (P:Program) (ap:AP) (lf:Nat) (fs:List Nat):Nat→bI
 |0=>fun _ _ _ _ _=> .bad 90
 | n+1=>fun c md f args h=>
  match lw fs f with
  |false=>lL ap (H5 P ap lf fs n) lf md f args h c
  |true=>match md,c.ans with
   | .dead,(out,h')::r=> .ok (out,h',.dead) {c with ans:=r,ps:=ah P ap f args h out h'::c.ps}
   |_,_=> .bad 91
theorem DR {P:Program} {ap:AP} (d:dF P ap) (b:P.follows .mixedOrders=true) (g:Eo P ap) (lf:Nat) (l:List Nat):∀ n,gY P ap (H5 P ap lf l n)∧oZ P ap (H5 P ap lf l n)
 |0=> ⟨fun _ _ _ _ _ _ _ _ h=>(by cases h),fun _ _ _ _ _ _ _ _ _ _ h=>(by cases h)⟩
 | n +1=>by
  obtain ⟨m,o⟩:=DR d b g lf l n;constructor
  ·intro c f args h out k e c' a i;simp only [H5] at a;split at a
   ·exact rq d b g m o lf c f args h out k e c' a i
   ·split at a
    ·cases a;exact ⟨⟨i.bs,fun p hp=>i.ps p (by simp [hp])⟩,i.ps _ (by simp)⟩
    ·cases a
  ·intro c md f args h out k e c' j a i;simp only [H5] at a;split at a
   ·exact wH d b g m lf c md f args h out k e c' j a i
   ·split at a
    ·exact absurd rfl j
    ·cases a
theorem ML {P:Program} {ap:AP} (d:dF P ap) (a:P.follows .mixedOrders=true) (b:Eo P ap) {lf:Nat} {g:List Nat} {n:Nat} {c c':Cx} {f:Nat} {args:List AV} {h e:List aK} {out:h_} {md:AV}
  (he:lL ap (H5 P ap lf g n) lf .dead f args h c= .ok (out,e,md) c') (hc:c'.Ok):ah P ap f args h out e:=by
 obtain ⟨i,j⟩:=DR d a b lf g n;exact (rq d a b i j lf c f args h out e md c' he hc).2
def BL:Option AF→Bool
 |some F=>(match F.fn.body with|some c=>dm F.fn.ntmps c|none=>false) && !(F.fn.name== "runtime.NumGoroutine")
 |none=>true
theorem V8 {P:Program} {ap:AP} (h:(Xqf ap.nty).map ap.ty.get=(Xqf ap.nty).map (Vz P)) (hm:ap.mt.all (mtB P)=true:=by rfl):dF P ap:=by
 refine ⟨?_,hm⟩;intro t e a;unfold AP.tyAt at a;split at a
 ·rename_i b;have d:=dR b;have c:((Xqf ap.nty).map ap.ty.get)[t]? =some (some e):=by rw [Ψ,Xja d];simp [a]
  rw [h,Ψ,Xja d] at c;simpa using c
 ·cases a
theorem WN {P:Program} {ap:AP} {keep:Nat→Bool} (h:(Xqf ap.nfn).map (fun i=>(ap.fn.get i).map AF.fn)=(Xqf ap.nfn).map fun i=>match keep i with|true=>P.funcs[i]? |false=>none) (l:(Xqf ap.nfn).all (fun i=>BL (ap.fn.get i))=true):Eo P ap:=by
 have d:∀ (f:Nat) (F:AF),ap.fnAt f=some F→f<ap.nfn∧ap.fn.get f=some F:=by
  intro f F a;unfold AP.fnAt at a;split at a
  ·rename_i g;exact ⟨dR g,a⟩
  ·cases a
 have hgood:∀ (f:Nat) (F:AF),ap.fnAt f=some F→BL (some F)=true:=by
  intro f F a;obtain ⟨e,j⟩:=d f F a;have:=List.all_eq_true.1 l f (by simpa using e);rwa [j] at this
 constructor
 ·intro f F a;obtain ⟨e,j⟩:=d f F a;have b:((Xqf ap.nfn).map fun i=>(ap.fn.get i).map AF.fn)[f]? =some (some F.fn):=by rw [Ψ,Xja e];simp [j]
  rw [h,Ψ,Xja e] at b;simp only [Xqr,Option.some.injEq] at b;split at b
  ·exact b
  ·cases b
 ·intro f F a;have:=hgood f F a;simp only [BL,η] at this;cases k:F.fn.body with
  |none=>rw [k] at this;cases this.1
  |some c=>rw [k] at this;exact ⟨c,rfl,this.1⟩
 ·intro f F a;have:=hgood f F a;simp only [BL,η,Xqk] at this;exact this.2
end AM
namespace AM
open Go
section
variable {P:Program} {ap:AP}
def rvM (L:List Nat) (b v:Nat):Nat:=match lw L b with|true=>1|false=>v
def XM (L:List Nat) (hp:Hp):Nat→Nat→Option (Nat × Nat):=fun b v=>match ag hp b with
 |some B=>match Δ B.ver v with|true=>some (b,rvM L b v)|false=>none
 |none=>none
def QJ (L:List Nat) (hp:Hp) (b:Nat) (B:aK):aK:={B with cells:=(match B.pr with|true=>B.cells|false=>jO (XM L hp) B.cells),ver:=rvM L b B.ver}
def VV (L:List Nat) (s:St):St:=
 ⟨s.env.map fun q=>(q.1,ren (XM L s.hp) q.2),s.hp.map fun q=>(q.1,QJ L s.hp q.1 q.2),s.md,s.dfs.map fun d=>(d.1,jO (XM L s.hp) d.2)⟩
theorem yf {α β:Type} (f:Nat→α→β):∀ (l:List (Nat × α)) (t:Nat),ag (l.map fun q=>(q.1,f q.1 q.2)) t=(ag l t).map (f t)
 | [],t=>rfl
 |(a,x)::l,t=>by
  simp only [χ,ag];cases h:Δ a t with
  |true=>have:=aF h;subst this;rfl
  |false=>exact yf f l t
theorem UH {h0:List aK} {L:List Nat} {s:St} {nt:Nat} {m m0:aI} {S S0:aB} {w w0:World} {a:Act} (F:∀ b ∈ L,∀ B0,aC h0 b=some B0→B0.ver=0) (c:Fr (aC h0) m0 S0 w0 (ag s.hp) m S w) (j:FR ap s.env s.hp s.dfs nt m S w a):
  Fr (aC h0) m0 S0 w0 (ag (VV L s).hp) m S w∧FR ap (VV L s).env (VV L s).hp (VV L s).dfs nt m S w a:=by
 have u:∀ b,ag (VV L s).hp b=(ag s.hp b).map (QJ L s.hp b):=fun b=>yf (QJ L s.hp) s.hp b
 have f:∀ b C,ag (VV L s).hp b=some C→∃ B,ag s.hp b=some B∧C=QJ L s.hp b B:=fun b C h=>by
  rw [u] at h;cases n:ag s.hp b with
  |none=>rw [n] at h;cases h
  |some B=>rw [n] at h;cases h;exact ⟨B,rfl,rfl⟩
 have g:mV (ag s.hp) m (ag (VV L s).hp) m (XM L s.hp):=by
  intro b ver p z h B n A;simp only [XM,n] at h;split at h
  ·rename_i l;have l:=aF l;cases h;refine ⟨QJ L s.hp b B,by rw [u,n];rfl, ?_,fun _=> ⟨l,rfl,rfl⟩⟩;show rvM L b ver≤rvM L b B.ver;rw [l];exact ε _
  ·cases h
 refine ⟨⟨fun b B0 y=> ?_,c.sle,c.os,c.tape,c.output,c.size,c.rest,fun b C k=> ?_,c.sealN,fun b C k=> ?_⟩,⟨⟨fun b D C C' h G e=> ?_,fun b C k=> ?_,j.srel.sealed,fun b C k o v E=> ?_,j.srel.glob⟩,fun t=> ?_, ?_,j.size⟩⟩
 ·obtain ⟨B,i,r,I⟩:=c.ge b B0 y;refine ⟨QJ L s.hp b B,by rw [u,i];rfl,r, ?_⟩;show (rvM L b B.ver=B0.ver∧m b=m0 b)∨B0.ver<rvM L b B.ver;unfold rvM;cases hm:lw L b with
  |false=>exact I
  |true=>
   have:=F b (gp.1 hm) B0 y;exact .inr (by show B0.ver<1;omega)
 ·obtain ⟨B,i,rfl⟩:=f b C k;exact c.img b B i
 ·obtain ⟨B,i,rfl⟩:=f b C k;exact c.mw b B i
 ·obtain ⟨B,i,rfl⟩:=f b C h;obtain ⟨B',r,rfl⟩:=f D C' G;exact j.srel.inj b D B B' i r e
 ·obtain ⟨B,i,rfl⟩:=f b C k;obtain ⟨⟨cur,e,vs,rest,k1,k2,k3,k4,k5,k6⟩,k7,k8⟩:=j.srel.blk b B i;cases d:B.pr with
  |true=>exact ⟨⟨cur,e,vs,rest,k1,k2,fun _=>by simpa [QJ,d] using k3 d,by simpa [QJ,d] using aZ _ (k3 d),k5,k6⟩,k7,by simpa [QJ,d] using k8⟩
  | false=>
   have l:=iI (gZ.refl S) g _ k4;exact ⟨⟨cur,e,vs,rest,k1,k2,fun h=>by simp [QJ,d] at h,by simpa [QJ,d] using l,k5,k6⟩,k7,by
    have:(QJ L s.hp b B).cells.length=B.cells.length:=by simp only [QJ,d];rw [aY k4,aY l]
    rw [this];exact k8⟩
 ·obtain ⟨B,i,rfl⟩:=f b C k;exact j.srel.own b B i o v E
 ·have e:(VV L s).env.get t=ren (XM L s.hp) (s.env.get t):=by
   show (ag (s.env.map fun q=>(q.1,ren (XM L s.hp) q.2)) t).getD .dead=ren (XM L s.hp) ((ag s.env t).getD .dead);rw [yf (fun _ x=>ren (XM L s.hp) x)];cases ag s.env t<;>rfl
  rw [e];exact qX (gZ.refl S) g _ (j.env t)
 ·exact wo (gZ.refl S) g j.dfs
def VL (h0:List aK) (L:List Nat):Bool:=L.all fun b=>match aC h0 b with|some B0=>Δ B0.ver 0|none=>true
theorem VM {h0:List aK} {L:List Nat} (h:VL h0 L=true):∀ b ∈ L,∀ B0,aC h0 b=some B0→B0.ver=0:=fun b a B0 c=>by
 have:=List.all_eq_true.1 h b a;rw [c] at this;exact Nat.eq_of_beq_eq_true this
def ahT (h0:List aK) (L K:List Nat) (s:St):St:=AM.norm h0.length K (match L with| []=>s|_=>VV L s)
theorem af.tid {h0:List aK} {nt:Nat} {c:Code} {e:aV} {s s2:St} {L K:List Nat} (n:VL h0 L=true) (h:af P ap h0 nt c (ahT h0 L K s) e s2):af P ap h0 nt c s e s2:=by
 intro hs;have key:∀ s1:St,s1.md=s.md→(∀ m0 S0 w0 m S w a,Fr (aC h0) m0 S0 w0 (ag s.hp) m S w→FR ap s.env s.hp s.dfs nt m S w a→Fr (aC h0) m0 S0 w0 (ag s1.hp) m S w∧FR ap s1.env s1.hp s1.dfs nt m S w a)→af P ap h0 nt c (AM.norm h0.length K s1) e s2→s2.md= .dead∧∀ m0 S0 w0 m S w a,Fr (aC h0) m0 S0 w0 (ag s.hp) m S w→FR ap s.env s.hp s.dfs nt m S w a→∀ Q,XA ap h0 m0 S0 w0 nt s2 e Q→c.wp P Q a w:=by
  intro s1 hm t h;obtain ⟨k,j⟩:=h (by show s1.md=_;rw [hm,hs]);refine ⟨k,fun m0 S0 w0 m S w a f u Q q=> ?_⟩;obtain ⟨i,r⟩:=t m0 S0 w0 m S w a f u;obtain ⟨p,o,l⟩:=jd (keep:=K) i r;exact j m0 S0 w0 p S w a o l Q q
 cases L with
 |nil=>exact key s rfl (fun _ _ _ _ _ _ _ d g=> ⟨d,g⟩) h
 |cons b L=>exact key (VV (b::L) s) rfl (fun _ _ _ _ _ _ _ d g=>UH (VM n) d g) h
end
end AM
namespace AM
open Go
def bD (P:Program) (ap:AP) (h0:List aK) (n:Nat) (code:Code) (s:St) (e:aV) (s':St):Prop:=∀ nt,n≤nt→af P ap h0 nt code s e s'
abbrev qQ:=List (aV × St × Option (List Nat × List Nat))
def XZ (P:Program) (ap:AP) (h0:List aK) (nt:Nat) (code:Code) (s:St):qQ→Cx→R ((aV × St) × qQ)
 |(e,s',none)::r,c=> .ok ((e,s'),r) {c with ps:=bD P ap h0 nt code s e s'::c.ps}
 |(e,s',some (L,K))::r,c=>match VL h0 L with
  |true=> .ok ((e,s'),r) {c with ps:=bD P ap h0 nt code (ahT h0 L K s) e s'::c.ps}
  |false=> .bad 64
 | [],_=> .bad 62
def kJ (P:Program) (ap:AP) (H:bI) (h0:List aK) (keep:List Nat) (lf nt:Nat) (ls:List Nat):Code→St→qQ→Cx→R ((aV × St) × qQ)
 | .seq a b,s,l,c=>(kJ P ap H h0 keep lf nt ls a s l c).bind fun r c=>match r.1.1 with
  | .normal=>kJ P ap H h0 keep lf nt ls b r.1.2 r.2 c
  |e=> .ok ((e,r.1.2),r.2) c
 | .cond t a b,s,l,c=>match qG ap s.env t with
  | .bool x=>(xK c x).bind fun x c=>match x with
   |true=>kJ P ap H h0 keep lf nt ls a s l c
   |false=>kJ P ap H h0 keep lf nt ls b s l c
  |_=> .bad 60
 | .block id b,s,l,c=>match lw ls id with
  |true=>XZ P ap h0 nt (.block id b) s l c
  |false=>(kJ P ap H h0 keep lf nt ls b s l c).bind fun r c=>match r.1.1 with
   | .exit id'=>match Δ id' id with|true=> .ok ((.normal,r.1.2),r.2) c|false=> .ok ((.exit id',r.1.2),r.2) c
   |e=> .ok ((e,r.1.2),r.2) c
 | .scope b,s,l,c=>kJ P ap H h0 keep lf nt ls b s l c
 | .region id ops draw,s,l,c=>match lw ls (id+1000) with
  |true=>XZ P ap h0 nt (.region id ops draw) s l c
  |false=>(jR ap H h0.length keep lf (.region id ops draw) s c).bind fun r c=> .ok (r,l) c
 |code,s,l,c=>(jR ap H h0.length keep lf code s c).bind fun r c=> .ok (r,l) c
section
variable {P:Program} {ap:AP} {H:bI}
theorem af.seq {h0:List aK} {nt:Nat} {x y:Code} {s s1 s2:St} {e:aV} (g:af P ap h0 nt x s .normal s1) (d:af P ap h0 nt y s1 e s2):af P ap h0 nt (.seq x y) s e s2:=by
 intro b;obtain ⟨i,f⟩:=g b;obtain ⟨p,o⟩:=d i;refine ⟨p,fun m0 S0 w0 m S w a c n Q k=>wp_seq (f m0 S0 w0 m S w a c n _ ?_)⟩;intro l S' w' a' j h;exact o m0 S0 w0 l S' w' a' j h Q k
theorem af.seq_out {h0:List aK} {nt:Nat} {x y:Code} {s s1:St} {e:aV} (c:e ≠ .normal) (g:af P ap h0 nt x s e s1):af P ap h0 nt (.seq x y) s e s1:=by
 intro b;obtain ⟨h,f⟩:=g b;refine ⟨h,fun m0 S0 w0 m S w a d k Q i=>wp_seq (f m0 S0 w0 m S w a d k _ ?_)⟩;intro j S' w' a' n l;have:=i j S' w' a' n l;cases e with
 |normal=>exact absurd rfl c
 |exit id=>exact this
 |ret=>exact this
 |panic v=>exact this
theorem af.cond {h0:List aK} {nt:Nat} {t:Operand} {x y:Code} {s s':St} {e:aV} {c:Bool} (g:qG ap s.env t= .bool c) (h:af P ap h0 nt (if c then x else y) s e s'):af P ap h0 nt (.cond t x y) s e s':=by
 intro b;obtain ⟨k,j⟩:=h b;refine ⟨k,fun m0 S0 w0 m S w a f d Q i=>wp_cond (t:=c) ?_ (j m0 S0 w0 m S w a f d Q i)⟩;have:=vI d.srel (a:=a) (env:=s.env) t (fun t _=>d.env t);rw [g] at this;simpa only [VR,PR] using this
def lq (id:Nat):aV→aV
 | .exit id'=>match Δ id' id with|true=> .normal|false=> .exit id'
 |e=>e
theorem af.block {h0:List aK} {nt:Nat} {id:Nat} {b:Code} {s s':St} {e:aV} (h:af P ap h0 nt b s e s'):af P ap h0 nt (.block id b) s (lq id e) s':=by
 intro f;obtain ⟨k,j⟩:=h f;refine ⟨k,fun m0 S0 w0 m S w a i o Q l=>wp_block (j m0 S0 w0 m S w a i o _ ?_)⟩;intro n S' w' a' q p;have c:=l n S' w' a' q p;cases e with
 |normal=>exact c
 |ret=>exact c
 |panic v=>exact c
 | exit id'=>
  simp only [lq] at c;split at c
  ·rename_i d;show Exit.inBlock id Q (.exit id') a' w';simp only [Exit.inBlock,if_pos (aF d)];exact c
  ·rename_i d;show Exit.inBlock id Q (.exit id') a' w';have g:id' ≠ id:=by intro e;subst e;simp at d
   simp only [Exit.inBlock,if_neg g];exact c
theorem af.scope {h0:List aK} {nt:Nat} {b:Code} {s s':St} {e:aV} (h:af P ap h0 nt b s e s'):af P ap h0 nt (.scope b) s e s':=by
 intro d;obtain ⟨i,g⟩:=h d;refine ⟨i,fun m0 S0 w0 m S w a f l Q j=>wp_scope_straight (g m0 S0 w0 m S w a f l _ ?_)⟩;intro k S' w' a' o n;have c:=j k S' w' a' o n;cases e with
 |normal=>exact c
 |exit id=>exact c
 |ret=>exact c
 |panic v=>exact c
theorem D_ {h0:List aK} {n nt:Nat} (d:n≤nt) {a:Code} {s:St} {l:qQ} {r:(aV × St) × qQ} {c c':Cx} (h:XZ P ap h0 n a s l c= .ok r c') (b:c'.Ok):c.Ok∧af P ap h0 nt a s r.1.1 r.1.2:=by
 match l,h with
 |(e,s',none)::_,h=>
  cases h;exact ⟨⟨b.bs,fun p hp=>b.ps p (Xql _ hp)⟩,b.ps _ (Xqs ..) nt d⟩
 | (e,s',some (L,K))::_,h=>
  simp only [XZ] at h;split at h
  ·rename_i f;cases h;exact ⟨⟨b.bs,fun p hp=>b.ps p (Xql _ hp)⟩,af.tid f (b.ps _ (Xqs ..) nt d)⟩
  ·cases h
theorem rH (A:dF P ap) (p:P.follows .mixedOrders=true) (F:gY P ap H) {h0:List aK} {keep:List Nat} {lf n nt:Nat} (C:n≤nt) {G:List Nat}:∀ (a:Code),dm nt a=true→∀ (s:St) (l:qQ) (r:(aV × St) × qQ) (c c':Cx),kJ P ap H h0 keep lf n G a s l c= .ok r c'→c'.Ok→c.Ok∧af P ap h0 nt a s r.1.1 r.1.2:=by
 have hbase:∀ (a:Code),dm nt a=true→∀ (s:St) (l:qQ) (r:(aV × St) × qQ) (c c':Cx),((jR ap H h0.length keep lf a s c).bind fun r c=> .ok (r,l) c)= .ok r c'→c'.Ok→c.Ok∧af P ap h0 nt a s r.1.1 r.1.2:=by
  intro a d s l r c c' h f;obtain ⟨⟨e,s'⟩,u,k,h⟩:=R.bind_ok h;cases h;exact dN A p F a d s e s' c _ k f
 intro a
 induction a with
 | seq x y ihx ihy=>
  intro d s l r c c' h f;simp only [dm,η] at d;simp only [kJ] at h;obtain ⟨⟨⟨m,s1⟩,B⟩,u,k,h⟩:=R.bind_ok h;dsimp only at h;have hother:m ≠ .normal→R.ok ((m,s1),B) u=R.ok r c'→c.Ok∧af P ap h0 nt (.seq x y) s r.1.1 r.1.2:=by
   intro z D;cases D;obtain ⟨g,i⟩:=ihx d.1 _ _ _ _ _ k f;exact ⟨g,i.seq_out z⟩
  cases m with
  |normal=>
   dsimp only at h;obtain ⟨j,E⟩:=ihy d.2 _ _ _ _ _ h f;obtain ⟨g,i⟩:=ihx d.1 _ _ _ _ _ k j;exact ⟨g,i.seq E⟩
  |exit id=>exact hother (by simp) h
  |ret=>exact hother (by simp) h
  |panic v=>exact hother (by simp) h
 | cond t x y ihx ihy=>
  intro d s l r c c' h f;simp only [dm,η] at d;simp only [kJ] at h;split at h
  ·rename_i J w;obtain ⟨I,u,k,h⟩:=R.bind_ok h;cases I with
   |true=>
    obtain ⟨j,i⟩:=ihx d.1 _ _ _ _ _ h f;obtain ⟨g,o⟩:=jV k j;exact ⟨g,af.cond w (by rw [← o];exact i)⟩
   |false=>
    obtain ⟨j,i⟩:=ihy d.2 _ _ _ _ _ h f;obtain ⟨g,o⟩:=jV k j;exact ⟨g,af.cond w (by rw [← o];exact i)⟩
  ·cases h
 | block id b ih=>
  intro d s l r c c' h f;simp only [dm] at d;simp only [kJ] at h;split at h
  ·exact D_ C h f
  ·obtain ⟨⟨⟨m,s1⟩,B⟩,u,k,h⟩:=R.bind_ok h;dsimp only at h;have q:r=((lq id m,s1),B)∧u=c':=by
    cases m<;>dsimp only at h
    ·cases h;exact ⟨rfl,rfl⟩
    ·unfold lq;split at h<;>cases h<;>rename_i o<;>dsimp only<;>rw [o]<;>exact ⟨rfl,rfl⟩
    ·cases h;exact ⟨rfl,rfl⟩
    ·cases h;exact ⟨rfl,rfl⟩
   obtain ⟨rfl,rfl⟩:=q;obtain ⟨g,i⟩:=ih d _ _ _ _ _ k f;exact ⟨g,i.block⟩
 |scope b ih=>
  intro d s l r c c' h f;simp only [dm] at d;simp only [kJ] at h;obtain ⟨g,i⟩:=ih d _ _ _ _ _ h f;exact ⟨g,i.scope⟩
 |skip=>exact fun d s l r c c' h f=>hbase _ d s l r c c' h f
 |region id ops draw=>
  intro d s l r c c' h f;simp only [kJ] at h;split at h
  ·exact D_ C h f
  ·exact hbase _ d s l r c c' h f
 |loop _ _=>exact fun d s l r c c' h f=>hbase _ d s l r c c' h f
 |rangeFunc _ _ _ _=>exact fun d s l r c c' h f=>hbase _ d s l r c c' h f
 |exit _=>exact fun d s l r c c' h f=>hbase _ d s l r c c' h f
 |label _=>exact fun d s l r c c' h f=>hbase _ d s l r c c' h f
 |goto _=>exact fun d s l r c c' h f=>hbase _ d s l r c c' h f
 |ret=>exact fun d s l r c c' h f=>hbase _ d s l r c c' h f
 |refuse _=>exact fun d s l r c c' h f=>hbase _ d s l r c c' h f
def Nq (P:Program) (ap:AP) (H:bI) (lf:Nat) (ls:List Nat) (f:Nat) (args:List AV) (h:List aK) (l:qQ) (c:Cx):R (h_ × List aK × AV):=
 match ap.fnAt f with
 |none=> .bad 80
 |some F=>(kJ P ap H h F.keep lf F.fn.ntmps ls (ae F.fn) (dO .dead args h) l c).bind fun r c=>Ah ap H h.length F.fn r.1.1 r.1.2 c
theorem Ru (n:dF P ap) (g:P.follows .mixedOrders=true) (d:Eo P ap) (B:gY P ap H) (J:oZ P ap H) {lf:Nat} {C:List Nat} {f:Nat} {args:List AV} {h y:List aK} {l:qQ} {c c':Cx} {out:h_} {u:AV}
  (b:Nq P ap H lf C f args h l c= .ok (out,y,u) c') (hc:c'.Ok):ah P ap f args h out y:=by
 unfold Nq at b;split at b
 ·cases b
 ·rename_i F r;obtain ⟨⟨⟨e,s⟩,L⟩,K,x,b⟩:=R.bind_ok b;dsimp only at b;obtain ⟨a,v,o⟩:=d.body f F r;have hbody:ae F.fn=a:=by simp [ae,v]
  rw [hbody] at x;obtain ⟨q,k,i⟩:=wQ n J b hc;refine ⟨k,sO d r,fun m S w cargs E z=> ?_⟩;obtain ⟨G,t⟩:=Ai (md:= .dead) E z F.fn.ntmps;have j:F.fn.ntmps≤(cargs.toArray++Array.replicate (F.fn.ntmps - cargs.toArray.size) undef).size:=by simp;omega
  obtain ⟨_,p⟩:=rH n g B j a (dI j a o) _ _ _ _ _ x q;obtain ⟨_,p⟩:=p rfl;refine calls_of_wp_defers (d.fn f F r) v ?_;refine p m S w m S w _ (by rw [G];exact Fr.refl _ _ _ _) t _ ?_;intro A S' w' a' I D;exact i m S w A S' w' a' _ I D
end
end AM
namespace AM
open Go
def vW (P:Program) (ap:AP) (lf:Nat):Nat→bI
 |0=>fun _ _ _ _ _=> .bad 90
 | n+1=>fun c md f args h=>
  match md with
  | .dead=>match c.ans with
   |(out,h')::r=> .ok (out,h',.dead) {c with ans:=r,ps:=ah P ap f args h out h'::c.ps}
   |_=> .bad 91
  |md=>lL ap (vW P ap lf n) lf md f args h c
theorem iD {P:Program} {ap:AP} (g:dF P ap) (b:P.follows .mixedOrders=true) (j:Eo P ap) (lf:Nat):∀ n,gY P ap (vW P ap lf n)∧oZ P ap (vW P ap lf n)
 |0=> ⟨fun _ _ _ _ _ _ _ _ h=>(by cases h),fun _ _ _ _ _ _ _ _ _ _ h=>(by cases h)⟩
 | n+1=>by
  obtain ⟨l,m⟩:=iD g b j lf n;constructor
  ·intro c f args h out k d c' a i;simp only [vW] at a;split at a
   ·cases a;exact ⟨⟨i.bs,fun p hp=>i.ps p (by simp [hp])⟩,i.ps _ (by simp)⟩
   ·cases a
  ·intro c md f args h out k d c' e a i;have a:lL ap (vW P ap lf n) lf md f args h c= .ok (out,k,d) c':=by
    cases md<;>first|exact absurd rfl e|exact a
   exact wH g b j l lf c md f args h out k d c' e a i
inductive Ir:List Prop→Prop where
 |nil:Ir []
 |cons {p:Prop} {l:List Prop}:p→Ir l→Ir (p::l)
theorem Ir.mem {l:List Prop} (h:Ir l):∀ p ∈ l,p:=by
 induction h with
 |nil=>intro p hp;cases hp
 |cons hp _ ih=>
  intro q a;rcases List.mem_cons.1 a with rfl|a
  ·exact hp
  ·exact ih q a
inductive kH:List Bool→Prop where
 |nil:kH []
 |t {l:List Bool}:kH l→kH (true::l)
 |c {b:Bool} {l:List Bool}:b=true→kH l→kH (b::l)
theorem kH.mem {l:List Bool} (h:kH l):∀ b ∈ l,b=true:=by
 induction h with
 |nil=>intro p hp;cases hp
 |t _ ih=>
  intro q a;rcases List.mem_cons.1 a with rfl|a
  ·rfl
  ·exact ih q a
 |c hp _ ih=>
  intro q a;rcases List.mem_cons.1 a with rfl|a
  ·exact hp
  ·exact ih q a
structure yO (P:Program) (ap:AP):Prop where
 apok:dF P ap
 mixed:P.follows .mixedOrders=true
 fnok:Eo P ap
theorem Qb {P:Program} {ap:AP} (g:yO P ap) {lf n:Nat} {ans:List (h_ × List aK)} {ps:List Prop} {f:Nat} {args:List AV} {h a:List aK} {out:h_} (hp:Ir ps)
  (he:lL ap (vW P ap lf n) lf .dead f args h ⟨true,[],[],[],ans,[]⟩= .ok (out,a,.dead) ⟨true,[],[],ps,[],[]⟩):ah P ap f args h out a:=by
 obtain ⟨d,e⟩:=iD g.apok g.mixed g.fnok lf n;exact (rq g.apok g.mixed g.fnok d e lf _ f args h out a .dead _ he ⟨fun b c=>(by cases c),hp.mem⟩).2
end AM
namespace AM
open Go Go.ChangeShapes Go.WideShapes Go.ChangeAt Go.RowKit
def nU:Lit→Value
 | .int k n=> .int k n
 | .bool b=> .bool b
 | .string s=> .string ⟨s.toArray⟩
 |_=> .nilFunc
def Jk:Lit→AV
 | .int k n=> .int k n
 | .bool b=> .bool b
 | .string s=> .str s
 |_=> .dead
def CE:Lit→Bool
 | .int _ _=>true
 | .bool _=>true
 | .string _=>true
 |_=>false
def Jl (f:TypeId→DataW Unit→Nat→Option (List (Nat × Lit))):List (TypeId × Nat)→List (DataW Unit)→Option (List (Nat × Lit))
 | [],[]=>some []
 |(t,o)::r,d::ds=>match f t d o,Jl f r ds with
  |some a,some b=>some (a++b)
  |_,_=>none
 |_,_=>none
def kK (P:Program):Nat→TypeId→DataW Unit→Nat→Option (List (Nat × Lit))
 |0,_,_,_=>none
 |n+1,t,d,off=>match P.underlying t,d with
  |some (.struct fs),.agg ds=>Jl (kK P n) (fs.toList.map fun f=>(f.type,off+f.offset)) ds
  |some (.array m e),.agg ds=>Jl (kK P n) ((Xqf m).map fun i=>(e,off+i*P.cellsOf e)) ds
  |some (.int _),.lit (.int k n)=>some [(off,.int k n)]
  |some .bool,.lit (.bool b)=>some [(off,.bool b)]
  |some .string,.lit (.string s)=>some [(off,.string s)]
  |_,_=>none
theorem CB {f:TypeId→DataW Unit→Nat→Option (List (Nat × Lit))}:∀ {ts:List (TypeId × Nat)} {ds:List (DataW Unit)} {l:List (Nat × Lit)},Jl f ts ds=some l→ts.length=ds.length∧∀ x ∈ l,∃ (i:Nat) (t o:Nat) (d:DataW Unit) (a:List (Nat × Lit)),ts[i]? =some (t,o)∧ds[i]? =some d∧f t d o=some a∧x ∈ a
 | [],[],l,h=>by simp [Jl] at h;subst h;simp
 | (t,o)::r,d::ds,l,h=>by
  simp only [Jl] at h;split at h
  ·rename_i a b m e;cases h;obtain ⟨p,s⟩:=CB e;refine ⟨by simp [p],fun x c=> ?_⟩;rcases List.mem_append.1 c with c|c
   ·exact ⟨0,t,o,d,a,rfl,rfl,m,c⟩
   ·obtain ⟨i,u,n,k,a',j,g,v,q⟩:=s x c;exact ⟨i+1,u,n,k,a',by simpa using j,by simpa using g,v,q⟩
  ·cases h
 | [],_::_,_,h=>by simp [Jl] at h
 |_::_,[],_,h=>by simp [Jl] at h
theorem lX {P:Program} {w:World} {base:Nat} {L:Nat→Bool} {z:Bool}:∀ (n:Nat) (t:TypeId) (d:DataW Unit) (off:Nat) (l:List (Nat × Lit)),kK P n t d off=some l→∀ (c:Nat) (cs:List Value) (p:List MemPlace),DataW.trod (fun _=>()) P w base L z c t cs=some (d,p)→∀ x ∈ l,∃ j,x.1=off+j∧cs[j]? =some (nU x.2)
 |0,_,_,_,_,h=>by simp [kK] at h
 | n +1,t,d,off,l,h=>by
  intro c cs p g x u;simp only [kK] at h;split at h
  ·rename_i T Q q;cases c with
   |zero=>simp [DataW.trod] at g
   | succ m=>
    simp only [DataW.trod,q] at g;split at g
    ·obtain ⟨O,hm,o⟩:=Option.map_eq_some_iff.1 g;simp only [Prod.mk.injEq,DataW.agg.injEq] at o;obtain ⟨rfl,rfl⟩:=o;obtain ⟨M,E⟩:=CB h;obtain ⟨i,N,J,R,a,A,v,I,D⟩:=E x u;rw [Ψ,Xqb] at A;obtain ⟨f,F,y⟩:=A;simp only [Prod.mk.injEq] at y;obtain ⟨rfl,rfl⟩:=y;obtain ⟨b,C,G⟩:=Lib.mapM_at hm i f F;rw [Ψ,C] at v;simp only [Xqr,Option.some.injEq] at v;subst v;obtain ⟨j,K,r⟩:=lX n _ _ _ _ I m _ b.2 G x D;refine ⟨f.offset+j,by omega, ?_⟩;rw [Xxn] at r;split at r
     ·rwa [Xx0] at r
     ·cases r
    ·cases g
  ·rename_i k e Q q;cases c with
   |zero=>simp [DataW.trod] at g
   | succ m=>
    simp only [DataW.trod,q] at g;split at g
    ·obtain ⟨O,hm,o⟩:=Option.map_eq_some_iff.1 g;simp only [Prod.mk.injEq,DataW.agg.injEq] at o;obtain ⟨rfl,rfl⟩:=o;obtain ⟨M,E⟩:=CB h;obtain ⟨i,N,J,R,a,A,v,I,D⟩:=E x u;rw [Ψ,Xqb] at A;obtain ⟨f,F,y⟩:=A;simp only [Prod.mk.injEq] at y;obtain ⟨rfl,rfl⟩:=y;obtain ⟨b,C,G⟩:=Lib.mapM_at hm i f F;rw [Ψ,C] at v;simp only [Xqr,Option.some.injEq] at v;subst v;obtain ⟨j,K,r⟩:=lX n _ _ _ _ I m _ b.2 G x D;refine ⟨f*P.cellsOf e+j,by omega, ?_⟩;rw [Xxn] at r;split at r
     ·rwa [Xx0] at r
     ·cases r
    ·cases g
  ·rename_i S k U q;cases h;simp at u;subst u;obtain ⟨n2,rfl,B,_⟩:=DataW.trod_int q g;simp only [Prod.mk.injEq,DataW.lit.injEq,Lit.int.injEq] at B;obtain ⟨⟨rfl,rfl⟩,_⟩:=B;exact ⟨0,rfl,rfl⟩
  ·rename_i b q;cases h;simp at u;subst u;cases c with
   |zero=>simp [DataW.trod] at g
   |succ m=>
    unfold DataW.trod at g;rw [q] at g;split at g<;>simp_all
    rfl
  ·rename_i s q;cases h;simp at u;subst u;cases c with
   |zero=>simp [DataW.trod] at g
   |succ m=>
    unfold DataW.trod at g;rw [q] at g;split at g<;>simp_all
    obtain ⟨_,rfl,_⟩:=g;rfl
  ·cases h
theorem wZ {P:Program} {w:World}:∀ {l:List (String × DataW Unit)} {ps:List MemPlace},DataW.LaidVars P w l ps→∀ n d,(n,d) ∈ l→∃ g t cs a p,P.globalNamed n=some g∧(P.globals[g]?).map (·.type)=some t∧w.var? P n=some cs∧DataW.trod (fun _=>()) P w 0 (fun _=>true) false a t cs.toList=some (d,p)
 | [],_,_,n,d,hm=>by cases hm
 | (n',d')::r,ps,h,n,d,hm=>by
  obtain ⟨g,t,cs,a,p,q,e,f,c,b,i,_⟩:=h;rcases List.mem_cons.1 hm with he|hm
  ·cases he;exact ⟨g,t,cs,a,p,e,f,c,b⟩
  ·exact wZ i n d hm
theorem LJ {P:Program} {W:World} {a:List (String × DataW Unit)} (h:laidMetH P a W) (e:a.filter (fun x=>x.2.handleName?.isSome)= []) {n:String} {d:DataW Unit} (hm:(n,d) ∈ a) {g:Nat} {t:TypeId} (m:P.globalNamed n=some g) (w:(P.globals[g]?).map (·.type)=some t)
  {ls:List Lit} (hl:kK P 6 t d 0=some (ls.zipIdx.map fun (l,i)=>(i,l))):∀ (j:Nat) (l:Lit),ls[j]? =some l→W.cell? ⟨g,j,none⟩=some (nU l):=by
 have c:laidMet P a W:=by
  unfold laidMetH at h;rw [e] at h;exact h
 obtain ⟨ps,s,_⟩:=c;obtain ⟨g',z,cs,b,p,u,q,r,o⟩:=wZ s n d hm;obtain rfl:=Option.some.inj (m.symm.trans u);obtain rfl:=Option.some.inj (w.symm.trans q);intro j l y;obtain ⟨f,k,v⟩:=lX 6 t d 0 _ hl b cs.toList p o (j,l) (by
  rw [List.mem_map];exact ⟨(l,j),by rw [List.mem_zipIdx_iff_getElem?];exact y,rfl⟩)
 have:f=j:=by simp at k;exact k.symm
 subst this;rw [World.var?_cell m r f];simpa using v
def iG (W:World):aB:=fun k o=>match W.cell? ⟨k,o,none⟩ with|some v=>if v.oneCell' then some v else none|none=>none
theorem F_ {W:World} {k o:Nat} {v:Value} (h:W.cell? ⟨k,o,none⟩=some v) (a:v.oneCell'=true):iG W k o=some v:=by
 unfold iG;rw [h];simp only;rw [if_pos a]
theorem KE {W:World} {k o:Nat} {v:Value} (h:iG W k o=some v):bZ W k o=some v:=by
 unfold iG at h;split at h
 ·rename_i c a;split at h
  ·rename_i b;cases h;exact pG a b
  ·cases h
 ·cases h
theorem Iy (S:aB):∀ (ls:List Lit),ls.all CE=true→bu S (ls.map Jk) (ls.map nU)
 | [],_=>by simp [bu]
 |l::r,h=>by
  simp only [Xx5,η] at h;simp only [χ,bu];refine ⟨?_,Iy S r h.2⟩;cases l<;>simp only [Jk,nU,PR]<;>first|rfl|(exact absurd h.1 (by simp [CE]))
theorem LP {l:Lit} (h:CE l=true):(nU l).oneCell'=true:=by
 cases l<;>first|rfl|(exact absurd h (by simp [CE]))
def Q9 (ap:AP) (W:World):Prop:=∀ k xs,(ap.gl[k]?).join=some xs→∃ ls:List Lit,xs=ls.map Jk∧ls.all CE=true∧∀ (j:Nat) (l:Lit),ls[j]? =some l→W.cell? ⟨k,j,none⟩=some (nU l)
theorem WP {ap:AP} {W:World} (h:Q9 ap W):lI ap (iG W):=by
 intro k e f;obtain ⟨g,rfl,b,i⟩:=h k e f;refine ⟨g.map nU,Iy _ _ b, ?_⟩;intro j u c;rw [Ψ,Xqb] at c;obtain ⟨l,d,rfl⟩:=c;have a:=LP (List.all_eq_true.1 b l (Γ d));refine ⟨?_,a⟩;rw [Nat.zero_add];exact F_ (i j l d) a
theorem aaW {P:Program} {ap:AP} {f:Nat} {args:List AV} {b:Bool} (i:ah P ap f args [] (.ret (.bool b)) []) {W:World} (j:Q9 ap W) {cargs:List Value} (g:bu (iG W) args cargs):
  Calls P f cargs.toArray W fun e W'=>e= .returned (.bool b)∧Below W.heap.size W W':=by
 have m:bi ap (aC []) (fun _=>(0,0)) (iG W) W:=
  ⟨fun b n B B' h=>by simp [aC] at h,fun b B h=>by simp [aC] at h,fun k o v h=>KE h,fun b B h=>by simp [aC] at h,WP j⟩
 refine (i.calls (fun _=>(0,0)) (iG W) W cargs m (aZ _ g)).mono ?_
 rintro e W' ⟨m',S',hF⟩
 obtain ⟨_,a,c⟩:=hF;obtain ⟨cv,rfl,d⟩:=c;simp only [u_,VR,PR] at d;subst d;exact ⟨rfl,a.os,a.tape,a.output,a.size,fun k l=>a.rest k l fun b B h=>by simp [aC] at h⟩
def Au (P:Program) (ts:List TypeId):Bool:=ts.all fun t=>P.readableRec t && decide (t<P.types.size)
theorem uX {H:Type} {enc:TypeId × Value→H} {P:Program} (c:laidOutB P=true) {W W':World} {b:Nat→Bool}:∀ {ts:List TypeId} {vs:List Value} {ds:List (DataW H)} {ps:List MemPlace},Au P ts=true→DataW.TrodAll enc P W 0 (fun _=>true) true ts vs ds ps→(∀ p ∈ ps,W.sameAt W' p)→(∀ p ∈ ps,b p.block=true)→DataW.TrodAll enc P W' 0 b true ts vs ds ps
 | [],vs,ds,ps,_,h,_,_=>by
  obtain ⟨rfl,rfl,rfl⟩:=trodAll_nil h;rfl
 |t::ts,vs,ds,ps,hf,h,hs,hsp=>by
  obtain ⟨v,e,d,g,p,q,rfl,rfl,rfl,f,i⟩:=trodAll_cons h;simp only [Au,Xx5,η,decide_eq_true_eq] at hf;exact trodAll_cons_mk (WideElems.Trod_stays c hf.1.1 hf.1.2 f (fun x a=>hs x (by simp [a])) (fun x a=>hsp x (by simp [a]))) (uX c (by simpa [Au] using hf.2) i (fun x a=>hs x (by simp [a])) (fun x a=>hsp x (by simp [a])))
theorem ael {H:Type} {enc:TypeId × Value→H} {P:Program} {f:Func} {s:ChangeSpec} {apart fresh handsOn again:Bool} {W W':World} {args:Array Value} {g o:List (DataW H)} {before:List MemPlace} (y:laidOutB P=true) (w:Au P f.params.toList=true)
  (hW:DataW.Whole enc P f.params.toList s.vars apart W args.toList g o before) (hvars:s.vars= []) {tb:TypeId} (hr:f.resultTypes=#[tb]) (htb:P.underlying tb=some .bool) (hfn:s.fn H (g++o)={results:= [.lit (.bool true)],args:=g,vars:= []})
  (hb:Below W.heap.size W W'):s.post enc P f apart fresh handsOn again W args (.bool true) W':=by
 have e:∀ p ∈ before,p.block<W.heap.size:=fun p hp=>hW.lt p hp
 have c:∀ p ∈ before,(fun b=>decide (b<W.heap.size)) p.block=true:=fun p hp=>by simpa using hW.lt p hp
 have i:=hW;obtain ⟨p,q,u,m,rfl,n,t⟩:=hW;rw [hvars] at m;obtain ⟨rfl,rfl⟩:=trodVars_none m;simp only [υ] at e c n t i hfn ⊢;have hargs:∀ a:Nat→Bool,(∀ x ∈ p,a x.block=true)→DataW.TrodAll enc P W' 0 a true f.params.toList args.toList (s.fn H g).args p:=by
  intro a l;rw [hfn];exact uX y w u (fun x h=>hb.same (e x h)) l
 have d:∀ (b:Nat) (a:Nat→Bool) (r:Bool),DataW.TrodAll enc P W' b a r f.resultTypes.toList ((Value.bool true).resultList f.resultTypes.size) (s.fn H g).results []:=by
  intro b a r;rw [hfn,hr];exact trodAll_cons_mk (p:= []) (shut_bool htb true) trodAll_mk0
 have j:∀ a:Nat→Bool,DataW.TrodVars enc P W' a s.vars (s.fn H g).vars []:=by
  intro a;rw [hvars,hfn];rfl
 refine ⟨g,[],p,[],p,[],i,by rw [υ];exact d _ _ _,by rw [υ];exact hargs _ c,by rw [υ];exact j _,World.keptBut_mono (fun x h=>h) (hb.frame _),fun _=> ?_⟩;refine ⟨ok_one hr rfl (okWide_bool_mk htb _),_,_,([]++p)++ [],⟨[]++p,[],trodAll_append (hargs _ (fun _ _=>rfl)) (d _ _ _),by simpa using j _,rfl, ?_, ?_⟩, ?_⟩
 ·intro b k hp;have hp':MemPlace.cell b k ∈ p:=by simpa using hp
  rw [hb.frozen (e _ hp')];exact n b k hp'
 ·intro v;simpa using t v
 ·intro x h _;simpa using h
end AM
