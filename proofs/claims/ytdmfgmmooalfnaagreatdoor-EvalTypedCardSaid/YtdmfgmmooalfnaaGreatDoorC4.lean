/- Contracts of functions that the law reaches, each by its own hypotheses; joined by a program of mine. -/
import Derived.Test.YtdmfgmmooalfnaaGreatDoorC3
import Derived.Test.YtdmfgmmooalfnaaGreatDoorC2
import Derived.Test.YtdmfgmmooalfnaaGreatDoorM5
import Derived.Test.YtdmfgmmooalfnaaGreatDoorC1
import Derived.Test.YtdmfgmmooalfnaaGreatDoorM4
import Derived.Test.YtdmfgmmooalfnaaGreatDoorCards
import Derived.Test.YtdmfgmmooalfnaaGreatDoorTie
import Derived.Deep.DeepHandedRow
import Derived.Laws.IdiomArrays
set_option linter.unusedSimpArgs false
set_option linter.unusedVariables false
set_option maxRecDepth 100000
open Go AM
open List renaming length_append→η,drop_left→Xj2,take_left→Xkm,append_assoc→τ,getD_eq_getElem?_getD→κ,getElem?_append_right→Xq2,getElem?_append_left→Xxb,map_append→Xxx,map_congr_left→Xjb,drop_append_of_le_length→Xjq,take_append_of_le_length→Xxn,length_drop→Xxk,drop_of_length_le→Xx8,nil_append→Xqi,cons_append→Xxd,map_cons→Xqb,length_nil→Xqa,length_map→Xjm,singleton_append→Xqu,length_singleton→φ,drop_zero→Xjr,take_of_length_le→υ,append_nil→Γ,map_nil→Xxt,drop_eq_getElem_cons→Xxf,getElem?_eq_getElem→π,map_drop→Xju,getLast?_concat→Xkj,length_take→Xxa,mem_of_mem_take→Xxz,mem_of_find?_eq_some→Xzo,find?_some→Xvd,headD→ζ,drop→ε,take→ν,flatMap_append→Xxi,flatMap_cons→Xxu,length→θ,flatMap→Yxt,find?_isSome→Xk6,getElem_mem→Xxv
open Nat renaming not_lt_zero→Xz5,add_assoc→Xxy,lt_or_ge→Xxc,add_sub_cancel_left→Xjo,zero_add→Xqd,sub_self→Xj4,le_refl→Δ,add_zero→Xq8,min_eq_left→Xjd,lt_trans→Xqz,two_pow_pos→Xqv,ble→Xqc,ble_eq_true_of_le→Xql,lt_of_le_of_lt→Xqk,mul_one→Ξ
open Bool renaming and_eq_true→ο,or_eq_true→Xzi,not_eq_true'→Xqw,true_and→Xqp,false_and→Xqm,not_true→Xqq,not_false→Xqf,and_assoc→Xkn,false_eq_true→Xx4
open IntKind renaming wrap→γ
open Int renaming toNat→δ,tmod→Xxj,one_mul→Yx6
open AV renaming bool→Xww,sl→Yq3
open Prod renaming ext→Xzu
open Decidable renaming em→Xxl
namespace Go.Proofs.Tryz
abbrev zcc4_0 : List AV := [ω 4,.bool false,.str [1],.str [1],.str [],ω 3,.bool false,.str [1],.str [1],.str [],ω 3,.bool false,.str [1],.str [1],.str [],ω 3,.bool false,.str [],.str [1],.str [],ω 12,.bool false,.str [],.str [],.str [],ω 15,.bool false,.str [],.str [],.str []]
abbrev zcc4_1 : List AV := [ω 4,.bool false,.str [],.str [1],.str [],ω 3,.bool false,.str [1],.str [1],.str [],ω 3,.bool false,.str [1],.str [1],.str [],ω 3,.bool false,.str [],.str [1],.str [],ω 12,.bool false,.str [],.str [],.str [],ω 15,.bool false,.str [],.str [],.str []]
abbrev zcc4_2 : List AV := [ω 3,.bool false,.str [2],.str [1],.str [],ω 3,.bool false,.str [1],.str [1],.str [],ω 3,.bool false,.str [],.str [1],.str [],ω 12,.bool false,.str [],.str [],.str [],ω 19,.bool false,.str [],.str [],.str []]
abbrev zcc4_3 : List AV := [ω 6,.bool false,.str [],.str [],.str [120],ω 3,.bool false,.str [1],.str [1],.str [],ω 3,.bool false,.str [],.str [1],.str [],ω 12,.bool false,.str [],.str [],.str [],ω 9,.bool false,.str [],.str [],.str []]
abbrev zcc4_4 : List AV := [.bool false,.str [],.str [1],.bool false,.str [],.str [1],.bool false,.str [100],.str [1],.bool false,.str [1],.str [10],.bool false,.str [1,44],.str [1],.bool false,.str [1],.str [4]]
abbrev zcc4_5 : List AV := [ω 4,.bool false,.str [1],.str [1],.str [],ω 3,.bool false,.str [2],.str [1],.str [],ω 18,.bool false,.str [],.str [],.str []]
abbrev zcc4_6 : List AV := [ω 1,.bool false,.str [1],.str [2],.str [],ω 1,.bool false,.str [1],.str [3],.str [],ω 9,.bool false,.str [],.str [],.str []]
abbrev zcc4_7 : List AV := [.bool false,.str [1],.str [1],ω 0,.bool false,.str [3],.str [1],ω 0,.bool true,.str [2],.str [1],ω 0]
abbrev zcc4_8 : List AV := [ω 1,.bool false,.str [200],.str [1],.str [],ω 24,.bool false,.str [],.str [],.str [115]]
abbrev zcc4_9 : List AV := [ω 3,.bool false,.str [5],.str [4],.str [],ω 23,.bool false,.str [1],.str [2],.str []]
abbrev zcc4_10 : List AV := [ω 3,.bool true,.str [1],.str [4],.str [],ω 21,.bool false,.str [1],.str [2],.str []]
abbrev zcc4_11 : List AV := [ω 6,.str [120],.bool false,.str [5],.str [1],ω 0]
abbrev zcc4_12 : List AV := [ω 6,.str [120],.bool false,.str [],.str [],ω 17]
abbrev zcc4_13 : List AV := [ω 6,.bool false,.str [],.str [],.str [120]]
abbrev zcc4_14 : List AV := [ω 3,.bool false,.str [1],.str [1],.str []]
abbrev zcc4_15 : List AV := [ω 3,.bool false,.str [],.str [1],.str []]
theorem yT {x:Nd} {r:List Nd} {d:Nat} (a:aO x=0) (h:dM x.op≤d):iE (x::r) d=iE r (d - dM x.op+1):=by
 simp only [iE];rw [if_pos a,if_neg (by omega)]
theorem Ah {l:List Sg} {x:Nd} {r:List Nd} {k:Nat} {st ws:List Nat} {ts own:List Ty} {t:Ty} (d:ws.length=dM x.op) (a:fQ ts ws=own) (c:gU l x own=(t,0)):m_ l (x::r) k (st++ws) ts=m_ l r (k+1) (st++ [k]) (ts++ [t]):=by
 have b:(st++ws).length - dM x.op=st.length:=by rw [η];omega
 simp only [m_,b,Xj2,Xkm];rw [a,c];simp
theorem wM (ts b rest:List Ty) (a:Ty):(ts++(b++ [a])++rest).getD (ts.length+b.length) zT=a:=by
 rw [τ,τ,κ,Xq2 (by omega),Xq2 (by omega)];simp
inductive Beg (ps:List (List Nat)):Nat→Nat→Prop where
 |z {i:Nat}:ps[i]? =some []→Beg ps i i
 |s {i c b:Nat} {r:List Nat}:ps[i]? =some (c::r)→c<i→Beg ps c b→Beg ps i b
structure Pf (l:List Sg) (e:List Nd) (u:List Ty) (ws:List Nat) (ps:Nat→List (List Nat)):Prop where
 len:u.length=e.length
 al:∀ k,(ps k).length=e.length
 emp:ws= []→e= []
 arg:∀ r k st,p_ (e++r) k st=ps k++p_ r (k+e.length) (st++ws.map (k+·))
 beg:∀ k pre post,pre.length=k→∀ i,i<e.length→∃ b,b≤i∧Beg (pre++(ps k++post)) (k+i) (k+b)∧Tm l ((e.drop b).take (i+1 - b)) (u.getD i zT)
 top:∀ w ws',ws=w::ws'→w<e.length∧∀ k pre post,pre.length=k→Beg (pre++(ps k++post)) (k+w) k
theorem Pf.nil (l:List Sg):Pf l [] [] [] (fun _=> []) where
 len:=rfl
 al _:=rfl
 emp _:=rfl
 arg r k st:=by simp
 beg k pre post hk i hi:=absurd hi (Xz5 _)
 top w ws' h:=by cases h
theorem XM {α:Type} {a b:List α} {i:Nat} {z:α} (h:i<a.length):(a++b).getD i z=a.getD i z:=by
 rw [κ,Xxb h,← κ]
theorem Pf.app {l:List Sg} {e a:List Nd} {u n:List Ty} {ws j:List Nat} {ps m:Nat→List (List Nat)} (h:Pf l e u ws ps) (g:Pf l a n j m):Pf l (e++a) (u++n) (ws++j.map (e.length+·)) (fun k=>ps k++m (k+e.length)) where
 len:=by rw [η,η,h.len,g.len]
 al k:=by rw [η,η,h.al,g.al]
 emp q:=by
  rw [List.append_eq_nil_iff,List.map_eq_nil_iff] at q;rw [h.emp q.1,g.emp q.2];rfl
 arg r k st:=by
  rw [τ,h.arg,g.arg,η,Xxx,List.map_map,τ,τ,Xxy];congr 4;have:j.map (k+e.length+·)=j.map ((k+·) ∘ (e.length+·)):=Xjb fun x _=>Xxy ..
  rw [this]
 beg k pre post f i hi:=by
  rcases Xxc i e.length with hl|hl
  ·obtain ⟨b,o,c,d⟩:=h.beg k pre (m (k+e.length)++post) f i hl;refine ⟨b,o,by rw [τ];exact c, ?_⟩;rw [Xjq (by omega),Xxn (by rw [Xxk];omega),XM (by rw [h.len];exact hl)];exact d
  ·rw [η] at hi;obtain ⟨b,o,c,d⟩:=g.beg (k+e.length) (pre++ps k) post (by rw [η,f,h.al]) (i - e.length) (by omega);refine ⟨e.length+b,by omega, ?_, ?_⟩
   ·rw [τ,show k+e.length+(i - e.length)=k+i by omega,Xxy] at c;rw [τ];exact c
   ·rw [List.drop_append,Xx8 (by omega),Xqi,Xjo,show i+1 - (e.length+b)=i - e.length+1 - b by omega,κ,Xq2 (by rw [h.len];exact hl),h.len,← κ];exact d
 top w ws' q:=by
  cases ws with
  |cons w0 w1=>
   obtain ⟨c,d⟩:=h.top w0 w1 rfl;rw [Xxd,List.cons.injEq] at q;rw [← q.1];refine ⟨by rw [η];omega,fun k pre post f=> ?_⟩;rw [τ];exact d k pre _ f
  | nil=>
   have s:=h.emp rfl;subst s;have p:ps 0= []:=List.length_eq_zero_iff.1 (h.al 0);cases j with
   |nil=>cases q
   |cons w0 w1=>
    obtain ⟨c,d⟩:=g.top w0 w1 rfl;simp only [Xqi,Xqb,Xqa,Xqd,List.cons.injEq] at q;rw [← q.1];refine ⟨by simpa using c,fun k pre post f=> ?_⟩;have p:ps k= []:=List.length_eq_zero_iff.1 (h.al k);rw [p];exact d k pre post f
theorem Pf.node {l:List Sg} {e:List Nd} {u:List Ty} {ws:List Nat} {ps:Nat→List (List Nat)} {x:Nd} {t:Ty} (h:Pf l e u ws ps) (p:ws.length=dM x.op) (m:Tm l (e++ [x]) t):Pf l (e++ [x]) (u++ [t]) [u.length] (fun k=>ps k++ [ws.map (k+·)]):=by
 have key:∀ k pre post,pre.length=k→Beg (pre++(ps k++ [ws.map (k+·)]++post)) (k+e.length) k:=by
  intro k pre post c;have g:(pre++(ps k++ [ws.map (k+·)]++post))[k+e.length]? =some (ws.map (k+·)):=by
   rw [Xq2 (by omega),τ,Xq2 (by rw [h.al];omega),h.al,c,Xjo,Xj4];rfl
  cases ws with
  |nil=>
   have j:=h.emp rfl;subst j;exact .z g
  |cons w a=>
   obtain ⟨d,f⟩:=h.top w a rfl;refine .s g (by show k+w<_;omega) ?_;rw [τ];exact f k pre _ c
 refine ⟨by simp [h.len],fun k=>by simp [h.al],(fun q=>by cases q),fun r k st=> ?_,fun k pre post c i o=> ?_,fun w a q=> ?_⟩
 ·have d:(st++ws.map (k+·)).length - dM x.op=st.length:=by rw [η,Xjm];omega
  rw [τ,h.arg,Xqu,p_,d,Xj2,Xkm,h.len];simp [Xxy]
 ·rw [η,φ] at o;rcases Xxc i e.length with hl|hl
  ·obtain ⟨b,n,d,f⟩:=h.beg k pre ([ws.map (k+·)]++post) c i hl;refine ⟨b,n,by rw [τ];exact d, ?_⟩;rw [Xjq (by omega),Xxn (by rw [Xxk];omega),XM (by rw [h.len];exact hl)];exact f
  ·obtain rfl:i=e.length:=by omega
   refine ⟨0,Nat.zero_le _,key k pre post c, ?_⟩;rw [Xjr,υ (by simp),κ,Xq2 (by rw [h.len];exact Δ _),h.len,Xj4];exact m
 ·simp only [List.cons.injEq] at q;rw [← q.1,h.len];exact ⟨by simp,key⟩
structure anf (l:List Sg) (e:List Nd) (t:Ty) (u:List Ty):Prop where
 len:e.length=u.length+1
 chk:∀ r d,iE (e++r) d=iE r (d+1)
 typ:∀ r k st ts,ts.length=k→m_ l (e++r) k st ts=m_ l r (k+e.length) (st++ [k+u.length]) (ts++(u++ [t]))
theorem Tm.runs {l:List Sg} {e:List Nd} {t:Ty} (h:Tm l e t):∃ u,anf l e t u∧∃ ps,Pf l e (u++ [t]) [u.length] ps:=by
 induction h with
 | @n0 x t hw ha ht=>
  refine ⟨[],⟨rfl,fun r d=> ?_,fun r k st ts i=> ?_⟩,_,(Pf.nil l).node (by rw [ha];rfl) (.n0 hw ha ht)⟩
  ·rw [Xqu,yT hw (by omega),ha];rfl
  ·have:=Ah (l:=l) (x:=x) (r:=r) (k:=k) (st:=st) (ws:= []) (ts:=ts) (own:= []) (t:=t) (by rw [ha];rfl) rfl ht;rw [Γ] at this;simpa using this
 | @n1 x t ta a ma hw ha ht iha=>
  obtain ⟨f,⟨m,v,s⟩,_,o⟩:=iha;refine ⟨f++ [ta],⟨by simp [m],fun r d=> ?_,fun r k st ts i=> ?_⟩,_,o.node (by rw [ha];rfl) (.n1 ma hw ha ht)⟩
  ·rw [τ,v,Xqu,yT hw (by omega),ha];rfl
  ·have:=Ah (l:=l) (x:=x) (r:=r) (k:=k+a.length) (st:=st) (ws:= [k+f.length]) (ts:=ts++(f++ [ta])) (own:= [ta]) (t:=t) (by rw [ha];rfl) (by
    have:=wM ts f [] ta;rw [Γ,i] at this;simp only [fQ,Xqb,Xxt];rw [this]) ht
   rw [τ,s _ k st ts i,Xqu,this];simp [m,Xxy]
 | @n2 x t ta tb a b ma mb hw ha ht iha ihb=>
  obtain ⟨f,⟨m,v,s⟩,_,o⟩:=iha;obtain ⟨g,⟨y,A,z⟩,_,B⟩:=ihb;refine ⟨f++ [ta]++(g++ [tb]),⟨by simp [m,y];omega,fun r d=> ?_,fun r k st ts i=> ?_⟩,_,(o.app B).node (by rw [ha];rfl) (.n2 ma mb hw ha ht)⟩
  ·rw [τ,τ,v,A,Xqu,yT hw (by omega),ha];rfl
  ·have j:(ts++(f++ [ta])).length=k+a.length:=by simp [i,m]
   have:=Ah (l:=l) (x:=x) (r:=r) (k:=k+a.length+b.length) (st:=st) (ws:= [k+f.length,k+a.length+g.length]) (ts:=ts++(f++ [ta])++(g++ [tb])) (own:= [ta,tb]) (t:=t) (by rw [ha];rfl) (by
    have w:=wM ts f (g++ [tb]) ta;have p:=wM (ts++(f++ [ta])) g [] tb;rw [i] at w;rw [Γ,j] at p;simp only [fQ,Xqb,Xxt];rw [w,p]) ht
   rw [τ,τ,s _ k st ts i,z _ _ _ _ j,Xqu,τ,Xqu,this];refine congr (congr (congrArg (m_ l r) ?_) ?_) ?_
   ·simp;omega
   ·congr 2;simp;omega
   ·simp
 | @n3 x t ta tb tc a b c ma mb mc hw ha ht iha ihb ihc=>
  obtain ⟨f,⟨m,v,s⟩,_,o⟩:=iha;obtain ⟨g,⟨y,A,z⟩,_,B⟩:=ihb;obtain ⟨n,⟨G,F,D⟩,_,I⟩:=ihc;refine ⟨f++ [ta]++(g++ [tb])++(n++ [tc]),⟨by simp [m,y,G];omega,fun r d=> ?_,fun r k st ts i=> ?_⟩,_,((o.app B).app I).node (by rw [ha];rfl) (.n3 ma mb mc hw ha ht)⟩
  ·rw [τ,τ,τ,v,A,F,Xqu,yT hw (by omega),ha];rfl
  ·have j:(ts++(f++ [ta])).length=k+a.length:=by simp [i,m]
   have q:(ts++(f++ [ta])++(g++ [tb])).length=k+a.length+b.length:=by simp [i,m,y];omega
   have:=Ah (l:=l) (x:=x) (r:=r) (k:=k+a.length+b.length+c.length) (st:=st) (ws:= [k+f.length,k+a.length+g.length,k+a.length+b.length+n.length]) (ts:=ts++(f++ [ta])++(g++ [tb])++(n++ [tc])) (own:= [ta,tb,tc]) (t:=t) (by rw [ha];rfl) (by
    have w:=wM ts f ((g++ [tb])++(n++ [tc])) ta;have p:=wM (ts++(f++ [ta])) g (n++ [tc]) tb;have C:=wM (ts++(f++ [ta])++(g++ [tb])) n [] tc;rw [i,← τ] at w;rw [j] at p;rw [Γ,q] at C;simp only [fQ,Xqb,Xxt];rw [w,p,C]) ht
   rw [τ,τ,τ,s _ k st ts i,z _ _ _ _ j,D _ _ _ _ q,Xqu,τ,τ,Xqu,Xqu,this];refine congr (congr (congrArg (m_ l r) ?_) ?_) ?_
   ·simp;omega
   ·congr 2;simp;omega
   ·simp
theorem Tm.check {l:List Sg} {e:List Nd} {t:Ty} (h:Tm l e t) (c:e.length≤60):cO e=0:=by
 obtain ⟨u,⟨d,a,b⟩,_⟩:=h.runs;have:=a [] 0;rw [Γ] at this;unfold cO;rw [if_neg (by omega),this];simp [iE]
theorem Tm.types {l:List Sg} {e:List Nd} {t:Ty} (h:Tm l e t) (b:e.length≤60):∃ u,u.length+1=e.length∧yD l e= .inl (u++ [t]):=by
 obtain ⟨u,⟨c,d,a⟩,_⟩:=h.runs;have:=a [] 0 [] [] rfl;rw [Γ] at this;refine ⟨u,c.symm, ?_⟩;unfold yD;rw [if_pos (h.check b),this];simp [m_]
theorem Tm.parts {l:List Sg} {e:List Nd} {t:Ty} (h:Tm l e t) (g:e.length≤60):∃ us,us.length=e.length∧yD l e= .inl us∧∀ i,i<e.length→∃ b,b≤i∧Beg (dh e) i b∧Tm l ((e.drop b).take (i+1 - b)) (us.getD i zT):=by
 obtain ⟨u,⟨n,m,d⟩,ps,hp⟩:=h.runs;have:=d [] 0 [] [] rfl;rw [Γ] at this;refine ⟨u++ [t],hp.len, ?_,fun i j=> ?_⟩
 ·unfold yD;rw [if_pos (h.check g),this];simp [m_]
 ·have c:=hp.arg [] 0 [];rw [Γ,p_,Γ] at c;obtain ⟨b,f,a,k⟩:=hp.beg 0 [] [] rfl i j;rw [Xqd,Xqd,Γ,Xqi,← c] at a;exact ⟨b,f,a,k⟩
def yw (E:fE):List Nd→List Oq→List Oq
 | [],st=>st
 |x::r,st=>yw E r (st.take (st.length - dM x.op)++ [eX E x (st.drop (st.length - dM x.op))])
theorem mZ (E:fE):∀ (a b:List Nd) (st:List Oq),yw E (a++b) st=yw E b (yw E a st)
 | [],_,_=>rfl
 |x::r,b,st=>by simp only [Xxd,yw];exact mZ E r b _
theorem aap {x:Nd} {r:List Nd} {d e:Nat} (h:iE (x::r) d= .inl e):aO x=0∧dM x.op≤d∧iE r (d - dM x.op+1)= .inl e:=by
 simp only [iE] at h;split at h
 ·rename_i a;split at h
  ·cases h
  ·exact ⟨a,by omega,h⟩
 ·cases h
theorem TJ (E:fE) (A:List (List Nat)):∀ (r:List Nd) (os:List Oq),∃ t,Zy E A r os=os++t
 | [],os=> ⟨[],by simp [Zy]⟩
 |x::r,os=>by
  obtain ⟨t,a⟩:=TJ E A r (os++ [eX E x ((A.getD os.length []).map fun j=>os.getD j zO)]);exact ⟨_,by rw [Zy,a,τ]⟩
theorem TK {E:fE} {A:List (List Nat)}:∀ (r:List Nd) (k:Nat) (st:List Nat) (os:List Oq),(∃ d,iE r st.length= .inl d)→A.drop k=p_ r k st→os.length=k→(∀ j ∈ st,j<k)→
  ∀ i,i<r.length→(yw E (r.take (i+1)) (st.map fun j=>os.getD j zO)).getLast? =some ((Zy E A r os).getD (k+i) zO)
 | [],k,st,os,_,_,_,_,i,hi=>by simp at hi
 | x::r,k,st,os,⟨d,hd⟩,hA,ho,hst,i,hi=>by
  obtain ⟨_,m,e⟩:=aap hd;simp only [p_] at hA;have b:k<A.length:=by
   by_cases h:k<A.length
   ·exact h
   ·rw [Xx8 (by omega)] at hA;cases hA
  rw [Xxf b,List.cons.injEq] at hA;have c:A.getD os.length []=st.drop (st.length - dM x.op):=by
   rw [ho,κ,π b,← hA.1];rfl
  rw [Zy,c,List.take_succ_cons];simp only [yw];rw [Xjm,← List.map_take,← Xju];generalize eX E x ((st.drop (st.length - dM x.op)).map fun j=>os.getD j zO)=v;cases i with
  |zero=>
   obtain ⟨t,g⟩:=TJ E A r (os++ [v]);rw [g,List.take_zero,yw,Xkj,Xq8,κ,τ,Xq2 (by omega),ho,Xj4];rfl
  | succ i=>
   have f:=TK (E:=E) (A:=A) r (k+1) (st.take (st.length - dM x.op)++ [k]) (os++ [v]) ⟨d,by rw [η,Xxa,φ,Xjd (Nat.sub_le _ _)];exact e⟩ hA.2 (by simp [ho]) (by
    intro j a;rcases List.mem_append.1 a with a|a
    ·have:=hst j (Xxz a);omega
    ·rw [List.mem_singleton.1 a];omega) i (by simpa using hi)
   rw [show k+(i+1)=k+1+i by omega,← f];congr 2;rw [Xxx];congr 1
   ·apply Xjb;intro j a;have:=hst j (Xxz a);rw [κ,κ,Xxb (by omega)]
   ·simp only [Xqb,Xxt];rw [κ,Xq2 (by omega),ho,Xj4];rfl
theorem aaq {e:List Nd} (a:cO e=0):iE e 0= .inl 1:=by
 unfold cO at a;split at a
 ·cases a
 ·split at a
  ·rename_i d hd;split at a
   ·rename_i c;rw [hd,c]
   ·cases a
  ·rename_i w b;exact absurd a (DF _ _ _ b)
theorem NV {E:fE} {e:List Nd} (a:cO e=0) {i:Nat} (b:i<e.length):(yw E (e.take (i+1)) []).getLast? =some ((dR E e).getD i zO):=by
 have:=TK (E:=E) (A:=dh e) e 0 [] [] ⟨1,aaq a⟩ rfl rfl (by simp) i b;rw [Xqd] at this;exact this
theorem uB (E:fE) (e:List Nd):(dR E e).length=e.length:=by unfold dR;rw [D9];simp
theorem O4 {E:fE} {e:List Nd} (a:cO e=0):xw E e=(dR E e).getD (e.length - 1) zO:=by
 unfold xw;rw [if_pos a,← uB E e,List.getLastD_eq_getLast?,List.getLast?_eq_getElem?,κ,uB];have:=(kz a).2.2;rw [π (by rw [uB];omega)];rfl
theorem UH {E:fE} {e:List Nd} (a:cO e=0):(yw E e []).getLast? =some (xw E e):=by
 have hp:=(kz a).2.2;have:=NV (E:=E) a (i:=e.length - 1) (by omega);rw [← O4 a,show e.length - 1+1=e.length by omega,List.take_length] at this;exact this
theorem DY (E:fE) {x:Nd} {st l:List Oq} (h:l.length=dM x.op):yw E [x] (st++l)=st++ [eX E x l]:=by
 simp only [yw];rw [η,h,Nat.add_sub_cancel,Xkm,Xj2]
theorem Tm.ind {l:List Sg} (E:fE) (P:Ty→Oq→Prop)
  (h0:∀ x t,aO x=0→dM x.op=0→gU l x []=(t,0)→P t (eX E x []))
  (h1:∀ x t ta a,aO x=0→dM x.op=1→gU l x [ta]=(t,0)→P ta a→P t (eX E x [a]))
  (h2:∀ x t ta tb a b,aO x=0→dM x.op=2→gU l x [ta,tb]=(t,0)→P ta a→P tb b→P t (eX E x [a,b]))
  (h3:∀ x t ta tb tc a b c,aO x=0→dM x.op=3→gU l x [ta,tb,tc]=(t,0)→P ta a→P tb b→P tc c→P t (eX E x [a,b,c]))
  {e:List Nd} {t:Ty} (h:Tm l e t):∃ v,P t v∧∀ st,yw E e st=st++ [v]:=by
 induction h with
 |@n0 x t hw ha ht=>exact ⟨_,h0 x t hw ha ht,fun st=>by have:=DY E (x:=x) (st:=st) (l:= []) (by rw [ha];rfl);rw [Γ] at this;exact this⟩
 |@n1 x t ta a ma hw ha ht iha=>
  obtain ⟨f,d,g⟩:=iha;exact ⟨_,h1 x t ta f hw ha ht d,fun st=>by rw [mZ,g];exact DY E (by rw [ha];rfl)⟩
 |@n2 x t ta tb a b ma mb hw ha ht iha ihb=>
  obtain ⟨f,d,g⟩:=iha;obtain ⟨i,j,rb⟩:=ihb;exact ⟨_,h2 x t ta tb f i hw ha ht d j,fun st=>by rw [mZ,mZ,g,rb,τ];exact DY E (by rw [ha];rfl)⟩
 |@n3 x t ta tb tc a b c ma mb mc hw ha ht iha ihb ihc=>
  obtain ⟨f,d,g⟩:=iha;obtain ⟨i,j,rb⟩:=ihb;obtain ⟨k,n,m⟩:=ihc;exact ⟨_,h3 x t ta tb tc f i k hw ha ht d j n,fun st=>by rw [mZ,mZ,mZ,g,rb,m,τ,τ];exact DY E (by rw [ha];rfl)⟩
theorem LU {E:fE} {e:List Nd} (a:cO e=0) {v:Oq} (b:∀ st,yw E e st=st++ [v]):xw E e=v:=by
 have:=UH (E:=E) a;rw [b,Xqi,List.getLast?_singleton,Option.some.injEq] at this;exact this.symm
theorem Tm.val {l:List Sg} {e:List Nd} {t:Ty} (h:Tm l e t) (b:e.length≤60) (E:fE):∀ st,yw E e st=st++ [xw E e]:=by
 obtain ⟨v,_,a⟩:=h.ind E (fun _ _=>True) (fun _ _ _ _ _=>trivial) (fun _ _ _ _ _ _ _ _=>trivial) (fun _ _ _ _ _ _ _ _ _ _ _=>trivial) (fun _ _ _ _ _ _ _ _ _ _ _ _ _ _=>trivial);rw [LU (h.check b) a];exact a
theorem Tm.evalP {l:List Sg} {e:List Nd} {t:Ty} (h:Tm l e t) (f:e.length≤60) (E:fE) (P:Ty→Oq→Prop)
  (h0:∀ x t,aO x=0→dM x.op=0→gU l x []=(t,0)→P t (eX E x []))
  (h1:∀ x t ta a,aO x=0→dM x.op=1→gU l x [ta]=(t,0)→P ta a→P t (eX E x [a]))
  (h2:∀ x t ta tb a b,aO x=0→dM x.op=2→gU l x [ta,tb]=(t,0)→P ta a→P tb b→P t (eX E x [a,b]))
  (h3:∀ x t ta tb tc a b c,aO x=0→dM x.op=3→gU l x [ta,tb,tc]=(t,0)→P ta a→P tb b→P tc c→P t (eX E x [a,b,c])):P t (xw E e):=by
 obtain ⟨v,hp,d⟩:=h.ind E P h0 h1 h2 h3;rw [LU (h.check f) d];exact hp
theorem Qm {l:List Sg} {e:List Nd} {t:Ty} (a:cO e=0) (E:fE) {i b:Nat} (g:i<e.length) (j:b≤i) (h:Tm l ((e.drop b).take (i+1 - b)) t):xw E ((e.drop b).take (i+1 - b))=(dR E e).getD i zO:=by
 have d:=(kz a).2.1;have f:=h.val (by rw [Xxa,Xxk];omega) E;have c:=NV (E:=E) a g;have hs:e.take (i+1)=e.take b++(e.drop b).take (i+1 - b):=by
  conv=>lhs;rw [show i+1=b+(i+1 - b) by omega]
  rw [List.take_add]
 rw [hs,mZ,f,Xkj,Option.some.injEq] at c;exact c
theorem Ag {l:List Sg} {x:Nd} {ts:List Ty} {t:Ty} (h:gU l x ts=(t,0)):(dX x.op=true→∃ s,fC l x.op x.name=some s)∧dP x.op.toNat ((fC l x.op x.name).getD zT) ts=(true,t):=by
 unfold gU ofR at h;cases d:dX x.op with
 | false=>
  rw [d] at h;refine ⟨fun h=>(by cases h), ?_⟩;cases a:dP x.op.toNat ((fC l x.op x.name).getD zT) ts with
  |mk b u=>
   rw [a] at h;cases b with
   |true=>simp at h;rw [h]
   |false=>simp at h
 | true=>
  rw [d] at h;cases c:fC l x.op x.name with
  |none=>rw [c] at h;simp at h
  | some s=>
   rw [c] at h;refine ⟨fun _=> ⟨s,rfl⟩, ?_⟩;cases a:dP x.op.toNat ((some s).getD zT) ts with
   |mk b u=>
    rw [a] at h;cases b with
    |true=>simp at h;rw [h]
    |false=>simp at h
def okE (e:Int):Prop:=e=0∨e=3∨e=16
structure KG (S:Prop) (t:Ty) (v:Oq):Prop where
 rt:aS t=true
 ok:v.ok
 bt:v.e=0→t.tr=true→v.bit=true
 er:S→okE v.e
structure KL (S:Prop) (l:List Sg) (E:fE):Prop where
 ln:∀ op nm t,5≤op→op≤8→fC l op nm=some t→(((Po E.ls op nm).getD (.err 12)).e=0→t.tr=true→((Po E.ls op nm).getD (.err 12)).bit=true)∧(S→okE ((Po E.ls op nm).getD (.err 12)).e)
 sc:S→∀ nm t,fC l 24 nm=some t→∃ s,sqO E.qs nm=some s∧KF nT s.l=0
theorem sQ (b:Bool):(BM b).bit=true:=by cases b<;>simp [BM,bR,Oq.bit,Oq.one,Oq.n,Oq.a,Oq.d]
theorem BO (q:RQ):okE (og q).e:=by
 unfold og;split
 ·exact .inl rfl
 ·exact .inr (.inl rfl)
theorem P6 (n:Bool) (a d:List UInt8):okE (vZ n a d 0).e:=by
 unfold vZ;rw [if_pos rfl];split
 ·exact .inl rfl
 ·exact .inr (.inl rfl)
theorem ah7 (l:List (RQ × RQ)) (x:RQ):okE (ZR l x).e:=by
 unfold ZR;split
 ·exact .inl rfl
 ·exact BO _
theorem zo {l:List Sg} {op:Int} {a:List UInt8} {t:Ty} (h:fC l op a=some t):∃ s ∈ l,jL s op a=true∧s.ty=t:=by
 unfold fC at h;rw [Option.map_eq_some_iff] at h;obtain ⟨s,b,c⟩:=h;exact ⟨s,Xzo b,Xvd (p:=fun s=>jL s op a) b,c⟩
theorem xU {l:List Sg} {op:Int} {d:List UInt8} {t:Ty} (h:fC l op d=some t):aS t=true∧(op=24→t.tr=false):=by
 obtain ⟨s,_,b,rfl⟩:=zo h;simp only [jL,ο,Xzi,Xqw] at b;obtain ⟨_,_,_,c,a⟩:=b;refine ⟨c,fun h=> ?_⟩;rcases a with a|a
 ·rw [h] at a;cases a
 ·exact a
theorem abK {x:Nd} (h:aO x=0):jo x=true:=by
 cases a:jo x with
 |true=>rfl
 |false=>
  exfalso;unfold aO at h;rw [a] at h;cases b:(!inI x.op||(!dX x.op && !(x.name== [])))<;>rw [b] at h<;>cases h
theorem QY {b:Bool} {d c:List UInt8} {a:Nat} (h:qY b d c a=true):b=false∧d=ae a∧c=ae 1:=by
 simp only [qY,ο,beq_iff_eq] at h;exact ⟨h.1,h.2.1,h.2.2.1⟩
theorem VN {c:Bool} {e d f:List UInt8} (h:aO ⟨4,c,e,d,f⟩=0):∃ b,vZ c e d 0=BM b:=by
 have a:=abK h;have a:(qY c e d 0||qY c e d 1)=true:=a;rw [Xzi] at a;have key:∀ b:Bool,vZ false (ae (bR b).n) (ae (bR b).d) 0=BM b:=fun b=>by
  have g:=uC b;have:=Aa (q:=bR b) (Ws b);rw [show (bR b).neg=false by cases b<;>rfl] at this;rw [this];unfold og;rw [if_pos g.2];rfl
 rcases a with a|a
 ·obtain ⟨rfl,rfl,rfl⟩:=QY a;exact ⟨false,key false⟩
 ·obtain ⟨rfl,rfl,rfl⟩:=QY a;exact ⟨true,key true⟩
section
variable {S:Prop} {l:List Sg} {E:fE}
theorem KG.tru {b:Bool}:KG S ⟨true,0,0⟩ (BM b):=⟨rfl,uC b,fun _ _=>sQ b,fun _=> .inl rfl⟩
theorem anl {op:Int} (h:dM op=0) (b:1≤op) (a:op≤24):op≤8:=by
 unfold dM at h;split at h
 ·cases h
 ·split at h
  ·cases h
  ·split at h
   ·cases h
   ·omega
theorem anm {op:Int} (h:dM op=1):op=20∨op=21∨op=22∨op=23∨op=24:=by
 unfold dM at h;split at h
 ·cases h
 ·split at h
  ·cases h
  ·split at h
   ·omega
   ·cases h
theorem ann {op:Int} (h:dM op=2):op=9∨op=10∨op=11∨op=12∨op=13∨op=14∨op=16∨op=17∨op=18∨op=19:=by
 unfold dM at h;split at h
 ·cases h
 ·split at h
  ·omega
  ·split at h<;>cases h
theorem ano {op:Int} (h:dM op=3):op=15:=by
 unfold dM at h;split at h
 ·assumption
 ·split at h
  ·cases h
  ·split at h<;>cases h
theorem ahi (p:KL S l E) (x:Nd) (t:Ty) (n:aO x=0) (w:dM x.op=0) (u:gU l x []=(t,0)):KG S t (eX E x []):=by
 have d:=sU n;have f:=anl w d.1 d.2;obtain ⟨o,a⟩:=Ag u;have c:(eX E x []).ok:=zN (by simp);obtain ⟨op,m,k,g,e⟩:=x;simp only at d f o a;by_cases h4:op≤4
 ·have j:eX E ⟨op,m,k,g,e⟩ []=vZ m k g 0:=by unfold eX;rw [if_pos h4]
  rw [j] at c ⊢;rcases (show op=1∨op=2∨op=3∨op=4 by omega) with rfl|rfl|rfl|rfl
  ·have a:(true,(⟨false,1,0⟩:Ty))=(true,t):=a;cases a;exact ⟨rfl,c,fun _ h=>(by cases h),fun _=>P6 _ _ _⟩
  ·have a:(true,(⟨false,0,1⟩:Ty))=(true,t):=a;cases a;exact ⟨rfl,c,fun _ h=>(by cases h),fun _=>P6 _ _ _⟩
  ·have a:(true,(⟨false,0,0⟩:Ty))=(true,t):=a;cases a;exact ⟨rfl,c,fun _ h=>(by cases h),fun _=>P6 _ _ _⟩
  ·have a:(true,(⟨true,0,0⟩:Ty))=(true,t):=a;cases a;obtain ⟨b,v⟩:=VN n;rw [v];exact KG.tru
 ·have j:eX E ⟨op,m,k,g,e⟩ []=(Po E.ls op e).getD (.err 12):=by unfold eX;rw [if_neg h4,if_pos f]
  rw [j] at c ⊢;obtain ⟨s,hs⟩:=o (by unfold dX;exact Yq0 (.inl ⟨by omega,f⟩));rw [hs] at a;have i:s=t:=by
   rcases (show op=5∨op=6∨op=7∨op=8 by omega) with rfl|rfl|rfl|rfl<;>(have a:(true,s)=(true,t):=a;cases a;rfl)
  subst i;obtain ⟨r,q⟩:=p.ln op e s (by omega) f hs;exact ⟨(xU hs).1,c,r,q⟩
theorem ahj (v:KL S l E) (x:Nd) (t f:Ty) (a:Oq) (C:aO x=0) (B:dM x.op=1) (z:gU l x [f]=(t,0)) (g:KG S f a):KG S t (eX E x [a]):=by
 obtain ⟨o,b⟩:=Ag z;have c:(eX E x [a]).ok:=zN (by simp;exact g.ok);have i:=anm B;obtain ⟨op,u,r,p,n⟩:=x;simp only at i o b;have y:eX E ⟨op,u,r,p,n⟩ [a]=if a.e=0 then NH E.qs op n (vQ u r p) a else a:=by unfold eX;rw [if_neg (by simp only;omega),if_neg (by simp only;omega)]
 rw [y] at c ⊢;have e:aS t=true∧(op ≠ 20→t.tr=false)∧(op=20→f.tr=true∧t=⟨true,0,0⟩):=by
  rcases i with rfl|rfl|rfl|rfl|rfl
  ·have b:(f.tr,(⟨true,0,0⟩:Ty))=(true,t):=b;rw [Prod.mk.injEq] at b;rw [← b.2];exact ⟨rfl,fun h=>absurd rfl h,fun _=> ⟨b.1,rfl⟩⟩
  all_goals try (
   have b:(pG [f],f)=(true,t):=b;rw [Prod.mk.injEq] at b;obtain ⟨k,rfl⟩:=b;exact ⟨g.rt,fun _=>by simpa [pG] using k,fun h=>by omega⟩)
  obtain ⟨s,hs⟩:=o rfl;rw [hs] at b;have b:(kH f s,s)=(true,t):=b;rw [Prod.mk.injEq] at b;obtain ⟨k,rfl⟩:=b;exact ⟨(xU hs).1,fun _=>(xU hs).2 rfl,fun h=>by omega⟩
 by_cases za:a.e=0
 ·rw [if_pos za] at c ⊢;refine ⟨e.1,c,fun _ j=> ?_,fun w=> ?_⟩
  ·by_cases d:op=20
   ·unfold NH;rw [if_pos d,if_pos (g.bt za (e.2.2 d).1)];exact sQ _
   ·rw [e.2.1 d] at j;cases j
  ·unfold NH;split
   ·rename_i d;rw [if_pos (g.bt za (e.2.2 d).1)];exact .inl rfl
   ·split
    ·rename_i m;subst m;obtain ⟨s,hs⟩:=o rfl;obtain ⟨q,k,A⟩:=v.sc w n s hs;rw [k];simp only;unfold atS;rw [if_pos A];exact ah7 _ _
    ·repeat' split
     all_goals exact BO _
 ·rw [if_neg za] at c ⊢;exact ⟨e.1,c,fun h=>absurd h za,g.er⟩
theorem ahk (B:KL S l E) (x:Nd) (t d tb:Ty) (a b:Oq) (C:aO x=0) (z:dM x.op=2) (v:gU l x [d,tb]=(t,0)) (i:KG S d a) (m:KG S tb b):KG S t (eX E x [a,b]):=by
 obtain ⟨A,c⟩:=Ag v;have e:(eX E x [a,b]).ok:=zN (by simp;exact ⟨i.ok,m.ok⟩);have n:=ann z;obtain ⟨op,w,u,q,s⟩:=x;simp only at n A c;have r:eX E ⟨op,w,u,q,s⟩ [a,b]=if a.e=0 then (if b.e=0 then FZ op a b else b) else a:=by unfold eX;rw [if_neg (by simp only;omega),if_neg (by simp only;omega)]
 rw [r] at e ⊢;have f:aS t=true∧(op≤14→t.tr=false)∧(18≤op→d.tr=true∧tb.tr=true):=by
  rcases n with rfl|rfl|rfl|rfl|rfl|rfl|rfl|rfl|rfl|rfl
  case inl|inr.inl|inr.inr.inr.inr.inl|inr.inr.inr.inr.inr.inl=>
   have c:(kH d tb && pG [d,tb],d)=(true,t):=c;rw [Prod.mk.injEq,ο] at c;obtain ⟨⟨k,j⟩,rfl⟩:=c;simp only [pG,List.all_cons,ο,Xqw] at j;exact ⟨i.rt,fun _=>j.1,fun h=>by omega⟩
  case inr.inr.inl=>
   have c:(pG [d,tb] && aS ⟨false,γ .i64 (d.m+tb.m),γ .i64 (d.d+tb.d)⟩,(⟨false,γ .i64 (d.m+tb.m),γ .i64 (d.d+tb.d)⟩:Ty))=(true,t):=c;rw [Prod.mk.injEq,ο] at c;obtain ⟨⟨k,j⟩,rfl⟩:=c;exact ⟨j,fun _=>rfl,fun h=>by omega⟩
  case inr.inr.inr.inl=>
   have c:(pG [d,tb] && aS ⟨false,γ .i64 (d.m - tb.m),γ .i64 (d.d - tb.d)⟩,(⟨false,γ .i64 (d.m - tb.m),γ .i64 (d.d - tb.d)⟩:Ty))=(true,t):=c;rw [Prod.mk.injEq,ο] at c;obtain ⟨⟨k,j⟩,rfl⟩:=c;exact ⟨j,fun _=>rfl,fun h=>by omega⟩
  all_goals try (
   have c:(d.tr && tb.tr,(⟨true,0,0⟩:Ty))=(true,t):=c;rw [Prod.mk.injEq,ο] at c;obtain ⟨k,rfl⟩:=c;exact ⟨rfl,fun h=>by omega,fun _=>k⟩)
  ·have c:(kH d tb && pG [d,tb],(⟨true,0,0⟩:Ty))=(true,t):=c;rw [Prod.mk.injEq] at c;obtain ⟨k,rfl⟩:=c;exact ⟨rfl,fun h=>by omega,fun h=>by omega⟩
  ·have c:(kH d tb,(⟨true,0,0⟩:Ty))=(true,t):=c;rw [Prod.mk.injEq] at c;obtain ⟨k,rfl⟩:=c;exact ⟨rfl,fun h=>by omega,fun h=>by omega⟩
 by_cases za:a.e=0
 ·rw [if_pos za] at e ⊢;by_cases zb:b.e=0
  ·rw [if_pos zb] at e ⊢;have g:18≤op→(a.bit && b.bit)=true:=fun h=>by
    rw [i.bt za (f.2.2 h).1,m.bt zb (f.2.2 h).2];rfl
   refine ⟨f.1,e,fun _ o=> ?_,fun p=> ?_⟩
   ·have y:¬ op≤14:=fun h=>by rw [f.2.1 h] at o;cases o
    unfold FZ;rw [if_neg (by omega),if_neg (by omega),if_neg (by omega),if_neg (by omega),if_neg (by omega),if_neg (by omega)];split
    ·exact sQ _
    ·split
     ·exact sQ _
     ·rw [if_pos (g (by omega))];exact sQ _
   ·unfold FZ;split
    ·exact BO _
    ·split
     ·exact BO _
     ·split
      ·exact BO _
      ·split
       ·split
        ·exact .inr (.inr rfl)
        ·exact BO _
       ·split
        ·split
         ·exact m.er p
         ·exact i.er p
        ·split
         ·split
          ·exact m.er p
          ·exact i.er p
         ·split
          ·exact .inl rfl
          ·split
           ·exact .inl rfl
           ·rw [if_pos (g (by omega))];exact .inl rfl
  ·rw [if_neg zb] at e ⊢;exact ⟨f.1,e,fun h=>absurd h zb,m.er⟩
 ·rw [if_neg za] at e ⊢;exact ⟨f.1,e,fun h=>absurd h za,i.er⟩
theorem afq {a b:Ty} (h:kH a b=true):a=b:=by
 simp only [kH,ο,beq_iff_eq] at h;obtain ⟨e,i,d⟩:=a;obtain ⟨g,c,f⟩:=b;simp only at h;rw [h.1,h.2.1,h.2.2.1]
theorem ahl (z:KL S l E) (x:Nd) (t g tb i:Ty) (a b c:Oq) (A:aO x=0) (u:dM x.op=3) (q:gU l x [g,tb,i]=(t,0)) (f:KG S g a) (k:KG S tb b) (y:KG S i c):KG S t (eX E x [a,b,c]):=by
 obtain ⟨w,d⟩:=Ag q;have e:=ano u;obtain ⟨op,r,p,m,o⟩:=x;simp only at e w d;subst e;have n:eX E ⟨15,r,p,m,o⟩ [a,b,c]=Ui a b c:=rfl;rw [n];have d:(g.tr && kH tb i,tb)=(true,t):=d;rw [Prod.mk.injEq,ο] at d;obtain ⟨⟨v,s⟩,rfl⟩:=d;have:=afq s;subst this;unfold Ui;split
 ·rename_i j;rw [if_pos (f.bt j v)];split
  ·exact k
  ·exact y
 ·rename_i j;exact ⟨k.rt,f.ok,fun h=>absurd h j,f.er⟩
theorem Tm.sound (f:KL S l E) {e:List Nd} {t:Ty} (h:Tm l e t) (g:e.length≤60):KG S t (xw E e):=
 h.evalP g E (KG S) (ahi f) (fun x t d a=>ahj f x t d a) (fun x t d tb a b=>ahk f x t d tb a b) (fun x t d tb i a b c=>ahl f x t d tb i a b c)
end
structure yG (er:Bool) (t:Ty) (x:Lk):Prop where
 sz:x.a.length<2^36∧x.d.length<2^36
 er:er=false→x.e=0
 vl:x.e=0→∃ q:RQ,q.ok∧kJ q=true∧VZ x= .val q∧(t.tr=true→∃ b,q=bR b)
theorem yG.val {c:Bool} {t:Ty} {op:Int} {d:List UInt8} {q:RQ} (a:H5 64 q) (e:t.tr=true→∃ b,q=bR b):yG c t ⟨op,d,q.neg,ae q.n,ae q.d,0⟩ where
 sz:=⟨Xqz (fZ a.2.1 (by omega)) (by decide),Xqz (fZ a.2.2 (by omega)) (by decide)⟩
 er _:=rfl
 vl _:=⟨q,a.1,tV a (by omega),by
  show vZ q.neg (ae q.n) (ae q.d) 0=_;rw [Aa a.1];unfold og;rw [if_pos (tV a (by omega))],e⟩
theorem yG.err {a:Bool} {t:Ty} {op:Int} {d:List UInt8} {e:Int} (c:e ≠ 0) (b:a=true):yG a t ⟨op,d,false,[],[],e⟩ where
 sz:=⟨Xqv _,Xqv _⟩
 er h:=by rw [b] at h;cases h
 vl h:=absurd h c
def uF (er:Bool):List Sg→List Lk→Prop
 | [],[]=>True
 |s::r,x::l=>(x.op=s.op∧x.nm=s.name∧yG er s.ty x)∧uF er r l
 |_,_=>False
def rD:List Sg→List Sq→Prop
 | [],[]=>True
 |s::r,q::l=>(q.nm=s.name∧q.l.length≤8∧(∀ b ∈ q.l,b.s28)∧KF nT q.l=0)∧rD r l
 |_,_=>False
theorem ad9 {r:Nat} (h:r<4):∃ e:Int,e ≠ 0∧ω (AV.toInt (ζ (ε ((0+(δ (r:Int)))*1) [ω 17,ω 16,ω 12,ω 3]) .dead))= ω e∧chk (.int .i64) (ζ (ε ((0+(δ (r:Int)))*1) [ω 17,ω 16,ω 12,ω 3]) .dead)=true:=by
 rcases (show r=0∨r=1∨r=2∨r=3 by omega) with rfl|rfl|rfl|rfl
 ·exact ⟨17,by decide,rfl,rfl⟩
 ·exact ⟨16,by decide,rfl,rfl⟩
 ·exact ⟨12,by decide,rfl,rfl⟩
 ·exact ⟨3,by decide,rfl,rfl⟩
theorem Su (e:Int):CO 47 [ω e] (.ret (.agg [.bool false,.str [],.str [],ω e])):=pK [] 0 0 (.n 5 .nil) (.nil)
def emL (ls:List Lk):AV:=match ls with| []=> .nilS|_::_=> .ref 3 0 0 ls.length
def anE (ls:List Lk):Hp:=match ls with| []=> []|_::_=> [(3,⟨jX ls,0,false,0,6,true⟩)]
def emQ (qs:List Sc):AV:=match qs with| []=> .nilS|_::_=> .ref 4 0 0 qs.length
def anF (qs:List Sc):Hp:=match qs with| []=> []|_::_=> [(4,⟨kL qs,0,false,0,4,true⟩)]
def emP (ls:List Lk):Bool:=match ls with| []=>true|_::_=>false
abbrev QU (sg:List Sg) (ng er:Bool) (xs:List Int) (nn:Bool) (p:Nat × List Lk × List Sc):St:=⟨[(0,.sl (dU sg) sg.length ng),(2,.bool er),(6,.ptr 0 0 0),(7,.ptr 1 0 0),(8,.ptr 2 0 0),(9,ω ((p.2.1.length+p.2.2.length:Nat):Int))],[(0,⟨[.nilS,.nilS],0,false,0,0,true⟩),(1,⟨[emL p.2.1,emQ p.2.2],0,false,0,0,emP p.2.1⟩),(2,dB xs nn p.1)]++(anE p.2.1++anF p.2.2),.dead,[]⟩
abbrev emO (p:Nat × List Lk × List Sc):St:=⟨[(6,.ptr 0 0 0),(7,.ptr 1 0 0)],[(0,⟨[.nilS,.nilS],0,false,0,0,true⟩),(1,⟨[.ref 2 0 0 p.2.1.length,.ref 3 0 0 p.2.2.length],0,false,0,0,false⟩),(2,⟨jX p.2.1,0,false,0,6,true⟩),(3,⟨kL p.2.2,0,false,0,4,true⟩)],.dead,[]⟩
theorem JH (l:List Lk):(jX l).length=l.length*6:=oO lkC 6 (fun _=>rfl) l
theorem X8 (l:List Lk) (x:Lk):ν (l.length*6) (jX l)++lkC x=jX (l++ [x]):=by
 rw [υ (by rw [JH];exact Δ _)];unfold jX;rw [Xxi];simp
theorem Ku (l:List Sc):(kL l).length=l.length*4:=oO Tc 4 (fun _=>rfl) l
theorem Y8 (l:List Sc) (x:Sc):ν (l.length*4) (kL l)++Tc x=kL (l++ [x]):=by
 rw [υ (by rw [Ku];exact Δ _)];unfold kL;rw [Xxi];simp
theorem ajt (b:List Sg) (c d:Bool) (xs:List Int) (nn:Bool) (k:Nat) (ls:List Lk) (x:Lk):QU b c d xs nn (k,ls++ [x],[])=⟨[(0,.sl (dU b) b.length c),(2,.bool d),(6,.ptr 0 0 0),(7,.ptr 1 0 0),(8,.ptr 2 0 0),(9,ω ((ls.length+1:Nat):Int))],[(0,⟨[.nilS,.nilS],0,false,0,0,true⟩),(1,⟨[.ref 3 0 0 (ls.length+1),.nilS],0,false,0,0,false⟩),(2,dB xs nn k),(3,⟨ν (ls.length*6) (jX ls)++lkC x,0,false,0,6,true⟩)],.dead,[]⟩:=by
 rw [X8];cases ls with
 |nil=>rfl
 |cons a r=>
  show (⟨[(0,_),(2,_),(6,_),(7,_),(8,_),(9,ω (((a::(r++ [x])).length+0:Nat):Int))],[(0,_),(1,⟨[.ref 3 0 0 (a::(r++ [x])).length,_],_,_,_,_,_⟩),(2,_),(3,_)],_,_⟩:St)=_;rw [show (a::(r++ [x])).length=(a::r).length+1 by simp];rfl
theorem adU (b:List Sg) (c d:Bool) (xs:List Int) (nn:Bool) (k:Nat) (ls:List Lk) (h:ls ≠ []):QU b c d xs nn (k,ls,[])=⟨[(0,.sl (dU b) b.length c),(2,.bool d),(6,.ptr 0 0 0),(7,.ptr 1 0 0),(8,.ptr 2 0 0),(9,ω (ls.length:Int))],[(0,⟨[.nilS,.nilS],0,false,0,0,true⟩),(1,⟨[.ref 3 0 0 ls.length,.nilS],0,false,0,0,false⟩),(2,dB xs nn k),(3,⟨jX ls,0,false,0,6,true⟩)],.dead,[]⟩:=by
 cases ls with
 |nil=>exact absurd rfl h
 |cons a r=>rfl
theorem Xf (c:List Sg) (d e:Bool) (xs:List Int) (nn:Bool) (k:Nat) (ls:List Lk) (qs:List Sc) (h:ls ≠ []) (f:qs ≠ []):QU c d e xs nn (k,ls,qs)=⟨[(0,.sl (dU c) c.length d),(2,.bool e),(6,.ptr 0 0 0),(7,.ptr 1 0 0),(8,.ptr 2 0 0),(9,ω ((ls.length+qs.length:Nat):Int))],[(0,⟨[.nilS,.nilS],0,false,0,0,true⟩),(1,⟨[.ref 3 0 0 ls.length,.ref 4 0 0 qs.length],0,false,0,0,false⟩),(2,dB xs nn k),(3,⟨jX ls,0,false,0,6,true⟩),(4,⟨kL qs,0,false,0,4,true⟩)],.dead,[]⟩:=by
 cases ls with
 |nil=>exact absurd rfl h
 |cons a r=>
  cases qs with
  |nil=>exact absurd rfl f
  |cons b t=>rfl
theorem NF {p r:List Sg} {s:Sg} {k:Nat} (h:k=p.length):ε (δ (k:Int)*5) (dU (p++s::r))=Zd s++dU r:=by
 subst h;rw [aK];unfold dU;rw [Xxi,Xxu,← oO Zd 5 (fun _=>rfl) p,Xj2]
theorem aaU (q:List Sg) (M r:Bool) (s:Sg) (hs:s.op ≠ 24) (xs:List Int) (nn:Bool) (k:Nat) (ls:List Lk) (rx:List AV) (o:ε (δ (ls.length:Int)*5) (dU q)=Zd s++rx) (hj:ls.length<q.length) (h20:q.length<20) (i:xs.length<2^63) (hk:k≤xs.length):
  ∃ (x:Lk) (Y:Nat),Y≤xs.length∧x.op=s.op∧x.nm=s.name∧yG r s.ty x∧∀ nt,87≤nt→ψ nt f58 (QU q M r xs nn (k,ls,[])) .normal (QU q M r xs nn (Y,ls++ [x],[])):=by
 obtain ⟨n,k1,hr0,u,d⟩:=dG xs nn k 80 i hk (by omega) (by omega);obtain ⟨X,k2,hr1,G,z⟩:=dG xs nn k1 9 i u (by omega) (by omega);obtain ⟨r2,k3,D,Z,R⟩:=dG xs nn k2 4 i G (by omega) (by omega);obtain ⟨r3,k4,I,hk4,K⟩:=dG xs nn k1 4 i u (by omega) (by omega);obtain ⟨e2,V,O,L⟩:=ad9 D;obtain ⟨e3,U,P,Q⟩:=ad9 I;have j:=kZ ((n:Int) - 20) (by omega) (by omega);have e1:γ .i64 ((n:Int) - ((20:Nat):Int))=(n:Int) - 20:=bH (by omega) (by omega);rw [← e1] at j;have F:(nD (γ .i64 ((n:Int) - ((20:Nat):Int)))).neg=true→0<(nD (γ .i64 ((n:Int) - ((20:Nat):Int)))).n:=by
  rw [e1];intro h;simp only [nD,decide_eq_true_eq] at h ⊢;omega
 have g:(nD (γ .i64 ((n:Int) - ((20:Nat):Int)))).n<64:=by rw [e1];simp only [nD];omega
 have hd:(nD (γ .i64 ((n:Int) - ((20:Nat):Int)))).d=1:=rfl;generalize nD (γ .i64 ((n:Int) - ((20:Nat):Int)))=w at j F g hd;have hq:qA w=qA ⟨w.neg,w.n,1⟩:=by unfold qA;rw [hd]
 have sw:H5 64 w:=⟨by obtain ⟨a,b,c⟩:=w;simp only at hd;subst hd;exact DR F,by omega,by omega⟩
 have B:CO 48 [ω (γ .i64 ((X:Int)+((2:Nat):Int)))] (.ret (qA ⟨false,X+2,1⟩)):=by
  rw [show γ .i64 ((X:Int)+((2:Nat):Int))=((X+2:Nat):Int) from (bH (by omega) (by omega)).trans (by omega)];exact Nb _ (by omega)
 have t:=Nc w.neg w.n (X+2) F (by omega) (by omega) (by omega);rw [← hq] at t;have l1:=xY w.neg w.n (X+2);have sv:H5 64 (iK w.neg w.n (X+2)):=⟨nV (by omega),by omega,by omega⟩
 generalize iK w.neg w.n (X+2)=v at t sv l1;have y:CO 48 [ω (Xxj (n:Int) ((2:Nat):Int))] (.ret (qA (bR (decide (n % 2=1))))):=by
  rw [uV];have:=Nb (n % 2) (by omega);rcases (show n % 2=0∨n % 2=1 by omega) with h|h
  ·rw [h] at this ⊢;exact this
  ·rw [h] at this ⊢;exact this
 have hb:bR (decide (n % 2=1))=bR (decide (n % 2=1)):=rfl;have J:H5 64 (bR (decide (n % 2=1))):=⟨Ws _,by cases decide (n % 2=1)<;>decide,by cases decide (n % 2=1)<;>decide⟩
 generalize hw3:bR (decide (n % 2=1))=w3 at y J;have hb:w3=bR (decide (n % 2=1)):=hw3.symm;have T:=Su e2;have N:=Su e3;have f:decide ((ls.length:Int)<(q.length:Int))=true:=Yq0 (by omega);have e:(s.op==((24:Nat):Int))=false:=beq_eq_false_iff_ne.2 hs;have p:ω (γ .i64 ((ls.length:Int)+((1:Nat):Int)))=ω ((ls.length+1:Nat):Int):=xk (by omega);have C:Xqc (ls.length+1) 1099511627776=true:=Xql (by omega);have A:Xqc (ls.length*6) (θ (jX ls))=true:=Xql (by rw [JH];exact Δ _);have m:∀ (x:Lk) (Y nt:Nat),(ls= []→ψ nt f58 (QU q M r xs nn (k,[],[])) .normal (QU q M r xs nn (Y,[x],[])))→
   (ψ nt f58 ⟨[(0,.sl (dU q) q.length M),(2,.bool r),(6,.ptr 0 0 0),(7,.ptr 1 0 0),(8,.ptr 2 0 0),(9,ω (ls.length:Int))],[(0,⟨[.nilS,.nilS],0,false,0,0,true⟩),(1,⟨[.ref 3 0 0 ls.length,.nilS],0,false,0,0,false⟩),(2,dB xs nn k),(3,⟨jX ls,0,false,0,6,true⟩)],.dead,[]⟩ .normal
    ⟨[(0,.sl (dU q) q.length M),(2,.bool r),(6,.ptr 0 0 0),(7,.ptr 1 0 0),(8,.ptr 2 0 0),(9,ω ((ls.length+1:Nat):Int))],[(0,⟨[.nilS,.nilS],0,false,0,0,true⟩),(1,⟨[.ref 3 0 0 (ls.length+1),.nilS],0,false,0,0,false⟩),(2,dB xs nn Y),(3,⟨ν (ls.length*6) (jX ls)++lkC x,0,false,0,6,true⟩)],.dead,[]⟩)→
   ψ nt f58 (QU q M r xs nn (k,ls,[])) .normal (QU q M r xs nn (Y,ls++ [x],[])):=by
  intro x Y nt h1 h2;by_cases hz:ls= []
  ·have h1:=h1 hz;rw [hz];exact h1
  ·rw [adU q M r xs nn k ls hz,ajt];exact h2
 rcases tf ((Xxj (n:Int) ((3:Nat):Int))==((0:Nat):Int)) with d0|d0
 ·rcases tf s.ty.tr with d1|d1
  ·rcases tf r with d2|d2
   ·rcases tf ((Xxj (n:Int) ((7:Nat):Int))==((0:Nat):Int)) with d3|d3
    ·refine ⟨⟨s.op,s.name,false,[],[],e2⟩,k3,Z,rfl,rfl,.err V d2,fun nt g=> ?_⟩;exact m _ _ nt (fun i=>by subst i;exact pN 58 [] 7 61 (.k 12 L (.c (mV r2) (.c (lH D) (.c (aA d3) (.k 1 (aA d2) (.k 6 (aA d1) (.k 5 (aA d0) (.k 2 (aF e) (.k 7 (mV 0) (.c f (.c (aA f) .nil))))))))))) (.v 22 (.eq p) (.c T (.v 73 (.eq O) (.c R (.c y (.c t (.c B (.c z (.c j (.c d (.v 25 (.ppt o) .nil))))))))))) g) (pN 58 [] 6 61 (.k 2 C (.c A (.k 9 L (.c (mV r2) (.c (lH D) (.c (aA d3) (.k 1 (aA d2) (.k 6 (aA d1) (.k 5 (aA d0) (.k 2 (aF e) (.k 7 (mV ls.length) (.c f (.c (aA f) .nil))))))))))))) (.v 22 (.eq p) (.c T (.v 73 (.eq O) (.c R (.c y (.c t (.c B (.c z (.c j (.c d (.v 25 (.ppt o) .nil))))))))))) g)
    ·refine ⟨⟨s.op,s.name,w3.neg,ae w3.n,ae w3.d,0⟩,k2,G,rfl,rfl,.val J (fun _=> ⟨_,hb⟩),fun nt g=> ?_⟩;exact m _ _ nt (fun i=>by subst i;exact pN 58 [] 7 29 (.k 11 (aF d3) (.k 1 (aA d2) (.k 6 (aA d1) (.k 5 (aA d0) (.k 2 (aF e) (.k 7 (mV 0) (.c f (.c (aA f) .nil)))))))) (.v 22 (.eq p) (.c y (.c t (.c B (.c z (.c j (.c d (.v 25 (.ppt o) .nil)))))))) g) (pN 58 [] 6 29 (.k 2 C (.c A (.k 8 (aF d3) (.k 1 (aA d2) (.k 6 (aA d1) (.k 5 (aA d0) (.k 2 (aF e) (.k 7 (mV ls.length) (.c f (.c (aA f) .nil)))))))))) (.v 22 (.eq p) (.c y (.c t (.c B (.c z (.c j (.c d (.v 25 (.ppt o) .nil)))))))) g)
   ·refine ⟨⟨s.op,s.name,w3.neg,ae w3.n,ae w3.d,0⟩,k2,G,rfl,rfl,.val J (fun _=> ⟨_,hb⟩),fun nt g=> ?_⟩;exact m _ _ nt (fun i=>by subst i;exact pN 58 [] 7 13 (.k 12 (aF d2) (.k 6 (aA d1) (.k 5 (aA d0) (.k 2 (aF e) (.k 7 (mV 0) (.c f (.c (aA f) .nil))))))) (.v 22 (.eq p) (.c y (.c t (.c B (.c z (.c j (.c d (.v 25 (.ppt o) .nil)))))))) g) (pN 58 [] 6 13 (.k 2 C (.c A (.k 9 (aF d2) (.k 6 (aA d1) (.k 5 (aA d0) (.k 2 (aF e) (.k 7 (mV ls.length) (.c f (.c (aA f) .nil))))))))) (.v 22 (.eq p) (.c y (.c t (.c B (.c z (.c j (.c d (.v 25 (.ppt o) .nil)))))))) g)
  ·rcases tf r with d2|d2
   ·rcases tf ((Xxj (n:Int) ((7:Nat):Int))==((0:Nat):Int)) with d3|d3
    ·refine ⟨⟨s.op,s.name,false,[],[],e2⟩,k3,Z,rfl,rfl,.err V d2,fun nt g=> ?_⟩;exact m _ _ nt (fun i=>by subst i;exact pN 58 [] 7 53 (.k 12 L (.c (mV r2) (.c (lH D) (.c (aA d3) (.k 1 (aA d2) (.k 4 (aF d1) (.k 5 (aA d0) (.k 2 (aF e) (.k 7 (mV 0) (.c f (.c (aA f) .nil))))))))))) (.v 22 (.eq p) (.c T (.v 73 (.eq O) (.c R (.c t (.c B (.c z (.c j (.c d (.v 25 (.ppt o) .nil)))))))))) g) (pN 58 [] 6 53 (.k 2 C (.c A (.k 9 L (.c (mV r2) (.c (lH D) (.c (aA d3) (.k 1 (aA d2) (.k 4 (aF d1) (.k 5 (aA d0) (.k 2 (aF e) (.k 7 (mV ls.length) (.c f (.c (aA f) .nil))))))))))))) (.v 22 (.eq p) (.c T (.v 73 (.eq O) (.c R (.c t (.c B (.c z (.c j (.c d (.v 25 (.ppt o) .nil)))))))))) g)
    ·refine ⟨⟨s.op,s.name,v.neg,ae v.n,ae v.d,0⟩,k2,G,rfl,rfl,.val sv (fun h=>by rw [d1] at h;cases h),fun nt g=> ?_⟩;exact m _ _ nt (fun i=>by subst i;exact pN 58 [] 7 21 (.k 11 (aF d3) (.k 1 (aA d2) (.k 4 (aF d1) (.k 5 (aA d0) (.k 2 (aF e) (.k 7 (mV 0) (.c f (.c (aA f) .nil)))))))) (.v 22 (.eq p) (.c t (.c B (.c z (.c j (.c d (.v 25 (.ppt o) .nil))))))) g) (pN 58 [] 6 21 (.k 2 C (.c A (.k 8 (aF d3) (.k 1 (aA d2) (.k 4 (aF d1) (.k 5 (aA d0) (.k 2 (aF e) (.k 7 (mV ls.length) (.c f (.c (aA f) .nil)))))))))) (.v 22 (.eq p) (.c t (.c B (.c z (.c j (.c d (.v 25 (.ppt o) .nil))))))) g)
   ·refine ⟨⟨s.op,s.name,v.neg,ae v.n,ae v.d,0⟩,k2,G,rfl,rfl,.val sv (fun h=>by rw [d1] at h;cases h),fun nt g=> ?_⟩;exact m _ _ nt (fun i=>by subst i;exact pN 58 [] 7 5 (.k 12 (aF d2) (.k 4 (aF d1) (.k 5 (aA d0) (.k 2 (aF e) (.k 7 (mV 0) (.c f (.c (aA f) .nil))))))) (.v 22 (.eq p) (.c t (.c B (.c z (.c j (.c d (.v 25 (.ppt o) .nil))))))) g) (pN 58 [] 6 5 (.k 2 C (.c A (.k 9 (aF d2) (.k 4 (aF d1) (.k 5 (aA d0) (.k 2 (aF e) (.k 7 (mV ls.length) (.c f (.c (aA f) .nil))))))))) (.v 22 (.eq p) (.c t (.c B (.c z (.c j (.c d (.v 25 (.ppt o) .nil))))))) g)
 ·rcases tf s.ty.tr with d1|d1
  ·rcases tf r with d2|d2
   ·rcases tf ((Xxj (n:Int) ((7:Nat):Int))==((0:Nat):Int)) with d3|d3
    ·refine ⟨⟨s.op,s.name,false,[],[],e3⟩,k4,hk4,rfl,rfl,.err U d2,fun nt g=> ?_⟩;exact m _ _ nt (fun i=>by subst i;exact pN 58 [] 7 57 (.k 12 Q (.c (mV r3) (.c (lH I) (.c (aA d3) (.k 1 (aA d2) (.k 6 (aA d1) (.k 1 (aF d0) (.k 2 (aF e) (.k 7 (mV 0) (.c f (.c (aA f) .nil))))))))))) (.v 22 (.eq p) (.c N (.v 73 (.eq P) (.c K (.c y (.c j (.c d (.v 25 (.ppt o) .nil)))))))) g) (pN 58 [] 6 57 (.k 2 C (.c A (.k 9 Q (.c (mV r3) (.c (lH I) (.c (aA d3) (.k 1 (aA d2) (.k 6 (aA d1) (.k 1 (aF d0) (.k 2 (aF e) (.k 7 (mV ls.length) (.c f (.c (aA f) .nil))))))))))))) (.v 22 (.eq p) (.c N (.v 73 (.eq P) (.c K (.c y (.c j (.c d (.v 25 (.ppt o) .nil)))))))) g)
    ·refine ⟨⟨s.op,s.name,w3.neg,ae w3.n,ae w3.d,0⟩,k1,u,rfl,rfl,.val J (fun _=> ⟨_,hb⟩),fun nt g=> ?_⟩;exact m _ _ nt (fun i=>by subst i;exact pN 58 [] 7 25 (.k 11 (aF d3) (.k 1 (aA d2) (.k 6 (aA d1) (.k 1 (aF d0) (.k 2 (aF e) (.k 7 (mV 0) (.c f (.c (aA f) .nil)))))))) (.v 22 (.eq p) (.c y (.c j (.c d (.v 25 (.ppt o) .nil))))) g) (pN 58 [] 6 25 (.k 2 C (.c A (.k 8 (aF d3) (.k 1 (aA d2) (.k 6 (aA d1) (.k 1 (aF d0) (.k 2 (aF e) (.k 7 (mV ls.length) (.c f (.c (aA f) .nil)))))))))) (.v 22 (.eq p) (.c y (.c j (.c d (.v 25 (.ppt o) .nil))))) g)
   ·refine ⟨⟨s.op,s.name,w3.neg,ae w3.n,ae w3.d,0⟩,k1,u,rfl,rfl,.val J (fun _=> ⟨_,hb⟩),fun nt g=> ?_⟩;exact m _ _ nt (fun i=>by subst i;exact pN 58 [] 7 9 (.k 12 (aF d2) (.k 6 (aA d1) (.k 1 (aF d0) (.k 2 (aF e) (.k 7 (mV 0) (.c f (.c (aA f) .nil))))))) (.v 22 (.eq p) (.c y (.c j (.c d (.v 25 (.ppt o) .nil))))) g) (pN 58 [] 6 9 (.k 2 C (.c A (.k 9 (aF d2) (.k 6 (aA d1) (.k 1 (aF d0) (.k 2 (aF e) (.k 7 (mV ls.length) (.c f (.c (aA f) .nil))))))))) (.v 22 (.eq p) (.c y (.c j (.c d (.v 25 (.ppt o) .nil))))) g)
  ·rcases tf r with d2|d2
   ·rcases tf ((Xxj (n:Int) ((7:Nat):Int))==((0:Nat):Int)) with d3|d3
    ·refine ⟨⟨s.op,s.name,false,[],[],e3⟩,k4,hk4,rfl,rfl,.err U d2,fun nt g=> ?_⟩;exact m _ _ nt (fun i=>by subst i;exact pN 58 [] 7 49 (.k 12 Q (.c (mV r3) (.c (lH I) (.c (aA d3) (.k 1 (aA d2) (.k 4 (aF d1) (.k 1 (aF d0) (.k 2 (aF e) (.k 7 (mV 0) (.c f (.c (aA f) .nil))))))))))) (.v 22 (.eq p) (.c N (.v 73 (.eq P) (.c K (.c j (.c d (.v 25 (.ppt o) .nil))))))) g) (pN 58 [] 6 49 (.k 2 C (.c A (.k 9 Q (.c (mV r3) (.c (lH I) (.c (aA d3) (.k 1 (aA d2) (.k 4 (aF d1) (.k 1 (aF d0) (.k 2 (aF e) (.k 7 (mV ls.length) (.c f (.c (aA f) .nil))))))))))))) (.v 22 (.eq p) (.c N (.v 73 (.eq P) (.c K (.c j (.c d (.v 25 (.ppt o) .nil))))))) g)
    ·refine ⟨⟨s.op,s.name,w.neg,ae w.n,ae w.d,0⟩,k1,u,rfl,rfl,.val sw (fun h=>by rw [d1] at h;cases h),fun nt g=> ?_⟩;exact m _ _ nt (fun i=>by subst i;exact pN 58 [] 7 17 (.k 11 (aF d3) (.k 1 (aA d2) (.k 4 (aF d1) (.k 1 (aF d0) (.k 2 (aF e) (.k 7 (mV 0) (.c f (.c (aA f) .nil)))))))) (.v 22 (.eq p) (.c j (.c d (.v 25 (.ppt o) .nil)))) g) (pN 58 [] 6 17 (.k 2 C (.c A (.k 8 (aF d3) (.k 1 (aA d2) (.k 4 (aF d1) (.k 1 (aF d0) (.k 2 (aF e) (.k 7 (mV ls.length) (.c f (.c (aA f) .nil)))))))))) (.v 22 (.eq p) (.c j (.c d (.v 25 (.ppt o) .nil)))) g)
   ·refine ⟨⟨s.op,s.name,w.neg,ae w.n,ae w.d,0⟩,k1,u,rfl,rfl,.val sw (fun h=>by rw [d1] at h;cases h),fun nt g=> ?_⟩;exact m _ _ nt (fun i=>by subst i;exact pN 58 [] 7 1 (.k 12 (aF d2) (.k 4 (aF d1) (.k 1 (aF d0) (.k 2 (aF e) (.k 7 (mV 0) (.c f (.c (aA f) .nil))))))) (.v 22 (.eq p) (.c j (.c d (.v 25 (.ppt o) .nil)))) g) (pN 58 [] 6 1 (.k 2 C (.c A (.k 9 (aF d2) (.k 4 (aF d1) (.k 1 (aF d0) (.k 2 (aF e) (.k 7 (mV ls.length) (.c f (.c (aA f) .nil))))))))) (.v 22 (.eq p) (.c j (.c d (.v 25 (.ppt o) .nil)))) g)
theorem aju (a:List Sg) (b c:Bool) (xs:List Int) (nn:Bool) (k:Nat) (ls:List Lk) (qs:List Sc) (x:Sc) (h:ls ≠ []):QU a b c xs nn (k,ls,qs++ [x])=⟨[(0,.sl (dU a) a.length b),(2,.bool c),(6,.ptr 0 0 0),(7,.ptr 1 0 0),(8,.ptr 2 0 0),(9,ω ((ls.length+qs.length+1:Nat):Int))],[(0,⟨[.nilS,.nilS],0,false,0,0,true⟩),(1,⟨[.ref 3 0 0 ls.length,.ref 4 0 0 (qs.length+1)],0,false,0,0,false⟩),(2,dB xs nn k),(3,⟨jX ls,0,false,0,6,true⟩),(4,⟨ν (qs.length*4) (kL qs)++Tc x,0,false,0,4,true⟩)],.dead,[]⟩:=by
 rw [Y8,Xf a b c xs nn k ls (qs++ [x]) h (by simp),η,φ,Xxy]
theorem aaV (a:List Sg) (g h:Bool) (s:Sg) (hs:s.op=24) (xs:List Int) (nn:Bool) (k:Nat) (ls:List Lk) (qs:List Sc) (d:ls ≠ []) (y:List AV) (m:ε (δ ((ls.length+qs.length:Nat):Int)*5) (dU a)=Zd s++y) (B:ls.length+qs.length<a.length) (u:a.length<20) (w:xs.length<2^63) (z:k≤xs.length):
  ∃ (x:Sq) (k':Nat),k'≤xs.length∧(x.nm=s.name∧x.l.length≤8∧(∀ b ∈ x.l,b.s28)∧KF nT x.l=0)∧∀ nt,87≤nt→ψ nt f58 (QU a g h xs nn (k,ls,qs)) .normal (QU a g h xs nn (k',ls,qs++ [Sq.c x])):=by
 obtain ⟨bs,k1,i,t,r,q,n⟩:=Y_ s xs nn k w z;refine ⟨⟨s.name,s.ty.m,s.ty.d,bs⟩,k1,i,⟨rfl,t,r,q⟩,fun nt p=> ?_⟩;rw [aju _ _ _ _ _ _ _ _ _ d];generalize c:ls.length+qs.length=j at*
 have f:decide ((j:Int)<(a.length:Int))=true:=Yq0 (by omega);have e:(s.op==((24:Nat):Int))=true:=by rw [hs];rfl
 have o:ω (γ .i64 ((j:Int)+((1:Nat):Int)))=ω ((j+1:Nat):Int):=xk (by omega);have v:Xqc (qs.length+1) 1099511627776=true:=Xql (by omega);have A:Xqc (qs.length*4) (θ (kL qs))=true:=Xql (by rw [Ku];exact Δ _);by_cases hz:qs= []
 ·subst hz;rw [adU a g h xs nn k ls d];simp only [Xqa,Xq8] at c;subst c;exact pN 58 [] 3 3 (.k 10 (aA e) (.k 7 (mV ls.length) (.c f (.c (aA f) .nil)))) (.v 22 (.eq o) (.c n (.v 25 (.ppt m) .nil))) p
 ·rw [Xf a g h xs nn k ls qs d hz,c];exact pN 58 [] 2 3 (.k 2 v (.c A (.k 7 (aA e) (.k 7 (mV j) (.c f (.c (aA f) .nil)))))) (.v 22 (.eq o) (.c n (.v 25 (.ppt m) .nil))) p
theorem Xh (i j:Bool) (xs:List Int) (nn:Bool) (A:xs.length<2^63) (c:List Sg) (h:c.length<20) (ls:List Lk) (d:ls ≠ []):∀ (r p:List Sg) (k:Nat) (qs:List Sc),c=p++r→(∀ s ∈ r,s.op=24)→p.length=ls.length+qs.length→k≤xs.length→(qs ≠ []∨r ≠ [])→
  ∃ (m:Nat) (b:List Sq),rD r b∧∀ nt,87≤nt→aC prog ap [] nt (af 0 (ai f58)) (fun _=> .exit 0) (QU c i j xs nn) emO (k,ls,qs) (m,ls,qs++b.map Sq.c):=by
 intro r
 induction r with
 |nil=>
  intro p k qs hp g a o n;refine ⟨k,[],True.intro,fun nt e=> ?_⟩;have u:qs ≠ []:=n.resolve_right (by simp);simp only [Xxt,Γ] at hp ⊢;subst hp;refine .done ?_;rw [Xf c i j xs nn k ls qs d u,← a];have q:decide ((c.length:Int)<(c.length:Int))=false:=Yq1 (by omega);exact pN 58 [] 1 0 (.c (aF q) .nil) (.nil) e
 |cons s r ih=>
  intro p k qs hp g a o n;obtain ⟨x,k1,f,v,t⟩:=aaV c i j s (g s (by simp)) xs nn k ls qs d (dU r) (by rw [hp];exact NF a.symm) (by rw [hp,← a];simp) h A o;obtain ⟨m,b,B,w⟩:=ih (p++ [s]) k1 (qs++ [Sq.c x]) (by rw [hp];simp) (fun y z=>g y (by simp [z])) (by simp [a,Xxy]) f (.inl (by simp));refine ⟨m,x::b,⟨v,B⟩,fun nt e=> .next (t nt e) ?_⟩;have:=w nt e;rw [τ] at this;exact this
theorem Xg (j h:Bool) (xs:List Int) (nn:Bool) (w:xs.length<2^63) (e:List Sg) (f:e.length<20) (d:List Sg) (v:∀ s ∈ d,s.op=24) (m:d ≠ []):∀ (r p:List Sg) (k:Nat) (ls:List Lk),e=p++(r++d)→(∀ s ∈ r,s.op ≠ 24)→p.length=ls.length→k≤xs.length→(ls ≠ []∨r ≠ [])→
  ∃ (g:Nat) (c:List Lk) (b:List Sq),uF h r c∧rD d b∧∀ nt,87≤nt→aC prog ap [] nt (af 0 (ai f58)) (fun _=> .exit 0) (QU e j h xs nn) emO (k,ls,[]) (g,ls++c,b.map Sq.c):=by
 intro r
 induction r with
 |nil=>
  intro p k ls hp u a o z;obtain ⟨g,b,q,n⟩:=Xh j h xs nn w e f ls (z.resolve_right (by simp)) d p k [] hp v (by simpa using a) o (.inr m);refine ⟨g,[],b,True.intro,q,fun nt i=> ?_⟩;have:=n nt i;rw [Xqi] at this;rw [Γ];exact this
 |cons s r ih=>
  intro p k ls hp u a o z;obtain ⟨x,k1,t,C,G,F,A⟩:=aaU e j h s (u s (by simp)) xs nn k ls (dU (r++d)) (by rw [hp];exact NF a.symm) (by rw [hp,← a];simp) f w o;obtain ⟨g,c,b,q,n,B⟩:=ih (p++ [s]) k1 (ls++ [x]) (by rw [hp];simp) (fun y D=>u y (by simp [D])) (by simp [a]) t (.inl (by simp));refine ⟨g,x::c,b,⟨⟨C,G,F⟩,q⟩,n,fun nt i=> .next (A nt i) ?_⟩;have:=B nt i;rw [τ] at this;exact this
theorem ajs (a:List Sg) (b c nn:Bool) (xs:List Int) (ls:List Lk) (qs:List Sc) (d:aN prog ap [] 87 (.block 0 (.loop (af 0 (ai f58)))) ⟨[(0,.sl (dU a) a.length b),(1,.sl (iL xs) xs.length nn),(2,.bool c),(6,.ptr 0 0 0),(7,.ptr 1 0 0),(8,.ptr 2 0 0),(9,ω 0),(10,.dead),(11,.dead),(12,.dead),(13,.dead),(20,.dead),(29,.dead),(45,.dead),(57,.dead),(68,.dead)],[(0,⟨[.nilS,.nilS],0,false,0,0,true⟩),(1,⟨[.nilS,.nilS],0,false,0,0,true⟩),(2,⟨[.sl (iL xs) xs.length nn,ω 0],0,false,0,0,true⟩)],.dead,[]⟩ (.normal) ⟨[(6,.ptr 0 0 0),(7,.ptr 1 0 0)],[(0,⟨[.nilS,.nilS],0,false,0,0,true⟩),(1,⟨[.ref 2 0 0 ls.length,.ref 3 0 0 qs.length],0,false,0,0,false⟩),(2,⟨(jX ls),0,false,0,6,true⟩),(3,⟨(kL qs),0,false,0,4,true⟩)],.dead,[]⟩):CO 58 [.sl (dU a) a.length b,.sl (iL xs) xs.length nn,.bool c] (.ret (.agg [.sl (ν (ls.length*6) (jX ls)) ls.length true,.sl (ν (qs.length*4) (kL qs)) qs.length true])):=pK [0] 0 0 (.n 5 .nil) (.l d .nil)
theorem uF.len {a:Bool}:∀ {r:List Sg} {l:List Lk},uF a r l→l.length=r.length
 | [],[],_=>rfl
 |s::r,x::l,h=>by simp [uF.len h.2]
theorem rD.len:∀ {r:List Sg} {l:List Sq},rD r l→l.length=r.length
 | [],[],_=>rfl
 |s::r,x::l,h=>by simp [rD.len h.2]
theorem uF.get {a:Bool}:∀ {r:List Sg} {l:List Lk},uF a r l→∀ x ∈ l,∃ s ∈ r,x.op=s.op∧x.nm=s.name∧yG a s.ty x
 | [],[],_,x,hx=>by cases hx
 | s::r,y::l,h,x,hx=>by
  rcases List.mem_cons.1 hx with rfl|hx
  ·exact ⟨s,by simp,h.1⟩
  ·obtain ⟨t,b,c⟩:=uF.get h.2 x hx;exact ⟨t,by simp [b],c⟩
theorem uF.has {a:Bool}:∀ {r:List Sg} {l:List Lk},uF a r l→∀ s ∈ r,∃ x ∈ l,x.op=s.op∧x.nm=s.name∧yG a s.ty x
 | [],[],_,x,hx=>by cases hx
 | s::r,y::l,h,x,hx=>by
  rcases List.mem_cons.1 hx with rfl|hx
  ·exact ⟨y,by simp,h.1⟩
  ·obtain ⟨t,b,c⟩:=uF.has h.2 x hx;exact ⟨t,by simp [b],c⟩
theorem rD.get:∀ {r:List Sg} {l:List Sq},rD r l→∀ x ∈ l,(∃ s ∈ r,x.nm=s.name)∧x.l.length≤8∧(∀ b ∈ x.l,b.s28)∧KF nT x.l=0
 | [],[],_,x,hx=>by cases hx
 | s::r,y::l,h,x,hx=>by
  rcases List.mem_cons.1 hx with rfl|hx
  ·exact ⟨⟨s,by simp,h.1.1⟩,h.1.2⟩
  ·obtain ⟨⟨t,d,c⟩,a⟩:=rD.get h.2 x hx;exact ⟨⟨t,by simp [d],c⟩,a⟩
theorem rD.has:∀ {r:List Sg} {l:List Sq},rD r l→∀ s ∈ r,∃ x ∈ l,x.nm=s.name
 | [],[],_,x,hx=>by cases hx
 | s::r,y::l,h,x,hx=>by
  rcases List.mem_cons.1 hx with rfl|hx
  ·exact ⟨y,by simp,h.1.1⟩
  ·obtain ⟨t,b,a⟩:=rD.has h.2 x hx;exact ⟨t,by simp [b],a⟩
def Vu:List Sg:=aT.take 10
def sgR:List Sg:=aT.drop 10
structure Og (er:Bool) (E:fE):Prop where
 lk:uF er Vu E.ls
 sc:rD sgR E.qs
theorem Og.sm {b:Bool} {E:fE} (h:Og b E):E.sm where
 ls:=by rw [h.lk.len];decide
 qs:=by rw [h.sc.len];decide
 lk x hx:=by
  obtain ⟨s,_,_,_,g⟩:=h.lk.get x hx;exact g.sz
 sq s hs:=by
  obtain ⟨_,c,a,_⟩:=h.sc.get s hs;exact ⟨Xqk c (by decide),a⟩
abbrev afn (E:fE) (nl ns:Bool):AV:= .agg [.sl (jX E.ls) E.ls.length nl,.sl (kL (E.qs.map Sq.c)) (E.qs.map Sq.c).length ns]
theorem afo (b a nn:Bool) (xs:List Int) (e:xs.length<2^63):∃ E:fE,Og a E∧CO 58 [.sl (dU aT) 12 b,.sl (iL xs) xs.length nn,.bool a] (.ret (afn E true true)):=by
 obtain ⟨g,ls,qs,f,d,c⟩:=Xg b a xs nn e aT (by decide) sgR (by decide) (by decide) Vu [] 0 [] rfl (by decide) rfl (by omega) (.inr (by decide));refine ⟨⟨ls,qs⟩,⟨f,d⟩, ?_⟩;have h:=ajs aT b a nn xs ls (qs.map Sq.c) (aC.blk c (by simp) rfl (aP.of ⟨rfl,rfl,rfl,rfl,rfl,rfl,trivial⟩) (aP.refl _));rw [υ (by rw [JH];exact Δ _),υ (by rw [Ku];exact Δ _)] at h;exact h
structure Ro where
 n:Bool
 a:List UInt8
 d:List UInt8
 e:Int
def roC (x:Ro):List AV:= [.bool x.n,.str x.a,.str x.d,ω x.e]
def Aq (l:List Ro):List AV:=l.flatMap roC
def Oe (x:Ro):Oq:=vZ x.n x.a x.d x.e
def nmN:Nd:=⟨3,false,[],[1],[]⟩
def h_ (k:Nat):List Nd:=List.replicate k nmN
abbrev Io (y:Nd) (ls:List Lk) (cs:List Sc) (nl ns:Bool):Hp:= [(0,⟨[ω y.op,.bool y.neg,.str y.num,.str y.den,.str y.name],0,false,0,0,true⟩),(1,⟨[.sl (jX ls) ls.length nl,.sl (kL cs) cs.length ns],0,false,0,0,true⟩),(2,⟨[.bool false,.str [],.str [],ω 0],0,false,0,0,true⟩)]
theorem ajy (y:Nd) (x:Ro) (o:Oq) (a b c:Bool) (k:Nat) (p:List AV) (ar:List Ro) (ls:List Lk) (d:List Sc) {nt:Nat} (i:44≤nt) (m:(ε ((δ (k:Int))*4) (Aq ar))=roC x++p) (n:ω (γ .i64 ((k:Int)+((1:Nat):Int)))=ω ((k+1:Nat):Int)) (f:(decide (((0:Nat):Int)≤(k:Int)))=true) (h:(decide ((k:Int)<(ar.length:Int)))=true) (g:lit true (decide ((k:Int)<(ar.length:Int)))=true) (e:CO 42 [ω 0] (.ret (Ω false [] [1]))) (j:CO 43 [.agg [.bool x.n,.str x.a,.str x.d,ω x.e]] (.ret (.agg [.bool o.n,.str o.a,.str o.d,ω o.e]))):ψ nt f15 ⟨[(3,.ptr 0 0 0),(5,.ptr 1 0 0),(6,.ptr 2 0 0),(7,.nilS),(8,.nilS),(15,.sl (Aq ar) ar.length c),(16,ω (ar.length:Int)),(17,ω (k:Int))],(Io y ls d a b),.dead,[]⟩ (.normal) ⟨[(3,.ptr 0 0 0),(5,.ptr 1 0 0),(6,.ptr 2 0 0),(7,.ref 3 0 0 1),(8,.ref 4 0 0 1),(15,.sl (Aq ar) ar.length c),(16,ω (ar.length:Int)),(17,ω ((k+1:Nat):Int))],(Io y ls d a b++ [(3,⟨zcc4_15,0,false,0,5,true⟩),(4,⟨[.bool o.n,.str o.a,.str o.d,ω o.e],0,false,0,4,true⟩)]),.dead,[]⟩:=pN 15 [] 3 1 (.k 15 f (.c h (.c g .nil))) (.v 17 (.eq n) (.c j (.c e (.v 19 (.ppt m) .nil)))) i
theorem ajz (y:Nd) (b c e:Bool) (k:Nat) (ar:List Ro) (ls:List Lk) (a:List Sc) {nt:Nat} (f:44≤nt) (d:lit false (decide ((k:Int)<(ar.length:Int)))=true):ψ nt f15 ⟨[(3,.ptr 0 0 0),(5,.ptr 1 0 0),(6,.ptr 2 0 0),(7,.nilS),(8,.nilS),(15,.sl (Aq ar) ar.length e),(16,ω (ar.length:Int)),(17,ω (k:Int))],(Io y ls a b c),.dead,[]⟩ (.exit 0) ⟨[(3,.ptr 0 0 0),(5,.ptr 1 0 0),(6,.ptr 2 0 0),(7,.nilS),(8,.nilS)],(Io y ls a b c),.dead,[]⟩:=pN 15 [] 1 0 (.c d .nil) (.nil) f
theorem anI (y:Nd) (x:Ro) (o:Oq) (b c e:Bool) (k:Nat) (s:List AV) (ar:List Ro) (a:List Oq) (ls:List Lk) (f:List Sc) {nt:Nat} (n:44≤nt) (q:(ε ((δ (k:Int))*4) (Aq ar))=roC x++s) (r:ω (γ .i64 ((k:Int)+((1:Nat):Int)))=ω ((k+1:Nat):Int)) (d:(Xqc (a.length+1) 1099511627776)=true) (m:(Xqc (a.length*4) (θ (gJ a)))=true) (j:(Xqc (a.length*5) (θ (a_ (h_ a.length))))=true) (i:(decide (((0:Nat):Int)≤(k:Int)))=true) (t:(decide ((k:Int)<(ar.length:Int)))=true) (h:lit true (decide ((k:Int)<(ar.length:Int)))=true) (g:CO 42 [ω 0] (.ret (Ω false [] [1]))) (p:CO 43 [.agg [.bool x.n,.str x.a,.str x.d,ω x.e]] (.ret (.agg [.bool o.n,.str o.a,.str o.d,ω o.e]))):ψ nt f15 ⟨[(3,.ptr 0 0 0),(5,.ptr 1 0 0),(6,.ptr 2 0 0),(7,.ref 3 0 0 a.length),(8,.ref 4 0 0 a.length),(15,.sl (Aq ar) ar.length e),(16,ω (ar.length:Int)),(17,ω (k:Int))],(Io y ls f b c++ [(3,⟨(a_ (h_ a.length)),0,false,0,5,true⟩),(4,⟨(gJ a),0,false,0,4,true⟩)]),.dead,[]⟩ (.normal) ⟨[(3,.ptr 0 0 0),(5,.ptr 1 0 0),(6,.ptr 2 0 0),(7,.ref 3 0 0 (a.length+1)),(8,.ref 4 0 0 (a.length+1)),(15,.sl (Aq ar) ar.length e),(16,ω (ar.length:Int)),(17,ω ((k+1:Nat):Int))],(Io y ls f b c++ [(3,⟨((ν (a.length*5) (a_ (h_ a.length)))++ zcc4_15),0,false,0,5,true⟩),(4,⟨((ν (a.length*4) (gJ a))++ [.bool o.n,.str o.a,.str o.d,ω o.e]),0,false,0,4,true⟩)]),.dead,[]⟩:=pN 15 [] 1 1 (.k 1 d (.c m (.k 6 d (.c j (.k 6 i (.c t (.c h .nil))))))) (.v 17 (.eq r) (.c p (.c g (.v 19 (.ppt q) .nil)))) n
theorem anJ (y:Nd) (c d f:Bool) (k:Nat) (ar:List Ro) (a:List Oq) (ls:List Lk) (b:List Sc) {nt:Nat} (g:44≤nt) (e:lit false (decide ((k:Int)<(ar.length:Int)))=true):ψ nt f15 ⟨[(3,.ptr 0 0 0),(5,.ptr 1 0 0),(6,.ptr 2 0 0),(7,.ref 3 0 0 a.length),(8,.ref 4 0 0 a.length),(15,.sl (Aq ar) ar.length f),(16,ω (ar.length:Int)),(17,ω (k:Int))],(Io y ls b c d++ [(3,⟨(a_ (h_ a.length)),0,false,0,5,true⟩),(4,⟨(gJ a),0,false,0,4,true⟩)]),.dead,[]⟩ (.exit 0) ⟨[(3,.ptr 0 0 0),(5,.ptr 1 0 0),(6,.ptr 2 0 0),(7,.ref 3 0 0 a.length),(8,.ref 4 0 0 a.length)],(Io y ls b c d++ [(3,⟨(a_ (h_ a.length)),0,false,0,5,true⟩),(4,⟨(gJ a),0,false,0,4,true⟩)]),.dead,[]⟩:=pN 15 [] 1 0 (.c e .nil) (.nil) g
theorem afI (y:Nd) (b d e:Bool) (c:Int) (ar:List Ro) (ls:List Lk) (a:List Sc) (g:lit true (!(c==((0:Nat):Int)))=true) (f:lit false (decide (((60:Nat):Int)<(ar.length:Int)))=true) (j:aN prog ap [] 44 (.block 0 (.loop (af 0 (ai f15)))) ⟨[(0,.agg [ω y.op,.bool y.neg,.str y.num,.str y.den,.str y.name]),(1,.sl (Aq ar) ar.length e),(2,.agg [.sl (jX ls) ls.length b,.sl (kL a) a.length d]),(3,.ptr 0 0 0),(5,.ptr 1 0 0),(6,.ptr 2 0 0),(7,.nilS),(8,.nilS),(10,.dead),(13,.bool (decide (((60:Nat):Int)<(ar.length:Int)))),(15,.sl (Aq ar) ar.length e),(16,ω (ar.length:Int)),(17,ω 0),(18,.dead),(37,.dead)],(Io y ls a b d),.dead,[]⟩ (.normal) ⟨[(3,.ptr 0 0 0),(5,.ptr 1 0 0),(6,.ptr 2 0 0),(7,.nilS),(8,.nilS)],(Io y ls a b d),.dead,[]⟩) (h:CO 44 [.sl [ω y.op,.bool y.neg,.str y.num,.str y.den,.str y.name] 1 true] (.ret (ω c))) (i:CO 41 [ω 11] (.ret (.agg [.bool false,.str [],.str [],ω 11]))):CO 15 [.agg [ω y.op,.bool y.neg,.str y.num,.str y.den,.str y.name],.sl (Aq ar) ar.length e,.agg [.sl (jX ls) ls.length b,.sl (kL a) a.length d]] (.ret (.agg [.bool false,.str [],.str [],ω 11])):=pK [0] 3 4 (.k 5 g (.k 8 f .nil)) (.c i (.c h (.l j .nil)))
theorem afJ (y:Nd) (q:Oq) (b d e:Bool) (c:Int) (k1 v1 k2 f:List AV) (ar:List Ro) (ls:List Lk) (a:List Sc) (i:lit false (!(c==((0:Nat):Int)))=true) (j:lit false (decide (((60:Nat):Int)<(ar.length:Int)))=true) (m:aN prog ap [] 44 (.block 0 (.loop (af 0 (ai f15)))) ⟨[(0,.agg [ω y.op,.bool y.neg,.str y.num,.str y.den,.str y.name]),(1,.sl (Aq ar) ar.length e),(2,.agg [.sl (jX ls) ls.length b,.sl (kL a) a.length d]),(3,.ptr 0 0 0),(5,.ptr 1 0 0),(6,.ptr 2 0 0),(7,.nilS),(8,.nilS),(10,.dead),(13,.bool (decide (((60:Nat):Int)<(ar.length:Int)))),(15,.sl (Aq ar) ar.length e),(16,ω (ar.length:Int)),(17,ω 0),(18,.dead),(37,.dead)],(Io y ls a b d),.dead,[]⟩ (.normal) ⟨[(3,.ptr 0 0 0),(5,.ptr 1 0 0),(6,.ptr 2 0 0),(7,.nilS),(8,.nilS)],(Io y ls a b d),.dead,[]⟩) (g:CO 44 [.sl [ω y.op,.bool y.neg,.str y.num,.str y.den,.str y.name] 1 true] (.ret (ω c))) (k:CO 45 [.agg [.sl (jX ls) ls.length b,.sl (kL a) a.length d]] (.ret (.agg [.mp k1 v1,.mp k2 f]))) (h:CO 46 [.agg [.mp k1 v1,.mp k2 f],.agg [ω y.op,.bool y.neg,.str y.num,.str y.den,.str y.name],.nilS] (.ret (.agg [.bool q.n,.str q.a,.str q.d,ω q.e]))):CO 15 [.agg [ω y.op,.bool y.neg,.str y.num,.str y.den,.str y.name],.sl (Aq ar) ar.length e,.agg [.sl (jX ls) ls.length b,.sl (kL a) a.length d]] (.ret (.agg [.bool q.n,.str q.a,.str q.d,ω q.e])):=pK [0] 3 0 (.k 12 i (.k 8 j .nil)) (.c h (.c k (.c g (.l m .nil))))
theorem ajY (y:Nd) (d e f:Bool) (c:Int) (ar:List Ro) (a:List Oq) (ls:List Lk) (b:List Sc) (i:lit true (!(c==((0:Nat):Int)))=true) (g:(Xqc (a.length+1) 1099511627776)=true) (j:(Xqc (a.length*5) (θ (a_ (h_ a.length))))=true) (h:lit false (decide (((60:Nat):Int)<(ar.length:Int)))=true) (n:aN prog ap [] 44 (.block 0 (.loop (af 0 (ai f15)))) ⟨[(0,.agg [ω y.op,.bool y.neg,.str y.num,.str y.den,.str y.name]),(1,.sl (Aq ar) ar.length f),(2,.agg [.sl (jX ls) ls.length d,.sl (kL b) b.length e]),(3,.ptr 0 0 0),(5,.ptr 1 0 0),(6,.ptr 2 0 0),(7,.nilS),(8,.nilS),(10,.dead),(13,.bool (decide (((60:Nat):Int)<(ar.length:Int)))),(15,.sl (Aq ar) ar.length f),(16,ω (ar.length:Int)),(17,ω 0),(18,.dead),(37,.dead)],(Io y ls b d e),.dead,[]⟩ (.normal) ⟨[(3,.ptr 0 0 0),(5,.ptr 1 0 0),(6,.ptr 2 0 0),(7,.ref 3 0 0 a.length),(8,.ref 4 0 0 a.length)],(Io y ls b d e++ [(3,⟨(a_ (h_ a.length)),0,false,0,5,true⟩),(4,⟨(gJ a),0,false,0,4,true⟩)]),.dead,[]⟩) (k:CO 44 [.sl (ν ((a.length+1)*5) ((ν (a.length*5) (a_ (h_ a.length)))++ [ω y.op,.bool y.neg,.str y.num,.str y.den,.str y.name])) (a.length+1) true] (.ret (ω c))) (m:CO 41 [ω 11] (.ret (.agg [.bool false,.str [],.str [],ω 11]))):CO 15 [.agg [ω y.op,.bool y.neg,.str y.num,.str y.den,.str y.name],.sl (Aq ar) ar.length f,.agg [.sl (jX ls) ls.length d,.sl (kL b) b.length e]] (.ret (.agg [.bool false,.str [],.str [],ω 11])):=pK [0] 2 2 (.k 5 i (.k 1 g (.c j (.k 6 h .nil)))) (.c m (.c k (.l n .nil)))
theorem ajZ (y:Nd) (q:Oq) (d e f:Bool) (c:Int) (k1 v1 k2 g:List AV) (ar:List Ro) (a:List Oq) (ls:List Lk) (b:List Sc) (k:lit false (!(c==((0:Nat):Int)))=true) (n:(Xqc (a.length+1) 1099511627776)=true) (m:(Xqc (a.length*5) (θ (a_ (h_ a.length))))=true) (j:lit false (decide (((60:Nat):Int)<(ar.length:Int)))=true) (p:aN prog ap [] 44 (.block 0 (.loop (af 0 (ai f15)))) ⟨[(0,.agg [ω y.op,.bool y.neg,.str y.num,.str y.den,.str y.name]),(1,.sl (Aq ar) ar.length f),(2,.agg [.sl (jX ls) ls.length d,.sl (kL b) b.length e]),(3,.ptr 0 0 0),(5,.ptr 1 0 0),(6,.ptr 2 0 0),(7,.nilS),(8,.nilS),(10,.dead),(13,.bool (decide (((60:Nat):Int)<(ar.length:Int)))),(15,.sl (Aq ar) ar.length f),(16,ω (ar.length:Int)),(17,ω 0),(18,.dead),(37,.dead)],(Io y ls b d e),.dead,[]⟩ (.normal) ⟨[(3,.ptr 0 0 0),(5,.ptr 1 0 0),(6,.ptr 2 0 0),(7,.ref 3 0 0 a.length),(8,.ref 4 0 0 a.length)],(Io y ls b d e++ [(3,⟨(a_ (h_ a.length)),0,false,0,5,true⟩),(4,⟨(gJ a),0,false,0,4,true⟩)]),.dead,[]⟩) (h:CO 44 [.sl (ν ((a.length+1)*5) ((ν (a.length*5) (a_ (h_ a.length)))++ [ω y.op,.bool y.neg,.str y.num,.str y.den,.str y.name])) (a.length+1) true] (.ret (ω c))) (o:CO 45 [.agg [.sl (jX ls) ls.length d,.sl (kL b) b.length e]] (.ret (.agg [.mp k1 v1,.mp k2 g]))) (i:CO 46 [.agg [.mp k1 v1,.mp k2 g],.agg [ω y.op,.bool y.neg,.str y.num,.str y.den,.str y.name],.sl (ν (a.length*4) (gJ a)) a.length true] (.ret (.agg [.bool q.n,.str q.a,.str q.d,ω q.e]))):CO 15 [.agg [ω y.op,.bool y.neg,.str y.num,.str y.den,.str y.name],.sl (Aq ar) ar.length f,.agg [.sl (jX ls) ls.length d,.sl (kL b) b.length e]] (.ret (.agg [.bool q.n,.str q.a,.str q.d,ω q.e])):=pK [0] 2 0 (.k 12 k (.k 1 n (.c m (.k 6 j .nil)))) (.c i (.c o (.c h (.l p .nil))))
def eoN (os:List Oq):AV:=match os with| []=> .nilS|_::_=> .ref 3 0 0 os.length
def eoM (os:List Oq):AV:=match os with| []=> .nilS|_::_=> .ref 4 0 0 os.length
def eoB (os:List Oq):Hp:=match os with| []=> []|_::_=> [(3,⟨a_ (h_ os.length),0,false,0,5,true⟩),(4,⟨gJ os,0,false,0,4,true⟩)]
abbrev eoS (y:Nd) (ls:List Lk) (cs:List Sc) (nl ns na:Bool) (ar:List Ro) (os:List Oq):St:=⟨[(3,.ptr 0 0 0),(5,.ptr 1 0 0),(6,.ptr 2 0 0),(7,eoN os),(8,eoM os),(15,.sl (Aq ar) ar.length na),(16,ω (ar.length:Int)),(17,ω (os.length:Int))],Io y ls cs nl ns++eoB os,.dead,[]⟩
abbrev eoO (y:Nd) (ls:List Lk) (cs:List Sc) (nl ns:Bool) (os:List Oq):St:=⟨[(3,.ptr 0 0 0),(5,.ptr 1 0 0),(6,.ptr 2 0 0),(7,eoN os),(8,eoM os)],Io y ls cs nl ns++eoB os,.dead,[]⟩
theorem of0:CO 42 [ω 0] (.ret (Ω false [] [1])):=lu (F_ 0 (by decide)) (by kernel_rfl)
theorem U6 (k:Nat):ν (k*5) (a_ (h_ k))++ zcc4_15=a_ (h_ (k+1)):=by
 rw [υ (by rw [aW];simp [h_])];unfold h_;rw [List.replicate_succ'];unfold a_;rw [Xxi];rfl
theorem Xk (y:Nd) (ls:List Lk) (c:List Sc) (d f e:Bool) (ar:List Ro) (b:List Oq) (o:Oq):eoS y ls c d f e ar (b++ [o])=⟨[(3,.ptr 0 0 0),(5,.ptr 1 0 0),(6,.ptr 2 0 0),(7,.ref 3 0 0 (b.length+1)),(8,.ref 4 0 0 (b.length+1)),(15,.sl (Aq ar) ar.length e),(16,ω (ar.length:Int)),(17,ω ((b.length+1:Nat):Int))],Io y ls c d f++ [(3,⟨a_ (h_ (b.length+1)),0,false,0,5,true⟩),(4,⟨gJ (b++ [o]),0,false,0,4,true⟩)],.dead,[]⟩:=by
 cases b with
 |nil=>rfl
 |cons a r=>
  show (⟨[(3,_),(5,_),(6,_),(7,.ref 3 0 0 (a::r++ [o]).length),(8,.ref 4 0 0 (a::r++ [o]).length),(15,_),(16,_),(17,ω (((a::r++ [o]).length:Nat):Int))],_++ [(3,⟨a_ (h_ (a::r++ [o]).length),_,_,_,_,_⟩),_],_,_⟩:St)=_;rw [show (a::r++ [o]).length=(a::r).length+1 from η]
theorem acS {l:List Ro} {k:Nat} {x:Ro} {p r:List Ro} (h:l=p++x::r) (b:k=p.length):ε (δ (k:Int)*4) (Aq l)=roC x++Aq r:=by
 subst h b;rw [aK];unfold Aq;rw [Xxi,Xxu];have a:(Yxt roC p).length=p.length*4:=oO roC 4 (fun _=>rfl) p;rw [← a,Xj2]
theorem aaX {nt:Nat} (n:44≤nt) (y:Nd) (ls:List Lk) (f:List Sc) (d e j:Bool) {ar:List Ro} (B:ar.length≤60) (o:∀ x ∈ ar,x.a.length<2^36∧x.d.length<2^36):∀ (r p:List Ro) (b:List Oq),ar=p++r→b=p.map Oe→
  aC prog ap [] nt (af 0 (ai f15)) (fun _=> .exit 0) (eoS y ls f d e j ar) (eoO y ls f d e) b (ar.map Oe):=by
 intro r
 induction r with
 |nil=>
  intro p b hp k;rw [Γ] at hp;subst hp;subst k;have hd:lit false (decide ((((ar.map Oe).length:Nat):Int)<(ar.length:Int)))=true:=aF (Yq1 (by simp));generalize ar.map Oe=b at*
  cases b with
  |nil=>exact .done (ajz y d e j 0 ar ls f n hd)
  |cons a q=>exact .done (anJ y d e j (a::q).length ar (a::q) ls f n hd)
 | cons x r ih=>
  intro p b hp k;have c:b.length=p.length:=by rw [k,Xjm]
  have w:b.length<ar.length:=by rw [hp,c];simp
  have t:=acS hp c;have hs:=o x (by rw [hp];simp);have u:=ih (p++ [x]) (b++ [Oe x]) (by rw [hp];simp) (by rw [k];simp);refine .next ?_ u
  rw [Xk];have s:decide (((0:Nat):Int)≤(b.length:Int))=true:=Yq0 (by omega);have m:decide ((b.length:Int)<(ar.length:Int))=true:=Yq0 (by omega);have g:=xk (i:=b.length) (by omega);have A:Xqc (b.length+1) 1099511627776=true:=Xql (by omega);have z:Xqc (b.length*4) (θ (gJ b))=true:=Xql (by rw [zQ];exact Δ _);have v:Xqc (b.length*5) (θ (a_ (h_ b.length)))=true:=Xql (by rw [aW];simp [h_]);cases b with
  |nil=>exact ajy y x (Oe x) d e j 0 _ ar ls f n t g s m (aA m) of0 (wR x.n x.a x.d x.e hs.1 hs.2)
  |cons a q=>
   have h:=anI y x (Oe x) d e j (a::q).length _ ar (a::q) ls f n t g A z v s m (aA m) of0 (wR x.n x.a x.d x.e hs.1 hs.2);rw [U6,vP] at h;exact h
def ajX (E:fE) (y:Nd) (l:List Oq):Oq:=if cO (h_ l.length++ [y])=0 then eX E y l else .err 11
theorem Lh:∀ (k d:Nat) (r:List Nd),iE (h_ k++r) d=iE r (d+k)
 |0,_,_=>rfl
 |k+1,d,r=>by
  show iE (nmN::(h_ k++r)) d=_;simp only [iE];rw [if_pos (show aO nmN=0 by kernel_rfl),if_neg (show ¬ d<dM nmN.op from Xz5 _),Lh k _ r];congr 1;show d - 0+1+k=_;omega
theorem akZ {k:Nat} {y:Nd} (h:cO (h_ k++ [y])=0):k=dM y.op:=by
 unfold cO at h;split at h
 ·cases h
 ·rw [Lh] at h;simp only [iE] at h;by_cases hw:aO y=0
  ·rw [if_pos hw] at h;by_cases hd:0+k<dM y.op
   ·rw [if_pos hd] at h;cases h
   ·rw [if_neg hd] at h;dsimp only at h;split at h
    ·omega
    ·cases h
  ·rw [if_neg hw] at h;exact absurd h hw
theorem acf (k:Nat):∀ x ∈ h_ k,x.sm:=by
 intro x a;rw [List.eq_of_mem_replicate a];exact ⟨by decide,by decide⟩
theorem abg (E:fE) (d e i:Bool) (n:E.sm) (y:Nd) (C:y.sm) {ar:List Ro} (G:ar.length≤60) (v:∀ x ∈ ar,x.a.length<2^36∧x.d.length<2^36):
  CO 15 [.agg (qB y),.sl (Aq ar) ar.length i,.agg [.sl (jX E.ls) E.ls.length d,.sl (kL (E.qs.map Sq.c)) (E.qs.map Sq.c).length e]] (.ret (gz (ajX E y (ar.map Oe)))):=by
 have z:=LJ E.ls (E.qs.map Sq.c) d e (Xqz n.ls (by decide)) (by rw [Xjm];exact Xqz n.qs (by decide)) n.lk;have D:∀ nt,44≤nt→aC prog ap [] nt (af 0 (ai f15)) (fun _=> .exit 0) (eoS y E.ls (E.qs.map Sq.c) d e i ar) (eoO y E.ls (E.qs.map Sq.c) d e) [] (ar.map Oe):=fun nt I=>aaX I y E.ls (E.qs.map Sq.c) d e i G v ar [] [] rfl rfl
 have r:∀ x ∈ h_ ar.length++ [y],x.sm:=fun x K=>(List.mem_append.1 K).elim (acf _ x) (fun h=>by rw [List.mem_singleton] at h;exact h ▸ C)
 have g:=yS (h_ ar.length++ [y]) true r;have b:lit false (decide (((60:Nat):Int)<(ar.length:Int)))=true:=aF (Yq1 (by omega));have c:(ar.map Oe).length=ar.length:=Xjm ..;have k:=aC.blk (id:=0) (e':= .normal) (s:=⟨[(0,.agg [ω y.op,.bool y.neg,.str y.num,.str y.den,.str y.name]),(1,.sl (Aq ar) ar.length i),(2,.agg [.sl (jX E.ls) E.ls.length d,.sl (kL (E.qs.map Sq.c)) (E.qs.map Sq.c).length e]),(3,.ptr 0 0 0),(5,.ptr 1 0 0),(6,.ptr 2 0 0),(7,.nilS),(8,.nilS),(10,.dead),(13,.bool (decide (((60:Nat):Int)<(ar.length:Int)))),(15,.sl (Aq ar) ar.length i),(16,ω (ar.length:Int)),(17,ω 0),(18,.dead),(37,.dead)],(Io y E.ls (E.qs.map Sq.c) d e),.dead,[]⟩) (s':=eoO y E.ls (E.qs.map Sq.c) d e (ar.map Oe)) D (by simp) rfl (aP.of ⟨rfl,rfl,rfl,rfl,rfl,rfl,rfl,rfl,trivial⟩) (aP.refl _);have hnode:∀ nn:Bool,cO (h_ ar.length++ [y])=0→CO 46 [ahf E,.agg (qB y),.sl (gJ (ar.map Oe)) (ar.map Oe).length nn] (.ret (gz (eX E y (ar.map Oe)))):=fun nn h=>by
  have A:=(kz h).1 y (by simp);have j:=sU A;exact LH E y nn (ar.map Oe) j.1 j.2 (TC A) (by rw [c];exact akZ h) (fun o F=>by obtain ⟨x,_,rfl⟩:=List.mem_map.1 F;exact D6 _ _ _ _) C n.sq
 unfold ajX;rw [c];have M:Xqc (ar.length+1) 1099511627776=true:=Xql (by omega);cases p:ar.map Oe with
 | nil=>
  have m:ar.length=0:=by rw [← c,p];rfl
  rw [p] at k hnode;have L:cO (h_ ar.length++ [y])=cO (h_ 0++ [y]):=by rw [m]
  rw [L];rw [m] at g hnode;by_cases hc:cO (h_ 0++ [y])=0
  ·rw [if_pos hc];rw [hc] at g;exact afJ y _ d e i 0 _ _ _ _ ar E.ls (E.qs.map Sq.c) (aF rfl) b k g z ((hnode false hc).args (bD.cons (aQ.refl _) (bD.cons (aQ.refl _) (bD.cons (aQ.nilS false rfl) (bD.refl _)))))
  ·rw [if_neg hc];exact afI y d e i _ ar E.ls (E.qs.map Sq.c) (aA (by simpa using hc)) b k g (ja 11)
 | cons a q=>
  have m:(a::q).length=ar.length:=by rw [← c,p]
  rw [p] at k hnode;have t:ν (((a::q).length+1)*5) (ν ((a::q).length*5) (a_ (h_ (a::q).length))++ [ω y.op,.bool y.neg,.str y.num,.str y.den,.str y.name])=a_ (h_ (a::q).length++ [y]):=by
   have J:ν ((a::q).length*5) (a_ (h_ (a::q).length))=a_ (h_ (a::q).length):=υ (by rw [aW];simp [h_]);rw [J,υ (by rw [η,aW];simp [h_];omega)];unfold a_;rw [Xxi];rfl
  have B:Xqc ((a::q).length+1) 1099511627776=true:=Xql (by omega);have w:Xqc ((a::q).length*5) (θ (a_ (h_ (a::q).length)))=true:=Xql (by rw [aW];simp [h_]);have f:CO 44 [.sl (ν (((a::q).length+1)*5) (ν ((a::q).length*5) (a_ (h_ (a::q).length))++ [ω y.op,.bool y.neg,.str y.num,.str y.den,.str y.name])) ((a::q).length+1) true] (.ret (ω (cO (h_ ar.length++ [y])))):=by
   rw [t,m];have:=g;rw [show (h_ ar.length++ [y]).length=ar.length+1 by simp [h_]] at this;exact this
  have u:ν ((a::q).length*4) (gJ (a::q))=gJ (a::q):=υ (by rw [zQ];exact Δ _);by_cases hc:cO (h_ ar.length++ [y])=0
  ·rw [if_pos hc];rw [hc] at f;exact ajZ y _ d e i 0 _ _ _ _ ar (a::q) E.ls (E.qs.map Sq.c) (aF rfl) B w b k f z (by rw [u];exact hnode true hc)
  ·rw [if_neg hc];exact ajY y d e i _ ar (a::q) E.ls (E.qs.map Sq.c) (aA (by simpa using hc)) B w b k f (ja 11)
theorem ajG (a b:List Oq) (o q:Oq) (j d:Bool) (k:Nat) (m rb:List AV) {nt:Nat} (p:26≤nt) (e:(ε ((δ (k:Int))*4) (gJ a))=Dt o++m) (i:(ε ((δ (k:Int))*4) (gJ b))=Dt q++rb) (g:lit true (!((o.n==q.n) && ((o.a==q.a) && ((o.d==q.d) && ((o.e==q.e) && true)))))=true) (c:(decide (((0:Nat):Int)≤(k:Int)))=true) (h:(decide ((k:Int)<(b.length:Int)))=true) (f:(decide ((k:Int)<(a.length:Int)))=true) (n:lit true (decide ((k:Int)<(a.length:Int)))=true):ψ nt f18 ⟨[(0,.sl (gJ a) a.length j),(1,.sl (gJ b) b.length d),(5,ω (k:Int))],[],.dead,[]⟩ (.ret) ⟨[(4,.bool false)],[],.dead,[]⟩:=pN 18 [] 2 3 (.c g (.k 4 c (.c h (.k 4 c (.c f (.c n .nil)))))) (.v 23 (.ppt i) (.v 19 (.ppt e) .nil)) p
theorem ajH (a b:List Oq) (o q:Oq) (d e:Bool) (k:Nat) (i rb:List AV) {nt:Nat} (j:26≤nt) (m:(ε ((δ (k:Int))*4) (gJ a))=Dt o++i) (p:(ε ((δ (k:Int))*4) (gJ b))=Dt q++rb) (n:ω (γ .i64 ((k:Int)+((1:Nat):Int)))=ω ((k+1:Nat):Int)) (g:lit false (!((o.n==q.n) && ((o.a==q.a) && ((o.d==q.d) && ((o.e==q.e) && true)))))=true) (c:(decide (((0:Nat):Int)≤(k:Int)))=true) (h:(decide ((k:Int)<(b.length:Int)))=true) (f:(decide ((k:Int)<(a.length:Int)))=true) (r:lit true (decide ((k:Int)<(a.length:Int)))=true):ψ nt f18 ⟨[(0,.sl (gJ a) a.length d),(1,.sl (gJ b) b.length e),(5,ω (k:Int))],[],.dead,[]⟩ (.normal) ⟨[(0,.sl (gJ a) a.length d),(1,.sl (gJ b) b.length e),(5,ω ((k+1:Nat):Int))],[],.dead,[]⟩:=pN 18 [] 2 1 (.c g (.k 4 c (.c h (.k 4 c (.c f (.c r .nil)))))) (.v 5 (.eq n) (.v 23 (.ppt p) (.v 19 (.ppt m) .nil))) j
theorem ajI (a b:List Oq) (e c:Bool) (k:Nat) {nt:Nat} (f:26≤nt) (d:lit false (decide ((k:Int)<(a.length:Int)))=true):ψ nt f18 ⟨[(0,.sl (gJ a) a.length e),(1,.sl (gJ b) b.length c),(5,ω (k:Int))],[],.dead,[]⟩ (.exit 0) ⟨[(4,.dead)],[],.dead,[]⟩:=pN 18 [] 1 0 (.c d .nil) (.nil) f
theorem QZ (o q:Oq):CO 17 [.agg [.bool o.n,.str o.a,.str o.d,ω o.e],.agg [.bool q.n,.str q.a,.str q.d,ω q.e]] (.ret (.bool ((o.n==q.n) && ((o.a==q.a) && ((o.d==q.d) && ((o.e==q.e) && true)))))):=pK [] 0 0 (.n 8 .nil) (.nil)
theorem afs (a b:List Oq) (e c:Bool) (d:lit true (!((a.length:Int)==(b.length:Int)))=true):CO 18 [.sl (gJ a) a.length e,.sl (gJ b) b.length c] (.ret (.bool false)):=pK [0] 1 1 (.c d .nil) (.nil)
theorem aft (a b:List Oq) (d c:Bool) (e:lit false (!((a.length:Int)==(b.length:Int)))=true) (f:aN prog ap [] 26 (.block 0 (.loop (af 0 (ai f18)))) ⟨[(0,.sl (gJ a) a.length d),(1,.sl (gJ b) b.length c),(4,.bool false),(5,ω 0),(10,.bool (!((a.length:Int)==(b.length:Int)))),(14,.dead),(25,.dead)],[],.dead,[]⟩ (.normal) ⟨[(4,.dead)],[],.dead,[]⟩):CO 18 [.sl (gJ a) a.length d,.sl (gJ b) b.length c] (.ret (.bool true)):=pK [0] 1 0 (.c e .nil) (.l f .nil)
theorem afr (a b:List Oq) (d c:Bool) (e:lit false (!((a.length:Int)==(b.length:Int)))=true) (f:aN prog ap [] 26 (.block 0 (.loop (af 0 (ai f18)))) ⟨[(0,.sl (gJ a) a.length d),(1,.sl (gJ b) b.length c),(4,.bool false),(5,ω 0),(10,.bool (!((a.length:Int)==(b.length:Int)))),(14,.dead),(25,.dead)],[],.dead,[]⟩ (.ret) ⟨[(4,.bool false)],[],.dead,[]⟩):CO 18 [.sl (gJ a) a.length d,.sl (gJ b) b.length c] (.ret (.bool false)):=pK [0] 1 0 (.c e .nil) (.l f .nil)
def eqo (o q:Oq):Bool:=(o.n==q.n) && ((o.a==q.a) && ((o.d==q.d) && ((o.e==q.e) && true)))
def UE:List Oq→List Oq→Bool
 |x::r,y::s=>eqo x y && UE r s
 |_,_=>true
def aa5:Bool→bM
 |true=> .exit 0
 |false=> .ret
def ajK:Bool→St
 |true=> ⟨[(4,.dead)],[],.dead,[]⟩
 |false=> ⟨[(4,.bool false)],[],.dead,[]⟩
abbrev ajJ (a b:List Oq) (na nb:Bool) (k:Nat):St:=⟨[(0,.sl (gJ a) a.length na),(1,.sl (gJ b) b.length nb),(5,ω (k:Int))],[],.dead,[]⟩
theorem RJ {l:List Oq} {k:Nat} {x:Oq} {p r:List Oq} (h:l=p++x::r) (b:k=p.length):ε (δ (k:Int)*4) (gJ l)=Dt x++gJ r:=by
 subst h b;rw [aK];unfold gJ;rw [Xxi,Xxu];have a:(Yxt Dt p).length=p.length*4:=oO Dt 4 (fun _=>rfl) p;rw [← a,Xj2]
theorem XC {nt:Nat} (h:26≤nt) (a b:List Oq) (d e:Bool) (u:a.length=b.length) (w:a.length<2^40):∀ (r s p q:List Oq),a=p++r→b=q++s→p.length=q.length→
  aC prog ap [] nt (af 0 (ai f18)) aa5 (ajJ a b d e) ajK p.length (UE r s):=by
 intro r
 induction r with
 |nil=>
  intro s p q hp g i;rw [Γ] at hp;subst hp;exact .done (ajI a b d e a.length h (aF (Yq1 (by omega))))
 | cons x r ih=>
  intro s p q hp g i;cases s with
  |nil=>exfalso;rw [hp,g] at u;simp at u;omega
  | cons y s=>
   have o:=RJ hp rfl;have t:=RJ (k:=p.length) g i;have z:p.length<a.length:=by rw [hp];simp
   have v:decide (((0:Nat):Int)≤(p.length:Int))=true:=Yq0 (by omega);have j:decide ((p.length:Int)<(b.length:Int))=true:=Yq0 (by omega);have f:decide ((p.length:Int)<(a.length:Int))=true:=Yq0 (by omega);unfold UE;cases n:eqo x y with
   |false=>
    have c:lit true (!eqo x y)=true:=by rw [n];rfl
    exact .done (ajG a b x y d e p.length _ _ h o t c v j f (aA f))
   |true=>
    have c:lit false (!eqo x y)=true:=by rw [n];rfl
    have m:=ih s (p++ [x]) (q++ [y]) (by rw [hp];simp) (by rw [g];simp) (by simp [i]);rw [η] at m;exact .next (ajH a b x y d e p.length _ _ h o t (xk (by omega)) c v j f (aA f)) m
theorem Vo (a b:List Oq) (d c:Bool) (h:a.length<2^40):CO 18 [.sl (gJ a) a.length d,.sl (gJ b) b.length c] (.ret (.bool (decide (a.length=b.length) && UE a b))):=by
 by_cases hl:a.length=b.length
 ·rw [Yq0 hl,Xqp];have f:lit false (!((a.length:Int)==(b.length:Int)))=true:=by simp [lit,hl]
  have e:∀ nt,26≤nt→aC prog ap [] nt (af 0 (ai f18)) aa5 (ajJ a b d c) ajK 0 (UE a b):=fun nt i=>XC i a b d c hl h a b [] [] rfl rfl rfl
  cases g:UE a b with
  |true=>
   rw [g] at e;exact aft a b d c f (aC.blk e (by simp [aa5]) rfl (aP.of ⟨rfl,rfl,rfl,trivial⟩) (aP.refl _))
  |false=>
   rw [g] at e;exact afr a b d c f (aC.blk e (by simp [aa5]) rfl (aP.of ⟨rfl,rfl,rfl,trivial⟩) (aP.refl _))
 ·rw [Yq1 hl,Xqm];exact afs a b d c (by simp [lit];omega)
theorem acE (n d:Int) (a b q:RQ) (c:CO 48 [ω n] (.ret (.agg [.bool a.neg,.str (ae a.n),.str (ae a.d)]))) (f:CO 48 [ω d] (.ret (.agg [.bool b.neg,.str (ae b.n),.str (ae b.d)]))) (e:CO 60 [.agg [.bool a.neg,.str (ae a.n),.str (ae a.d)],.agg [.bool b.neg,.str (ae b.n),.str (ae b.d)]] (.ret (.tup [.agg [.bool q.neg,.str (ae q.n),.str (ae q.d)],.bool true]))):CO 27 [ω n,ω d] (.ret (.agg [.bool q.neg,.str (ae q.n),.str (ae q.d)])):=pK [] 0 0 (.n 8 .nil) (.c e (.c f (.c c .nil)))
theorem um (n:Int) (d:Nat) (k: -60000<n) (i:n<60000) (c:0<d) (j:d<60000):CO 27 [ω n,ω (d:Int)] (.ret (qA (iK (nD n).neg (nD n).n d))):=by
 have e:=kZ n (by omega) (by omega);have a:(nD n).neg=true→0<(nD n).n:=by intro h;simp only [nD,decide_eq_true_eq] at h ⊢;omega
 have g:(nD n).n<65536:=by simp only [nD];omega
 have hd:(nD n).d=1:=rfl;generalize nD n=w at*
 have f:qA w=qA ⟨w.neg,w.n,1⟩:=by unfold qA;rw [hd]
 have b:=Nc w.neg w.n d a g c (by omega);rw [← f] at b;exact acE n d w ⟨false,d,1⟩ _ e (Nb d (by omega)) b
def BH:fE:=⟨[],[]⟩
theorem jS:BH.sm:=⟨by decide,by decide,by decide,fun s hs=>by cases hs⟩
def amd:fE:=⟨[⟨6,[120],false,[5],[1],0⟩],[]⟩
theorem ac2:amd.sm:=⟨by decide,by decide,by decide,fun s hs=>by cases hs⟩
def ame:fE:=⟨[⟨6,[120],false,[],[],17⟩],[]⟩
theorem ac3:ame.sm:=⟨by decide,by decide,by decide,fun s hs=>by cases hs⟩
def amf:fE:=⟨[],[⟨[115],0,0,[⟨false,[],[1],false,[],[1]⟩,⟨false,[100],[1],false,[1],[10]⟩,⟨false,[1,44],[1],false,[1],[4]⟩]⟩]⟩
theorem ac4:amf.sm:=⟨by decide,by decide,by decide,fun s hs=>by
 rw [show s=_ from List.mem_singleton.1 hs];refine ⟨by decide,fun b a=> ?_⟩;have:b ∈ ([⟨false,[],[1],false,[],[1]⟩,⟨false,[100],[1],false,[1],[10]⟩,⟨false,[1,44],[1],false,[1],[4]⟩]:List Br):=a;simp only [List.mem_cons,List.not_mem_nil,or_false] at this;rcases this with rfl|rfl|rfl<;>exact ⟨⟨by decide,by decide⟩,by decide,by decide⟩⟩
theorem k0:CO 27 [ω 1,ω 1] (.ret (Ω false [1] [1])):=lu (um 1 1 (by decide) (by decide) (by decide) (by decide)) (by kernel_rfl)
theorem k1:CO 37 [ω 1,ω 1] (.ret (.agg zcc4_14)):=cK (.c k0 .nil)
theorem k2:CO 27 [ω 0,ω 1] (.ret (Ω false [] [1])):=lu (um 0 1 (by decide) (by decide) (by decide) (by decide)) (by kernel_rfl)
theorem k3:CO 37 [ω 0,ω 1] (.ret (.agg zcc4_15)):=cK (.c k2 .nil)
theorem k4:CO 27 [ω 5,ω 6] (.ret (Ω false [5] [6])):=lu (um 5 6 (by decide) (by decide) (by decide) (by decide)) (by kernel_rfl)
theorem k5:CO 29 [Ω false [5] [6]] (.ret (.agg [.bool false,.str [5],.str [6],ω 0])):=cK (.nil)
theorem k6:CO 27 [ω 1,ω 2] (.ret (Ω false [1] [2])):=lu (um 1 2 (by decide) (by decide) (by decide) (by decide)) (by kernel_rfl)
theorem k7:CO 40 [ω 1,ω 2] (.ret (.agg [ω 1,.bool false,.str [1],.str [2],.str []])):=cK (.c k6 .nil)
theorem k8:CO 27 [ω 1,ω 3] (.ret (Ω false [1] [3])):=lu (um 1 3 (by decide) (by decide) (by decide) (by decide)) (by kernel_rfl)
theorem k9:CO 40 [ω 1,ω 3] (.ret (.agg [ω 1,.bool false,.str [1],.str [3],.str []])):=cK (.c k8 .nil)
theorem k10:CO 21 [.sl zcc4_6 3 true,.agg [.nilS,.nilS]] (.ret (.agg [.bool false,.str [5],.str [6],ω 0])):=aG.args (.cons (aQ.refl _) (.cons (aQ.agg (.cons (aQ.nilS false rfl) (.cons (aQ.nilS false rfl) .nil))) .nil)) (lu (q:=CO 21 [.sl zcc4_6 3 true,.agg [.sl [] 0 false,.sl [] 0 false]] (.ret (.agg [.bool false,.str [5],.str [6],ω 0]))) (iI BH false false true (e:= [⟨1,false,[1],[2],[]⟩,⟨1,false,[1],[3],[]⟩,⟨9,false,[],[],[]⟩]) jS (lh (by kernel_rfl))) (by kernel_rfl))
theorem k11:CO 39 [.agg [.nilS,.nilS],.agg [.bool false,.str [5],.str [6],ω 0],.sl zcc4_6 3 true] (.ret (.bool true)):=cK (.c k10 .nil)
theorem k12:CO 29 [Ω false [1] [1]] (.ret (.agg [.bool false,.str [1],.str [1],ω 0])):=cK (.nil)
theorem k13:CO 28 [ω 1] (.ret (.agg [ω 4,.bool false,.str [1],.str [1],.str []])):=cK (.c k0 .nil)
theorem k14:CO 38 [ω 1,.pp zcc4_14 0,.pp [.sl [ω 3,.bool false,.str [1],.str [1],.str [],ω 3,.bool false,.str [],.str [1],.str [],ω 12,.bool false,.str [],.str [],.str []] 3 true] 0] (.ret (.own zcc4_0 6 5)):=cK (.c k13 .nil)
theorem k15:CO 21 [.sl zcc4_0 6 true,.agg [.nilS,.nilS]] (.ret (.agg [.bool false,.str [1],.str [1],ω 0])):=aG.args (.cons (aQ.refl _) (.cons (aQ.agg (.cons (aQ.nilS false rfl) (.cons (aQ.nilS false rfl) .nil))) .nil)) (lu (q:=CO 21 [.sl zcc4_0 6 true,.agg [.sl [] 0 false,.sl [] 0 false]] (.ret (.agg [.bool false,.str [1],.str [1],ω 0]))) (iI BH false false true (e:= [⟨4,false,[1],[1],[]⟩,⟨3,false,[1],[1],[]⟩,⟨3,false,[1],[1],[]⟩,⟨3,false,[],[1],[]⟩,⟨12,false,[],[],[]⟩,⟨15,false,[],[],[]⟩]) jS (lh (by kernel_rfl))) (by kernel_rfl))
theorem k16:CO 39 [.agg [.nilS,.nilS],.agg [.bool false,.str [1],.str [1],ω 0],.sl zcc4_0 6 true] (.ret (.bool true)):=cK (.c k15 .nil)
theorem k17:CO 26 [ω 16] (.ret (.agg [.bool false,.str [],.str [],ω 16])):=cK (.nil)
theorem k18:CO 28 [ω 0] (.ret (.agg [ω 4,.bool false,.str [],.str [1],.str []])):=cK (.c k2 .nil)
theorem k19:CO 38 [ω 0,.pp zcc4_14 0,.pp [.sl [ω 3,.bool false,.str [1],.str [1],.str [],ω 3,.bool false,.str [],.str [1],.str [],ω 12,.bool false,.str [],.str [],.str []] 3 true] 0] (.ret (.own zcc4_1 6 5)):=cK (.c k18 .nil)
theorem k20:CO 21 [.sl zcc4_1 6 true,.agg [.nilS,.nilS]] (.ret (.agg [.bool false,.str [],.str [],ω 16])):=aG.args (.cons (aQ.refl _) (.cons (aQ.agg (.cons (aQ.nilS false rfl) (.cons (aQ.nilS false rfl) .nil))) .nil)) (lu (q:=CO 21 [.sl zcc4_1 6 true,.agg [.sl [] 0 false,.sl [] 0 false]] (.ret (.agg [.bool false,.str [],.str [],ω 16]))) (iI BH false false true (e:= [⟨4,false,[],[1],[]⟩,⟨3,false,[1],[1],[]⟩,⟨3,false,[1],[1],[]⟩,⟨3,false,[],[1],[]⟩,⟨12,false,[],[],[]⟩,⟨15,false,[],[],[]⟩]) jS (lh (by kernel_rfl))) (by kernel_rfl))
theorem k21:CO 39 [.agg [.nilS,.nilS],.agg [.bool false,.str [],.str [],ω 16],.sl zcc4_1 6 true] (.ret (.bool true)):=cK (.c k20 .nil)
theorem k22:CO 26 [ω 13] (.ret (.agg [.bool false,.str [],.str [],ω 13])):=cK (.nil)
theorem k23:CO 27 [ω 2,ω 1] (.ret (Ω false [2] [1])):=lu (um 2 1 (by decide) (by decide) (by decide) (by decide)) (by kernel_rfl)
theorem k24:CO 37 [ω 2,ω 1] (.ret (.agg [ω 3,.bool false,.str [2],.str [1],.str []])):=cK (.c k23 .nil)
theorem k25:CO 21 [.sl zcc4_5 3 true,.agg [.nilS,.nilS]] (.ret (.agg [.bool false,.str [],.str [],ω 13])):=aG.args (.cons (aQ.refl _) (.cons (aQ.agg (.cons (aQ.nilS false rfl) (.cons (aQ.nilS false rfl) .nil))) .nil)) (lu (q:=CO 21 [.sl zcc4_5 3 true,.agg [.sl [] 0 false,.sl [] 0 false]] (.ret (.agg [.bool false,.str [],.str [],ω 13]))) (iI BH false false true (e:= [⟨4,false,[1],[1],[]⟩,⟨3,false,[2],[1],[]⟩,⟨18,false,[],[],[]⟩]) jS (lh (by kernel_rfl))) (by kernel_rfl))
theorem k26:CO 39 [.agg [.nilS,.nilS],.agg [.bool false,.str [],.str [],ω 13],.sl zcc4_5 3 true] (.ret (.bool true)):=cK (.c k25 .nil)
theorem k27:CO 21 [.sl zcc4_2 5 true,.agg [.nilS,.nilS]] (.ret (.agg [.bool false,.str [],.str [],ω 16])):=aG.args (.cons (aQ.refl _) (.cons (aQ.agg (.cons (aQ.nilS false rfl) (.cons (aQ.nilS false rfl) .nil))) .nil)) (lu (q:=CO 21 [.sl zcc4_2 5 true,.agg [.sl [] 0 false,.sl [] 0 false]] (.ret (.agg [.bool false,.str [],.str [],ω 16]))) (iI BH false false true (e:= [⟨3,false,[2],[1],[]⟩,⟨3,false,[1],[1],[]⟩,⟨3,false,[],[1],[]⟩,⟨12,false,[],[],[]⟩,⟨19,false,[],[],[]⟩]) jS (lh (by kernel_rfl))) (by kernel_rfl))
theorem k28:CO 39 [.agg [.nilS,.nilS],.agg [.bool false,.str [],.str [],ω 16],.sl zcc4_2 5 true] (.ret (.bool true)):=cK (.c k27 .nil)
theorem k29:CO 27 [ω 5,ω 1] (.ret (Ω false [5] [1])):=lu (um 5 1 (by decide) (by decide) (by decide) (by decide)) (by kernel_rfl)
theorem k30:CO 29 [Ω false [5] [1]] (.ret (.agg [.bool false,.str [5],.str [1],ω 0])):=cK (.nil)
theorem k31:CO 26 [ω 17] (.ret (.agg [.bool false,.str [],.str [],ω 17])):=cK (.nil)
theorem k32:CO 26 [ω 12] (.ret (.agg [.bool false,.str [],.str [],ω 12])):=cK (.nil)
theorem k33:CO 21 [.sl zcc4_13 1 true,.agg [.nilS,.nilS]] (.ret (.agg [.bool false,.str [],.str [],ω 12])):=aG.args (.cons (aQ.refl _) (.cons (aQ.agg (.cons (aQ.nilS false rfl) (.cons (aQ.nilS false rfl) .nil))) .nil)) (lu (q:=CO 21 [.sl zcc4_13 1 true,.agg [.sl [] 0 false,.sl [] 0 false]] (.ret (.agg [.bool false,.str [],.str [],ω 12]))) (iI BH false false true (e:= [⟨6,false,[],[],[120]⟩]) jS (lh (by kernel_rfl))) (by kernel_rfl))
theorem k34:CO 39 [.agg [.nilS,.nilS],.agg [.bool false,.str [],.str [],ω 12],.sl zcc4_13 1 true] (.ret (.bool true)):=cK (.c k33 .nil)
theorem k35:CO 21 [.sl zcc4_13 1 true,.agg [.sl zcc4_11 1 true,.nilS]] (.ret (.agg [.bool false,.str [5],.str [1],ω 0])):=aG.args (.cons (aQ.refl _) (.cons (aQ.agg (.cons (aQ.refl _) (.cons (aQ.nilS false rfl) .nil))) .nil)) (lu (q:=CO 21 [.sl zcc4_13 1 true,.agg [.sl zcc4_11 1 true,.sl [] 0 false]] (.ret (.agg [.bool false,.str [5],.str [1],ω 0]))) (iI amd true false true (e:= [⟨6,false,[],[],[120]⟩]) ac2 (lh (by kernel_rfl))) (by kernel_rfl))
theorem k36:CO 39 [.agg [.sl zcc4_11 1 true,.nilS],.agg [.bool false,.str [5],.str [1],ω 0],.sl zcc4_13 1 true] (.ret (.bool true)):=cK (.c k35 .nil)
theorem k37:CO 21 [.sl zcc4_3 5 true,.agg [.sl zcc4_12 1 true,.nilS]] (.ret (.agg [.bool false,.str [],.str [],ω 17])):=aG.args (.cons (aQ.refl _) (.cons (aQ.agg (.cons (aQ.refl _) (.cons (aQ.nilS false rfl) .nil))) .nil)) (lu (q:=CO 21 [.sl zcc4_3 5 true,.agg [.sl zcc4_12 1 true,.sl [] 0 false]] (.ret (.agg [.bool false,.str [],.str [],ω 17]))) (iI ame true false true (e:= [⟨6,false,[],[],[120]⟩,⟨3,false,[1],[1],[]⟩,⟨3,false,[],[1],[]⟩,⟨12,false,[],[],[]⟩,⟨9,false,[],[],[]⟩]) ac3 (lh (by kernel_rfl))) (by kernel_rfl))
theorem k38:CO 39 [.agg [.sl zcc4_12 1 true,.nilS],.agg [.bool false,.str [],.str [],ω 17],.sl zcc4_3 5 true] (.ret (.bool true)):=cK (.c k37 .nil)
theorem k39:CO 27 [ω 3,ω 2] (.ret (Ω false [3] [2])):=lu (um 3 2 (by decide) (by decide) (by decide) (by decide)) (by kernel_rfl)
theorem k40:CO 29 [Ω false [3] [2]] (.ret (.agg [.bool false,.str [3],.str [2],ω 0])):=cK (.nil)
theorem k41:CO 27 [ω 5,ω 4] (.ret (Ω false [5] [4])):=lu (um 5 4 (by decide) (by decide) (by decide) (by decide)) (by kernel_rfl)
theorem k42:CO 37 [ω 5,ω 4] (.ret (.agg [ω 3,.bool false,.str [5],.str [4],.str []])):=cK (.c k41 .nil)
theorem k43:CO 21 [.sl zcc4_9 2 true,.agg [.nilS,.nilS]] (.ret (.agg [.bool false,.str [3],.str [2],ω 0])):=aG.args (.cons (aQ.refl _) (.cons (aQ.agg (.cons (aQ.nilS false rfl) (.cons (aQ.nilS false rfl) .nil))) .nil)) (lu (q:=CO 21 [.sl zcc4_9 2 true,.agg [.sl [] 0 false,.sl [] 0 false]] (.ret (.agg [.bool false,.str [3],.str [2],ω 0]))) (iI BH false false true (e:= [⟨3,false,[5],[4],[]⟩,⟨23,false,[1],[2],[]⟩]) jS (lh (by kernel_rfl))) (by kernel_rfl))
theorem k44:CO 39 [.agg [.nilS,.nilS],.agg [.bool false,.str [3],.str [2],ω 0],.sl zcc4_9 2 true] (.ret (.bool true)):=cK (.c k43 .nil)
theorem k45:CO 27 [ω (-1),ω 2] (.ret (Ω true [1] [2])):=lu (um (-1) 2 (by decide) (by decide) (by decide) (by decide)) (by kernel_rfl)
theorem k46:CO 29 [Ω true [1] [2]] (.ret (.agg [.bool true,.str [1],.str [2],ω 0])):=cK (.nil)
theorem k47:CO 27 [ω (-1),ω 4] (.ret (Ω true [1] [4])):=lu (um (-1) 4 (by decide) (by decide) (by decide) (by decide)) (by kernel_rfl)
theorem k48:CO 37 [ω (-1),ω 4] (.ret (.agg [ω 3,.bool true,.str [1],.str [4],.str []])):=cK (.c k47 .nil)
theorem k49:CO 21 [.sl zcc4_10 2 true,.agg [.nilS,.nilS]] (.ret (.agg [.bool true,.str [1],.str [2],ω 0])):=aG.args (.cons (aQ.refl _) (.cons (aQ.agg (.cons (aQ.nilS false rfl) (.cons (aQ.nilS false rfl) .nil))) .nil)) (lu (q:=CO 21 [.sl zcc4_10 2 true,.agg [.sl [] 0 false,.sl [] 0 false]] (.ret (.agg [.bool true,.str [1],.str [2],ω 0]))) (iI BH false false true (e:= [⟨3,true,[1],[4],[]⟩,⟨21,false,[1],[2],[]⟩]) jS (lh (by kernel_rfl))) (by kernel_rfl))
theorem k50:CO 39 [.agg [.nilS,.nilS],.agg [.bool true,.str [1],.str [2],ω 0],.sl zcc4_10 2 true] (.ret (.bool true)):=cK (.c k49 .nil)
theorem k51:CO 27 [ω 100,ω 1] (.ret (Ω false [100] [1])):=lu (um 100 1 (by decide) (by decide) (by decide) (by decide)) (by kernel_rfl)
theorem k52:CO 27 [ω 1,ω 10] (.ret (Ω false [1] [10])):=lu (um 1 10 (by decide) (by decide) (by decide) (by decide)) (by kernel_rfl)
theorem k53:CO 27 [ω 300,ω 1] (.ret (Ω false [1,44] [1])):=lu (um 300 1 (by decide) (by decide) (by decide) (by decide)) (by kernel_rfl)
theorem k54:CO 27 [ω 1,ω 4] (.ret (Ω false [1] [4])):=lu (um 1 4 (by decide) (by decide) (by decide) (by decide)) (by kernel_rfl)
theorem k55:CO 27 [ω 200,ω 1] (.ret (Ω false [200] [1])):=lu (um 200 1 (by decide) (by decide) (by decide) (by decide)) (by kernel_rfl)
theorem k56:CO 40 [ω 200,ω 1] (.ret (.agg [ω 1,.bool false,.str [200],.str [1],.str []])):=cK (.c k55 .nil)
theorem k57:CO 27 [ω 10,ω 1] (.ret (Ω false [10] [1])):=lu (um 10 1 (by decide) (by decide) (by decide) (by decide)) (by kernel_rfl)
theorem k58:CO 29 [Ω false [10] [1]] (.ret (.agg [.bool false,.str [10],.str [1],ω 0])):=cK (.nil)
theorem k59:CO 21 [.sl zcc4_8 2 true,.agg [.nilS,.sl [.str [115],ω 0,ω 0,.sl zcc4_4 3 true] 1 true]] (.ret (.agg [.bool false,.str [10],.str [1],ω 0])):=aG.args (.cons (aQ.refl _) (.cons (aQ.agg (.cons (aQ.nilS false rfl) (.cons (aQ.slP (.same (.same (.same (.sl .nil))))) .nil))) .nil)) (lu (q:=CO 21 [.sl zcc4_8 2 true,.agg [.sl [] 0 false,.sl [.str [115],ω 0,ω 0,.sl zcc4_4 3 false] 1 true]] (.ret (.agg [.bool false,.str [10],.str [1],ω 0]))) (iI amf false true true (e:= [⟨1,false,[200],[1],[]⟩,⟨24,false,[],[],[115]⟩]) ac4 (lh (by kernel_rfl))) (by kernel_rfl))
theorem k60:CO 39 [.agg [.nilS,.sl [.str [115],ω 0,ω 0,.sl zcc4_4 3 true] 1 true],.agg [.bool false,.str [10],.str [1],ω 0],.sl zcc4_8 2 true] (.ret (.bool true)):=cK (.c k59 .nil)
theorem k61:CO 21 [.sl zcc4_8 2 true,.agg [.nilS,.nilS]] (.ret (.agg [.bool false,.str [],.str [],ω 12])):=aG.args (.cons (aQ.refl _) (.cons (aQ.agg (.cons (aQ.nilS false rfl) (.cons (aQ.nilS false rfl) .nil))) .nil)) (lu (q:=CO 21 [.sl zcc4_8 2 true,.agg [.sl [] 0 false,.sl [] 0 false]] (.ret (.agg [.bool false,.str [],.str [],ω 12]))) (iI BH false false true (e:= [⟨1,false,[200],[1],[]⟩,⟨24,false,[],[],[115]⟩]) jS (lh (by kernel_rfl))) (by kernel_rfl))
theorem k62:CO 39 [.agg [.nilS,.nilS],.agg [.bool false,.str [],.str [],ω 12],.sl zcc4_8 2 true] (.ret (.bool true)):=cK (.c k61 .nil)
theorem k63:CO 27 [ω 3,ω 1] (.ret (Ω false [3] [1])):=lu (um 3 1 (by decide) (by decide) (by decide) (by decide)) (by kernel_rfl)
theorem k64:CO 37 [ω 3,ω 1] (.ret (.agg [ω 3,.bool false,.str [3],.str [1],.str []])):=cK (.c k63 .nil)
theorem k65:CO 19 [.sl [ω 3,.bool false,.str [1],.str [1],.str [],ω 3,.bool false,.str [3],.str [1],.str [],ω 10,.bool false,.str [],.str [],.str []] 3 true,.agg [.nilS,.nilS]] (.ret (.own zcc4_7 3 4)):=aG.args (.cons (aQ.refl _) (.cons (aQ.agg (.cons (aQ.nilS false rfl) (.cons (aQ.nilS false rfl) .nil))) .nil)) (lu (q:=CO 19 [.sl [ω 3,.bool false,.str [1],.str [1],.str [],ω 3,.bool false,.str [3],.str [1],.str [],ω 10,.bool false,.str [],.str [],.str []] 3 true,.agg [.sl [] 0 false,.sl [] 0 false]] (.ret (.own zcc4_7 3 4))) (AU BH false false true (e:= [⟨3,false,[1],[1],[]⟩,⟨3,false,[3],[1],[]⟩,⟨10,false,[],[],[]⟩]) jS (by kernel_rfl) (lh (by kernel_rfl))) (by kernel_rfl))
theorem k66:CO 29 [Ω false [3] [1]] (.ret (.agg [.bool false,.str [3],.str [1],ω 0])):=cK (.nil)
theorem k67:CO 27 [ω (-2),ω 1] (.ret (Ω true [2] [1])):=lu (um (-2) 1 (by decide) (by decide) (by decide) (by decide)) (by kernel_rfl)
theorem k68:CO 29 [Ω true [2] [1]] (.ret (.agg [.bool true,.str [2],.str [1],ω 0])):=cK (.nil)
theorem k69:CO 18 [.sl zcc4_7 3 true,.sl zcc4_7 3 true] (.ret (.bool true)):=lu (Vo [.val ⟨false,1,1⟩,.val ⟨false,3,1⟩,.val ⟨true,2,1⟩] [.val ⟨false,1,1⟩,.val ⟨false,3,1⟩,.val ⟨true,2,1⟩] true true (by decide)) (by kernel_rfl)
theorem k70:CO 15 [.agg [ω 20,.bool false,.str [],.str [],.str []],.nilS,.agg [.nilS,.nilS]] (.ret (.agg [.bool false,.str [],.str [],ω 11])):=aG.args (.cons (aQ.refl _) (.cons (aQ.nilS false rfl) (.cons (aQ.agg (.cons (aQ.nilS false rfl) (.cons (aQ.nilS false rfl) .nil))) .nil))) (lu (q:=CO 15 [.agg [ω 20,.bool false,.str [],.str [],.str []],.sl [] 0 false,.agg [.sl [] 0 false,.sl [] 0 false]] (.ret (.agg [.bool false,.str [],.str [],ω 11]))) (abg BH false false false jS ⟨20,false,[],[],[]⟩ ⟨by decide,by decide⟩ (ar:= []) (by decide) (by simp)) (by kernel_rfl))
theorem k71:CO 26 [ω 11] (.ret (.agg [.bool false,.str [],.str [],ω 11])):=cK (.nil)
theorem k72:CO 21 [.nilS,.agg [.nilS,.nilS]] (.ret (.agg [.bool false,.str [],.str [],ω 11])):=aG.args (.cons (aQ.nilS false rfl) (.cons (aQ.agg (.cons (aQ.nilS false rfl) (.cons (aQ.nilS false rfl) .nil))) .nil)) (lu (q:=CO 21 [.sl [] 0 false,.agg [.sl [] 0 false,.sl [] 0 false]] (.ret (.agg [.bool false,.str [],.str [],ω 11]))) (iI BH false false false (e:= []) jS (lh (by kernel_rfl))) (by kernel_rfl))
theorem k73:CO 29 [Ω false [1] [2]] (.ret (.agg [.bool false,.str [1],.str [2],ω 0])):=cK (.nil)
theorem k74:CO 17 [.agg [.bool false,.str [1],.str [2],ω 0],.agg [.bool false,.str [1],.str [2],ω 0]] (.ret (.bool true)):=lu (QZ (.val ⟨false,1,2⟩) (.val ⟨false,1,2⟩)) (by kernel_rfl)
theorem k75:CO 17 [.agg [.bool false,.str [1],.str [2],ω 0],.agg [.bool false,.str [],.str [],ω 16]] (.ret (.bool false)):=lu (QZ (.val ⟨false,1,2⟩) (.err 16)) (by kernel_rfl)
theorem k76:CO 13 [] (.ret (.bool true)):=cK (.c k75 (.c k17 (.c k73 (.c k74 (.c k73 (.c k73 (.c k71 (.c k72 (.c k71 (.c k70 (.c k69 (.c k68 (.c k67 (.c k66 (.c k63 (.c k12 (.c k0 (.c k65 (.c k64 (.c k62 (.c k32 (.c k60 (.c k58 (.c k57 (.c k56 (.c k54 (.c k53 (.c k52 (.c k51 (.c k2 (.c k2 (.c k50 (.c k48 (.c k46 (.c k45 (.c k44 (.c k42 (.c k40 (.c k39 (.c k6 (.c k38 (.c k31 (.c k36 (.c k30 (.c k29 (.c k34 (.c k32 (.c k31 (.c k30 (.c k29 (.c k28 (.c k24 (.c k17 (.c k26 (.c k24 (.c k13 (.c k22 (.c k21 (.c k19 (.c k17 (.c k16 (.c k14 (.c k12 (.c k0 (.c k11 (.c k9 (.c k7 (.c k5 (.c k4 (.c k3 (.c k1 (.c k1 .nil))))))))))))))))))))))))))))))))))))))))))))))))))))))))))))))))))))))))
theorem Vs:CO 13 [] (.ret (.bool true)):=k76
theorem aoY:CO 63 [ω 1,ω 0] (.ret (.agg [.bool false,ω 1,ω 0])):=cK (.nil)
theorem aoZ:CO 63 [ω 0,ω 0] (.ret (.agg [.bool false,ω 0,ω 0])):=cK (.nil)
theorem ac8:CO 64 [] (.ret (.agg [.bool true,ω 0,ω 0])):=cK (.nil)
theorem amh:CO 63 [ω 0,ω 1] (.ret (.agg [.bool false,ω 0,ω 1])):=cK (.nil)
theorem ao0:CO 35 [] (.ret (.own [ω 5,.str [105,110,99,111,109,101],.bool false,ω 1,ω 0,ω 5,.str [107,105,100,115],.bool false,ω 0,ω 0,ω 5,.str [115,105,110,103,108,101],.bool true,ω 0,ω 0,ω 5,.str [115,116,97,121],.bool false,ω 0,ω 1,ω 6,.str [112,111,111,114],.bool true,ω 0,ω 0,ω 6,.str [116,97,120],.bool false,ω 1,ω 0,ω 7,.str [112,111,111,114],.bool true,ω 0,ω 0,ω 7,.str [116,97,120],.bool false,ω 1,ω 0,ω 8,.str [112,111,111,114],.bool true,ω 0,ω 0,ω 8,.str [116,97,120],.bool false,ω 1,ω 0,ω 24,.str [115,99,97,108,101],.bool false,ω 1,ω 0,ω 24,.str [116,101,114,109],.bool false,ω 0,ω 1] 12 5)):=cK (.c amh (.c ac8 (.c ac8 (.c ac8 (.c amh (.c ac8 (.c aoZ (.c aoY .nil))))))))
theorem aje (b a:List Int) (d c f:Bool) (q:Int) (t:Ty) (e:List Nd) (E:fE) (h:CO 35 [] (.ret (.own (dU aT) 12 5))) (i:CO 32 [ω (γ .i64 q)] (.ret (.agg [.bool t.tr,ω t.m,ω t.d]))) (j:CO 57 [.sl (ν 60 (dU aT)) 12 true,.agg [.bool t.tr,ω t.m,ω t.d],.sl (iL b) b.length d] (.ret (.own (a_ e) e.length 5))) (g:CO 58 [.sl (ν 60 (dU aT)) 12 true,.sl (iL a) a.length c,.bool f] (.ret (.agg [.sl (jX E.ls) E.ls.length true,.sl (kL (E.qs.map Sq.c)) (E.qs.map Sq.c).length true]))):CO 23 [.agg [.sl (iL b) b.length d,.sl (iL a) a.length c],.int .u8 q,.bool f] (.ret (.tup [.own (ν (e.length*5) (a_ e)) e.length 5,.agg [.sl (jX E.ls) E.ls.length true,.sl (kL (E.qs.map Sq.c)) (E.qs.map Sq.c).length true]])):=pK [] 0 0 (.n 9 .nil) (.c g (.c j (.c i (.c h .nil))))
theorem af5 (q:Int):∃ t,X0 t∧CO 32 [ω q] (.ret (.agg (fH t))):=by
 obtain ⟨k,a,h⟩:=abB q;rcases (show k=0∨k=1∨k=2∨k=3∨k=4 by omega) with rfl|rfl|rfl|rfl|rfl
 ·exact ⟨tM,.inl (by simp [dw]),h⟩
 ·exact ⟨tD,.inl (by simp [dw]),h⟩
 ·exact ⟨tP,.inl (by simp [dw]),h⟩
 ·exact ⟨tT,.inl (by simp [dw]),h⟩
 ·exact ⟨⟨false,1, -1⟩,.inr rfl,h⟩
theorem NG:CO 35 [] (.ret (.own (dU aT) 12 5)):=lu ao0 (by kernel_rfl)
structure Ar (t:Ty) (e:List Nd):Prop where
 tm:Tm aT e t
 sm:∀ x ∈ e,x.sm
 ln:e.length≤13
theorem Ar.ck {t:Ty} {e:List Nd} (h:Ar t e):cO e=0:=h.tm.check (by have:=h.ln;omega)
theorem Ar.pos {t:Ty} {e:List Nd} (h:Ar t e):0<e.length:=(kz h.ck).2.2
theorem WW (q:Int) (t:Ty) (h:X0 t) (a:List Int) (d:a.length<2^63):∃ e,Ar t e∧CO 57 [.sl (dU aT) 12 true,.agg (fH t),.sl (iL a) a.length false] (.ret (.own (a_ e) e.length 5)):=by
 obtain ⟨e,g,c,b,f⟩:=ZY h a false d;exact ⟨e,⟨g,c,b⟩,f⟩
theorem WZ {b a:List Int} {c:Bool} {q:Int} {t:Ty} {e:List Nd} {E:fE} (ck:CO 32 [ω (γ .i64 q)] (.ret (.agg (fH t)))) (f:CO 57 [.sl (dU aT) 12 true,.agg (fH t),.sl (iL b) b.length false] (.ret (.own (a_ e) e.length 5))) (d:CO 58 [.sl (dU aT) 12 true,.sl (iL a) a.length false,.bool c] (.ret (afn E true true))):
  CO 23 [.agg [.sl (iL b) b.length false,.sl (iL a) a.length false],.int .u8 q,.bool c] (.ret (.tup [.own (a_ e) e.length 5,afn E true true])):=by
 have h:=aje b a false false c q t e E NG ck f d;rw [Hu] at h;exact h
def XX (op:Int) (nm:List UInt8) (y:Lk):Bool:=(op==y.op) && (nm==y.nm)
theorem agb {E:fE} {g:Bool} (h:Og g E) {op:Int} {b:List UInt8} {t:Ty} (v:5≤op) (w:op≤8) (m:fC aT op b=some t):∃ x s,E.ls.find? (XX op b)=some x∧s ∈ Vu∧x.op=s.op∧x.nm=s.name∧op=s.op∧b=s.name∧yG g s.ty x:=by
 obtain ⟨s,hs,f,rfl⟩:=zo m;simp only [jL,ο,beq_iff_eq] at f;obtain ⟨k,q,_⟩:=f;have d:s ∈ Vu:=by
  rcases List.mem_append.1 (show s ∈ Vu++sgR from hs) with h|h
  ·exact h
  ·exfalso;have:∀ s ∈ sgR,s.op=24:=by decide
   have:=this s h;omega
 obtain ⟨x,n,p,o,_⟩:=h.lk.has s d;have hsome:(E.ls.find? (XX op b)).isSome:=by
  rw [Xk6];exact ⟨x,n,by unfold XX;rw [p,o,k,q];simp⟩
 obtain ⟨y,c⟩:=Option.isSome_iff_exists.1 hsome;have a:=Xvd c;simp only [XX,ο,beq_iff_eq] at a;obtain ⟨u,r,j,e,i⟩:=h.lk.get y (Xzo c);exact ⟨y,u,c,r,j,e,by omega,by rw [a.2,e],i⟩
theorem akl (ls:List Lk) (op:Int) (a:List UInt8):Po ls op a=(ls.find? (XX op a)).map VZ:=rfl
theorem ahc {E:fE} {k:Bool} (h:Og k E) {b:List UInt8} {t:Ty} (i:fC aT 24 b=some t):∃ q ∈ E.qs,sqO E.qs b=some q∧q.nm=b∧KF nT q.l=0:=by
 obtain ⟨s,hs,e,rfl⟩:=zo i;simp only [jL,ο,beq_iff_eq] at e;obtain ⟨g,n,_⟩:=e;have c:s ∈ sgR:=by
  rcases List.mem_append.1 (show s ∈ Vu++sgR from hs) with h|h
  ·exfalso;have:∀ s ∈ Vu,s.op ≠ 24:=by decide
   exact this s h g
  ·exact h
 obtain ⟨x,j,m⟩:=h.sc.has s c;have hsome:(E.qs.find? fun q=>b==q.nm).isSome:=by
  rw [Xk6];exact ⟨x,j,by rw [m,n];simp⟩
 obtain ⟨y,d⟩:=Option.isSome_iff_exists.1 hsome;have a:=Xvd d;simp only [beq_iff_eq] at a;have f:=Xzo d;exact ⟨y,f,d,a.symm,(h.sc.get y f).2.2.2⟩
theorem ZJ {s u:Sg} (hs:s ∈ Vu) (h:u ∈ Vu) (g:s.op=u.op) (f:s.name=u.name):s=u:=by
 have:∀ s ∈ Vu,∀ u ∈ Vu,s.op=u.op→s.name=u.name→s.op=u.op∧s.name=u.name∧s.ty.tr=u.ty.tr∧s.ty.m=u.ty.m∧s.ty.d=u.ty.d:=by decide
 obtain ⟨a,b,c,d,e⟩:=this s hs u h g f;obtain ⟨p,n,⟨m,i,k⟩⟩:=s;obtain ⟨u1,u2,⟨q,j,o⟩⟩:=u;simp only at a b c d e;subst a b c d e;rfl
theorem Og.typed {E:fE} {j:Bool} (h:Og j E):KL (j=false) aT E where
 ln op nm t h5 h8 hf:=by
  obtain ⟨x,s,r,hs,D,B,A,v,e⟩:=agb h h5 h8 hf;obtain ⟨s',f,i,rfl⟩:=zo hf;simp only [jL,ο,beq_iff_eq] at i;obtain ⟨C,z,_⟩:=i;have c:s' ∈ Vu:=by
   rcases List.mem_append.1 (show s' ∈ Vu++sgR from f) with h|h
   ·exact h
   ·exfalso;have:∀ s ∈ sgR,s.op=24:=by decide
    have:=this s' h;omega
  have n:s'=s:=ZJ c hs (by omega) (by rw [z,v]);subst n;rw [akl,r];show ((VZ x).e=0→_→(VZ x).bit=true)∧(_→okE (VZ x).e)
  have o:x.e ≠ 0→(VZ x).e ≠ 0:=fun d=>by unfold VZ vZ;rw [if_neg d];exact d
  refine ⟨fun m p=> ?_,fun k=> ?_⟩
  ·by_cases a:x.e=0
   ·obtain ⟨q,_,_,g,w⟩:=e.vl a;obtain ⟨b,rfl⟩:=w p;rw [g];exact sQ b
   ·exact absurd m (o a)
  ·have a:=e.er k;obtain ⟨q,_,_,g,_⟩:=e.vl a;rw [g];exact .inl rfl
 sc _ nm t hf:=by
  obtain ⟨q,_,y,_,u⟩:=ahc h hf;exact ⟨q,y,u⟩
theorem N8 (t:Ty) (r:List Ty):iZ (t::r)=fH t++iZ r:=rfl
theorem TM (a b:List Ty):iZ (a++b)=iZ a++iZ b:=by unfold iZ;rw [Xxi]
theorem wW (l:List Ty):(iZ l).length=l.length*3:=by
 induction l with
 |nil=>rfl
 |cons x r ih=>rw [N8,η,ih,List.length_cons];simp [fH];omega
theorem Gz {ts:List Ty} {j:Nat} (h:j<ts.length):ε ((0+δ (j:Int))*3) (iZ ts)=fH (ts.getD j zT)++iZ (ts.drop (j+1)):=by
 have e:ts=ts.take j++(ts.getD j zT::ts.drop (j+1)):=by
  have:=Xxf h;rw [κ,π h,Option.getD_some,← this,List.take_append_drop]
 have a:(iZ (ts.take j)).length=j*3:=by rw [wW,Xxa,Xjd (by omega)]
 rw [aK,Xqd]
 conv=>lhs;rw [e]
 rw [TM,← a,Xj2,N8]
def ahz:List Ty ⊕ Int→AV
 | .inl ts=> .tup [.sl (iZ ts) ts.length true,.int .i64 0]
 | .inr e=> .tup [.nilS,.int .i64 e]
theorem ru0:CO 103 [.agg [.bool false,ω 1,ω 0]] (.ret (.agg [.bool false,.fn 152 [] [.pp [.bool false,ω 1,ω 0] 0]])):=cK (.nil)
theorem ru1:CO 103 [.agg [.bool false,ω 0,ω 1]] (.ret (.agg [.bool false,.fn 152 [] [.pp [.bool false,ω 0,ω 1] 0]])):=cK (.nil)
theorem ru2:CO 103 [.agg [.bool false,ω 0,ω 0]] (.ret (.agg [.bool false,.fn 152 [] [.pp [.bool false,ω 0,ω 0] 0]])):=cK (.nil)
theorem ru3:CO 103 [.agg [.bool true,ω 0,ω 0]] (.ret (.agg [.bool false,.fn 152 [] [.pp [.bool true,ω 0,ω 0] 0]])):=cK (.nil)
theorem ru4:CO 104 [] (.ret (.agg [.bool true,.fn 153 [] []])):=cK (.nil)
theorem ru5:CO 105 [.fn 106 [] []] (.ret (.agg [.bool false,.fn 154 [] [.pp [.fn 106 [] []] 0]])):=cK (.nil)
theorem ru6:CO 107 [ω 1] (.ret (.agg [.bool false,.fn 155 [] [.pp [ω 1] 0]])):=cK (.nil)
theorem ru7:CO 107 [ω (-1)] (.ret (.agg [.bool false,.fn 155 [] [.pp [ω (-1)] 0]])):=cK (.nil)
theorem ru8:CO 105 [.fn 109 [] []] (.ret (.agg [.bool false,.fn 154 [] [.pp [.fn 109 [] []] 0]])):=cK (.nil)
theorem ru9:CO 111 [] (.ret (.agg [.bool false,.fn 156 [] []])):=cK (.nil)
theorem ag7:CO 112 [] (.ret (.agg [.bool false,.fn 157 [] []])):=cK (.nil)
theorem aoD:CO 67 [] (.ret (.own [.bool false,.nilF,.bool false,.fn 152 [] [.pp [.bool false,ω 1,ω 0] 0],.bool false,.fn 152 [] [.pp [.bool false,ω 0,ω 1] 0],.bool false,.fn 152 [] [.pp [.bool false,ω 0,ω 0] 0],.bool false,.fn 152 [] [.pp [.bool true,ω 0,ω 0] 0],.bool true,.fn 153 [] [],.bool true,.fn 153 [] [],.bool true,.fn 153 [] [],.bool true,.fn 153 [] [],.bool false,.fn 154 [] [.pp [.fn 106 [] []] 0],.bool false,.fn 154 [] [.pp [.fn 106 [] []] 0],.bool false,.fn 155 [] [.pp [ω 1] 0],.bool false,.fn 155 [] [.pp [ω (-1)] 0],.bool false,.fn 154 [] [.pp [.fn 106 [] []] 0],.bool false,.fn 154 [] [.pp [.fn 106 [] []] 0],.bool false,.fn 108 [] [],.bool false,.fn 154 [] [.pp [.fn 109 [] []] 0],.bool false,.fn 110 [] [],.bool false,.fn 156 [] [],.bool false,.fn 156 [] [],.bool false,.fn 156 [] [],.bool false,.fn 157 [] [],.bool false,.fn 157 [] [],.bool false,.fn 157 [] [],.bool true,.fn 113 [] []] 25 2)):=cK (.c ag7 (.c ag7 (.c ag7 (.c ru9 (.c ru9 (.c ru9 (.c ru8 (.c ru7 (.c ru6 (.c ru5 (.c ru5 (.c ru5 (.c ru5 (.c ru4 (.c ru4 (.c ru4 (.c ru4 (.c ru3 (.c ru2 (.c ru1 (.c ru0 .nil)))))))))))))))))))))
theorem Y3:CO 67 [] (.ret (.own [.bool false,.nilF,.bool false,.fn 152 [] [.pp [.bool false,ω 1,ω 0] 0],.bool false,.fn 152 [] [.pp [.bool false,ω 0,ω 1] 0],.bool false,.fn 152 [] [.pp [.bool false,ω 0,ω 0] 0],.bool false,.fn 152 [] [.pp [.bool true,ω 0,ω 0] 0],.bool true,.fn 153 [] [],.bool true,.fn 153 [] [],.bool true,.fn 153 [] [],.bool true,.fn 153 [] [],.bool false,.fn 154 [] [.pp [.fn 106 [] []] 0],.bool false,.fn 154 [] [.pp [.fn 106 [] []] 0],.bool false,.fn 155 [] [.pp [ω 1] 0],.bool false,.fn 155 [] [.pp [ω (-1)] 0],.bool false,.fn 154 [] [.pp [.fn 106 [] []] 0],.bool false,.fn 154 [] [.pp [.fn 106 [] []] 0],.bool false,.fn 108 [] [],.bool false,.fn 154 [] [.pp [.fn 109 [] []] 0],.bool false,.fn 110 [] [],.bool false,.fn 156 [] [],.bool false,.fn 156 [] [],.bool false,.fn 156 [] [],.bool false,.fn 157 [] [],.bool false,.fn 157 [] [],.bool false,.fn 157 [] [],.bool true,.fn 113 [] []] 25 2)):=aoD
theorem vK (a:Ty):CO 106 [.agg [.bool a.tr,ω a.m,ω a.d]] (.ret (.agg [.bool a.tr,ω a.m,ω a.d])):=pK [] 0 0 (.n 7 .nil) (.nil)
theorem aek (a:Ty):CO 109 [.agg [.bool a.tr,ω a.m,ω a.d]] (.ret (.agg [.bool true,ω 0,ω 0])):=pK [] 0 0 (.n 7 .nil) (.nil)
def Dj (a b:Ty) (k:Int):Ty:=⟨false,γ .i64 (a.m+γ .i64 (k*b.m)),γ .i64 (a.d+γ .i64 (k*b.d))⟩
def aJ:Nat→Ty→List Ty→Bool × Ty
 |1,_,[]=>(true,⟨false,1,0⟩)
 |2,_,[]=>(true,⟨false,0,1⟩)
 |3,_,[]=>(true,⟨false,0,0⟩)
 |4,_,[]=>(true,⟨true,0,0⟩)
 |5,sg,[]=>(true,sg)
 |6,sg,[]=>(true,sg)
 |7,sg,[]=>(true,sg)
 |8,sg,[]=>(true,sg)
 |9,_,[a,b]=>(kH a b && !a.tr,a)
 |10,_,[a,b]=>(kH a b && !a.tr,a)
 |11,_,[a,b]=>(!a.tr && (!b.tr && jv (Dj a b 1).m (Dj a b 1).d),Dj a b 1)
 |12,_,[a,b]=>(!a.tr && (!b.tr && jv (Dj a b (-1)).m (Dj a b (-1)).d),Dj a b (-1))
 |13,_,[a,b]=>(kH a b && !a.tr,a)
 |14,_,[a,b]=>(kH a b && !a.tr,a)
 |15,_,[a,b,c]=>(kH a tT && kH b c,b)
 |16,_,[a,b]=>(kH a b && !a.tr,tT)
 |17,_,[a,b]=>(kH a b,tT)
 |18,_,[a,b]=>(kH a tT && kH b tT,tT)
 |19,_,[a,b]=>(kH a tT && kH b tT,tT)
 |20,_,[a]=>(kH a tT,tT)
 |21,_,[a]=>(!a.tr,a)
 |22,_,[a]=>(!a.tr,a)
 |23,_,[a]=>(!a.tr,a)
 |24,sg,[a]=>(kH a sg,sg)
 |_,_,_=>(false,⟨false,0,0⟩)
theorem ais (nn:Bool) (a:Ty):CO 152 [.agg (fH a),.sl (iZ []) 0 nn,.pp [.bool false,ω 1,ω 0] 0] (.ret (.tup [.agg (fH (aJ 1 a []).2),.bool (aJ 1 a []).1])):=by
 rw [show aJ 1 a []=(true,⟨false,1,0⟩) by simp only [aJ,cond_true,Xqp,Xqm,Xqq,Xqf]<;>rfl];exact pK [] 0 0 (.n 7 .nil) (.nil)
theorem aiD (nn:Bool) (a:Ty):CO 152 [.agg (fH a),.sl (iZ []) 0 nn,.pp [.bool false,ω 0,ω 1] 0] (.ret (.tup [.agg (fH (aJ 2 a []).2),.bool (aJ 2 a []).1])):=by
 rw [show aJ 2 a []=(true,⟨false,0,1⟩) by simp only [aJ,cond_true,Xqp,Xqm,Xqq,Xqf]<;>rfl];exact pK [] 0 0 (.n 7 .nil) (.nil)
theorem aiJ (nn:Bool) (a:Ty):CO 152 [.agg (fH a),.sl (iZ []) 0 nn,.pp [.bool false,ω 0,ω 0] 0] (.ret (.tup [.agg (fH (aJ 3 a []).2),.bool (aJ 3 a []).1])):=by
 rw [show aJ 3 a []=(true,⟨false,0,0⟩) by simp only [aJ,cond_true,Xqp,Xqm,Xqq,Xqf]<;>rfl];exact pK [] 0 0 (.n 7 .nil) (.nil)
theorem aiK (nn:Bool) (a:Ty):CO 152 [.agg (fH a),.sl (iZ []) 0 nn,.pp [.bool true,ω 0,ω 0] 0] (.ret (.tup [.agg (fH (aJ 4 a []).2),.bool (aJ 4 a []).1])):=by
 rw [show aJ 4 a []=(true,⟨true,0,0⟩) by simp only [aJ,cond_true,Xqp,Xqm,Xqq,Xqf]<;>rfl];exact pK [] 0 0 (.n 7 .nil) (.nil)
theorem aiL (nn:Bool) (a:Ty):CO 153 [.agg (fH a),.sl (iZ []) 0 nn] (.ret (.tup [.agg (fH (aJ 5 a []).2),.bool (aJ 5 a []).1])):=by
 rw [show aJ 5 a []=(true,⟨a.tr,a.m,a.d⟩) by simp only [aJ,cond_true,Xqp,Xqm,Xqq,Xqf]<;>rfl];exact pK [] 0 0 (.n 7 .nil) (.nil)
theorem aiM (nn:Bool) (a:Ty):CO 153 [.agg (fH a),.sl (iZ []) 0 nn] (.ret (.tup [.agg (fH (aJ 6 a []).2),.bool (aJ 6 a []).1])):=by
 rw [show aJ 6 a []=(true,⟨a.tr,a.m,a.d⟩) by simp only [aJ,cond_true,Xqp,Xqm,Xqq,Xqf]<;>rfl];exact pK [] 0 0 (.n 7 .nil) (.nil)
theorem aiN (nn:Bool) (a:Ty):CO 153 [.agg (fH a),.sl (iZ []) 0 nn] (.ret (.tup [.agg (fH (aJ 7 a []).2),.bool (aJ 7 a []).1])):=by
 rw [show aJ 7 a []=(true,⟨a.tr,a.m,a.d⟩) by simp only [aJ,cond_true,Xqp,Xqm,Xqq,Xqf]<;>rfl];exact pK [] 0 0 (.n 7 .nil) (.nil)
theorem aiO (nn:Bool) (a:Ty):CO 153 [.agg (fH a),.sl (iZ []) 0 nn] (.ret (.tup [.agg (fH (aJ 8 a []).2),.bool (aJ 8 a []).1])):=by
 rw [show aJ 8 a []=(true,⟨a.tr,a.m,a.d⟩) by simp only [aJ,cond_true,Xqp,Xqm,Xqq,Xqf]<;>rfl];exact pK [] 0 0 (.n 7 .nil) (.nil)
theorem anz (nn:Bool) (d a b:Ty):CO 154 [.agg (fH d),.sl (iZ [a,b]) 2 nn,.pp [.fn 106 [] []] 0] (.ret (.tup [.agg (fH (aJ 9 d [a,b]).2),.bool (aJ 9 d [a,b]).1])):=by
 rcases tf ((a.tr==b.tr) && ((a.m==b.m) && ((a.d==b.d) && true))) with b0|b0
 ·have c:kH a b=true:=b0;rw [show aJ 9 d [a,b]=((!a.tr),⟨a.tr,a.m,a.d⟩) by simp only [aJ,c,Xqp,Xqm,Xqq,Xqf]<;>rfl];exact pK [] 1 1 (.k 7 (aA b0) (.n 16 .nil)) (.c (vK a) .nil)
 ·have c:kH a b=false:=b0;rw [show aJ 9 d [a,b]=(false,⟨a.tr,a.m,a.d⟩) by simp only [aJ,c,Xqp,Xqm,Xqq,Xqf]<;>rfl];exact pK [] 1 0 (.k 4 (aF b0) (.n 16 .nil)) (.c (vK a) .nil)
theorem ait (nn:Bool) (d a b:Ty):CO 154 [.agg (fH d),.sl (iZ [a,b]) 2 nn,.pp [.fn 106 [] []] 0] (.ret (.tup [.agg (fH (aJ 10 d [a,b]).2),.bool (aJ 10 d [a,b]).1])):=by
 rcases tf ((a.tr==b.tr) && ((a.m==b.m) && ((a.d==b.d) && true))) with b0|b0
 ·have c:kH a b=true:=b0;rw [show aJ 10 d [a,b]=((!a.tr),⟨a.tr,a.m,a.d⟩) by simp only [aJ,c,Xqp,Xqm,Xqq,Xqf]<;>rfl];exact pK [] 1 1 (.k 7 (aA b0) (.n 16 .nil)) (.c (vK a) .nil)
 ·have c:kH a b=false:=b0;rw [show aJ 10 d [a,b]=(false,⟨a.tr,a.m,a.d⟩) by simp only [aJ,c,Xqp,Xqm,Xqq,Xqf]<;>rfl];exact pK [] 1 0 (.k 4 (aF b0) (.n 16 .nil)) (.c (vK a) .nil)
theorem aiu (nn:Bool) (c a b:Ty):CO 155 [.agg (fH c),.sl (iZ [a,b]) 2 nn,.pp [ω 1] 0] (.ret (.tup [.agg (fH (aJ 11 c [a,b]).2),.bool (aJ 11 c [a,b]).1])):=by
 rcases tf a.tr with b0|b0
 ·rw [show aJ 11 c [a,b]=(false,⟨false,(γ .i64 (a.m+(γ .i64 (((1:Nat):Int)*b.m)))),(γ .i64 (a.d+(γ .i64 (((1:Nat):Int)*b.d))))⟩) by simp only [aJ,b0,Xqp,Xqm,Xqq,Xqf]<;>rfl];exact pK [] 2 0 (.k 5 (aV b0) (.n 21 .nil)) (.nil)
 ·rcases tf b.tr with b1|b1
  ·rw [show aJ 11 c [a,b]=(false,⟨false,(γ .i64 (a.m+(γ .i64 (((1:Nat):Int)*b.m)))),(γ .i64 (a.d+(γ .i64 (((1:Nat):Int)*b.d))))⟩) by simp only [aJ,b0,b1,Xqp,Xqm,Xqq,Xqf]<;>rfl];exact pK [] 2 1 (.k 4 (aV b1) (.k 3 (di b0) (.n 21 .nil))) (.nil)
  ·rw [show aJ 11 c [a,b]=((jv (γ .i64 (a.m+(γ .i64 (((1:Nat):Int)*b.m)))) (γ .i64 (a.d+(γ .i64 (((1:Nat):Int)*b.d))))),⟨false,(γ .i64 (a.m+(γ .i64 (((1:Nat):Int)*b.m)))),(γ .i64 (a.d+(γ .i64 (((1:Nat):Int)*b.d))))⟩) by simp only [aJ,b0,b1,Xqp,Xqm,Xqq,Xqf]<;>rfl];exact pK [] 2 3 (.k 6 (di b1) (.k 3 (di b0) (.n 21 .nil))) (.c (Kz (Dj a b 1)) .nil)
theorem aiv (nn:Bool) (c a b:Ty):CO 155 [.agg (fH c),.sl (iZ [a,b]) 2 nn,.pp [ω (-1)] 0] (.ret (.tup [.agg (fH (aJ 12 c [a,b]).2),.bool (aJ 12 c [a,b]).1])):=by
 rcases tf a.tr with b0|b0
 ·rw [show aJ 12 c [a,b]=(false,⟨false,(γ .i64 (a.m+(γ .i64 ((-1:Int)*b.m)))),(γ .i64 (a.d+(γ .i64 ((-1:Int)*b.d))))⟩) by simp only [aJ,b0,Xqp,Xqm,Xqq,Xqf]<;>rfl];exact pK [] 2 0 (.k 5 (aV b0) (.n 21 .nil)) (.nil)
 ·rcases tf b.tr with b1|b1
  ·rw [show aJ 12 c [a,b]=(false,⟨false,(γ .i64 (a.m+(γ .i64 ((-1:Int)*b.m)))),(γ .i64 (a.d+(γ .i64 ((-1:Int)*b.d))))⟩) by simp only [aJ,b0,b1,Xqp,Xqm,Xqq,Xqf]<;>rfl];exact pK [] 2 1 (.k 4 (aV b1) (.k 3 (di b0) (.n 21 .nil))) (.nil)
  ·rw [show aJ 12 c [a,b]=((jv (γ .i64 (a.m+(γ .i64 ((-1:Int)*b.m)))) (γ .i64 (a.d+(γ .i64 ((-1:Int)*b.d))))),⟨false,(γ .i64 (a.m+(γ .i64 ((-1:Int)*b.m)))),(γ .i64 (a.d+(γ .i64 ((-1:Int)*b.d))))⟩) by simp only [aJ,b0,b1,Xqp,Xqm,Xqq,Xqf]<;>rfl];exact pK [] 2 3 (.k 6 (di b1) (.k 3 (di b0) (.n 21 .nil))) (.c (Kz (Dj a b (-1))) .nil)
theorem aiw (nn:Bool) (d a b:Ty):CO 154 [.agg (fH d),.sl (iZ [a,b]) 2 nn,.pp [.fn 106 [] []] 0] (.ret (.tup [.agg (fH (aJ 13 d [a,b]).2),.bool (aJ 13 d [a,b]).1])):=by
 rcases tf ((a.tr==b.tr) && ((a.m==b.m) && ((a.d==b.d) && true))) with b0|b0
 ·have c:kH a b=true:=b0;rw [show aJ 13 d [a,b]=((!a.tr),⟨a.tr,a.m,a.d⟩) by simp only [aJ,c,Xqp,Xqm,Xqq,Xqf]<;>rfl];exact pK [] 1 1 (.k 7 (aA b0) (.n 16 .nil)) (.c (vK a) .nil)
 ·have c:kH a b=false:=b0;rw [show aJ 13 d [a,b]=(false,⟨a.tr,a.m,a.d⟩) by simp only [aJ,c,Xqp,Xqm,Xqq,Xqf]<;>rfl];exact pK [] 1 0 (.k 4 (aF b0) (.n 16 .nil)) (.c (vK a) .nil)
theorem aix (nn:Bool) (d a b:Ty):CO 154 [.agg (fH d),.sl (iZ [a,b]) 2 nn,.pp [.fn 106 [] []] 0] (.ret (.tup [.agg (fH (aJ 14 d [a,b]).2),.bool (aJ 14 d [a,b]).1])):=by
 rcases tf ((a.tr==b.tr) && ((a.m==b.m) && ((a.d==b.d) && true))) with b0|b0
 ·have c:kH a b=true:=b0;rw [show aJ 14 d [a,b]=((!a.tr),⟨a.tr,a.m,a.d⟩) by simp only [aJ,c,Xqp,Xqm,Xqq,Xqf]<;>rfl];exact pK [] 1 1 (.k 7 (aA b0) (.n 16 .nil)) (.c (vK a) .nil)
 ·have c:kH a b=false:=b0;rw [show aJ 14 d [a,b]=(false,⟨a.tr,a.m,a.d⟩) by simp only [aJ,c,Xqp,Xqm,Xqq,Xqf]<;>rfl];exact pK [] 1 0 (.k 4 (aF b0) (.n 16 .nil)) (.c (vK a) .nil)
theorem aiy (nn:Bool) (e a b c:Ty):CO 108 [.agg (fH e),.sl (iZ [a,b,c]) 3 nn] (.ret (.tup [.agg (fH (aJ 15 e [a,b,c]).2),.bool (aJ 15 e [a,b,c]).1])):=by
 rcases tf ((a.tr==true) && ((a.m==((0:Nat):Int)) && ((a.d==((0:Nat):Int)) && true))) with b0|b0
 ·have d:kH a tT=true:=b0;rw [show aJ 15 e [a,b,c]=(((b.tr==c.tr) && ((b.m==c.m) && ((b.d==c.d) && true))),⟨b.tr,b.m,b.d⟩) by simp only [aJ,d,Xqp,Xqm,Xqq,Xqf]<;>rfl];exact pK [] 1 1 (.k 14 (aA b0) (.n 13 .nil)) (.nil)
 ·have d:kH a tT=false:=b0;rw [show aJ 15 e [a,b,c]=(false,⟨b.tr,b.m,b.d⟩) by simp only [aJ,d,Xqp,Xqm,Xqq,Xqf]<;>rfl];exact pK [] 1 0 (.k 4 (aF b0) (.n 13 .nil)) (.nil)
theorem aiz (nn:Bool) (d a b:Ty):CO 154 [.agg (fH d),.sl (iZ [a,b]) 2 nn,.pp [.fn 109 [] []] 0] (.ret (.tup [.agg (fH (aJ 16 d [a,b]).2),.bool (aJ 16 d [a,b]).1])):=by
 rcases tf ((a.tr==b.tr) && ((a.m==b.m) && ((a.d==b.d) && true))) with b0|b0
 ·have c:kH a b=true:=b0;rw [show aJ 16 d [a,b]=((!a.tr),⟨true,0,0⟩) by simp only [aJ,c,Xqp,Xqm,Xqq,Xqf]<;>rfl];exact pK [] 1 1 (.k 7 (aA b0) (.n 16 .nil)) (.c (aek a) .nil)
 ·have c:kH a b=false:=b0;rw [show aJ 16 d [a,b]=(false,⟨true,0,0⟩) by simp only [aJ,c,Xqp,Xqm,Xqq,Xqf]<;>rfl];exact pK [] 1 0 (.k 4 (aF b0) (.n 16 .nil)) (.c (aek a) .nil)
theorem aiA (nn:Bool) (c a b:Ty):CO 110 [.agg (fH c),.sl (iZ [a,b]) 2 nn] (.ret (.tup [.agg (fH (aJ 17 c [a,b]).2),.bool (aJ 17 c [a,b]).1])):=by
 rw [show aJ 17 c [a,b]=(((a.tr==b.tr) && ((a.m==b.m) && ((a.d==b.d) && true))),⟨true,0,0⟩) by simp only [aJ,cond_true,Xqp,Xqm,Xqq,Xqf]<;>rfl];exact pK [] 0 0 (.n 17 .nil) (.nil)
theorem aiB (nn:Bool) (e a b:Ty):CO 156 [.agg (fH e),.sl (iZ [a,b]) 2 nn] (.ret (.tup [.agg (fH (aJ 18 e [a,b]).2),.bool (aJ 18 e [a,b]).1])):=by
 rcases tf ((a.tr==true) && ((a.m==((0:Nat):Int)) && ((a.d==((0:Nat):Int)) && true))) with b0|b0
 ·rcases tf ((b.tr==true) && ((b.m==((0:Nat):Int)) && ((b.d==((0:Nat):Int)) && true))) with b1|b1
  ·have c:kH a tT=true:=b0;have d:kH b tT=true:=b1;rw [show aJ 18 e [a,b]=(true,⟨true,0,0⟩) by simp only [aJ,c,d,Xqp,Xqm,Xqq,Xqf]<;>rfl];exact pK [] 5 5 (.k 8 (aV b1) (.k 13 (aV b0) (.n 13 .nil))) (.nil)
  ·have c:kH a tT=true:=b0;have d:kH b tT=false:=b1;rw [show aJ 18 e [a,b]=(false,⟨true,0,0⟩) by simp only [aJ,c,d,Xqp,Xqm,Xqq,Xqf]<;>rfl];exact pK [] 4 13 (.k 7 (di b1) (.k 13 (aV b0) (.n 13 .nil))) (.nil)
 ·have c:kH a tT=false:=b0;rw [show aJ 18 e [a,b]=(false,⟨true,0,0⟩) by simp only [aJ,c,Xqp,Xqm,Xqq,Xqf]<;>rfl];exact pK [] 2 3 (.k 7 (di b0) (.n 13 .nil)) (.nil)
theorem aiC (nn:Bool) (e a b:Ty):CO 156 [.agg (fH e),.sl (iZ [a,b]) 2 nn] (.ret (.tup [.agg (fH (aJ 19 e [a,b]).2),.bool (aJ 19 e [a,b]).1])):=by
 rcases tf ((a.tr==true) && ((a.m==((0:Nat):Int)) && ((a.d==((0:Nat):Int)) && true))) with b0|b0
 ·rcases tf ((b.tr==true) && ((b.m==((0:Nat):Int)) && ((b.d==((0:Nat):Int)) && true))) with b1|b1
  ·have c:kH a tT=true:=b0;have d:kH b tT=true:=b1;rw [show aJ 19 e [a,b]=(true,⟨true,0,0⟩) by simp only [aJ,c,d,Xqp,Xqm,Xqq,Xqf]<;>rfl];exact pK [] 5 5 (.k 8 (aV b1) (.k 13 (aV b0) (.n 13 .nil))) (.nil)
  ·have c:kH a tT=true:=b0;have d:kH b tT=false:=b1;rw [show aJ 19 e [a,b]=(false,⟨true,0,0⟩) by simp only [aJ,c,d,Xqp,Xqm,Xqq,Xqf]<;>rfl];exact pK [] 4 13 (.k 7 (di b1) (.k 13 (aV b0) (.n 13 .nil))) (.nil)
 ·have c:kH a tT=false:=b0;rw [show aJ 19 e [a,b]=(false,⟨true,0,0⟩) by simp only [aJ,c,Xqp,Xqm,Xqq,Xqf]<;>rfl];exact pK [] 2 3 (.k 7 (di b0) (.n 13 .nil)) (.nil)
theorem aiE (nn:Bool) (c a:Ty):CO 156 [.agg (fH c),.sl (iZ [a]) 1 nn] (.ret (.tup [.agg (fH (aJ 20 c [a]).2),.bool (aJ 20 c [a]).1])):=by
 rcases tf ((a.tr==true) && ((a.m==((0:Nat):Int)) && ((a.d==((0:Nat):Int)) && true))) with b0|b0
 ·have b:kH a tT=true:=b0;rw [show aJ 20 c [a]=(true,⟨true,0,0⟩) by simp only [aJ,b,Xqp,Xqm,Xqq,Xqf]<;>rfl];exact pK [] 3 1 (.k 8 (aV b0) (.n 13 .nil)) (.nil)
 ·have b:kH a tT=false:=b0;rw [show aJ 20 c [a]=(false,⟨true,0,0⟩) by simp only [aJ,b,Xqp,Xqm,Xqq,Xqf]<;>rfl];exact pK [] 2 3 (.k 7 (di b0) (.n 13 .nil)) (.nil)
theorem aiF (nn:Bool) (b a:Ty):CO 157 [.agg (fH b),.sl (iZ [a]) 1 nn] (.ret (.tup [.agg (fH (aJ 21 b [a]).2),.bool (aJ 21 b [a]).1])):=by
 rw [show aJ 21 b [a]=((!a.tr),⟨a.tr,a.m,a.d⟩) by simp only [aJ,cond_true,Xqp,Xqm,Xqq,Xqf]<;>rfl];exact pK [] 0 0 (.n 12 .nil) (.nil)
theorem aiG (nn:Bool) (b a:Ty):CO 157 [.agg (fH b),.sl (iZ [a]) 1 nn] (.ret (.tup [.agg (fH (aJ 22 b [a]).2),.bool (aJ 22 b [a]).1])):=by
 rw [show aJ 22 b [a]=((!a.tr),⟨a.tr,a.m,a.d⟩) by simp only [aJ,cond_true,Xqp,Xqm,Xqq,Xqf]<;>rfl];exact pK [] 0 0 (.n 12 .nil) (.nil)
theorem aiH (nn:Bool) (b a:Ty):CO 157 [.agg (fH b),.sl (iZ [a]) 1 nn] (.ret (.tup [.agg (fH (aJ 23 b [a]).2),.bool (aJ 23 b [a]).1])):=by
 rw [show aJ 23 b [a]=((!a.tr),⟨a.tr,a.m,a.d⟩) by simp only [aJ,cond_true,Xqp,Xqm,Xqq,Xqf]<;>rfl];exact pK [] 0 0 (.n 12 .nil) (.nil)
theorem aiI (nn:Bool) (b a:Ty):CO 113 [.agg (fH b),.sl (iZ [a]) 1 nn] (.ret (.tup [.agg (fH (aJ 24 b [a]).2),.bool (aJ 24 b [a]).1])):=by
 rw [show aJ 24 b [a]=(((a.tr==b.tr) && ((a.m==b.m) && ((a.d==b.d) && true))),⟨b.tr,b.m,b.d⟩) by simp only [aJ,cond_true,Xqp,Xqm,Xqq,Xqf]<;>rfl];exact pK [] 0 0 (.n 15 .nil) (.nil)
theorem aa4 {a b:Ty}:kH a b=true↔a=b:=by
 obtain ⟨t,m,d⟩:=a;obtain ⟨f,e,c⟩:=b;simp [kH]
theorem zn (a b:Ty):(kH a b && pG [a,b])=(kH a b && !a.tr):=by
 cases h:kH a b with
 |false=>rfl
 |true=>have:=aa4.mp h;subst this;simp [pG]
theorem MQ (a b:Ty):pG [a,b]=(!a.tr && !b.tr):=by simp [pG]
theorem FQ (a:Ty):pG [a]= !a.tr:=by simp [pG]
theorem oz {a:Ty} (h:aS a=true):kH a tT=a.tr:=by
 obtain ⟨t,m,d⟩:=a;cases t with
 |true=>simp [aS] at h;simp [kH,tT,h.1,h.2]
 |false=>simp [kH,tT]
theorem aev {a b:Ty} (c:aS a=true) (d:aS b=true):Dj a b 1=⟨false,γ .i64 (a.m+b.m),γ .i64 (a.d+b.d)⟩:=by
 have f:=qF c;have e:=qF d;unfold Dj;rw [bH (x:=1*b.m) (by omega) (by omega),bH (x:=1*b.d) (by omega) (by omega),Yx6,Yx6]
theorem aew {a b:Ty} (c:aS a=true) (d:aS b=true):Dj a b (-1)=⟨false,γ .i64 (a.m - b.m),γ .i64 (a.d - b.d)⟩:=by
 have f:=qF c;have e:=qF d;unfold Dj;rw [bH (x:= -1*b.m) (by omega) (by omega),bH (x:= -1*b.d) (by omega) (by omega)];congr 2<;>omega
def lL (v:Nat) (sg:Ty) (ts:List Ty):Prop:=(dP v sg ts).1=(aJ v sg ts).1∧(dP v sg ts).2=(aJ v sg ts).2
theorem Y2 (c a b:Ty) (e:aS a=true) (d:aS b=true):lL 9 c [a,b]:=⟨zn a b,rfl⟩
theorem SC (c a b:Ty) (e:aS a=true) (d:aS b=true):lL 10 c [a,b]:=⟨zn a b,rfl⟩
theorem SE (c a b:Ty) (e:aS a=true) (d:aS b=true):lL 11 c [a,b]:=by
 unfold lL;simp only [dP,aJ];rw [aev e d,MQ];refine ⟨?_,rfl⟩;simp only [aS,cond_false,Xkn]
theorem SG (c a b:Ty) (e:aS a=true) (d:aS b=true):lL 12 c [a,b]:=by
 unfold lL;simp only [dP,aJ];rw [aew e d,MQ];refine ⟨?_,rfl⟩;simp only [aS,cond_false,Xkn]
theorem SH (c a b:Ty) (e:aS a=true) (d:aS b=true):lL 13 c [a,b]:=⟨zn a b,rfl⟩
theorem SI (c a b:Ty) (e:aS a=true) (d:aS b=true):lL 14 c [a,b]:=⟨zn a b,rfl⟩
theorem SK (d a b c:Ty) (e:aS a=true) (g:aS b=true) (f:aS c=true):lL 15 d [a,b,c]:=⟨by simp only [dP,aJ];rw [oz e],rfl⟩
theorem SL (c a b:Ty) (e:aS a=true) (d:aS b=true):lL 16 c [a,b]:=⟨zn a b,rfl⟩
theorem SN (c a b:Ty) (e:aS a=true) (d:aS b=true):lL 17 c [a,b]:=⟨rfl,rfl⟩
theorem SQ (c a b:Ty) (e:aS a=true) (d:aS b=true):lL 18 c [a,b]:=⟨by simp only [dP,aJ];rw [oz e,oz d],rfl⟩
theorem SS (c a b:Ty) (e:aS a=true) (d:aS b=true):lL 19 c [a,b]:=⟨by simp only [dP,aJ];rw [oz e,oz d],rfl⟩
theorem SV (c a:Ty) (b:aS a=true):lL 20 c [a]:=⟨by simp only [dP,aJ];rw [oz b],rfl⟩
theorem SX (b a:Ty) (c:aS a=true):lL 21 b [a]:=⟨FQ a,rfl⟩
theorem SY (b a:Ty) (c:aS a=true):lL 22 b [a]:=⟨FQ a,rfl⟩
theorem S9 (b a:Ty) (c:aS a=true):lL 23 b [a]:=⟨FQ a,rfl⟩
theorem S_ (b a:Ty) (c:aS a=true):lL 24 b [a]:=⟨rfl,rfl⟩
def xe:List AV:= [.bool false,.nilF,.bool false,.fn 152 [] [.pp [.bool false,ω 1,ω 0] 0],.bool false,.fn 152 [] [.pp [.bool false,ω 0,ω 1] 0],.bool false,.fn 152 [] [.pp [.bool false,ω 0,ω 0] 0],.bool false,.fn 152 [] [.pp [.bool true,ω 0,ω 0] 0],.bool true,.fn 153 [] [],.bool true,.fn 153 [] [],.bool true,.fn 153 [] [],.bool true,.fn 153 [] [],.bool false,.fn 154 [] [.pp [.fn 106 [] []] 0],.bool false,.fn 154 [] [.pp [.fn 106 [] []] 0],.bool false,.fn 155 [] [.pp [ω 1] 0],.bool false,.fn 155 [] [.pp [ω (-1)] 0],.bool false,.fn 154 [] [.pp [.fn 106 [] []] 0],.bool false,.fn 154 [] [.pp [.fn 106 [] []] 0],.bool false,.fn 108 [] [],.bool false,.fn 154 [] [.pp [.fn 109 [] []] 0],.bool false,.fn 110 [] [],.bool false,.fn 156 [] [],.bool false,.fn 156 [] [],.bool false,.fn 156 [] [],.bool false,.fn 157 [] [],.bool false,.fn 157 [] [],.bool false,.fn 157 [] [],.bool true,.fn 113 [] []]
def fO (ll:List (List Nat)):List AV:=ll.map fun a=> .sl (aj a) a.length false
def lG (l:List Sg) (ns:List Nd) (nl nn:Bool) (ll:List (List Nat)) (k:Nat):iT:= [(0,.sl (dU l) l.length nl),(1,.sl (a_ ns) ns.length nn),(4,.ptr 0 0 0),(5,.ptr 1 0 0),(7,.sl (fO ll) ns.length true),(9,.sl xe 25 true),(30,.sl (a_ ns) ns.length nn),(31,ω (ns.length:Int)),(32,ω (k:Int))]
def gZ:List (Nat × List AV):= [(66,[.ptr 0 0 0,.ptr 1 0 0])]
def gY:Nat × bg:=(1,⟨[ω 0],0,false,0,0,true⟩)
def sV (sg:Ty):Nat × bg:=(3,⟨fH sg,0,false,0,0,true⟩)
def jd (ts:List Ty):bg:=⟨iZ ts,0,false,0,3,true⟩
def lJ (op:Int) (x:Nd):bg:=⟨[ω op,.bool x.neg,.str x.num,.str x.den,.str x.name],0,false,0,0,true⟩
theorem Af (own:List Ty) (t:Ty):ν (own.length*3) (iZ own)++ [Xww t.tr,ω t.m,ω t.d]=iZ (own++ [t]):=by
 rw [υ (by rw [wW];omega),TM];simp [iZ,fH]
theorem ail {nt:Nat} (o:84≤nt) (l:List Sg) (c:List Nd) (b nn:Bool) (ll:List (List Nat)) (k:Nat) (a:List Nat) (i:Nat) (x:Nd) (d:Ty) (ts:List Ty) (j:Nat) (m:List AV) (t:Ty) (rt:List AV) (q:ω (γ .i64 ((i:Int)+((1:Nat):Int)))= ω ((i+1:Nat):Int)) (p:(ε ((δ (i:Int))*1) (aj a))= [ω (j:Int)]++m) (e:(ε ((0+(δ (j:Int)))*3) (iZ ts))=fH t++rt) (g:(decide (((0:Nat):Int)≤(j:Int)))=true) (n:(decide ((j:Int)<(ts.length:Int)))=true) (h:(decide (((0:Nat):Int)≤(i:Int)))=true) (f:(decide ((i:Int)<(a.length:Int)))=true) (r:lit true (decide ((i:Int)<(a.length:Int)))=true):au prog ap [] nt (af 2 (ai f34)) ⟨(lG l c b nn ll k++ [(11,.ptr 2 0 0),(12,.ptr 3 0 0),(49,.sl (aj a) a.length false),(50,ω (a.length:Int)),(13,.nilS),(51,ω (i:Int))]),[(0,⟨[.ref 4 0 0 ts.length],0,false,0,0,false⟩),gY,(2,lJ x.op x),sV d,(4,jd ts)],.dead,gZ⟩ (.normal) ⟨(lG l c b nn ll k++ [(11,.ptr 2 0 0),(12,.ptr 3 0 0),(49,.sl (aj a) a.length false),(50,ω (a.length:Int)),(13,.ref 4 0 0 1),(51,ω (((i+1):Nat):Int))]),[(0,⟨[.ref 5 0 0 ts.length],0,false,0,0,false⟩),gY,(2,lJ x.op x),sV d,(4,⟨[.bool t.tr,ω t.m,ω t.d],0,false,0,3,true⟩),(5,jd ts)],.dead,gZ⟩:=pJ 34 [] 2 1 (.n 3 (.a (kS [.bool,.int .i64,.int .i64] e rfl) (.c g (.c n (.k 2 h (.c f (.c r .nil))))))) (.v 62 (.eq q) (.v 59 (.rd [.bool,.int .i64,.int .i64] e rfl) (.v 53 (.ppt p) .nil))) o
theorem aim {nt:Nat} (f:84≤nt) (l:List Sg) (d:List Nd) (c nn:Bool) (ll:List (List Nat)) (k:Nat) (a:List Nat) (i:Nat) (x:Nd) (b:Ty) (ts:List Ty) (e:lit false (decide ((i:Int)<(a.length:Int)))=true):au prog ap [] nt (af 2 (ai f34)) ⟨(lG l d c nn ll k++ [(11,.ptr 2 0 0),(12,.ptr 3 0 0),(49,.sl (aj a) a.length false),(50,ω (a.length:Int)),(13,.nilS),(51,ω (i:Int))]),[(0,⟨[.ref 4 0 0 ts.length],0,false,0,0,false⟩),gY,(2,lJ x.op x),sV b,(4,jd ts)],.dead,gZ⟩ (.exit 2) ⟨(lG l d c nn ll k++ [(11,.ptr 2 0 0),(12,.ptr 3 0 0),(13,.nilS)]),[(0,⟨[.ref 4 0 0 ts.length],0,false,0,0,false⟩),gY,(2,lJ x.op x),sV b,(4,jd ts)],.dead,gZ⟩:=pJ 34 [] 1 0 (.c e .nil) (.nil) f
theorem aij {nt:Nat} (q:84≤nt) (l:List Sg) (c:List Nd) (b nn:Bool) (ll:List (List Nat)) (k:Nat) (a:List Nat) (i:Nat) (x:Nd) (d:Ty) (ts own:List Ty) (j:Nat) (o:List AV) (t:Ty) (rt:List AV) (s:ω (γ .i64 ((i:Int)+((1:Nat):Int)))= ω ((i+1:Nat):Int)) (r:(ε ((δ (i:Int))*1) (aj a))= [ω (j:Int)]++o) (e:(ε ((0+(δ (j:Int)))*3) (iZ ts))=fH t++rt) (m:(Xqc (own.length+1) 1099511627776)=true) (p:(Xqc (own.length*3) (θ (iZ own)))=true) (n:(decide (((0:Nat):Int)≤(j:Int)))=true) (h:(decide ((j:Int)<(ts.length:Int)))=true) (u:(decide (((0:Nat):Int)≤(i:Int)))=true) (f:(decide ((i:Int)<(a.length:Int)))=true) (g:lit true (decide ((i:Int)<(a.length:Int)))=true):au prog ap [] nt (af 2 (ai f34)) ⟨(lG l c b nn ll k++ [(11,.ptr 2 0 0),(12,.ptr 3 0 0),(49,.sl (aj a) a.length false),(50,ω (a.length:Int)),(13,.ref 4 0 0 own.length),(51,ω (i:Int))]),[(0,⟨[.ref 5 0 0 ts.length],0,false,0,0,false⟩),gY,(2,lJ x.op x),sV d,(4,jd own),(5,jd ts)],.dead,gZ⟩ (.normal) ⟨(lG l c b nn ll k++ [(11,.ptr 2 0 0),(12,.ptr 3 0 0),(49,.sl (aj a) a.length false),(50,ω (a.length:Int)),(13,.ref 4 0 0 (own.length+1)),(51,ω (((i+1):Nat):Int))]),[(0,⟨[.ref 5 0 0 ts.length],0,false,0,0,false⟩),gY,(2,lJ x.op x),sV d,(4,⟨(iZ (own++ [t])),0,false,0,3,true⟩),(5,jd ts)],.dead,gZ⟩:=pJ 34 [] 1 1 (.k 1 m (.c p (.n 1 (.a (kS [.bool,.int .i64,.int .i64] e rfl) (.c n (.c h (.k 2 u (.c f (.c g .nil))))))))) (.v 62 (.eq s) (.b 61 (Af own t) (.v 59 (.rd [.bool,.int .i64,.int .i64] e rfl) (.v 53 (.ppt r) .nil)))) q
theorem aik {nt:Nat} (f:84≤nt) (l:List Sg) (d:List Nd) (c nn:Bool) (ll:List (List Nat)) (k:Nat) (a:List Nat) (i:Nat) (x:Nd) (b:Ty) (ts own:List Ty) (e:lit false (decide ((i:Int)<(a.length:Int)))=true):au prog ap [] nt (af 2 (ai f34)) ⟨(lG l d c nn ll k++ [(11,.ptr 2 0 0),(12,.ptr 3 0 0),(49,.sl (aj a) a.length false),(50,ω (a.length:Int)),(13,.ref 4 0 0 own.length),(51,ω (i:Int))]),[(0,⟨[.ref 5 0 0 ts.length],0,false,0,0,false⟩),gY,(2,lJ x.op x),sV b,(4,jd own),(5,jd ts)],.dead,gZ⟩ (.exit 2) ⟨(lG l d c nn ll k++ [(11,.ptr 2 0 0),(12,.ptr 3 0 0),(13,.ref 4 0 0 own.length)]),[(0,⟨[.ref 5 0 0 ts.length],0,false,0,0,false⟩),gY,(2,lJ x.op x),sV b,(4,jd own),(5,jd ts)],.dead,gZ⟩:=pJ 34 [] 1 0 (.c e .nil) (.nil) f
theorem adP {nt:Nat} (f:84≤nt) (l:List Sg) (d:List Nd) (c nn:Bool) (ll:List (List Nat)) (k:Nat) (a:List Nat) (i:Nat) (x:Nd) (b:Ty) (e:lit false (decide ((i:Int)<(a.length:Int)))=true):au prog ap [] nt (af 2 (ai f34)) ⟨(lG l d c nn ll k++ [(11,.ptr 2 0 0),(12,.ptr 3 0 0),(49,.sl (aj a) a.length false),(50,ω (a.length:Int)),(13,.nilS),(51,ω (i:Int))]),[(0,⟨[.nilS],0,false,0,0,true⟩),gY,(2,lJ x.op x),sV b],.dead,gZ⟩ (.exit 2) ⟨(lG l d c nn ll k++ [(11,.ptr 2 0 0),(12,.ptr 3 0 0),(13,.nilS)]),[(0,⟨[.nilS],0,false,0,0,true⟩),gY,(2,lJ x.op x),sV b],.dead,gZ⟩:=pJ 34 [] 1 0 (.c e .nil) (.nil) f
def aie (op:Int) (l:List Sg) (ns:List Nd) (nl nn:Bool) (ll:List (List Nat)) (k:Nat) (x:Nd) (sg:Ty) (ts own:List Ty):St:=⟨(lG l ns nl nn ll k++ [(11,.ptr 2 0 0),(12,.ptr 3 0 0),(13,.nilS)]),[(0,⟨[.nilS],0,false,0,0,true⟩),gY,(2,lJ op x),sV sg],.dead,gZ⟩
def aib (op:Int) (l:List Sg) (ns:List Nd) (nl nn:Bool) (ll:List (List Nat)) (k:Nat) (x:Nd) (sg:Ty) (ts own:List Ty) (q:Ty) (gd:Bool):St:=⟨(lG l ns nl nn ll k++ [(16,.ptr 4 0 0),(17,.bool gd)]),[(0,⟨[.nilS],0,false,0,0,true⟩),gY,(2,lJ op x),sV sg,(4,⟨[.bool q.tr,ω q.m,ω q.d],0,false,0,0,true⟩)],.dead,gZ⟩
def S3Z (op:Int) (f:Nat) (cap:List AV):Prop:=∀ (l:List Sg) (ns:List Nd) (nl nn:Bool) (ll:List (List Nat)) (k:Nat) (x:Nd) (sg:Ty) (ts own:List Ty) (q:Ty) (gd:Bool),CO f (.agg (fH sg)::.nilS::cap) (.ret (.tup [.agg (fH q),.bool gd]))→aN prog ap [] 84 (qV 19 (ai f34)) (aie op l ns nl nn ll k x sg ts own) .normal (aib op l ns nl nn ll k x sg ts own q gd)
theorem aoO:S3Z 1 152 [.pp [.bool false,ω 1,ω 0] 0]:=fun l f d nn ll k x c ts own q e a nt b=>pJ 34 [] 0 0 (.n 8 .nil) (.c a .nil) b
theorem aoP:S3Z 2 152 [.pp [.bool false,ω 0,ω 1] 0]:=fun l f d nn ll k x c ts own q e a nt b=>pJ 34 [] 0 0 (.n 8 .nil) (.c a .nil) b
theorem aoQ:S3Z 3 152 [.pp [.bool false,ω 0,ω 0] 0]:=fun l f d nn ll k x c ts own q e a nt b=>pJ 34 [] 0 0 (.n 8 .nil) (.c a .nil) b
theorem aoR:S3Z 4 152 [.pp [.bool true,ω 0,ω 0] 0]:=fun l f d nn ll k x c ts own q e a nt b=>pJ 34 [] 0 0 (.n 8 .nil) (.c a .nil) b
theorem aoS:S3Z 5 153 []:=fun l f d nn ll k x c ts own q e a nt b=>pJ 34 [] 0 0 (.n 8 .nil) (.c a .nil) b
theorem aoT:S3Z 6 153 []:=fun l f d nn ll k x c ts own q e a nt b=>pJ 34 [] 0 0 (.n 8 .nil) (.c a .nil) b
theorem aoU:S3Z 7 153 []:=fun l f d nn ll k x c ts own q e a nt b=>pJ 34 [] 0 0 (.n 8 .nil) (.c a .nil) b
theorem aoV:S3Z 8 153 []:=fun l f d nn ll k x c ts own q e a nt b=>pJ 34 [] 0 0 (.n 8 .nil) (.c a .nil) b
def aid (op:Int) (l:List Sg) (ns:List Nd) (nl nn:Bool) (ll:List (List Nat)) (k:Nat) (x:Nd) (sg:Ty) (ts own:List Ty):St:=⟨(lG l ns nl nn ll k++ [(11,.ptr 2 0 0),(12,.ptr 3 0 0),(13,.nilS)]),[(0,⟨[.ref 4 0 0 ts.length],0,false,0,0,false⟩),gY,(2,lJ op x),sV sg,(4,jd ts)],.dead,gZ⟩
def aia (op:Int) (l:List Sg) (ns:List Nd) (nl nn:Bool) (ll:List (List Nat)) (k:Nat) (x:Nd) (sg:Ty) (ts own:List Ty) (q:Ty) (gd:Bool):St:=⟨(lG l ns nl nn ll k++ [(16,.ptr 4 0 0),(17,.bool gd)]),[(0,⟨[.ref 5 0 0 ts.length],0,false,0,0,false⟩),gY,(2,lJ op x),sV sg,(4,⟨[.bool q.tr,ω q.m,ω q.d],0,false,0,0,true⟩),(5,jd ts)],.dead,gZ⟩
def S3N (op:Int) (f:Nat) (cap:List AV):Prop:=∀ (l:List Sg) (ns:List Nd) (nl nn:Bool) (ll:List (List Nat)) (k:Nat) (x:Nd) (sg:Ty) (ts own:List Ty) (q:Ty) (gd:Bool),CO f (.agg (fH sg)::.nilS::cap) (.ret (.tup [.agg (fH q),.bool gd]))→aN prog ap [] 84 (qV 19 (ai f34)) (aid op l ns nl nn ll k x sg ts own) .normal (aia op l ns nl nn ll k x sg ts own q gd)
theorem aoG:S3N 1 152 [.pp [.bool false,ω 1,ω 0] 0]:=fun l f d nn ll k x c ts own q e a nt b=>pJ 34 [] 0 0 (.n 8 .nil) (.c a .nil) b
theorem aoH:S3N 2 152 [.pp [.bool false,ω 0,ω 1] 0]:=fun l f d nn ll k x c ts own q e a nt b=>pJ 34 [] 0 0 (.n 8 .nil) (.c a .nil) b
theorem aoI:S3N 3 152 [.pp [.bool false,ω 0,ω 0] 0]:=fun l f d nn ll k x c ts own q e a nt b=>pJ 34 [] 0 0 (.n 8 .nil) (.c a .nil) b
theorem aoJ:S3N 4 152 [.pp [.bool true,ω 0,ω 0] 0]:=fun l f d nn ll k x c ts own q e a nt b=>pJ 34 [] 0 0 (.n 8 .nil) (.c a .nil) b
theorem aoK:S3N 5 153 []:=fun l f d nn ll k x c ts own q e a nt b=>pJ 34 [] 0 0 (.n 8 .nil) (.c a .nil) b
theorem aoL:S3N 6 153 []:=fun l f d nn ll k x c ts own q e a nt b=>pJ 34 [] 0 0 (.n 8 .nil) (.c a .nil) b
theorem aoM:S3N 7 153 []:=fun l f d nn ll k x c ts own q e a nt b=>pJ 34 [] 0 0 (.n 8 .nil) (.c a .nil) b
theorem aoN:S3N 8 153 []:=fun l f d nn ll k x c ts own q e a nt b=>pJ 34 [] 0 0 (.n 8 .nil) (.c a .nil) b
def aic (op:Int) (l:List Sg) (ns:List Nd) (nl nn:Bool) (ll:List (List Nat)) (k:Nat) (x:Nd) (sg:Ty) (ts own:List Ty):St:=⟨(lG l ns nl nn ll k++ [(11,.ptr 2 0 0),(12,.ptr 3 0 0),(13,.ref 4 0 0 own.length)]),[(0,⟨[.ref 5 0 0 ts.length],0,false,0,0,false⟩),gY,(2,lJ op x),sV sg,(4,jd own),(5,jd ts)],.dead,gZ⟩
def ah_ (op:Int) (l:List Sg) (ns:List Nd) (nl nn:Bool) (ll:List (List Nat)) (k:Nat) (x:Nd) (sg:Ty) (ts own:List Ty) (q:Ty) (gd:Bool):St:=⟨(lG l ns nl nn ll k++ [(16,.ptr 5 0 0),(17,.bool gd)]),[(0,⟨[.ref 6 0 0 ts.length],0,false,0,0,false⟩),gY,(2,lJ op x),sV sg,(4,⟨(iZ own),0,true,(θ (iZ own)),3,true⟩),(5,⟨[.bool q.tr,ω q.m,ω q.d],0,false,0,0,true⟩),(6,jd ts)],.dead,gZ⟩
def Oc (op:Int) (f:Nat) (cap:List AV):Prop:=∀ (l:List Sg) (ns:List Nd) (nl nn:Bool) (ll:List (List Nat)) (k:Nat) (x:Nd) (sg:Ty) (ts own:List Ty) (q:Ty) (gd:Bool),CO f (.agg (fH sg)::.sl (ν (own.length*3) (iZ own)) own.length true::cap) (.ret (.tup [.agg (fH q),.bool gd]))→aN prog ap [] 84 (qV 19 (ai f34)) (aic op l ns nl nn ll k x sg ts own) .normal (ah_ op l ns nl nn ll k x sg ts own q gd)
theorem aoF:Oc 9 154 [.pp [.fn 106 [] []] 0]:=fun l f d nn ll k x c ts own q e a nt b=>pJ 34 [] 0 0 (.n 8 .nil) (.c a .nil) b
theorem alZ:Oc 10 154 [.pp [.fn 106 [] []] 0]:=fun l f d nn ll k x c ts own q e a nt b=>pJ 34 [] 0 0 (.n 8 .nil) (.c a .nil) b
theorem al0:Oc 11 155 [.pp [ω 1] 0]:=fun l f d nn ll k x c ts own q e a nt b=>pJ 34 [] 0 0 (.n 8 .nil) (.c a .nil) b
theorem al1:Oc 12 155 [.pp [ω (-1)] 0]:=fun l f d nn ll k x c ts own q e a nt b=>pJ 34 [] 0 0 (.n 8 .nil) (.c a .nil) b
theorem al2:Oc 13 154 [.pp [.fn 106 [] []] 0]:=fun l f d nn ll k x c ts own q e a nt b=>pJ 34 [] 0 0 (.n 8 .nil) (.c a .nil) b
theorem al3:Oc 14 154 [.pp [.fn 106 [] []] 0]:=fun l f d nn ll k x c ts own q e a nt b=>pJ 34 [] 0 0 (.n 8 .nil) (.c a .nil) b
theorem al4:Oc 15 108 []:=fun l f d nn ll k x c ts own q e a nt b=>pJ 34 [] 0 0 (.n 8 .nil) (.c a .nil) b
theorem al5:Oc 16 154 [.pp [.fn 109 [] []] 0]:=fun l f d nn ll k x c ts own q e a nt b=>pJ 34 [] 0 0 (.n 8 .nil) (.c a .nil) b
theorem al6:Oc 17 110 []:=fun l f d nn ll k x c ts own q e a nt b=>pJ 34 [] 0 0 (.n 8 .nil) (.c a .nil) b
theorem al7:Oc 18 156 []:=fun l f d nn ll k x c ts own q e a nt b=>pJ 34 [] 0 0 (.n 8 .nil) (.c a .nil) b
theorem al8:Oc 19 156 []:=fun l f d nn ll k x c ts own q e a nt b=>pJ 34 [] 0 0 (.n 8 .nil) (.c a .nil) b
theorem al9:Oc 20 156 []:=fun l f d nn ll k x c ts own q e a nt b=>pJ 34 [] 0 0 (.n 8 .nil) (.c a .nil) b
theorem al_:Oc 21 157 []:=fun l f d nn ll k x c ts own q e a nt b=>pJ 34 [] 0 0 (.n 8 .nil) (.c a .nil) b
theorem ama:Oc 22 157 []:=fun l f d nn ll k x c ts own q e a nt b=>pJ 34 [] 0 0 (.n 8 .nil) (.c a .nil) b
theorem amb:Oc 23 157 []:=fun l f d nn ll k x c ts own q e a nt b=>pJ 34 [] 0 0 (.n 8 .nil) (.c a .nil) b
theorem amc:Oc 24 113 []:=fun l f d nn ll k x c ts own q e a nt b=>pJ 34 [] 0 0 (.n 8 .nil) (.c a .nil) b
theorem ai0 {nt:Nat} (v:84≤nt) (l:List Sg) (a:List Nd) (b nn:Bool) (ll:List (List Nat)) (k:Nat) (c q:Ty) (i:Bool) (x:Nd) (r:List Nd) (w u:List AV) (d:List Nat) (z:ω (γ .i64 ((k:Int)+((1:Nat):Int)))= ω ((k+1:Nat):Int)) (f:(ε ((δ (k:Int))*5) (a_ a))=qB x++a_ r) (e:(ε ((δ x.op)*2) xe)= [Xww (dX x.op)]++w) (g:(ε ((δ (k:Int))*1) (fO ll))= [Yq3 (aj d) d.length false]++u) (t:lit false (!i)=true) (j:(decide (((0:Nat):Int)≤(k:Int)))=true) (h:(decide ((k:Int)<(a.length:Int)))=true) (s:lit true (dX x.op)=true) (A:(decide (((0:Nat):Int)≤x.op))=true) (o:(decide (x.op<((25:Nat):Int)))=true) (p:lit true (decide ((k:Int)<(a.length:Int)))=true) (m:CO 68 [.sl (dU l) l.length b,.agg [ω x.op,.bool x.neg,.str x.num,.str x.den,.str x.name]] (.ret (.agg [.bool c.tr,ω c.m,ω c.d]))) (y:aN prog ap [] 84 (.block 2 (.loop (af 2 (ai f34)))) ⟨[(0,.sl (dU l) l.length b),(1,.sl (a_ a) a.length nn),(4,.ptr 0 0 0),(5,.ptr 1 0 0),(6,.dead),(7,.sl (fO ll) a.length true),(9,.sl xe 25 true),(10,ω (k:Int)),(11,.ptr 2 0 0),(12,.ptr 3 0 0),(13,.nilS),(15,.dead),(16,.dead),(17,.dead),(21,.dead),(30,.sl (a_ a) a.length nn),(31,ω (a.length:Int)),(32,ω (k:Int)),(33,.bool (decide ((k:Int)<(a.length:Int)))),(42,.bool (dX x.op)),(49,.sl (aj d) d.length false),(50,ω (d.length:Int)),(51,ω 0),(52,.dead),(76,.dead)],[(0,⟨[.nilS],0,false,0,0,true⟩),gY,(2,lJ x.op x),sV c],.dead,gZ⟩ (.normal) ⟨(lG l a b nn ll k++ [(11,.ptr 2 0 0),(12,.ptr 3 0 0),(13,.nilS)]),[(0,⟨[.nilS],0,false,0,0,true⟩),gY,(2,lJ x.op x),sV c],.dead,gZ⟩) (n:aN prog ap [] 84 (qV 19 (ai f34)) ⟨(lG l a b nn ll k++ [(11,.ptr 2 0 0),(12,.ptr 3 0 0),(13,.nilS)]),[(0,⟨[.nilS],0,false,0,0,true⟩),gY,(2,lJ x.op x),sV c],.dead,gZ⟩ (.normal) ⟨(lG l a b nn ll k++ [(16,.ptr 4 0 0),(17,.bool i)]),[(0,⟨[.nilS],0,false,0,0,true⟩),gY,(2,lJ x.op x),sV c,(4,⟨[.bool q.tr,ω q.m,ω q.d],0,false,0,0,true⟩)],.dead,gZ⟩):ψ nt f34 ⟨(lG l a b nn ll k),[(0,⟨[.nilS],0,false,0,0,true⟩),gY],.dead,gZ⟩ (.normal) ⟨[(0,.sl (dU l) l.length b),(1,.sl (a_ a) a.length nn),(4,.ptr 0 0 0),(5,.ptr 1 0 0),(7,.sl (fO ll) a.length true),(9,.sl xe 25 true),(30,.sl (a_ a) a.length nn),(31,ω (a.length:Int)),(32,ω (((k+1):Nat):Int))],[(0,⟨[.ref 2 0 0 1],0,false,0,0,false⟩),gY,(2,⟨[.bool q.tr,ω q.m,ω q.d],0,false,0,3,true⟩)],.dead,gZ⟩:=pN 34 [2,1019] 4 3 (.k 8 t (.k 1 j (.c h (.k 6 s (.k 1 A (.c o (.k 7 j (.c h (.c p .nil))))))))) (.v 82 (.eq z) (.l n (.l y (.v 48 (.ppt g) (.c m (.v 40 (.ppt e) (.v 35 (.ppt f) .nil))))))) v
theorem ai1 {nt:Nat} (t:84≤nt) (l:List Sg) (a:List Nd) (b nn:Bool) (ll:List (List Nat)) (k:Nat) (q:Ty) (h:Bool) (x:Nd) (r:List Nd) (u s:List AV) (c:List Nat) (w:ω (γ .i64 ((k:Int)+((1:Nat):Int)))= ω ((k+1:Nat):Int)) (e:(ε ((δ (k:Int))*5) (a_ a))=qB x++a_ r) (d:(ε ((δ x.op)*2) xe)= [Xww (dX x.op)]++u) (f:(ε ((δ (k:Int))*1) (fO ll))= [Yq3 (aj c) c.length false]++s) (p:lit false (!h)=true) (i:(decide (((0:Nat):Int)≤(k:Int)))=true) (g:(decide ((k:Int)<(a.length:Int)))=true) (o:lit false (dX x.op)=true) (y:(decide (((0:Nat):Int)≤x.op))=true) (m:(decide (x.op<((25:Nat):Int)))=true) (n:lit true (decide ((k:Int)<(a.length:Int)))=true) (v:aN prog ap [] 84 (.block 2 (.loop (af 2 (ai f34)))) ⟨[(0,.sl (dU l) l.length b),(1,.sl (a_ a) a.length nn),(4,.ptr 0 0 0),(5,.ptr 1 0 0),(6,.dead),(7,.sl (fO ll) a.length true),(9,.sl xe 25 true),(10,ω (k:Int)),(11,.ptr 2 0 0),(12,.ptr 3 0 0),(13,.nilS),(15,.dead),(16,.dead),(17,.dead),(21,.dead),(30,.sl (a_ a) a.length nn),(31,ω (a.length:Int)),(32,ω (k:Int)),(33,.bool (decide ((k:Int)<(a.length:Int)))),(42,.bool (dX x.op)),(49,.sl (aj c) c.length false),(50,ω (c.length:Int)),(51,ω 0),(52,.dead),(76,.dead)],[(0,⟨[.nilS],0,false,0,0,true⟩),gY,(2,lJ x.op x),(3,⟨[.bool false,ω 0,ω 0],0,false,0,0,true⟩)],.dead,gZ⟩ (.normal) ⟨(lG l a b nn ll k++ [(11,.ptr 2 0 0),(12,.ptr 3 0 0),(13,.nilS)]),[(0,⟨[.nilS],0,false,0,0,true⟩),gY,(2,lJ x.op x),(3,⟨[.bool false,ω 0,ω 0],0,false,0,0,true⟩)],.dead,gZ⟩) (j:aN prog ap [] 84 (qV 19 (ai f34)) ⟨(lG l a b nn ll k++ [(11,.ptr 2 0 0),(12,.ptr 3 0 0),(13,.nilS)]),[(0,⟨[.nilS],0,false,0,0,true⟩),gY,(2,lJ x.op x),(3,⟨[.bool false,ω 0,ω 0],0,false,0,0,true⟩)],.dead,gZ⟩ (.normal) ⟨(lG l a b nn ll k++ [(16,.ptr 4 0 0),(17,.bool h)]),[(0,⟨[.nilS],0,false,0,0,true⟩),gY,(2,lJ x.op x),(3,⟨[.bool false,ω 0,ω 0],0,false,0,0,true⟩),(4,⟨[.bool q.tr,ω q.m,ω q.d],0,false,0,0,true⟩)],.dead,gZ⟩):ψ nt f34 ⟨(lG l a b nn ll k),[(0,⟨[.nilS],0,false,0,0,true⟩),gY],.dead,gZ⟩ (.normal) ⟨[(0,.sl (dU l) l.length b),(1,.sl (a_ a) a.length nn),(4,.ptr 0 0 0),(5,.ptr 1 0 0),(7,.sl (fO ll) a.length true),(9,.sl xe 25 true),(30,.sl (a_ a) a.length nn),(31,ω (a.length:Int)),(32,ω (((k+1):Nat):Int))],[(0,⟨[.ref 2 0 0 1],0,false,0,0,false⟩),gY,(2,⟨[.bool q.tr,ω q.m,ω q.d],0,false,0,3,true⟩)],.dead,gZ⟩:=pN 34 [2,1019] 4 1 (.k 8 p (.k 1 i (.c g (.c o (.k 1 y (.c m (.k 7 i (.c g (.c n .nil))))))))) (.v 82 (.eq w) (.l j (.l v (.v 48 (.ppt f) (.v 40 (.ppt d) (.v 35 (.ppt e) .nil)))))) t
theorem ai2 {nt:Nat} (d:84≤nt) (l:List Sg) (a:List Nd) (c nn:Bool) (ll:List (List Nat)) (k:Nat) (b:lit false (decide ((k:Int)<(a.length:Int)))=true):ψ nt f34 ⟨(lG l a c nn ll k),[(0,⟨[.nilS],0,false,0,0,true⟩),gY],.dead,gZ⟩ (.exit 0) ⟨[(4,.ptr 0 0 0),(5,.ptr 1 0 0)],[(0,⟨[.nilS],0,false,0,0,true⟩),gY],.dead,gZ⟩:=pN 34 [2,1019] 1 0 (.c b .nil) (.nil) d
theorem ai4 {nt:Nat} (m:84≤nt) (l:List Sg) (b:List Nd) (d nn:Bool) (ll:List (List Nat)) (k:Nat) (x:Nd) (r:List Nd) (n:List AV) (c:(ε ((δ (k:Int))*5) (a_ b))=qB x++a_ r) (a:(ε ((δ x.op)*2) xe)= [Xww (dX x.op)]++n) (h:lit true (dX x.op)=true) (j:(decide (((0:Nat):Int)≤x.op))=true) (i:(decide (x.op<((25:Nat):Int)))=true) (g:(decide (((0:Nat):Int)≤(k:Int)))=true) (o:(decide ((k:Int)<(b.length:Int)))=true) (f:lit true (decide ((k:Int)<(b.length:Int)))=true) (e:CO 68 [.sl (dU l) l.length d,.agg [ω x.op,.bool x.neg,.str x.num,.str x.den,.str x.name]] (.pan (.ifc 34 (ω 12)))):ψ nt f34 ⟨(lG l b d nn ll k),[(0,⟨[.nilS],0,false,0,0,true⟩),gY],.dead,gZ⟩ (.panic (.ifc 34 (ω 12))) ⟨[(4,.ptr 0 0 0),(5,.ptr 1 0 0)],[(0,⟨[.nilS],0,false,0,0,true⟩),gY],.dead,gZ⟩:=pN 34 [2,1019] 2 3 (.k 5 h (.k 1 j (.c i (.k 7 g (.c o (.c f .nil)))))) (.c e (.v 40 (.ppt a) (.v 35 (.ppt c) .nil))) m
theorem aiX {nt:Nat} (w:84≤nt) (l:List Sg) (a:List Nd) (b nn:Bool) (ll:List (List Nat)) (ts:List Ty) (k:Nat) (c q:Ty) (i:Bool) (x:Nd) (r:List Nd) (z u:List AV) (d:List Nat) (B:ω (γ .i64 ((k:Int)+((1:Nat):Int)))= ω ((k+1:Nat):Int)) (f:(ε ((δ (k:Int))*5) (a_ a))=qB x++a_ r) (e:(ε ((δ x.op)*2) xe)= [Xww (dX x.op)]++z) (g:(ε ((δ (k:Int))*1) (fO ll))= [Yq3 (aj d) d.length false]++u) (s:(Xqc (ts.length+1) 1099511627776)=true) (v:(Xqc (ts.length*3) (θ (iZ ts)))=true) (t:lit false (!i)=true) (h:(decide (((0:Nat):Int)≤(k:Int)))=true) (j:(decide ((k:Int)<(a.length:Int)))=true) (o:lit true (dX x.op)=true) (p:(decide (((0:Nat):Int)≤x.op))=true) (y:(decide (x.op<((25:Nat):Int)))=true) (C:lit true (decide ((k:Int)<(a.length:Int)))=true) (m:CO 68 [.sl (dU l) l.length b,.agg [ω x.op,.bool x.neg,.str x.num,.str x.den,.str x.name]] (.ret (.agg [.bool c.tr,ω c.m,ω c.d]))) (A:aN prog ap [] 84 (.block 2 (.loop (af 2 (ai f34)))) ⟨[(0,.sl (dU l) l.length b),(1,.sl (a_ a) a.length nn),(4,.ptr 0 0 0),(5,.ptr 1 0 0),(6,.dead),(7,.sl (fO ll) a.length true),(9,.sl xe 25 true),(10,ω (k:Int)),(11,.ptr 2 0 0),(12,.ptr 3 0 0),(13,.nilS),(15,.dead),(16,.dead),(17,.dead),(21,.dead),(30,.sl (a_ a) a.length nn),(31,ω (a.length:Int)),(32,ω (k:Int)),(33,.bool (decide ((k:Int)<(a.length:Int)))),(42,.bool (dX x.op)),(49,.sl (aj d) d.length false),(50,ω (d.length:Int)),(51,ω 0),(52,.dead),(76,.dead)],[(0,⟨[.ref 4 0 0 ts.length],0,false,0,0,false⟩),gY,(2,lJ x.op x),sV c,(4,jd ts)],.dead,gZ⟩ (.normal) ⟨(lG l a b nn ll k++ [(11,.ptr 2 0 0),(12,.ptr 3 0 0),(13,.nilS)]),[(0,⟨[.ref 4 0 0 ts.length],0,false,0,0,false⟩),gY,(2,lJ x.op x),sV c,(4,jd ts)],.dead,gZ⟩) (n:aN prog ap [] 84 (qV 19 (ai f34)) ⟨(lG l a b nn ll k++ [(11,.ptr 2 0 0),(12,.ptr 3 0 0),(13,.nilS)]),[(0,⟨[.ref 4 0 0 ts.length],0,false,0,0,false⟩),gY,(2,lJ x.op x),sV c,(4,jd ts)],.dead,gZ⟩ (.normal) ⟨(lG l a b nn ll k++ [(16,.ptr 4 0 0),(17,.bool i)]),[(0,⟨[.ref 5 0 0 ts.length],0,false,0,0,false⟩),gY,(2,lJ x.op x),sV c,(4,⟨[.bool q.tr,ω q.m,ω q.d],0,false,0,0,true⟩),(5,jd ts)],.dead,gZ⟩):ψ nt f34 ⟨(lG l a b nn ll k),[(0,⟨[.ref 2 0 0 ts.length],0,false,0,0,false⟩),gY,(2,jd ts)],.dead,gZ⟩ (.normal) ⟨[(0,.sl (dU l) l.length b),(1,.sl (a_ a) a.length nn),(4,.ptr 0 0 0),(5,.ptr 1 0 0),(7,.sl (fO ll) a.length true),(9,.sl xe 25 true),(30,.sl (a_ a) a.length nn),(31,ω (a.length:Int)),(32,ω (((k+1):Nat):Int))],[(0,⟨[.ref 2 0 0 (ts.length+1)],0,false,0,0,false⟩),gY,(2,⟨(iZ (ts++ [q])),0,false,0,3,true⟩)],.dead,gZ⟩:=pN 34 [2,1019] 3 3 (.k 2 s (.c v (.k 5 t (.k 1 h (.c j (.k 6 o (.k 1 p (.c y (.k 7 h (.c j (.c C .nil))))))))))) (.v 82 (.eq B) (.b 81 (Af ts q) (.l n (.l A (.v 48 (.ppt g) (.c m (.v 40 (.ppt e) (.v 35 (.ppt f) .nil)))))))) w
theorem aiY {nt:Nat} (u:84≤nt) (l:List Sg) (a:List Nd) (b nn:Bool) (ll:List (List Nat)) (ts:List Ty) (k:Nat) (q:Ty) (h:Bool) (x:Nd) (r:List Nd) (w s:List AV) (c:List Nat) (z:ω (γ .i64 ((k:Int)+((1:Nat):Int)))= ω ((k+1:Nat):Int)) (e:(ε ((δ (k:Int))*5) (a_ a))=qB x++a_ r) (d:(ε ((δ x.op)*2) xe)= [Xww (dX x.op)]++w) (f:(ε ((δ (k:Int))*1) (fO ll))= [Yq3 (aj c) c.length false]++s) (o:(Xqc (ts.length+1) 1099511627776)=true) (t:(Xqc (ts.length*3) (θ (iZ ts)))=true) (p:lit false (!h)=true) (g:(decide (((0:Nat):Int)≤(k:Int)))=true) (i:(decide ((k:Int)<(a.length:Int)))=true) (m:lit false (dX x.op)=true) (n:(decide (((0:Nat):Int)≤x.op))=true) (v:(decide (x.op<((25:Nat):Int)))=true) (A:lit true (decide ((k:Int)<(a.length:Int)))=true) (y:aN prog ap [] 84 (.block 2 (.loop (af 2 (ai f34)))) ⟨[(0,.sl (dU l) l.length b),(1,.sl (a_ a) a.length nn),(4,.ptr 0 0 0),(5,.ptr 1 0 0),(6,.dead),(7,.sl (fO ll) a.length true),(9,.sl xe 25 true),(10,ω (k:Int)),(11,.ptr 2 0 0),(12,.ptr 3 0 0),(13,.nilS),(15,.dead),(16,.dead),(17,.dead),(21,.dead),(30,.sl (a_ a) a.length nn),(31,ω (a.length:Int)),(32,ω (k:Int)),(33,.bool (decide ((k:Int)<(a.length:Int)))),(42,.bool (dX x.op)),(49,.sl (aj c) c.length false),(50,ω (c.length:Int)),(51,ω 0),(52,.dead),(76,.dead)],[(0,⟨[.ref 4 0 0 ts.length],0,false,0,0,false⟩),gY,(2,lJ x.op x),(3,⟨[.bool false,ω 0,ω 0],0,false,0,0,true⟩),(4,jd ts)],.dead,gZ⟩ (.normal) ⟨(lG l a b nn ll k++ [(11,.ptr 2 0 0),(12,.ptr 3 0 0),(13,.nilS)]),[(0,⟨[.ref 4 0 0 ts.length],0,false,0,0,false⟩),gY,(2,lJ x.op x),(3,⟨[.bool false,ω 0,ω 0],0,false,0,0,true⟩),(4,jd ts)],.dead,gZ⟩) (j:aN prog ap [] 84 (qV 19 (ai f34)) ⟨(lG l a b nn ll k++ [(11,.ptr 2 0 0),(12,.ptr 3 0 0),(13,.nilS)]),[(0,⟨[.ref 4 0 0 ts.length],0,false,0,0,false⟩),gY,(2,lJ x.op x),(3,⟨[.bool false,ω 0,ω 0],0,false,0,0,true⟩),(4,jd ts)],.dead,gZ⟩ (.normal) ⟨(lG l a b nn ll k++ [(16,.ptr 4 0 0),(17,.bool h)]),[(0,⟨[.ref 5 0 0 ts.length],0,false,0,0,false⟩),gY,(2,lJ x.op x),(3,⟨[.bool false,ω 0,ω 0],0,false,0,0,true⟩),(4,⟨[.bool q.tr,ω q.m,ω q.d],0,false,0,0,true⟩),(5,jd ts)],.dead,gZ⟩):ψ nt f34 ⟨(lG l a b nn ll k),[(0,⟨[.ref 2 0 0 ts.length],0,false,0,0,false⟩),gY,(2,jd ts)],.dead,gZ⟩ (.normal) ⟨[(0,.sl (dU l) l.length b),(1,.sl (a_ a) a.length nn),(4,.ptr 0 0 0),(5,.ptr 1 0 0),(7,.sl (fO ll) a.length true),(9,.sl xe 25 true),(30,.sl (a_ a) a.length nn),(31,ω (a.length:Int)),(32,ω (((k+1):Nat):Int))],[(0,⟨[.ref 2 0 0 (ts.length+1)],0,false,0,0,false⟩),gY,(2,⟨(iZ (ts++ [q])),0,false,0,3,true⟩)],.dead,gZ⟩:=pN 34 [2,1019] 3 1 (.k 2 o (.c t (.k 5 p (.k 1 g (.c i (.c m (.k 1 n (.c v (.k 7 g (.c i (.c A .nil))))))))))) (.v 82 (.eq z) (.b 81 (Af ts q) (.l j (.l y (.v 48 (.ppt f) (.v 40 (.ppt d) (.v 35 (.ppt e) .nil))))))) u
theorem aiZ {nt:Nat} (d:84≤nt) (l:List Sg) (a:List Nd) (c nn:Bool) (ll:List (List Nat)) (ts:List Ty) (k:Nat) (b:lit false (decide ((k:Int)<(a.length:Int)))=true):ψ nt f34 ⟨(lG l a c nn ll k),[(0,⟨[.ref 2 0 0 ts.length],0,false,0,0,false⟩),gY,(2,jd ts)],.dead,gZ⟩ (.exit 0) ⟨[(4,.ptr 0 0 0),(5,.ptr 1 0 0)],[(0,⟨[.ref 2 0 0 ts.length],0,false,0,0,false⟩),gY,(2,jd ts)],.dead,gZ⟩:=pN 34 [2,1019] 1 0 (.c b .nil) (.nil) d
theorem ai3 {nt:Nat} (m:84≤nt) (l:List Sg) (b:List Nd) (d nn:Bool) (ll:List (List Nat)) (ts:List Ty) (k:Nat) (x:Nd) (r:List Nd) (n:List AV) (c:(ε ((δ (k:Int))*5) (a_ b))=qB x++a_ r) (a:(ε ((δ x.op)*2) xe)= [Xww (dX x.op)]++n) (h:lit true (dX x.op)=true) (j:(decide (((0:Nat):Int)≤x.op))=true) (i:(decide (x.op<((25:Nat):Int)))=true) (g:(decide (((0:Nat):Int)≤(k:Int)))=true) (o:(decide ((k:Int)<(b.length:Int)))=true) (f:lit true (decide ((k:Int)<(b.length:Int)))=true) (e:CO 68 [.sl (dU l) l.length d,.agg [ω x.op,.bool x.neg,.str x.num,.str x.den,.str x.name]] (.pan (.ifc 34 (ω 12)))):ψ nt f34 ⟨(lG l b d nn ll k),[(0,⟨[.ref 2 0 0 ts.length],0,false,0,0,false⟩),gY,(2,jd ts)],.dead,gZ⟩ (.panic (.ifc 34 (ω 12))) ⟨[(4,.ptr 0 0 0),(5,.ptr 1 0 0)],[(0,⟨[.ref 2 0 0 ts.length],0,false,0,0,false⟩),gY,(2,jd ts)],.dead,gZ⟩:=pN 34 [2,1019] 2 3 (.k 5 h (.k 1 j (.c i (.k 7 g (.c o (.c f .nil)))))) (.c e (.v 40 (.ppt a) (.v 35 (.ppt c) .nil))) m
theorem aiT {nt:Nat} (v:84≤nt) (l:List Sg) (a:List Nd) (c nn:Bool) (ll:List (List Nat)) (ts own:List Ty) (k:Nat) (b q:Ty) (i:Bool) (x:Nd) (r:List Nd) (w u:List AV) (d:List Nat) (f:(ε ((δ (k:Int))*5) (a_ a))=qB x++a_ r) (e:(ε ((δ x.op)*2) xe)= [Xww (dX x.op)]++w) (g:(ε ((δ (k:Int))*1) (fO ll))= [Yq3 (aj d) d.length false]++u) (t:lit true (!i)=true) (j:(decide (((0:Nat):Int)≤(k:Int)))=true) (h:(decide ((k:Int)<(a.length:Int)))=true) (s:lit true (dX x.op)=true) (z:(decide (((0:Nat):Int)≤x.op))=true) (o:(decide (x.op<((25:Nat):Int)))=true) (p:lit true (decide ((k:Int)<(a.length:Int)))=true) (m:CO 68 [.sl (dU l) l.length c,.agg [ω x.op,.bool x.neg,.str x.num,.str x.den,.str x.name]] (.ret (.agg [.bool b.tr,ω b.m,ω b.d]))) (y:aN prog ap [] 84 (.block 2 (.loop (af 2 (ai f34)))) ⟨[(0,.sl (dU l) l.length c),(1,.sl (a_ a) a.length nn),(4,.ptr 0 0 0),(5,.ptr 1 0 0),(6,.dead),(7,.sl (fO ll) a.length true),(9,.sl xe 25 true),(10,ω (k:Int)),(11,.ptr 2 0 0),(12,.ptr 3 0 0),(13,.nilS),(15,.dead),(16,.dead),(17,.dead),(21,.dead),(30,.sl (a_ a) a.length nn),(31,ω (a.length:Int)),(32,ω (k:Int)),(33,.bool (decide ((k:Int)<(a.length:Int)))),(42,.bool (dX x.op)),(49,.sl (aj d) d.length false),(50,ω (d.length:Int)),(51,ω 0),(52,.dead),(76,.dead)],[(0,⟨[.ref 4 0 0 ts.length],0,false,0,0,false⟩),gY,(2,lJ x.op x),sV b,(4,jd ts)],.dead,gZ⟩ (.normal) ⟨(lG l a c nn ll k++ [(11,.ptr 2 0 0),(12,.ptr 3 0 0),(13,.ref 4 0 0 own.length)]),[(0,⟨[.ref 5 0 0 ts.length],0,false,0,0,false⟩),gY,(2,lJ x.op x),sV b,(4,jd own),(5,jd ts)],.dead,gZ⟩) (n:aN prog ap [] 84 (qV 19 (ai f34)) ⟨(lG l a c nn ll k++ [(11,.ptr 2 0 0),(12,.ptr 3 0 0),(13,.ref 4 0 0 own.length)]),[(0,⟨[.ref 5 0 0 ts.length],0,false,0,0,false⟩),gY,(2,lJ x.op x),sV b,(4,jd own),(5,jd ts)],.dead,gZ⟩ (.normal) ⟨(lG l a c nn ll k++ [(16,.ptr 5 0 0),(17,.bool i)]),[(0,⟨[.ref 6 0 0 ts.length],0,false,0,0,false⟩),gY,(2,lJ x.op x),sV b,(4,⟨(iZ own),0,true,(θ (iZ own)),3,true⟩),(5,⟨[.bool q.tr,ω q.m,ω q.d],0,false,0,0,true⟩),(6,jd ts)],.dead,gZ⟩):ψ nt f34 ⟨(lG l a c nn ll k),[(0,⟨[.ref 2 0 0 ts.length],0,false,0,0,false⟩),gY,(2,jd ts)],.dead,gZ⟩ (.panic (.ifc 34 (ω 13))) ⟨[(4,.ptr 0 0 0),(5,.ptr 1 0 0)],[(0,⟨[.ref 2 0 0 ts.length],0,false,0,0,false⟩),gY,(2,jd ts)],.dead,gZ⟩:=pN 34 [2,1019] 3 7 (.c t (.k 1 j (.c h (.k 6 s (.k 1 z (.c o (.k 7 j (.c h (.c p .nil))))))))) (.l n (.l y (.v 48 (.ppt g) (.c m (.v 40 (.ppt e) (.v 35 (.ppt f) .nil)))))) v
theorem aiU {nt:Nat} (w:84≤nt) (l:List Sg) (a:List Nd) (b nn:Bool) (ll:List (List Nat)) (ts own:List Ty) (k:Nat) (c q:Ty) (i:Bool) (x:Nd) (r:List Nd) (z u:List AV) (d:List Nat) (B:ω (γ .i64 ((k:Int)+((1:Nat):Int)))= ω ((k+1:Nat):Int)) (f:(ε ((δ (k:Int))*5) (a_ a))=qB x++a_ r) (e:(ε ((δ x.op)*2) xe)= [Xww (dX x.op)]++z) (g:(ε ((δ (k:Int))*1) (fO ll))= [Yq3 (aj d) d.length false]++u) (s:(Xqc (ts.length+1) 1099511627776)=true) (v:(Xqc (ts.length*3) (θ (iZ ts)))=true) (t:lit false (!i)=true) (h:(decide (((0:Nat):Int)≤(k:Int)))=true) (j:(decide ((k:Int)<(a.length:Int)))=true) (o:lit true (dX x.op)=true) (p:(decide (((0:Nat):Int)≤x.op))=true) (y:(decide (x.op<((25:Nat):Int)))=true) (C:lit true (decide ((k:Int)<(a.length:Int)))=true) (m:CO 68 [.sl (dU l) l.length b,.agg [ω x.op,.bool x.neg,.str x.num,.str x.den,.str x.name]] (.ret (.agg [.bool c.tr,ω c.m,ω c.d]))) (A:aN prog ap [] 84 (.block 2 (.loop (af 2 (ai f34)))) ⟨[(0,.sl (dU l) l.length b),(1,.sl (a_ a) a.length nn),(4,.ptr 0 0 0),(5,.ptr 1 0 0),(6,.dead),(7,.sl (fO ll) a.length true),(9,.sl xe 25 true),(10,ω (k:Int)),(11,.ptr 2 0 0),(12,.ptr 3 0 0),(13,.nilS),(15,.dead),(16,.dead),(17,.dead),(21,.dead),(30,.sl (a_ a) a.length nn),(31,ω (a.length:Int)),(32,ω (k:Int)),(33,.bool (decide ((k:Int)<(a.length:Int)))),(42,.bool (dX x.op)),(49,.sl (aj d) d.length false),(50,ω (d.length:Int)),(51,ω 0),(52,.dead),(76,.dead)],[(0,⟨[.ref 4 0 0 ts.length],0,false,0,0,false⟩),gY,(2,lJ x.op x),sV c,(4,jd ts)],.dead,gZ⟩ (.normal) ⟨(lG l a b nn ll k++ [(11,.ptr 2 0 0),(12,.ptr 3 0 0),(13,.ref 4 0 0 own.length)]),[(0,⟨[.ref 5 0 0 ts.length],0,false,0,0,false⟩),gY,(2,lJ x.op x),sV c,(4,jd own),(5,jd ts)],.dead,gZ⟩) (n:aN prog ap [] 84 (qV 19 (ai f34)) ⟨(lG l a b nn ll k++ [(11,.ptr 2 0 0),(12,.ptr 3 0 0),(13,.ref 4 0 0 own.length)]),[(0,⟨[.ref 5 0 0 ts.length],0,false,0,0,false⟩),gY,(2,lJ x.op x),sV c,(4,jd own),(5,jd ts)],.dead,gZ⟩ (.normal) ⟨(lG l a b nn ll k++ [(16,.ptr 5 0 0),(17,.bool i)]),[(0,⟨[.ref 6 0 0 ts.length],0,false,0,0,false⟩),gY,(2,lJ x.op x),sV c,(4,⟨(iZ own),0,true,(θ (iZ own)),3,true⟩),(5,⟨[.bool q.tr,ω q.m,ω q.d],0,false,0,0,true⟩),(6,jd ts)],.dead,gZ⟩):ψ nt f34 ⟨(lG l a b nn ll k),[(0,⟨[.ref 2 0 0 ts.length],0,false,0,0,false⟩),gY,(2,jd ts)],.dead,gZ⟩ (.normal) ⟨[(0,.sl (dU l) l.length b),(1,.sl (a_ a) a.length nn),(4,.ptr 0 0 0),(5,.ptr 1 0 0),(7,.sl (fO ll) a.length true),(9,.sl xe 25 true),(30,.sl (a_ a) a.length nn),(31,ω (a.length:Int)),(32,ω (((k+1):Nat):Int))],[(0,⟨[.ref 2 0 0 (ts.length+1)],0,false,0,0,false⟩),gY,(2,⟨(iZ (ts++ [q])),0,false,0,3,true⟩)],.dead,gZ⟩:=pN 34 [2,1019] 3 3 (.k 2 s (.c v (.k 5 t (.k 1 h (.c j (.k 6 o (.k 1 p (.c y (.k 7 h (.c j (.c C .nil))))))))))) (.v 82 (.eq B) (.b 81 (Af ts q) (.l n (.l A (.v 48 (.ppt g) (.c m (.v 40 (.ppt e) (.v 35 (.ppt f) .nil)))))))) w
theorem aiV {nt:Nat} (t:84≤nt) (l:List Sg) (a:List Nd) (b nn:Bool) (ll:List (List Nat)) (ts own:List Ty) (k:Nat) (q:Ty) (h:Bool) (x:Nd) (r:List Nd) (u s:List AV) (c:List Nat) (e:(ε ((δ (k:Int))*5) (a_ a))=qB x++a_ r) (d:(ε ((δ x.op)*2) xe)= [Xww (dX x.op)]++u) (f:(ε ((δ (k:Int))*1) (fO ll))= [Yq3 (aj c) c.length false]++s) (p:lit true (!h)=true) (i:(decide (((0:Nat):Int)≤(k:Int)))=true) (g:(decide ((k:Int)<(a.length:Int)))=true) (o:lit false (dX x.op)=true) (w:(decide (((0:Nat):Int)≤x.op))=true) (m:(decide (x.op<((25:Nat):Int)))=true) (n:lit true (decide ((k:Int)<(a.length:Int)))=true) (v:aN prog ap [] 84 (.block 2 (.loop (af 2 (ai f34)))) ⟨[(0,.sl (dU l) l.length b),(1,.sl (a_ a) a.length nn),(4,.ptr 0 0 0),(5,.ptr 1 0 0),(6,.dead),(7,.sl (fO ll) a.length true),(9,.sl xe 25 true),(10,ω (k:Int)),(11,.ptr 2 0 0),(12,.ptr 3 0 0),(13,.nilS),(15,.dead),(16,.dead),(17,.dead),(21,.dead),(30,.sl (a_ a) a.length nn),(31,ω (a.length:Int)),(32,ω (k:Int)),(33,.bool (decide ((k:Int)<(a.length:Int)))),(42,.bool (dX x.op)),(49,.sl (aj c) c.length false),(50,ω (c.length:Int)),(51,ω 0),(52,.dead),(76,.dead)],[(0,⟨[.ref 4 0 0 ts.length],0,false,0,0,false⟩),gY,(2,lJ x.op x),(3,⟨[.bool false,ω 0,ω 0],0,false,0,0,true⟩),(4,jd ts)],.dead,gZ⟩ (.normal) ⟨(lG l a b nn ll k++ [(11,.ptr 2 0 0),(12,.ptr 3 0 0),(13,.ref 4 0 0 own.length)]),[(0,⟨[.ref 5 0 0 ts.length],0,false,0,0,false⟩),gY,(2,lJ x.op x),(3,⟨[.bool false,ω 0,ω 0],0,false,0,0,true⟩),(4,jd own),(5,jd ts)],.dead,gZ⟩) (j:aN prog ap [] 84 (qV 19 (ai f34)) ⟨(lG l a b nn ll k++ [(11,.ptr 2 0 0),(12,.ptr 3 0 0),(13,.ref 4 0 0 own.length)]),[(0,⟨[.ref 5 0 0 ts.length],0,false,0,0,false⟩),gY,(2,lJ x.op x),(3,⟨[.bool false,ω 0,ω 0],0,false,0,0,true⟩),(4,jd own),(5,jd ts)],.dead,gZ⟩ (.normal) ⟨(lG l a b nn ll k++ [(16,.ptr 5 0 0),(17,.bool h)]),[(0,⟨[.ref 6 0 0 ts.length],0,false,0,0,false⟩),gY,(2,lJ x.op x),(3,⟨[.bool false,ω 0,ω 0],0,false,0,0,true⟩),(4,⟨(iZ own),0,true,(θ (iZ own)),3,true⟩),(5,⟨[.bool q.tr,ω q.m,ω q.d],0,false,0,0,true⟩),(6,jd ts)],.dead,gZ⟩):ψ nt f34 ⟨(lG l a b nn ll k),[(0,⟨[.ref 2 0 0 ts.length],0,false,0,0,false⟩),gY,(2,jd ts)],.dead,gZ⟩ (.panic (.ifc 34 (ω 13))) ⟨[(4,.ptr 0 0 0),(5,.ptr 1 0 0)],[(0,⟨[.ref 2 0 0 ts.length],0,false,0,0,false⟩),gY,(2,jd ts)],.dead,gZ⟩:=pN 34 [2,1019] 3 5 (.c p (.k 1 i (.c g (.c o (.k 1 w (.c m (.k 7 i (.c g (.c n .nil))))))))) (.l j (.l v (.v 48 (.ppt f) (.v 40 (.ppt d) (.v 35 (.ppt e) .nil))))) t
theorem aiW {nt:Nat} (u:84≤nt) (l:List Sg) (a:List Nd) (b nn:Bool) (ll:List (List Nat)) (ts own:List Ty) (k:Nat) (q:Ty) (h:Bool) (x:Nd) (r:List Nd) (w s:List AV) (c:List Nat) (z:ω (γ .i64 ((k:Int)+((1:Nat):Int)))= ω ((k+1:Nat):Int)) (e:(ε ((δ (k:Int))*5) (a_ a))=qB x++a_ r) (d:(ε ((δ x.op)*2) xe)= [Xww (dX x.op)]++w) (f:(ε ((δ (k:Int))*1) (fO ll))= [Yq3 (aj c) c.length false]++s) (o:(Xqc (ts.length+1) 1099511627776)=true) (t:(Xqc (ts.length*3) (θ (iZ ts)))=true) (p:lit false (!h)=true) (g:(decide (((0:Nat):Int)≤(k:Int)))=true) (i:(decide ((k:Int)<(a.length:Int)))=true) (m:lit false (dX x.op)=true) (n:(decide (((0:Nat):Int)≤x.op))=true) (v:(decide (x.op<((25:Nat):Int)))=true) (A:lit true (decide ((k:Int)<(a.length:Int)))=true) (y:aN prog ap [] 84 (.block 2 (.loop (af 2 (ai f34)))) ⟨[(0,.sl (dU l) l.length b),(1,.sl (a_ a) a.length nn),(4,.ptr 0 0 0),(5,.ptr 1 0 0),(6,.dead),(7,.sl (fO ll) a.length true),(9,.sl xe 25 true),(10,ω (k:Int)),(11,.ptr 2 0 0),(12,.ptr 3 0 0),(13,.nilS),(15,.dead),(16,.dead),(17,.dead),(21,.dead),(30,.sl (a_ a) a.length nn),(31,ω (a.length:Int)),(32,ω (k:Int)),(33,.bool (decide ((k:Int)<(a.length:Int)))),(42,.bool (dX x.op)),(49,.sl (aj c) c.length false),(50,ω (c.length:Int)),(51,ω 0),(52,.dead),(76,.dead)],[(0,⟨[.ref 4 0 0 ts.length],0,false,0,0,false⟩),gY,(2,lJ x.op x),(3,⟨[.bool false,ω 0,ω 0],0,false,0,0,true⟩),(4,jd ts)],.dead,gZ⟩ (.normal) ⟨(lG l a b nn ll k++ [(11,.ptr 2 0 0),(12,.ptr 3 0 0),(13,.ref 4 0 0 own.length)]),[(0,⟨[.ref 5 0 0 ts.length],0,false,0,0,false⟩),gY,(2,lJ x.op x),(3,⟨[.bool false,ω 0,ω 0],0,false,0,0,true⟩),(4,jd own),(5,jd ts)],.dead,gZ⟩) (j:aN prog ap [] 84 (qV 19 (ai f34)) ⟨(lG l a b nn ll k++ [(11,.ptr 2 0 0),(12,.ptr 3 0 0),(13,.ref 4 0 0 own.length)]),[(0,⟨[.ref 5 0 0 ts.length],0,false,0,0,false⟩),gY,(2,lJ x.op x),(3,⟨[.bool false,ω 0,ω 0],0,false,0,0,true⟩),(4,jd own),(5,jd ts)],.dead,gZ⟩ (.normal) ⟨(lG l a b nn ll k++ [(16,.ptr 5 0 0),(17,.bool h)]),[(0,⟨[.ref 6 0 0 ts.length],0,false,0,0,false⟩),gY,(2,lJ x.op x),(3,⟨[.bool false,ω 0,ω 0],0,false,0,0,true⟩),(4,⟨(iZ own),0,true,(θ (iZ own)),3,true⟩),(5,⟨[.bool q.tr,ω q.m,ω q.d],0,false,0,0,true⟩),(6,jd ts)],.dead,gZ⟩):ψ nt f34 ⟨(lG l a b nn ll k),[(0,⟨[.ref 2 0 0 ts.length],0,false,0,0,false⟩),gY,(2,jd ts)],.dead,gZ⟩ (.normal) ⟨[(0,.sl (dU l) l.length b),(1,.sl (a_ a) a.length nn),(4,.ptr 0 0 0),(5,.ptr 1 0 0),(7,.sl (fO ll) a.length true),(9,.sl xe 25 true),(30,.sl (a_ a) a.length nn),(31,ω (a.length:Int)),(32,ω (((k+1):Nat):Int))],[(0,⟨[.ref 2 0 0 (ts.length+1)],0,false,0,0,false⟩),gY,(2,⟨(iZ (ts++ [q])),0,false,0,3,true⟩)],.dead,gZ⟩:=pN 34 [2,1019] 3 1 (.k 2 o (.c t (.k 5 p (.k 1 g (.c i (.c m (.k 1 n (.c v (.k 7 g (.c i (.c A .nil))))))))))) (.v 82 (.eq z) (.b 81 (Af ts q) (.l j (.l y (.v 48 (.ppt f) (.v 40 (.ppt d) (.v 35 (.ppt e) .nil))))))) u
theorem ag_ {op:Int} (e:1≤op) (d:op≤8) (l:List Sg) (c:List Nd) (b nn:Bool) (ll:List (List Nat)) (k:Nat) (x:Nd) (a:Ty) (ts own:List Ty):aN prog ap [] 84 (qV 19 (ai f34)) (aie op l c b nn ll k x a ts own) .normal (aib op l c b nn ll k x a ts own (dP op.toNat a []).2 (dP op.toNat a []).1):=by
 have:op=1∨op=2∨op=3∨op=4∨op=5∨op=6∨op=7∨op=8:=by omega
 rcases this with rfl|rfl|rfl|rfl|rfl|rfl|rfl|rfl
 ·exact aoO l c b nn ll k x a ts own _ _ ((ais false a).args (bD.cons (aQ.refl _) (bD.cons (aQ.nilS false rfl) (bD.refl _))))
 ·exact aoP l c b nn ll k x a ts own _ _ ((aiD false a).args (bD.cons (aQ.refl _) (bD.cons (aQ.nilS false rfl) (bD.refl _))))
 ·exact aoQ l c b nn ll k x a ts own _ _ ((aiJ false a).args (bD.cons (aQ.refl _) (bD.cons (aQ.nilS false rfl) (bD.refl _))))
 ·exact aoR l c b nn ll k x a ts own _ _ ((aiK false a).args (bD.cons (aQ.refl _) (bD.cons (aQ.nilS false rfl) (bD.refl _))))
 ·exact aoS l c b nn ll k x a ts own _ _ ((aiL false a).args (bD.cons (aQ.refl _) (bD.cons (aQ.nilS false rfl) (bD.refl _))))
 ·exact aoT l c b nn ll k x a ts own _ _ ((aiM false a).args (bD.cons (aQ.refl _) (bD.cons (aQ.nilS false rfl) (bD.refl _))))
 ·exact aoU l c b nn ll k x a ts own _ _ ((aiN false a).args (bD.cons (aQ.refl _) (bD.cons (aQ.nilS false rfl) (bD.refl _))))
 ·exact aoV l c b nn ll k x a ts own _ _ ((aiO false a).args (bD.cons (aQ.refl _) (bD.cons (aQ.nilS false rfl) (bD.refl _))))
theorem ag9 {op:Int} (e:1≤op) (d:op≤8) (l:List Sg) (c:List Nd) (b nn:Bool) (ll:List (List Nat)) (k:Nat) (x:Nd) (a:Ty) (ts own:List Ty):aN prog ap [] 84 (qV 19 (ai f34)) (aid op l c b nn ll k x a ts own) .normal (aia op l c b nn ll k x a ts own (dP op.toNat a []).2 (dP op.toNat a []).1):=by
 have:op=1∨op=2∨op=3∨op=4∨op=5∨op=6∨op=7∨op=8:=by omega
 rcases this with rfl|rfl|rfl|rfl|rfl|rfl|rfl|rfl
 ·exact aoG l c b nn ll k x a ts own _ _ ((ais false a).args (bD.cons (aQ.refl _) (bD.cons (aQ.nilS false rfl) (bD.refl _))))
 ·exact aoH l c b nn ll k x a ts own _ _ ((aiD false a).args (bD.cons (aQ.refl _) (bD.cons (aQ.nilS false rfl) (bD.refl _))))
 ·exact aoI l c b nn ll k x a ts own _ _ ((aiJ false a).args (bD.cons (aQ.refl _) (bD.cons (aQ.nilS false rfl) (bD.refl _))))
 ·exact aoJ l c b nn ll k x a ts own _ _ ((aiK false a).args (bD.cons (aQ.refl _) (bD.cons (aQ.nilS false rfl) (bD.refl _))))
 ·exact aoK l c b nn ll k x a ts own _ _ ((aiL false a).args (bD.cons (aQ.refl _) (bD.cons (aQ.nilS false rfl) (bD.refl _))))
 ·exact aoL l c b nn ll k x a ts own _ _ ((aiM false a).args (bD.cons (aQ.refl _) (bD.cons (aQ.nilS false rfl) (bD.refl _))))
 ·exact aoM l c b nn ll k x a ts own _ _ ((aiN false a).args (bD.cons (aQ.refl _) (bD.cons (aQ.nilS false rfl) (bD.refl _))))
 ·exact aoN l c b nn ll k x a ts own _ _ ((aiO false a).args (bD.cons (aQ.refl _) (bD.cons (aQ.nilS false rfl) (bD.refl _))))
theorem ag8 {op:Int} (n:9≤op) (m:op≤24) (l:List Sg) (i:List Nd) (g nn:Bool) (ll:List (List Nat)) (k:Nat) (x:Nd) (d:Ty) (ts own:List Ty) (j:own.length=dM op) (f:∀ t ∈ own,aS t=true):aN prog ap [] 84 (qV 19 (ai f34)) (aic op l i g nn ll k x d ts own) .normal (ah_ op l i g nn ll k x d ts own (dP op.toNat d own).2 (dP op.toNat d own).1):=by
 have:op=9∨op=10∨op=11∨op=12∨op=13∨op=14∨op=15∨op=16∨op=17∨op=18∨op=19∨op=20∨op=21∨op=22∨op=23∨op=24:=by omega
 rcases this with rfl|rfl|rfl|rfl|rfl|rfl|rfl|rfl|rfl|rfl|rfl|rfl|rfl|rfl|rfl|rfl
 ·obtain ⟨a,b,rfl⟩:=r_ j rfl;have e:dP 9 d [a,b]=aJ 9 d [a,b]:=Xzu (Y2 d a b (f a (by simp)) (f b (by simp))).1 (Y2 d a b (f a (by simp)) (f b (by simp))).2;have h:=aoF l i g nn ll k x d ts [a,b] _ _ (anz true d a b);rw [← e] at h;exact h
 ·obtain ⟨a,b,rfl⟩:=r_ j rfl;have e:dP 10 d [a,b]=aJ 10 d [a,b]:=Xzu (SC d a b (f a (by simp)) (f b (by simp))).1 (SC d a b (f a (by simp)) (f b (by simp))).2;have h:=alZ l i g nn ll k x d ts [a,b] _ _ (ait true d a b);rw [← e] at h;exact h
 ·obtain ⟨a,b,rfl⟩:=r_ j rfl;have e:dP 11 d [a,b]=aJ 11 d [a,b]:=Xzu (SE d a b (f a (by simp)) (f b (by simp))).1 (SE d a b (f a (by simp)) (f b (by simp))).2;have h:=al0 l i g nn ll k x d ts [a,b] _ _ (aiu true d a b);rw [← e] at h;exact h
 ·obtain ⟨a,b,rfl⟩:=r_ j rfl;have e:dP 12 d [a,b]=aJ 12 d [a,b]:=Xzu (SG d a b (f a (by simp)) (f b (by simp))).1 (SG d a b (f a (by simp)) (f b (by simp))).2;have h:=al1 l i g nn ll k x d ts [a,b] _ _ (aiv true d a b);rw [← e] at h;exact h
 ·obtain ⟨a,b,rfl⟩:=r_ j rfl;have e:dP 13 d [a,b]=aJ 13 d [a,b]:=Xzu (SH d a b (f a (by simp)) (f b (by simp))).1 (SH d a b (f a (by simp)) (f b (by simp))).2;have h:=al2 l i g nn ll k x d ts [a,b] _ _ (aiw true d a b);rw [← e] at h;exact h
 ·obtain ⟨a,b,rfl⟩:=r_ j rfl;have e:dP 14 d [a,b]=aJ 14 d [a,b]:=Xzu (SI d a b (f a (by simp)) (f b (by simp))).1 (SI d a b (f a (by simp)) (f b (by simp))).2;have h:=al3 l i g nn ll k x d ts [a,b] _ _ (aix true d a b);rw [← e] at h;exact h
 ·obtain ⟨a,b,c,rfl⟩:=akk j rfl;have e:dP 15 d [a,b,c]=aJ 15 d [a,b,c]:=Xzu (SK d a b c (f a (by simp)) (f b (by simp)) (f c (by simp))).1 (SK d a b c (f a (by simp)) (f b (by simp)) (f c (by simp))).2;have h:=al4 l i g nn ll k x d ts [a,b,c] _ _ (aiy true d a b c);rw [← e] at h;exact h
 ·obtain ⟨a,b,rfl⟩:=r_ j rfl;have e:dP 16 d [a,b]=aJ 16 d [a,b]:=Xzu (SL d a b (f a (by simp)) (f b (by simp))).1 (SL d a b (f a (by simp)) (f b (by simp))).2;have h:=al5 l i g nn ll k x d ts [a,b] _ _ (aiz true d a b);rw [← e] at h;exact h
 ·obtain ⟨a,b,rfl⟩:=r_ j rfl;have e:dP 17 d [a,b]=aJ 17 d [a,b]:=Xzu (SN d a b (f a (by simp)) (f b (by simp))).1 (SN d a b (f a (by simp)) (f b (by simp))).2;have h:=al6 l i g nn ll k x d ts [a,b] _ _ (aiA true d a b);rw [← e] at h;exact h
 ·obtain ⟨a,b,rfl⟩:=r_ j rfl;have e:dP 18 d [a,b]=aJ 18 d [a,b]:=Xzu (SQ d a b (f a (by simp)) (f b (by simp))).1 (SQ d a b (f a (by simp)) (f b (by simp))).2;have h:=al7 l i g nn ll k x d ts [a,b] _ _ (aiB true d a b);rw [← e] at h;exact h
 ·obtain ⟨a,b,rfl⟩:=r_ j rfl;have e:dP 19 d [a,b]=aJ 19 d [a,b]:=Xzu (SS d a b (f a (by simp)) (f b (by simp))).1 (SS d a b (f a (by simp)) (f b (by simp))).2;have h:=al8 l i g nn ll k x d ts [a,b] _ _ (aiC true d a b);rw [← e] at h;exact h
 ·obtain ⟨a,rfl⟩:=Ho j rfl;have e:dP 20 d [a]=aJ 20 d [a]:=Xzu (SV d a (f a (by simp))).1 (SV d a (f a (by simp))).2;have h:=al9 l i g nn ll k x d ts [a] _ _ (aiE true d a);rw [← e] at h;exact h
 ·obtain ⟨a,rfl⟩:=Ho j rfl;have e:dP 21 d [a]=aJ 21 d [a]:=Xzu (SX d a (f a (by simp))).1 (SX d a (f a (by simp))).2;have h:=al_ l i g nn ll k x d ts [a] _ _ (aiF true d a);rw [← e] at h;exact h
 ·obtain ⟨a,rfl⟩:=Ho j rfl;have e:dP 22 d [a]=aJ 22 d [a]:=Xzu (SY d a (f a (by simp))).1 (SY d a (f a (by simp))).2;have h:=ama l i g nn ll k x d ts [a] _ _ (aiG true d a);rw [← e] at h;exact h
 ·obtain ⟨a,rfl⟩:=Ho j rfl;have e:dP 23 d [a]=aJ 23 d [a]:=Xzu (S9 d a (f a (by simp))).1 (S9 d a (f a (by simp))).2;have h:=amb l i g nn ll k x d ts [a] _ _ (aiH true d a);rw [← e] at h;exact h
 ·obtain ⟨a,rfl⟩:=Ho j rfl;have e:dP 24 d [a]=aJ 24 d [a]:=Xzu (S_ d a (f a (by simp))).1 (S_ d a (f a (by simp))).2;have h:=amc l i g nn ll k x d ts [a] _ _ (aiI true d a);rw [← e] at h;exact h
theorem PZ {op:Int} (i:1≤op) (h:op≤24) (f:Ty) (own:List Ty) (d:own.length=dM op) (e:∀ t ∈ own,aS t=true) (hs:aS f=true) (g:(dP op.toNat f own).1=true):aS (dP op.toNat f own).2=true:=by
 rcases zS i h with rfl|rfl|rfl|rfl|rfl|rfl|rfl|rfl|rfl|rfl|rfl|rfl|rfl|rfl|rfl|rfl|rfl|rfl|rfl|rfl|rfl|rfl|rfl|rfl
 ·obtain rfl:=Md d rfl;exact rfl
 ·obtain rfl:=Md d rfl;exact rfl
 ·obtain rfl:=Md d rfl;exact rfl
 ·obtain rfl:=Md d rfl;exact rfl
 ·obtain rfl:=Md d rfl;exact hs
 ·obtain rfl:=Md d rfl;exact hs
 ·obtain rfl:=Md d rfl;exact hs
 ·obtain rfl:=Md d rfl;exact hs
 ·obtain ⟨a,b,rfl⟩:=r_ d rfl;exact e a (by simp)
 ·obtain ⟨a,b,rfl⟩:=r_ d rfl;exact e a (by simp)
 ·obtain ⟨a,b,rfl⟩:=r_ d rfl;exact ((ο _ _).mp g).2
 ·obtain ⟨a,b,rfl⟩:=r_ d rfl;exact ((ο _ _).mp g).2
 ·obtain ⟨a,b,rfl⟩:=r_ d rfl;exact e a (by simp)
 ·obtain ⟨a,b,rfl⟩:=r_ d rfl;exact e a (by simp)
 ·obtain ⟨a,b,c,rfl⟩:=akk d rfl;exact e b (by simp)
 ·obtain ⟨a,b,rfl⟩:=r_ d rfl;exact rfl
 ·obtain ⟨a,b,rfl⟩:=r_ d rfl;exact rfl
 ·obtain ⟨a,b,rfl⟩:=r_ d rfl;exact rfl
 ·obtain ⟨a,b,rfl⟩:=r_ d rfl;exact rfl
 ·obtain ⟨a,rfl⟩:=Ho d rfl;exact rfl
 ·obtain ⟨a,rfl⟩:=Ho d rfl;exact e a (by simp)
 ·obtain ⟨a,rfl⟩:=Ho d rfl;exact e a (by simp)
 ·obtain ⟨a,rfl⟩:=Ho d rfl;exact e a (by simp)
 ·obtain ⟨a,rfl⟩:=Ho d rfl;exact hs
theorem LW {l:List Sg} {op:Int} {b:List UInt8} {t:Ty} (h:fC l op b=some t):aS t=true:=by
 unfold fC at h;cases a:l.find? fun s=>jL s op b with
 |none=>rw [a] at h;cases h
 |some s=>
  rw [a] at h;have:=Xvd a;simp only [Option.map_some,Option.some.injEq] at h;subst h;simp only [jL,ο] at this;exact this.2.2.2.1
theorem ZP:aS zT=true:=by simp [aS,zT,jv]
theorem Dq (l:List Sg) (op:Int) (a:List UInt8):aS ((fC l op a).getD zT)=true:=by
 cases h:fC l op a with
 |none=>exact ZP
 |some t=>exact LW h
theorem Qp {l:List Sg} {x:Nd} {own:List Ty} (g:1≤x.op) (d:x.op≤24) (f:own.length=dM x.op) (e:∀ t ∈ own,aS t=true) (h:(gU l x own).2=0):aS (gU l x own).1=true:=by
 unfold gU ofR at h ⊢;have c:=PZ g d ((fC l x.op x.name).getD zT) own f e (Dq l x.op x.name);cases a:dX x.op && !(fC l x.op x.name).isSome with
 |true=>rw [a] at h;simp at h
 |false=>
  rw [a] at h;cases b:(dP x.op.toNat ((fC l x.op x.name).getD zT) own).1 with
  |true=>simp only [cond_false,cond_true];exact c b
  |false=>rw [b] at h;simp at h
theorem ac1 {op:Int} (b:1≤op) (a:op≤24):∃ rs,ε ((δ op)*2) xe= [Xww (dX op)]++rs:=by
 rcases zS b a with rfl|rfl|rfl|rfl|rfl|rfl|rfl|rfl|rfl|rfl|rfl|rfl|rfl|rfl|rfl|rfl|rfl|rfl|rfl|rfl|rfl|rfl|rfl|rfl<;>exact ⟨_,rfl⟩
theorem Z8 {ll:List (List Nat)} {k:Nat} (h:k<ll.length):ε (δ (k:Int)*1) (fO ll)= [Yq3 (aj (ll.getD k [])) (ll.getD k []).length false]++fO (ll.drop (k+1)):=by
 unfold fO;rw [aK,Ξ,← Xju,Xxf h,κ,π h];rfl
theorem L9 {a:List Nat} {i:Nat} (h:i<a.length):ε (δ (i:Int)*1) (aj a)= [ω ((a.getD i 0:Nat):Int)]++aj (a.drop (i+1)):=by
 unfold aj;rw [aK,Ξ,← Xju,Xxf h,κ,π h];rfl
def ciE (l:List Sg) (ns:List Nd) (nl nn:Bool) (ll:List (List Nat)) (k:Nat) (ag:List Nat) (i:Nat) (v:AV):iT:=lG l ns nl nn ll k++ [(11,.ptr 2 0 0),(12,.ptr 3 0 0),(49,.sl (aj ag) ag.length false),(50,ω (ag.length:Int)),(13,v),(51,ω (i:Int))]
def ciH (x:Nd) (sg:Ty) (ts:List Ty):List Ty→Hp
 | []=> [(0,⟨[.ref 4 0 0 ts.length],0,false,0,0,false⟩),gY,(2,lJ x.op x),sV sg,(4,jd ts)]
 |y::r=> [(0,⟨[.ref 5 0 0 ts.length],0,false,0,0,false⟩),gY,(2,lJ x.op x),sV sg,(4,jd (y::r)),(5,jd ts)]
def ciV:List Ty→AV
 | []=> .nilS
 |y::r=> .ref 4 0 0 (y::r).length
theorem WE {x:Nd} {a:Ty} {ts own:List Ty} (h:own ≠ []):ciH x a ts own= [(0,⟨[.ref 5 0 0 ts.length],0,false,0,0,false⟩),gY,(2,lJ x.op x),sV a,(4,jd own),(5,jd ts)]:=by cases own with|nil=>exact absurd rfl h|cons _ _=>rfl
theorem WG {own:List Ty} (h:own ≠ []):ciV own= .ref 4 0 0 own.length:=by cases own with|nil=>exact absurd rfl h|cons _ _=>rfl
def aar (l:List Sg) (ns:List Nd) (nl nn:Bool) (ll:List (List Nat)) (k:Nat) (ag:List Nat) (x:Nd) (sg:Ty) (ts:List Ty) (p:Nat × List Ty):St:=⟨ciE l ns nl nn ll k ag p.1 (ciV p.2),ciH x sg ts p.2,.dead,gZ⟩
def WF (l:List Sg) (ns:List Nd) (nl nn:Bool) (ll:List (List Nat)) (k:Nat) (x:Nd) (sg:Ty) (ts own:List Ty):St:=⟨lG l ns nl nn ll k++ [(11,.ptr 2 0 0),(12,.ptr 3 0 0),(13,ciV own)],ciH x sg ts own,.dead,gZ⟩
theorem aas {nt:Nat} (p:84≤nt) (l:List Sg) (g:List Nd) (f nn:Bool) (ll:List (List Nat)) (k:Nat) (a:List Nat) (x:Nd) (m:Ty) (ts:List Ty) (z:a.length<2^38) (u:∀ j ∈ a,j<ts.length):∀ (d i:Nat) (own:List Ty),i+d=a.length→own.length≤i→aC prog ap [] nt (af 2 (ai f34)) (fun _=> .exit 2) (aar l g f nn ll k a x m ts) (WF l g f nn ll k x m ts) (i,own) (own++fQ ts (a.drop i)):=by
 intro d
 induction d with
 |zero=>
  intro i own v t;rw [Xx8 (by omega)];simp only [fQ,Xxt,Γ];have s:i=a.length:=by omega
  subst s;have o:lit false (decide ((a.length:Int)<(a.length:Int)))=true:=by rw [bK];simp [lit]
  refine .done ?_;cases own with
  |nil=>exact aim p l g f nn ll k a a.length x m ts o
  |cons y r=>exact aik p l g f nn ll k a a.length x m ts (y::r) o
 | succ d ih=>
  intro i own v t;have b:i<a.length:=by omega
  have q:a.getD i 0 ∈ a:=by rw [κ,π b];exact Xxv b
  have n:=u _ q;have hnext:=ih (i+1) (own++ [ts.getD (a.getD i 0) zT]) (by omega) (by simp;omega);have e:a.drop i=a.getD i 0::a.drop (i+1):=by
   rw [Xxf b,κ,π b];rfl
  have w:own++fQ ts (a.drop i)=own++ [ts.getD (a.getD i 0) zT]++fQ ts (a.drop (i+1)):=by rw [e];simp [fQ]
  rw [w];refine .next ?_ hnext
  have c:own++ [ts.getD (a.getD i 0) zT] ≠ []:=by simp
  have o:lit true (decide ((i:Int)<(a.length:Int)))=true:=by rw [bK];simp [lit];omega
  unfold aar;dsimp only;rw [WG c,WE c];cases own with
  |nil=>exact ail p l g f nn ll k a i x m ts (a.getD i 0) _ _ _ (xk (by omega)) (L9 b) (Gz n) (Yq0 (by omega)) (Yq0 (by omega)) (Yq0 (by omega)) (Yq0 (by omega)) o
  |cons y r=>
   have h:=aij p l g f nn ll k a i x m ts (y::r) (a.getD i 0) _ _ _ (xk (by omega)) (L9 b) (Gz n) (by simp at t ⊢;omega) (by rw [wW];simp) (Yq0 (by omega)) (Yq0 (by omega)) (Yq0 (by omega)) (Yq0 (by omega)) o;rw [η,φ];exact h
theorem aeV (l:List Sg) (a:List Nd) (c nn:Bool) (ll:List (List Nat)) (ts:List Ty) (w e:Int) (b:lit true (!(w==((0:Nat):Int)))=true) (d:CO 44 [.sl (a_ a) a.length nn] (.ret (ω w))):CO 34 [.sl (dU l) l.length c,.sl (a_ a) a.length nn] (.ret (.tup [.nilS,ω w])):=pK [0] 1 1 (.k 4 b .nil) (.c d .nil)
theorem aeW (l:List Sg) (a:List Nd) (b nn:Bool) (ll:List (List Nat)) (ts:List Ty) (w e:Int) (c:lit false (!(w==((0:Nat):Int)))=true) (d:CO 44 [.sl (a_ a) a.length nn] (.ret (ω w))) (h:CO 24 [.sl (a_ a) a.length nn] (.ret (.tup [.sl (fO ll) a.length true,.bool true]))) (f:CO 67 [] (.ret (.sl xe 25 true))) (g:aN prog ap [] 84 (.block 0 (.loop (af 0 (ai f34)))) ⟨[(0,.sl (dU l) l.length b),(1,.sl (a_ a) a.length nn),(4,.ptr 0 0 0),(5,.ptr 1 0 0),(6,ω w),(7,.sl (fO ll) a.length true),(9,.sl xe 25 true),(10,.dead),(11,.dead),(12,.dead),(13,.dead),(15,.dead),(16,.dead),(17,.dead),(21,.bool (!(w==((0:Nat):Int)))),(30,.sl (a_ a) a.length nn),(31,ω (a.length:Int)),(32,ω 0),(33,.dead),(42,.dead),(49,.dead),(50,.dead),(51,.dead),(52,.dead),(76,.dead)],[(0,⟨[.nilS],0,false,0,0,true⟩),gY],.dead,gZ⟩ (.normal) ⟨[(4,.ptr 0 0 0),(5,.ptr 1 0 0)],[(0,⟨[.ref 2 0 0 ts.length],0,false,0,0,false⟩),gY,(2,jd ts)],.dead,gZ⟩):CO 34 [.sl (dU l) l.length b,.sl (a_ a) a.length nn] (.ret (.tup [.own (ν (ts.length*3) (iZ ts)) ts.length 3,ω 0])):=pK [0] 2 0 (.k 6 c .nil) (.l g (.c f (.c h (.c d .nil))))
theorem aeX (l:List Sg) (a:List Nd) (b nn:Bool) (ll:List (List Nat)) (ts:List Ty) (w e:Int) (c:lit false (!(w==((0:Nat):Int)))=true) (d:CO 44 [.sl (a_ a) a.length nn] (.ret (ω w))) (h:CO 24 [.sl (a_ a) a.length nn] (.ret (.tup [.sl (fO ll) a.length true,.bool true]))) (f:CO 67 [] (.ret (.sl xe 25 true))) (g:aN prog ap [] 84 (.block 0 (.loop (af 0 (ai f34)))) ⟨[(0,.sl (dU l) l.length b),(1,.sl (a_ a) a.length nn),(4,.ptr 0 0 0),(5,.ptr 1 0 0),(6,ω w),(7,.sl (fO ll) a.length true),(9,.sl xe 25 true),(10,.dead),(11,.dead),(12,.dead),(13,.dead),(15,.dead),(16,.dead),(17,.dead),(21,.bool (!(w==((0:Nat):Int)))),(30,.sl (a_ a) a.length nn),(31,ω (a.length:Int)),(32,ω 0),(33,.dead),(42,.dead),(49,.dead),(50,.dead),(51,.dead),(52,.dead),(76,.dead)],[(0,⟨[.nilS],0,false,0,0,true⟩),gY],.dead,gZ⟩ (.panic (.ifc 34 (ω e))) ⟨[(4,.ptr 0 0 0),(5,.ptr 1 0 0)],[(0,⟨[.ref 2 0 0 ts.length],0,false,0,0,false⟩),gY,(2,jd ts)],.dead,gZ⟩):CO 34 [.sl (dU l) l.length b,.sl (a_ a) a.length nn] (.ret (.tup [.nilS,ω e])):=pK [0] 2 2 (.k 5 c .nil) (.l g (.c f (.c h (.c d .nil))))
theorem aeY (l:List Sg) (a:List Nd) (b nn:Bool) (ll:List (List Nat)) (ts:List Ty) (w e:Int) (c:lit false (!(w==((0:Nat):Int)))=true) (d:CO 44 [.sl (a_ a) a.length nn] (.ret (ω w))) (h:CO 24 [.sl (a_ a) a.length nn] (.ret (.tup [.sl (fO ll) a.length true,.bool true]))) (f:CO 67 [] (.ret (.sl xe 25 true))) (g:aN prog ap [] 84 (.block 0 (.loop (af 0 (ai f34)))) ⟨[(0,.sl (dU l) l.length b),(1,.sl (a_ a) a.length nn),(4,.ptr 0 0 0),(5,.ptr 1 0 0),(6,ω w),(7,.sl (fO ll) a.length true),(9,.sl xe 25 true),(10,.dead),(11,.dead),(12,.dead),(13,.dead),(15,.dead),(16,.dead),(17,.dead),(21,.bool (!(w==((0:Nat):Int)))),(30,.sl (a_ a) a.length nn),(31,ω (a.length:Int)),(32,ω 0),(33,.dead),(42,.dead),(49,.dead),(50,.dead),(51,.dead),(52,.dead),(76,.dead)],[(0,⟨[.nilS],0,false,0,0,true⟩),gY],.dead,gZ⟩ (.panic (.ifc 34 (ω e))) ⟨[(4,.ptr 0 0 0),(5,.ptr 1 0 0)],[(0,⟨[.nilS],0,false,0,0,true⟩),gY],.dead,gZ⟩):CO 34 [.sl (dU l) l.length b,.sl (a_ a) a.length nn] (.ret (.tup [.nilS,ω e])):=pK [0] 2 2 (.k 5 c .nil) (.l g (.c f (.c h (.c d .nil))))
def ctH:List Ty→Hp
 | []=> [(0,⟨[.nilS],0,false,0,0,true⟩),gY]
 |x::r=> [(0,⟨[.ref 2 0 0 (x::r).length],0,false,0,0,false⟩),gY,(2,jd (x::r))]
theorem tJ {ts:List Ty} (h:ts ≠ []):ctH ts= [(0,⟨[.ref 2 0 0 ts.length],0,false,0,0,false⟩),gY,(2,jd ts)]:=by cases ts with|nil=>exact absurd rfl h|cons _ _=>rfl
def Dl (l:List Sg) (ns:List Nd) (nl nn:Bool) (ll:List (List Nat)) (p:Nat × List Ty):St:=⟨lG l ns nl nn ll p.1,ctH p.2,.dead,gZ⟩
def B_ (q:List Ty × Int):St:=⟨[(4,.ptr 0 0 0),(5,.ptr 1 0 0)],ctH q.1,.dead,gZ⟩
def ctX (q:List Ty × Int):bM:=if q.2=0 then .exit 0 else .panic (.ifc 34 (ω q.2))
theorem OI (q:List Ty × Int):ctX q ≠ .normal:=by unfold ctX;split<;>simp
theorem akQ (named b:Bool) (a:Ty) (op:Nat) (ts:List Ty):ofR named b a op ts=if named && !b then (zT,12) else if (dP op a ts).1 then ((dP op a ts).2,0) else (zT,13):=by
 unfold ofR zT;cases named && !b<;>cases (dP op a ts).1<;>rfl
theorem alW {op:Int} (c:1≤op) (b:op≤8) (a:Ty):(dP op.toNat a []).1=true:=by
 have:op=1∨op=2∨op=3∨op=4∨op=5∨op=6∨op=7∨op=8:=by omega
 rcases this with rfl|rfl|rfl|rfl|rfl|rfl|rfl|rfl<;>rfl
theorem ah5 {op:Int} (b:1≤op) (a:op≤24) (h:dM op=0):op≤8:=by
 by_cases h3:op<9
 ·omega
 ·exfalso;have:op=9∨op=10∨op=11∨op=12∨op=13∨op=14∨op=15∨op=16∨op=17∨op=18∨op=19∨op=20∨op=21∨op=22∨op=23∨op=24:=by omega
  rcases this with rfl|rfl|rfl|rfl|rfl|rfl|rfl|rfl|rfl|rfl|rfl|rfl|rfl|rfl|rfl|rfl<;>simp [dM] at h
theorem aaf {op:Int} (a:1≤op) (h:dM op ≠ 0):9≤op:=by
 by_cases h3:op<9
 ·exfalso;have:op=1∨op=2∨op=3∨op=4∨op=5∨op=6∨op=7∨op=8:=by omega
  rcases this with rfl|rfl|rfl|rfl|rfl|rfl|rfl|rfl<;>simp [dM] at h
 ·omega
theorem WQ {nt:Nat} (o:84≤nt) (l:List Sg) (b p r:List Nd) (c nn:Bool) (ll:List (List Nat)) (x:Nd) (ts:List Ty) (Z:b=p++x::r) (hle:b.length<2^38) (Y:l.length<2^40) (hll:ll.length=b.length) (L:ts.length=p.length) (N:1≤x.op) (h2:x.op≤24) (ha:(ll.getD p.length []).length=dM x.op) (hj:∀ j ∈ ll.getD p.length [],j<p.length) (hr:∀ t ∈ ts,aS t=true):
  ((gU l x (fQ ts (ll.getD p.length []))).2=0→ψ nt f34 (Dl l b c nn ll (p.length,ts)) .normal (Dl l b c nn ll (p.length+1,ts++ [(gU l x (fQ ts (ll.getD p.length []))).1])))∧
  (¬ (gU l x (fQ ts (ll.getD p.length []))).2=0→ψ nt f34 (Dl l b c nn ll (p.length,ts)) (ctX (ts,(gU l x (fQ ts (ll.getD p.length []))).2)) (B_ (ts,(gU l x (fQ ts (ll.getD p.length []))).2))):=by
 have hlen:p.length+(r.length+1)=b.length:=by rw [Z];simp
 have n:ε (δ (p.length:Int)*5) (a_ b)=qB x++a_ r:=by rw [Z];exact DW rfl
 obtain ⟨I,d⟩:=ac1 N h2;have u:=Z8 (ll:=ll) (k:=p.length) (by omega);have Q:∀ t,fC l x.op x.name=some t→dX x.op=true→CO 68 [.sl (dU l) l.length c,.agg (qB x)] (.ret (.agg (fH t))):=fun t h A=>Zk l c x t Y (by rw [← Q4 l x.name A];exact h)
 have hsigN:fC l x.op x.name=none→dX x.op=true→CO 68 [.sl (dU l) l.length c,.agg (qB x)] (.pan (.ifc 34 (ω 12))):=fun h A=>Zj l c x Y (by rw [← Q4 l x.name A];exact h)
 have hfn:=XG l (op:=x.op) x.name;have hrp:∀ t ∈ fQ ts (ll.getD p.length []),aS t=true:=by
  intro t ht;obtain ⟨j,hj1,rfl⟩:=List.mem_map.1 ht;have:=hj j hj1;rw [κ,π (by omega)];exact hr _ (Xxv _)
 have hpl:(fQ ts (ll.getD p.length [])).length=dM x.op:=by simp [fQ];exact ha
 have har:=Ox x.op;have T:ts ≠ []→∀ m nt,84≤nt→aC prog ap [] nt (af 2 (ai f34)) (fun _=> .exit 2) (aar l b c nn ll p.length (ll.getD p.length []) x m ts) (WF l b c nn ll p.length x m ts) (0,[]) (fQ ts (ll.getD p.length [])):=by
  intro _ m nt o;have h:=aas o l b c nn ll p.length (ll.getD p.length []) x m ts (by omega) (by rw [L];exact hj) (ll.getD p.length []).length 0 [] (by omega) (by simp);rwa [Xqi,Xjr] at h
 have F:decide (((0:Nat):Int)≤(p.length:Int))=true:=Yq0 (by omega);have B:decide ((p.length:Int)<(b.length:Int))=true:=Yq0 (by omega);have C:lit true (decide ((p.length:Int)<(b.length:Int)))=true:=by rw [B];rfl
 have G:decide (((0:Nat):Int)≤x.op)=true:=Yq0 (by omega);have D:decide (x.op<((25:Nat):Int))=true:=Yq0 (by omega);have P:=xk (i:=p.length) (by omega);have hown0:ts= []→ll.getD p.length []= []:=by
  intro h;cases hh:ll.getD p.length [] with
  |nil=>rfl
  |cons j _=>have h4:=hj j (by rw [hh];simp);rw [h] at L;simp at L;omega
 unfold gU;rw [akQ];generalize hA:ll.getD p.length []=ag at*
 cases A:dX x.op && !(fC l x.op x.name).isSome with
 | true=>
  simp only [if_true];refine ⟨fun h=>absurd h (by decide),fun _=> ?_⟩;rw [ο] at A;have hno:fC l x.op x.name=none:=by cases hf:fC l x.op x.name with|none=>rfl|some t=>rw [hf] at A;simp at A
  have hs:=hsigN hno A.1;have X:lit true (dX x.op)=true:=A.1;rcases Xxl (ts= []) with z|z
  ·subst z;exact ai4 o l b c nn ll p.length x r I n d X G D F B C hs
  ·unfold Dl B_;dsimp only;rw [tJ z];exact ai3 o l b c nn ll ts p.length x r I n d X G D F B C hs
 | false=>
  simp only [Xx4,if_false];have J:(dX x.op=true∧CO 68 [.sl (dU l) l.length c,.agg (qB x)] (.ret (.agg (fH ((fC l x.op x.name).getD zT)))))∨(dX x.op=false∧(fC l x.op x.name).getD zT=zT):=by
   cases M:dX x.op with
   |false=>right;rw [hfn M];exact ⟨rfl,rfl⟩
   |true=>
    left;rw [M] at A;cases hf:fC l x.op x.name with
    |none=>rw [hf] at A;simp at A
    |some t=>exact ⟨rfl,Q t hf M⟩
  generalize (fC l x.op x.name).getD zT=m at*
  by_cases hz:ag= []
  ·subst hz;have h8:=ah5 N h2 ha.symm;have O:=alW N h8 m;have hp0:fQ ts []= []:=rfl;rw [hp0] at*
   simp only [O,if_true];refine ⟨fun _=> ?_,fun h=>absurd trivial h⟩;rcases Xxl (ts= []) with z|z
   ·subst z;have w:=ag_ N h8 l b c nn ll p.length x m [] [];rw [O] at w;rcases J with ⟨f,v⟩|⟨f,rfl⟩
    ·exact ai0 o l b c nn ll p.length m _ true x r I _ [] P n d u rfl F B f G D C v (fun nt g=>(aC.blk (id:=2) (e:=fun _:Unit=>bM.exit 2) (st:=fun _:Unit=>(⟨ciE l b c nn ll p.length [] 0 .nilS,[(0,⟨[.nilS],0,false,0,0,true⟩),gY,(2,lJ x.op x),sV m],.dead,gZ⟩:St)) (out:=fun _:Unit=>(⟨lG l b c nn ll p.length++ [(11,.ptr 2 0 0),(12,.ptr 3 0 0),(13,.nilS)],[(0,⟨[.nilS],0,false,0,0,true⟩),gY,(2,lJ x.op x),sV m],.dead,gZ⟩:St)) (a:=()) (r:=()) (e':= .normal) (fun nt o=> .done (adP o l b c nn ll p.length [] 0 x m rfl)) (by simp) rfl (aP.of ⟨rfl,rfl,rfl,rfl,rfl,rfl,rfl,rfl,rfl,rfl,rfl,rfl,rfl,rfl,rfl,trivial⟩) (aP.refl _)) nt g) w
    ·exact ai1 o l b c nn ll p.length _ true x r I _ [] P n d u rfl F B (by rw [f];rfl) G D C (fun nt g=>(aC.blk (id:=2) (e:=fun _:Unit=>bM.exit 2) (st:=fun _:Unit=>(⟨ciE l b c nn ll p.length [] 0 .nilS,[(0,⟨[.nilS],0,false,0,0,true⟩),gY,(2,lJ x.op x),sV zT],.dead,gZ⟩:St)) (out:=fun _:Unit=>(⟨lG l b c nn ll p.length++ [(11,.ptr 2 0 0),(12,.ptr 3 0 0),(13,.nilS)],[(0,⟨[.nilS],0,false,0,0,true⟩),gY,(2,lJ x.op x),sV zT],.dead,gZ⟩:St)) (a:=()) (r:=()) (e':= .normal) (fun nt o=> .done (adP o l b c nn ll p.length [] 0 x zT rfl)) (by simp) rfl (aP.of ⟨rfl,rfl,rfl,rfl,rfl,rfl,rfl,rfl,rfl,rfl,rfl,rfl,rfl,rfl,rfl,trivial⟩) (aP.refl _)) nt g) w
   ·have w:=ag9 N h8 l b c nn ll p.length x m ts [];rw [O] at w;have y:=T z m;have hL:∀ q:Ty,ts++ [q] ≠ []:=by simp
    have htl:ts.length<2^38:=by omega
    unfold Dl;dsimp only;rw [tJ z,tJ (hL _),η,φ];have R:Xqc (ts.length+1) 1099511627776=true:=by simp;omega
    have U:Xqc (ts.length*3) (θ (iZ ts))=true:=by rw [wW];simp
    rcases J with ⟨f,v⟩|⟨f,rfl⟩
    ·exact aiX o l b c nn ll ts p.length m _ true x r I _ [] P n d u R U rfl F B f G D C v (fun nt g=>(aC.blk (id:=2) (e':= .normal) y (by simp) rfl (aP.of ⟨rfl,rfl,rfl,rfl,rfl,rfl,rfl,rfl,rfl,rfl,rfl,rfl,rfl,rfl,rfl,trivial⟩) (aP.refl _)) nt g) w
    ·exact aiY o l b c nn ll ts p.length _ true x r I _ [] P n d u R U rfl F B (by rw [f];rfl) G D C (fun nt g=>(aC.blk (id:=2) (e':= .normal) y (by simp) rfl (aP.of ⟨rfl,rfl,rfl,rfl,rfl,rfl,rfl,rfl,rfl,rfl,rfl,rfl,rfl,rfl,rfl,trivial⟩) (aP.refl _)) nt g) w
  ·have h9:=aaf N (by rw [← ha];intro h;exact hz (List.eq_nil_of_length_eq_zero h));have z:ts ≠ []:=fun h=>hz (hown0 h)
   have y:=T z m;have V:fQ ts ag ≠ []:=by intro h;apply hz;simpa [fQ] using h
   have w:=ag8 h9 h2 l b c nn ll p.length x m ts (fQ ts ag) hpl hrp;generalize fQ ts ag=own at*
   have hL:∀ q:Ty,ts++ [q] ≠ []:=by simp
   have R:Xqc (ts.length+1) 1099511627776=true:=by simp;omega
   have U:Xqc (ts.length*3) (θ (iZ ts))=true:=by rw [wW];simp
   have K:=fun nt o=>y nt o
   unfold WF at K;have hloop:=aC.blk (id:=2) (e':= .normal) (s':=⟨lG l b c nn ll p.length++ [(11,.ptr 2 0 0),(12,.ptr 3 0 0),(13,.ref 4 0 0 own.length)],[(0,⟨[.ref 5 0 0 ts.length],0,false,0,0,false⟩),gY,(2,lJ x.op x),sV m,(4,jd own),(5,jd ts)],.dead,gZ⟩) (s:=aar l b c nn ll p.length ag x m ts (0,[])) K (by simp) rfl (aP.refl _) (by rw [WG V,WE V];exact aP.refl _);cases O:(dP x.op.toNat m own).1 with
   |true=>
    rw [O] at w;simp only [if_true];refine ⟨fun _=> ?_,fun h=>absurd trivial h⟩;unfold Dl;dsimp only;rw [tJ z,tJ (hL _),η,φ];rcases J with ⟨f,v⟩|⟨f,rfl⟩
    ·exact aiU o l b c nn ll ts own p.length m _ true x r I _ ag P n d u R U rfl F B f G D C v (fun nt g=>(hloop nt g).weak (aP.of ⟨rfl,rfl,rfl,rfl,rfl,rfl,rfl,rfl,rfl,rfl,rfl,rfl,rfl,rfl,rfl,trivial⟩) (aP.refl _)) w
    ·exact aiW o l b c nn ll ts own p.length _ true x r I _ ag P n d u R U rfl F B (by rw [f];rfl) G D C (fun nt g=>(hloop nt g).weak (aP.of ⟨rfl,rfl,rfl,rfl,rfl,rfl,rfl,rfl,rfl,rfl,rfl,rfl,rfl,rfl,rfl,trivial⟩) (aP.refl _)) w
   |false=>
    rw [O] at w;simp only [Xx4,if_false];refine ⟨fun h=>absurd h (by decide),fun _=> ?_⟩;unfold Dl B_;dsimp only;rw [tJ z];rcases J with ⟨f,v⟩|⟨f,rfl⟩
    ·exact aiT o l b c nn ll ts own p.length m _ false x r I _ ag n d u rfl F B f G D C v (fun nt g=>(hloop nt g).weak (aP.of ⟨rfl,rfl,rfl,rfl,rfl,rfl,rfl,rfl,rfl,rfl,rfl,rfl,rfl,rfl,rfl,trivial⟩) (aP.refl _)) w
    ·exact aiV o l b c nn ll ts own p.length _ false x r I _ ag n d u rfl F B (by rw [f];rfl) G D C (fun nt g=>(hloop nt g).weak (aP.of ⟨rfl,rfl,rfl,rfl,rfl,rfl,rfl,rfl,rfl,rfl,rfl,rfl,rfl,rfl,rfl,trivial⟩) (aP.refl _)) w
def uM (l:List Sg):List Nd→Nat→List Nat→List Ty→List Ty × Int
 | [],_,_,ts=>(ts,0)
 |x::r,k,st,ts=>if (gU l x (fQ ts (st.drop (st.length - dM x.op)))).2=0 then uM l r (k+1) (st.take (st.length - dM x.op)++ [k]) (ts++ [(gU l x (fQ ts (st.drop (st.length - dM x.op)))).1]) else (ts,(gU l x (fQ ts (st.drop (st.length - dM x.op)))).2)
theorem TN (l:List Sg):∀ (r:List Nd) (k:Nat) (st:List Nat) (ts:List Ty),m_ l r k st ts=if (uM l r k st ts).2=0 then .inl (uM l r k st ts).1 else .inr (uM l r k st ts).2:=by
 intro r
 induction r with
 |nil=>intro k st ts;simp [m_,uM]
 |cons x r ih=>
  intro k st ts;simp only [m_,uM];split
  ·exact ih _ _ _
  ·rfl
theorem aaB {nt:Nat} (w:84≤nt) (l:List Sg) (a:List Nd) (o nn:Bool) (s:a.length<2^38) (A:l.length<2^40) (K:Nat):∀ (r p:List Nd) (st:List Nat) (done:List (List Nat)) (ts:List Ty),p++r=a→iE r st.length= .inl K→(∀ j ∈ st,j<p.length)→done.length=p.length→ts.length=p.length→(∀ t ∈ ts,aS t=true)→dh a=done++p_ r p.length st→aC prog ap [] nt (af 0 (ai f34)) ctX (Dl l a o nn (dh a)) B_ (p.length,ts) (uM l r p.length st ts):=by
 intro r
 induction r with
 | nil=>
  intro p st done ts h B f hd e c v;have hp:p.length=a.length:=by rw [← h];simp
  simp only [uM];refine .done ?_;have I:lit false (decide ((p.length:Int)<(a.length:Int)))=true:=by rw [hp,bK];simp [lit]
  rcases Xxl (ts= []) with hT|hT
  ·subst hT;exact ai2 w l a o nn (dh a) p.length I
  ·unfold Dl B_;dsimp only;rw [tJ hT];exact aiZ w l a o nn (dh a) ts p.length I
 | cons x r ih=>
  intro p st done ts h B f hd e c v;obtain ⟨⟨D,C⟩,J,u⟩:=QE B;have k:(st.take (st.length - dM x.op)++ [p.length]).length=st.length - dM x.op+1:=by
   rw [η,Xxa,φ,Xjd (by omega)]
  have b:(dh a).getD p.length []=st.drop (st.length - dM x.op):=by
   rw [v];simp only [p_];rw [← hd,κ,Xq2 (Δ _),Xj4];rfl
  have m:(dh a).length=a.length:=by unfold dh;rw [Eo]
  have i:((dh a).getD p.length []).length=dM x.op:=by rw [b,Xxk];omega
  have n:∀ j ∈ (dh a).getD p.length [],j<p.length:=by rw [b];exact fun j g=>f j (List.mem_of_mem_drop g)
  obtain ⟨G,F⟩:=WQ w l a p r o nn (dh a) x ts h.symm s A m e D C i n c;have z:∀ t ∈ fQ ts ((dh a).getD p.length []),aS t=true:=by
   intro t d;obtain ⟨j,y,rfl⟩:=List.mem_map.1 d;have:=n j y;rw [κ,π (by omega)];exact c _ (Xxv _)
  have hright:=Qp (l:=l) D C (by simp [fQ];exact i) z;rw [b] at G F hright;simp only [uM];split
  ·rename_i q;have hnext:=ih (p++ [x]) (st.take (st.length - dM x.op)++ [p.length]) (done++ [st.drop (st.length - dM x.op)]) (ts++ [(gU l x (fQ ts (st.drop (st.length - dM x.op)))).1]) (by simp [h]) (by rw [k];exact u) (by
    intro j g;rcases List.mem_append.mp g with g|g
    ·have:=f j (Xxz g);simp;omega
    ·simp at g;simp;omega) (by simp [hd]) (by simp [e]) (by
    intro t d;rcases List.mem_append.mp d with d|d
    ·exact c t d
    ·simp at d;subst d;exact hright q) (by rw [v];simp only [p_,η,φ,τ,Xqu])
   rw [η,φ] at hnext;exact .next (G q) hnext
  ·rename_i q;exact .done (F q)
theorem Wq (a:List Nd) (nn:Bool) (b:∀ x ∈ a,x.sm) (c:cO a=0):CO 24 [.sl (a_ a) a.length nn] (.ret (.tup [.sl (fO (dh a)) a.length true,.bool true])):=Qw a nn b c
theorem BG:CO 67 [] (.ret (.sl xe 25 true)):=Y3.thaw (by simp)
theorem VO (l:List Sg) (a:List Nd) (h:(uM l a 0 [] []).2=0):(uM l a 0 [] []).1.length=a.length:=by
 have b:=TN l a 0 [] [];rw [if_pos h] at b;have:=VP l a 0 [] [] _ b;simpa using this
theorem Un (l:List Sg) (a:List Nd) (d nn:Bool) (o:l.length<2^40) (i:∀ x ∈ a,x.sm):CO 34 [.sl (dU l) l.length d,.sl (a_ a) a.length nn] (.ret (ahz (yD l a))):=by
 have b:=yS a nn i;unfold yD;by_cases hc:cO a=0
 ·rw [if_pos hc];have p:=Wq a nn i hc;obtain ⟨r,g⟩:=Ey hc;rw [hc] at b;have hloop:=fun nt (hn:84≤nt)=>aaB hn l a d nn (by omega) o 1 a [] [] [] [] rfl g (by simp) rfl rfl (by simp) rfl
  rw [Xqa] at hloop;rw [TN];have f:=VO l a;have u:0<a.length:=by
   cases a with
   |nil=>simp [iE] at g
   |cons _ _=>simp
  generalize uM l a 0 [] []=q at*
  obtain ⟨ts,e⟩:=q;dsimp only at f ⊢;by_cases he:e=0
  ·subst he;have t:=f rfl;rw [if_pos rfl];have k:ts ≠ []:=by intro h;subst h;simp at t;omega
   have n:ν (ts.length*3) (iZ ts)=iZ ts:=υ (by rw [wW];omega);have j:=aC.blk (id:=0) (e':= .normal) (s':=⟨[(4,.ptr 0 0 0),(5,.ptr 1 0 0)],[(0,⟨[.ref 2 0 0 ts.length],0,false,0,0,false⟩),gY,(2,jd ts)],.dead,gZ⟩) (s:=Dl l a d nn (dh a) (0,[])) hloop (OI _) rfl (aP.refl _) (by unfold B_;dsimp only;rw [tJ k];exact aP.refl _);have m:=aeW l a d nn (dh a) ts 0 0 rfl b p BG (fun nt c=>(j nt c).weak (aP.of ⟨rfl,rfl,rfl,rfl,rfl,rfl,rfl,rfl,rfl,trivial⟩) (aP.refl _));have m:=m.thaw (by simp);simp only [xE,Xqb,Xxt,thaw,n] at m;exact m
  ·rw [if_neg he];rcases Xxl (ts= []) with k|k
   ·subst k;have j:=aC.blk (id:=0) (e':= .panic (.ifc 34 (ω e))) (s':=B_ ([],e)) (s:=Dl l a d nn (dh a) (0,[])) hloop (OI _) (by unfold ctX;dsimp only;rw [if_neg he];rfl) (aP.refl _) (aP.refl _);exact aeY l a d nn (dh a) [] 0 e rfl b p BG (fun nt c=>(j nt c).weak (aP.of ⟨rfl,rfl,rfl,rfl,rfl,rfl,rfl,rfl,rfl,trivial⟩) (aP.refl _))
   ·have j:=aC.blk (id:=0) (e':= .panic (.ifc 34 (ω e))) (s':=⟨[(4,.ptr 0 0 0),(5,.ptr 1 0 0)],[(0,⟨[.ref 2 0 0 ts.length],0,false,0,0,false⟩),gY,(2,jd ts)],.dead,gZ⟩) (s:=Dl l a d nn (dh a) (0,[])) hloop (OI _) (by unfold ctX;dsimp only;rw [if_neg he];rfl) (aP.refl _) (by unfold B_;dsimp only;rw [tJ k];exact aP.refl _);exact aeX l a d nn (dh a) ts 0 e rfl b p BG (fun nt c=>(j nt c).weak (aP.of ⟨rfl,rfl,rfl,rfl,rfl,rfl,rfl,rfl,rfl,trivial⟩) (aP.refl _))
 ·rw [if_neg hc];exact aeV l a d nn (dh a) [] (cO a) 0 (by simpa [lit] using hc) b
theorem amR (t:Ty):Xww ((t.tr==t.tr) && ((t.m==t.m) && ((t.d==t.d) && true)))= .bool true:=by simp
theorem ZI {ts:List Ty} {j:Nat} (h:j<ts.length):ε (δ (j:Int)*3) (iZ ts)=fH (ts.getD j zT)++iZ (ts.drop (j+1)):=by
 have:=Gz h;rw [Xqd] at this;exact this
theorem Va {t:Ty} {o:Oq} (h:KG True t o) (b:o.e=0):l_ t o.n o.a o.d=true:=by
 obtain ⟨q,rfl,d,c⟩:=GI h.ok b;unfold l_;rw [h.rt];show (true && (fF q.neg (ae q.n) (ae q.d) && _))=true;rw [rW d,c];cases e:t.tr with
 |false=>rfl
 |true=>
  have a:=h.bt rfl e;simp only [Oq.bit,Oq.one,Xzi] at a;show (!true||(qY q.neg (ae q.n) (ae q.d) 0||qY q.neg (ae q.n) (ae q.d) 1))=true;rw [Xqq,Bool.false_or,Xzi];exact a.symm
theorem MZ {t:Ty} {e:List Nd} (hd:Ar t e) {E:fE} (h:KL True aT E):∃ a:List Ty,a.length=e.length∧yD aT e= .inl a∧a.getD (e.length - 1) zT=t∧∀ i,i<e.length→KG True (a.getD i zT) ((dR E e).getD i zO):=by
 have j:=hd.ln;obtain ⟨a,n,f,k⟩:=hd.tm.parts (by omega);refine ⟨a,n,f, ?_,fun i g=> ?_⟩
 ·obtain ⟨u,o,d⟩:=hd.tm.types (by omega);rw [f] at d;cases d;rw [κ,Xq2 (by omega),show e.length - 1 - u.length=0 by omega];rfl
 ·obtain ⟨b,m,_,c⟩:=k i g;have:=c.sound h (by rw [Xxa,Xxk];omega);rw [Qm hd.ck E g m c] at this;exact this
abbrev tpS (la lb:List Int) (q:Int) (E:fE) (e:List Nd) (os:List Oq) (us:List Ty) (k:Nat):St:=⟨[(1,.int .u8 q),(2,.ptr 0 0 0),(5,.bool true),(6,.ref 1 0 0 e.length),(7,.ptr 2 0 0),(8,.sl (iZ us) us.length true),(10,.ref 3 0 0 os.length),(11,ω (k:Int))],[(0,⟨[.sl (iL la) la.length false,.sl (iL lb) lb.length false],0,false,0,0,true⟩),(1,⟨(a_ e),0,true,(θ (a_ e)),5,true⟩),(2,⟨[.sl (jX E.ls) E.ls.length true,.sl (kL (E.qs.map Sq.c)) (E.qs.map Sq.c).length true],0,false,0,0,true⟩),(3,⟨(gJ os),0,false,0,4,true⟩)],.dead,[]⟩
theorem adu {nt:Nat} (m:95≤nt) (C B:List Int) (q:Int) (E:fE) (e:List Nd) (a:List Oq) (c:List Ty) (F:c.length=a.length) (A:a.length≤60) (n:∀ i,i<a.length→KG True (c.getD i zT) (a.getD i zO)):∀ (d k:Nat),k+d=a.length→aC prog ap [] nt (af 0 (ai f12)) (fun _:Unit=> .exit 0) (tpS C B q E e a c) (fun _=> ⟨[(1,.int .u8 q),(5,.bool true),(8,.sl (iZ c) c.length true)],[],.dead,[]⟩) k ():=by
 intro d
 induction d with
 |zero=>
  intro k f;have b:decide ((k:Int)<(a.length:Int))=false:=Yq1 (by omega);exact .done (pN 12 [] 1 0 (.c (aF b) .nil) (.nil) m)
 | succ d ih=>
  intro k f;refine .next ?_ (ih (k+1) (by omega))
  have b:decide ((k:Int)<(a.length:Int))=true:=Yq0 (by omega);have y:decide ((k:Int)<(c.length:Int))=true:=Yq0 (by omega);have t:ω (γ .i64 ((k:Int)+((1:Nat):Int)))=ω ((k+1:Nat):Int):=xk (by omega);have v:=mW (l:=a) (k:=k) (by omega);have D:=ZI (ts:=c) (j:=k) (by omega);have s:=n k (by omega);generalize a.getD k zO=o at*
  generalize c.getD k zT=u at*
  have f:ε ((0+(δ (k:Int)))*4) (gJ a)=Dt o++gJ (a.drop (k+1)):=v;rcases tf (o.e==((0:Nat):Int)) with z0|z0
  ·have z:o.e=0:=by simpa using z0
   have g:=agr s.ok;have cv:=ZM u o.n o.a o.d (Xqk g.1 (by decide)) (Xqk g.2 (by decide));rw [Va s z] at cv;exact pN 12 [] 5 3 (.k 1 (aV z0) (.k 8 (mV k) (.c y (.c (aA z0) (.n 2 (.a (kS [.bool,.str,.str,.int .i64] f rfl) (.c (mV k) (.c b (.c (aA b) .nil))))))))) (.v 43 (.eq t) (.c cv (.v 54 (.ppt D) (.v 47 (.rd [.bool,.str,.str,.int .i64] f rfl) .nil)))) m
  ·have w:((o.n==false) && ((o.a== []) && ((o.d== []) && true)))=true:=by
    cases o with
    |err x=>rfl
    |val q=>cases z0
   rcases s.er trivial with h|h|h
   ·rw [h] at z0;cases z0
   ·have r:(o.e==((3:Nat):Int))=true:=by rw [h];rfl
    exact pN 12 [] 7 9 (.c (aV w) (.k 4 (aV r) (.k 1 (di z0) (.k 2 (aF z0) (.n 2 (.a (kS [.bool,.str,.str,.int .i64] f rfl) (.c (mV k) (.c b (.c (aA b) .nil))))))))) (.v 43 (.eq t) (.v 47 (.rd [.bool,.str,.str,.int .i64] f rfl) .nil)) m
   ·have r:(o.e==((3:Nat):Int))=false:=by rw [h];rfl
    have p:(o.e==((16:Nat):Int))=true:=by rw [h];rfl
    exact pN 12 [] 7 25 (.c (aV w) (.k 3 (aV p) (.k 1 (di r) (.k 1 (di z0) (.k 2 (aF z0) (.n 2 (.a (kS [.bool,.str,.str,.int .i64] f rfl) (.c (mV k) (.c b (.c (aA b) .nil)))))))))) (.v 43 (.eq t) (.v 47 (.rd [.bool,.str,.str,.int .i64] f rfl) .nil)) m
theorem amP (c b:List Int) (q:Int) (e:List Nd) (d:List Oq) (a:List Ty) (t:Ty) (E:fE) (z:Nat) (rv:List AV) (h:ω (γ .i64 ((a.length:Int) - ((1:Nat):Int)))= ω (z:Int)) (p:(ε ((δ (z:Int))*3) (iZ a))=fH t++rv) (i:(decide (((0:Nat):Int)≤(z:Int)))=true) (m:(decide ((z:Int)<(a.length:Int)))=true) (j:lit false (!((a.length:Int)==(d.length:Int)))=true) (f:CO 13 [] (.ret (.bool true))) (n:CO 23 [.agg [.sl (iL c) c.length false,.sl (iL b) b.length false],.int .u8 q,.bool false] (.ret (.tup [.own (a_ e) e.length 5,.agg [.sl (jX E.ls) E.ls.length true,.sl (kL (E.qs.map Sq.c)) (E.qs.map Sq.c).length true]]))) (g:CO 35 [] (.ret (.own (dU aT) 12 5))) (o:CO 34 [.sl (ν 60 (dU aT)) 12 true,.sl (ν (e.length*5) (a_ e)) e.length true] (.ret (.tup [.sl (iZ a) a.length true,ω 0]))) (s:CO 19 [.sl (ν (e.length*5) (a_ e)) e.length true,.agg [.sl (jX E.ls) E.ls.length true,.sl (kL (E.qs.map Sq.c)) (E.qs.map Sq.c).length true]] (.ret (.own (gJ d) d.length 4))) (r:aN prog ap [] 95 (.block 0 (.loop (af 0 (ai f12)))) ⟨[(0,.agg [.sl (iL c) c.length false,.sl (iL b) b.length false]),(1,.int .u8 q),(2,.ptr 0 0 0),(4,.bool false),(5,.bool true),(6,.ref 1 0 0 e.length),(7,.ptr 2 0 0),(8,.sl (iZ a) a.length true),(9,ω 0),(10,.ref 3 0 0 d.length),(11,ω 0),(12,.dead),(37,.bool (!((a.length:Int)==(d.length:Int)))),(41,.dead),(81,.dead)],[(0,⟨[.sl (iL c) c.length false,.sl (iL b) b.length false],0,false,0,0,true⟩),(1,⟨(a_ e),0,true,(θ (a_ e)),5,true⟩),(2,⟨[.sl (jX E.ls) E.ls.length true,.sl (kL (E.qs.map Sq.c)) (E.qs.map Sq.c).length true],0,false,0,0,true⟩),(3,⟨(gJ d),0,false,0,4,true⟩)],.dead,[]⟩ (.normal) ⟨[(1,.int .u8 q),(5,.bool true),(8,.sl (iZ a) a.length true)],[],.dead,[]⟩) (k:CO 32 [ω (γ .i64 q)] (.ret (.agg [.bool t.tr,ω t.m,ω t.d]))):CO 12 [.agg [.sl (iL c) c.length false,.sl (iL b) b.length false],.int .u8 q] (.ret (.bool true)):=pK [0] 3 4 (.k 3 i (.c m (.k 1 j (.n 6 .nil)))) (.v 93 (.eq (amR t)) (.c k (.v 88 (.ppt p) (.v 87 (.eq h) (.l r (.c s (.c o (.c g (.c n (.c f .nil))))))))))
theorem ahH (c b:List Int) (q:Int) (A:c.length<2^63) (G:b.length<2^63):CO 12 [.agg [.sl (iL c) c.length false,.sl (iL b) b.length false],.int .u8 q] (.ret (.bool true)):=by
 obtain ⟨t,D,ck⟩:=af5 (γ .i64 q);obtain ⟨e,a,w⟩:=WW q t D c A;obtain ⟨E,i,F⟩:=afo true false false b G;have z:=WZ ck w F;have C:=i.sm;have s:=a.ck;have x:KL True aT E:=⟨fun op h t m r k=> ⟨(i.typed.ln op h t m r k).1,fun _=>(i.typed.ln op h t m r k).2 rfl⟩,fun _ h t k=>i.typed.sc rfl h t k⟩
 obtain ⟨g,u1,u2,y,d⟩:=MZ a x;have f:=uB E e;have u:=a.ln;have p:=a.pos;have n:=AU E true true true C s a.sm;have cy:=Un aT e true true (by decide) a.sm;rw [u2] at cy;rw [← Hu e] at n cy;rw [← f] at d;have o:=ZI (ts:=g) (j:=e.length - 1) (by omega);rw [y] at o;have v:ω (γ .i64 ((g.length:Int) - ((1:Nat):Int)))= ω ((e.length - 1:Nat):Int):=by
  congr 1;exact (bH (by omega) (by omega)).trans (by omega)
 exact amP c b q e (dR E e) g t E (e.length - 1) _ v o (mV _) (Yq0 (by omega)) (by rw [show ((g.length:Int)==(((dR E e).length:Nat):Int))=true by simp;omega];rfl) Vs z NG cy n (aC.blk (fun nt B=>adu (nt:=nt) B c b q E e (dR E e) g (by omega) (by omega) d (dR E e).length 0 (by omega)) (by simp) rfl (aP.of ⟨rfl,rfl,rfl,rfl,rfl,rfl,rfl,rfl,trivial⟩) (aP.refl _)) ck
end Go.Proofs.Tryz
set_option maxRecDepth 100000
open Go AM Go.ChangeShapes Go.WideShapes Go.ChangeAt Go.RowKit
namespace Go.Proofs.Tryz
noncomputable def Ff (t:TypeId) (d:DataW Unit):List Lit:=((mQ prog 6 t d 0).getD []).map (·.2)
open Go.Proofs.YtdmfgmmooalfnaaGreatDoor
def X3:List (String × DataW Unit):= [("unicode/utf8.acceptRanges",Rows.laid_unicode_utf8_acceptRanges),("tithing/expr.table",Rows.laid_tithing_expr_table),("tithing/check.truth",Rows.laid_tithing_check_truth),("tithing/check.cash",Rows.laid_tithing_check_cash),("tithing/check.days",Rows.laid_tithing_check_days),("tithing/check.plain",Rows.laid_tithing_check_plain),("unicode/utf8.first",Rows.laid_unicode_utf8_first)]
theorem U4:X3.filter (fun x=>x.2.handleName?.isSome)= []:=by kernel_rfl
theorem aj9 {W:World} (h:laidMetH prog X3 W):V8 ap W:=by
 have c (i:Nat) (n:String) (d:DataW Unit) (hm:X3[i]? =some (n,d)) (g:Nat) (t:TypeId) (hg:prog.globalNamed n=some g) (ht:(prog.globals[g]?).map (·.type)=some t)
   (hl:mQ prog 6 t d 0=some ((Ff t d).zipIdx.map fun (l,i)=>(i,l))):=Ph h U4 (List.mem_of_getElem? hm) hg ht hl
 have b:=c 1 _ _ rfl 0 108 (by kernel_rfl) (by kernel_rfl) (by kernel_rfl);have e:=c 2 _ _ rfl 4 75 (by kernel_rfl) (by kernel_rfl) (by kernel_rfl);have m:=c 3 _ _ rfl 1 75 (by kernel_rfl) (by kernel_rfl) (by kernel_rfl);have f:=c 4 _ _ rfl 2 75 (by kernel_rfl) (by kernel_rfl) (by kernel_rfl);have o:=c 5 _ _ rfl 3 75 (by kernel_rfl) (by kernel_rfl) (by kernel_rfl);have p:=c 0 _ _ rfl 6 244 (by kernel_rfl) (by kernel_rfl) (by kernel_rfl);have key (k:Nat) (t:TypeId) (d:DataW Unit) (hx:(ap.gl[k]?).join=some ((Ff t d).map MF)) (ho:(Ff t d).all Fe=true) (hc:∀ (j:Nat) (l:Lit),(Ff t d)[j]? =some l→W.cell? ⟨k,j,none⟩=some (qQ l)):
   ∀ xs,(ap.gl[k]?).join=some xs→∃ ls:List Lit,xs=ls.map MF∧ls.all Fe=true∧∀ (j:Nat) (l:Lit),ls[j]? =some l→W.cell? ⟨k,j,none⟩=some (qQ l):=by
  intro xs a;rw [hx] at a;cases a;exact ⟨_,rfl,ho,hc⟩
 intro k
 match k with
 |0=>exact key 0 _ _ (by kernel_rfl) (by kernel_rfl) b
 |1=>exact key 1 _ _ (by kernel_rfl) (by kernel_rfl) m
 |2=>exact key 2 _ _ (by kernel_rfl) (by kernel_rfl) f
 |3=>exact key 3 _ _ (by kernel_rfl) (by kernel_rfl) o
 |4=>exact key 4 _ _ (by kernel_rfl) (by kernel_rfl) e
 |5=>intro xs a;exact absurd (show (none:Option (List AV))=some xs from a) (by simp)
 |6=>exact key 6 _ _ (by kernel_rfl) (by kernel_rfl) p
 |7=>intro xs a;exact absurd (show (none:Option (List AV))=some xs from a) (by simp)
 |k+8=>
  intro xs a;have:ap.gl.length=8:=by kernel_rfl
  rw [List.getElem?_eq_none (by omega)] at a;cases a
theorem own:ownKnob prog.godebug=none:=by kernel_rfl
theorem am3:laidOutB prog=true:=by kernel_rfl
noncomputable def P5 (t:TypeId) (d:DataW Unit):Obj→Obj
 | .cells _ t' fr=> .cells ((Ff t d).map qQ).toArray t' fr
 |o=>o
noncomputable def ahJ (os:Os):World:=
 let w:=World.holding prog os ⟨#[],#[],[]⟩
 {w with heap:=((((((w.heap.modify 0 (P5 108 Rows.laid_tithing_expr_table)).modify 1 (P5 75 Rows.laid_tithing_check_cash)).modify 2 (P5 75 Rows.laid_tithing_check_days)).modify 3 (P5 75 Rows.laid_tithing_check_plain)).modify 4 (P5 75 Rows.laid_tithing_check_truth)).modify 5 (P5 241 Rows.laid_unicode_utf8_first)).modify 6 (P5 244 Rows.laid_unicode_utf8_acceptRanges)}
end Go.Proofs.Tryz
set_option maxRecDepth 100000
set_option linter.unusedVariables false
open Go AM Go.ChangeShapes Go.WideShapes Go.ChangeAt Go.RowKit
namespace Go.Proofs.Tryz
section
variable {H:Type} {enc:TypeId × Value→H} {W:World} {base:Nat}
theorem N7 {P:Program} {t e:TypeId} {b:Nat} {c g:Value} {spare:Nat→Bool} {a:Bool} {x:DataW H × List MemPlace} (k:P.underlying t=some (.array 2 e)) (f:P.cellsOf e=1)
  (h:DataW.trod enc P W base spare a b t [c,g]=some x):
  ∃ y0 y1 n,DataW.trod enc P W base spare a n e [c]=some y0∧DataW.trod enc P W base spare a n e [g]=some y1:=by
 cases b with
 |zero=>simp [DataW.trod] at h
 | succ n=>
  unfold DataW.trod at h;rw [k] at h;have j:List.range 2= [0,1]:=rfl;simp [j,f] at h;obtain ⟨_,h⟩:=h;cases d:DataW.trod enc P W base spare a n e [c] with
  |none=>simp [d] at h
  |some y0=>
   cases i:DataW.trod enc P W base spare a n e [g] with
   |none=>simp [d,i] at h
   |some y1=>exact ⟨y0,y1,n,d,i⟩
theorem akb {x:List Value} (h:gm [.int .i64] x):∃ a:Int,x.map tq= [AV.int .i64 a]:=by
 rcases h with _|@⟨_,a,_,_,h⟩|_|_;cases h;exact ⟨a,rfl⟩
theorem abr (l:List Int):(l.flatMap fun a=> [ω a])=iL l:=by
 induction l with
 |nil=>rfl
 |cons a r ih=>rw [Xxu,ih];rfl
theorem u45:prog.underlying 45=some (.slice 3):=by kernel_rfl
theorem YC {v:Value} {d:DataW H} {p:List MemPlace} (f:Value.okWide prog W .any base 45 v) (h:DataW.Trod enc prog W 0 (fun _=>true) true 45 v d p):
  ∃ xs:List Int,xs.length<2^63∧PR (mf W) (.sl (iL xs) xs.length false) v:=by
 obtain ⟨L0,m,b⟩:=YD (t:=45) (e:=3) (n:=4) (ks:= [.int .i64]) u45 (by kernel_rfl) (by kernel_rfl) f h;obtain ⟨xs,q,i⟩:=UK (fun a:Int=> [AV.int .i64 a]) (L:=L0) (fun x o=>akb (m x o));rw [q,i,abr] at b;refine ⟨xs, ?_,b⟩;obtain ⟨j,len,k,rfl⟩:=okWide_slice u45 f;have g:xs.length=len:=by
  simp only [PR] at b;obtain ⟨a,c,r,_⟩:=b;cases r;rfl
 simp only [Value.okWide,u45,Cell.okWide,Cell.ok] at f;have s:IntKind.i64.max=9223372036854775807:=rfl;cases j with
 |none=>
  cases len with
  |zero=>omega
  |succ n=>simp at f
 |some a=>
  simp only at f;omega
def a2A (la lb:List Int):AV:= .agg [.sl (iL la) la.length false,.sl (iL lb) lb.length false]
theorem QD {t:TypeId} {n:Nat} {ts:List TypeId} (b:prog.underlying t=some (.array n 45)) (a:prog.cellTypes prog.depth t=some ts) {c:Array Value} (g:Value.okWide prog W .any base t (.agg c)) {i:Nat} {u:Value} (k:ts[i % ts.length]? =some 45) (h:c[i]? =some u) {m:Nat} {y:DataW H × List MemPlace} (f:DataW.trod enc prog W 0 (fun _=>true) true m 45 [u]=some y):
  ∃ xs:List Int,xs.length<2^63∧PR (mf W) (.sl (iL xs) xs.length false) u:=by
 have d:=Vb (u:=45) (e:=3) u45 (MW (ts:=ts) (u:=45) (.inr ⟨_,_,b⟩) a g (i:=i) (v:=u) h k);have j:=NI (e:=3) u45 d;have b:DataW.Trod enc prog W 0 (fun _=>true) true 45 u y.1 y.2:=⟨m,by rw [j];exact f⟩
 exact YC d b
theorem am7 {t:TypeId} (e:prog.underlying t=some (.array 2 45)) (a:prog.cellTypes prog.depth t=some [45,45]) (o:prog.cellsOf t=2) {v:Value} {d:DataW H} {p:List MemPlace} (g:Value.okWide prog W .any base t v) (h:DataW.Trod enc prog W 0 (fun _=>true) true t v d p):
  ∃ f c:List Int,f.length<2^63∧c.length<2^63∧PR (mf W) (a2A f c) v:=by
 have b:=g;simp only [Value.okWide,e] at b;obtain ⟨w,rfl,k,_⟩:=b;obtain ⟨m,h⟩:=h;obtain ⟨cl⟩:=w;have j:cl.length=2:=k.trans o
 match cl,j with
 | [u0,u1],_=>
 obtain ⟨z,A,n,u,y⟩:=N7 e (show prog.cellsOf 45=1 by kernel_rfl) h;obtain ⟨f,r,s⟩:=QD e a g (i:=0) rfl rfl u;obtain ⟨c,q,x⟩:=QD e a g (i:=1) rfl rfl y;refine ⟨f,c,r,q, ?_⟩;unfold a2A;rw [PR];exact ⟨[u0,u1],rfl,by rw [eG,eG,eG];exact ⟨s,x,trivial⟩⟩
end
end Go.Proofs.Tryz
