/- Contracts of functions that the law reaches, each by its own hypotheses; joined by a program of mine. -/
import Derived.Test.YtdmfgmmooalfnaaGreatDoorC3
import Derived.Test.YtdmfgmmooalfnaaGreatDoorM5
import Derived.Test.YtdmfgmmooalfnaaGreatDoorC1
import Derived.Test.YtdmfgmmooalfnaaGreatDoorM4
import Derived.Test.YtdmfgmmooalfnaaGreatDoorCards
import Derived.Test.YtdmfgmmooalfnaaGreatDoorTie
import Derived.Deep.DeepHandedRow
import Derived.Laws.IdiomArrays
set_option linter.unusedSimpArgs false
set_option linter.unusedVariables false
set_option maxRecDepth 100000
set_option linter.unusedVariables false
open Go AM
namespace Go.Proofs.Tryz
abbrev zcc4_0 : List AV := [.int .i64 4,.bool false,.str [1],.str [1],.str [],.int .i64 3,.bool false,.str [1],.str [1],.str [],.int .i64 3,.bool false,.str [1],.str [1],.str [],.int .i64 3,.bool false,.str [],.str [1],.str [],.int .i64 12,.bool false,.str [],.str [],.str [],.int .i64 15,.bool false,.str [],.str [],.str []]
abbrev zcc4_1 : List AV := [.int .i64 4,.bool false,.str [],.str [1],.str [],.int .i64 3,.bool false,.str [1],.str [1],.str [],.int .i64 3,.bool false,.str [1],.str [1],.str [],.int .i64 3,.bool false,.str [],.str [1],.str [],.int .i64 12,.bool false,.str [],.str [],.str [],.int .i64 15,.bool false,.str [],.str [],.str []]
abbrev zcc4_2 : List AV := [.int .i64 3,.bool false,.str [2],.str [1],.str [],.int .i64 3,.bool false,.str [1],.str [1],.str [],.int .i64 3,.bool false,.str [],.str [1],.str [],.int .i64 12,.bool false,.str [],.str [],.str [],.int .i64 19,.bool false,.str [],.str [],.str []]
abbrev zcc4_3 : List AV := [.int .i64 6,.bool false,.str [],.str [],.str [120],.int .i64 3,.bool false,.str [1],.str [1],.str [],.int .i64 3,.bool false,.str [],.str [1],.str [],.int .i64 12,.bool false,.str [],.str [],.str [],.int .i64 9,.bool false,.str [],.str [],.str []]
abbrev zcc4_4 : List AV := [.bool false,.str [],.str [1],.bool false,.str [],.str [1],.bool false,.str [100],.str [1],.bool false,.str [1],.str [10],.bool false,.str [1,44],.str [1],.bool false,.str [1],.str [4]]
abbrev zcc4_5 : List AV := [.int .i64 4,.bool false,.str [1],.str [1],.str [],.int .i64 3,.bool false,.str [2],.str [1],.str [],.int .i64 18,.bool false,.str [],.str [],.str []]
abbrev zcc4_6 : List AV := [.int .i64 1,.bool false,.str [1],.str [2],.str [],.int .i64 1,.bool false,.str [1],.str [3],.str [],.int .i64 9,.bool false,.str [],.str [],.str []]
abbrev zcc4_7 : List AV := [.bool false,.str [1],.str [1],.int .i64 0,.bool false,.str [3],.str [1],.int .i64 0,.bool true,.str [2],.str [1],.int .i64 0]
abbrev zcc4_8 : List AV := [.int .i64 1,.bool false,.str [200],.str [1],.str [],.int .i64 24,.bool false,.str [],.str [],.str [115]]
abbrev zcc4_9 : List AV := [.int .i64 3,.bool false,.str [5],.str [4],.str [],.int .i64 23,.bool false,.str [1],.str [2],.str []]
abbrev zcc4_10 : List AV := [.int .i64 3,.bool true,.str [1],.str [4],.str [],.int .i64 21,.bool false,.str [1],.str [2],.str []]
abbrev zcc4_11 : List AV := [.int .i64 6,.str [120],.bool false,.str [5],.str [1],.int .i64 0]
abbrev zcc4_12 : List AV := [.int .i64 6,.str [120],.bool false,.str [],.str [],.int .i64 17]
abbrev zcc4_13 : List AV := [.int .i64 6,.bool false,.str [],.str [],.str [120]]
abbrev zcc4_14 : List AV := [.int .i64 3,.bool false,.str [1],.str [1],.str []]
abbrev zcc4_15 : List AV := [.int .i64 3,.bool false,.str [],.str [1],.str []]
def xK (E:dW):List Nd→List Oq→List Oq
 | [],st=>st
 |x::r,st=>xK E r (st.take (st.length - dX x.op)++ [dD E x (st.drop (st.length - dX x.op))])
theorem lW (E:dW):∀ (a b:List Nd) (st:List Oq),xK E (a++b) st=xK E b (xK E a st)
 | [],_,_=>rfl
 |x::r,b,st=>by simp only [List.cons_append,xK];exact lW E r b _
theorem Y4 {x:Nd} {r:List Nd} {d e:Nat} (h:gZ (x::r) d= .inl e):aC x=0∧dX x.op≤d∧gZ r (d - dX x.op+1)= .inl e:=by
 simp only [gZ] at h
 split at h
 ·rename_i a
  split at h
  ·cases h
  ·exact ⟨a,by omega,h⟩
 ·cases h
theorem Ru (E:dW) (A:List (List Nat)):∀ (r:List Nd) (os:List Oq),∃ t,MZ E A r os=os++t
 | [],os=> ⟨[],by simp [MZ]⟩
 |x::r,os=>by
  obtain ⟨t,a⟩:=Ru E A r (os++ [dD E x ((A.getD os.length []).map fun j=>os.getD j zO)])
  exact ⟨_,by rw [MZ,a,List.append_assoc]⟩
theorem Rw {E:dW} {A:List (List Nat)}:∀ (r:List Nd) (k:Nat) (st:List Nat) (os:List Oq),(∃ d,gZ r st.length= .inl d)→A.drop k=rM r k st→os.length=k→(∀ j ∈ st,j<k)→
  ∀ i,i<r.length→(xK E (r.take (i+1)) (st.map fun j=>os.getD j zO)).getLast? =some ((MZ E A r os).getD (k+i) zO)
 | [],k,st,os,_,_,_,_,i,hi=>by simp at hi
 | x::r,k,st,os,⟨d,hd⟩,hA,ho,hst,i,hi=>by
  obtain ⟨_,m,f⟩:=Y4 hd
  simp only [rM] at hA
  have b:k<A.length:=by
   by_cases h:k<A.length
   ·exact h
   ·rw [List.drop_of_length_le (by omega)] at hA;cases hA
  rw [List.drop_eq_getElem_cons b,List.cons.injEq] at hA
  have c:A.getD os.length []=st.drop (st.length - dX x.op):=by
   rw [ho,List.getD_eq_getElem?_getD,List.getElem?_eq_getElem b,← hA.1];rfl
  rw [MZ,c,List.take_succ_cons]
  simp only [xK]
  rw [List.length_map,← List.map_take,← List.map_drop]
  generalize dD E x ((st.drop (st.length - dX x.op)).map fun j=>os.getD j zO)=v
  cases i with
  |zero=>
   obtain ⟨t,g⟩:=Ru E A r (os++ [v])
   rw [g,List.take_zero,xK,List.getLast?_concat,Nat.add_zero,List.getD_eq_getElem?_getD,List.append_assoc,List.getElem?_append_right (by omega),ho,Nat.sub_self]
   rfl
  | succ i=>
   have e:=Rw (E:=E) (A:=A) r (k+1) (st.take (st.length - dX x.op)++ [k]) (os++ [v]) ⟨d,by rw [List.length_append,List.length_take,List.length_singleton,Nat.min_eq_left (Nat.sub_le _ _)];exact f⟩ hA.2 (by simp [ho]) (by
    intro j a
    rcases List.mem_append.1 a with a|a
    ·have:=hst j (List.mem_of_mem_take a);omega
    ·rw [List.mem_singleton.1 a];omega) i (by simpa using hi)
   rw [show k+(i+1)=k+1+i by omega,← e]
   congr 2
   rw [List.map_append]
   congr 1
   ·apply List.map_congr_left
    intro j a
    have:=hst j (List.mem_of_mem_take a)
    rw [List.getD_eq_getElem?_getD,List.getD_eq_getElem?_getD,List.getElem?_append_left (by omega)]
   ·simp only [List.map_cons,List.map_nil]
    rw [List.getD_eq_getElem?_getD,List.getElem?_append_right (by omega),ho,Nat.sub_self]
    rfl
theorem Y5 {e:List Nd} (a:bW e=0):gZ e 0= .inl 1:=by
 unfold bW at a
 split at a
 ·cases a
 ·split at a
  ·rename_i d hd
   split at a
   ·rename_i c;rw [hd,c]
   ·cases a
  ·rename_i w b
   exact absurd a (CP _ _ _ b)
theorem M_ {E:dW} {e:List Nd} (b:bW e=0) {i:Nat} (a:i<e.length):(xK E (e.take (i+1)) []).getLast? =some ((dL E e).getD i zO):=by
 have:=Rw (E:=E) (A:=eP e) e 0 [] [] ⟨1,Y5 b⟩ rfl rfl (by simp) i a
 rw [Nat.zero_add] at this
 exact this
theorem tq (E:dW) (e:List Nd):(dL E e).length=e.length:=by unfold dL;rw [Dl];simp
theorem Ea {E:dW} {e:List Nd} (a:bW e=0):uA E e=(dL E e).getD (e.length - 1) zO:=by
 unfold uA
 rw [if_pos a,← tq E e,List.getLastD_eq_getLast?,List.getLast?_eq_getElem?,List.getD_eq_getElem?_getD,tq]
 have:=(jc a).2.2
 rw [List.getElem?_eq_getElem (by rw [tq];omega)]
 rfl
theorem Tc {E:dW} {e:List Nd} (a:bW e=0):(xK E e []).getLast? =some (uA E e):=by
 have hp:=(jc a).2.2
 have:=M_ (E:=E) a (i:=e.length - 1) (by omega)
 rw [← Ea a,show e.length - 1+1=e.length by omega,List.take_length] at this
 exact this
theorem Dc (E:dW) {x:Nd} {st l:List Oq} (h:l.length=dX x.op):xK E [x] (st++l)=st++ [dD E x l]:=by
 simp only [xK]
 rw [List.length_append,h,Nat.add_sub_cancel,List.take_left,List.drop_left]
theorem Tm.ind {l:List Sg} (E:dW) (P:Ty→Oq→Prop)
  (h0:∀ x t,aC x=0→dX x.op=0→jh l x []=(t,0)→P t (dD E x []))
  (h1:∀ x t ta a,aC x=0→dX x.op=1→jh l x [ta]=(t,0)→P ta a→P t (dD E x [a]))
  (h2:∀ x t ta tb a b,aC x=0→dX x.op=2→jh l x [ta,tb]=(t,0)→P ta a→P tb b→P t (dD E x [a,b]))
  (h3:∀ x t ta tb tc a b c,aC x=0→dX x.op=3→jh l x [ta,tb,tc]=(t,0)→P ta a→P tb b→P tc c→P t (dD E x [a,b,c]))
  {e:List Nd} {t:Ty} (h:Tm l e t):∃ v,P t v∧∀ st,xK E e st=st++ [v]:=by
 induction h with
 |@n0 x t hw ha ht=>exact ⟨_,h0 x t hw ha ht,fun st=>by have:=Dc E (x:=x) (st:=st) (l:= []) (by rw [ha];rfl);rw [List.append_nil] at this;exact this⟩
 |@n1 x t ta a ma hw ha ht iha=>
  obtain ⟨g,f,d⟩:=iha
  exact ⟨_,h1 x t ta g hw ha ht f,fun st=>by rw [lW,d];exact Dc E (by rw [ha];rfl)⟩
 |@n2 x t ta tb a b ma mb hw ha ht iha ihb=>
  obtain ⟨g,f,d⟩:=iha
  obtain ⟨j,i,rb⟩:=ihb
  exact ⟨_,h2 x t ta tb g j hw ha ht f i,fun st=>by rw [lW,lW,d,rb,List.append_assoc];exact Dc E (by rw [ha];rfl)⟩
 |@n3 x t ta tb tc a b c ma mb mc hw ha ht iha ihb ihc=>
  obtain ⟨g,f,d⟩:=iha
  obtain ⟨j,i,rb⟩:=ihb
  obtain ⟨m,k,n⟩:=ihc
  exact ⟨_,h3 x t ta tb tc g j m hw ha ht f i k,fun st=>by rw [lW,lW,lW,d,rb,n,List.append_assoc,List.append_assoc];exact Dc E (by rw [ha];rfl)⟩
theorem KT {E:dW} {e:List Nd} (b:bW e=0) {v:Oq} (a:∀ st,xK E e st=st++ [v]):uA E e=v:=by
 have:=Tc (E:=E) b
 rw [a,List.nil_append,List.getLast?_singleton,Option.some.injEq] at this
 exact this.symm
theorem Tm.val {l:List Sg} {e:List Nd} {t:Ty} (h:Tm l e t) (b:e.length≤60) (E:dW):∀ st,xK E e st=st++ [uA E e]:=by
 obtain ⟨v,_,a⟩:=h.ind E (fun _ _=>True) (fun _ _ _ _ _=>trivial) (fun _ _ _ _ _ _ _ _=>trivial) (fun _ _ _ _ _ _ _ _ _ _ _=>trivial) (fun _ _ _ _ _ _ _ _ _ _ _ _ _ _=>trivial)
 rw [KT (h.check b) a]
 exact a
theorem Tm.evalP {l:List Sg} {e:List Nd} {t:Ty} (h:Tm l e t) (d:e.length≤60) (E:dW) (P:Ty→Oq→Prop)
  (h0:∀ x t,aC x=0→dX x.op=0→jh l x []=(t,0)→P t (dD E x []))
  (h1:∀ x t ta a,aC x=0→dX x.op=1→jh l x [ta]=(t,0)→P ta a→P t (dD E x [a]))
  (h2:∀ x t ta tb a b,aC x=0→dX x.op=2→jh l x [ta,tb]=(t,0)→P ta a→P tb b→P t (dD E x [a,b]))
  (h3:∀ x t ta tb tc a b c,aC x=0→dX x.op=3→jh l x [ta,tb,tc]=(t,0)→P ta a→P tb b→P tc c→P t (dD E x [a,b,c])):P t (uA E e):=by
 obtain ⟨v,hp,f⟩:=h.ind E P h0 h1 h2 h3
 rw [KT (h.check d) f]
 exact hp
theorem af5 {l:List Sg} {e:List Nd} {t:Ty} (a:bW e=0) (E:dW) {i b:Nat} (f:i<e.length) (j:b≤i) (h:Tm l ((e.drop b).take (i+1 - b)) t):uA E ((e.drop b).take (i+1 - b))=(dL E e).getD i zO:=by
 have g:=(jc a).2.1
 have d:=h.val (by rw [List.length_take,List.length_drop];omega) E
 have c:=M_ (E:=E) a f
 have hs:e.take (i+1)=e.take b++(e.drop b).take (i+1 - b):=by
  conv=>lhs;rw [show i+1=b+(i+1 - b) by omega]
  rw [List.take_add]
 rw [hs,lW,d,List.getLast?_concat,Option.some.injEq] at c
 exact c
theorem U5 {l:List Sg} {e:List Nd} {t:Ty} (h:Tm l e t):∀ x ∈ e,∃ (ts:List Ty) (u:Ty),aC x=0∧jh l x ts=(u,0):=by
 induction h with
 |@n0 x t hw ha ht=>intro y d;rw [List.mem_singleton] at d;subst d;exact ⟨_,_,hw,ht⟩
 |@n1 x t ta a ma hw ha ht iha=>
  intro y d
  rcases List.mem_append.1 d with d|d
  ·exact iha y d
  ·rw [List.mem_singleton] at d;subst d;exact ⟨_,_,hw,ht⟩
 | @n2 x t ta tb a b ma mb hw ha ht iha ihb=>
  intro y d
  rcases List.mem_append.1 d with d|d
  ·rcases List.mem_append.1 d with d|d
   ·exact iha y d
   ·exact ihb y d
  ·rw [List.mem_singleton] at d;subst d;exact ⟨_,_,hw,ht⟩
 | @n3 x t ta tb tc a b c ma mb mc hw ha ht iha ihb ihc=>
  intro y d
  rcases List.mem_append.1 d with d|d
  ·rcases List.mem_append.1 d with d|d
   ·rcases List.mem_append.1 d with d|d
    ·exact iha y d
    ·exact ihb y d
   ·exact ihc y d
  ·rw [List.mem_singleton] at d;subst d;exact ⟨_,_,hw,ht⟩
theorem vw {l:List Sg} {x:Nd} {ts:List Ty} {t:Ty} (h:jh l x ts=(t,0)):(oV x.op=true→∃ s,lN l x.op x.name=some s)∧MB x.op.toNat ((lN l x.op x.name).getD zT) ts=(true,t):=by
 unfold jh ofR at h
 cases d:oV x.op with
 | false=>
  rw [d] at h
  refine ⟨fun h=>(by cases h), ?_⟩
  cases a:MB x.op.toNat ((lN l x.op x.name).getD zT) ts with
  |mk b u=>
   rw [a] at h
   cases b with
   |true=>simp at h;rw [h]
   |false=>simp at h
 | true=>
  rw [d] at h
  cases c:lN l x.op x.name with
  |none=>rw [c] at h;simp at h
  | some s=>
   rw [c] at h
   refine ⟨fun _=> ⟨s,rfl⟩, ?_⟩
   cases a:MB x.op.toNat ((some s).getD zT) ts with
   |mk b u=>
    rw [a] at h
    cases b with
    |true=>simp at h;rw [h]
    |false=>simp at h
theorem Tm.names {l:List Sg} {e:List Nd} {t:Ty} (h:Tm l e t):∀ x ∈ e,aC x=0∧(oV x.op=true→∃ s,lN l x.op x.name=some s):=by
 intro x b
 obtain ⟨ts,u,a,c⟩:=U5 h x b
 exact ⟨a,(vw c).1⟩
theorem Ii {E F:dW} {A:List (List Nat)}:∀ (r:List Nd) (os:List Oq),(∀ x ∈ r,∀ l,dD E x l=dD F x l)→MZ E A r os=MZ F A r os
 | [],_,_=>rfl
 |x::r,os,h=>by
  rw [MZ,MZ,h x (by simp),Ii r _ (fun y a=>h y (by simp [a]))]
theorem acY {E F:dW} {e:List Nd} (h:∀ x ∈ e,∀ l,dD E x l=dD F x l):dL E e=dL F e:=Ii e [] h
theorem aeP {E F:dW} {x:Nd} (b:5≤x.op→x.op≤8→Lp E.ls x.op x.name=Lp F.ls x.op x.name) (c:x.op=24→sqO E.qs x.name=sqO F.qs x.name) (l:List Oq):dD E x l=dD F x l:=by
 unfold dD
 split
 ·rfl
 ·split
  ·rw [b (by omega) (by assumption)]
  ·split
   ·split
    ·unfold JJ
     split
     ·rfl
     ·split
      ·rename_i a
       rw [c a]
      ·rfl
    ·rfl
   ·rfl
   ·rfl
   ·rfl
end Go.Proofs.Tryz
set_option maxRecDepth 100000
set_option linter.unusedVariables false
open Go AM
namespace Go.Proofs.Tryz
def okE (e:Int):Prop:=e=0∨e=3∨e=16
structure OQ (S:Prop) (t:Ty) (v:Oq):Prop where
 rt:ig t=true
 ok:v.ok
 bt:v.e=0→t.tr=true→v.bit=true
 er:S→okE v.e
structure RP (S:Prop) (l:List Sg) (E:dW):Prop where
 ln:∀ op nm t,5≤op→op≤8→lN l op nm=some t→(((Lp E.ls op nm).getD (.err 12)).e=0→t.tr=true→((Lp E.ls op nm).getD (.err 12)).bit=true)∧(S→okE ((Lp E.ls op nm).getD (.err 12)).e)
 sc:S→∀ nm t,lN l 24 nm=some t→∃ s,sqO E.qs nm=some s∧JS mW s.l=0
theorem rE (b:Bool):(AQ b).bit=true:=by cases b<;>simp [AQ,bR,Oq.bit,Oq.one,Oq.n,Oq.a,Oq.d]
theorem AX (q:RQ):okE (mM q).e:=by
 unfold mM;split
 ·exact .inl rfl
 ·exact .inr (.inl rfl)
theorem O5 (n:Bool) (a d:List UInt8):okE (uf n a d 0).e:=by
 unfold uf;rw [if_pos rfl];split
 ·exact .inl rfl
 ·exact .inr (.inl rfl)
theorem agA (l:List (RQ × RQ)) (x:RQ):okE (YB l x).e:=by
 unfold YB;split
 ·exact .inl rfl
 ·exact AX _
theorem yJ {l:List Sg} {op:Int} {nm:List UInt8} {t:Ty} (h:lN l op nm=some t):∃ s ∈ l,lS s op nm=true∧s.ty=t:=by
 unfold lN at h
 rw [Option.map_eq_some_iff] at h
 obtain ⟨s,a,b⟩:=h
 exact ⟨s,List.mem_of_find?_eq_some a,List.find?_some (p:=fun s=>lS s op nm) a,b⟩
theorem xq {l:List Sg} {op:Int} {nm:List UInt8} {t:Ty} (h:lN l op nm=some t):ig t=true∧(op=24→t.tr=false):=by
 obtain ⟨s,_,b,rfl⟩:=yJ h
 simp only [lS,Bool.and_eq_true,Bool.or_eq_true,Bool.not_eq_true'] at b
 obtain ⟨_,_,_,c,a⟩:=b
 refine ⟨c,fun h=> ?_⟩
 rcases a with a|a
 ·rw [h] at a;cases a
 ·exact a
theorem aaq {x:Nd} (h:aC x=0):iY x=true:=by
 cases a:iY x with
 |true=>rfl
 |false=>
  exfalso
  unfold aC at h
  rw [a] at h
  cases b:(!Z_ x.op||(!oV x.op && !(x.name== [])))<;>rw [b] at h<;>cases h
theorem Qg {d:Bool} {b c:List UInt8} {a:Nat} (h:wC d b c a=true):d=false∧b=ae a∧c=ae 1:=by
 simp only [wC,Bool.and_eq_true,beq_iff_eq] at h
 exact ⟨h.1,h.2.1,h.2.2.1⟩
theorem UD {e:Bool} {c d nm:List UInt8} (h:aC ⟨4,e,c,d,nm⟩=0):∃ b,uf e c d 0=AQ b:=by
 have a:=aaq h
 have a:(wC e c d 0||wC e c d 1)=true:=a
 rw [Bool.or_eq_true] at a
 have key:∀ b:Bool,uf false (ae (bR b).n) (ae (bR b).d) 0=AQ b:=fun b=>by
  have f:=tu b
  have:=u_ (q:=bR b) (U8 b)
  rw [show (bR b).neg=false by cases b<;>rfl] at this
  rw [this]
  unfold mM
  rw [if_pos f.2];rfl
 rcases a with a|a
 ·obtain ⟨rfl,rfl,rfl⟩:=Qg a
  exact ⟨false,key false⟩
 ·obtain ⟨rfl,rfl,rfl⟩:=Qg a
  exact ⟨true,key true⟩
section
variable {S:Prop} {l:List Sg} {E:dW}
theorem OQ.tru {b:Bool}:OQ S ⟨true,0,0⟩ (AQ b):=⟨rfl,tu b,fun _ _=>rE b,fun _=> .inl rfl⟩
theorem akH {op:Int} (h:dX op=0) (b:1≤op) (a:op≤24):op≤8:=by
 unfold dX at h
 split at h
 ·cases h
 ·split at h
  ·cases h
  ·split at h
   ·cases h
   ·omega
theorem akI {op:Int} (h:dX op=1):op=20∨op=21∨op=22∨op=23∨op=24:=by
 unfold dX at h
 split at h
 ·cases h
 ·split at h
  ·cases h
  ·split at h
   ·omega
   ·cases h
theorem akJ {op:Int} (h:dX op=2):op=9∨op=10∨op=11∨op=12∨op=13∨op=14∨op=16∨op=17∨op=18∨op=19:=by
 unfold dX at h
 split at h
 ·cases h
 ·split at h
  ·omega
  ·split at h<;>cases h
theorem akK {op:Int} (h:dX op=3):op=15:=by
 unfold dX at h
 split at h
 ·assumption
 ·split at h
  ·cases h
  ·split at h<;>cases h
theorem afL (r:RP S l E) (x:Nd) (t:Ty) (m:aC x=0) (v:dX x.op=0) (q:jh l x []=(t,0)):OQ S t (dD E x []):=by
 have d:=rG m
 have e:=akH v d.1 d.2
 obtain ⟨n,a⟩:=vw q
 have c:(dD E x []).ok:=uN (by simp)
 obtain ⟨op,g,j,k,nm⟩:=x
 simp only at d e n a
 by_cases h4:op≤4
 ·have f:dD E ⟨op,g,j,k,nm⟩ []=uf g j k 0:=by unfold dD;rw [if_pos h4]
  rw [f] at c ⊢
  rcases (show op=1∨op=2∨op=3∨op=4 by omega) with rfl|rfl|rfl|rfl
  ·have a:(true,(⟨false,1,0⟩:Ty))=(true,t):=a
   cases a
   exact ⟨rfl,c,fun _ h=>(by cases h),fun _=>O5 _ _ _⟩
  ·have a:(true,(⟨false,0,1⟩:Ty))=(true,t):=a
   cases a
   exact ⟨rfl,c,fun _ h=>(by cases h),fun _=>O5 _ _ _⟩
  ·have a:(true,(⟨false,0,0⟩:Ty))=(true,t):=a
   cases a
   exact ⟨rfl,c,fun _ h=>(by cases h),fun _=>O5 _ _ _⟩
  ·have a:(true,(⟨true,0,0⟩:Ty))=(true,t):=a
   cases a
   obtain ⟨b,u⟩:=UD m
   rw [u]
   exact OQ.tru
 ·have f:dD E ⟨op,g,j,k,nm⟩ []=(Lp E.ls op nm).getD (.err 12):=by unfold dD;rw [if_neg h4,if_pos e]
  rw [f] at c ⊢
  obtain ⟨s,hs⟩:=n (by unfold oV;exact decide_eq_true (.inl ⟨by omega,e⟩))
  rw [hs] at a
  have i:s=t:=by
   rcases (show op=5∨op=6∨op=7∨op=8 by omega) with rfl|rfl|rfl|rfl<;>(have a:(true,s)=(true,t):=a;cases a;rfl)
  subst i
  obtain ⟨p,o⟩:=r.ln op nm s (by omega) e hs
  exact ⟨(xq hs).1,c,p,o⟩
theorem afM (y:RP S l E) (x:Nd) (t f:Ty) (a:Oq) (B:aC x=0) (z:dX x.op=1) (w:jh l x [f]=(t,0)) (i:OQ S f a):OQ S t (dD E x [a]):=by
 obtain ⟨n,b⟩:=vw w
 have c:(dD E x [a]).ok:=uN (by simp;exact i.ok)
 have g:=akI z
 obtain ⟨op,o,p,r,nm⟩:=x
 simp only at g n b
 have v:dD E ⟨op,o,p,r,nm⟩ [a]=if a.e=0 then JJ E.qs op nm (vQ o p r) a else a:=by unfold dD;rw [if_neg (by simp only;omega),if_neg (by simp only;omega)]
 rw [v] at c ⊢
 have e:ig t=true∧(op ≠ 20→t.tr=false)∧(op=20→f.tr=true∧t=⟨true,0,0⟩):=by
  rcases g with rfl|rfl|rfl|rfl|rfl
  ·have b:(f.tr,(⟨true,0,0⟩:Ty))=(true,t):=b
   rw [Prod.mk.injEq] at b
   rw [← b.2]
   exact ⟨rfl,fun h=>absurd rfl h,fun _=> ⟨b.1,rfl⟩⟩
  all_goals try (
   have b:(uO [f],f)=(true,t):=b
   rw [Prod.mk.injEq] at b
   obtain ⟨k,rfl⟩:=b
   exact ⟨i.rt,fun _=>by simpa [uO] using k,fun h=>by omega⟩)
  obtain ⟨s,hs⟩:=n rfl
  rw [hs] at b
  have b:(N8 f s,s)=(true,t):=b
  rw [Prod.mk.injEq] at b
  obtain ⟨k,rfl⟩:=b
  exact ⟨(xq hs).1,fun _=>(xq hs).2 rfl,fun h=>by omega⟩
 by_cases za:a.e=0
 ·rw [if_pos za] at c ⊢
  refine ⟨e.1,c,fun _ j=> ?_,fun A=> ?_⟩
  ·by_cases d:op=20
   ·unfold JJ
    rw [if_pos d,if_pos (i.bt za (e.2.2 d).1)]
    exact rE _
   ·rw [e.2.1 d] at j;cases j
  ·unfold JJ
   split
   ·rename_i d
    rw [if_pos (i.bt za (e.2.2 d).1)]
    exact .inl rfl
   ·split
    ·rename_i m
     subst m
     obtain ⟨s,hs⟩:=n rfl
     obtain ⟨q,k,u⟩:=y.sc A nm s hs
     rw [k]
     simp only
     unfold YV
     rw [if_pos u]
     exact agA _ _
    ·repeat' split
     all_goals exact AX _
 ·rw [if_neg za] at c ⊢
  exact ⟨e.1,c,fun h=>absurd h za,i.er⟩
theorem afN (B:RP S l E) (x:Nd) (t d tb:Ty) (a b:Oq) (A:aC x=0) (z:dX x.op=2) (s:jh l x [d,tb]=(t,0)) (k:OQ S d a) (n:OQ S tb b):OQ S t (dD E x [a,b]):=by
 obtain ⟨v,c⟩:=vw s
 have e:(dD E x [a,b]).ok:=uN (by simp;exact ⟨k.ok,n.ok⟩)
 have m:=akJ z
 obtain ⟨op,r,w,y,nm⟩:=x
 simp only at m v c
 have q:dD E ⟨op,r,w,y,nm⟩ [a,b]=if a.e=0 then (if b.e=0 then E8 op a b else b) else a:=by unfold dD;rw [if_neg (by simp only;omega),if_neg (by simp only;omega)]
 rw [q] at e ⊢
 have f:ig t=true∧(op≤14→t.tr=false)∧(18≤op→d.tr=true∧tb.tr=true):=by
  rcases m with rfl|rfl|rfl|rfl|rfl|rfl|rfl|rfl|rfl|rfl
  case inl|inr.inl|inr.inr.inr.inr.inl|inr.inr.inr.inr.inr.inl=>
   have c:(N8 d tb && uO [d,tb],d)=(true,t):=c
   rw [Prod.mk.injEq,Bool.and_eq_true] at c
   obtain ⟨⟨j,i⟩,rfl⟩:=c
   simp only [uO,List.all_cons,Bool.and_eq_true,Bool.not_eq_true'] at i
   exact ⟨k.rt,fun _=>i.1,fun h=>by omega⟩
  case inr.inr.inl=>
   have c:(uO [d,tb] && ig ⟨false,IntKind.wrap .i64 (d.m+tb.m),IntKind.wrap .i64 (d.d+tb.d)⟩,(⟨false,IntKind.wrap .i64 (d.m+tb.m),IntKind.wrap .i64 (d.d+tb.d)⟩:Ty))=(true,t):=c
   rw [Prod.mk.injEq,Bool.and_eq_true] at c
   obtain ⟨⟨j,i⟩,rfl⟩:=c
   exact ⟨i,fun _=>rfl,fun h=>by omega⟩
  case inr.inr.inr.inl=>
   have c:(uO [d,tb] && ig ⟨false,IntKind.wrap .i64 (d.m - tb.m),IntKind.wrap .i64 (d.d - tb.d)⟩,(⟨false,IntKind.wrap .i64 (d.m - tb.m),IntKind.wrap .i64 (d.d - tb.d)⟩:Ty))=(true,t):=c
   rw [Prod.mk.injEq,Bool.and_eq_true] at c
   obtain ⟨⟨j,i⟩,rfl⟩:=c
   exact ⟨i,fun _=>rfl,fun h=>by omega⟩
  all_goals try (
   have c:(d.tr && tb.tr,(⟨true,0,0⟩:Ty))=(true,t):=c
   rw [Prod.mk.injEq,Bool.and_eq_true] at c
   obtain ⟨j,rfl⟩:=c
   exact ⟨rfl,fun h=>by omega,fun _=>j⟩)
  ·have c:(N8 d tb && uO [d,tb],(⟨true,0,0⟩:Ty))=(true,t):=c
   rw [Prod.mk.injEq] at c
   obtain ⟨j,rfl⟩:=c
   exact ⟨rfl,fun h=>by omega,fun h=>by omega⟩
  ·have c:(N8 d tb,(⟨true,0,0⟩:Ty))=(true,t):=c
   rw [Prod.mk.injEq] at c
   obtain ⟨j,rfl⟩:=c
   exact ⟨rfl,fun h=>by omega,fun h=>by omega⟩
 by_cases za:a.e=0
 ·rw [if_pos za] at e ⊢
  by_cases zb:b.e=0
  ·rw [if_pos zb] at e ⊢
   have g:18≤op→(a.bit && b.bit)=true:=fun h=>by
    rw [k.bt za (f.2.2 h).1,n.bt zb (f.2.2 h).2];rfl
   refine ⟨f.1,e,fun _ o=> ?_,fun p=> ?_⟩
   ·have u:¬ op≤14:=fun h=>by rw [f.2.1 h] at o;cases o
    unfold E8
    rw [if_neg (by omega),if_neg (by omega),if_neg (by omega),if_neg (by omega),if_neg (by omega),if_neg (by omega)]
    split
    ·exact rE _
    ·split
     ·exact rE _
     ·rw [if_pos (g (by omega))];exact rE _
   ·unfold E8
    split
    ·exact AX _
    ·split
     ·exact AX _
     ·split
      ·exact AX _
      ·split
       ·split
        ·exact .inr (.inr rfl)
        ·exact AX _
       ·split
        ·split
         ·exact n.er p
         ·exact k.er p
        ·split
         ·split
          ·exact n.er p
          ·exact k.er p
         ·split
          ·exact .inl rfl
          ·split
           ·exact .inl rfl
           ·rw [if_pos (g (by omega))];exact .inl rfl
  ·rw [if_neg zb] at e ⊢
   exact ⟨f.1,e,fun h=>absurd h zb,n.er⟩
 ·rw [if_neg za] at e ⊢
  exact ⟨f.1,e,fun h=>absurd h za,k.er⟩
theorem ad1 {a b:Ty} (h:N8 a b=true):a=b:=by
 simp only [N8,Bool.and_eq_true,beq_iff_eq] at h
 obtain ⟨e,c,i⟩:=a
 obtain ⟨f,d,g⟩:=b
 simp only at h
 rw [h.1,h.2.1,h.2.2.1]
theorem afO (z:RP S l E) (x:Nd) (t g tb i:Ty) (a b c:Oq) (y:aC x=0) (w:dX x.op=3) (q:jh l x [g,tb,i]=(t,0)) (j:OQ S g a) (k:OQ S tb b) (r:OQ S i c):OQ S t (dD E x [a,b,c]):=by
 obtain ⟨s,e⟩:=vw q
 have d:=akK w
 obtain ⟨op,p,u,v,nm⟩:=x
 simp only at d s e
 subst d
 have n:dD E ⟨15,p,u,v,nm⟩ [a,b,c]=Sr a b c:=rfl
 rw [n]
 have e:(g.tr && N8 tb i,tb)=(true,t):=e
 rw [Prod.mk.injEq,Bool.and_eq_true] at e
 obtain ⟨⟨o,m⟩,rfl⟩:=e
 have:=ad1 m
 subst this
 unfold Sr
 split
 ·rename_i f
  rw [if_pos (j.bt f o)]
  split
  ·exact k
  ·exact r
 ·rename_i f
  exact ⟨k.rt,j.ok,fun h=>absurd h f,j.er⟩
theorem Tm.sound (f:RP S l E) {e:List Nd} {t:Ty} (h:Tm l e t) (i:e.length≤60):OQ S t (uA E e):=
 h.evalP i E (OQ S) (afL f) (fun x t d a=>afM f x t d a) (fun x t d tb a b=>afN f x t d tb a b) (fun x t d tb g a b c=>afO f x t d tb g a b c)
end
end Go.Proofs.Tryz
set_option maxRecDepth 100000
set_option linter.unusedVariables false
open Go AM
namespace Go.Proofs.Tryz
structure xX (er:Bool) (t:Ty) (x:Lk):Prop where
 sz:x.a.length<2^36∧x.d.length<2^36
 er:er=false→x.e=0
 vl:x.e=0→∃ q:RQ,q.ok∧jV q=true∧UM x= .val q∧(t.tr=true→∃ b,q=bR b)
theorem xX.val {c:Bool} {t:Ty} {op:Int} {nm:List UInt8} {q:RQ} (a:GH 64 q) (d:t.tr=true→∃ b,q=bR b):xX c t ⟨op,nm,q.neg,ae q.n,ae q.d,0⟩ where
 sz:=⟨Nat.lt_trans (fF a.2.1 (by omega)) (by decide),Nat.lt_trans (fF a.2.2 (by omega)) (by decide)⟩
 er _:=rfl
 vl _:=⟨q,a.1,rY a (by omega),by
  show uf q.neg (ae q.n) (ae q.d) 0=_
  rw [u_ a.1];unfold mM;rw [if_pos (rY a (by omega))],d⟩
theorem xX.err {a:Bool} {t:Ty} {op:Int} {nm:List UInt8} {e:Int} (b:e ≠ 0) (c:a=true):xX a t ⟨op,nm,false,[],[],e⟩ where
 sz:=⟨Nat.two_pow_pos _,Nat.two_pow_pos _⟩
 er h:=by rw [c] at h;cases h
 vl h:=absurd h b
def tH (er:Bool):List Sg→List Lk→Prop
 | [],[]=>True
 |s::r,x::l=>(x.op=s.op∧x.nm=s.name∧xX er s.ty x)∧tH er r l
 |_,_=>False
def qC:List Sg→List Sq→Prop
 | [],[]=>True
 |s::r,q::l=>(q.nm=s.name∧q.l.length≤8∧(∀ b ∈ q.l,b.s28)∧JS mW q.l=0)∧qC r l
 |_,_=>False
theorem acM {r:Nat} (h:r<4):∃ e:Int,e ≠ 0∧AV.int .i64 (AV.toInt (List.headD (List.drop ((0+(Int.toNat (r:Int)))*1) [.int .i64 17,.int .i64 16,.int .i64 12,.int .i64 3]) .dead))= .int .i64 e∧chk (.int .i64) (List.headD (List.drop ((0+(Int.toNat (r:Int)))*1) [.int .i64 17,.int .i64 16,.int .i64 12,.int .i64 3]) .dead)=true:=by
 rcases (show r=0∨r=1∨r=2∨r=3 by omega) with rfl|rfl|rfl|rfl
 ·exact ⟨17,by decide,rfl,rfl⟩
 ·exact ⟨16,by decide,rfl,rfl⟩
 ·exact ⟨12,by decide,rfl,rfl⟩
 ·exact ⟨3,by decide,rfl,rfl⟩
theorem QX (e:Int):CO 47 [.int .i64 e] (.ret (.agg [.bool false,.str [],.str [],.int .i64 e])):=pK [] 0 0 (.n 5 .nil) (.nil)
def emL (ls:List Lk):AV:=match ls with| []=> .nilS|_::_=> .ref 3 0 0 ls.length
def akT (ls:List Lk):Hp:=match ls with| []=> []|_::_=> [(3,⟨kE ls,0,false,0,6,true⟩)]
def emQ (qs:List Sc):AV:=match qs with| []=> .nilS|_::_=> .ref 4 0 0 qs.length
def akU (qs:List Sc):Hp:=match qs with| []=> []|_::_=> [(4,⟨kS qs,0,false,0,4,true⟩)]
def emP (ls:List Lk):Bool:=match ls with| []=>true|_::_=>false
abbrev Qb (sg:List Sg) (ng er:Bool) (xs:List Int) (nn:Bool) (p:Nat × List Lk × List Sc):St:=⟨[(0,.sl (gV sg) sg.length ng),(2,.bool er),(6,.ptr 0 0 0),(7,.ptr 1 0 0),(8,.ptr 2 0 0),(9,.int .i64 ((p.2.1.length+p.2.2.length:Nat):Int))],[(0,⟨[.nilS,.nilS],0,false,0,0,true⟩),(1,⟨[emL p.2.1,emQ p.2.2],0,false,0,0,emP p.2.1⟩),(2,dB xs nn p.1)]++(akT p.2.1++akU p.2.2),.dead,[]⟩
abbrev emO (p:Nat × List Lk × List Sc):St:=⟨[(6,.ptr 0 0 0),(7,.ptr 1 0 0)],[(0,⟨[.nilS,.nilS],0,false,0,0,true⟩),(1,⟨[.ref 2 0 0 p.2.1.length,.ref 3 0 0 p.2.2.length],0,false,0,0,false⟩),(2,⟨kE p.2.1,0,false,0,6,true⟩),(3,⟨kS p.2.2,0,false,0,4,true⟩)],.dead,[]⟩
theorem Jc (l:List Lk):(kE l).length=l.length*6:=nX lkC 6 (fun _=>rfl) l
theorem WL (l:List Lk) (x:Lk):List.take (l.length*6) (kE l)++lkC x=kE (l++ [x]):=by
 rw [List.take_of_length_le (by rw [Jc];exact Nat.le_refl _)]
 unfold kE;rw [List.flatMap_append];simp
theorem JI (l:List Sc):(kS l).length=l.length*4:=nX Q5 4 (fun _=>rfl) l
theorem XU (l:List Sc) (x:Sc):List.take (l.length*4) (kS l)++Q5 x=kS (l++ [x]):=by
 rw [List.take_of_length_le (by rw [JI];exact Nat.le_refl _)]
 unfold kS;rw [List.flatMap_append];simp
theorem ahi (b:List Sg) (d c:Bool) (xs:List Int) (nn:Bool) (k:Nat) (ls:List Lk) (x:Lk):Qb b d c xs nn (k,ls++ [x],[])=⟨[(0,.sl (gV b) b.length d),(2,.bool c),(6,.ptr 0 0 0),(7,.ptr 1 0 0),(8,.ptr 2 0 0),(9,.int .i64 ((ls.length+1:Nat):Int))],[(0,⟨[.nilS,.nilS],0,false,0,0,true⟩),(1,⟨[.ref 3 0 0 (ls.length+1),.nilS],0,false,0,0,false⟩),(2,dB xs nn k),(3,⟨List.take (ls.length*6) (kE ls)++lkC x,0,false,0,6,true⟩)],.dead,[]⟩:=by
 rw [WL]
 cases ls with
 |nil=>rfl
 |cons a r=>
  show (⟨[(0,_),(2,_),(6,_),(7,_),(8,_),(9,.int .i64 (((a::(r++ [x])).length+0:Nat):Int))],[(0,_),(1,⟨[.ref 3 0 0 (a::(r++ [x])).length,_],_,_,_,_,_⟩),(2,_),(3,_)],_,_⟩:St)=_
  rw [show (a::(r++ [x])).length=(a::r).length+1 by simp]
  rfl
theorem acy (b:List Sg) (d c:Bool) (xs:List Int) (nn:Bool) (k:Nat) (ls:List Lk) (h:ls ≠ []):Qb b d c xs nn (k,ls,[])=⟨[(0,.sl (gV b) b.length d),(2,.bool c),(6,.ptr 0 0 0),(7,.ptr 1 0 0),(8,.ptr 2 0 0),(9,.int .i64 (ls.length:Int))],[(0,⟨[.nilS,.nilS],0,false,0,0,true⟩),(1,⟨[.ref 3 0 0 ls.length,.nilS],0,false,0,0,false⟩),(2,dB xs nn k),(3,⟨kE ls,0,false,0,6,true⟩)],.dead,[]⟩:=by
 cases ls with
 |nil=>exact absurd rfl h
 |cons a r=>rfl
theorem VF (c:List Sg) (e d:Bool) (xs:List Int) (nn:Bool) (k:Nat) (ls:List Lk) (qs:List Sc) (h:ls ≠ []) (f:qs ≠ []):Qb c e d xs nn (k,ls,qs)=⟨[(0,.sl (gV c) c.length e),(2,.bool d),(6,.ptr 0 0 0),(7,.ptr 1 0 0),(8,.ptr 2 0 0),(9,.int .i64 ((ls.length+qs.length:Nat):Int))],[(0,⟨[.nilS,.nilS],0,false,0,0,true⟩),(1,⟨[.ref 3 0 0 ls.length,.ref 4 0 0 qs.length],0,false,0,0,false⟩),(2,dB xs nn k),(3,⟨kE ls,0,false,0,6,true⟩),(4,⟨kS qs,0,false,0,4,true⟩)],.dead,[]⟩:=by
 cases ls with
 |nil=>exact absurd rfl h
 |cons a r=>
  cases qs with
  |nil=>exact absurd rfl f
  |cons b t=>rfl
theorem MK {p r:List Sg} {s:Sg} {k:Nat} (h:k=p.length):List.drop (Int.toNat (k:Int)*5) (gV (p++s::r))=YE s++gV r:=by
 subst h
 rw [aJ]
 unfold gV
 rw [List.flatMap_append,List.flatMap_cons,← nX YE 5 (fun _=>rfl) p,List.drop_left]
theorem Zw (q:List Sg) (K t:Bool) (s:Sg) (hs:s.op ≠ 24) (xs:List Int) (nn:Bool) (k:Nat) (ls:List Lk) (rx:List AV) (o:List.drop (Int.toNat (ls.length:Int)*5) (gV q)=YE s++rx) (hj:ls.length<q.length) (h20:q.length<20) (i:xs.length<2^63) (hk:k≤xs.length):
  ∃ (x:Lk) (Y:Nat),Y≤xs.length∧x.op=s.op∧x.nm=s.name∧xX t s.ty x∧∀ nt,87≤nt→au prog ap [] nt (af 0 (ah f58)) (Qb q K t xs nn (k,ls,[])) .normal (Qb q K t xs nn (Y,ls++ [x],[])):=by
 obtain ⟨m,k1,hr0,u,d⟩:=dw xs nn k 80 i hk (by omega) (by omega)
 obtain ⟨X,k2,hr1,D,z⟩:=dw xs nn k1 9 i u (by omega) (by omega)
 obtain ⟨r2,k3,F,hk3,L⟩:=dw xs nn k2 4 i D (by omega) (by omega)
 obtain ⟨r3,k4,G,Z,T⟩:=dw xs nn k1 4 i u (by omega) (by omega)
 obtain ⟨e2,U,P,R⟩:=acM F
 obtain ⟨e3,V,Q,O⟩:=acM G
 have j:=kG ((m:Int) - 20) (by omega) (by omega)
 have e1:IntKind.wrap .i64 ((m:Int) - ((20:Nat):Int))=(m:Int) - 20:=bF (by omega) (by omega)
 rw [← e1] at j
 have I:(mf (IntKind.wrap .i64 ((m:Int) - ((20:Nat):Int)))).neg=true→0<(mf (IntKind.wrap .i64 ((m:Int) - ((20:Nat):Int)))).n:=by
  rw [e1];intro h;simp only [mf,decide_eq_true_eq] at h ⊢;omega
 have g:(mf (IntKind.wrap .i64 ((m:Int) - ((20:Nat):Int)))).n<64:=by rw [e1];simp only [mf];omega
 have hd:(mf (IntKind.wrap .i64 ((m:Int) - ((20:Nat):Int)))).d=1:=rfl
 generalize mf (IntKind.wrap .i64 ((m:Int) - ((20:Nat):Int)))=w at j I g hd
 have hq:qA w=qA ⟨w.neg,w.n,1⟩:=by unfold qA;rw [hd]
 have sw:GH 64 w:=⟨by obtain ⟨a,b,c⟩:=w;simp only at hd;subst hd;exact CX I,by omega,by omega⟩
 have B:CO 48 [.int .i64 (IntKind.wrap .i64 ((X:Int)+((2:Nat):Int)))] (.ret (qA ⟨false,X+2,1⟩)):=by
  rw [show IntKind.wrap .i64 ((X:Int)+((2:Nat):Int))=((X+2:Nat):Int) from (bF (by omega) (by omega)).trans (by omega)]
  exact LX _ (by omega)
 have r:=LY w.neg w.n (X+2) I (by omega) (by omega) (by omega)
 rw [← hq] at r
 have l1:=xx w.neg w.n (X+2)
 have sv:GH 64 (iq w.neg w.n (X+2)):=⟨mY (by omega),by omega,by omega⟩
 generalize iq w.neg w.n (X+2)=v at r sv l1
 have y:CO 48 [.int .i64 (Int.tmod (m:Int) ((2:Nat):Int))] (.ret (qA (bR (decide (m % 2=1))))):=by
  rw [um]
  have:=LX (m % 2) (by omega)
  rcases (show m % 2=0∨m % 2=1 by omega) with h|h
  ·rw [h] at this ⊢;exact this
  ·rw [h] at this ⊢;exact this
 have hb:bR (decide (m % 2=1))=bR (decide (m % 2=1)):=rfl
 have J:GH 64 (bR (decide (m % 2=1))):=⟨U8 _,by cases decide (m % 2=1)<;>decide,by cases decide (m % 2=1)<;>decide⟩
 generalize hw3:bR (decide (m % 2=1))=w3 at y J
 have hb:w3=bR (decide (m % 2=1)):=hw3.symm
 have M:=QX e2
 have N:=QX e3
 have f:decide ((ls.length:Int)<(q.length:Int))=true:=decide_eq_true (by omega)
 have e:(s.op==((24:Nat):Int))=false:=beq_eq_false_iff_ne.2 hs
 have p:AV.int .i64 (IntKind.wrap .i64 ((ls.length:Int)+((1:Nat):Int)))=AV.int .i64 ((ls.length+1:Nat):Int):=Ci (by omega)
 have A:Nat.ble (ls.length+1) 1099511627776=true:=Nat.ble_eq_true_of_le (by omega)
 have C:Nat.ble (ls.length*6) (List.length (kE ls))=true:=Nat.ble_eq_true_of_le (by rw [Jc];exact Nat.le_refl _)
 have n:∀ (x:Lk) (Y nt:Nat),(ls= []→au prog ap [] nt (af 0 (ah f58)) (Qb q K t xs nn (k,[],[])) .normal (Qb q K t xs nn (Y,[x],[])))→
   (au prog ap [] nt (af 0 (ah f58)) ⟨[(0,.sl (gV q) q.length K),(2,.bool t),(6,.ptr 0 0 0),(7,.ptr 1 0 0),(8,.ptr 2 0 0),(9,.int .i64 (ls.length:Int))],[(0,⟨[.nilS,.nilS],0,false,0,0,true⟩),(1,⟨[.ref 3 0 0 ls.length,.nilS],0,false,0,0,false⟩),(2,dB xs nn k),(3,⟨kE ls,0,false,0,6,true⟩)],.dead,[]⟩ .normal
    ⟨[(0,.sl (gV q) q.length K),(2,.bool t),(6,.ptr 0 0 0),(7,.ptr 1 0 0),(8,.ptr 2 0 0),(9,.int .i64 ((ls.length+1:Nat):Int))],[(0,⟨[.nilS,.nilS],0,false,0,0,true⟩),(1,⟨[.ref 3 0 0 (ls.length+1),.nilS],0,false,0,0,false⟩),(2,dB xs nn Y),(3,⟨List.take (ls.length*6) (kE ls)++lkC x,0,false,0,6,true⟩)],.dead,[]⟩)→
   au prog ap [] nt (af 0 (ah f58)) (Qb q K t xs nn (k,ls,[])) .normal (Qb q K t xs nn (Y,ls++ [x],[])):=by
  intro x Y nt h1 h2
  by_cases hz:ls= []
  ·have h1:=h1 hz
   rw [hz];exact h1
  ·rw [acy q K t xs nn k ls hz,ahi];exact h2
 rcases tf ((Int.tmod (m:Int) ((3:Nat):Int))==((0:Nat):Int)) with d0|d0
 ·rcases tf s.ty.tr with d1|d1
  ·rcases tf t with d2|d2
   ·rcases tf ((Int.tmod (m:Int) ((7:Nat):Int))==((0:Nat):Int)) with d3|d3
    ·refine ⟨⟨s.op,s.name,false,[],[],e2⟩,k3,hk3,rfl,rfl,.err U d2,fun nt g=> ?_⟩
     exact n _ _ nt (fun i=>by subst i;exact pN 58 [] 7 61 (.k 12 R (.c (nJ r2) (.c (kR F) (.c (aG d3) (.k 1 (aG d2) (.k 6 (aG d1) (.k 5 (aG d0) (.k 2 (aF e) (.k 7 (nJ 0) (.c f (.c (aG f) .nil))))))))))) (.v 22 (.eq p) (.c M (.v 73 (.eq P) (.c L (.c y (.c r (.c B (.c z (.c j (.c d (.v 25 (.ppt o) .nil))))))))))) g) (pN 58 [] 6 61 (.k 2 A (.c C (.k 9 R (.c (nJ r2) (.c (kR F) (.c (aG d3) (.k 1 (aG d2) (.k 6 (aG d1) (.k 5 (aG d0) (.k 2 (aF e) (.k 7 (nJ ls.length) (.c f (.c (aG f) .nil))))))))))))) (.v 22 (.eq p) (.c M (.v 73 (.eq P) (.c L (.c y (.c r (.c B (.c z (.c j (.c d (.v 25 (.ppt o) .nil))))))))))) g)
    ·refine ⟨⟨s.op,s.name,w3.neg,ae w3.n,ae w3.d,0⟩,k2,D,rfl,rfl,.val J (fun _=> ⟨_,hb⟩),fun nt g=> ?_⟩
     exact n _ _ nt (fun i=>by subst i;exact pN 58 [] 7 29 (.k 11 (aF d3) (.k 1 (aG d2) (.k 6 (aG d1) (.k 5 (aG d0) (.k 2 (aF e) (.k 7 (nJ 0) (.c f (.c (aG f) .nil)))))))) (.v 22 (.eq p) (.c y (.c r (.c B (.c z (.c j (.c d (.v 25 (.ppt o) .nil)))))))) g) (pN 58 [] 6 29 (.k 2 A (.c C (.k 8 (aF d3) (.k 1 (aG d2) (.k 6 (aG d1) (.k 5 (aG d0) (.k 2 (aF e) (.k 7 (nJ ls.length) (.c f (.c (aG f) .nil)))))))))) (.v 22 (.eq p) (.c y (.c r (.c B (.c z (.c j (.c d (.v 25 (.ppt o) .nil)))))))) g)
   ·refine ⟨⟨s.op,s.name,w3.neg,ae w3.n,ae w3.d,0⟩,k2,D,rfl,rfl,.val J (fun _=> ⟨_,hb⟩),fun nt g=> ?_⟩
    exact n _ _ nt (fun i=>by subst i;exact pN 58 [] 7 13 (.k 12 (aF d2) (.k 6 (aG d1) (.k 5 (aG d0) (.k 2 (aF e) (.k 7 (nJ 0) (.c f (.c (aG f) .nil))))))) (.v 22 (.eq p) (.c y (.c r (.c B (.c z (.c j (.c d (.v 25 (.ppt o) .nil)))))))) g) (pN 58 [] 6 13 (.k 2 A (.c C (.k 9 (aF d2) (.k 6 (aG d1) (.k 5 (aG d0) (.k 2 (aF e) (.k 7 (nJ ls.length) (.c f (.c (aG f) .nil))))))))) (.v 22 (.eq p) (.c y (.c r (.c B (.c z (.c j (.c d (.v 25 (.ppt o) .nil)))))))) g)
  ·rcases tf t with d2|d2
   ·rcases tf ((Int.tmod (m:Int) ((7:Nat):Int))==((0:Nat):Int)) with d3|d3
    ·refine ⟨⟨s.op,s.name,false,[],[],e2⟩,k3,hk3,rfl,rfl,.err U d2,fun nt g=> ?_⟩
     exact n _ _ nt (fun i=>by subst i;exact pN 58 [] 7 53 (.k 12 R (.c (nJ r2) (.c (kR F) (.c (aG d3) (.k 1 (aG d2) (.k 4 (aF d1) (.k 5 (aG d0) (.k 2 (aF e) (.k 7 (nJ 0) (.c f (.c (aG f) .nil))))))))))) (.v 22 (.eq p) (.c M (.v 73 (.eq P) (.c L (.c r (.c B (.c z (.c j (.c d (.v 25 (.ppt o) .nil)))))))))) g) (pN 58 [] 6 53 (.k 2 A (.c C (.k 9 R (.c (nJ r2) (.c (kR F) (.c (aG d3) (.k 1 (aG d2) (.k 4 (aF d1) (.k 5 (aG d0) (.k 2 (aF e) (.k 7 (nJ ls.length) (.c f (.c (aG f) .nil))))))))))))) (.v 22 (.eq p) (.c M (.v 73 (.eq P) (.c L (.c r (.c B (.c z (.c j (.c d (.v 25 (.ppt o) .nil)))))))))) g)
    ·refine ⟨⟨s.op,s.name,v.neg,ae v.n,ae v.d,0⟩,k2,D,rfl,rfl,.val sv (fun h=>by rw [d1] at h;cases h),fun nt g=> ?_⟩
     exact n _ _ nt (fun i=>by subst i;exact pN 58 [] 7 21 (.k 11 (aF d3) (.k 1 (aG d2) (.k 4 (aF d1) (.k 5 (aG d0) (.k 2 (aF e) (.k 7 (nJ 0) (.c f (.c (aG f) .nil)))))))) (.v 22 (.eq p) (.c r (.c B (.c z (.c j (.c d (.v 25 (.ppt o) .nil))))))) g) (pN 58 [] 6 21 (.k 2 A (.c C (.k 8 (aF d3) (.k 1 (aG d2) (.k 4 (aF d1) (.k 5 (aG d0) (.k 2 (aF e) (.k 7 (nJ ls.length) (.c f (.c (aG f) .nil)))))))))) (.v 22 (.eq p) (.c r (.c B (.c z (.c j (.c d (.v 25 (.ppt o) .nil))))))) g)
   ·refine ⟨⟨s.op,s.name,v.neg,ae v.n,ae v.d,0⟩,k2,D,rfl,rfl,.val sv (fun h=>by rw [d1] at h;cases h),fun nt g=> ?_⟩
    exact n _ _ nt (fun i=>by subst i;exact pN 58 [] 7 5 (.k 12 (aF d2) (.k 4 (aF d1) (.k 5 (aG d0) (.k 2 (aF e) (.k 7 (nJ 0) (.c f (.c (aG f) .nil))))))) (.v 22 (.eq p) (.c r (.c B (.c z (.c j (.c d (.v 25 (.ppt o) .nil))))))) g) (pN 58 [] 6 5 (.k 2 A (.c C (.k 9 (aF d2) (.k 4 (aF d1) (.k 5 (aG d0) (.k 2 (aF e) (.k 7 (nJ ls.length) (.c f (.c (aG f) .nil))))))))) (.v 22 (.eq p) (.c r (.c B (.c z (.c j (.c d (.v 25 (.ppt o) .nil))))))) g)
 ·rcases tf s.ty.tr with d1|d1
  ·rcases tf t with d2|d2
   ·rcases tf ((Int.tmod (m:Int) ((7:Nat):Int))==((0:Nat):Int)) with d3|d3
    ·refine ⟨⟨s.op,s.name,false,[],[],e3⟩,k4,Z,rfl,rfl,.err V d2,fun nt g=> ?_⟩
     exact n _ _ nt (fun i=>by subst i;exact pN 58 [] 7 57 (.k 12 O (.c (nJ r3) (.c (kR G) (.c (aG d3) (.k 1 (aG d2) (.k 6 (aG d1) (.k 1 (aF d0) (.k 2 (aF e) (.k 7 (nJ 0) (.c f (.c (aG f) .nil))))))))))) (.v 22 (.eq p) (.c N (.v 73 (.eq Q) (.c T (.c y (.c j (.c d (.v 25 (.ppt o) .nil)))))))) g) (pN 58 [] 6 57 (.k 2 A (.c C (.k 9 O (.c (nJ r3) (.c (kR G) (.c (aG d3) (.k 1 (aG d2) (.k 6 (aG d1) (.k 1 (aF d0) (.k 2 (aF e) (.k 7 (nJ ls.length) (.c f (.c (aG f) .nil))))))))))))) (.v 22 (.eq p) (.c N (.v 73 (.eq Q) (.c T (.c y (.c j (.c d (.v 25 (.ppt o) .nil)))))))) g)
    ·refine ⟨⟨s.op,s.name,w3.neg,ae w3.n,ae w3.d,0⟩,k1,u,rfl,rfl,.val J (fun _=> ⟨_,hb⟩),fun nt g=> ?_⟩
     exact n _ _ nt (fun i=>by subst i;exact pN 58 [] 7 25 (.k 11 (aF d3) (.k 1 (aG d2) (.k 6 (aG d1) (.k 1 (aF d0) (.k 2 (aF e) (.k 7 (nJ 0) (.c f (.c (aG f) .nil)))))))) (.v 22 (.eq p) (.c y (.c j (.c d (.v 25 (.ppt o) .nil))))) g) (pN 58 [] 6 25 (.k 2 A (.c C (.k 8 (aF d3) (.k 1 (aG d2) (.k 6 (aG d1) (.k 1 (aF d0) (.k 2 (aF e) (.k 7 (nJ ls.length) (.c f (.c (aG f) .nil)))))))))) (.v 22 (.eq p) (.c y (.c j (.c d (.v 25 (.ppt o) .nil))))) g)
   ·refine ⟨⟨s.op,s.name,w3.neg,ae w3.n,ae w3.d,0⟩,k1,u,rfl,rfl,.val J (fun _=> ⟨_,hb⟩),fun nt g=> ?_⟩
    exact n _ _ nt (fun i=>by subst i;exact pN 58 [] 7 9 (.k 12 (aF d2) (.k 6 (aG d1) (.k 1 (aF d0) (.k 2 (aF e) (.k 7 (nJ 0) (.c f (.c (aG f) .nil))))))) (.v 22 (.eq p) (.c y (.c j (.c d (.v 25 (.ppt o) .nil))))) g) (pN 58 [] 6 9 (.k 2 A (.c C (.k 9 (aF d2) (.k 6 (aG d1) (.k 1 (aF d0) (.k 2 (aF e) (.k 7 (nJ ls.length) (.c f (.c (aG f) .nil))))))))) (.v 22 (.eq p) (.c y (.c j (.c d (.v 25 (.ppt o) .nil))))) g)
  ·rcases tf t with d2|d2
   ·rcases tf ((Int.tmod (m:Int) ((7:Nat):Int))==((0:Nat):Int)) with d3|d3
    ·refine ⟨⟨s.op,s.name,false,[],[],e3⟩,k4,Z,rfl,rfl,.err V d2,fun nt g=> ?_⟩
     exact n _ _ nt (fun i=>by subst i;exact pN 58 [] 7 49 (.k 12 O (.c (nJ r3) (.c (kR G) (.c (aG d3) (.k 1 (aG d2) (.k 4 (aF d1) (.k 1 (aF d0) (.k 2 (aF e) (.k 7 (nJ 0) (.c f (.c (aG f) .nil))))))))))) (.v 22 (.eq p) (.c N (.v 73 (.eq Q) (.c T (.c j (.c d (.v 25 (.ppt o) .nil))))))) g) (pN 58 [] 6 49 (.k 2 A (.c C (.k 9 O (.c (nJ r3) (.c (kR G) (.c (aG d3) (.k 1 (aG d2) (.k 4 (aF d1) (.k 1 (aF d0) (.k 2 (aF e) (.k 7 (nJ ls.length) (.c f (.c (aG f) .nil))))))))))))) (.v 22 (.eq p) (.c N (.v 73 (.eq Q) (.c T (.c j (.c d (.v 25 (.ppt o) .nil))))))) g)
    ·refine ⟨⟨s.op,s.name,w.neg,ae w.n,ae w.d,0⟩,k1,u,rfl,rfl,.val sw (fun h=>by rw [d1] at h;cases h),fun nt g=> ?_⟩
     exact n _ _ nt (fun i=>by subst i;exact pN 58 [] 7 17 (.k 11 (aF d3) (.k 1 (aG d2) (.k 4 (aF d1) (.k 1 (aF d0) (.k 2 (aF e) (.k 7 (nJ 0) (.c f (.c (aG f) .nil)))))))) (.v 22 (.eq p) (.c j (.c d (.v 25 (.ppt o) .nil)))) g) (pN 58 [] 6 17 (.k 2 A (.c C (.k 8 (aF d3) (.k 1 (aG d2) (.k 4 (aF d1) (.k 1 (aF d0) (.k 2 (aF e) (.k 7 (nJ ls.length) (.c f (.c (aG f) .nil)))))))))) (.v 22 (.eq p) (.c j (.c d (.v 25 (.ppt o) .nil)))) g)
   ·refine ⟨⟨s.op,s.name,w.neg,ae w.n,ae w.d,0⟩,k1,u,rfl,rfl,.val sw (fun h=>by rw [d1] at h;cases h),fun nt g=> ?_⟩
    exact n _ _ nt (fun i=>by subst i;exact pN 58 [] 7 1 (.k 12 (aF d2) (.k 4 (aF d1) (.k 1 (aF d0) (.k 2 (aF e) (.k 7 (nJ 0) (.c f (.c (aG f) .nil))))))) (.v 22 (.eq p) (.c j (.c d (.v 25 (.ppt o) .nil)))) g) (pN 58 [] 6 1 (.k 2 A (.c C (.k 9 (aF d2) (.k 4 (aF d1) (.k 1 (aF d0) (.k 2 (aF e) (.k 7 (nJ ls.length) (.c f (.c (aG f) .nil))))))))) (.v 22 (.eq p) (.c j (.c d (.v 25 (.ppt o) .nil)))) g)
theorem ahj (a:List Sg) (c b:Bool) (xs:List Int) (nn:Bool) (k:Nat) (ls:List Lk) (qs:List Sc) (x:Sc) (h:ls ≠ []):Qb a c b xs nn (k,ls,qs++ [x])=⟨[(0,.sl (gV a) a.length c),(2,.bool b),(6,.ptr 0 0 0),(7,.ptr 1 0 0),(8,.ptr 2 0 0),(9,.int .i64 ((ls.length+qs.length+1:Nat):Int))],[(0,⟨[.nilS,.nilS],0,false,0,0,true⟩),(1,⟨[.ref 3 0 0 ls.length,.ref 4 0 0 (qs.length+1)],0,false,0,0,false⟩),(2,dB xs nn k),(3,⟨kE ls,0,false,0,6,true⟩),(4,⟨List.take (qs.length*4) (kS qs)++Q5 x,0,false,0,4,true⟩)],.dead,[]⟩:=by
 rw [XU,VF a c b xs nn k ls (qs++ [x]) h (by simp),List.length_append,List.length_singleton,Nat.add_assoc]
theorem Zx (a:List Sg) (g h:Bool) (s:Sg) (hs:s.op=24) (xs:List Int) (nn:Bool) (k:Nat) (ls:List Lk) (qs:List Sc) (d:ls ≠ []) (t:List AV) (o:List.drop (Int.toNat ((ls.length+qs.length:Nat):Int)*5) (gV a)=YE s++t) (B:ls.length+qs.length<a.length) (u:a.length<20) (v:xs.length<2^63) (y:k≤xs.length):
  ∃ (x:Sq) (k':Nat),k'≤xs.length∧(x.nm=s.name∧x.l.length≤8∧(∀ b ∈ x.l,b.s28)∧JS mW x.l=0)∧∀ nt,87≤nt→au prog ap [] nt (af 0 (ah f58)) (Qb a g h xs nn (k,ls,qs)) .normal (Qb a g h xs nn (k',ls,qs++ [Sq.c x])):=by
 obtain ⟨bs,k1,i,z,q,w,m⟩:=XW s xs nn k v y
 refine ⟨⟨s.name,s.ty.m,s.ty.d,bs⟩,k1,i,⟨rfl,z,q,w⟩,fun nt p=> ?_⟩
 rw [ahj _ _ _ _ _ _ _ _ _ d]
 generalize c:ls.length+qs.length=j at*
 have f:decide ((j:Int)<(a.length:Int))=true:=decide_eq_true (by omega)
 have e:(s.op==((24:Nat):Int))=true:=by rw [hs];rfl
 have n:AV.int .i64 (IntKind.wrap .i64 ((j:Int)+((1:Nat):Int)))=AV.int .i64 ((j+1:Nat):Int):=Ci (by omega)
 have r:Nat.ble (qs.length+1) 1099511627776=true:=Nat.ble_eq_true_of_le (by omega)
 have A:Nat.ble (qs.length*4) (List.length (kS qs))=true:=Nat.ble_eq_true_of_le (by rw [JI];exact Nat.le_refl _)
 by_cases hz:qs= []
 ·subst hz
  rw [acy a g h xs nn k ls d]
  simp only [List.length_nil,Nat.add_zero] at c
  subst c
  exact pN 58 [] 3 3 (.k 10 (aG e) (.k 7 (nJ ls.length) (.c f (.c (aG f) .nil)))) (.v 22 (.eq n) (.c m (.v 25 (.ppt o) .nil))) p
 ·rw [VF a g h xs nn k ls qs d hz,c]
  exact pN 58 [] 2 3 (.k 2 r (.c A (.k 7 (aG e) (.k 7 (nJ j) (.c f (.c (aG f) .nil)))))) (.v 22 (.eq n) (.c m (.v 25 (.ppt o) .nil))) p
theorem VH (h j:Bool) (xs:List Int) (nn:Bool) (z:xs.length<2^63) (c:List Sg) (f:c.length<20) (ls:List Lk) (d:ls ≠ []):∀ (r p:List Sg) (k:Nat) (qs:List Sc),c=p++r→(∀ s ∈ r,s.op=24)→p.length=ls.length+qs.length→k≤xs.length→(qs ≠ []∨r ≠ [])→
  ∃ (g:Nat) (b:List Sq),qC r b∧∀ nt,87≤nt→aI prog ap [] nt (af 0 (ah f58)) (fun _=> .exit 0) (Qb c h j xs nn) emO (k,ls,qs) (g,ls,qs++b.map Sq.c):=by
 intro r
 induction r with
 |nil=>
  intro p k qs hp i a o n
  refine ⟨k,[],True.intro,fun nt e=> ?_⟩
  have B:qs ≠ []:=n.resolve_right (by simp)
  simp only [List.map_nil,List.append_nil] at hp ⊢
  subst hp
  refine .done ?_
  rw [VF c h j xs nn k ls qs d B,← a]
  have u:decide ((c.length:Int)<(c.length:Int))=false:=decide_eq_false (by omega)
  exact pN 58 [] 1 0 (.c (aF u) .nil) (.nil) e
 |cons s r ih=>
  intro p k qs hp i a o n
  obtain ⟨x,k1,m,q,A⟩:=Zx c h j s (i s (by simp)) xs nn k ls qs d (gV r) (by rw [hp];exact MK a.symm) (by rw [hp,← a];simp) f z o
  obtain ⟨g,b,v,t⟩:=ih (p++ [s]) k1 (qs++ [Sq.c x]) (by rw [hp];simp) (fun y w=>i y (by simp [w])) (by simp [a,Nat.add_assoc]) m (.inl (by simp))
  refine ⟨g,x::b,⟨q,v⟩,fun nt e=> .next (A nt e) ?_⟩
  have:=t nt e
  rw [List.append_assoc] at this
  exact this
theorem VG (m h:Bool) (xs:List Int) (nn:Bool) (z:xs.length<2^63) (f:List Sg) (e:f.length<20) (d:List Sg) (n:∀ s ∈ d,s.op=24) (o:d ≠ []):∀ (r p:List Sg) (k:Nat) (ls:List Lk),f=p++(r++d)→(∀ s ∈ r,s.op ≠ 24)→p.length=ls.length→k≤xs.length→(ls ≠ []∨r ≠ [])→
  ∃ (g:Nat) (c:List Lk) (b:List Sq),tH h r c∧qC d b∧∀ nt,87≤nt→aI prog ap [] nt (af 0 (ah f58)) (fun _=> .exit 0) (Qb f m h xs nn) emO (k,ls,[]) (g,ls++c,b.map Sq.c):=by
 intro r
 induction r with
 |nil=>
  intro p k ls hp u a v w
  obtain ⟨g,b,j,t⟩:=VH m h xs nn z f e ls (w.resolve_right (by simp)) d p k [] hp n (by simpa using a) v (.inr o)
  refine ⟨g,[],b,True.intro,j,fun nt i=> ?_⟩
  have:=t nt i
  rw [List.nil_append] at this
  rw [List.append_nil]
  exact this
 |cons s r ih=>
  intro p k ls hp u a v w
  obtain ⟨x,k1,q,C,B,G,D⟩:=Zw f m h s (u s (by simp)) xs nn k ls (gV (r++d)) (by rw [hp];exact MK a.symm) (by rw [hp,← a];simp) e z v
  obtain ⟨g,c,b,j,t,F⟩:=ih (p++ [s]) k1 (ls++ [x]) (by rw [hp];simp) (fun y A=>u y (by simp [A])) (by simp [a]) q (.inl (by simp))
  refine ⟨g,x::c,b,⟨⟨C,B,G⟩,j⟩,t,fun nt i=> .next (D nt i) ?_⟩
  have:=F nt i
  rw [List.append_assoc] at this
  exact this
theorem ahh (a:List Sg) (c b nn:Bool) (xs:List Int) (ls:List Lk) (qs:List Sc) (d:aK prog ap [] 87 (.block 0 (.loop (af 0 (ah f58)))) ⟨[(0,.sl (gV a) a.length c),(1,.sl (iL xs) xs.length nn),(2,.bool b),(6,.ptr 0 0 0),(7,.ptr 1 0 0),(8,.ptr 2 0 0),(9,.int .i64 0),(10,.dead),(11,.dead),(12,.dead),(13,.dead),(20,.dead),(29,.dead),(45,.dead),(57,.dead),(68,.dead)],[(0,⟨[.nilS,.nilS],0,false,0,0,true⟩),(1,⟨[.nilS,.nilS],0,false,0,0,true⟩),(2,⟨[.sl (iL xs) xs.length nn,.int .i64 0],0,false,0,0,true⟩)],.dead,[]⟩ (.normal) ⟨[(6,.ptr 0 0 0),(7,.ptr 1 0 0)],[(0,⟨[.nilS,.nilS],0,false,0,0,true⟩),(1,⟨[.ref 2 0 0 ls.length,.ref 3 0 0 qs.length],0,false,0,0,false⟩),(2,⟨(kE ls),0,false,0,6,true⟩),(3,⟨(kS qs),0,false,0,4,true⟩)],.dead,[]⟩):CO 58 [.sl (gV a) a.length c,.sl (iL xs) xs.length nn,.bool b] (.ret (.agg [.sl (List.take (ls.length*6) (kE ls)) ls.length true,.sl (List.take (qs.length*4) (kS qs)) qs.length true])):=pK [0] 0 0 (.n 5 .nil) (.l d .nil)
theorem tH.len {a:Bool}:∀ {r:List Sg} {l:List Lk},tH a r l→l.length=r.length
 | [],[],_=>rfl
 |s::r,x::l,h=>by simp [tH.len h.2]
theorem qC.len:∀ {r:List Sg} {l:List Sq},qC r l→l.length=r.length
 | [],[],_=>rfl
 |s::r,x::l,h=>by simp [qC.len h.2]
theorem tH.get {a:Bool}:∀ {r:List Sg} {l:List Lk},tH a r l→∀ x ∈ l,∃ s ∈ r,x.op=s.op∧x.nm=s.name∧xX a s.ty x
 | [],[],_,x,hx=>by cases hx
 | s::r,y::l,h,x,hx=>by
  rcases List.mem_cons.1 hx with rfl|hx
  ·exact ⟨s,by simp,h.1⟩
  ·obtain ⟨t,c,b⟩:=tH.get h.2 x hx
   exact ⟨t,by simp [c],b⟩
theorem tH.has {a:Bool}:∀ {r:List Sg} {l:List Lk},tH a r l→∀ s ∈ r,∃ x ∈ l,x.op=s.op∧x.nm=s.name∧xX a s.ty x
 | [],[],_,x,hx=>by cases hx
 | s::r,y::l,h,x,hx=>by
  rcases List.mem_cons.1 hx with rfl|hx
  ·exact ⟨y,by simp,h.1⟩
  ·obtain ⟨t,c,b⟩:=tH.has h.2 x hx
   exact ⟨t,by simp [c],b⟩
theorem qC.get:∀ {r:List Sg} {l:List Sq},qC r l→∀ x ∈ l,(∃ s ∈ r,x.nm=s.name)∧x.l.length≤8∧(∀ b ∈ x.l,b.s28)∧JS mW x.l=0
 | [],[],_,x,hx=>by cases hx
 | s::r,y::l,h,x,hx=>by
  rcases List.mem_cons.1 hx with rfl|hx
  ·exact ⟨⟨s,by simp,h.1.1⟩,h.1.2⟩
  ·obtain ⟨⟨t,d,c⟩,a⟩:=qC.get h.2 x hx
   exact ⟨⟨t,by simp [d],c⟩,a⟩
theorem qC.has:∀ {r:List Sg} {l:List Sq},qC r l→∀ s ∈ r,∃ x ∈ l,x.nm=s.name
 | [],[],_,x,hx=>by cases hx
 | s::r,y::l,h,x,hx=>by
  rcases List.mem_cons.1 hx with rfl|hx
  ·exact ⟨y,by simp,h.1.1⟩
  ·obtain ⟨t,b,a⟩:=qC.has h.2 x hx
   exact ⟨t,by simp [b],a⟩
def Uh:List Sg:=aQ.take 10
def sgR:List Sg:=aQ.drop 10
structure Nq (er:Bool) (E:dW):Prop where
 lk:tH er Uh E.ls
 sc:qC sgR E.qs
theorem Nq.sm {a:Bool} {E:dW} (h:Nq a E):E.sm where
 ls:=by rw [h.lk.len];decide
 qs:=by rw [h.sc.len];decide
 lk x hx:=by
  obtain ⟨s,_,_,_,g⟩:=h.lk.get x hx
  exact g.sz
 sq s hs:=by
  obtain ⟨_,c,b,_⟩:=h.sc.get s hs
  exact ⟨Nat.lt_of_le_of_lt c (by decide),b⟩
abbrev Zz (E:dW) (nl ns:Bool):AV:= .agg [.sl (kE E.ls) E.ls.length nl,.sl (kS (E.qs.map Sq.c)) (E.qs.map Sq.c).length ns]
theorem akV (b a nn:Bool) (xs:List Int) (c:xs.length<2^63):∃ E:dW,Nq a E∧CO 58 [.sl (gV aQ) 12 b,.sl (iL xs) xs.length nn,.bool a] (.ret (Zz E true true)):=by
 obtain ⟨g,ls,qs,e,d,f⟩:=VG b a xs nn c aQ (by decide) sgR (by decide) (by decide) Uh [] 0 [] rfl (by decide) rfl (by omega) (.inr (by decide))
 refine ⟨⟨ls,qs⟩,⟨e,d⟩, ?_⟩
 have h:=ahh aQ b a nn xs ls (qs.map Sq.c) (aI.blk f (by simp) rfl (aO.of ⟨rfl,rfl,rfl,rfl,rfl,rfl,trivial⟩) (aO.refl _))
 rw [List.take_of_length_le (by rw [Jc];exact Nat.le_refl _),List.take_of_length_le (by rw [JI];exact Nat.le_refl _)] at h
 exact h
structure Ro where
 n:Bool
 a:List UInt8
 d:List UInt8
 e:Int
def roC (x:Ro):List AV:= [.bool x.n,.str x.a,.str x.d,.int .i64 x.e]
def xW (l:List Ro):List AV:=l.flatMap roC
def JU (x:Ro):Oq:=uf x.n x.a x.d x.e
def nmN:Nd:=⟨3,false,[],[1],[]⟩
def gy (k:Nat):List Nd:=List.replicate k nmN
abbrev G9 (y:Nd) (ls:List Lk) (cs:List Sc) (nl ns:Bool):Hp:= [(0,⟨[.int .i64 y.op,.bool y.neg,.str y.num,.str y.den,.str y.name],0,false,0,0,true⟩),(1,⟨[.sl (kE ls) ls.length nl,.sl (kS cs) cs.length ns],0,false,0,0,true⟩),(2,⟨[.bool false,.str [],.str [],.int .i64 0],0,false,0,0,true⟩)]
theorem ahn (y:Nd) (x:Ro) (o:Oq) (c d b:Bool) (k:Nat) (j:List AV) (ar:List Ro) (ls:List Lk) (a:List Sc) {nt:Nat} (g:44≤nt) (e:(List.drop ((Int.toNat (k:Int))*4) (xW ar))=roC x++j) (h:AV.int .i64 (IntKind.wrap .i64 ((k:Int)+((1:Nat):Int)))=AV.int .i64 ((k+1:Nat):Int)) (n:(decide (((0:Nat):Int)≤(k:Int)))=true) (f:(decide ((k:Int)<(ar.length:Int)))=true) (i:lit true (decide ((k:Int)<(ar.length:Int)))=true) (p:CO 42 [.int .i64 0] (.ret (.agg [.bool false,.str [],.str [1]]))) (m:CO 43 [.agg [.bool x.n,.str x.a,.str x.d,.int .i64 x.e]] (.ret (.agg [.bool o.n,.str o.a,.str o.d,.int .i64 o.e]))):au prog ap [] nt (af 0 (ah f15)) ⟨[(3,.ptr 0 0 0),(5,.ptr 1 0 0),(6,.ptr 2 0 0),(7,.nilS),(8,.nilS),(15,.sl (xW ar) ar.length b),(16,.int .i64 (ar.length:Int)),(17,.int .i64 (k:Int))],(G9 y ls a c d),.dead,[]⟩ (.normal) ⟨[(3,.ptr 0 0 0),(5,.ptr 1 0 0),(6,.ptr 2 0 0),(7,.ref 3 0 0 1),(8,.ref 4 0 0 1),(15,.sl (xW ar) ar.length b),(16,.int .i64 (ar.length:Int)),(17,.int .i64 ((k+1:Nat):Int))],(G9 y ls a c d++ [(3,⟨zcc4_15,0,false,0,5,true⟩),(4,⟨[.bool o.n,.str o.a,.str o.d,.int .i64 o.e],0,false,0,4,true⟩)]),.dead,[]⟩:=pN 15 [] 3 1 (.k 15 n (.c f (.c i .nil))) (.v 17 (.eq h) (.c m (.c p (.v 19 (.ppt e) .nil)))) g
theorem aho (y:Nd) (b c f:Bool) (k:Nat) (ar:List Ro) (ls:List Lk) (a:List Sc) {nt:Nat} (d:44≤nt) (e:lit false (decide ((k:Int)<(ar.length:Int)))=true):au prog ap [] nt (af 0 (ah f15)) ⟨[(3,.ptr 0 0 0),(5,.ptr 1 0 0),(6,.ptr 2 0 0),(7,.nilS),(8,.nilS),(15,.sl (xW ar) ar.length f),(16,.int .i64 (ar.length:Int)),(17,.int .i64 (k:Int))],(G9 y ls a b c),.dead,[]⟩ (.exit 0) ⟨[(3,.ptr 0 0 0),(5,.ptr 1 0 0),(6,.ptr 2 0 0),(7,.nilS),(8,.nilS)],(G9 y ls a b c),.dead,[]⟩:=pN 15 [] 1 0 (.c e .nil) (.nil) d
theorem akY (y:Nd) (x:Ro) (o:Oq) (d f c:Bool) (k:Nat) (p:List AV) (ar:List Ro) (a:List Oq) (ls:List Lk) (b:List Sc) {nt:Nat} (i:44≤nt) (g:(List.drop ((Int.toNat (k:Int))*4) (xW ar))=roC x++p) (m:AV.int .i64 (IntKind.wrap .i64 ((k:Int)+((1:Nat):Int)))=AV.int .i64 ((k+1:Nat):Int)) (e:(Nat.ble (a.length+1) 1099511627776)=true) (h:(Nat.ble (a.length*4) (List.length (gp a)))=true) (n:(Nat.ble (a.length*5) (List.length (bC (gy a.length))))=true) (j:(decide (((0:Nat):Int)≤(k:Int)))=true) (r:(decide ((k:Int)<(ar.length:Int)))=true) (t:lit true (decide ((k:Int)<(ar.length:Int)))=true) (s:CO 42 [.int .i64 0] (.ret (.agg [.bool false,.str [],.str [1]]))) (q:CO 43 [.agg [.bool x.n,.str x.a,.str x.d,.int .i64 x.e]] (.ret (.agg [.bool o.n,.str o.a,.str o.d,.int .i64 o.e]))):au prog ap [] nt (af 0 (ah f15)) ⟨[(3,.ptr 0 0 0),(5,.ptr 1 0 0),(6,.ptr 2 0 0),(7,.ref 3 0 0 a.length),(8,.ref 4 0 0 a.length),(15,.sl (xW ar) ar.length c),(16,.int .i64 (ar.length:Int)),(17,.int .i64 (k:Int))],(G9 y ls b d f++ [(3,⟨(bC (gy a.length)),0,false,0,5,true⟩),(4,⟨(gp a),0,false,0,4,true⟩)]),.dead,[]⟩ (.normal) ⟨[(3,.ptr 0 0 0),(5,.ptr 1 0 0),(6,.ptr 2 0 0),(7,.ref 3 0 0 (a.length+1)),(8,.ref 4 0 0 (a.length+1)),(15,.sl (xW ar) ar.length c),(16,.int .i64 (ar.length:Int)),(17,.int .i64 ((k+1:Nat):Int))],(G9 y ls b d f++ [(3,⟨((List.take (a.length*5) (bC (gy a.length)))++ zcc4_15),0,false,0,5,true⟩),(4,⟨((List.take (a.length*4) (gp a))++ [.bool o.n,.str o.a,.str o.d,.int .i64 o.e]),0,false,0,4,true⟩)]),.dead,[]⟩:=pN 15 [] 1 1 (.k 1 e (.c h (.k 6 e (.c n (.k 6 j (.c r (.c t .nil))))))) (.v 17 (.eq m) (.c q (.c s (.v 19 (.ppt g) .nil)))) i
theorem akZ (y:Nd) (c d g:Bool) (k:Nat) (ar:List Ro) (a:List Oq) (ls:List Lk) (b:List Sc) {nt:Nat} (e:44≤nt) (f:lit false (decide ((k:Int)<(ar.length:Int)))=true):au prog ap [] nt (af 0 (ah f15)) ⟨[(3,.ptr 0 0 0),(5,.ptr 1 0 0),(6,.ptr 2 0 0),(7,.ref 3 0 0 a.length),(8,.ref 4 0 0 a.length),(15,.sl (xW ar) ar.length g),(16,.int .i64 (ar.length:Int)),(17,.int .i64 (k:Int))],(G9 y ls b c d++ [(3,⟨(bC (gy a.length)),0,false,0,5,true⟩),(4,⟨(gp a),0,false,0,4,true⟩)]),.dead,[]⟩ (.exit 0) ⟨[(3,.ptr 0 0 0),(5,.ptr 1 0 0),(6,.ptr 2 0 0),(7,.ref 3 0 0 a.length),(8,.ref 4 0 0 a.length)],(G9 y ls b c d++ [(3,⟨(bC (gy a.length)),0,false,0,5,true⟩),(4,⟨(gp a),0,false,0,4,true⟩)]),.dead,[]⟩:=pN 15 [] 1 0 (.c f .nil) (.nil) e
theorem aei (y:Nd) (b d e:Bool) (c:Int) (ar:List Ro) (ls:List Lk) (a:List Sc) (j:lit true (!(c==((0:Nat):Int)))=true) (g:lit false (decide (((60:Nat):Int)<(ar.length:Int)))=true) (i:aK prog ap [] 44 (.block 0 (.loop (af 0 (ah f15)))) ⟨[(0,.agg [.int .i64 y.op,.bool y.neg,.str y.num,.str y.den,.str y.name]),(1,.sl (xW ar) ar.length e),(2,.agg [.sl (kE ls) ls.length b,.sl (kS a) a.length d]),(3,.ptr 0 0 0),(5,.ptr 1 0 0),(6,.ptr 2 0 0),(7,.nilS),(8,.nilS),(10,.dead),(13,.bool (decide (((60:Nat):Int)<(ar.length:Int)))),(15,.sl (xW ar) ar.length e),(16,.int .i64 (ar.length:Int)),(17,.int .i64 0),(18,.dead),(37,.dead)],(G9 y ls a b d),.dead,[]⟩ (.normal) ⟨[(3,.ptr 0 0 0),(5,.ptr 1 0 0),(6,.ptr 2 0 0),(7,.nilS),(8,.nilS)],(G9 y ls a b d),.dead,[]⟩) (f:CO 44 [.sl [.int .i64 y.op,.bool y.neg,.str y.num,.str y.den,.str y.name] 1 true] (.ret (.int .i64 c))) (h:CO 41 [.int .i64 11] (.ret (.agg [.bool false,.str [],.str [],.int .i64 11]))):CO 15 [.agg [.int .i64 y.op,.bool y.neg,.str y.num,.str y.den,.str y.name],.sl (xW ar) ar.length e,.agg [.sl (kE ls) ls.length b,.sl (kS a) a.length d]] (.ret (.agg [.bool false,.str [],.str [],.int .i64 11])):=pK [0] 3 4 (.k 5 j (.k 8 g .nil)) (.c h (.c f (.l i .nil)))
theorem aej (y:Nd) (q:Oq) (b d e:Bool) (c:Int) (k1 v1 k2 f:List AV) (ar:List Ro) (ls:List Lk) (a:List Sc) (k:lit false (!(c==((0:Nat):Int)))=true) (h:lit false (decide (((60:Nat):Int)<(ar.length:Int)))=true) (i:aK prog ap [] 44 (.block 0 (.loop (af 0 (ah f15)))) ⟨[(0,.agg [.int .i64 y.op,.bool y.neg,.str y.num,.str y.den,.str y.name]),(1,.sl (xW ar) ar.length e),(2,.agg [.sl (kE ls) ls.length b,.sl (kS a) a.length d]),(3,.ptr 0 0 0),(5,.ptr 1 0 0),(6,.ptr 2 0 0),(7,.nilS),(8,.nilS),(10,.dead),(13,.bool (decide (((60:Nat):Int)<(ar.length:Int)))),(15,.sl (xW ar) ar.length e),(16,.int .i64 (ar.length:Int)),(17,.int .i64 0),(18,.dead),(37,.dead)],(G9 y ls a b d),.dead,[]⟩ (.normal) ⟨[(3,.ptr 0 0 0),(5,.ptr 1 0 0),(6,.ptr 2 0 0),(7,.nilS),(8,.nilS)],(G9 y ls a b d),.dead,[]⟩) (m:CO 44 [.sl [.int .i64 y.op,.bool y.neg,.str y.num,.str y.den,.str y.name] 1 true] (.ret (.int .i64 c))) (j:CO 45 [.agg [.sl (kE ls) ls.length b,.sl (kS a) a.length d]] (.ret (.agg [.mp k1 v1,.mp k2 f]))) (g:CO 46 [.agg [.mp k1 v1,.mp k2 f],.agg [.int .i64 y.op,.bool y.neg,.str y.num,.str y.den,.str y.name],.nilS] (.ret (.agg [.bool q.n,.str q.a,.str q.d,.int .i64 q.e]))):CO 15 [.agg [.int .i64 y.op,.bool y.neg,.str y.num,.str y.den,.str y.name],.sl (xW ar) ar.length e,.agg [.sl (kE ls) ls.length b,.sl (kS a) a.length d]] (.ret (.agg [.bool q.n,.str q.a,.str q.d,.int .i64 q.e])):=pK [0] 3 0 (.k 12 k (.k 8 h .nil)) (.c g (.c j (.c m (.l i .nil))))
theorem ahN (y:Nd) (d e f:Bool) (c:Int) (ar:List Ro) (a:List Oq) (ls:List Lk) (b:List Sc) (n:lit true (!(c==((0:Nat):Int)))=true) (i:(Nat.ble (a.length+1) 1099511627776)=true) (h:(Nat.ble (a.length*5) (List.length (bC (gy a.length))))=true) (m:lit false (decide (((60:Nat):Int)<(ar.length:Int)))=true) (k:aK prog ap [] 44 (.block 0 (.loop (af 0 (ah f15)))) ⟨[(0,.agg [.int .i64 y.op,.bool y.neg,.str y.num,.str y.den,.str y.name]),(1,.sl (xW ar) ar.length f),(2,.agg [.sl (kE ls) ls.length d,.sl (kS b) b.length e]),(3,.ptr 0 0 0),(5,.ptr 1 0 0),(6,.ptr 2 0 0),(7,.nilS),(8,.nilS),(10,.dead),(13,.bool (decide (((60:Nat):Int)<(ar.length:Int)))),(15,.sl (xW ar) ar.length f),(16,.int .i64 (ar.length:Int)),(17,.int .i64 0),(18,.dead),(37,.dead)],(G9 y ls b d e),.dead,[]⟩ (.normal) ⟨[(3,.ptr 0 0 0),(5,.ptr 1 0 0),(6,.ptr 2 0 0),(7,.ref 3 0 0 a.length),(8,.ref 4 0 0 a.length)],(G9 y ls b d e++ [(3,⟨(bC (gy a.length)),0,false,0,5,true⟩),(4,⟨(gp a),0,false,0,4,true⟩)]),.dead,[]⟩) (g:CO 44 [.sl (List.take ((a.length+1)*5) ((List.take (a.length*5) (bC (gy a.length)))++ [.int .i64 y.op,.bool y.neg,.str y.num,.str y.den,.str y.name])) (a.length+1) true] (.ret (.int .i64 c))) (j:CO 41 [.int .i64 11] (.ret (.agg [.bool false,.str [],.str [],.int .i64 11]))):CO 15 [.agg [.int .i64 y.op,.bool y.neg,.str y.num,.str y.den,.str y.name],.sl (xW ar) ar.length f,.agg [.sl (kE ls) ls.length d,.sl (kS b) b.length e]] (.ret (.agg [.bool false,.str [],.str [],.int .i64 11])):=pK [0] 2 2 (.k 5 n (.k 1 i (.c h (.k 6 m .nil)))) (.c j (.c g (.l k .nil)))
theorem ahO (y:Nd) (q:Oq) (d e f:Bool) (c:Int) (k1 v1 k2 g:List AV) (ar:List Ro) (a:List Oq) (ls:List Lk) (b:List Sc) (o:lit false (!(c==((0:Nat):Int)))=true) (i:(Nat.ble (a.length+1) 1099511627776)=true) (m:(Nat.ble (a.length*5) (List.length (bC (gy a.length))))=true) (k:lit false (decide (((60:Nat):Int)<(ar.length:Int)))=true) (j:aK prog ap [] 44 (.block 0 (.loop (af 0 (ah f15)))) ⟨[(0,.agg [.int .i64 y.op,.bool y.neg,.str y.num,.str y.den,.str y.name]),(1,.sl (xW ar) ar.length f),(2,.agg [.sl (kE ls) ls.length d,.sl (kS b) b.length e]),(3,.ptr 0 0 0),(5,.ptr 1 0 0),(6,.ptr 2 0 0),(7,.nilS),(8,.nilS),(10,.dead),(13,.bool (decide (((60:Nat):Int)<(ar.length:Int)))),(15,.sl (xW ar) ar.length f),(16,.int .i64 (ar.length:Int)),(17,.int .i64 0),(18,.dead),(37,.dead)],(G9 y ls b d e),.dead,[]⟩ (.normal) ⟨[(3,.ptr 0 0 0),(5,.ptr 1 0 0),(6,.ptr 2 0 0),(7,.ref 3 0 0 a.length),(8,.ref 4 0 0 a.length)],(G9 y ls b d e++ [(3,⟨(bC (gy a.length)),0,false,0,5,true⟩),(4,⟨(gp a),0,false,0,4,true⟩)]),.dead,[]⟩) (p:CO 44 [.sl (List.take ((a.length+1)*5) ((List.take (a.length*5) (bC (gy a.length)))++ [.int .i64 y.op,.bool y.neg,.str y.num,.str y.den,.str y.name])) (a.length+1) true] (.ret (.int .i64 c))) (n:CO 45 [.agg [.sl (kE ls) ls.length d,.sl (kS b) b.length e]] (.ret (.agg [.mp k1 v1,.mp k2 g]))) (h:CO 46 [.agg [.mp k1 v1,.mp k2 g],.agg [.int .i64 y.op,.bool y.neg,.str y.num,.str y.den,.str y.name],.sl (List.take (a.length*4) (gp a)) a.length true] (.ret (.agg [.bool q.n,.str q.a,.str q.d,.int .i64 q.e]))):CO 15 [.agg [.int .i64 y.op,.bool y.neg,.str y.num,.str y.den,.str y.name],.sl (xW ar) ar.length f,.agg [.sl (kE ls) ls.length d,.sl (kS b) b.length e]] (.ret (.agg [.bool q.n,.str q.a,.str q.d,.int .i64 q.e])):=pK [0] 2 0 (.k 12 o (.k 1 i (.c m (.k 6 k .nil)))) (.c h (.c n (.c p (.l j .nil))))
def eoN (os:List Oq):AV:=match os with| []=> .nilS|_::_=> .ref 3 0 0 os.length
def eoM (os:List Oq):AV:=match os with| []=> .nilS|_::_=> .ref 4 0 0 os.length
def eoB (os:List Oq):Hp:=match os with| []=> []|_::_=> [(3,⟨bC (gy os.length),0,false,0,5,true⟩),(4,⟨gp os,0,false,0,4,true⟩)]
abbrev eoS (y:Nd) (ls:List Lk) (cs:List Sc) (nl ns na:Bool) (ar:List Ro) (os:List Oq):St:=⟨[(3,.ptr 0 0 0),(5,.ptr 1 0 0),(6,.ptr 2 0 0),(7,eoN os),(8,eoM os),(15,.sl (xW ar) ar.length na),(16,.int .i64 (ar.length:Int)),(17,.int .i64 (os.length:Int))],G9 y ls cs nl ns++eoB os,.dead,[]⟩
abbrev eoO (y:Nd) (ls:List Lk) (cs:List Sc) (nl ns:Bool) (os:List Oq):St:=⟨[(3,.ptr 0 0 0),(5,.ptr 1 0 0),(6,.ptr 2 0 0),(7,eoN os),(8,eoM os)],G9 y ls cs nl ns++eoB os,.dead,[]⟩
theorem of0:CO 42 [.int .i64 0] (.ret (.agg [.bool false,.str [],.str [1]])):=kL (Fg 0 (by decide)) (by kernel_rfl)
theorem TL (k:Nat):List.take (k*5) (bC (gy k))++ zcc4_15=bC (gy (k+1)):=by
 rw [List.take_of_length_le (by rw [aP];simp [gy])]
 unfold gy
 rw [List.replicate_succ']
 unfold bC
 rw [List.flatMap_append]
 rfl
theorem VK (y:Nd) (ls:List Lk) (c:List Sc) (d e f:Bool) (ar:List Ro) (b:List Oq) (o:Oq):eoS y ls c d e f ar (b++ [o])=⟨[(3,.ptr 0 0 0),(5,.ptr 1 0 0),(6,.ptr 2 0 0),(7,.ref 3 0 0 (b.length+1)),(8,.ref 4 0 0 (b.length+1)),(15,.sl (xW ar) ar.length f),(16,.int .i64 (ar.length:Int)),(17,.int .i64 ((b.length+1:Nat):Int))],G9 y ls c d e++ [(3,⟨bC (gy (b.length+1)),0,false,0,5,true⟩),(4,⟨gp (b++ [o]),0,false,0,4,true⟩)],.dead,[]⟩:=by
 cases b with
 |nil=>rfl
 |cons a r=>
  show (⟨[(3,_),(5,_),(6,_),(7,.ref 3 0 0 (a::r++ [o]).length),(8,.ref 4 0 0 (a::r++ [o]).length),(15,_),(16,_),(17,.int .i64 (((a::r++ [o]).length:Nat):Int))],_++ [(3,⟨bC (gy (a::r++ [o]).length),_,_,_,_,_⟩),_],_,_⟩:St)=_
  rw [show (a::r++ [o]).length=(a::r).length+1 from List.length_append]
theorem abx {l:List Ro} {k:Nat} {x:Ro} {p r:List Ro} (h:l=p++x::r) (b:k=p.length):List.drop (Int.toNat (k:Int)*4) (xW l)=roC x++xW r:=by
 subst h b
 rw [aJ]
 unfold xW
 rw [List.flatMap_append,List.flatMap_cons]
 have a:(List.flatMap roC p).length=p.length*4:=nX roC 4 (fun _=>rfl) p
 rw [← a,List.drop_left]
theorem ZA {nt:Nat} (m:44≤nt) (y:Nd) (ls:List Lk) (d:List Sc) (e f j:Bool) {ar:List Ro} (B:ar.length≤60) (o:∀ x ∈ ar,x.a.length<2^36∧x.d.length<2^36):∀ (r p:List Ro) (b:List Oq),ar=p++r→b=p.map JU→
  aI prog ap [] nt (af 0 (ah f15)) (fun _=> .exit 0) (eoS y ls d e f j ar) (eoO y ls d e f) b (ar.map JU):=by
 intro r
 induction r with
 |nil=>
  intro p b hp k
  rw [List.append_nil] at hp
  subst hp
  subst k
  have hd:lit false (decide ((((ar.map JU).length:Nat):Int)<(ar.length:Int)))=true:=aF (decide_eq_false (by simp))
  generalize ar.map JU=b at*
  cases b with
  |nil=>exact .done (aho y e f j 0 ar ls d m hd)
  |cons a q=>exact .done (akZ y e f j (a::q).length ar (a::q) ls d m hd)
 | cons x r ih=>
  intro p b hp k
  have c:b.length=p.length:=by rw [k,List.length_map]
  have w:b.length<ar.length:=by rw [hp,c];simp
  have s:=abx hp c
  have hs:=o x (by rw [hp];simp)
  have u:=ih (p++ [x]) (b++ [JU x]) (by rw [hp];simp) (by rw [k];simp)
  refine .next ?_ u
  rw [VK]
  have t:decide (((0:Nat):Int)≤(b.length:Int))=true:=decide_eq_true (by omega)
  have n:decide ((b.length:Int)<(ar.length:Int))=true:=decide_eq_true (by omega)
  have g:=Ci (i:=b.length) (by omega)
  have z:Nat.ble (b.length+1) 1099511627776=true:=Nat.ble_eq_true_of_le (by omega)
  have A:Nat.ble (b.length*4) (List.length (gp b))=true:=Nat.ble_eq_true_of_le (by rw [zf];exact Nat.le_refl _)
  have v:Nat.ble (b.length*5) (List.length (bC (gy b.length)))=true:=Nat.ble_eq_true_of_le (by rw [aP];simp [gy])
  cases b with
  |nil=>exact ahn y x (JU x) e f j 0 _ ar ls d m s g t n (aG n) of0 (vZ x.n x.a x.d x.e hs.1 hs.2)
  |cons a q=>
   have h:=akY y x (JU x) e f j (a::q).length _ ar (a::q) ls d m s g z A v t n (aG n) of0 (vZ x.n x.a x.d x.e hs.1 hs.2)
   rw [TL,uQ] at h
   exact h
def ZU (E:dW) (y:Nd) (l:List Oq):Oq:=if bW (gy l.length++ [y])=0 then dD E y l else .err 11
theorem DT:∀ (k d:Nat) (r:List Nd),gZ (gy k++r) d=gZ r (d+k)
 |0,_,_=>rfl
 |k+1,d,r=>by
  show gZ (nmN::(gy k++r)) d=_
  simp only [gZ]
  rw [if_pos (show aC nmN=0 by kernel_rfl),if_neg (show ¬ d<dX nmN.op from Nat.not_lt_zero _),DT k _ r]
  congr 1
  show d - 0+1+k=_
  omega
theorem aiJ {k:Nat} {y:Nd} (h:bW (gy k++ [y])=0):k=dX y.op:=by
 unfold bW at h
 split at h
 ·cases h
 ·rw [DT] at h
  simp only [gZ] at h
  by_cases hw:aC y=0
  ·rw [if_pos hw] at h
   by_cases hd:0+k<dX y.op
   ·rw [if_pos hd] at h;cases h
   ·rw [if_neg hd] at h
    dsimp only at h
    split at h
    ·omega
    ·cases h
  ·rw [if_neg hw] at h
   exact absurd h hw
theorem aaU (k:Nat):∀ x ∈ gy k,x.sm:=by
 intro x a
 rw [List.eq_of_mem_replicate a]
 exact ⟨by decide,by decide⟩
theorem Qi (E:dW) (d e i:Bool) (m:E.sm) (y:Nd) (w:y.sm) {ar:List Ro} (K:ar.length≤60) (r:∀ x ∈ ar,x.a.length<2^36∧x.d.length<2^36):
  CO 15 [.agg (yZ y),.sl (xW ar) ar.length i,.agg [.sl (kE E.ls) E.ls.length d,.sl (kS (E.qs.map Sq.c)) (E.qs.map Sq.c).length e]] (.ret (fH (ZU E y (ar.map JU)))):=by
 have B:=KN E.ls (E.qs.map Sq.c) d e (Nat.lt_trans m.ls (by decide)) (by rw [List.length_map];exact Nat.lt_trans m.qs (by decide)) m.lk
 have G:∀ nt,44≤nt→aI prog ap [] nt (af 0 (ah f15)) (fun _=> .exit 0) (eoS y E.ls (E.qs.map Sq.c) d e i ar) (eoO y E.ls (E.qs.map Sq.c) d e) [] (ar.map JU):=fun nt F=>ZA F y E.ls (E.qs.map Sq.c) d e i K r ar [] [] rfl rfl
 have v:∀ x ∈ gy ar.length++ [y],x.sm:=fun x D=>(List.mem_append.1 D).elim (aaU _ x) (fun h=>by rw [List.mem_singleton] at h;exact h ▸ w)
 have f:=DR (gy ar.length++ [y]) true v
 have b:lit false (decide (((60:Nat):Int)<(ar.length:Int)))=true:=aF (decide_eq_false (by omega))
 have c:(ar.map JU).length=ar.length:=List.length_map ..
 have k:=aI.blk (id:=0) (e':= .normal) (s:=⟨[(0,.agg [.int .i64 y.op,.bool y.neg,.str y.num,.str y.den,.str y.name]),(1,.sl (xW ar) ar.length i),(2,.agg [.sl (kE E.ls) E.ls.length d,.sl (kS (E.qs.map Sq.c)) (E.qs.map Sq.c).length e]),(3,.ptr 0 0 0),(5,.ptr 1 0 0),(6,.ptr 2 0 0),(7,.nilS),(8,.nilS),(10,.dead),(13,.bool (decide (((60:Nat):Int)<(ar.length:Int)))),(15,.sl (xW ar) ar.length i),(16,.int .i64 (ar.length:Int)),(17,.int .i64 0),(18,.dead),(37,.dead)],(G9 y E.ls (E.qs.map Sq.c) d e),.dead,[]⟩) (s':=eoO y E.ls (E.qs.map Sq.c) d e (ar.map JU)) G (by simp) rfl (aO.of ⟨rfl,rfl,rfl,rfl,rfl,rfl,rfl,rfl,trivial⟩) (aO.refl _)
 have hnode:∀ nn:Bool,bW (gy ar.length++ [y])=0→CO 46 [afH E,.agg (yZ y),.sl (gp (ar.map JU)) (ar.map JU).length nn] (.ret (fH (dD E y (ar.map JU)))):=fun nn h=>by
  have A:=(jc h).1 y (by simp)
  have j:=rG A
  exact KL E y nn (ar.map JU) j.1 j.2 (Rl A) (by rw [c];exact aiJ h) (fun o J=>by obtain ⟨x,_,rfl⟩:=List.mem_map.1 J;exact Di _ _ _ _) w m.sq
 unfold ZU
 rw [c]
 have M:Nat.ble (ar.length+1) 1099511627776=true:=Nat.ble_eq_true_of_le (by omega)
 cases n:ar.map JU with
 | nil=>
  have p:ar.length=0:=by rw [← c,n];rfl
  rw [n] at k hnode
  have I:bW (gy ar.length++ [y])=bW (gy 0++ [y]):=by rw [p]
  rw [I]
  rw [p] at f hnode
  by_cases hc:bW (gy 0++ [y])=0
  ·rw [if_pos hc]
   rw [hc] at f
   exact aej y _ d e i 0 _ _ _ _ ar E.ls (E.qs.map Sq.c) (aF rfl) b k f B ((hnode false hc).args (gQ.cons (aU.refl _) (gQ.cons (aU.refl _) (gQ.cons (aU.nilS false rfl) (gQ.refl _)))))
  ·rw [if_neg hc]
   exact aei y d e i _ ar E.ls (E.qs.map Sq.c) (aG (by simpa using hc)) b k f (iJ 11)
 | cons a q=>
  have p:(a::q).length=ar.length:=by rw [← c,n]
  rw [n] at k hnode
  have t:List.take (((a::q).length+1)*5) (List.take ((a::q).length*5) (bC (gy (a::q).length))++ [.int .i64 y.op,.bool y.neg,.str y.num,.str y.den,.str y.name])=bC (gy (a::q).length++ [y]):=by
   have L:List.take ((a::q).length*5) (bC (gy (a::q).length))=bC (gy (a::q).length):=List.take_of_length_le (by rw [aP];simp [gy])
   rw [L,List.take_of_length_le (by rw [List.length_append,aP];simp [gy];omega)]
   unfold bC
   rw [List.flatMap_append]
   rfl
  have z:Nat.ble ((a::q).length+1) 1099511627776=true:=Nat.ble_eq_true_of_le (by omega)
  have C:Nat.ble ((a::q).length*5) (List.length (bC (gy (a::q).length)))=true:=Nat.ble_eq_true_of_le (by rw [aP];simp [gy])
  have g:CO 44 [.sl (List.take (((a::q).length+1)*5) (List.take ((a::q).length*5) (bC (gy (a::q).length))++ [.int .i64 y.op,.bool y.neg,.str y.num,.str y.den,.str y.name])) ((a::q).length+1) true] (.ret (.int .i64 (bW (gy ar.length++ [y])))):=by
   rw [t,p]
   have:=f
   rw [show (gy ar.length++ [y]).length=ar.length+1 by simp [gy]] at this
   exact this
  have u:List.take ((a::q).length*4) (gp (a::q))=gp (a::q):=List.take_of_length_le (by rw [zf];exact Nat.le_refl _)
  by_cases hc:bW (gy ar.length++ [y])=0
  ·rw [if_pos hc]
   rw [hc] at g
   exact ahO y _ d e i 0 _ _ _ _ ar (a::q) E.ls (E.qs.map Sq.c) (aF rfl) z C b k g B (by rw [u];exact hnode true hc)
  ·rw [if_neg hc]
   exact ahN y d e i _ ar (a::q) E.ls (E.qs.map Sq.c) (aG (by simpa using hc)) z C b k g (iJ 11)
theorem ahv (a b:List Oq) (o q:Oq) (n h:Bool) (k:Nat) (f rb:List AV) {nt:Nat} (d:26≤nt) (e:(List.drop ((Int.toNat (k:Int))*4) (gp a))=Cc o++f) (p:(List.drop ((Int.toNat (k:Int))*4) (gp b))=Cc q++rb) (m:lit true (!((o.n==q.n) && ((o.a==q.a) && ((o.d==q.d) && ((o.e==q.e) && true)))))=true) (c:(decide (((0:Nat):Int)≤(k:Int)))=true) (g:(decide ((k:Int)<(b.length:Int)))=true) (j:(decide ((k:Int)<(a.length:Int)))=true) (i:lit true (decide ((k:Int)<(a.length:Int)))=true):au prog ap [] nt (af 0 (ah f18)) ⟨[(0,.sl (gp a) a.length n),(1,.sl (gp b) b.length h),(5,.int .i64 (k:Int))],[],.dead,[]⟩ (.ret) ⟨[(4,.bool false)],[],.dead,[]⟩:=pN 18 [] 2 3 (.c m (.k 4 c (.c g (.k 4 c (.c j (.c i .nil)))))) (.v 23 (.ppt p) (.v 19 (.ppt e) .nil)) d
theorem ahw (a b:List Oq) (o q:Oq) (e d:Bool) (k:Nat) (m rb:List AV) {nt:Nat} (h:26≤nt) (f:(List.drop ((Int.toNat (k:Int))*4) (gp a))=Cc o++m) (g:(List.drop ((Int.toNat (k:Int))*4) (gp b))=Cc q++rb) (j:AV.int .i64 (IntKind.wrap .i64 ((k:Int)+((1:Nat):Int)))=AV.int .i64 ((k+1:Nat):Int)) (r:lit false (!((o.n==q.n) && ((o.a==q.a) && ((o.d==q.d) && ((o.e==q.e) && true)))))=true) (c:(decide (((0:Nat):Int)≤(k:Int)))=true) (n:(decide ((k:Int)<(b.length:Int)))=true) (i:(decide ((k:Int)<(a.length:Int)))=true) (p:lit true (decide ((k:Int)<(a.length:Int)))=true):au prog ap [] nt (af 0 (ah f18)) ⟨[(0,.sl (gp a) a.length e),(1,.sl (gp b) b.length d),(5,.int .i64 (k:Int))],[],.dead,[]⟩ (.normal) ⟨[(0,.sl (gp a) a.length e),(1,.sl (gp b) b.length d),(5,.int .i64 ((k+1:Nat):Int))],[],.dead,[]⟩:=pN 18 [] 2 1 (.c r (.k 4 c (.c n (.k 4 c (.c i (.c p .nil)))))) (.v 5 (.eq j) (.v 23 (.ppt g) (.v 19 (.ppt f) .nil))) h
theorem ahx (a b:List Oq) (f d:Bool) (k:Nat) {nt:Nat} (c:26≤nt) (e:lit false (decide ((k:Int)<(a.length:Int)))=true):au prog ap [] nt (af 0 (ah f18)) ⟨[(0,.sl (gp a) a.length f),(1,.sl (gp b) b.length d),(5,.int .i64 (k:Int))],[],.dead,[]⟩ (.exit 0) ⟨[(4,.dead)],[],.dead,[]⟩:=pN 18 [] 1 0 (.c e .nil) (.nil) c
theorem Qh (o q:Oq):CO 17 [.agg [.bool o.n,.str o.a,.str o.d,.int .i64 o.e],.agg [.bool q.n,.str q.a,.str q.d,.int .i64 q.e]] (.ret (.bool ((o.n==q.n) && ((o.a==q.a) && ((o.d==q.d) && ((o.e==q.e) && true)))))):=pK [] 0 0 (.n 8 .nil) (.nil)
theorem ad3 (a b:List Oq) (e c:Bool) (d:lit true (!((a.length:Int)==(b.length:Int)))=true):CO 18 [.sl (gp a) a.length e,.sl (gp b) b.length c] (.ret (.bool false)):=pK [0] 1 1 (.c d .nil) (.nil)
theorem ad4 (a b:List Oq) (d c:Bool) (f:lit false (!((a.length:Int)==(b.length:Int)))=true) (e:aK prog ap [] 26 (.block 0 (.loop (af 0 (ah f18)))) ⟨[(0,.sl (gp a) a.length d),(1,.sl (gp b) b.length c),(4,.bool false),(5,.int .i64 0),(10,.bool (!((a.length:Int)==(b.length:Int)))),(14,.dead),(25,.dead)],[],.dead,[]⟩ (.normal) ⟨[(4,.dead)],[],.dead,[]⟩):CO 18 [.sl (gp a) a.length d,.sl (gp b) b.length c] (.ret (.bool true)):=pK [0] 1 0 (.c f .nil) (.l e .nil)
theorem ad2 (a b:List Oq) (d c:Bool) (f:lit false (!((a.length:Int)==(b.length:Int)))=true) (e:aK prog ap [] 26 (.block 0 (.loop (af 0 (ah f18)))) ⟨[(0,.sl (gp a) a.length d),(1,.sl (gp b) b.length c),(4,.bool false),(5,.int .i64 0),(10,.bool (!((a.length:Int)==(b.length:Int)))),(14,.dead),(25,.dead)],[],.dead,[]⟩ (.ret) ⟨[(4,.bool false)],[],.dead,[]⟩):CO 18 [.sl (gp a) a.length d,.sl (gp b) b.length c] (.ret (.bool false)):=pK [0] 1 0 (.c f .nil) (.l e .nil)
def eqo (o q:Oq):Bool:=(o.n==q.n) && ((o.a==q.a) && ((o.d==q.d) && ((o.e==q.e) && true)))
def KQ:List Oq→List Oq→Bool
 |x::r,y::s=>eqo x y && KQ r s
 |_,_=>true
def ZI:Bool→bI
 |true=> .exit 0
 |false=> .ret
def ahA:Bool→St
 |true=> ⟨[(4,.dead)],[],.dead,[]⟩
 |false=> ⟨[(4,.bool false)],[],.dead,[]⟩
abbrev ahz (a b:List Oq) (na nb:Bool) (k:Nat):St:=⟨[(0,.sl (gp a) a.length na),(1,.sl (gp b) b.length nb),(5,.int .i64 (k:Int))],[],.dead,[]⟩
theorem QJ {l:List Oq} {k:Nat} {x:Oq} {p r:List Oq} (h:l=p++x::r) (b:k=p.length):List.drop (Int.toNat (k:Int)*4) (gp l)=Cc x++gp r:=by
 subst h b
 rw [aJ]
 unfold gp
 rw [List.flatMap_append,List.flatMap_cons]
 have a:(List.flatMap Cc p).length=p.length*4:=nX Cc 4 (fun _=>rfl) p
 rw [← a,List.drop_left]
theorem V4 {nt:Nat} (h:26≤nt) (a b:List Oq) (g f:Bool) (t:a.length=b.length) (w:a.length<2^40):∀ (r s p q:List Oq),a=p++r→b=q++s→p.length=q.length→
  aI prog ap [] nt (af 0 (ah f18)) ZI (ahz a b g f) ahA p.length (KQ r s):=by
 intro r
 induction r with
 |nil=>
  intro s p q hp d i
  rw [List.append_nil] at hp
  subst hp
  exact .done (ahx a b g f a.length h (aF (decide_eq_false (by omega))))
 | cons x r ih=>
  intro s p q hp d i
  cases s with
  |nil=>exfalso;rw [hp,d] at t;simp at t;omega
  | cons y s=>
   have m:=QJ hp rfl
   have o:=QJ (k:=p.length) d i
   have z:p.length<a.length:=by rw [hp];simp
   have n:decide (((0:Nat):Int)≤(p.length:Int))=true:=decide_eq_true (by omega)
   have u:decide ((p.length:Int)<(b.length:Int))=true:=decide_eq_true (by omega)
   have e:decide ((p.length:Int)<(a.length:Int))=true:=decide_eq_true (by omega)
   unfold KQ
   cases v:eqo x y with
   |false=>
    have c:lit true (!eqo x y)=true:=by rw [v];rfl
    exact .done (ahv a b x y g f p.length _ _ h m o c n u e (aG e))
   |true=>
    have c:lit false (!eqo x y)=true:=by rw [v];rfl
    have j:=ih s (p++ [x]) (q++ [y]) (by rw [hp];simp) (by rw [d];simp) (by simp [i])
    rw [List.length_append] at j
    exact .next (ahw a b x y g f p.length _ _ h m o (Ci (by omega)) c n u e (aG e)) j
theorem Uc (a b:List Oq) (d c:Bool) (i:a.length<2^40):CO 18 [.sl (gp a) a.length d,.sl (gp b) b.length c] (.ret (.bool (decide (a.length=b.length) && KQ a b))):=by
 by_cases hl:a.length=b.length
 ·rw [decide_eq_true hl,Bool.true_and]
  have g:lit false (!((a.length:Int)==(b.length:Int)))=true:=by simp [lit,hl]
  have e:∀ nt,26≤nt→aI prog ap [] nt (af 0 (ah f18)) ZI (ahz a b d c) ahA 0 (KQ a b):=fun nt h=>V4 h a b d c hl i a b [] [] rfl rfl rfl
  cases f:KQ a b with
  |true=>
   rw [f] at e
   exact ad4 a b d c g (aI.blk e (by simp [ZI]) rfl (aO.of ⟨rfl,rfl,rfl,trivial⟩) (aO.refl _))
  |false=>
   rw [f] at e
   exact ad2 a b d c g (aI.blk e (by simp [ZI]) rfl (aO.of ⟨rfl,rfl,rfl,trivial⟩) (aO.refl _))
 ·rw [decide_eq_false hl,Bool.false_and]
  exact ad3 a b d c (by simp [lit];omega)
theorem SY:∀ a:List Oq,KQ a a=true
 | []=>rfl
 |x::r=>by unfold KQ;rw [SY r];simp [eqo]
theorem abh (n d:Int) (a b q:RQ) (c:CO 48 [.int .i64 n] (.ret (.agg [.bool a.neg,.str (ae a.n),.str (ae a.d)]))) (f:CO 48 [.int .i64 d] (.ret (.agg [.bool b.neg,.str (ae b.n),.str (ae b.d)]))) (e:CO 60 [.agg [.bool a.neg,.str (ae a.n),.str (ae a.d)],.agg [.bool b.neg,.str (ae b.n),.str (ae b.d)]] (.ret (.tup [.agg [.bool q.neg,.str (ae q.n),.str (ae q.d)],.bool true]))):CO 27 [.int .i64 n,.int .i64 d] (.ret (.agg [.bool q.neg,.str (ae q.n),.str (ae q.d)])):=pK [] 0 0 (.n 8 .nil) (.c e (.c f (.c c .nil)))
theorem sN (n:Int) (d:Nat) (j: -60000<n) (i:n<60000) (g:0<d) (k:d<60000):CO 27 [.int .i64 n,.int .i64 (d:Int)] (.ret (qA (iq (mf n).neg (mf n).n d))):=by
 have f:=kG n (by omega) (by omega)
 have a:(mf n).neg=true→0<(mf n).n:=by intro h;simp only [mf,decide_eq_true_eq] at h ⊢;omega
 have c:(mf n).n<65536:=by simp only [mf];omega
 have hd:(mf n).d=1:=rfl
 generalize mf n=w at*
 have e:qA w=qA ⟨w.neg,w.n,1⟩:=by unfold qA;rw [hd]
 have b:=LY w.neg w.n d a c g (by omega)
 rw [← e] at b
 exact abh n d w ⟨false,d,1⟩ _ f (LX d (by omega)) b
def AA:dW:=⟨[],[]⟩
theorem jF:AA.sm:=⟨by decide,by decide,by decide,fun s hs=>by cases hs⟩
def ajF:dW:=⟨[⟨6,[120],false,[5],[1],0⟩],[]⟩
theorem abH:ajF.sm:=⟨by decide,by decide,by decide,fun s hs=>by cases hs⟩
def ajG:dW:=⟨[⟨6,[120],false,[],[],17⟩],[]⟩
theorem abI:ajG.sm:=⟨by decide,by decide,by decide,fun s hs=>by cases hs⟩
def ajH:dW:=⟨[],[⟨[115],0,0,[⟨false,[],[1],false,[],[1]⟩,⟨false,[100],[1],false,[1],[10]⟩,⟨false,[1,44],[1],false,[1],[4]⟩]⟩]⟩
theorem abJ:ajH.sm:=⟨by decide,by decide,by decide,fun s hs=>by
 rw [show s=_ from List.mem_singleton.1 hs]
 refine ⟨by decide,fun b a=> ?_⟩
 have:b ∈ ([⟨false,[],[1],false,[],[1]⟩,⟨false,[100],[1],false,[1],[10]⟩,⟨false,[1,44],[1],false,[1],[4]⟩]:List Br):=a
 simp only [List.mem_cons,List.not_mem_nil,or_false] at this
 rcases this with rfl|rfl|rfl<;>exact ⟨⟨by decide,by decide⟩,by decide,by decide⟩⟩
theorem k0:CO 27 [.int .i64 1,.int .i64 1] (.ret (.agg [.bool false,.str [1],.str [1]])):=kL (sN 1 1 (by decide) (by decide) (by decide) (by decide)) (by kernel_rfl)
theorem k1:CO 37 [.int .i64 1,.int .i64 1] (.ret (.agg zcc4_14)):=cK (.c k0 .nil)
theorem k2:CO 27 [.int .i64 0,.int .i64 1] (.ret (.agg [.bool false,.str [],.str [1]])):=kL (sN 0 1 (by decide) (by decide) (by decide) (by decide)) (by kernel_rfl)
theorem k3:CO 37 [.int .i64 0,.int .i64 1] (.ret (.agg zcc4_15)):=cK (.c k2 .nil)
theorem k4:CO 27 [.int .i64 5,.int .i64 6] (.ret (.agg [.bool false,.str [5],.str [6]])):=kL (sN 5 6 (by decide) (by decide) (by decide) (by decide)) (by kernel_rfl)
theorem k5:CO 29 [.agg [.bool false,.str [5],.str [6]]] (.ret (.agg [.bool false,.str [5],.str [6],.int .i64 0])):=cK (.nil)
theorem k6:CO 27 [.int .i64 1,.int .i64 2] (.ret (.agg [.bool false,.str [1],.str [2]])):=kL (sN 1 2 (by decide) (by decide) (by decide) (by decide)) (by kernel_rfl)
theorem k7:CO 40 [.int .i64 1,.int .i64 2] (.ret (.agg [.int .i64 1,.bool false,.str [1],.str [2],.str []])):=cK (.c k6 .nil)
theorem k8:CO 27 [.int .i64 1,.int .i64 3] (.ret (.agg [.bool false,.str [1],.str [3]])):=kL (sN 1 3 (by decide) (by decide) (by decide) (by decide)) (by kernel_rfl)
theorem k9:CO 40 [.int .i64 1,.int .i64 3] (.ret (.agg [.int .i64 1,.bool false,.str [1],.str [3],.str []])):=cK (.c k8 .nil)
theorem k10:CO 21 [.sl zcc4_6 3 true,.agg [.nilS,.nilS]] (.ret (.agg [.bool false,.str [5],.str [6],.int .i64 0])):=aA.args (.cons (aU.refl _) (.cons (aU.agg (.cons (aU.nilS false rfl) (.cons (aU.nilS false rfl) .nil))) .nil)) (kL (q:=CO 21 [.sl zcc4_6 3 true,.agg [.sl [] 0 false,.sl [] 0 false]] (.ret (.agg [.bool false,.str [5],.str [6],.int .i64 0]))) (g_ AA false false true (e:= [⟨1,false,[1],[2],[]⟩,⟨1,false,[1],[3],[]⟩,⟨9,false,[],[],[]⟩]) jF (kJ (by kernel_rfl))) (by kernel_rfl))
theorem k11:CO 39 [.agg [.nilS,.nilS],.agg [.bool false,.str [5],.str [6],.int .i64 0],.sl zcc4_6 3 true] (.ret (.bool true)):=cK (.c k10 .nil)
theorem k12:CO 29 [.agg [.bool false,.str [1],.str [1]]] (.ret (.agg [.bool false,.str [1],.str [1],.int .i64 0])):=cK (.nil)
theorem k13:CO 28 [.int .i64 1] (.ret (.agg [.int .i64 4,.bool false,.str [1],.str [1],.str []])):=cK (.c k0 .nil)
theorem k14:CO 38 [.int .i64 1,.pp zcc4_14 0,.pp [.sl [.int .i64 3,.bool false,.str [1],.str [1],.str [],.int .i64 3,.bool false,.str [],.str [1],.str [],.int .i64 12,.bool false,.str [],.str [],.str []] 3 true] 0] (.ret (.own zcc4_0 6 5)):=cK (.c k13 .nil)
theorem k15:CO 21 [.sl zcc4_0 6 true,.agg [.nilS,.nilS]] (.ret (.agg [.bool false,.str [1],.str [1],.int .i64 0])):=aA.args (.cons (aU.refl _) (.cons (aU.agg (.cons (aU.nilS false rfl) (.cons (aU.nilS false rfl) .nil))) .nil)) (kL (q:=CO 21 [.sl zcc4_0 6 true,.agg [.sl [] 0 false,.sl [] 0 false]] (.ret (.agg [.bool false,.str [1],.str [1],.int .i64 0]))) (g_ AA false false true (e:= [⟨4,false,[1],[1],[]⟩,⟨3,false,[1],[1],[]⟩,⟨3,false,[1],[1],[]⟩,⟨3,false,[],[1],[]⟩,⟨12,false,[],[],[]⟩,⟨15,false,[],[],[]⟩]) jF (kJ (by kernel_rfl))) (by kernel_rfl))
theorem k16:CO 39 [.agg [.nilS,.nilS],.agg [.bool false,.str [1],.str [1],.int .i64 0],.sl zcc4_0 6 true] (.ret (.bool true)):=cK (.c k15 .nil)
theorem k17:CO 26 [.int .i64 16] (.ret (.agg [.bool false,.str [],.str [],.int .i64 16])):=cK (.nil)
theorem k18:CO 28 [.int .i64 0] (.ret (.agg [.int .i64 4,.bool false,.str [],.str [1],.str []])):=cK (.c k2 .nil)
theorem k19:CO 38 [.int .i64 0,.pp zcc4_14 0,.pp [.sl [.int .i64 3,.bool false,.str [1],.str [1],.str [],.int .i64 3,.bool false,.str [],.str [1],.str [],.int .i64 12,.bool false,.str [],.str [],.str []] 3 true] 0] (.ret (.own zcc4_1 6 5)):=cK (.c k18 .nil)
theorem k20:CO 21 [.sl zcc4_1 6 true,.agg [.nilS,.nilS]] (.ret (.agg [.bool false,.str [],.str [],.int .i64 16])):=aA.args (.cons (aU.refl _) (.cons (aU.agg (.cons (aU.nilS false rfl) (.cons (aU.nilS false rfl) .nil))) .nil)) (kL (q:=CO 21 [.sl zcc4_1 6 true,.agg [.sl [] 0 false,.sl [] 0 false]] (.ret (.agg [.bool false,.str [],.str [],.int .i64 16]))) (g_ AA false false true (e:= [⟨4,false,[],[1],[]⟩,⟨3,false,[1],[1],[]⟩,⟨3,false,[1],[1],[]⟩,⟨3,false,[],[1],[]⟩,⟨12,false,[],[],[]⟩,⟨15,false,[],[],[]⟩]) jF (kJ (by kernel_rfl))) (by kernel_rfl))
theorem k21:CO 39 [.agg [.nilS,.nilS],.agg [.bool false,.str [],.str [],.int .i64 16],.sl zcc4_1 6 true] (.ret (.bool true)):=cK (.c k20 .nil)
theorem k22:CO 26 [.int .i64 13] (.ret (.agg [.bool false,.str [],.str [],.int .i64 13])):=cK (.nil)
theorem k23:CO 27 [.int .i64 2,.int .i64 1] (.ret (.agg [.bool false,.str [2],.str [1]])):=kL (sN 2 1 (by decide) (by decide) (by decide) (by decide)) (by kernel_rfl)
theorem k24:CO 37 [.int .i64 2,.int .i64 1] (.ret (.agg [.int .i64 3,.bool false,.str [2],.str [1],.str []])):=cK (.c k23 .nil)
theorem k25:CO 21 [.sl zcc4_5 3 true,.agg [.nilS,.nilS]] (.ret (.agg [.bool false,.str [],.str [],.int .i64 13])):=aA.args (.cons (aU.refl _) (.cons (aU.agg (.cons (aU.nilS false rfl) (.cons (aU.nilS false rfl) .nil))) .nil)) (kL (q:=CO 21 [.sl zcc4_5 3 true,.agg [.sl [] 0 false,.sl [] 0 false]] (.ret (.agg [.bool false,.str [],.str [],.int .i64 13]))) (g_ AA false false true (e:= [⟨4,false,[1],[1],[]⟩,⟨3,false,[2],[1],[]⟩,⟨18,false,[],[],[]⟩]) jF (kJ (by kernel_rfl))) (by kernel_rfl))
theorem k26:CO 39 [.agg [.nilS,.nilS],.agg [.bool false,.str [],.str [],.int .i64 13],.sl zcc4_5 3 true] (.ret (.bool true)):=cK (.c k25 .nil)
theorem k27:CO 21 [.sl zcc4_2 5 true,.agg [.nilS,.nilS]] (.ret (.agg [.bool false,.str [],.str [],.int .i64 16])):=aA.args (.cons (aU.refl _) (.cons (aU.agg (.cons (aU.nilS false rfl) (.cons (aU.nilS false rfl) .nil))) .nil)) (kL (q:=CO 21 [.sl zcc4_2 5 true,.agg [.sl [] 0 false,.sl [] 0 false]] (.ret (.agg [.bool false,.str [],.str [],.int .i64 16]))) (g_ AA false false true (e:= [⟨3,false,[2],[1],[]⟩,⟨3,false,[1],[1],[]⟩,⟨3,false,[],[1],[]⟩,⟨12,false,[],[],[]⟩,⟨19,false,[],[],[]⟩]) jF (kJ (by kernel_rfl))) (by kernel_rfl))
theorem k28:CO 39 [.agg [.nilS,.nilS],.agg [.bool false,.str [],.str [],.int .i64 16],.sl zcc4_2 5 true] (.ret (.bool true)):=cK (.c k27 .nil)
theorem k29:CO 27 [.int .i64 5,.int .i64 1] (.ret (.agg [.bool false,.str [5],.str [1]])):=kL (sN 5 1 (by decide) (by decide) (by decide) (by decide)) (by kernel_rfl)
theorem k30:CO 29 [.agg [.bool false,.str [5],.str [1]]] (.ret (.agg [.bool false,.str [5],.str [1],.int .i64 0])):=cK (.nil)
theorem k31:CO 26 [.int .i64 17] (.ret (.agg [.bool false,.str [],.str [],.int .i64 17])):=cK (.nil)
theorem k32:CO 26 [.int .i64 12] (.ret (.agg [.bool false,.str [],.str [],.int .i64 12])):=cK (.nil)
theorem k33:CO 21 [.sl zcc4_13 1 true,.agg [.nilS,.nilS]] (.ret (.agg [.bool false,.str [],.str [],.int .i64 12])):=aA.args (.cons (aU.refl _) (.cons (aU.agg (.cons (aU.nilS false rfl) (.cons (aU.nilS false rfl) .nil))) .nil)) (kL (q:=CO 21 [.sl zcc4_13 1 true,.agg [.sl [] 0 false,.sl [] 0 false]] (.ret (.agg [.bool false,.str [],.str [],.int .i64 12]))) (g_ AA false false true (e:= [⟨6,false,[],[],[120]⟩]) jF (kJ (by kernel_rfl))) (by kernel_rfl))
theorem k34:CO 39 [.agg [.nilS,.nilS],.agg [.bool false,.str [],.str [],.int .i64 12],.sl zcc4_13 1 true] (.ret (.bool true)):=cK (.c k33 .nil)
theorem k35:CO 21 [.sl zcc4_13 1 true,.agg [.sl zcc4_11 1 true,.nilS]] (.ret (.agg [.bool false,.str [5],.str [1],.int .i64 0])):=aA.args (.cons (aU.refl _) (.cons (aU.agg (.cons (aU.refl _) (.cons (aU.nilS false rfl) .nil))) .nil)) (kL (q:=CO 21 [.sl zcc4_13 1 true,.agg [.sl zcc4_11 1 true,.sl [] 0 false]] (.ret (.agg [.bool false,.str [5],.str [1],.int .i64 0]))) (g_ ajF true false true (e:= [⟨6,false,[],[],[120]⟩]) abH (kJ (by kernel_rfl))) (by kernel_rfl))
theorem k36:CO 39 [.agg [.sl zcc4_11 1 true,.nilS],.agg [.bool false,.str [5],.str [1],.int .i64 0],.sl zcc4_13 1 true] (.ret (.bool true)):=cK (.c k35 .nil)
theorem k37:CO 21 [.sl zcc4_3 5 true,.agg [.sl zcc4_12 1 true,.nilS]] (.ret (.agg [.bool false,.str [],.str [],.int .i64 17])):=aA.args (.cons (aU.refl _) (.cons (aU.agg (.cons (aU.refl _) (.cons (aU.nilS false rfl) .nil))) .nil)) (kL (q:=CO 21 [.sl zcc4_3 5 true,.agg [.sl zcc4_12 1 true,.sl [] 0 false]] (.ret (.agg [.bool false,.str [],.str [],.int .i64 17]))) (g_ ajG true false true (e:= [⟨6,false,[],[],[120]⟩,⟨3,false,[1],[1],[]⟩,⟨3,false,[],[1],[]⟩,⟨12,false,[],[],[]⟩,⟨9,false,[],[],[]⟩]) abI (kJ (by kernel_rfl))) (by kernel_rfl))
theorem k38:CO 39 [.agg [.sl zcc4_12 1 true,.nilS],.agg [.bool false,.str [],.str [],.int .i64 17],.sl zcc4_3 5 true] (.ret (.bool true)):=cK (.c k37 .nil)
theorem k39:CO 27 [.int .i64 3,.int .i64 2] (.ret (.agg [.bool false,.str [3],.str [2]])):=kL (sN 3 2 (by decide) (by decide) (by decide) (by decide)) (by kernel_rfl)
theorem k40:CO 29 [.agg [.bool false,.str [3],.str [2]]] (.ret (.agg [.bool false,.str [3],.str [2],.int .i64 0])):=cK (.nil)
theorem k41:CO 27 [.int .i64 5,.int .i64 4] (.ret (.agg [.bool false,.str [5],.str [4]])):=kL (sN 5 4 (by decide) (by decide) (by decide) (by decide)) (by kernel_rfl)
theorem k42:CO 37 [.int .i64 5,.int .i64 4] (.ret (.agg [.int .i64 3,.bool false,.str [5],.str [4],.str []])):=cK (.c k41 .nil)
theorem k43:CO 21 [.sl zcc4_9 2 true,.agg [.nilS,.nilS]] (.ret (.agg [.bool false,.str [3],.str [2],.int .i64 0])):=aA.args (.cons (aU.refl _) (.cons (aU.agg (.cons (aU.nilS false rfl) (.cons (aU.nilS false rfl) .nil))) .nil)) (kL (q:=CO 21 [.sl zcc4_9 2 true,.agg [.sl [] 0 false,.sl [] 0 false]] (.ret (.agg [.bool false,.str [3],.str [2],.int .i64 0]))) (g_ AA false false true (e:= [⟨3,false,[5],[4],[]⟩,⟨23,false,[1],[2],[]⟩]) jF (kJ (by kernel_rfl))) (by kernel_rfl))
theorem k44:CO 39 [.agg [.nilS,.nilS],.agg [.bool false,.str [3],.str [2],.int .i64 0],.sl zcc4_9 2 true] (.ret (.bool true)):=cK (.c k43 .nil)
theorem k45:CO 27 [.int .i64 (-1),.int .i64 2] (.ret (.agg [.bool true,.str [1],.str [2]])):=kL (sN (-1) 2 (by decide) (by decide) (by decide) (by decide)) (by kernel_rfl)
theorem k46:CO 29 [.agg [.bool true,.str [1],.str [2]]] (.ret (.agg [.bool true,.str [1],.str [2],.int .i64 0])):=cK (.nil)
theorem k47:CO 27 [.int .i64 (-1),.int .i64 4] (.ret (.agg [.bool true,.str [1],.str [4]])):=kL (sN (-1) 4 (by decide) (by decide) (by decide) (by decide)) (by kernel_rfl)
theorem k48:CO 37 [.int .i64 (-1),.int .i64 4] (.ret (.agg [.int .i64 3,.bool true,.str [1],.str [4],.str []])):=cK (.c k47 .nil)
theorem k49:CO 21 [.sl zcc4_10 2 true,.agg [.nilS,.nilS]] (.ret (.agg [.bool true,.str [1],.str [2],.int .i64 0])):=aA.args (.cons (aU.refl _) (.cons (aU.agg (.cons (aU.nilS false rfl) (.cons (aU.nilS false rfl) .nil))) .nil)) (kL (q:=CO 21 [.sl zcc4_10 2 true,.agg [.sl [] 0 false,.sl [] 0 false]] (.ret (.agg [.bool true,.str [1],.str [2],.int .i64 0]))) (g_ AA false false true (e:= [⟨3,true,[1],[4],[]⟩,⟨21,false,[1],[2],[]⟩]) jF (kJ (by kernel_rfl))) (by kernel_rfl))
theorem k50:CO 39 [.agg [.nilS,.nilS],.agg [.bool true,.str [1],.str [2],.int .i64 0],.sl zcc4_10 2 true] (.ret (.bool true)):=cK (.c k49 .nil)
theorem k51:CO 27 [.int .i64 100,.int .i64 1] (.ret (.agg [.bool false,.str [100],.str [1]])):=kL (sN 100 1 (by decide) (by decide) (by decide) (by decide)) (by kernel_rfl)
theorem k52:CO 27 [.int .i64 1,.int .i64 10] (.ret (.agg [.bool false,.str [1],.str [10]])):=kL (sN 1 10 (by decide) (by decide) (by decide) (by decide)) (by kernel_rfl)
theorem k53:CO 27 [.int .i64 300,.int .i64 1] (.ret (.agg [.bool false,.str [1,44],.str [1]])):=kL (sN 300 1 (by decide) (by decide) (by decide) (by decide)) (by kernel_rfl)
theorem k54:CO 27 [.int .i64 1,.int .i64 4] (.ret (.agg [.bool false,.str [1],.str [4]])):=kL (sN 1 4 (by decide) (by decide) (by decide) (by decide)) (by kernel_rfl)
theorem k55:CO 27 [.int .i64 200,.int .i64 1] (.ret (.agg [.bool false,.str [200],.str [1]])):=kL (sN 200 1 (by decide) (by decide) (by decide) (by decide)) (by kernel_rfl)
theorem k56:CO 40 [.int .i64 200,.int .i64 1] (.ret (.agg [.int .i64 1,.bool false,.str [200],.str [1],.str []])):=cK (.c k55 .nil)
theorem k57:CO 27 [.int .i64 10,.int .i64 1] (.ret (.agg [.bool false,.str [10],.str [1]])):=kL (sN 10 1 (by decide) (by decide) (by decide) (by decide)) (by kernel_rfl)
theorem k58:CO 29 [.agg [.bool false,.str [10],.str [1]]] (.ret (.agg [.bool false,.str [10],.str [1],.int .i64 0])):=cK (.nil)
theorem k59:CO 21 [.sl zcc4_8 2 true,.agg [.nilS,.sl [.str [115],.int .i64 0,.int .i64 0,.sl zcc4_4 3 true] 1 true]] (.ret (.agg [.bool false,.str [10],.str [1],.int .i64 0])):=aA.args (.cons (aU.refl _) (.cons (aU.agg (.cons (aU.nilS false rfl) (.cons (aU.slP (.same (.same (.same (.sl .nil))))) .nil))) .nil)) (kL (q:=CO 21 [.sl zcc4_8 2 true,.agg [.sl [] 0 false,.sl [.str [115],.int .i64 0,.int .i64 0,.sl zcc4_4 3 false] 1 true]] (.ret (.agg [.bool false,.str [10],.str [1],.int .i64 0]))) (g_ ajH false true true (e:= [⟨1,false,[200],[1],[]⟩,⟨24,false,[],[],[115]⟩]) abJ (kJ (by kernel_rfl))) (by kernel_rfl))
theorem k60:CO 39 [.agg [.nilS,.sl [.str [115],.int .i64 0,.int .i64 0,.sl zcc4_4 3 true] 1 true],.agg [.bool false,.str [10],.str [1],.int .i64 0],.sl zcc4_8 2 true] (.ret (.bool true)):=cK (.c k59 .nil)
theorem k61:CO 21 [.sl zcc4_8 2 true,.agg [.nilS,.nilS]] (.ret (.agg [.bool false,.str [],.str [],.int .i64 12])):=aA.args (.cons (aU.refl _) (.cons (aU.agg (.cons (aU.nilS false rfl) (.cons (aU.nilS false rfl) .nil))) .nil)) (kL (q:=CO 21 [.sl zcc4_8 2 true,.agg [.sl [] 0 false,.sl [] 0 false]] (.ret (.agg [.bool false,.str [],.str [],.int .i64 12]))) (g_ AA false false true (e:= [⟨1,false,[200],[1],[]⟩,⟨24,false,[],[],[115]⟩]) jF (kJ (by kernel_rfl))) (by kernel_rfl))
theorem k62:CO 39 [.agg [.nilS,.nilS],.agg [.bool false,.str [],.str [],.int .i64 12],.sl zcc4_8 2 true] (.ret (.bool true)):=cK (.c k61 .nil)
theorem k63:CO 27 [.int .i64 3,.int .i64 1] (.ret (.agg [.bool false,.str [3],.str [1]])):=kL (sN 3 1 (by decide) (by decide) (by decide) (by decide)) (by kernel_rfl)
theorem k64:CO 37 [.int .i64 3,.int .i64 1] (.ret (.agg [.int .i64 3,.bool false,.str [3],.str [1],.str []])):=cK (.c k63 .nil)
theorem k65:CO 19 [.sl [.int .i64 3,.bool false,.str [1],.str [1],.str [],.int .i64 3,.bool false,.str [3],.str [1],.str [],.int .i64 10,.bool false,.str [],.str [],.str []] 3 true,.agg [.nilS,.nilS]] (.ret (.own zcc4_7 3 4)):=aA.args (.cons (aU.refl _) (.cons (aU.agg (.cons (aU.nilS false rfl) (.cons (aU.nilS false rfl) .nil))) .nil)) (kL (q:=CO 19 [.sl [.int .i64 3,.bool false,.str [1],.str [1],.str [],.int .i64 3,.bool false,.str [3],.str [1],.str [],.int .i64 10,.bool false,.str [],.str [],.str []] 3 true,.agg [.sl [] 0 false,.sl [] 0 false]] (.ret (.own zcc4_7 3 4))) (Ha AA false false true (e:= [⟨3,false,[1],[1],[]⟩,⟨3,false,[3],[1],[]⟩,⟨10,false,[],[],[]⟩]) jF (by kernel_rfl) (kJ (by kernel_rfl))) (by kernel_rfl))
theorem k66:CO 29 [.agg [.bool false,.str [3],.str [1]]] (.ret (.agg [.bool false,.str [3],.str [1],.int .i64 0])):=cK (.nil)
theorem k67:CO 27 [.int .i64 (-2),.int .i64 1] (.ret (.agg [.bool true,.str [2],.str [1]])):=kL (sN (-2) 1 (by decide) (by decide) (by decide) (by decide)) (by kernel_rfl)
theorem k68:CO 29 [.agg [.bool true,.str [2],.str [1]]] (.ret (.agg [.bool true,.str [2],.str [1],.int .i64 0])):=cK (.nil)
theorem k69:CO 18 [.sl zcc4_7 3 true,.sl zcc4_7 3 true] (.ret (.bool true)):=kL (Uc [.val ⟨false,1,1⟩,.val ⟨false,3,1⟩,.val ⟨true,2,1⟩] [.val ⟨false,1,1⟩,.val ⟨false,3,1⟩,.val ⟨true,2,1⟩] true true (by decide)) (by kernel_rfl)
theorem k70:CO 15 [.agg [.int .i64 20,.bool false,.str [],.str [],.str []],.nilS,.agg [.nilS,.nilS]] (.ret (.agg [.bool false,.str [],.str [],.int .i64 11])):=aA.args (.cons (aU.refl _) (.cons (aU.nilS false rfl) (.cons (aU.agg (.cons (aU.nilS false rfl) (.cons (aU.nilS false rfl) .nil))) .nil))) (kL (q:=CO 15 [.agg [.int .i64 20,.bool false,.str [],.str [],.str []],.sl [] 0 false,.agg [.sl [] 0 false,.sl [] 0 false]] (.ret (.agg [.bool false,.str [],.str [],.int .i64 11]))) (Qi AA false false false jF ⟨20,false,[],[],[]⟩ ⟨by decide,by decide⟩ (ar:= []) (by decide) (by simp)) (by kernel_rfl))
theorem k71:CO 26 [.int .i64 11] (.ret (.agg [.bool false,.str [],.str [],.int .i64 11])):=cK (.nil)
theorem k72:CO 21 [.nilS,.agg [.nilS,.nilS]] (.ret (.agg [.bool false,.str [],.str [],.int .i64 11])):=aA.args (.cons (aU.nilS false rfl) (.cons (aU.agg (.cons (aU.nilS false rfl) (.cons (aU.nilS false rfl) .nil))) .nil)) (kL (q:=CO 21 [.sl [] 0 false,.agg [.sl [] 0 false,.sl [] 0 false]] (.ret (.agg [.bool false,.str [],.str [],.int .i64 11]))) (g_ AA false false false (e:= []) jF (kJ (by kernel_rfl))) (by kernel_rfl))
theorem k73:CO 29 [.agg [.bool false,.str [1],.str [2]]] (.ret (.agg [.bool false,.str [1],.str [2],.int .i64 0])):=cK (.nil)
theorem k74:CO 17 [.agg [.bool false,.str [1],.str [2],.int .i64 0],.agg [.bool false,.str [1],.str [2],.int .i64 0]] (.ret (.bool true)):=kL (Qh (.val ⟨false,1,2⟩) (.val ⟨false,1,2⟩)) (by kernel_rfl)
theorem k75:CO 17 [.agg [.bool false,.str [1],.str [2],.int .i64 0],.agg [.bool false,.str [],.str [],.int .i64 16]] (.ret (.bool false)):=kL (Qh (.val ⟨false,1,2⟩) (.err 16)) (by kernel_rfl)
theorem k76:CO 13 [] (.ret (.bool true)):=cK (.c k75 (.c k17 (.c k73 (.c k74 (.c k73 (.c k73 (.c k71 (.c k72 (.c k71 (.c k70 (.c k69 (.c k68 (.c k67 (.c k66 (.c k63 (.c k12 (.c k0 (.c k65 (.c k64 (.c k62 (.c k32 (.c k60 (.c k58 (.c k57 (.c k56 (.c k54 (.c k53 (.c k52 (.c k51 (.c k2 (.c k2 (.c k50 (.c k48 (.c k46 (.c k45 (.c k44 (.c k42 (.c k40 (.c k39 (.c k6 (.c k38 (.c k31 (.c k36 (.c k30 (.c k29 (.c k34 (.c k32 (.c k31 (.c k30 (.c k29 (.c k28 (.c k24 (.c k17 (.c k26 (.c k24 (.c k13 (.c k22 (.c k21 (.c k19 (.c k17 (.c k16 (.c k14 (.c k12 (.c k0 (.c k11 (.c k9 (.c k7 (.c k5 (.c k4 (.c k3 (.c k1 (.c k1 .nil))))))))))))))))))))))))))))))))))))))))))))))))))))))))))))))))))))))))
theorem agh:CO 13 [] (.ret (.bool true)):=k76
theorem al1:CO 63 [.int .i64 1,.int .i64 0] (.ret (.agg [.bool false,.int .i64 1,.int .i64 0])):=cK (.nil)
theorem al2:CO 63 [.int .i64 0,.int .i64 0] (.ret (.agg [.bool false,.int .i64 0,.int .i64 0])):=cK (.nil)
theorem abP:CO 64 [] (.ret (.agg [.bool true,.int .i64 0,.int .i64 0])):=cK (.nil)
theorem ajJ:CO 63 [.int .i64 0,.int .i64 1] (.ret (.agg [.bool false,.int .i64 0,.int .i64 1])):=cK (.nil)
theorem al3:CO 35 [] (.ret (.own [.int .i64 5,.str [105,110,99,111,109,101],.bool false,.int .i64 1,.int .i64 0,.int .i64 5,.str [107,105,100,115],.bool false,.int .i64 0,.int .i64 0,.int .i64 5,.str [115,105,110,103,108,101],.bool true,.int .i64 0,.int .i64 0,.int .i64 5,.str [115,116,97,121],.bool false,.int .i64 0,.int .i64 1,.int .i64 6,.str [112,111,111,114],.bool true,.int .i64 0,.int .i64 0,.int .i64 6,.str [116,97,120],.bool false,.int .i64 1,.int .i64 0,.int .i64 7,.str [112,111,111,114],.bool true,.int .i64 0,.int .i64 0,.int .i64 7,.str [116,97,120],.bool false,.int .i64 1,.int .i64 0,.int .i64 8,.str [112,111,111,114],.bool true,.int .i64 0,.int .i64 0,.int .i64 8,.str [116,97,120],.bool false,.int .i64 1,.int .i64 0,.int .i64 24,.str [115,99,97,108,101],.bool false,.int .i64 1,.int .i64 0,.int .i64 24,.str [116,101,114,109],.bool false,.int .i64 0,.int .i64 1] 12 5)):=cK (.c ajJ (.c abP (.c abP (.c abP (.c ajJ (.c abP (.c al2 (.c al1 .nil))))))))
theorem ag4 (b a:List Int) (f d c:Bool) (q:Int) (t:Ty) (e:List Nd) (E:dW) (h:CO 35 [] (.ret (.own (gV aQ) 12 5))) (j:CO 32 [.int .i64 (IntKind.wrap .i64 q)] (.ret (.agg [.bool t.tr,.int .i64 t.m,.int .i64 t.d]))) (i:CO 57 [.sl (List.take 60 (gV aQ)) 12 true,.agg [.bool t.tr,.int .i64 t.m,.int .i64 t.d],.sl (iL b) b.length f] (.ret (.own (bC e) e.length 5))) (g:CO 58 [.sl (List.take 60 (gV aQ)) 12 true,.sl (iL a) a.length d,.bool c] (.ret (.agg [.sl (kE E.ls) E.ls.length true,.sl (kS (E.qs.map Sq.c)) (E.qs.map Sq.c).length true]))):CO 23 [.agg [.sl (iL b) b.length f,.sl (iL a) a.length d],.int .u8 q,.bool c] (.ret (.tup [.own (List.take (e.length*5) (bC e)) e.length 5,.agg [.sl (kE E.ls) E.ls.length true,.sl (kS (E.qs.map Sq.c)) (E.qs.map Sq.c).length true]])):=pK [] 0 0 (.n 9 .nil) (.c g (.c i (.c j (.c h .nil))))
theorem alf (q:Int):∃ t,WE t∧CO 32 [.int .i64 q] (.ret (.agg (ug t))):=by
 obtain ⟨k,a,h⟩:=aai q
 rcases (show k=0∨k=1∨k=2∨k=3∨k=4 by omega) with rfl|rfl|rfl|rfl|rfl
 ·exact ⟨tM,.inl (by simp [cO]),h⟩
 ·exact ⟨tD,.inl (by simp [cO]),h⟩
 ·exact ⟨tP,.inl (by simp [cO]),h⟩
 ·exact ⟨tT,.inl (by simp [cO]),h⟩
 ·exact ⟨⟨false,1, -1⟩,.inr rfl,h⟩
theorem X7:CO 35 [] (.ret (.own (gV aQ) 12 5)):=kL al3 (by kernel_rfl)
structure Du (t:Ty) (e:List Nd):Prop where
 tm:Tm aQ e t
 sm:∀ x ∈ e,x.sm
 ln:e.length≤13
theorem Du.ck {t:Ty} {e:List Nd} (h:Du t e):bW e=0:=h.tm.check (by have:=h.ln;omega)
theorem Du.pos {t:Ty} {e:List Nd} (h:Du t e):0<e.length:=(jc h.ck).2.2
theorem ag2 (q:Int) (t:Ty) (h:WE t) (a:List Int) (b:a.length<2^63):∃ e,Du t e∧CO 57 [.sl (gV aQ) 12 true,.agg (ug t),.sl (iL a) a.length false] (.ret (.own (bC e) e.length 5)):=by
 obtain ⟨e,d,c,g,f⟩:=YI h a false b
 exact ⟨e,⟨d,c,g⟩,f⟩
theorem ag3 {b a:List Int} {c:Bool} {q:Int} {t:Ty} {e:List Nd} {E:dW} (ck:CO 32 [.int .i64 (IntKind.wrap .i64 q)] (.ret (.agg (ug t)))) (d:CO 57 [.sl (gV aQ) 12 true,.agg (ug t),.sl (iL b) b.length false] (.ret (.own (bC e) e.length 5))) (f:CO 58 [.sl (gV aQ) 12 true,.sl (iL a) a.length false,.bool c] (.ret (Zz E true true))):
  CO 23 [.agg [.sl (iL b) b.length false,.sl (iL a) a.length false],.int .u8 q,.bool c] (.ret (.tup [.own (bC e) e.length 5,Zz E true true])):=by
 have h:=ag4 b a false false c q t e E X7 ck d f
 rw [Jm] at h
 exact h
def Ux (o:Oq):Ro:=⟨o.n,o.a,o.d,o.e⟩
theorem af0 (l:List Oq):xW (l.map Ux)=gp l:=by
 induction l with
 |nil=>rfl
 |cons x r ih=>
  show roC (Ux x)++xW (r.map Ux)=Cc x++gp r
  rw [ih];rfl
theorem af1 {o:Oq} (h:o.ok):JU (Ux o)=o:=by
 cases o with
 |err e=>exact if_neg h
 |val q=>
  show uf q.neg (ae q.n) (ae q.d) 0=_
  rw [u_ h.1];unfold mM;rw [if_pos h.2]
theorem Yj {l:List Oq} (h:∀ o ∈ l,o.ok):(l.map Ux).map JU=l:=by
 rw [List.map_map]
 conv=>rhs;rw [← List.map_id l]
 exact List.map_congr_left fun o a=>af1 (h o a)
theorem V8 {E:dW} {y:Nd} {l:List Oq} (a:aC y=0) (b:l.length=dX y.op):ZU E y l=dD E y l:=by
 unfold ZU
 have c:=Iz y.op
 rw [if_pos]
 unfold bW
 rw [if_neg (by simp [gy];omega),DT]
 simp only [gZ]
 rw [if_pos a,if_neg (by omega)]
 simp only
 rw [if_pos (by omega)]
theorem alJ {E:dW} (k:E.sm) (a c d:Bool) {y:Nd} (g:aC y=0) (j:y.sm) {l:List Oq} (e:l.length=dX y.op) (b:∀ o ∈ l,o.ok):
  CO 15 [.agg (yZ y),.sl (gp l) l.length d,Zz E a c] (.ret (fH (dD E y l))):=by
 have m:=Iz y.op
 have h:=Qi E a c d k y j (ar:=l.map Ux) (by rw [List.length_map];omega) (by
  intro x i
  obtain ⟨o,f,rfl⟩:=List.mem_map.1 i
  have:=aeY (b o f)
  exact ⟨Nat.lt_of_le_of_lt this.1 (by decide),Nat.lt_of_le_of_lt this.2 (by decide)⟩)
 rw [af0,Yj b,List.length_map,V8 g e] at h
 exact h
theorem sfO (o:Oq):lit false (!((o.n==o.n) && ((o.a==o.a) && ((o.d==o.d) && ((o.e==o.e) && true)))))=true:=by simp [lit]
theorem seO (o:Oq):AV.bool ((o.n==o.n) && ((o.a==o.a) && ((o.d==o.d) && ((o.e==o.e) && true))))= .bool true:=by simp
theorem stO (o:Oq):lit true ((o.n==o.n) && ((o.a==o.a) && ((o.d==o.d) && ((o.e==o.e) && true))))=true:=by simp [lit]
def WA (op:Int) (nm:List UInt8) (y:Lk):Bool:=(op==y.op) && (nm==y.nm)
theorem aeJ {E:dW} {f:Bool} (h:Nq f E) {op:Int} {nm:List UInt8} {t:Ty} (v:5≤op) (r:op≤8) (q:lN aQ op nm=some t):∃ x s,E.ls.find? (WA op nm)=some x∧s ∈ Uh∧x.op=s.op∧x.nm=s.name∧op=s.op∧nm=s.name∧xX f s.ty x:=by
 obtain ⟨s,hs,d,rfl⟩:=yJ q
 simp only [lS,Bool.and_eq_true,beq_iff_eq] at d
 obtain ⟨m,o,_⟩:=d
 have c:s ∈ Uh:=by
  rcases List.mem_append.1 (show s ∈ Uh++sgR from hs) with h|h
  ·exact h
  ·exfalso
   have:∀ s ∈ sgR,s.op=24:=by decide
   have:=this s h
   omega
 obtain ⟨x,g,j,i,_⟩:=h.lk.has s c
 have hsome:(E.ls.find? (WA op nm)).isSome:=by
  rw [List.find?_isSome]
  exact ⟨x,g,by unfold WA;rw [j,i,m,o];simp⟩
 obtain ⟨y,b⟩:=Option.isSome_iff_exists.1 hsome
 have a:=List.find?_some b
 simp only [WA,Bool.and_eq_true,beq_iff_eq] at a
 obtain ⟨u,n,k,e,p⟩:=h.lk.get y (List.mem_of_find?_eq_some b)
 exact ⟨y,u,b,n,k,e,by omega,by rw [a.2,e],p⟩
theorem ah8 (ls:List Lk) (op:Int) (nm:List UInt8):Lp ls op nm=(ls.find? (WA op nm)).map UM:=rfl
theorem afE {E:dW} {j:Bool} (h:Nq j E) {nm:List UInt8} {t:Ty} (m:lN aQ 24 nm=some t):∃ q ∈ E.qs,sqO E.qs nm=some q∧q.nm=nm∧JS mW q.l=0:=by
 obtain ⟨s,hs,d,rfl⟩:=yJ m
 simp only [lS,Bool.and_eq_true,beq_iff_eq] at d
 obtain ⟨i,k,_⟩:=d
 have b:s ∈ sgR:=by
  rcases List.mem_append.1 (show s ∈ Uh++sgR from hs) with h|h
  ·exfalso
   have:∀ s ∈ Uh,s.op ≠ 24:=by decide
   exact this s h i
  ·exact h
 obtain ⟨x,f,g⟩:=h.sc.has s b
 have hsome:(E.qs.find? fun q=>nm==q.nm).isSome:=by
  rw [List.find?_isSome]
  exact ⟨x,f,by rw [g,k];simp⟩
 obtain ⟨y,c⟩:=Option.isSome_iff_exists.1 hsome
 have a:=List.find?_some c
 simp only [beq_iff_eq] at a
 have e:=List.mem_of_find?_eq_some c
 exact ⟨y,e,c,a.symm,(h.sc.get y e).2.2.2⟩
theorem Yu {s u:Sg} (hs:s ∈ Uh) (h:u ∈ Uh) (g:s.op=u.op) (f:s.name=u.name):s=u:=by
 have:∀ s ∈ Uh,∀ u ∈ Uh,s.op=u.op→s.name=u.name→s.op=u.op∧s.name=u.name∧s.ty.tr=u.ty.tr∧s.ty.m=u.ty.m∧s.ty.d=u.ty.d:=by decide
 obtain ⟨a,b,c,d,e⟩:=this s hs u h g f
 obtain ⟨n,q,⟨o,m,j⟩⟩:=s
 obtain ⟨u1,u2,⟨p,k,i⟩⟩:=u
 simp only at a b c d e
 subst a b c d e
 rfl
theorem Nq.typed {E:dW} {j:Bool} (h:Nq j E):RP (j=false) aQ E where
 ln op nm t h5 h8 hf:=by
  obtain ⟨x,s,k,hs,D,A,C,p,e⟩:=aeJ h h5 h8 hf
  obtain ⟨s',g,i,rfl⟩:=yJ hf
  simp only [lS,Bool.and_eq_true,beq_iff_eq] at i
  obtain ⟨B,w,_⟩:=i
  have c:s' ∈ Uh:=by
   rcases List.mem_append.1 (show s' ∈ Uh++sgR from g) with h|h
   ·exact h
   ·exfalso
    have:∀ s ∈ sgR,s.op=24:=by decide
    have:=this s' h
    omega
  have y:s'=s:=Yu c hs (by omega) (by rw [w,p])
  subst y
  rw [ah8,k]
  show ((UM x).e=0→_→(UM x).bit=true)∧(_→okE (UM x).e)
  have z:x.e ≠ 0→(UM x).e ≠ 0:=fun d=>by unfold UM uf;rw [if_neg d];exact d
  refine ⟨fun n r=> ?_,fun u=> ?_⟩
  ·by_cases a:x.e=0
   ·obtain ⟨q,_,_,f,v⟩:=e.vl a
    obtain ⟨b,rfl⟩:=v r
    rw [f]
    exact rE b
   ·exact absurd n (z a)
  ·have a:=e.er u
   obtain ⟨q,_,_,f,_⟩:=e.vl a
   rw [f]
   exact .inl rfl
 sc _ nm t hf:=by
  obtain ⟨q,_,o,_,m⟩:=afE h hf
  exact ⟨q,o,m⟩
theorem Yk {E:dW} {A:List (List Nat)}:∀ (r:List Nd) (os:List Oq),(∀ o ∈ os,o.ok)→(∀ i,∀ j ∈ A.getD (os.length+i) [],j<os.length+i)→∀ o ∈ MZ E A r os,o.ok
 | [],os,h,_=>h
 | x::r,os,h,hA=>by
  rw [MZ]
  refine Yk r _ ?_ ?_
  ·intro o a
   rcases List.mem_append.1 a with a|a
   ·exact h o a
   ·rw [List.mem_singleton] at a
    subst a
    refine uN fun o a=> ?_
    obtain ⟨j,b,rfl⟩:=List.mem_map.1 a
    have b:=hA 0 j b
    rw [List.getD_eq_getElem?_getD,List.getElem?_eq_getElem b]
    exact h _ (List.getElem_mem b)
  ·intro i j b
   rw [List.length_append,List.length_singleton,Nat.add_assoc] at b ⊢
   exact hA (1+i) j b
theorem Uz {E:dW} {e:List Nd} (c:bW e=0):∀ o ∈ dL E e,o.ok:=by
 obtain ⟨b,has⟩:=wY c
 refine Yk e [] (by simp) fun i j a=> ?_
 rw [List.length_nil,Nat.zero_add] at a ⊢
 rcases Nat.lt_or_ge i e.length with h|h
 ·exact (has i e[i] (List.getElem?_eq_getElem h)).2 j a
 ·rw [List.getD_eq_getElem?_getD,List.getElem?_eq_none (by omega)] at a
  cases a
theorem agb {E:dW} {e:List Nd} (a:bW e=0):(uA E e).ok:=by
 have hp:=(jc a).2.2
 rw [Ea a,List.getD_eq_getElem?_getD,List.getElem?_eq_getElem (by rw [tq];omega)]
 exact Uz a _ (List.getElem_mem _)
end Go.Proofs.Tryz
set_option maxRecDepth 100000
open Go AM Go.ChangeShapes Go.WideShapes Go.ChangeAt Go.RowKit
namespace Go.Proofs.Tryz
noncomputable def ED (t:TypeId) (d:DataW Unit):List Lit:=((lT prog 6 t d 0).getD []).map (·.2)
open Go.Proofs.YtdmfgmmooalfnaaGreatDoor
def WF:List (String × DataW Unit):= [("unicode/utf8.acceptRanges",Rows.laid_unicode_utf8_acceptRanges),("tithing/expr.table",Rows.laid_tithing_expr_table),("unicode/utf8.first",Rows.laid_unicode_utf8_first)]
theorem TJ:WF.filter (fun x=>x.2.handleName?.isSome)= []:=by kernel_rfl
theorem ahW {W:World} (h:laidMetH prog WF W):UU ap W:=by
 have c (i:Nat) (n:String) (d:DataW Unit) (hm:WF[i]? =some (n,d)) (g:Nat) (t:TypeId) (hg:prog.globalNamed n=some g) (ht:(prog.globals[g]?).map (·.type)=some t)
   (hl:lT prog 6 t d 0=some ((ED t d).zipIdx.map fun (l,i)=>(i,l))):=Ou h TJ (List.mem_of_getElem? hm) hg ht hl
 have e:=c 1 _ _ rfl 0 108 (by kernel_rfl) (by kernel_rfl) (by kernel_rfl)
 have b:=c 0 _ _ rfl 6 244 (by kernel_rfl) (by kernel_rfl) (by kernel_rfl)
 have key (k:Nat) (t:TypeId) (d:DataW Unit) (hx:(ap.gl[k]?).join=some ((ED t d).map Lj)) (ho:(ED t d).all EC=true) (hc:∀ (j:Nat) (l:Lit),(ED t d)[j]? =some l→W.cell? ⟨k,j,none⟩=some (qj l)):
   ∀ xs,(ap.gl[k]?).join=some xs→∃ ls:List Lit,xs=ls.map Lj∧ls.all EC=true∧∀ (j:Nat) (l:Lit),ls[j]? =some l→W.cell? ⟨k,j,none⟩=some (qj l):=by
  intro xs a
  rw [hx] at a
  cases a
  exact ⟨_,rfl,ho,hc⟩
 intro k
 match k with
 |0=>exact key 0 _ _ (by kernel_rfl) (by kernel_rfl) e
 |1=>intro xs a;exact absurd (show (none:Option (List AV))=some xs from a) (by simp)
 |2=>intro xs a;exact absurd (show (none:Option (List AV))=some xs from a) (by simp)
 |3=>intro xs a;exact absurd (show (none:Option (List AV))=some xs from a) (by simp)
 |4=>intro xs a;exact absurd (show (none:Option (List AV))=some xs from a) (by simp)
 |5=>intro xs a;exact absurd (show (none:Option (List AV))=some xs from a) (by simp)
 |6=>exact key 6 _ _ (by kernel_rfl) (by kernel_rfl) b
 |7=>intro xs a;exact absurd (show (none:Option (List AV))=some xs from a) (by simp)
 |k+8=>
  intro xs a
  have:ap.gl.length=8:=by kernel_rfl
  rw [List.getElem?_eq_none (by omega)] at a
  cases a
theorem own:ownKnob prog.godebug=none:=by kernel_rfl
theorem akp:laidOutB prog=true:=by kernel_rfl
noncomputable def afI (t:TypeId) (d:DataW Unit):Obj→Obj
 | .cells _ t' fr=> .cells ((ED t d).map qj).toArray t' fr
 |o=>o
noncomputable def agc (os:Os):World:=
 let w:=World.holding prog os ⟨#[],#[],[]⟩
 {w with heap:=((w.heap.modify 0 (afI 108 Rows.laid_tithing_expr_table)).modify 5 (afI 241 Rows.laid_unicode_utf8_first)).modify 6 (afI 244 Rows.laid_unicode_utf8_acceptRanges)}
end Go.Proofs.Tryz
set_option maxRecDepth 100000
set_option linter.unusedVariables false
open Go AM Go.ChangeShapes Go.WideShapes Go.ChangeAt Go.RowKit
namespace Go.Proofs.Tryz
section
variable {H:Type} {enc:TypeId × Value→H} {W:World} {base:Nat}
theorem Nh {P:Program} {t e:TypeId} {b:Nat} {c g:Value} {spare:Nat→Bool} {a:Bool} {x:DataW H × List MemPlace} (k:P.underlying t=some (.array 2 e)) (f:P.cellsOf e=1)
  (h:DataW.trod enc P W base spare a b t [c,g]=some x):
  ∃ y0 y1 n,DataW.trod enc P W base spare a n e [c]=some y0∧DataW.trod enc P W base spare a n e [g]=some y1:=by
 cases b with
 |zero=>simp [DataW.trod] at h
 | succ n=>
  unfold DataW.trod at h
  rw [k] at h
  have j:List.range 2= [0,1]:=rfl
  simp [j,f] at h
  obtain ⟨_,h⟩:=h
  cases d:DataW.trod enc P W base spare a n e [c] with
  |none=>simp [d] at h
  |some y0=>
   cases i:DataW.trod enc P W base spare a n e [g] with
   |none=>simp [d,i] at h
   |some y1=>exact ⟨y0,y1,n,d,i⟩
theorem ahZ {x:List Value} (h:fB [.int .i64] x):∃ a:Int,x.map rO= [AV.int .i64 a]:=by
 rcases h with _|@⟨_,a,_,_,h⟩|_|_
 cases h
 exact ⟨a,rfl⟩
theorem Z9 (l:List Int):(l.flatMap fun a=> [AV.int .i64 a])=iL l:=by
 induction l with
 |nil=>rfl
 |cons a r ih=>rw [List.flatMap_cons,ih];rfl
theorem u45:prog.underlying 45=some (.slice 3):=by kernel_rfl
theorem Xn {v:Value} {d:DataW H} {p:List MemPlace} (f:Value.okWide prog W .any base 45 v) (h:DataW.Trod enc prog W 0 (fun _=>true) true 45 v d p):
  ∃ xs:List Int,xs.length<2^63∧PR (kQ W) (.sl (iL xs) xs.length false) v:=by
 obtain ⟨L0,r,b⟩:=Xo (t:=45) (e:=3) (n:=4) (ks:= [.int .i64]) u45 (by kernel_rfl) (by kernel_rfl) f h
 obtain ⟨xs,m,o⟩:=Ti (fun a:Int=> [AV.int .i64 a]) (L:=L0) (fun x j=>ahZ (r x j))
 rw [m,o,Z9] at b
 refine ⟨xs, ?_,b⟩
 obtain ⟨q,len,i,rfl⟩:=okWide_slice u45 f
 have g:xs.length=len:=by
  simp only [PR] at b
  obtain ⟨a,c,k,_⟩:=b
  cases k
  rfl
 simp only [Value.okWide,u45,Cell.okWide,Cell.ok] at f
 have s:IntKind.i64.max=9223372036854775807:=rfl
 cases q with
 |none=>
  cases len with
  |zero=>omega
  |succ n=>simp at f
 |some a=>
  simp only at f
  omega
def a2A (la lb:List Int):AV:= .agg [.sl (iL la) la.length false,.sl (iL lb) lb.length false]
def a3A (la lb lc:List Int):AV:= .agg [.sl (iL la) la.length false,.sl (iL lb) lb.length false,.sl (iL lc) lc.length false]
theorem yw {t:TypeId} {n:Nat} {ts:List TypeId} (a:prog.underlying t=some (.array n 45)) (b:prog.cellTypes prog.depth t=some ts) {c:Array Value} (g:Value.okWide prog W .any base t (.agg c)) {i:Nat} {u:Value} (k:ts[i % ts.length]? =some 45) (h:c[i]? =some u) {m:Nat} {y:DataW H × List MemPlace} (f:DataW.trod enc prog W 0 (fun _=>true) true m 45 [u]=some y):
  ∃ xs:List Int,xs.length<2^63∧PR (kQ W) (.sl (iL xs) xs.length false) u:=by
 have d:=TR (u:=45) (e:=3) u45 (BH (ts:=ts) (u:=45) (.inr ⟨_,_,a⟩) b g (i:=i) (v:=u) h k)
 have j:=ML (e:=3) u45 d
 have a:DataW.Trod enc prog W 0 (fun _=>true) true 45 u y.1 y.2:=⟨m,by rw [j];exact f⟩
 exact Xn d a
theorem akt {t:TypeId} (c:prog.underlying t=some (.array 2 45)) (a:prog.cellTypes prog.depth t=some [45,45]) (r:prog.cellsOf t=2) {v:Value} {d:DataW H} {p:List MemPlace} (g:Value.okWide prog W .any base t v) (h:DataW.Trod enc prog W 0 (fun _=>true) true t v d p):
  ∃ e f:List Int,e.length<2^63∧f.length<2^63∧PR (kQ W) (a2A e f) v:=by
 have b:=g
 simp only [Value.okWide,c] at b
 obtain ⟨o,rfl,j,_⟩:=b
 obtain ⟨m,h⟩:=h
 obtain ⟨cl⟩:=o
 have k:cl.length=2:=j.trans r
 match cl,k with
 | [u0,u1],_=>
 obtain ⟨A,z,n,q,y⟩:=Nh c (show prog.cellsOf 45=1 by kernel_rfl) h
 obtain ⟨e,s,u⟩:=yw c a g (i:=0) rfl rfl q
 obtain ⟨f,w,x⟩:=yw c a g (i:=1) rfl rfl y
 refine ⟨e,f,s,w, ?_⟩
 unfold a2A
 rw [PR]
 exact ⟨[u0,u1],rfl,by rw [dQ,dQ,dQ];exact ⟨u,x,trivial⟩⟩
theorem aku {t:TypeId} (b:prog.underlying t=some (.array 3 45)) (a:prog.cellTypes prog.depth t=some [45,45,45]) (w:prog.cellsOf t=3) {v:Value} {d:DataW H} {p:List MemPlace} (e:Value.okWide prog W .any base t v) (h:DataW.Trod enc prog W 0 (fun _=>true) true t v d p):
  ∃ g j f:List Int,g.length<2^63∧j.length<2^63∧f.length<2^63∧PR (kQ W) (a3A g j f) v:=by
 have c:=e
 simp only [Value.okWide,b] at c
 obtain ⟨q,rfl,k,_⟩:=c
 obtain ⟨o,h⟩:=h
 obtain ⟨cl⟩:=q
 have m:cl.length=3:=k.trans w
 match cl,m with
 | [u0,u1,u2],_=>
 obtain ⟨G,F,D,n,_,r,C,u⟩:=trod_array3 b (show prog.cellsOf 45=1 by kernel_rfl) h
 obtain ⟨g,x,y⟩:=yw b a e (i:=0) rfl rfl r
 obtain ⟨j,z,B⟩:=yw b a e (i:=1) rfl rfl C
 obtain ⟨f,s,A⟩:=yw b a e (i:=2) rfl rfl u
 refine ⟨g,j,f,x,z,s, ?_⟩
 unfold a3A
 rw [PR]
 exact ⟨[u0,u1,u2],rfl,by rw [dQ,dQ,dQ,dQ];exact ⟨y,B,A,trivial⟩⟩
theorem akv {v:Value} {d:DataW H} {p:List MemPlace} (e:Value.okWide prog W .any base 47 v) (h:DataW.Trod enc prog W 0 (fun _=>true) true 47 v d p):
  ∃ q0 a:Int,v= .agg #[.int .u8 q0,.int .u8 a]∧(0≤q0∧q0<256)∧(0≤a∧a<256):=by
 have b:=TT (n:=4) (ks:= [.int .u8,.int .u8]) (by kernel_rfl) h
 generalize c:v.cells.toList=c2 at b
 rcases b with _|@⟨_,q0,_,_,b⟩|_|_
 rcases b with _|@⟨_,a,_,_,b⟩|_|_
 cases b
 rw [Iw c (by simp)] at e ⊢
 have k:prog.underlying 5=some (.int .u8):=by kernel_rfl
 have g:∀ (i:Nat) (q:Int),(#[Value.int .u8 q0,Value.int .u8 a]:Array Value)[i]? =some (.int .u8 q)→([5,5]:List TypeId)[i % 2]? =some 5→0≤q∧q<256:=fun i q j m=>by
  have f:=BH (ts:= [5,5]) (u:=5) (.inr ⟨2,5,by kernel_rfl⟩) (by kernel_rfl) e (i:=i) (v:= .int .u8 q) j m
  simp only [Cell.okWide,k,Cell.ok] at f
  have h:=f.2
  have r:IntKind.u8.max=255:=rfl
  have o:IntKind.u8.min=0:=rfl
  exact ⟨by have:=h.1;omega,by have:=h.2;omega⟩
 exact ⟨q0,a,rfl,g 0 q0 rfl rfl,g 1 a rfl rfl⟩
end
end Go.Proofs.Tryz
