/- Contracts of functions that the law reaches, each by its own hypotheses; joined by a program of mine. -/
import Derived.Test.YtdmfgmmooalfnaaGreatDoorC3
import Derived.Test.YtdmfgmmooalfnaaGreatDoorM5
import Derived.Test.YtdmfgmmooalfnaaGreatDoorC1
import Derived.Test.YtdmfgmmooalfnaaGreatDoorM4
import Derived.Test.YtdmfgmmooalfnaaGreatDoorCards
import Derived.Test.YtdmfgmmooalfnaaGreatDoorTie
import Derived.Deep.DeepHandedRow
import Derived.Laws.IdiomArrays
set_option linter.unusedSimpArgs false
set_option linter.unusedVariables false
set_option maxRecDepth 100000
set_option linter.unusedVariables false
open Go AM
namespace Go.Proofs.Tryz
abbrev zcc4_0 : List UInt8 := [98,114,111,107,101,110]
abbrev zcc4_1 : List AV := [.int .i64 4,.bool false,.str [1],.str [1],.str [],.int .i64 3,.bool false,.str [1],.str [1],.str [],.int .i64 3,.bool false,.str [1],.str [1],.str [],.int .i64 3,.bool false,.str [],.str [1],.str [],.int .i64 12,.bool false,.str [],.str [],.str [],.int .i64 15,.bool false,.str [],.str [],.str []]
abbrev zcc4_2 : List AV := [.int .i64 4,.bool false,.str [],.str [1],.str [],.int .i64 3,.bool false,.str [1],.str [1],.str [],.int .i64 3,.bool false,.str [1],.str [1],.str [],.int .i64 3,.bool false,.str [],.str [1],.str [],.int .i64 12,.bool false,.str [],.str [],.str [],.int .i64 15,.bool false,.str [],.str [],.str []]
abbrev zcc4_3 : List AV := [.int .i64 3,.bool false,.str [2],.str [1],.str [],.int .i64 3,.bool false,.str [1],.str [1],.str [],.int .i64 3,.bool false,.str [],.str [1],.str [],.int .i64 12,.bool false,.str [],.str [],.str [],.int .i64 19,.bool false,.str [],.str [],.str []]
abbrev zcc4_4 : List AV := [.int .i64 6,.bool false,.str [],.str [],.str [120],.int .i64 3,.bool false,.str [1],.str [1],.str [],.int .i64 3,.bool false,.str [],.str [1],.str [],.int .i64 12,.bool false,.str [],.str [],.str [],.int .i64 9,.bool false,.str [],.str [],.str []]
abbrev zcc4_5 : List AV := [.bool false,.str [],.str [1],.bool false,.str [],.str [1],.bool false,.str [100],.str [1],.bool false,.str [1],.str [10],.bool false,.str [1,44],.str [1],.bool false,.str [1],.str [4]]
abbrev zcc4_6 : List AV := [.int .i64 4,.bool false,.str [1],.str [1],.str [],.int .i64 3,.bool false,.str [2],.str [1],.str [],.int .i64 18,.bool false,.str [],.str [],.str []]
abbrev zcc4_7 : List AV := [.int .i64 1,.bool false,.str [1],.str [2],.str [],.int .i64 1,.bool false,.str [1],.str [3],.str [],.int .i64 9,.bool false,.str [],.str [],.str []]
abbrev zcc4_8 : List AV := [.bool false,.str [1],.str [1],.int .i64 0,.bool false,.str [3],.str [1],.int .i64 0,.bool true,.str [2],.str [1],.int .i64 0]
abbrev zcc4_9 : List AV := [.int .i64 1,.bool false,.str [200],.str [1],.str [],.int .i64 24,.bool false,.str [],.str [],.str [115]]
abbrev zcc4_10 : List AV := [.int .i64 3,.bool false,.str [5],.str [4],.str [],.int .i64 23,.bool false,.str [1],.str [2],.str []]
abbrev zcc4_11 : List AV := [.int .i64 3,.bool true,.str [1],.str [4],.str [],.int .i64 21,.bool false,.str [1],.str [2],.str []]
abbrev zcc4_12 : List AV := [.int .i64 6,.str [120],.bool false,.str [5],.str [1],.int .i64 0]
abbrev zcc4_13 : List AV := [.int .i64 6,.str [120],.bool false,.str [],.str [],.int .i64 17]
abbrev zcc4_14 : List AV := [.int .i64 6,.str zcc4_0,.bool false,.str [],.str [],.int .i64 17]
abbrev zcc4_15 : List AV := [.int .i64 6,.bool false,.str [],.str [],.str [120]]
abbrev zcc4_16 : List AV := [.int .i64 3,.bool false,.str [1],.str [1],.str []]
abbrev zcc4_17 : List AV := [.int .i64 4,.bool false,.str [1],.str [1],.str []]
abbrev zcc4_18 : List AV := [.int .i64 3,.bool false,.str [],.str [1],.str []]
abbrev zcc4_19 : List AV := [.int .i64 4,.bool false,.str [],.str [1],.str []]
abbrev zcc4_20 : List AV := [.int .i64 6,.bool false,.str [],.str [],.str zcc4_0]
def xP (E:dY):List Nd→List Oq→List Oq
 | [],st=>st
 |x::r,st=>xP E r (st.take (st.length - fG x.op)++ [fE E x (st.drop (st.length - fG x.op))])
theorem jC (E:dY):∀ (a b:List Nd) (st:List Oq),xP E (a++b) st=xP E b (xP E a st)
 | [],_,_=>rfl
 |x::r,b,st=>by simp only [List.cons_append,xP];exact jC E r b _
theorem Zf {x:Nd} {r:List Nd} {d e:Nat} (h:iy (x::r) d= .inl e):aK x=0∧fG x.op≤d∧iy r (d - fG x.op+1)= .inl e:=by
 simp only [iy] at h
 split at h
 ·rename_i a
  split at h
  ·cases h
  ·exact ⟨a,by omega,h⟩
 ·cases h
theorem RY (E:dY) (A:List (List Nat)):∀ (r:List Nd) (os:List Oq),∃ t,PL E A r os=os++t
 | [],os=> ⟨[],by simp [PL]⟩
 |x::r,os=>by
  obtain ⟨t,a⟩:=RY E A r (os++ [fE E x ((A.getD os.length []).map fun j=>os.getD j zO)])
  exact ⟨_,by rw [PL,a,List.append_assoc]⟩
theorem RZ {E:dY} {A:List (List Nat)}:∀ (r:List Nd) (k:Nat) (st:List Nat) (os:List Oq),(∃ d,iy r st.length= .inl d)→A.drop k=uh r k st→os.length=k→(∀ j ∈ st,j<k)→
  ∀ i,i<r.length→(xP E (r.take (i+1)) (st.map fun j=>os.getD j zO)).getLast? =some ((PL E A r os).getD (k+i) zO)
 | [],k,st,os,_,_,_,_,i,hi=>by simp at hi
 | x::r,k,st,os,⟨d,hd⟩,hA,ho,hst,i,hi=>by
  obtain ⟨_,m,f⟩:=Zf hd
  simp only [uh] at hA
  have b:k<A.length:=by
   by_cases h:k<A.length
   ·exact h
   ·rw [List.drop_of_length_le (by omega)] at hA;cases hA
  rw [List.drop_eq_getElem_cons b,List.cons.injEq] at hA
  have c:A.getD os.length []=st.drop (st.length - fG x.op):=by
   rw [ho,List.getD_eq_getElem?_getD,List.getElem?_eq_getElem b,← hA.1];rfl
  rw [PL,c,List.take_succ_cons]
  simp only [xP]
  rw [List.length_map,← List.map_take,← List.map_drop]
  generalize fE E x ((st.drop (st.length - fG x.op)).map fun j=>os.getD j zO)=v
  cases i with
  |zero=>
   obtain ⟨t,g⟩:=RY E A r (os++ [v])
   rw [g,List.take_zero,xP,List.getLast?_concat,Nat.add_zero,List.getD_eq_getElem?_getD,List.append_assoc,List.getElem?_append_right (by omega),ho,Nat.sub_self]
   rfl
  | succ i=>
   have e:=RZ (E:=E) (A:=A) r (k+1) (st.take (st.length - fG x.op)++ [k]) (os++ [v]) ⟨d,by rw [List.length_append,List.length_take,List.length_singleton,Nat.min_eq_left (Nat.sub_le _ _)];exact f⟩ hA.2 (by simp [ho]) (by
    intro j a
    rcases List.mem_append.1 a with a|a
    ·have:=hst j (List.mem_of_mem_take a);omega
    ·rw [List.mem_singleton.1 a];omega) i (by simpa using hi)
   rw [show k+(i+1)=k+1+i by omega,← e]
   congr 2
   rw [List.map_append]
   congr 1
   ·apply List.map_congr_left
    intro j a
    have:=hst j (List.mem_of_mem_take a)
    rw [List.getD_eq_getElem?_getD,List.getD_eq_getElem?_getD,List.getElem?_append_left (by omega)]
   ·simp only [List.map_cons,List.map_nil]
    rw [List.getD_eq_getElem?_getD,List.getElem?_append_right (by omega),ho,Nat.sub_self]
    rfl
theorem Zg {e:List Nd} (a:dE e=0):iy e 0= .inl 1:=by
 unfold dE at a
 split at a
 ·cases a
 ·split at a
  ·rename_i d hd
   split at a
   ·rename_i c;rw [hd,c]
   ·cases a
  ·rename_i w b
   exact absurd a (CW _ _ _ b)
theorem YA {E:dY} {e:List Nd} (a:dE e=0) {i:Nat} (b:i<e.length):(xP E (e.take (i+1)) []).getLast? =some ((dZ E e).getD i zO):=by
 have:=RZ (E:=E) (A:=eX e) e 0 [] [] ⟨1,Zg a⟩ rfl rfl (by simp) i b
 rw [Nat.zero_add] at this
 exact this
theorem xY (E:dY) (e:List Nd):(dZ E e).length=e.length:=by unfold dZ;rw [Dw];simp
theorem Ot {E:dY} {e:List Nd} (a:dE e=0):jX E e=(dZ E e).getD (e.length - 1) zO:=by
 unfold jX
 rw [if_pos a,← xY E e,List.getLastD_eq_getLast?,List.getLast?_eq_getElem?,List.getD_eq_getElem?_getD,xY]
 have:=(nN a).2.2
 rw [List.getElem?_eq_getElem (by rw [xY];omega)]
 rfl
theorem TF {E:dY} {e:List Nd} (a:dE e=0):(xP E e []).getLast? =some (jX E e):=by
 have hp:=(nN a).2.2
 have:=YA (E:=E) a (i:=e.length - 1) (by omega)
 rw [← Ot a,show e.length - 1+1=e.length by omega,List.take_length] at this
 exact this
theorem wC (E:dY) {x:Nd} {st l:List Oq} (h:l.length=fG x.op):xP E [x] (st++l)=st++ [fE E x l]:=by
 simp only [xP]
 rw [List.length_append,h,Nat.add_sub_cancel,List.take_left,List.drop_left]
theorem Tm.ind {l:List Sg} (E:dY) (P:Ty→Oq→Prop)
  (h0:∀ x t,aK x=0→fG x.op=0→mG l x []=(t,0)→P t (fE E x []))
  (h1:∀ x t ta a,aK x=0→fG x.op=1→mG l x [ta]=(t,0)→P ta a→P t (fE E x [a]))
  (h2:∀ x t ta tb a b,aK x=0→fG x.op=2→mG l x [ta,tb]=(t,0)→P ta a→P tb b→P t (fE E x [a,b]))
  (h3:∀ x t ta tb tc a b c,aK x=0→fG x.op=3→mG l x [ta,tb,tc]=(t,0)→P ta a→P tb b→P tc c→P t (fE E x [a,b,c]))
  {e:List Nd} {t:Ty} (h:Tm l e t):∃ v,P t v∧∀ st,xP E e st=st++ [v]:=by
 induction h with
 |@n0 x t hw ha ht=>exact ⟨_,h0 x t hw ha ht,fun st=>by have:=wC E (x:=x) (st:=st) (l:= []) (by rw [ha];rfl);rw [List.append_nil] at this;exact this⟩
 |@n1 x t ta a ma hw ha ht iha=>
  obtain ⟨d,f,g⟩:=iha
  exact ⟨_,h1 x t ta d hw ha ht f,fun st=>by rw [jC,g];exact wC E (by rw [ha];rfl)⟩
 |@n2 x t ta tb a b ma mb hw ha ht iha ihb=>
  obtain ⟨d,f,g⟩:=iha
  obtain ⟨i,j,rb⟩:=ihb
  exact ⟨_,h2 x t ta tb d i hw ha ht f j,fun st=>by rw [jC,jC,g,rb,List.append_assoc];exact wC E (by rw [ha];rfl)⟩
 |@n3 x t ta tb tc a b c ma mb mc hw ha ht iha ihb ihc=>
  obtain ⟨d,f,g⟩:=iha
  obtain ⟨i,j,rb⟩:=ihb
  obtain ⟨n,m,k⟩:=ihc
  exact ⟨_,h3 x t ta tb tc d i n hw ha ht f j m,fun st=>by rw [jC,jC,jC,g,rb,k,List.append_assoc,List.append_assoc];exact wC E (by rw [ha];rfl)⟩
theorem Lc {E:dY} {e:List Nd} (b:dE e=0) {v:Oq} (a:∀ st,xP E e st=st++ [v]):jX E e=v:=by
 have:=TF (E:=E) b
 rw [a,List.nil_append,List.getLast?_singleton,Option.some.injEq] at this
 exact this.symm
theorem Tm.val {l:List Sg} {e:List Nd} {t:Ty} (h:Tm l e t) (b:e.length≤60) (E:dY):∀ st,xP E e st=st++ [jX E e]:=by
 obtain ⟨v,_,a⟩:=h.ind E (fun _ _=>True) (fun _ _ _ _ _=>trivial) (fun _ _ _ _ _ _ _ _=>trivial) (fun _ _ _ _ _ _ _ _ _ _ _=>trivial) (fun _ _ _ _ _ _ _ _ _ _ _ _ _ _=>trivial)
 rw [Lc (h.check b) a]
 exact a
theorem Vf {l:List Sg} {e:List Nd} {t:Ty} (h:Tm l e t):∀ x ∈ e,∃ (ts:List Ty) (u:Ty),aK x=0∧mG l x ts=(u,0):=by
 induction h with
 |@n0 x t hw ha ht=>intro y d;rw [List.mem_singleton] at d;subst d;exact ⟨_,_,hw,ht⟩
 |@n1 x t ta a ma hw ha ht iha=>
  intro y d
  rcases List.mem_append.1 d with d|d
  ·exact iha y d
  ·rw [List.mem_singleton] at d;subst d;exact ⟨_,_,hw,ht⟩
 | @n2 x t ta tb a b ma mb hw ha ht iha ihb=>
  intro y d
  rcases List.mem_append.1 d with d|d
  ·rcases List.mem_append.1 d with d|d
   ·exact iha y d
   ·exact ihb y d
  ·rw [List.mem_singleton] at d;subst d;exact ⟨_,_,hw,ht⟩
 | @n3 x t ta tb tc a b c ma mb mc hw ha ht iha ihb ihc=>
  intro y d
  rcases List.mem_append.1 d with d|d
  ·rcases List.mem_append.1 d with d|d
   ·rcases List.mem_append.1 d with d|d
    ·exact iha y d
    ·exact ihb y d
   ·exact ihc y d
  ·rw [List.mem_singleton] at d;subst d;exact ⟨_,_,hw,ht⟩
theorem YJ {l:List Sg} {x:Nd} {ts:List Ty} {t:Ty} (h:mG l x ts=(t,0)):(rH x.op=true→∃ s,qZ l x.op x.name=some s)∧ML x.op.toNat ((qZ l x.op x.name).getD zT) ts=(true,t):=by
 unfold mG ofR at h
 cases d:rH x.op with
 | false=>
  rw [d] at h
  refine ⟨fun h=>(by cases h), ?_⟩
  cases a:ML x.op.toNat ((qZ l x.op x.name).getD zT) ts with
  |mk b u=>
   rw [a] at h
   cases b with
   |true=>simp at h;rw [h]
   |false=>simp at h
 | true=>
  rw [d] at h
  cases c:qZ l x.op x.name with
  |none=>rw [c] at h;simp at h
  | some s=>
   rw [c] at h
   refine ⟨fun _=> ⟨s,rfl⟩, ?_⟩
   cases a:ML x.op.toNat ((some s).getD zT) ts with
   |mk b u=>
    rw [a] at h
    cases b with
    |true=>simp at h;rw [h]
    |false=>simp at h
theorem Tm.names {l:List Sg} {e:List Nd} {t:Ty} (h:Tm l e t):∀ x ∈ e,aK x=0∧(rH x.op=true→∃ s,qZ l x.op x.name=some s):=by
 intro x b
 obtain ⟨ts,u,a,c⟩:=Vf h x b
 exact ⟨a,(YJ c).1⟩
theorem Iz {E F:dY} {A:List (List Nat)}:∀ (r:List Nd) (os:List Oq),(∀ x ∈ r,∀ l,fE E x l=fE F x l)→PL E A r os=PL F A r os
 | [],_,_=>rfl
 |x::r,os,h=>by
  rw [PL,PL,h x (by simp),Iz r _ (fun y a=>h y (by simp [a]))]
theorem Nl {E F:dY} {e:List Nd} (h:∀ x ∈ e,∀ l,fE E x l=fE F x l):dZ E e=dZ F e:=Iz e [] h
theorem Ou {E F:dY} {e:List Nd} (h:∀ x ∈ e,∀ l,fE E x l=fE F x l):jX E e=jX F e:=by
 unfold jX;rw [Nl h]
theorem OX {E F:dY} {x:Nd} (b:5≤x.op→x.op≤8→QK E.ls x.op x.name=QK F.ls x.op x.name) (c:x.op=24→sqO E.qs x.name=sqO F.qs x.name) (l:List Oq):fE E x l=fE F x l:=by
 unfold fE
 split
 ·rfl
 ·split
  ·rw [b (by omega) (by assumption)]
  ·split
   ·split
    ·unfold UC
     split
     ·rfl
     ·split
      ·rename_i a
       rw [c a]
      ·rfl
    ·rfl
   ·rfl
   ·rfl
   ·rfl
end Go.Proofs.Tryz
set_option maxRecDepth 100000
set_option linter.unusedVariables false
open Go AM
namespace Go.Proofs.Tryz
theorem YF (b:Bool):(uj b).bit=true:=by cases b<;>simp [uj,bR,Oq.bit,Oq.one,Oq.n,Oq.a,Oq.d]
theorem Wu {l:List Sg} {b:Int} {a:List UInt8} {t:Ty} (h:qZ l b a=some t):∃ s ∈ l,oz s b a=true∧s.ty=t:=by
 unfold qZ at h
 rw [Option.map_eq_some_iff] at h
 obtain ⟨s,c,d⟩:=h
 exact ⟨s,List.mem_of_find?_eq_some c,List.find?_some (p:=fun s=>oz s b a) c,d⟩
section
variable {S:Prop} {l:List Sg} {E:dY}
end
end Go.Proofs.Tryz
set_option maxRecDepth 100000
set_option linter.unusedVariables false
open Go AM
namespace Go.Proofs.Tryz
structure yc (er:Bool) (t:Ty) (x:Lk):Prop where
 sz:x.a.length<2^36∧x.d.length<2^36
 er:er=false→x.e=0
 vl:x.e=0→∃ q:RQ,q.ok∧jM q=true∧lkV x= .val q∧(t.tr=true→∃ b,q=bR b)
theorem yc.val {w:Bool} {t:Ty} {e:Int} {c:List UInt8} {q:RQ} (a:Gu 64 q) (d:t.tr=true→∃ b,q=bR b):yc w t ⟨e,c,q.neg,af q.n,af q.d,0⟩ where
 sz:=⟨Nat.lt_trans (dX a.2.1 (by omega)) (by decide),Nat.lt_trans (dX a.2.2 (by omega)) (by decide)⟩
 er _:=rfl
 vl _:=⟨q,a.1,og a (by omega),by
  show CE q.neg (af q.n) (af q.d) 0=_
  rw [zA a.1];unfold pM;rw [if_pos (og a (by omega))],d⟩
theorem yc.err {w:Bool} {t:Ty} {d:Int} {b:List UInt8} {e:Int} (a:e ≠ 0) (c:w=true):yc w t ⟨d,b,false,[],[],e⟩ where
 sz:=⟨Nat.two_pow_pos _,Nat.two_pow_pos _⟩
 er h:=by rw [c] at h;cases h
 vl h:=absurd h a
def tN (er:Bool):List Sg→List Lk→Prop
 | [],[]=>True
 |s::r,x::l=>(x.op=s.op∧x.nm=s.name∧yc er s.ty x)∧tN er r l
 |_,_=>False
def wR:List Sg→List Sq→Prop
 | [],[]=>True
 |s::r,q::l=>(q.nm=s.name∧q.l.length≤8∧(∀ b ∈ q.l,b.s28)∧NC pg q.l=0)∧wR r l
 |_,_=>False
theorem adt {r:Nat} (h:r<4):∃ e:Int,e ≠ 0∧AV.int .i64 (AV.toInt (List.headD (List.drop ((0+(Int.toNat (r:Int)))*1) [.int .i64 17,.int .i64 16,.int .i64 12,.int .i64 3]) .dead))= .int .i64 e∧chk (.int .i64) (List.headD (List.drop ((0+(Int.toNat (r:Int)))*1) [.int .i64 17,.int .i64 16,.int .i64 12,.int .i64 3]) .dead)=true:=by
 rcases (show r=0∨r=1∨r=2∨r=3 by omega) with rfl|rfl|rfl|rfl
 ·exact ⟨17,by decide,rfl,rfl⟩
 ·exact ⟨16,by decide,rfl,rfl⟩
 ·exact ⟨12,by decide,rfl,rfl⟩
 ·exact ⟨3,by decide,rfl,rfl⟩
theorem Rn (e:Int):CO 47 [.int .i64 e] (.ret (.agg [.bool false,.str [],.str [],.int .i64 e])):=pK [] 0 0 (.n 5 .nil) (.nil)
def emL (ls:List Lk):AV:=match ls with| []=> .nilS|_::_=> .ref 3 0 0 ls.length
def amw (ls:List Lk):Hp:=match ls with| []=> []|_::_=> [(3,⟨eU ls,0,false,0,6,true⟩)]
def emQ (qs:List Sc):AV:=match qs with| []=> .nilS|_::_=> .ref 4 0 0 qs.length
def amx (qs:List Sc):Hp:=match qs with| []=> []|_::_=> [(4,⟨gZ qs,0,false,0,4,true⟩)]
def emP (ls:List Lk):Bool:=match ls with| []=>true|_::_=>false
abbrev Qo (sg:List Sg) (ng er:Bool) (xs:List Int) (nn:Bool) (p:Nat × List Lk × List Sc):St:=⟨[(0,.sl (h_ sg) sg.length ng),(2,.bool er),(6,.ptr 0 0 0),(7,.ptr 1 0 0),(8,.ptr 2 0 0),(9,.int .i64 ((p.2.1.length+p.2.2.length:Nat):Int))],[(0,⟨[.nilS,.nilS],0,false,0,0,true⟩),(1,⟨[emL p.2.1,emQ p.2.2],0,false,0,0,emP p.2.1⟩),(2,dB xs nn p.1)]++(amw p.2.1++amx p.2.2),.dead,[]⟩
abbrev emO (p:Nat × List Lk × List Sc):St:=⟨[(6,.ptr 0 0 0),(7,.ptr 1 0 0)],[(0,⟨[.nilS,.nilS],0,false,0,0,true⟩),(1,⟨[.ref 2 0 0 p.2.1.length,.ref 3 0 0 p.2.2.length],0,false,0,0,false⟩),(2,⟨eU p.2.1,0,false,0,6,true⟩),(3,⟨gZ p.2.2,0,false,0,4,true⟩)],.dead,[]⟩
theorem vZ (l:List Lk):(eU l).length=l.length*6:=oh lkC 6 (fun _=>rfl) l
theorem WX (l:List Lk) (x:Lk):List.take (l.length*6) (eU l)++lkC x=eU (l++ [x]):=by
 rw [List.take_of_length_le (by rw [vZ];exact Nat.le_refl _)]
 unfold eU;rw [List.flatMap_append];simp
theorem Dq (l:List Sc):(gZ l).length=l.length*4:=oh Rx 4 (fun _=>rfl) l
theorem X9 (l:List Sc) (x:Sc):List.take (l.length*4) (gZ l)++Rx x=gZ (l++ [x]):=by
 rw [List.take_of_length_le (by rw [Dq];exact Nat.le_refl _)]
 unfold gZ;rw [List.flatMap_append];simp
theorem aih (b:List Sg) (d c:Bool) (xs:List Int) (nn:Bool) (k:Nat) (ls:List Lk) (x:Lk):Qo b d c xs nn (k,ls++ [x],[])=⟨[(0,.sl (h_ b) b.length d),(2,.bool c),(6,.ptr 0 0 0),(7,.ptr 1 0 0),(8,.ptr 2 0 0),(9,.int .i64 ((ls.length+1:Nat):Int))],[(0,⟨[.nilS,.nilS],0,false,0,0,true⟩),(1,⟨[.ref 3 0 0 (ls.length+1),.nilS],0,false,0,0,false⟩),(2,dB xs nn k),(3,⟨List.take (ls.length*6) (eU ls)++lkC x,0,false,0,6,true⟩)],.dead,[]⟩:=by
 rw [WX]
 cases ls with
 |nil=>rfl
 |cons a r=>
  show (⟨[(0,_),(2,_),(6,_),(7,_),(8,_),(9,.int .i64 (((a::(r++ [x])).length+0:Nat):Int))],[(0,_),(1,⟨[.ref 3 0 0 (a::(r++ [x])).length,_],_,_,_,_,_⟩),(2,_),(3,_)],_,_⟩:St)=_
  rw [show (a::(r++ [x])).length=(a::r).length+1 by simp]
  rfl
theorem ac9 (b:List Sg) (d c:Bool) (xs:List Int) (nn:Bool) (k:Nat) (ls:List Lk) (h:ls ≠ []):Qo b d c xs nn (k,ls,[])=⟨[(0,.sl (h_ b) b.length d),(2,.bool c),(6,.ptr 0 0 0),(7,.ptr 1 0 0),(8,.ptr 2 0 0),(9,.int .i64 (ls.length:Int))],[(0,⟨[.nilS,.nilS],0,false,0,0,true⟩),(1,⟨[.ref 3 0 0 ls.length,.nilS],0,false,0,0,false⟩),(2,dB xs nn k),(3,⟨eU ls,0,false,0,6,true⟩)],.dead,[]⟩:=by
 cases ls with
 |nil=>exact absurd rfl h
 |cons a r=>rfl
theorem VQ (c:List Sg) (e d:Bool) (xs:List Int) (nn:Bool) (k:Nat) (ls:List Lk) (qs:List Sc) (h:ls ≠ []) (f:qs ≠ []):Qo c e d xs nn (k,ls,qs)=⟨[(0,.sl (h_ c) c.length e),(2,.bool d),(6,.ptr 0 0 0),(7,.ptr 1 0 0),(8,.ptr 2 0 0),(9,.int .i64 ((ls.length+qs.length:Nat):Int))],[(0,⟨[.nilS,.nilS],0,false,0,0,true⟩),(1,⟨[.ref 3 0 0 ls.length,.ref 4 0 0 qs.length],0,false,0,0,false⟩),(2,dB xs nn k),(3,⟨eU ls,0,false,0,6,true⟩),(4,⟨gZ qs,0,false,0,4,true⟩)],.dead,[]⟩:=by
 cases ls with
 |nil=>exact absurd rfl h
 |cons a r=>
  cases qs with
  |nil=>exact absurd rfl f
  |cons b t=>rfl
theorem MS {p r:List Sg} {s:Sg} {k:Nat} (h:k=p.length):List.drop (Int.toNat (k:Int)*5) (h_ (p++s::r))=YR s++h_ r:=by
 subst h
 rw [aJ]
 unfold h_
 rw [List.flatMap_append,List.flatMap_cons,← oh YR 5 (fun _=>rfl) p,List.drop_left]
theorem ZJ (q:List Sg) (M t:Bool) (s:Sg) (hs:s.op ≠ 24) (xs:List Int) (nn:Bool) (k:Nat) (ls:List Lk) (rx:List AV) (o:List.drop (Int.toNat (ls.length:Int)*5) (h_ q)=YR s++rx) (hj:ls.length<q.length) (h20:q.length<20) (i:xs.length<2^63) (hk:k≤xs.length):
  ∃ (x:Lk) (Y:Nat),Y≤xs.length∧x.op=s.op∧x.nm=s.name∧yc t s.ty x∧∀ nt,87≤nt→ax prog ap [] nt (ag 0 (ai f58)) (Qo q M t xs nn (k,ls,[])) .normal (Qo q M t xs nn (Y,ls++ [x],[])):=by
 obtain ⟨m,k1,hr0,u,e⟩:=dA xs nn k 80 i hk (by omega) (by omega)
 obtain ⟨U,k2,hr1,I,A⟩:=dA xs nn k1 9 i u (by omega) (by omega)
 obtain ⟨r2,k3,G,hk3,T⟩:=dA xs nn k2 4 i I (by omega) (by omega)
 obtain ⟨r3,k4,D,hk4,L⟩:=dA xs nn k1 4 i u (by omega) (by omega)
 obtain ⟨e2,V,N,O⟩:=adt G
 obtain ⟨e3,X,R,Q⟩:=adt D
 have j:=kN ((m:Int) - 20) (by omega) (by omega)
 have e1:IntKind.wrap .i64 ((m:Int) - ((20:Nat):Int))=(m:Int) - 20:=bF (by omega) (by omega)
 rw [← e1] at j
 have F:(jY (IntKind.wrap .i64 ((m:Int) - ((20:Nat):Int)))).neg=true→0<(jY (IntKind.wrap .i64 ((m:Int) - ((20:Nat):Int)))).n:=by
  rw [e1];intro h;simp only [jY,decide_eq_true_eq] at h ⊢;omega
 have g:(jY (IntKind.wrap .i64 ((m:Int) - ((20:Nat):Int)))).n<64:=by rw [e1];simp only [jY];omega
 have hd:(jY (IntKind.wrap .i64 ((m:Int) - ((20:Nat):Int)))).d=1:=rfl
 generalize jY (IntKind.wrap .i64 ((m:Int) - ((20:Nat):Int)))=w at j F g hd
 have hq:qA w=qA ⟨w.neg,w.n,1⟩:=by unfold qA;rw [hd]
 have sw:Gu 64 w:=⟨by obtain ⟨a,b,c⟩:=w;simp only at hd;subst hd;exact vW F,by omega,by omega⟩
 have z:CO 48 [.int .i64 (IntKind.wrap .i64 ((U:Int)+((2:Nat):Int)))] (.ret (qA ⟨false,U+2,1⟩)):=by
  rw [show IntKind.wrap .i64 ((U:Int)+((2:Nat):Int))=((U+2:Nat):Int) from (bF (by omega) (by omega)).trans (by omega)]
  exact GN _ (by omega)
 have r:=Me w.neg w.n (U+2) F (by omega) (by omega) (by omega)
 rw [← hq] at r
 have l1:=uS w.neg w.n (U+2)
 have sv:Gu 64 (g_ w.neg w.n (U+2)):=⟨ny (by omega),by omega,by omega⟩
 generalize g_ w.neg w.n (U+2)=v at r sv l1
 have y:CO 48 [.int .i64 (Int.tmod (m:Int) ((2:Nat):Int))] (.ret (qA (bR (decide (m % 2=1))))):=by
  rw [uu]
  have:=GN (m % 2) (by omega)
  rcases (show m % 2=0∨m % 2=1 by omega) with h|h
  ·rw [h] at this ⊢;exact this
  ·rw [h] at this ⊢;exact this
 have Z:bR (decide (m % 2=1))=bR (decide (m % 2=1)):=rfl
 have J:Gu 64 (bR (decide (m % 2=1))):=⟨ac1 _,by cases decide (m % 2=1)<;>decide,by cases decide (m % 2=1)<;>decide⟩
 generalize hw3:bR (decide (m % 2=1))=w3 at y J
 have Z:w3=bR (decide (m % 2=1)):=hw3.symm
 have P:=Rn e2
 have K:=Rn e3
 have f:decide ((ls.length:Int)<(q.length:Int))=true:=decide_eq_true (by omega)
 have d:(s.op==((24:Nat):Int))=false:=beq_eq_false_iff_ne.2 hs
 have p:AV.int .i64 (IntKind.wrap .i64 ((ls.length:Int)+((1:Nat):Int)))=AV.int .i64 ((ls.length+1:Nat):Int):=CG (by omega)
 have C:Nat.ble (ls.length+1) 1099511627776=true:=Nat.ble_eq_true_of_le (by omega)
 have B:Nat.ble (ls.length*6) (List.length (eU ls))=true:=Nat.ble_eq_true_of_le (by rw [vZ];exact Nat.le_refl _)
 have n:∀ (x:Lk) (Y nt:Nat),(ls= []→ax prog ap [] nt (ag 0 (ai f58)) (Qo q M t xs nn (k,[],[])) .normal (Qo q M t xs nn (Y,[x],[])))→
   (ax prog ap [] nt (ag 0 (ai f58)) ⟨[(0,.sl (h_ q) q.length M),(2,.bool t),(6,.ptr 0 0 0),(7,.ptr 1 0 0),(8,.ptr 2 0 0),(9,.int .i64 (ls.length:Int))],[(0,⟨[.nilS,.nilS],0,false,0,0,true⟩),(1,⟨[.ref 3 0 0 ls.length,.nilS],0,false,0,0,false⟩),(2,dB xs nn k),(3,⟨eU ls,0,false,0,6,true⟩)],.dead,[]⟩ .normal
    ⟨[(0,.sl (h_ q) q.length M),(2,.bool t),(6,.ptr 0 0 0),(7,.ptr 1 0 0),(8,.ptr 2 0 0),(9,.int .i64 ((ls.length+1:Nat):Int))],[(0,⟨[.nilS,.nilS],0,false,0,0,true⟩),(1,⟨[.ref 3 0 0 (ls.length+1),.nilS],0,false,0,0,false⟩),(2,dB xs nn Y),(3,⟨List.take (ls.length*6) (eU ls)++lkC x,0,false,0,6,true⟩)],.dead,[]⟩)→
   ax prog ap [] nt (ag 0 (ai f58)) (Qo q M t xs nn (k,ls,[])) .normal (Qo q M t xs nn (Y,ls++ [x],[])):=by
  intro x Y nt h1 h2
  by_cases hz:ls= []
  ·have h1:=h1 hz
   rw [hz];exact h1
  ·rw [ac9 q M t xs nn k ls hz,aih];exact h2
 rcases tf ((Int.tmod (m:Int) ((3:Nat):Int))==((0:Nat):Int)) with d0|d0
 ·rcases tf s.ty.tr with d1|d1
  ·rcases tf t with d2|d2
   ·rcases tf ((Int.tmod (m:Int) ((7:Nat):Int))==((0:Nat):Int)) with d3|d3
    ·refine ⟨⟨s.op,s.name,false,[],[],e2⟩,k3,hk3,rfl,rfl,.err V d2,fun nt g=> ?_⟩
     exact n _ _ nt (fun i=>by subst i;exact pN 58 [] 7 61 (.k 12 O (.c (nS r2) (.c (kX G) (.c (aG d3) (.k 1 (aG d2) (.k 6 (aG d1) (.k 5 (aG d0) (.k 2 (aF d) (.k 7 (nS 0) (.c f (.c (aG f) .nil))))))))))) (.v 22 (.eq p) (.c P (.v 73 (.eq N) (.c T (.c y (.c r (.c z (.c A (.c j (.c e (.v 25 (.ppt o) .nil))))))))))) g) (pN 58 [] 6 61 (.k 2 C (.c B (.k 9 O (.c (nS r2) (.c (kX G) (.c (aG d3) (.k 1 (aG d2) (.k 6 (aG d1) (.k 5 (aG d0) (.k 2 (aF d) (.k 7 (nS ls.length) (.c f (.c (aG f) .nil))))))))))))) (.v 22 (.eq p) (.c P (.v 73 (.eq N) (.c T (.c y (.c r (.c z (.c A (.c j (.c e (.v 25 (.ppt o) .nil))))))))))) g)
    ·refine ⟨⟨s.op,s.name,w3.neg,af w3.n,af w3.d,0⟩,k2,I,rfl,rfl,.val J (fun _=> ⟨_,Z⟩),fun nt g=> ?_⟩
     exact n _ _ nt (fun i=>by subst i;exact pN 58 [] 7 29 (.k 11 (aF d3) (.k 1 (aG d2) (.k 6 (aG d1) (.k 5 (aG d0) (.k 2 (aF d) (.k 7 (nS 0) (.c f (.c (aG f) .nil)))))))) (.v 22 (.eq p) (.c y (.c r (.c z (.c A (.c j (.c e (.v 25 (.ppt o) .nil)))))))) g) (pN 58 [] 6 29 (.k 2 C (.c B (.k 8 (aF d3) (.k 1 (aG d2) (.k 6 (aG d1) (.k 5 (aG d0) (.k 2 (aF d) (.k 7 (nS ls.length) (.c f (.c (aG f) .nil)))))))))) (.v 22 (.eq p) (.c y (.c r (.c z (.c A (.c j (.c e (.v 25 (.ppt o) .nil)))))))) g)
   ·refine ⟨⟨s.op,s.name,w3.neg,af w3.n,af w3.d,0⟩,k2,I,rfl,rfl,.val J (fun _=> ⟨_,Z⟩),fun nt g=> ?_⟩
    exact n _ _ nt (fun i=>by subst i;exact pN 58 [] 7 13 (.k 12 (aF d2) (.k 6 (aG d1) (.k 5 (aG d0) (.k 2 (aF d) (.k 7 (nS 0) (.c f (.c (aG f) .nil))))))) (.v 22 (.eq p) (.c y (.c r (.c z (.c A (.c j (.c e (.v 25 (.ppt o) .nil)))))))) g) (pN 58 [] 6 13 (.k 2 C (.c B (.k 9 (aF d2) (.k 6 (aG d1) (.k 5 (aG d0) (.k 2 (aF d) (.k 7 (nS ls.length) (.c f (.c (aG f) .nil))))))))) (.v 22 (.eq p) (.c y (.c r (.c z (.c A (.c j (.c e (.v 25 (.ppt o) .nil)))))))) g)
  ·rcases tf t with d2|d2
   ·rcases tf ((Int.tmod (m:Int) ((7:Nat):Int))==((0:Nat):Int)) with d3|d3
    ·refine ⟨⟨s.op,s.name,false,[],[],e2⟩,k3,hk3,rfl,rfl,.err V d2,fun nt g=> ?_⟩
     exact n _ _ nt (fun i=>by subst i;exact pN 58 [] 7 53 (.k 12 O (.c (nS r2) (.c (kX G) (.c (aG d3) (.k 1 (aG d2) (.k 4 (aF d1) (.k 5 (aG d0) (.k 2 (aF d) (.k 7 (nS 0) (.c f (.c (aG f) .nil))))))))))) (.v 22 (.eq p) (.c P (.v 73 (.eq N) (.c T (.c r (.c z (.c A (.c j (.c e (.v 25 (.ppt o) .nil)))))))))) g) (pN 58 [] 6 53 (.k 2 C (.c B (.k 9 O (.c (nS r2) (.c (kX G) (.c (aG d3) (.k 1 (aG d2) (.k 4 (aF d1) (.k 5 (aG d0) (.k 2 (aF d) (.k 7 (nS ls.length) (.c f (.c (aG f) .nil))))))))))))) (.v 22 (.eq p) (.c P (.v 73 (.eq N) (.c T (.c r (.c z (.c A (.c j (.c e (.v 25 (.ppt o) .nil)))))))))) g)
    ·refine ⟨⟨s.op,s.name,v.neg,af v.n,af v.d,0⟩,k2,I,rfl,rfl,.val sv (fun h=>by rw [d1] at h;cases h),fun nt g=> ?_⟩
     exact n _ _ nt (fun i=>by subst i;exact pN 58 [] 7 21 (.k 11 (aF d3) (.k 1 (aG d2) (.k 4 (aF d1) (.k 5 (aG d0) (.k 2 (aF d) (.k 7 (nS 0) (.c f (.c (aG f) .nil)))))))) (.v 22 (.eq p) (.c r (.c z (.c A (.c j (.c e (.v 25 (.ppt o) .nil))))))) g) (pN 58 [] 6 21 (.k 2 C (.c B (.k 8 (aF d3) (.k 1 (aG d2) (.k 4 (aF d1) (.k 5 (aG d0) (.k 2 (aF d) (.k 7 (nS ls.length) (.c f (.c (aG f) .nil)))))))))) (.v 22 (.eq p) (.c r (.c z (.c A (.c j (.c e (.v 25 (.ppt o) .nil))))))) g)
   ·refine ⟨⟨s.op,s.name,v.neg,af v.n,af v.d,0⟩,k2,I,rfl,rfl,.val sv (fun h=>by rw [d1] at h;cases h),fun nt g=> ?_⟩
    exact n _ _ nt (fun i=>by subst i;exact pN 58 [] 7 5 (.k 12 (aF d2) (.k 4 (aF d1) (.k 5 (aG d0) (.k 2 (aF d) (.k 7 (nS 0) (.c f (.c (aG f) .nil))))))) (.v 22 (.eq p) (.c r (.c z (.c A (.c j (.c e (.v 25 (.ppt o) .nil))))))) g) (pN 58 [] 6 5 (.k 2 C (.c B (.k 9 (aF d2) (.k 4 (aF d1) (.k 5 (aG d0) (.k 2 (aF d) (.k 7 (nS ls.length) (.c f (.c (aG f) .nil))))))))) (.v 22 (.eq p) (.c r (.c z (.c A (.c j (.c e (.v 25 (.ppt o) .nil))))))) g)
 ·rcases tf s.ty.tr with d1|d1
  ·rcases tf t with d2|d2
   ·rcases tf ((Int.tmod (m:Int) ((7:Nat):Int))==((0:Nat):Int)) with d3|d3
    ·refine ⟨⟨s.op,s.name,false,[],[],e3⟩,k4,hk4,rfl,rfl,.err X d2,fun nt g=> ?_⟩
     exact n _ _ nt (fun i=>by subst i;exact pN 58 [] 7 57 (.k 12 Q (.c (nS r3) (.c (kX D) (.c (aG d3) (.k 1 (aG d2) (.k 6 (aG d1) (.k 1 (aF d0) (.k 2 (aF d) (.k 7 (nS 0) (.c f (.c (aG f) .nil))))))))))) (.v 22 (.eq p) (.c K (.v 73 (.eq R) (.c L (.c y (.c j (.c e (.v 25 (.ppt o) .nil)))))))) g) (pN 58 [] 6 57 (.k 2 C (.c B (.k 9 Q (.c (nS r3) (.c (kX D) (.c (aG d3) (.k 1 (aG d2) (.k 6 (aG d1) (.k 1 (aF d0) (.k 2 (aF d) (.k 7 (nS ls.length) (.c f (.c (aG f) .nil))))))))))))) (.v 22 (.eq p) (.c K (.v 73 (.eq R) (.c L (.c y (.c j (.c e (.v 25 (.ppt o) .nil)))))))) g)
    ·refine ⟨⟨s.op,s.name,w3.neg,af w3.n,af w3.d,0⟩,k1,u,rfl,rfl,.val J (fun _=> ⟨_,Z⟩),fun nt g=> ?_⟩
     exact n _ _ nt (fun i=>by subst i;exact pN 58 [] 7 25 (.k 11 (aF d3) (.k 1 (aG d2) (.k 6 (aG d1) (.k 1 (aF d0) (.k 2 (aF d) (.k 7 (nS 0) (.c f (.c (aG f) .nil)))))))) (.v 22 (.eq p) (.c y (.c j (.c e (.v 25 (.ppt o) .nil))))) g) (pN 58 [] 6 25 (.k 2 C (.c B (.k 8 (aF d3) (.k 1 (aG d2) (.k 6 (aG d1) (.k 1 (aF d0) (.k 2 (aF d) (.k 7 (nS ls.length) (.c f (.c (aG f) .nil)))))))))) (.v 22 (.eq p) (.c y (.c j (.c e (.v 25 (.ppt o) .nil))))) g)
   ·refine ⟨⟨s.op,s.name,w3.neg,af w3.n,af w3.d,0⟩,k1,u,rfl,rfl,.val J (fun _=> ⟨_,Z⟩),fun nt g=> ?_⟩
    exact n _ _ nt (fun i=>by subst i;exact pN 58 [] 7 9 (.k 12 (aF d2) (.k 6 (aG d1) (.k 1 (aF d0) (.k 2 (aF d) (.k 7 (nS 0) (.c f (.c (aG f) .nil))))))) (.v 22 (.eq p) (.c y (.c j (.c e (.v 25 (.ppt o) .nil))))) g) (pN 58 [] 6 9 (.k 2 C (.c B (.k 9 (aF d2) (.k 6 (aG d1) (.k 1 (aF d0) (.k 2 (aF d) (.k 7 (nS ls.length) (.c f (.c (aG f) .nil))))))))) (.v 22 (.eq p) (.c y (.c j (.c e (.v 25 (.ppt o) .nil))))) g)
  ·rcases tf t with d2|d2
   ·rcases tf ((Int.tmod (m:Int) ((7:Nat):Int))==((0:Nat):Int)) with d3|d3
    ·refine ⟨⟨s.op,s.name,false,[],[],e3⟩,k4,hk4,rfl,rfl,.err X d2,fun nt g=> ?_⟩
     exact n _ _ nt (fun i=>by subst i;exact pN 58 [] 7 49 (.k 12 Q (.c (nS r3) (.c (kX D) (.c (aG d3) (.k 1 (aG d2) (.k 4 (aF d1) (.k 1 (aF d0) (.k 2 (aF d) (.k 7 (nS 0) (.c f (.c (aG f) .nil))))))))))) (.v 22 (.eq p) (.c K (.v 73 (.eq R) (.c L (.c j (.c e (.v 25 (.ppt o) .nil))))))) g) (pN 58 [] 6 49 (.k 2 C (.c B (.k 9 Q (.c (nS r3) (.c (kX D) (.c (aG d3) (.k 1 (aG d2) (.k 4 (aF d1) (.k 1 (aF d0) (.k 2 (aF d) (.k 7 (nS ls.length) (.c f (.c (aG f) .nil))))))))))))) (.v 22 (.eq p) (.c K (.v 73 (.eq R) (.c L (.c j (.c e (.v 25 (.ppt o) .nil))))))) g)
    ·refine ⟨⟨s.op,s.name,w.neg,af w.n,af w.d,0⟩,k1,u,rfl,rfl,.val sw (fun h=>by rw [d1] at h;cases h),fun nt g=> ?_⟩
     exact n _ _ nt (fun i=>by subst i;exact pN 58 [] 7 17 (.k 11 (aF d3) (.k 1 (aG d2) (.k 4 (aF d1) (.k 1 (aF d0) (.k 2 (aF d) (.k 7 (nS 0) (.c f (.c (aG f) .nil)))))))) (.v 22 (.eq p) (.c j (.c e (.v 25 (.ppt o) .nil)))) g) (pN 58 [] 6 17 (.k 2 C (.c B (.k 8 (aF d3) (.k 1 (aG d2) (.k 4 (aF d1) (.k 1 (aF d0) (.k 2 (aF d) (.k 7 (nS ls.length) (.c f (.c (aG f) .nil)))))))))) (.v 22 (.eq p) (.c j (.c e (.v 25 (.ppt o) .nil)))) g)
   ·refine ⟨⟨s.op,s.name,w.neg,af w.n,af w.d,0⟩,k1,u,rfl,rfl,.val sw (fun h=>by rw [d1] at h;cases h),fun nt g=> ?_⟩
    exact n _ _ nt (fun i=>by subst i;exact pN 58 [] 7 1 (.k 12 (aF d2) (.k 4 (aF d1) (.k 1 (aF d0) (.k 2 (aF d) (.k 7 (nS 0) (.c f (.c (aG f) .nil))))))) (.v 22 (.eq p) (.c j (.c e (.v 25 (.ppt o) .nil)))) g) (pN 58 [] 6 1 (.k 2 C (.c B (.k 9 (aF d2) (.k 4 (aF d1) (.k 1 (aF d0) (.k 2 (aF d) (.k 7 (nS ls.length) (.c f (.c (aG f) .nil))))))))) (.v 22 (.eq p) (.c j (.c e (.v 25 (.ppt o) .nil)))) g)
theorem aii (a:List Sg) (c b:Bool) (xs:List Int) (nn:Bool) (k:Nat) (ls:List Lk) (qs:List Sc) (x:Sc) (h:ls ≠ []):Qo a c b xs nn (k,ls,qs++ [x])=⟨[(0,.sl (h_ a) a.length c),(2,.bool b),(6,.ptr 0 0 0),(7,.ptr 1 0 0),(8,.ptr 2 0 0),(9,.int .i64 ((ls.length+qs.length+1:Nat):Int))],[(0,⟨[.nilS,.nilS],0,false,0,0,true⟩),(1,⟨[.ref 3 0 0 ls.length,.ref 4 0 0 (qs.length+1)],0,false,0,0,false⟩),(2,dB xs nn k),(3,⟨eU ls,0,false,0,6,true⟩),(4,⟨List.take (qs.length*4) (gZ qs)++Rx x,0,false,0,4,true⟩)],.dead,[]⟩:=by
 rw [X9,VQ a c b xs nn k ls (qs++ [x]) h (by simp),List.length_append,List.length_singleton,Nat.add_assoc]
theorem ZK (a:List Sg) (f h:Bool) (s:Sg) (hs:s.op=24) (xs:List Int) (nn:Bool) (k:Nat) (ls:List Lk) (qs:List Sc) (c:ls ≠ []) (w:List AV) (o:List.drop (Int.toNat ((ls.length+qs.length:Nat):Int)*5) (h_ a)=YR s++w) (B:ls.length+qs.length<a.length) (z:a.length<20) (u:xs.length<2^63) (A:k≤xs.length):
  ∃ (x:Sq) (k':Nat),k'≤xs.length∧(x.nm=s.name∧x.l.length≤8∧(∀ b ∈ x.l,b.s28)∧NC pg x.l=0)∧∀ nt,87≤nt→ax prog ap [] nt (ag 0 (ai f58)) (Qo a f h xs nn (k,ls,qs)) .normal (Qo a f h xs nn (k',ls,qs++ [Sq.c x])):=by
 obtain ⟨bs,k1,i,v,y,r,p⟩:=Ya s xs nn k u A
 refine ⟨⟨s.name,s.ty.m,s.ty.d,bs⟩,k1,i,⟨rfl,v,y,r⟩,fun nt m=> ?_⟩
 rw [aii _ _ _ _ _ _ _ _ _ c]
 generalize d:ls.length+qs.length=j at*
 have g:decide ((j:Int)<(a.length:Int))=true:=decide_eq_true (by omega)
 have e:(s.op==((24:Nat):Int))=true:=by rw [hs];rfl
 have n:AV.int .i64 (IntKind.wrap .i64 ((j:Int)+((1:Nat):Int)))=AV.int .i64 ((j+1:Nat):Int):=CG (by omega)
 have t:Nat.ble (qs.length+1) 1099511627776=true:=Nat.ble_eq_true_of_le (by omega)
 have q:Nat.ble (qs.length*4) (List.length (gZ qs))=true:=Nat.ble_eq_true_of_le (by rw [Dq];exact Nat.le_refl _)
 by_cases hz:qs= []
 ·subst hz
  rw [ac9 a f h xs nn k ls c]
  simp only [List.length_nil,Nat.add_zero] at d
  subst d
  exact pN 58 [] 3 3 (.k 10 (aG e) (.k 7 (nS ls.length) (.c g (.c (aG g) .nil)))) (.v 22 (.eq n) (.c p (.v 25 (.ppt o) .nil))) m
 ·rw [VQ a f h xs nn k ls qs c hz,d]
  exact pN 58 [] 2 3 (.k 2 t (.c q (.k 7 (aG e) (.k 7 (nS j) (.c g (.c (aG g) .nil)))))) (.v 22 (.eq n) (.c p (.v 25 (.ppt o) .nil))) m
theorem VT (h j:Bool) (xs:List Int) (nn:Bool) (v:xs.length<2^63) (c:List Sg) (m:c.length<20) (ls:List Lk) (d:ls ≠ []):∀ (r p:List Sg) (k:Nat) (qs:List Sc),c=p++r→(∀ s ∈ r,s.op=24)→p.length=ls.length+qs.length→k≤xs.length→(qs ≠ []∨r ≠ [])→
  ∃ (f:Nat) (b:List Sq),wR r b∧∀ nt,87≤nt→aI prog ap [] nt (ag 0 (ai f58)) (fun _=> .exit 0) (Qo c h j xs nn) emO (k,ls,qs) (f,ls,qs++b.map Sq.c):=by
 intro r
 induction r with
 |nil=>
  intro p k qs hp i a o n
  refine ⟨k,[],True.intro,fun nt e=> ?_⟩
  have q:qs ≠ []:=n.resolve_right (by simp)
  simp only [List.map_nil,List.append_nil] at hp ⊢
  subst hp
  refine .done ?_
  rw [VQ c h j xs nn k ls qs d q,← a]
  have z:decide ((c.length:Int)<(c.length:Int))=false:=decide_eq_false (by omega)
  exact pN 58 [] 1 0 (.c (aF z) .nil) (.nil) e
 |cons s r ih=>
  intro p k qs hp i a o n
  obtain ⟨x,k1,g,B,A⟩:=ZK c h j s (i s (by simp)) xs nn k ls qs d (h_ r) (by rw [hp];exact MS a.symm) (by rw [hp,← a];simp) m v o
  obtain ⟨f,b,u,w⟩:=ih (p++ [s]) k1 (qs++ [Sq.c x]) (by rw [hp];simp) (fun y t=>i y (by simp [t])) (by simp [a,Nat.add_assoc]) g (.inl (by simp))
  refine ⟨f,x::b,⟨B,u⟩,fun nt e=> .next (A nt e) ?_⟩
  have:=w nt e
  rw [List.append_assoc] at this
  exact this
theorem VS (m i:Bool) (xs:List Int) (nn:Bool) (w:xs.length<2^63) (g:List Sg) (f:g.length<20) (d:List Sg) (t:∀ s ∈ d,s.op=24) (o:d ≠ []):∀ (r p:List Sg) (k:Nat) (ls:List Lk),g=p++(r++d)→(∀ s ∈ r,s.op ≠ 24)→p.length=ls.length→k≤xs.length→(ls ≠ []∨r ≠ [])→
  ∃ (e:Nat) (c:List Lk) (b:List Sq),tN i r c∧wR d b∧∀ nt,87≤nt→aI prog ap [] nt (ag 0 (ai f58)) (fun _=> .exit 0) (Qo g m i xs nn) emO (k,ls,[]) (e,ls++c,b.map Sq.c):=by
 intro r
 induction r with
 |nil=>
  intro p k ls hp u a n z
  obtain ⟨e,b,q,v⟩:=VT m i xs nn w g f ls (z.resolve_right (by simp)) d p k [] hp t (by simpa using a) n (.inr o)
  refine ⟨e,[],b,True.intro,q,fun nt h=> ?_⟩
  have:=v nt h
  rw [List.nil_append] at this
  rw [List.append_nil]
  exact this
 |cons s r ih=>
  intro p k ls hp u a n z
  obtain ⟨x,k1,j,B,D,C,F⟩:=ZJ g m i s (u s (by simp)) xs nn k ls (h_ (r++d)) (by rw [hp];exact MS a.symm) (by rw [hp,← a];simp) f w n
  obtain ⟨e,c,b,q,v,G⟩:=ih (p++ [s]) k1 (ls++ [x]) (by rw [hp];simp) (fun y A=>u y (by simp [A])) (by simp [a]) j (.inl (by simp))
  refine ⟨e,x::c,b,⟨⟨B,D,C⟩,q⟩,v,fun nt h=> .next (F nt h) ?_⟩
  have:=G nt h
  rw [List.append_assoc] at this
  exact this
theorem aig (a:List Sg) (c b nn:Bool) (xs:List Int) (ls:List Lk) (qs:List Sc) (d:aO prog ap [] 87 (.block 0 (.loop (ag 0 (ai f58)))) ⟨[(0,.sl (h_ a) a.length c),(1,.sl (iL xs) xs.length nn),(2,.bool b),(6,.ptr 0 0 0),(7,.ptr 1 0 0),(8,.ptr 2 0 0),(9,.int .i64 0),(10,.dead),(11,.dead),(12,.dead),(13,.dead),(20,.dead),(29,.dead),(45,.dead),(57,.dead),(68,.dead),(9999,.dead)],[(0,⟨[.nilS,.nilS],0,false,0,0,true⟩),(1,⟨[.nilS,.nilS],0,false,0,0,true⟩),(2,⟨[.sl (iL xs) xs.length nn,.int .i64 0],0,false,0,0,true⟩)],.dead,[]⟩ (.normal) ⟨[(6,.ptr 0 0 0),(7,.ptr 1 0 0)],[(0,⟨[.nilS,.nilS],0,false,0,0,true⟩),(1,⟨[.ref 2 0 0 ls.length,.ref 3 0 0 qs.length],0,false,0,0,false⟩),(2,⟨(eU ls),0,false,0,6,true⟩),(3,⟨(gZ qs),0,false,0,4,true⟩)],.dead,[]⟩):CO 58 [.sl (h_ a) a.length c,.sl (iL xs) xs.length nn,.bool b] (.retS true [some 2] [.own (List.take (ls.length*6) (eU ls)) ls.length 6,.own (List.take (qs.length*4) (gZ qs)) qs.length 4]):=pK [0] 0 0 (.n 5 .nil) (.l d .nil)
theorem tN.len {a:Bool}:∀ {r:List Sg} {l:List Lk},tN a r l→l.length=r.length
 | [],[],_=>rfl
 |s::r,x::l,h=>by simp [tN.len h.2]
theorem wR.len:∀ {r:List Sg} {l:List Sq},wR r l→l.length=r.length
 | [],[],_=>rfl
 |s::r,x::l,h=>by simp [wR.len h.2]
theorem tN.get {a:Bool}:∀ {r:List Sg} {l:List Lk},tN a r l→∀ x ∈ l,∃ s ∈ r,x.op=s.op∧x.nm=s.name∧yc a s.ty x
 | [],[],_,x,hx=>by cases hx
 | s::r,y::l,h,x,hx=>by
  rcases List.mem_cons.1 hx with rfl|hx
  ·exact ⟨s,by simp,h.1⟩
  ·obtain ⟨t,c,b⟩:=tN.get h.2 x hx
   exact ⟨t,by simp [c],b⟩
theorem tN.has {a:Bool}:∀ {r:List Sg} {l:List Lk},tN a r l→∀ s ∈ r,∃ x ∈ l,x.op=s.op∧x.nm=s.name∧yc a s.ty x
 | [],[],_,x,hx=>by cases hx
 | s::r,y::l,h,x,hx=>by
  rcases List.mem_cons.1 hx with rfl|hx
  ·exact ⟨y,by simp,h.1⟩
  ·obtain ⟨t,c,b⟩:=tN.has h.2 x hx
   exact ⟨t,by simp [c],b⟩
theorem wR.get:∀ {r:List Sg} {l:List Sq},wR r l→∀ x ∈ l,(∃ s ∈ r,x.nm=s.name)∧x.l.length≤8∧(∀ b ∈ x.l,b.s28)∧NC pg x.l=0
 | [],[],_,x,hx=>by cases hx
 | s::r,y::l,h,x,hx=>by
  rcases List.mem_cons.1 hx with rfl|hx
  ·exact ⟨⟨s,by simp,h.1.1⟩,h.1.2⟩
  ·obtain ⟨⟨t,d,a⟩,c⟩:=wR.get h.2 x hx
   exact ⟨⟨t,by simp [d],a⟩,c⟩
def sgK:List Sg:=aS.take 10
def sgR:List Sg:=aS.drop 10
structure SA (er:Bool) (E:dY):Prop where
 lk:tN er sgK E.ls
 sc:wR sgR E.qs
theorem SA.sm {c:Bool} {E:dY} (h:SA c E):E.sm where
 ls:=by rw [h.lk.len];decide
 qs:=by rw [h.sc.len];decide
 lk x hx:=by
  obtain ⟨s,_,_,_,g⟩:=h.lk.get x hx
  exact g.sz
 sq s hs:=by
  obtain ⟨_,b,a,_⟩:=h.sc.get s hs
  exact ⟨Nat.lt_of_le_of_lt b (by decide),a⟩
abbrev aeS (E:dY):List AV:= [.own (eU E.ls) E.ls.length 6,.own (gZ (E.qs.map Sq.c)) (E.qs.map Sq.c).length 4]
theorem aeT (b a nn:Bool) (xs:List Int) (c:xs.length<2^63):∃ E:dY,SA a E∧CO 58 [.sl (h_ aS) 12 b,.sl (iL xs) xs.length nn,.bool a] (.retS true [some 2] (aeS E)):=by
 obtain ⟨g,ls,qs,f,d,e⟩:=VS b a xs nn c aS (by decide) sgR (by decide) (by decide) sgK [] 0 [] rfl (by decide) rfl (by omega) (.inr (by decide))
 refine ⟨⟨ls,qs⟩,⟨f,d⟩, ?_⟩
 have h:=aig aS b a nn xs ls (qs.map Sq.c) (aI.blk e (by simp) rfl (aQ.of ⟨rfl,rfl,rfl,rfl,rfl,rfl,trivial⟩) (aQ.refl _))
 rw [List.take_of_length_le (by rw [vZ];exact Nat.le_refl _),List.take_of_length_le (by rw [Dq];exact Nat.le_refl _)] at h
 exact h
structure Ro where
 n:Bool
 a:List UInt8
 d:List UInt8
 e:Int
def roC (x:Ro):List AV:= [.bool x.n,.str x.a,.str x.d,.int .i64 x.e]
def zS (l:List Ro):List AV:=l.flatMap roC
def ND (x:Ro):Oq:=CE x.n x.a x.d x.e
def nmN:Nd:=⟨3,false,[],[1],[]⟩
def gJ (k:Nat):List Nd:=List.replicate k nmN
abbrev Hr (y:Nd) (ls:List Lk) (cs:List Sc) (nl ns:Bool):Hp:= [(0,⟨[.int .i64 y.op,.bool y.neg,.str y.num,.str y.den,.str y.name],0,false,0,0,true⟩),(1,⟨[.sl (eU ls) ls.length nl,.sl (gZ cs) cs.length ns],0,false,0,0,true⟩),(2,⟨[.bool false,.str [],.str [],.int .i64 0],0,false,0,0,true⟩)]
theorem aip (y:Nd) (x:Ro) (o:Oq) (a c b:Bool) (k:Nat) (i:List AV) (ar:List Ro) (ls:List Lk) (d:List Sc) {nt:Nat} (e:44≤nt) (f:(List.drop ((Int.toNat (k:Int))*4) (zS ar))=roC x++i) (n:AV.int .i64 (IntKind.wrap .i64 ((k:Int)+((1:Nat):Int)))=AV.int .i64 ((k+1:Nat):Int)) (p:(decide (((0:Nat):Int)≤(k:Int)))=true) (g:(decide ((k:Int)<(ar.length:Int)))=true) (j:lit true (decide ((k:Int)<(ar.length:Int)))=true) (m:CO 42 [.int .i64 0] (.ret (.agg [.bool false,.str [],.str [1]]))) (h:CO 43 [.agg [.bool x.n,.str x.a,.str x.d,.int .i64 x.e]] (.ret (.agg [.bool o.n,.str o.a,.str o.d,.int .i64 o.e]))):ax prog ap [] nt (ag 0 (ai f15)) ⟨[(3,.ptr 0 0 0),(5,.ptr 1 0 0),(6,.ptr 2 0 0),(7,.nilS),(8,.nilS),(15,.sl (zS ar) ar.length b),(16,.int .i64 (ar.length:Int)),(17,.int .i64 (k:Int))],(Hr y ls d a c),.dead,[]⟩ (.normal) ⟨[(3,.ptr 0 0 0),(5,.ptr 1 0 0),(6,.ptr 2 0 0),(7,.ref 3 0 0 1),(8,.ref 4 0 0 1),(15,.sl (zS ar) ar.length b),(16,.int .i64 (ar.length:Int)),(17,.int .i64 ((k+1:Nat):Int))],(Hr y ls d a c++ [(3,⟨zcc4_18,0,false,0,5,true⟩),(4,⟨[.bool o.n,.str o.a,.str o.d,.int .i64 o.e],0,false,0,4,true⟩)]),.dead,[]⟩:=pN 15 [] 3 1 (.k 15 p (.c g (.c j .nil))) (.v 17 (.eq n) (.c h (.c m (.v 19 (.ppt f) .nil)))) e
theorem aiq (y:Nd) (b a f:Bool) (k:Nat) (ar:List Ro) (ls:List Lk) (c:List Sc) {nt:Nat} (d:44≤nt) (e:lit false (decide ((k:Int)<(ar.length:Int)))=true):ax prog ap [] nt (ag 0 (ai f15)) ⟨[(3,.ptr 0 0 0),(5,.ptr 1 0 0),(6,.ptr 2 0 0),(7,.nilS),(8,.nilS),(15,.sl (zS ar) ar.length f),(16,.int .i64 (ar.length:Int)),(17,.int .i64 (k:Int))],(Hr y ls c b a),.dead,[]⟩ (.exit 0) ⟨[(3,.ptr 0 0 0),(5,.ptr 1 0 0),(6,.ptr 2 0 0),(7,.nilS),(8,.nilS)],(Hr y ls c b a),.dead,[]⟩:=pN 15 [] 1 0 (.c e .nil) (.nil) d
theorem amA (y:Nd) (x:Ro) (o:Oq) (b d c:Bool) (k:Nat) (p:List AV) (ar:List Ro) (a:List Oq) (ls:List Lk) (f:List Sc) {nt:Nat} (g:44≤nt) (h:(List.drop ((Int.toNat (k:Int))*4) (zS ar))=roC x++p) (s:AV.int .i64 (IntKind.wrap .i64 ((k:Int)+((1:Nat):Int)))=AV.int .i64 ((k+1:Nat):Int)) (e:(Nat.ble (a.length+1) 1099511627776)=true) (m:(Nat.ble (a.length*4) (List.length (gK a)))=true) (q:(Nat.ble (a.length*5) (List.length (aZ (gJ a.length))))=true) (r:(decide (((0:Nat):Int)≤(k:Int)))=true) (j:(decide ((k:Int)<(ar.length:Int)))=true) (i:lit true (decide ((k:Int)<(ar.length:Int)))=true) (t:CO 42 [.int .i64 0] (.ret (.agg [.bool false,.str [],.str [1]]))) (n:CO 43 [.agg [.bool x.n,.str x.a,.str x.d,.int .i64 x.e]] (.ret (.agg [.bool o.n,.str o.a,.str o.d,.int .i64 o.e]))):ax prog ap [] nt (ag 0 (ai f15)) ⟨[(3,.ptr 0 0 0),(5,.ptr 1 0 0),(6,.ptr 2 0 0),(7,.ref 3 0 0 a.length),(8,.ref 4 0 0 a.length),(15,.sl (zS ar) ar.length c),(16,.int .i64 (ar.length:Int)),(17,.int .i64 (k:Int))],(Hr y ls f b d++ [(3,⟨(aZ (gJ a.length)),0,false,0,5,true⟩),(4,⟨(gK a),0,false,0,4,true⟩)]),.dead,[]⟩ (.normal) ⟨[(3,.ptr 0 0 0),(5,.ptr 1 0 0),(6,.ptr 2 0 0),(7,.ref 3 0 0 (a.length+1)),(8,.ref 4 0 0 (a.length+1)),(15,.sl (zS ar) ar.length c),(16,.int .i64 (ar.length:Int)),(17,.int .i64 ((k+1:Nat):Int))],(Hr y ls f b d++ [(3,⟨((List.take (a.length*5) (aZ (gJ a.length)))++ zcc4_18),0,false,0,5,true⟩),(4,⟨((List.take (a.length*4) (gK a))++ [.bool o.n,.str o.a,.str o.d,.int .i64 o.e]),0,false,0,4,true⟩)]),.dead,[]⟩:=pN 15 [] 1 1 (.k 1 e (.c m (.k 6 e (.c q (.k 6 r (.c j (.c i .nil))))))) (.v 17 (.eq s) (.c n (.c t (.v 19 (.ppt h) .nil)))) g
theorem amB (y:Nd) (c b g:Bool) (k:Nat) (ar:List Ro) (a:List Oq) (ls:List Lk) (d:List Sc) {nt:Nat} (e:44≤nt) (f:lit false (decide ((k:Int)<(ar.length:Int)))=true):ax prog ap [] nt (ag 0 (ai f15)) ⟨[(3,.ptr 0 0 0),(5,.ptr 1 0 0),(6,.ptr 2 0 0),(7,.ref 3 0 0 a.length),(8,.ref 4 0 0 a.length),(15,.sl (zS ar) ar.length g),(16,.int .i64 (ar.length:Int)),(17,.int .i64 (k:Int))],(Hr y ls d c b++ [(3,⟨(aZ (gJ a.length)),0,false,0,5,true⟩),(4,⟨(gK a),0,false,0,4,true⟩)]),.dead,[]⟩ (.exit 0) ⟨[(3,.ptr 0 0 0),(5,.ptr 1 0 0),(6,.ptr 2 0 0),(7,.ref 3 0 0 a.length),(8,.ref 4 0 0 a.length)],(Hr y ls d c b++ [(3,⟨(aZ (gJ a.length)),0,false,0,5,true⟩),(4,⟨(gK a),0,false,0,4,true⟩)]),.dead,[]⟩:=pN 15 [] 1 0 (.c f .nil) (.nil) e
theorem afc (y:Nd) (d b e:Bool) (c:Int) (ar:List Ro) (ls:List Lk) (a:List Sc) (i:lit true (!(c==((0:Nat):Int)))=true) (h:lit false (decide (((60:Nat):Int)<(ar.length:Int)))=true) (g:aO prog ap [] 44 (.block 0 (.loop (ag 0 (ai f15)))) ⟨[(0,.agg [.int .i64 y.op,.bool y.neg,.str y.num,.str y.den,.str y.name]),(1,.sl (zS ar) ar.length e),(2,.agg [.sl (eU ls) ls.length d,.sl (gZ a) a.length b]),(3,.ptr 0 0 0),(5,.ptr 1 0 0),(6,.ptr 2 0 0),(7,.nilS),(8,.nilS),(10,.dead),(13,.bool (decide (((60:Nat):Int)<(ar.length:Int)))),(15,.sl (zS ar) ar.length e),(16,.int .i64 (ar.length:Int)),(17,.int .i64 0),(18,.dead),(37,.dead)],(Hr y ls a d b),.dead,[]⟩ (.normal) ⟨[(3,.ptr 0 0 0),(5,.ptr 1 0 0),(6,.ptr 2 0 0),(7,.nilS),(8,.nilS)],(Hr y ls a d b),.dead,[]⟩) (f:CO 44 [.sl [.int .i64 y.op,.bool y.neg,.str y.num,.str y.den,.str y.name] 1 true] (.ret (.int .i64 c))) (j:CO 41 [.int .i64 11] (.ret (.agg [.bool false,.str [],.str [],.int .i64 11]))):CO 15 [.agg [.int .i64 y.op,.bool y.neg,.str y.num,.str y.den,.str y.name],.sl (zS ar) ar.length e,.agg [.sl (eU ls) ls.length d,.sl (gZ a) a.length b]] (.ret (.agg [.bool false,.str [],.str [],.int .i64 11])):=pK [0] 3 4 (.k 5 i (.k 8 h .nil)) (.c j (.c f (.l g .nil)))
theorem afd (y:Nd) (q:Oq) (b d e:Bool) (c:Int) (k1 v1 k2 f:List AV) (ar:List Ro) (ls:List Lk) (a:List Sc) (k:lit false (!(c==((0:Nat):Int)))=true) (h:lit false (decide (((60:Nat):Int)<(ar.length:Int)))=true) (g:aO prog ap [] 44 (.block 0 (.loop (ag 0 (ai f15)))) ⟨[(0,.agg [.int .i64 y.op,.bool y.neg,.str y.num,.str y.den,.str y.name]),(1,.sl (zS ar) ar.length e),(2,.agg [.sl (eU ls) ls.length b,.sl (gZ a) a.length d]),(3,.ptr 0 0 0),(5,.ptr 1 0 0),(6,.ptr 2 0 0),(7,.nilS),(8,.nilS),(10,.dead),(13,.bool (decide (((60:Nat):Int)<(ar.length:Int)))),(15,.sl (zS ar) ar.length e),(16,.int .i64 (ar.length:Int)),(17,.int .i64 0),(18,.dead),(37,.dead)],(Hr y ls a b d),.dead,[]⟩ (.normal) ⟨[(3,.ptr 0 0 0),(5,.ptr 1 0 0),(6,.ptr 2 0 0),(7,.nilS),(8,.nilS)],(Hr y ls a b d),.dead,[]⟩) (i:CO 44 [.sl [.int .i64 y.op,.bool y.neg,.str y.num,.str y.den,.str y.name] 1 true] (.ret (.int .i64 c))) (m:CO 45 [.agg [.sl (eU ls) ls.length b,.sl (gZ a) a.length d]] (.ret (.agg [.mp k1 v1,.mp k2 f]))) (j:CO 46 [.agg [.mp k1 v1,.mp k2 f],.agg [.int .i64 y.op,.bool y.neg,.str y.num,.str y.den,.str y.name],.nilS] (.ret (.agg [.bool q.n,.str q.a,.str q.d,.int .i64 q.e]))):CO 15 [.agg [.int .i64 y.op,.bool y.neg,.str y.num,.str y.den,.str y.name],.sl (zS ar) ar.length e,.agg [.sl (eU ls) ls.length b,.sl (gZ a) a.length d]] (.ret (.agg [.bool q.n,.str q.a,.str q.d,.int .i64 q.e])):=pK [0] 3 0 (.k 12 k (.k 8 h .nil)) (.c j (.c m (.c i (.l g .nil))))
theorem aiR (y:Nd) (e d f:Bool) (c:Int) (ar:List Ro) (a:List Oq) (ls:List Lk) (b:List Sc) (m:lit true (!(c==((0:Nat):Int)))=true) (k:(Nat.ble (a.length+1) 1099511627776)=true) (g:(Nat.ble (a.length*5) (List.length (aZ (gJ a.length))))=true) (h:lit false (decide (((60:Nat):Int)<(ar.length:Int)))=true) (i:aO prog ap [] 44 (.block 0 (.loop (ag 0 (ai f15)))) ⟨[(0,.agg [.int .i64 y.op,.bool y.neg,.str y.num,.str y.den,.str y.name]),(1,.sl (zS ar) ar.length f),(2,.agg [.sl (eU ls) ls.length e,.sl (gZ b) b.length d]),(3,.ptr 0 0 0),(5,.ptr 1 0 0),(6,.ptr 2 0 0),(7,.nilS),(8,.nilS),(10,.dead),(13,.bool (decide (((60:Nat):Int)<(ar.length:Int)))),(15,.sl (zS ar) ar.length f),(16,.int .i64 (ar.length:Int)),(17,.int .i64 0),(18,.dead),(37,.dead)],(Hr y ls b e d),.dead,[]⟩ (.normal) ⟨[(3,.ptr 0 0 0),(5,.ptr 1 0 0),(6,.ptr 2 0 0),(7,.ref 3 0 0 a.length),(8,.ref 4 0 0 a.length)],(Hr y ls b e d++ [(3,⟨(aZ (gJ a.length)),0,false,0,5,true⟩),(4,⟨(gK a),0,false,0,4,true⟩)]),.dead,[]⟩) (j:CO 44 [.sl (List.take ((a.length+1)*5) ((List.take (a.length*5) (aZ (gJ a.length)))++ [.int .i64 y.op,.bool y.neg,.str y.num,.str y.den,.str y.name])) (a.length+1) true] (.ret (.int .i64 c))) (n:CO 41 [.int .i64 11] (.ret (.agg [.bool false,.str [],.str [],.int .i64 11]))):CO 15 [.agg [.int .i64 y.op,.bool y.neg,.str y.num,.str y.den,.str y.name],.sl (zS ar) ar.length f,.agg [.sl (eU ls) ls.length e,.sl (gZ b) b.length d]] (.ret (.agg [.bool false,.str [],.str [],.int .i64 11])):=pK [0] 2 2 (.k 5 m (.k 1 k (.c g (.k 6 h .nil)))) (.c n (.c j (.l i .nil)))
theorem aiS (y:Nd) (q:Oq) (d e f:Bool) (c:Int) (k1 v1 k2 g:List AV) (ar:List Ro) (a:List Oq) (ls:List Lk) (b:List Sc) (o:lit false (!(c==((0:Nat):Int)))=true) (i:(Nat.ble (a.length+1) 1099511627776)=true) (j:(Nat.ble (a.length*5) (List.length (aZ (gJ a.length))))=true) (k:lit false (decide (((60:Nat):Int)<(ar.length:Int)))=true) (h:aO prog ap [] 44 (.block 0 (.loop (ag 0 (ai f15)))) ⟨[(0,.agg [.int .i64 y.op,.bool y.neg,.str y.num,.str y.den,.str y.name]),(1,.sl (zS ar) ar.length f),(2,.agg [.sl (eU ls) ls.length d,.sl (gZ b) b.length e]),(3,.ptr 0 0 0),(5,.ptr 1 0 0),(6,.ptr 2 0 0),(7,.nilS),(8,.nilS),(10,.dead),(13,.bool (decide (((60:Nat):Int)<(ar.length:Int)))),(15,.sl (zS ar) ar.length f),(16,.int .i64 (ar.length:Int)),(17,.int .i64 0),(18,.dead),(37,.dead)],(Hr y ls b d e),.dead,[]⟩ (.normal) ⟨[(3,.ptr 0 0 0),(5,.ptr 1 0 0),(6,.ptr 2 0 0),(7,.ref 3 0 0 a.length),(8,.ref 4 0 0 a.length)],(Hr y ls b d e++ [(3,⟨(aZ (gJ a.length)),0,false,0,5,true⟩),(4,⟨(gK a),0,false,0,4,true⟩)]),.dead,[]⟩) (m:CO 44 [.sl (List.take ((a.length+1)*5) ((List.take (a.length*5) (aZ (gJ a.length)))++ [.int .i64 y.op,.bool y.neg,.str y.num,.str y.den,.str y.name])) (a.length+1) true] (.ret (.int .i64 c))) (p:CO 45 [.agg [.sl (eU ls) ls.length d,.sl (gZ b) b.length e]] (.ret (.agg [.mp k1 v1,.mp k2 g]))) (n:CO 46 [.agg [.mp k1 v1,.mp k2 g],.agg [.int .i64 y.op,.bool y.neg,.str y.num,.str y.den,.str y.name],.sl (List.take (a.length*4) (gK a)) a.length true] (.ret (.agg [.bool q.n,.str q.a,.str q.d,.int .i64 q.e]))):CO 15 [.agg [.int .i64 y.op,.bool y.neg,.str y.num,.str y.den,.str y.name],.sl (zS ar) ar.length f,.agg [.sl (eU ls) ls.length d,.sl (gZ b) b.length e]] (.ret (.agg [.bool q.n,.str q.a,.str q.d,.int .i64 q.e])):=pK [0] 2 0 (.k 12 o (.k 1 i (.c j (.k 6 k .nil)))) (.c n (.c p (.c m (.l h .nil))))
def eoN (os:List Oq):AV:=match os with| []=> .nilS|_::_=> .ref 3 0 0 os.length
def eoM (os:List Oq):AV:=match os with| []=> .nilS|_::_=> .ref 4 0 0 os.length
def eoB (os:List Oq):Hp:=match os with| []=> []|_::_=> [(3,⟨aZ (gJ os.length),0,false,0,5,true⟩),(4,⟨gK os,0,false,0,4,true⟩)]
abbrev eoS (y:Nd) (ls:List Lk) (cs:List Sc) (nl ns na:Bool) (ar:List Ro) (os:List Oq):St:=⟨[(3,.ptr 0 0 0),(5,.ptr 1 0 0),(6,.ptr 2 0 0),(7,eoN os),(8,eoM os),(15,.sl (zS ar) ar.length na),(16,.int .i64 (ar.length:Int)),(17,.int .i64 (os.length:Int))],Hr y ls cs nl ns++eoB os,.dead,[]⟩
abbrev eoO (y:Nd) (ls:List Lk) (cs:List Sc) (nl ns:Bool) (os:List Oq):St:=⟨[(3,.ptr 0 0 0),(5,.ptr 1 0 0),(6,.ptr 2 0 0),(7,eoN os),(8,eoM os)],Hr y ls cs nl ns++eoB os,.dead,[]⟩
theorem of0:CO 42 [.int .i64 0] (.ret (.agg [.bool false,.str [],.str [1]])):=kC (FC 0 (by decide)) (by kernel_rfl)
theorem Uc (k:Nat):List.take (k*5) (aZ (gJ k))++ zcc4_18=aZ (gJ (k+1)):=by
 rw [List.take_of_length_le (by rw [aN];simp [gJ])]
 unfold gJ
 rw [List.replicate_succ']
 unfold aZ
 rw [List.flatMap_append]
 rfl
theorem VW (y:Nd) (ls:List Lk) (e:List Sc) (d f c:Bool) (ar:List Ro) (b:List Oq) (o:Oq):eoS y ls e d f c ar (b++ [o])=⟨[(3,.ptr 0 0 0),(5,.ptr 1 0 0),(6,.ptr 2 0 0),(7,.ref 3 0 0 (b.length+1)),(8,.ref 4 0 0 (b.length+1)),(15,.sl (zS ar) ar.length c),(16,.int .i64 (ar.length:Int)),(17,.int .i64 ((b.length+1:Nat):Int))],Hr y ls e d f++ [(3,⟨aZ (gJ (b.length+1)),0,false,0,5,true⟩),(4,⟨gK (b++ [o]),0,false,0,4,true⟩)],.dead,[]⟩:=by
 cases b with
 |nil=>rfl
 |cons a r=>
  show (⟨[(3,_),(5,_),(6,_),(7,.ref 3 0 0 (a::r++ [o]).length),(8,.ref 4 0 0 (a::r++ [o]).length),(15,_),(16,_),(17,.int .i64 (((a::r++ [o]).length:Nat):Int))],_++ [(3,⟨aZ (gJ (a::r++ [o]).length),_,_,_,_,_⟩),_],_,_⟩:St)=_
  rw [show (a::r++ [o]).length=(a::r).length+1 from List.length_append]
theorem abV {l:List Ro} {k:Nat} {x:Ro} {p r:List Ro} (h:l=p++x::r) (b:k=p.length):List.drop (Int.toNat (k:Int)*4) (zS l)=roC x++zS r:=by
 subst h b
 rw [aJ]
 unfold zS
 rw [List.flatMap_append,List.flatMap_cons]
 have a:(List.flatMap roC p).length=p.length*4:=oh roC 4 (fun _=>rfl) p
 rw [← a,List.drop_left]
theorem ZM {nt:Nat} (m:44≤nt) (y:Nd) (ls:List Lk) (f:List Sc) (d e j:Bool) {ar:List Ro} (B:ar.length≤60) (o:∀ x ∈ ar,x.a.length<2^36∧x.d.length<2^36):∀ (r p:List Ro) (b:List Oq),ar=p++r→b=p.map ND→
  aI prog ap [] nt (ag 0 (ai f15)) (fun _=> .exit 0) (eoS y ls f d e j ar) (eoO y ls f d e) b (ar.map ND):=by
 intro r
 induction r with
 |nil=>
  intro p b hp k
  rw [List.append_nil] at hp
  subst hp
  subst k
  have hd:lit false (decide ((((ar.map ND).length:Nat):Int)<(ar.length:Int)))=true:=aF (decide_eq_false (by simp))
  generalize ar.map ND=b at*
  cases b with
  |nil=>exact .done (aiq y d e j 0 ar ls f m hd)
  |cons a q=>exact .done (amB y d e j (a::q).length ar (a::q) ls f m hd)
 | cons x r ih=>
  intro p b hp k
  have c:b.length=p.length:=by rw [k,List.length_map]
  have z:b.length<ar.length:=by rw [hp,c];simp
  have t:=abV hp c
  have hs:=o x (by rw [hp];simp)
  have w:=ih (p++ [x]) (b++ [ND x]) (by rw [hp];simp) (by rw [k];simp)
  refine .next ?_ w
  rw [VW]
  have s:decide (((0:Nat):Int)≤(b.length:Int))=true:=decide_eq_true (by omega)
  have n:decide ((b.length:Int)<(ar.length:Int))=true:=decide_eq_true (by omega)
  have g:=CG (i:=b.length) (by omega)
  have A:Nat.ble (b.length+1) 1099511627776=true:=Nat.ble_eq_true_of_le (by omega)
  have u:Nat.ble (b.length*4) (List.length (gK b))=true:=Nat.ble_eq_true_of_le (by rw [zn];exact Nat.le_refl _)
  have v:Nat.ble (b.length*5) (List.length (aZ (gJ b.length)))=true:=Nat.ble_eq_true_of_le (by rw [aN];simp [gJ])
  cases b with
  |nil=>exact aip y x (ND x) d e j 0 _ ar ls f m t g s n (aG n) of0 (wE x.n x.a x.d x.e hs.1 hs.2)
  |cons a q=>
   have h:=amA y x (ND x) d e j (a::q).length _ ar (a::q) ls f m t g A u v s n (aG n) of0 (wE x.n x.a x.d x.e hs.1 hs.2)
   rw [Uc,uV] at h
   exact h
def aiQ (E:dY) (y:Nd) (l:List Oq):Oq:=if dE (gJ l.length++ [y])=0 then fE E y l else .err 11
theorem KE:∀ (k d:Nat) (r:List Nd),iy (gJ k++r) d=iy r (d+k)
 |0,_,_=>rfl
 |k+1,d,r=>by
  show iy (nmN::(gJ k++r)) d=_
  simp only [iy]
  rw [if_pos (show aK nmN=0 by kernel_rfl),if_neg (show ¬ d<fG nmN.op from Nat.not_lt_zero _),KE k _ r]
  congr 1
  show d - 0+1+k=_
  omega
theorem ajP {k:Nat} {y:Nd} (h:dE (gJ k++ [y])=0):k=fG y.op:=by
 unfold dE at h
 split at h
 ·cases h
 ·rw [KE] at h
  simp only [iy] at h
  by_cases hw:aK y=0
  ·rw [if_pos hw] at h
   by_cases hd:0+k<fG y.op
   ·rw [if_pos hd] at h;cases h
   ·rw [if_neg hd] at h
    dsimp only at h
    split at h
    ·omega
    ·cases h
  ·rw [if_neg hw] at h
   exact absurd h hw
theorem aa9 (k:Nat):∀ x ∈ gJ k,x.sm:=by
 intro x a
 rw [List.eq_of_mem_replicate a]
 exact ⟨by decide,by decide⟩
theorem Z_ (E:dY) (d e i:Bool) (m:E.sm) (y:Nd) (w:y.sm) {ar:List Ro} (F:ar.length≤60) (u:∀ x ∈ ar,x.a.length<2^36∧x.d.length<2^36):
  CO 15 [.agg (zQ y),.sl (zS ar) ar.length i,.agg [.sl (eU E.ls) E.ls.length d,.sl (gZ (E.qs.map Sq.c)) (E.qs.map Sq.c).length e]] (.ret (fM (aiQ E y (ar.map ND)))):=by
 have z:=KX E.ls (E.qs.map Sq.c) d e (Nat.lt_trans m.ls (by decide)) (by rw [List.length_map];exact Nat.lt_trans m.qs (by decide)) m.lk
 have G:∀ nt,44≤nt→aI prog ap [] nt (ag 0 (ai f15)) (fun _=> .exit 0) (eoS y E.ls (E.qs.map Sq.c) d e i ar) (eoO y E.ls (E.qs.map Sq.c) d e) [] (ar.map ND):=fun nt D=>ZM D y E.ls (E.qs.map Sq.c) d e i F u ar [] [] rfl rfl
 have t:∀ x ∈ gJ ar.length++ [y],x.sm:=fun x I=>(List.mem_append.1 I).elim (aa9 _ x) (fun h=>by rw [List.mem_singleton] at h;exact h ▸ w)
 have g:=D5 (gJ ar.length++ [y]) true t
 have c:lit false (decide (((60:Nat):Int)<(ar.length:Int)))=true:=aF (decide_eq_false (by omega))
 have b:(ar.map ND).length=ar.length:=List.length_map ..
 have k:=aI.blk (id:=0) (e':= .normal) (s:=⟨[(0,.agg [.int .i64 y.op,.bool y.neg,.str y.num,.str y.den,.str y.name]),(1,.sl (zS ar) ar.length i),(2,.agg [.sl (eU E.ls) E.ls.length d,.sl (gZ (E.qs.map Sq.c)) (E.qs.map Sq.c).length e]),(3,.ptr 0 0 0),(5,.ptr 1 0 0),(6,.ptr 2 0 0),(7,.nilS),(8,.nilS),(10,.dead),(13,.bool (decide (((60:Nat):Int)<(ar.length:Int)))),(15,.sl (zS ar) ar.length i),(16,.int .i64 (ar.length:Int)),(17,.int .i64 0),(18,.dead),(37,.dead)],(Hr y E.ls (E.qs.map Sq.c) d e),.dead,[]⟩) (s':=eoO y E.ls (E.qs.map Sq.c) d e (ar.map ND)) G (by simp) rfl (aQ.of ⟨rfl,rfl,rfl,rfl,rfl,rfl,rfl,rfl,trivial⟩) (aQ.refl _)
 have hnode:∀ nn:Bool,dE (gJ ar.length++ [y])=0→CO 46 [agN E,.agg (zQ y),.sl (gK (ar.map ND)) (ar.map ND).length nn] (.ret (fM (fE E y (ar.map ND)))):=fun nn h=>by
  have B:=(nN h).1 y (by simp)
  have j:=vI B
  exact KW E y nn (ar.map ND) j.1 j.2 (RP B) (by rw [b];exact ajP h) (fun o J=>by obtain ⟨x,_,rfl⟩:=List.mem_map.1 J;exact Dt _ _ _ _) w m.sq
 unfold aiQ
 rw [b]
 have M:Nat.ble (ar.length+1) 1099511627776=true:=Nat.ble_eq_true_of_le (by omega)
 cases n:ar.map ND with
 | nil=>
  have p:ar.length=0:=by rw [← b,n];rfl
  rw [n] at k hnode
  have L:dE (gJ ar.length++ [y])=dE (gJ 0++ [y]):=by rw [p]
  rw [L]
  rw [p] at g hnode
  by_cases hc:dE (gJ 0++ [y])=0
  ·rw [if_pos hc]
   rw [hc] at g
   exact afd y _ d e i 0 _ _ _ _ ar E.ls (E.qs.map Sq.c) (aF rfl) c k g z ((hnode false hc).args (gX.cons (aW.refl _) (gX.cons (aW.refl _) (gX.cons (aW.nilS false rfl) (gX.refl _)))))
  ·rw [if_neg hc]
   exact afc y d e i _ ar E.ls (E.qs.map Sq.c) (aG (by simpa using hc)) c k g (iQ 11)
 | cons a q=>
  have p:(a::q).length=ar.length:=by rw [← b,n]
  rw [n] at k hnode
  have v:List.take (((a::q).length+1)*5) (List.take ((a::q).length*5) (aZ (gJ (a::q).length))++ [.int .i64 y.op,.bool y.neg,.str y.num,.str y.den,.str y.name])=aZ (gJ (a::q).length++ [y]):=by
   have K:List.take ((a::q).length*5) (aZ (gJ (a::q).length))=aZ (gJ (a::q).length):=List.take_of_length_le (by rw [aN];simp [gJ])
   rw [K,List.take_of_length_le (by rw [List.length_append,aN];simp [gJ];omega)]
   unfold aZ
   rw [List.flatMap_append]
   rfl
  have C:Nat.ble ((a::q).length+1) 1099511627776=true:=Nat.ble_eq_true_of_le (by omega)
  have A:Nat.ble ((a::q).length*5) (List.length (aZ (gJ (a::q).length)))=true:=Nat.ble_eq_true_of_le (by rw [aN];simp [gJ])
  have f:CO 44 [.sl (List.take (((a::q).length+1)*5) (List.take ((a::q).length*5) (aZ (gJ (a::q).length))++ [.int .i64 y.op,.bool y.neg,.str y.num,.str y.den,.str y.name])) ((a::q).length+1) true] (.ret (.int .i64 (dE (gJ ar.length++ [y])))):=by
   rw [v,p]
   have:=g
   rw [show (gJ ar.length++ [y]).length=ar.length+1 by simp [gJ]] at this
   exact this
  have r:List.take ((a::q).length*4) (gK (a::q))=gK (a::q):=List.take_of_length_le (by rw [zn];exact Nat.le_refl _)
  by_cases hc:dE (gJ ar.length++ [y])=0
  ·rw [if_pos hc]
   rw [hc] at f
   exact aiS y _ d e i 0 _ _ _ _ ar (a::q) E.ls (E.qs.map Sq.c) (aF rfl) C A c k f z (by rw [r];exact hnode true hc)
  ·rw [if_neg hc]
   exact aiR y d e i _ ar (a::q) E.ls (E.qs.map Sq.c) (aG (by simpa using hc)) C A c k f (iQ 11)
theorem aiz (a b:List Oq) (o q:Oq) (p h:Bool) (k:Nat) (i rb:List AV) {nt:Nat} (j:26≤nt) (m:(List.drop ((Int.toNat (k:Int))*4) (gK a))=Dj o++i) (d:(List.drop ((Int.toNat (k:Int))*4) (gK b))=Dj q++rb) (n:lit true (!((o.n==q.n) && ((o.a==q.a) && ((o.d==q.d) && ((o.e==q.e) && true)))))=true) (c:(decide (((0:Nat):Int)≤(k:Int)))=true) (e:(decide ((k:Int)<(b.length:Int)))=true) (f:(decide ((k:Int)<(a.length:Int)))=true) (g:lit true (decide ((k:Int)<(a.length:Int)))=true):ax prog ap [] nt (ag 0 (ai f18)) ⟨[(0,.sl (gK a) a.length p),(1,.sl (gK b) b.length h),(5,.int .i64 (k:Int))],[],.dead,[]⟩ (.ret) ⟨[(4,.bool false)],[],.dead,[]⟩:=pN 18 [] 2 3 (.c n (.k 4 c (.c e (.k 4 c (.c f (.c g .nil)))))) (.v 23 (.ppt d) (.v 19 (.ppt m) .nil)) j
theorem aiA (a b:List Oq) (o q:Oq) (c e:Bool) (k:Nat) (i rb:List AV) {nt:Nat} (g:26≤nt) (h:(List.drop ((Int.toNat (k:Int))*4) (gK a))=Dj o++i) (f:(List.drop ((Int.toNat (k:Int))*4) (gK b))=Dj q++rb) (p:AV.int .i64 (IntKind.wrap .i64 ((k:Int)+((1:Nat):Int)))=AV.int .i64 ((k+1:Nat):Int)) (r:lit false (!((o.n==q.n) && ((o.a==q.a) && ((o.d==q.d) && ((o.e==q.e) && true)))))=true) (d:(decide (((0:Nat):Int)≤(k:Int)))=true) (m:(decide ((k:Int)<(b.length:Int)))=true) (n:(decide ((k:Int)<(a.length:Int)))=true) (j:lit true (decide ((k:Int)<(a.length:Int)))=true):ax prog ap [] nt (ag 0 (ai f18)) ⟨[(0,.sl (gK a) a.length c),(1,.sl (gK b) b.length e),(5,.int .i64 (k:Int))],[],.dead,[]⟩ (.normal) ⟨[(0,.sl (gK a) a.length c),(1,.sl (gK b) b.length e),(5,.int .i64 ((k+1:Nat):Int))],[],.dead,[]⟩:=pN 18 [] 2 1 (.c r (.k 4 d (.c m (.k 4 d (.c n (.c j .nil)))))) (.v 5 (.eq p) (.v 23 (.ppt f) (.v 19 (.ppt h) .nil))) g
theorem aiB (a b:List Oq) (f c:Bool) (k:Nat) {nt:Nat} (d:26≤nt) (e:lit false (decide ((k:Int)<(a.length:Int)))=true):ax prog ap [] nt (ag 0 (ai f18)) ⟨[(0,.sl (gK a) a.length f),(1,.sl (gK b) b.length c),(5,.int .i64 (k:Int))],[],.dead,[]⟩ (.exit 0) ⟨[(4,.dead)],[],.dead,[]⟩:=pN 18 [] 1 0 (.c e .nil) (.nil) d
theorem Qs (o q:Oq):CO 17 [.agg [.bool o.n,.str o.a,.str o.d,.int .i64 o.e],.agg [.bool q.n,.str q.a,.str q.d,.int .i64 q.e]] (.ret (.bool ((o.n==q.n) && ((o.a==q.a) && ((o.d==q.d) && ((o.e==q.e) && true)))))):=pK [] 0 0 (.n 8 .nil) (.nil)
theorem aeW (a b:List Oq) (e c:Bool) (d:lit true (!((a.length:Int)==(b.length:Int)))=true):CO 18 [.sl (gK a) a.length e,.sl (gK b) b.length c] (.ret (.bool false)):=pK [0] 1 1 (.c d .nil) (.nil)
theorem aeX (a b:List Oq) (d c:Bool) (f:lit false (!((a.length:Int)==(b.length:Int)))=true) (e:aO prog ap [] 26 (.block 0 (.loop (ag 0 (ai f18)))) ⟨[(0,.sl (gK a) a.length d),(1,.sl (gK b) b.length c),(4,.bool false),(5,.int .i64 0),(10,.bool (!((a.length:Int)==(b.length:Int)))),(14,.dead),(25,.dead)],[],.dead,[]⟩ (.normal) ⟨[(4,.dead)],[],.dead,[]⟩):CO 18 [.sl (gK a) a.length d,.sl (gK b) b.length c] (.ret (.bool true)):=pK [0] 1 0 (.c f .nil) (.l e .nil)
theorem aeV (a b:List Oq) (d c:Bool) (f:lit false (!((a.length:Int)==(b.length:Int)))=true) (e:aO prog ap [] 26 (.block 0 (.loop (ag 0 (ai f18)))) ⟨[(0,.sl (gK a) a.length d),(1,.sl (gK b) b.length c),(4,.bool false),(5,.int .i64 0),(10,.bool (!((a.length:Int)==(b.length:Int)))),(14,.dead),(25,.dead)],[],.dead,[]⟩ (.ret) ⟨[(4,.bool false)],[],.dead,[]⟩):CO 18 [.sl (gK a) a.length d,.sl (gK b) b.length c] (.ret (.bool false)):=pK [0] 1 0 (.c f .nil) (.l e .nil)
def eqo (o q:Oq):Bool:=(o.n==q.n) && ((o.a==q.a) && ((o.d==q.d) && ((o.e==q.e) && true)))
def TB:List Oq→List Oq→Bool
 |x::r,y::s=>eqo x y && TB r s
 |_,_=>true
def ZU:Bool→bJ
 |true=> .exit 0
 |false=> .ret
def aiD:Bool→St
 |true=> ⟨[(4,.dead)],[],.dead,[]⟩
 |false=> ⟨[(4,.bool false)],[],.dead,[]⟩
abbrev aiC (a b:List Oq) (na nb:Bool) (k:Nat):St:=⟨[(0,.sl (gK a) a.length na),(1,.sl (gK b) b.length nb),(5,.int .i64 (k:Int))],[],.dead,[]⟩
theorem QW {l:List Oq} {k:Nat} {x:Oq} {p r:List Oq} (h:l=p++x::r) (b:k=p.length):List.drop (Int.toNat (k:Int)*4) (gK l)=Dj x++gK r:=by
 subst h b
 rw [aJ]
 unfold gK
 rw [List.flatMap_append,List.flatMap_cons]
 have a:(List.flatMap Dj p).length=p.length*4:=oh Dj 4 (fun _=>rfl) p
 rw [← a,List.drop_left]
theorem Wl {nt:Nat} (h:26≤nt) (a b:List Oq) (g d:Bool) (o:a.length=b.length) (w:a.length<2^40):∀ (r s p q:List Oq),a=p++r→b=q++s→p.length=q.length→
  aI prog ap [] nt (ag 0 (ai f18)) ZU (aiC a b g d) aiD p.length (TB r s):=by
 intro r
 induction r with
 |nil=>
  intro s p q hp f i
  rw [List.append_nil] at hp
  subst hp
  exact .done (aiB a b g d a.length h (aF (decide_eq_false (by omega))))
 | cons x r ih=>
  intro s p q hp f i
  cases s with
  |nil=>exfalso;rw [hp,f] at o;simp at o;omega
  | cons y s=>
   have v:=QW hp rfl
   have j:=QW (k:=p.length) f i
   have z:p.length<a.length:=by rw [hp];simp
   have m:decide (((0:Nat):Int)≤(p.length:Int))=true:=decide_eq_true (by omega)
   have u:decide ((p.length:Int)<(b.length:Int))=true:=decide_eq_true (by omega)
   have e:decide ((p.length:Int)<(a.length:Int))=true:=decide_eq_true (by omega)
   unfold TB
   cases t:eqo x y with
   |false=>
    have c:lit true (!eqo x y)=true:=by rw [t];rfl
    exact .done (aiz a b x y g d p.length _ _ h v j c m u e (aG e))
   |true=>
    have c:lit false (!eqo x y)=true:=by rw [t];rfl
    have n:=ih s (p++ [x]) (q++ [y]) (by rw [hp];simp) (by rw [f];simp) (by simp [i])
    rw [List.length_append] at n
    exact .next (aiA a b x y g d p.length _ _ h v j (CG (by omega)) c m u e (aG e)) n
theorem Us (a b:List Oq) (d c:Bool) (h:a.length<2^40):CO 18 [.sl (gK a) a.length d,.sl (gK b) b.length c] (.ret (.bool (decide (a.length=b.length) && TB a b))):=by
 by_cases hl:a.length=b.length
 ·rw [decide_eq_true hl,Bool.true_and]
  have f:lit false (!((a.length:Int)==(b.length:Int)))=true:=by simp [lit,hl]
  have e:∀ nt,26≤nt→aI prog ap [] nt (ag 0 (ai f18)) ZU (aiC a b d c) aiD 0 (TB a b):=fun nt i=>Wl i a b d c hl h a b [] [] rfl rfl rfl
  cases g:TB a b with
  |true=>
   rw [g] at e
   exact aeX a b d c f (aI.blk e (by simp [ZU]) rfl (aQ.of ⟨rfl,rfl,rfl,trivial⟩) (aQ.refl _))
  |false=>
   rw [g] at e
   exact aeV a b d c f (aI.blk e (by simp [ZU]) rfl (aQ.of ⟨rfl,rfl,rfl,trivial⟩) (aQ.refl _))
 ·rw [decide_eq_false hl,Bool.false_and]
  exact aeW a b d c (by simp [lit];omega)
theorem Rh (n d:Int) (a b q:RQ) (c:CO 48 [.int .i64 n] (.ret (.agg [.bool a.neg,.str (af a.n),.str (af a.d)]))) (f:CO 48 [.int .i64 d] (.ret (.agg [.bool b.neg,.str (af b.n),.str (af b.d)]))) (e:CO 60 [.agg [.bool a.neg,.str (af a.n),.str (af a.d)],.agg [.bool b.neg,.str (af b.n),.str (af b.d)]] (.ret (.tup [.agg [.bool q.neg,.str (af q.n),.str (af q.d)],.bool true]))):CO 27 [.int .i64 n,.int .i64 d] (.ret (.agg [.bool q.neg,.str (af q.n),.str (af q.d)])):=pK [] 0 0 (.n 8 .nil) (.c e (.c f (.c c .nil)))
theorem qF (n:Int) (d:Nat) (k: -60000<n) (i:n<60000) (e:0<d) (j:d<60000):CO 27 [.int .i64 n,.int .i64 (d:Int)] (.ret (qA (g_ (jY n).neg (jY n).n d))):=by
 have f:=kN n (by omega) (by omega)
 have a:(jY n).neg=true→0<(jY n).n:=by intro h;simp only [jY,decide_eq_true_eq] at h ⊢;omega
 have g:(jY n).n<65536:=by simp only [jY];omega
 have hd:(jY n).d=1:=rfl
 generalize jY n=w at*
 have c:qA w=qA ⟨w.neg,w.n,1⟩:=by unfold qA;rw [hd]
 have b:=Me w.neg w.n d a g e (by omega)
 rw [← c] at b
 exact Rh n d w ⟨false,d,1⟩ _ f (GN d (by omega)) b
def AU:dY:=⟨[],[]⟩
theorem jH:AU.sm:=⟨by decide,by decide,by decide,fun s hs=>by cases hs⟩
def akP:dY:=⟨[⟨6,[120],false,[5],[1],0⟩],[]⟩
theorem ab9:akP.sm:=⟨by decide,by decide,by decide,fun s hs=>by cases hs⟩
def akQ:dY:=⟨[⟨6,[120],false,[],[],17⟩],[]⟩
theorem ab_:akQ.sm:=⟨by decide,by decide,by decide,fun s hs=>by cases hs⟩
def akR:dY:=⟨[],[⟨[115],0,0,[⟨false,[],[1],false,[],[1]⟩,⟨false,[100],[1],false,[1],[10]⟩,⟨false,[1,44],[1],false,[1],[4]⟩]⟩]⟩
theorem aca:akR.sm:=⟨by decide,by decide,by decide,fun s hs=>by
 rw [show s=_ from List.mem_singleton.1 hs]
 refine ⟨by decide,fun b a=> ?_⟩
 have:b ∈ ([⟨false,[],[1],false,[],[1]⟩,⟨false,[100],[1],false,[1],[10]⟩,⟨false,[1,44],[1],false,[1],[4]⟩]:List Br):=a
 simp only [List.mem_cons,List.not_mem_nil,or_false] at this
 rcases this with rfl|rfl|rfl<;>exact ⟨⟨by decide,by decide⟩,by decide,by decide⟩⟩
theorem k0:CO 27 [.int .i64 1,.int .i64 1] (.ret (.agg [.bool false,.str [1],.str [1]])):=kC (qF 1 1 (by decide) (by decide) (by decide) (by decide)) (by kernel_rfl)
theorem k1:CO 37 [.int .i64 1,.int .i64 1] (.ret (.agg zcc4_16)):=cK (.c k0 .nil)
theorem k2:CO 27 [.int .i64 0,.int .i64 1] (.ret (.agg [.bool false,.str [],.str [1]])):=kC (qF 0 1 (by decide) (by decide) (by decide) (by decide)) (by kernel_rfl)
theorem k3:CO 37 [.int .i64 0,.int .i64 1] (.ret (.agg zcc4_18)):=cK (.c k2 .nil)
theorem k4:CO 27 [.int .i64 5,.int .i64 6] (.ret (.agg [.bool false,.str [5],.str [6]])):=kC (qF 5 6 (by decide) (by decide) (by decide) (by decide)) (by kernel_rfl)
theorem k5:CO 29 [.agg [.bool false,.str [5],.str [6]]] (.ret (.agg [.bool false,.str [5],.str [6],.int .i64 0])):=cK (.nil)
theorem k6:CO 27 [.int .i64 1,.int .i64 2] (.ret (.agg [.bool false,.str [1],.str [2]])):=kC (qF 1 2 (by decide) (by decide) (by decide) (by decide)) (by kernel_rfl)
theorem k7:CO 40 [.int .i64 1,.int .i64 2] (.ret (.agg [.int .i64 1,.bool false,.str [1],.str [2],.str []])):=cK (.c k6 .nil)
theorem k8:CO 27 [.int .i64 1,.int .i64 3] (.ret (.agg [.bool false,.str [1],.str [3]])):=kC (qF 1 3 (by decide) (by decide) (by decide) (by decide)) (by kernel_rfl)
theorem k9:CO 40 [.int .i64 1,.int .i64 3] (.ret (.agg [.int .i64 1,.bool false,.str [1],.str [3],.str []])):=cK (.c k8 .nil)
theorem k10:CO 21 [.sl zcc4_7 3 true,.agg [.nilS,.nilS]] (.ret (.agg [.bool false,.str [5],.str [6],.int .i64 0])):=aC.args (.cons (aW.refl _) (.cons (aW.agg (.cons (aW.nilS false rfl) (.cons (aW.nilS false rfl) .nil))) .nil)) (kC (q:=CO 21 [.sl zcc4_7 3 true,.agg [.sl [] 0 false,.sl [] 0 false]] (.ret (.agg [.bool false,.str [5],.str [6],.int .i64 0]))) (fD AU false false true (e:= [⟨1,false,[1],[2],[]⟩,⟨1,false,[1],[3],[]⟩,⟨9,false,[],[],[]⟩]) jH (kR (by kernel_rfl))) (by kernel_rfl))
theorem k11:CO 39 [.agg [.nilS,.nilS],.agg [.bool false,.str [5],.str [6],.int .i64 0],.sl zcc4_7 3 true] (.ret (.bool true)):=cK (.c k10 .nil)
theorem k12:CO 29 [.agg [.bool false,.str [1],.str [1]]] (.ret (.agg [.bool false,.str [1],.str [1],.int .i64 0])):=cK (.nil)
theorem k13:CO 28 [.int .i64 1] (.ret (.agg zcc4_17)):=cK (.c k0 .nil)
theorem k14:CO 38 [.int .i64 1,.pp zcc4_16 0,.pp [.sl [.int .i64 3,.bool false,.str [1],.str [1],.str [],.int .i64 3,.bool false,.str [],.str [1],.str [],.int .i64 12,.bool false,.str [],.str [],.str []] 3 true] 0] (.ret (.own zcc4_1 6 5)):=cK (.c k13 .nil)
theorem k15:CO 21 [.sl zcc4_1 6 true,.agg [.nilS,.nilS]] (.ret (.agg [.bool false,.str [1],.str [1],.int .i64 0])):=aC.args (.cons (aW.refl _) (.cons (aW.agg (.cons (aW.nilS false rfl) (.cons (aW.nilS false rfl) .nil))) .nil)) (kC (q:=CO 21 [.sl zcc4_1 6 true,.agg [.sl [] 0 false,.sl [] 0 false]] (.ret (.agg [.bool false,.str [1],.str [1],.int .i64 0]))) (fD AU false false true (e:= [⟨4,false,[1],[1],[]⟩,⟨3,false,[1],[1],[]⟩,⟨3,false,[1],[1],[]⟩,⟨3,false,[],[1],[]⟩,⟨12,false,[],[],[]⟩,⟨15,false,[],[],[]⟩]) jH (kR (by kernel_rfl))) (by kernel_rfl))
theorem k16:CO 39 [.agg [.nilS,.nilS],.agg [.bool false,.str [1],.str [1],.int .i64 0],.sl zcc4_1 6 true] (.ret (.bool true)):=cK (.c k15 .nil)
theorem k17:CO 26 [.int .i64 16] (.ret (.agg [.bool false,.str [],.str [],.int .i64 16])):=cK (.nil)
theorem k18:CO 28 [.int .i64 0] (.ret (.agg zcc4_19)):=cK (.c k2 .nil)
theorem k19:CO 38 [.int .i64 0,.pp zcc4_16 0,.pp [.sl [.int .i64 3,.bool false,.str [1],.str [1],.str [],.int .i64 3,.bool false,.str [],.str [1],.str [],.int .i64 12,.bool false,.str [],.str [],.str []] 3 true] 0] (.ret (.own zcc4_2 6 5)):=cK (.c k18 .nil)
theorem k20:CO 21 [.sl zcc4_2 6 true,.agg [.nilS,.nilS]] (.ret (.agg [.bool false,.str [],.str [],.int .i64 16])):=aC.args (.cons (aW.refl _) (.cons (aW.agg (.cons (aW.nilS false rfl) (.cons (aW.nilS false rfl) .nil))) .nil)) (kC (q:=CO 21 [.sl zcc4_2 6 true,.agg [.sl [] 0 false,.sl [] 0 false]] (.ret (.agg [.bool false,.str [],.str [],.int .i64 16]))) (fD AU false false true (e:= [⟨4,false,[],[1],[]⟩,⟨3,false,[1],[1],[]⟩,⟨3,false,[1],[1],[]⟩,⟨3,false,[],[1],[]⟩,⟨12,false,[],[],[]⟩,⟨15,false,[],[],[]⟩]) jH (kR (by kernel_rfl))) (by kernel_rfl))
theorem k21:CO 39 [.agg [.nilS,.nilS],.agg [.bool false,.str [],.str [],.int .i64 16],.sl zcc4_2 6 true] (.ret (.bool true)):=cK (.c k20 .nil)
theorem k22:CO 26 [.int .i64 13] (.ret (.agg [.bool false,.str [],.str [],.int .i64 13])):=cK (.nil)
theorem k23:CO 27 [.int .i64 2,.int .i64 1] (.ret (.agg [.bool false,.str [2],.str [1]])):=kC (qF 2 1 (by decide) (by decide) (by decide) (by decide)) (by kernel_rfl)
theorem k24:CO 37 [.int .i64 2,.int .i64 1] (.ret (.agg [.int .i64 3,.bool false,.str [2],.str [1],.str []])):=cK (.c k23 .nil)
theorem k25:CO 21 [.sl zcc4_6 3 true,.agg [.nilS,.nilS]] (.ret (.agg [.bool false,.str [],.str [],.int .i64 13])):=aC.args (.cons (aW.refl _) (.cons (aW.agg (.cons (aW.nilS false rfl) (.cons (aW.nilS false rfl) .nil))) .nil)) (kC (q:=CO 21 [.sl zcc4_6 3 true,.agg [.sl [] 0 false,.sl [] 0 false]] (.ret (.agg [.bool false,.str [],.str [],.int .i64 13]))) (fD AU false false true (e:= [⟨4,false,[1],[1],[]⟩,⟨3,false,[2],[1],[]⟩,⟨18,false,[],[],[]⟩]) jH (kR (by kernel_rfl))) (by kernel_rfl))
theorem k26:CO 39 [.agg [.nilS,.nilS],.agg [.bool false,.str [],.str [],.int .i64 13],.sl zcc4_6 3 true] (.ret (.bool true)):=cK (.c k25 .nil)
theorem k27:CO 21 [.sl zcc4_3 5 true,.agg [.nilS,.nilS]] (.ret (.agg [.bool false,.str [],.str [],.int .i64 16])):=aC.args (.cons (aW.refl _) (.cons (aW.agg (.cons (aW.nilS false rfl) (.cons (aW.nilS false rfl) .nil))) .nil)) (kC (q:=CO 21 [.sl zcc4_3 5 true,.agg [.sl [] 0 false,.sl [] 0 false]] (.ret (.agg [.bool false,.str [],.str [],.int .i64 16]))) (fD AU false false true (e:= [⟨3,false,[2],[1],[]⟩,⟨3,false,[1],[1],[]⟩,⟨3,false,[],[1],[]⟩,⟨12,false,[],[],[]⟩,⟨19,false,[],[],[]⟩]) jH (kR (by kernel_rfl))) (by kernel_rfl))
theorem k28:CO 39 [.agg [.nilS,.nilS],.agg [.bool false,.str [],.str [],.int .i64 16],.sl zcc4_3 5 true] (.ret (.bool true)):=cK (.c k27 .nil)
theorem k29:CO 27 [.int .i64 5,.int .i64 1] (.ret (.agg [.bool false,.str [5],.str [1]])):=kC (qF 5 1 (by decide) (by decide) (by decide) (by decide)) (by kernel_rfl)
theorem k30:CO 29 [.agg [.bool false,.str [5],.str [1]]] (.ret (.agg [.bool false,.str [5],.str [1],.int .i64 0])):=cK (.nil)
theorem k31:CO 26 [.int .i64 17] (.ret (.agg [.bool false,.str [],.str [],.int .i64 17])):=cK (.nil)
theorem k32:CO 26 [.int .i64 12] (.ret (.agg [.bool false,.str [],.str [],.int .i64 12])):=cK (.nil)
theorem k33:CO 21 [.sl zcc4_15 1 true,.agg [.nilS,.nilS]] (.ret (.agg [.bool false,.str [],.str [],.int .i64 12])):=aC.args (.cons (aW.refl _) (.cons (aW.agg (.cons (aW.nilS false rfl) (.cons (aW.nilS false rfl) .nil))) .nil)) (kC (q:=CO 21 [.sl zcc4_15 1 true,.agg [.sl [] 0 false,.sl [] 0 false]] (.ret (.agg [.bool false,.str [],.str [],.int .i64 12]))) (fD AU false false true (e:= [⟨6,false,[],[],[120]⟩]) jH (kR (by kernel_rfl))) (by kernel_rfl))
theorem k34:CO 39 [.agg [.nilS,.nilS],.agg [.bool false,.str [],.str [],.int .i64 12],.sl zcc4_15 1 true] (.ret (.bool true)):=cK (.c k33 .nil)
theorem k35:CO 21 [.sl zcc4_15 1 true,.agg [.sl zcc4_12 1 true,.nilS]] (.ret (.agg [.bool false,.str [5],.str [1],.int .i64 0])):=aC.args (.cons (aW.refl _) (.cons (aW.agg (.cons (aW.refl _) (.cons (aW.nilS false rfl) .nil))) .nil)) (kC (q:=CO 21 [.sl zcc4_15 1 true,.agg [.sl zcc4_12 1 true,.sl [] 0 false]] (.ret (.agg [.bool false,.str [5],.str [1],.int .i64 0]))) (fD akP true false true (e:= [⟨6,false,[],[],[120]⟩]) ab9 (kR (by kernel_rfl))) (by kernel_rfl))
theorem k36:CO 39 [.agg [.sl zcc4_12 1 true,.nilS],.agg [.bool false,.str [5],.str [1],.int .i64 0],.sl zcc4_15 1 true] (.ret (.bool true)):=cK (.c k35 .nil)
theorem k37:CO 21 [.sl zcc4_4 5 true,.agg [.sl zcc4_13 1 true,.nilS]] (.ret (.agg [.bool false,.str [],.str [],.int .i64 17])):=aC.args (.cons (aW.refl _) (.cons (aW.agg (.cons (aW.refl _) (.cons (aW.nilS false rfl) .nil))) .nil)) (kC (q:=CO 21 [.sl zcc4_4 5 true,.agg [.sl zcc4_13 1 true,.sl [] 0 false]] (.ret (.agg [.bool false,.str [],.str [],.int .i64 17]))) (fD akQ true false true (e:= [⟨6,false,[],[],[120]⟩,⟨3,false,[1],[1],[]⟩,⟨3,false,[],[1],[]⟩,⟨12,false,[],[],[]⟩,⟨9,false,[],[],[]⟩]) ab_ (kR (by kernel_rfl))) (by kernel_rfl))
theorem k38:CO 39 [.agg [.sl zcc4_13 1 true,.nilS],.agg [.bool false,.str [],.str [],.int .i64 17],.sl zcc4_4 5 true] (.ret (.bool true)):=cK (.c k37 .nil)
theorem k39:CO 27 [.int .i64 3,.int .i64 2] (.ret (.agg [.bool false,.str [3],.str [2]])):=kC (qF 3 2 (by decide) (by decide) (by decide) (by decide)) (by kernel_rfl)
theorem k40:CO 29 [.agg [.bool false,.str [3],.str [2]]] (.ret (.agg [.bool false,.str [3],.str [2],.int .i64 0])):=cK (.nil)
theorem k41:CO 27 [.int .i64 5,.int .i64 4] (.ret (.agg [.bool false,.str [5],.str [4]])):=kC (qF 5 4 (by decide) (by decide) (by decide) (by decide)) (by kernel_rfl)
theorem k42:CO 37 [.int .i64 5,.int .i64 4] (.ret (.agg [.int .i64 3,.bool false,.str [5],.str [4],.str []])):=cK (.c k41 .nil)
theorem k43:CO 21 [.sl zcc4_10 2 true,.agg [.nilS,.nilS]] (.ret (.agg [.bool false,.str [3],.str [2],.int .i64 0])):=aC.args (.cons (aW.refl _) (.cons (aW.agg (.cons (aW.nilS false rfl) (.cons (aW.nilS false rfl) .nil))) .nil)) (kC (q:=CO 21 [.sl zcc4_10 2 true,.agg [.sl [] 0 false,.sl [] 0 false]] (.ret (.agg [.bool false,.str [3],.str [2],.int .i64 0]))) (fD AU false false true (e:= [⟨3,false,[5],[4],[]⟩,⟨23,false,[1],[2],[]⟩]) jH (kR (by kernel_rfl))) (by kernel_rfl))
theorem k44:CO 39 [.agg [.nilS,.nilS],.agg [.bool false,.str [3],.str [2],.int .i64 0],.sl zcc4_10 2 true] (.ret (.bool true)):=cK (.c k43 .nil)
theorem k45:CO 27 [.int .i64 (-1),.int .i64 2] (.ret (.agg [.bool true,.str [1],.str [2]])):=kC (qF (-1) 2 (by decide) (by decide) (by decide) (by decide)) (by kernel_rfl)
theorem k46:CO 29 [.agg [.bool true,.str [1],.str [2]]] (.ret (.agg [.bool true,.str [1],.str [2],.int .i64 0])):=cK (.nil)
theorem k47:CO 27 [.int .i64 (-1),.int .i64 4] (.ret (.agg [.bool true,.str [1],.str [4]])):=kC (qF (-1) 4 (by decide) (by decide) (by decide) (by decide)) (by kernel_rfl)
theorem k48:CO 37 [.int .i64 (-1),.int .i64 4] (.ret (.agg [.int .i64 3,.bool true,.str [1],.str [4],.str []])):=cK (.c k47 .nil)
theorem k49:CO 21 [.sl zcc4_11 2 true,.agg [.nilS,.nilS]] (.ret (.agg [.bool true,.str [1],.str [2],.int .i64 0])):=aC.args (.cons (aW.refl _) (.cons (aW.agg (.cons (aW.nilS false rfl) (.cons (aW.nilS false rfl) .nil))) .nil)) (kC (q:=CO 21 [.sl zcc4_11 2 true,.agg [.sl [] 0 false,.sl [] 0 false]] (.ret (.agg [.bool true,.str [1],.str [2],.int .i64 0]))) (fD AU false false true (e:= [⟨3,true,[1],[4],[]⟩,⟨21,false,[1],[2],[]⟩]) jH (kR (by kernel_rfl))) (by kernel_rfl))
theorem k50:CO 39 [.agg [.nilS,.nilS],.agg [.bool true,.str [1],.str [2],.int .i64 0],.sl zcc4_11 2 true] (.ret (.bool true)):=cK (.c k49 .nil)
theorem k51:CO 27 [.int .i64 100,.int .i64 1] (.ret (.agg [.bool false,.str [100],.str [1]])):=kC (qF 100 1 (by decide) (by decide) (by decide) (by decide)) (by kernel_rfl)
theorem k52:CO 27 [.int .i64 1,.int .i64 10] (.ret (.agg [.bool false,.str [1],.str [10]])):=kC (qF 1 10 (by decide) (by decide) (by decide) (by decide)) (by kernel_rfl)
theorem k53:CO 27 [.int .i64 300,.int .i64 1] (.ret (.agg [.bool false,.str [1,44],.str [1]])):=kC (qF 300 1 (by decide) (by decide) (by decide) (by decide)) (by kernel_rfl)
theorem k54:CO 27 [.int .i64 1,.int .i64 4] (.ret (.agg [.bool false,.str [1],.str [4]])):=kC (qF 1 4 (by decide) (by decide) (by decide) (by decide)) (by kernel_rfl)
theorem k55:CO 27 [.int .i64 200,.int .i64 1] (.ret (.agg [.bool false,.str [200],.str [1]])):=kC (qF 200 1 (by decide) (by decide) (by decide) (by decide)) (by kernel_rfl)
theorem k56:CO 40 [.int .i64 200,.int .i64 1] (.ret (.agg [.int .i64 1,.bool false,.str [200],.str [1],.str []])):=cK (.c k55 .nil)
theorem k57:CO 27 [.int .i64 10,.int .i64 1] (.ret (.agg [.bool false,.str [10],.str [1]])):=kC (qF 10 1 (by decide) (by decide) (by decide) (by decide)) (by kernel_rfl)
theorem k58:CO 29 [.agg [.bool false,.str [10],.str [1]]] (.ret (.agg [.bool false,.str [10],.str [1],.int .i64 0])):=cK (.nil)
theorem k59:CO 21 [.sl zcc4_9 2 true,.agg [.nilS,.sl [.str [115],.int .i64 0,.int .i64 0,.sl zcc4_5 3 true] 1 true]] (.ret (.agg [.bool false,.str [10],.str [1],.int .i64 0])):=aC.args (.cons (aW.refl _) (.cons (aW.agg (.cons (aW.nilS false rfl) (.cons (aW.slP (.same (.same (.same (.sl .nil))))) .nil))) .nil)) (kC (q:=CO 21 [.sl zcc4_9 2 true,.agg [.sl [] 0 false,.sl [.str [115],.int .i64 0,.int .i64 0,.sl zcc4_5 3 false] 1 true]] (.ret (.agg [.bool false,.str [10],.str [1],.int .i64 0]))) (fD akR false true true (e:= [⟨1,false,[200],[1],[]⟩,⟨24,false,[],[],[115]⟩]) aca (kR (by kernel_rfl))) (by kernel_rfl))
theorem k60:CO 39 [.agg [.nilS,.sl [.str [115],.int .i64 0,.int .i64 0,.sl zcc4_5 3 true] 1 true],.agg [.bool false,.str [10],.str [1],.int .i64 0],.sl zcc4_9 2 true] (.ret (.bool true)):=cK (.c k59 .nil)
theorem k61:CO 21 [.sl zcc4_9 2 true,.agg [.nilS,.nilS]] (.ret (.agg [.bool false,.str [],.str [],.int .i64 12])):=aC.args (.cons (aW.refl _) (.cons (aW.agg (.cons (aW.nilS false rfl) (.cons (aW.nilS false rfl) .nil))) .nil)) (kC (q:=CO 21 [.sl zcc4_9 2 true,.agg [.sl [] 0 false,.sl [] 0 false]] (.ret (.agg [.bool false,.str [],.str [],.int .i64 12]))) (fD AU false false true (e:= [⟨1,false,[200],[1],[]⟩,⟨24,false,[],[],[115]⟩]) jH (kR (by kernel_rfl))) (by kernel_rfl))
theorem k62:CO 39 [.agg [.nilS,.nilS],.agg [.bool false,.str [],.str [],.int .i64 12],.sl zcc4_9 2 true] (.ret (.bool true)):=cK (.c k61 .nil)
theorem k63:CO 27 [.int .i64 3,.int .i64 1] (.ret (.agg [.bool false,.str [3],.str [1]])):=kC (qF 3 1 (by decide) (by decide) (by decide) (by decide)) (by kernel_rfl)
theorem k64:CO 37 [.int .i64 3,.int .i64 1] (.ret (.agg [.int .i64 3,.bool false,.str [3],.str [1],.str []])):=cK (.c k63 .nil)
theorem k65:CO 19 [.sl [.int .i64 3,.bool false,.str [1],.str [1],.str [],.int .i64 3,.bool false,.str [3],.str [1],.str [],.int .i64 10,.bool false,.str [],.str [],.str []] 3 true,.agg [.nilS,.nilS]] (.ret (.own zcc4_8 3 4)):=aC.args (.cons (aW.refl _) (.cons (aW.agg (.cons (aW.nilS false rfl) (.cons (aW.nilS false rfl) .nil))) .nil)) (kC (q:=CO 19 [.sl [.int .i64 3,.bool false,.str [1],.str [1],.str [],.int .i64 3,.bool false,.str [3],.str [1],.str [],.int .i64 10,.bool false,.str [],.str [],.str []] 3 true,.agg [.sl [] 0 false,.sl [] 0 false]] (.ret (.own zcc4_8 3 4))) (Hu AU false false true (e:= [⟨3,false,[1],[1],[]⟩,⟨3,false,[3],[1],[]⟩,⟨10,false,[],[],[]⟩]) jH (by kernel_rfl) (kR (by kernel_rfl))) (by kernel_rfl))
theorem k66:CO 29 [.agg [.bool false,.str [3],.str [1]]] (.ret (.agg [.bool false,.str [3],.str [1],.int .i64 0])):=cK (.nil)
theorem k67:CO 27 [.int .i64 (-2),.int .i64 1] (.ret (.agg [.bool true,.str [2],.str [1]])):=kC (qF (-2) 1 (by decide) (by decide) (by decide) (by decide)) (by kernel_rfl)
theorem k68:CO 29 [.agg [.bool true,.str [2],.str [1]]] (.ret (.agg [.bool true,.str [2],.str [1],.int .i64 0])):=cK (.nil)
theorem k69:CO 18 [.sl zcc4_8 3 true,.sl zcc4_8 3 true] (.ret (.bool true)):=kC (Us [.val ⟨false,1,1⟩,.val ⟨false,3,1⟩,.val ⟨true,2,1⟩] [.val ⟨false,1,1⟩,.val ⟨false,3,1⟩,.val ⟨true,2,1⟩] true true (by decide)) (by kernel_rfl)
theorem k70:CO 15 [.agg [.int .i64 20,.bool false,.str [],.str [],.str []],.nilS,.agg [.nilS,.nilS]] (.ret (.agg [.bool false,.str [],.str [],.int .i64 11])):=aC.args (.cons (aW.refl _) (.cons (aW.nilS false rfl) (.cons (aW.agg (.cons (aW.nilS false rfl) (.cons (aW.nilS false rfl) .nil))) .nil))) (kC (q:=CO 15 [.agg [.int .i64 20,.bool false,.str [],.str [],.str []],.sl [] 0 false,.agg [.sl [] 0 false,.sl [] 0 false]] (.ret (.agg [.bool false,.str [],.str [],.int .i64 11]))) (Z_ AU false false false jH ⟨20,false,[],[],[]⟩ ⟨by decide,by decide⟩ (ar:= []) (by decide) (by simp)) (by kernel_rfl))
theorem k71:CO 26 [.int .i64 11] (.ret (.agg [.bool false,.str [],.str [],.int .i64 11])):=cK (.nil)
theorem k72:CO 21 [.nilS,.agg [.nilS,.nilS]] (.ret (.agg [.bool false,.str [],.str [],.int .i64 11])):=aC.args (.cons (aW.nilS false rfl) (.cons (aW.agg (.cons (aW.nilS false rfl) (.cons (aW.nilS false rfl) .nil))) .nil)) (kC (q:=CO 21 [.sl [] 0 false,.agg [.sl [] 0 false,.sl [] 0 false]] (.ret (.agg [.bool false,.str [],.str [],.int .i64 11]))) (fD AU false false false (e:= []) jH (kR (by kernel_rfl))) (by kernel_rfl))
theorem k73:CO 29 [.agg [.bool false,.str [1],.str [2]]] (.ret (.agg [.bool false,.str [1],.str [2],.int .i64 0])):=cK (.nil)
theorem k74:CO 17 [.agg [.bool false,.str [1],.str [2],.int .i64 0],.agg [.bool false,.str [1],.str [2],.int .i64 0]] (.ret (.bool true)):=kC (Qs (.val ⟨false,1,2⟩) (.val ⟨false,1,2⟩)) (by kernel_rfl)
theorem k75:CO 17 [.agg [.bool false,.str [1],.str [2],.int .i64 0],.agg [.bool false,.str [],.str [],.int .i64 16]] (.ret (.bool false)):=kC (Qs (.val ⟨false,1,2⟩) (.err 16)) (by kernel_rfl)
theorem k76:CO 13 [] (.ret (.bool true)):=cK (.c k75 (.c k17 (.c k73 (.c k74 (.c k73 (.c k73 (.c k71 (.c k72 (.c k71 (.c k70 (.c k69 (.c k68 (.c k67 (.c k66 (.c k63 (.c k12 (.c k0 (.c k65 (.c k64 (.c k62 (.c k32 (.c k60 (.c k58 (.c k57 (.c k56 (.c k54 (.c k53 (.c k52 (.c k51 (.c k2 (.c k2 (.c k50 (.c k48 (.c k46 (.c k45 (.c k44 (.c k42 (.c k40 (.c k39 (.c k6 (.c k38 (.c k31 (.c k36 (.c k30 (.c k29 (.c k34 (.c k32 (.c k31 (.c k30 (.c k29 (.c k28 (.c k24 (.c k17 (.c k26 (.c k24 (.c k13 (.c k22 (.c k21 (.c k19 (.c k17 (.c k16 (.c k14 (.c k12 (.c k0 (.c k11 (.c k9 (.c k7 (.c k5 (.c k4 (.c k3 (.c k1 (.c k1 .nil))))))))))))))))))))))))))))))))))))))))))))))))))))))))))))))))))))))))
theorem AX:CO 13 [] (.ret (.bool true)):=k76
theorem anJ:CO 63 [.int .i64 1,.int .i64 0] (.ret (.agg [.bool false,.int .i64 1,.int .i64 0])):=cK (.nil)
theorem anL:CO 63 [.int .i64 0,.int .i64 0] (.ret (.agg [.bool false,.int .i64 0,.int .i64 0])):=cK (.nil)
theorem acl:CO 64 [] (.ret (.agg [.bool true,.int .i64 0,.int .i64 0])):=cK (.nil)
theorem akT:CO 63 [.int .i64 0,.int .i64 1] (.ret (.agg [.bool false,.int .i64 0,.int .i64 1])):=cK (.nil)
theorem anM:CO 35 [] (.ret (.own [.int .i64 5,.str [105,110,99,111,109,101],.bool false,.int .i64 1,.int .i64 0,.int .i64 5,.str [107,105,100,115],.bool false,.int .i64 0,.int .i64 0,.int .i64 5,.str [115,105,110,103,108,101],.bool true,.int .i64 0,.int .i64 0,.int .i64 5,.str [115,116,97,121],.bool false,.int .i64 0,.int .i64 1,.int .i64 6,.str [112,111,111,114],.bool true,.int .i64 0,.int .i64 0,.int .i64 6,.str [116,97,120],.bool false,.int .i64 1,.int .i64 0,.int .i64 7,.str [112,111,111,114],.bool true,.int .i64 0,.int .i64 0,.int .i64 7,.str [116,97,120],.bool false,.int .i64 1,.int .i64 0,.int .i64 8,.str [112,111,111,114],.bool true,.int .i64 0,.int .i64 0,.int .i64 8,.str [116,97,120],.bool false,.int .i64 1,.int .i64 0,.int .i64 24,.str [115,99,97,108,101],.bool false,.int .i64 1,.int .i64 0,.int .i64 24,.str [116,101,114,109],.bool false,.int .i64 0,.int .i64 1] 12 5)):=cK (.c akT (.c acl (.c acl (.c acl (.c akT (.c acl (.c anL (.c anJ .nil))))))))
theorem ah2 (b a:List Int) (f d c:Bool) (q:Int) (t:Ty) (e:List Nd) (E:dY) (g:CO 35 [] (.ret (.own (h_ aS) 12 5))) (j:CO 32 [.int .i64 (IntKind.wrap .i64 q)] (.ret (.agg [.bool t.tr,.int .i64 t.m,.int .i64 t.d]))) (i:CO 57 [.sl (List.take 60 (h_ aS)) 12 true,.agg [.bool t.tr,.int .i64 t.m,.int .i64 t.d],.sl (iL b) b.length f] (.ret (.own (aZ e) e.length 5))) (h:CO 58 [.sl (List.take 60 (h_ aS)) 12 true,.sl (iL a) a.length d,.bool c] (.retS true [some 2] [.own (eU E.ls) E.ls.length 6,.own (gZ (E.qs.map Sq.c)) (E.qs.map Sq.c).length 4])):CO 23 [.agg [.sl (iL b) b.length f,.sl (iL a) a.length d],.int .u8 q,.bool c] (.retS false [none,some 2] [.own (List.take (e.length*5) (aZ e)) e.length 5,.own (List.take (E.ls.length*6) (eU E.ls)) E.ls.length 6,.own (List.take ((E.qs.map Sq.c).length*4) (gZ (E.qs.map Sq.c))) (E.qs.map Sq.c).length 4]):=pK [] 0 0 (.n 9 .nil) (.c h (.c i (.c j (.c g .nil))))
theorem afA (q:Int):∃ t,WR t∧CO 32 [.int .i64 q] (.ret (.agg (uk t))):=by
 obtain ⟨k,a,h⟩:=aav q
 rcases (show k=0∨k=1∨k=2∨k=3∨k=4 by omega) with rfl|rfl|rfl|rfl|rfl
 ·exact ⟨tM,.inl (by simp [b_]),h⟩
 ·exact ⟨tD,.inl (by simp [b_]),h⟩
 ·exact ⟨tP,.inl (by simp [b_]),h⟩
 ·exact ⟨tT,.inl (by simp [b_]),h⟩
 ·exact ⟨⟨false,1, -1⟩,.inr rfl,h⟩
theorem aaF (l:List Lk):List.take (l.length*6) (eU l)=eU l:=List.take_of_length_le (by rw [vZ];exact Nat.le_refl _)
theorem agO (l:List Sc):List.take (l.length*4) (gZ l)=gZ l:=List.take_of_length_le (by rw [Dq];exact Nat.le_refl _)
theorem Yk:CO 35 [] (.ret (.own (h_ aS) 12 5)):=kC anM (by kernel_rfl)
structure IG (t:Ty) (e:List Nd):Prop where
 tm:Tm aS e t
 sm:∀ x ∈ e,x.sm
 ln:e.length≤13
theorem KN (q:Int) (t:Ty) (h:WR t) (a:List Int) (b:a.length<2^63):∃ e,IG t e∧CO 57 [.sl (h_ aS) 12 true,.agg (uk t),.sl (iL a) a.length false] (.ret (.own (aZ e) e.length 5)):=by
 obtain ⟨e,g,c,d,f⟩:=YV h a false b
 exact ⟨e,⟨g,c,d⟩,f⟩
theorem KO {b a:List Int} {c:Bool} {q:Int} {t:Ty} {e:List Nd} {E:dY} (ck:CO 32 [.int .i64 (IntKind.wrap .i64 q)] (.ret (.agg (uk t)))) (d:CO 57 [.sl (h_ aS) 12 true,.agg (uk t),.sl (iL b) b.length false] (.ret (.own (aZ e) e.length 5))) (f:CO 58 [.sl (h_ aS) 12 true,.sl (iL a) a.length false,.bool c] (.retS true [some 2] (aeS E))):
  CO 23 [.agg [.sl (iL b) b.length false,.sl (iL a) a.length false],.int .u8 q,.bool c] (.retS false [none,some 2] (.own (aZ e) e.length 5::aeS E)):=by
 have h:=ah2 b a false false c q t e E Yk ck d f
 rw [Ci,aaF,agO] at h
 exact h
theorem sfO (o:Oq):lit false (!((o.n==o.n) && ((o.a==o.a) && ((o.d==o.d) && ((o.e==o.e) && true)))))=true:=by simp [lit]
theorem stO (o:Oq):lit true ((o.n==o.n) && ((o.a==o.a) && ((o.d==o.d) && ((o.e==o.e) && true))))=true:=by simp [lit]
def OC (op:Int) (nm:List UInt8) (y:Lk):Bool:=(op==y.op) && (nm==y.nm)
theorem afH {E:dY} {i:Bool} (h:SA i E) {a:Int} {c:List UInt8} {t:Ty} (z:5≤a) (w:a≤8) (j:qZ aS a c=some t):∃ x s,E.ls.find? (OC a c)=some x∧s ∈ sgK∧x.op=s.op∧x.nm=s.name∧a=s.op∧c=s.name∧yc i s.ty x:=by
 obtain ⟨s,hs,f,rfl⟩:=Wu j
 simp only [oz,Bool.and_eq_true,beq_iff_eq] at f
 obtain ⟨k,p,_⟩:=f
 have e:s ∈ sgK:=by
  rcases List.mem_append.1 (show s ∈ sgK++sgR from hs) with h|h
  ·exact h
  ·exfalso
   have:∀ s ∈ sgR,s.op=24:=by decide
   have:=this s h
   omega
 obtain ⟨x,v,m,r,_⟩:=h.lk.has s e
 have hsome:(E.ls.find? (OC a c)).isSome:=by
  rw [List.find?_isSome]
  exact ⟨x,v,by unfold OC;rw [m,r,k,p];simp⟩
 obtain ⟨y,d⟩:=Option.isSome_iff_exists.1 hsome
 have b:=List.find?_some d
 simp only [OC,Bool.and_eq_true,beq_iff_eq] at b
 obtain ⟨u,n,q,g,o⟩:=h.lk.get y (List.mem_of_find?_eq_some d)
 exact ⟨y,u,d,n,q,g,by omega,by rw [b.2,g],o⟩
theorem WY (ls:List Lk) (b:Int) (a:List UInt8):QK ls b a=(ls.find? (OC b a)).map lkV:=rfl
theorem alr (e d c:List Int) (q v:Int) (a b:List Nd) (E:dY) (L:List Lk) (x y:Oq) (g:AV.ref 9 1 0 (E.ls.length+1)=AV.ref 9 1 0 L.length) (h:((List.take (E.ls.length*6) (eU E.ls))++ zcc4_14)=(eU L)) (F:lit true ((x.n==x.n) && ((x.a==x.a) && ((x.d==x.d) && ((x.e==x.e) && true))))=true) (t:lit false (!((y.n==y.n) && ((y.a==y.a) && ((y.d==y.d) && ((y.e==y.e) && true)))))=true) (A:lit false (!((x.n==x.n) && ((x.a==x.a) && ((x.d==x.d) && ((x.e==x.e) && true)))))=true) (B:(Nat.ble (E.ls.length+1) 1099511627776)=true) (s:(Nat.ble (E.ls.length*6) (List.length (eU E.ls)))=true) (r:(Nat.ble (List.length (eU E.ls)) (E.ls.length*6))=true) (C:CO 13 [] (.ret (.bool true))) (G:CO 23 [.agg [.sl (iL e) e.length false,.sl (iL c) c.length false],.int .u8 q,.bool true] (.retS false [none,some 2] [.own (aZ a) a.length 5,.own (eU E.ls) E.ls.length 6,.own (gZ (E.qs.map Sq.c)) (E.qs.map Sq.c).length 4])) (D:CO 23 [.agg [.sl (iL d) d.length false,.sl (iL c) c.length false],.int .u8 q,.bool true] (.retS false [none,some 2] [.own (aZ b) b.length 5,.own (eU E.ls) E.ls.length 6,.own (gZ (E.qs.map Sq.c)) (E.qs.map Sq.c).length 4])) (z:CO 21 [.sl (List.take (a.length*5) (aZ a)) a.length true,.agg [.sl (List.take (E.ls.length*6) (eU E.ls)) E.ls.length true,.sl (List.take ((E.qs.map Sq.c).length*4) (gZ (E.qs.map Sq.c))) (E.qs.map Sq.c).length true]] (.ret (.agg [.bool x.n,.str x.a,.str x.d,.int .i64 x.e]))) (o:CO 21 [.sl (List.take (b.length*5) (aZ b)) b.length true,.agg [.sl (List.take (E.ls.length*6) (eU E.ls)) E.ls.length true,.sl (List.take ((E.qs.map Sq.c).length*4) (gZ (E.qs.map Sq.c))) (E.qs.map Sq.c).length true]] (.ret (.agg [.bool y.n,.str y.a,.str y.d,.int .i64 y.e]))) (m:CO 26 [.int .i64 17] (.ret (.agg [.bool false,.str [],.str [],.int .i64 17]))) (u:CO 27 [.int .i64 v,.int .i64 3] (.ret (.agg [.bool false,.str [1],.str [1]]))) (p:CO 28 [.int .i64 1] (.ret (.agg zcc4_17))) (n:CO 25 [.agg zcc4_17,.pp [.sl (List.take (a.length*5) (aZ a)) a.length true] 0,.pp [.sl (List.take (b.length*5) (aZ b)) b.length true] 0,.pp [.sl (List.take (L.length*6) (eU L)) L.length true,.sl (List.take ((E.qs.map Sq.c).length*4) (gZ (E.qs.map Sq.c))) (E.qs.map Sq.c).length true] 0] (.ret (.agg [.bool x.n,.str x.a,.str x.d,.int .i64 x.e]))) (w:CO 28 [.int .i64 0] (.ret (.agg zcc4_19))) (k:CO 25 [.agg zcc4_19,.pp [.sl (List.take (a.length*5) (aZ a)) a.length true] 0,.pp [.sl (List.take (b.length*5) (aZ b)) b.length true] 0,.pp [.sl (List.take (L.length*6) (eU L)) L.length true,.sl (List.take ((E.qs.map Sq.c).length*4) (gZ (E.qs.map Sq.c))) (E.qs.map Sq.c).length true] 0] (.ret (.agg [.bool y.n,.str y.a,.str y.d,.int .i64 y.e]))) (i:CO 25 [.agg zcc4_20,.pp [.sl (List.take (a.length*5) (aZ a)) a.length true] 0,.pp [.sl (List.take (b.length*5) (aZ b)) b.length true] 0,.pp [.sl (List.take (L.length*6) (eU L)) L.length true,.sl (List.take ((E.qs.map Sq.c).length*4) (gZ (E.qs.map Sq.c))) (E.qs.map Sq.c).length true] 0] (.ret (.agg [.bool false,.str [],.str [],.int .i64 17]))) (f:CO 25 [.agg zcc4_16,.pp [.sl (List.take (a.length*5) (aZ a)) a.length true] 0,.pp [.sl (List.take (b.length*5) (aZ b)) b.length true] 0,.pp [.sl (List.take (L.length*6) (eU L)) L.length true,.sl (List.take ((E.qs.map Sq.c).length*4) (gZ (E.qs.map Sq.c))) (E.qs.map Sq.c).length true] 0] (.ret (.agg [.bool x.n,.str x.a,.str x.d,.int .i64 x.e]))) (j:CO 27 [.int .i64 1,.int .i64 1] (.ret (.agg [.bool false,.str [1],.str [1]]))):CO 8 [.agg [.sl (iL e) e.length false,.sl (iL d) d.length false,.sl (iL c) c.length false],.int .u8 q,.int .i64 v] (.ret (.bool true)):=pK [] 7 120 (.k 1 F (.k 22 t (.k 4 A (.k 6 B (.c s (.c r (.n 31 .nil))))))) (.c j (.c f (.c i (.c k (.c w (.c n (.c p (.b 54 h (.v 54 (.eq g) (.c u (.c m (.c o (.c z (.c D (.c G (.c C .nil))))))))))))))))
theorem alu (e d c:List Int) (q v:Int) (a b:List Nd) (E:dY) (L:List Lk) (x y:Oq) (g:AV.ref 9 1 0 (E.ls.length+1)=AV.ref 9 1 0 L.length) (h:((List.take (E.ls.length*6) (eU E.ls))++ zcc4_14)=(eU L)) (G:lit true ((y.n==y.n) && ((y.a==y.a) && ((y.d==y.d) && ((y.e==y.e) && true))))=true) (u:lit false (!((y.n==y.n) && ((y.a==y.a) && ((y.d==y.d) && ((y.e==y.e) && true)))))=true) (B:lit false (!((x.n==x.n) && ((x.a==x.a) && ((x.d==x.d) && ((x.e==x.e) && true)))))=true) (C:(Nat.ble (E.ls.length+1) 1099511627776)=true) (t:(Nat.ble (E.ls.length*6) (List.length (eU E.ls)))=true) (s:(Nat.ble (List.length (eU E.ls)) (E.ls.length*6))=true) (D:CO 13 [] (.ret (.bool true))) (I:CO 23 [.agg [.sl (iL e) e.length false,.sl (iL c) c.length false],.int .u8 q,.bool true] (.retS false [none,some 2] [.own (aZ a) a.length 5,.own (eU E.ls) E.ls.length 6,.own (gZ (E.qs.map Sq.c)) (E.qs.map Sq.c).length 4])) (F:CO 23 [.agg [.sl (iL d) d.length false,.sl (iL c) c.length false],.int .u8 q,.bool true] (.retS false [none,some 2] [.own (aZ b) b.length 5,.own (eU E.ls) E.ls.length 6,.own (gZ (E.qs.map Sq.c)) (E.qs.map Sq.c).length 4])) (A:CO 21 [.sl (List.take (a.length*5) (aZ a)) a.length true,.agg [.sl (List.take (E.ls.length*6) (eU E.ls)) E.ls.length true,.sl (List.take ((E.qs.map Sq.c).length*4) (gZ (E.qs.map Sq.c))) (E.qs.map Sq.c).length true]] (.ret (.agg [.bool x.n,.str x.a,.str x.d,.int .i64 x.e]))) (p:CO 21 [.sl (List.take (b.length*5) (aZ b)) b.length true,.agg [.sl (List.take (E.ls.length*6) (eU E.ls)) E.ls.length true,.sl (List.take ((E.qs.map Sq.c).length*4) (gZ (E.qs.map Sq.c))) (E.qs.map Sq.c).length true]] (.ret (.agg [.bool y.n,.str y.a,.str y.d,.int .i64 y.e]))) (n:CO 26 [.int .i64 17] (.ret (.agg [.bool false,.str [],.str [],.int .i64 17]))) (w:CO 27 [.int .i64 v,.int .i64 3] (.ret (.agg [.bool false,.str [],.str [1]]))) (r:CO 28 [.int .i64 1] (.ret (.agg zcc4_17))) (o:CO 25 [.agg zcc4_17,.pp [.sl (List.take (a.length*5) (aZ a)) a.length true] 0,.pp [.sl (List.take (b.length*5) (aZ b)) b.length true] 0,.pp [.sl (List.take (L.length*6) (eU L)) L.length true,.sl (List.take ((E.qs.map Sq.c).length*4) (gZ (E.qs.map Sq.c))) (E.qs.map Sq.c).length true] 0] (.ret (.agg [.bool x.n,.str x.a,.str x.d,.int .i64 x.e]))) (z:CO 28 [.int .i64 0] (.ret (.agg zcc4_19))) (k:CO 25 [.agg zcc4_19,.pp [.sl (List.take (a.length*5) (aZ a)) a.length true] 0,.pp [.sl (List.take (b.length*5) (aZ b)) b.length true] 0,.pp [.sl (List.take (L.length*6) (eU L)) L.length true,.sl (List.take ((E.qs.map Sq.c).length*4) (gZ (E.qs.map Sq.c))) (E.qs.map Sq.c).length true] 0] (.ret (.agg [.bool y.n,.str y.a,.str y.d,.int .i64 y.e]))) (i:CO 25 [.agg zcc4_20,.pp [.sl (List.take (a.length*5) (aZ a)) a.length true] 0,.pp [.sl (List.take (b.length*5) (aZ b)) b.length true] 0,.pp [.sl (List.take (L.length*6) (eU L)) L.length true,.sl (List.take ((E.qs.map Sq.c).length*4) (gZ (E.qs.map Sq.c))) (E.qs.map Sq.c).length true] 0] (.ret (.agg [.bool false,.str [],.str [],.int .i64 17]))) (f:CO 25 [.agg zcc4_18,.pp [.sl (List.take (a.length*5) (aZ a)) a.length true] 0,.pp [.sl (List.take (b.length*5) (aZ b)) b.length true] 0,.pp [.sl (List.take (L.length*6) (eU L)) L.length true,.sl (List.take ((E.qs.map Sq.c).length*4) (gZ (E.qs.map Sq.c))) (E.qs.map Sq.c).length true] 0] (.ret (.agg [.bool y.n,.str y.a,.str y.d,.int .i64 y.e]))) (j:CO 27 [.int .i64 1,.int .i64 1] (.ret (.agg [.bool false,.str [1],.str [1]]))) (m:CO 27 [.int .i64 0,.int .i64 1] (.ret (.agg [.bool false,.str [],.str [1]]))):CO 8 [.agg [.sl (iL e) e.length false,.sl (iL d) d.length false,.sl (iL c) c.length false],.int .u8 q,.int .i64 v] (.ret (.bool true)):=pK [] 8 200 (.c G (.k 27 u (.k 4 B (.k 6 C (.c t (.c s (.n 31 .nil))))))) (.c m (.c j (.c f (.c i (.c k (.c z (.c o (.c r (.b 54 h (.v 54 (.eq g) (.c w (.c n (.c p (.c A (.c F (.c I (.c D .nil)))))))))))))))))
theorem alv (e d c:List Int) (q v:Int) (a b:List Nd) (E:dY) (L:List Lk) (x y:Oq) (w:RQ) (g:AV.ref 9 1 0 (E.ls.length+1)=AV.ref 9 1 0 L.length) (h:((List.take (E.ls.length*6) (eU E.ls))++ zcc4_14)=(eU L)) (P:lit true (!((w.neg==false) && (((af w.n)== []) && (((af w.d)== [1]) && true))))=true) (C:lit true (!((w.neg==false) && (((af w.n)== [1]) && (((af w.d)== [1]) && true))))=true) (J:lit false ((w.neg==false) && (((af w.n)== []) && (((af w.d)== [1]) && true)))=true) (K:lit false ((w.neg==false) && (((af w.n)== [1]) && (((af w.d)== [1]) && true)))=true) (B:lit false (!((y.n==y.n) && ((y.a==y.a) && ((y.d==y.d) && ((y.e==y.e) && true)))))=true) (A:lit false (!((x.n==x.n) && ((x.a==x.a) && ((x.d==x.d) && ((x.e==x.e) && true)))))=true) (u:(Nat.ble (E.ls.length+1) 1099511627776)=true) (D:(Nat.ble (E.ls.length*6) (List.length (eU E.ls)))=true) (N:(Nat.ble (List.length (eU E.ls)) (E.ls.length*6))=true) (M:CO 13 [] (.ret (.bool true))) (Q:CO 23 [.agg [.sl (iL e) e.length false,.sl (iL c) c.length false],.int .u8 q,.bool true] (.retS false [none,some 2] [.own (aZ a) a.length 5,.own (eU E.ls) E.ls.length 6,.own (gZ (E.qs.map Sq.c)) (E.qs.map Sq.c).length 4])) (O:CO 23 [.agg [.sl (iL d) d.length false,.sl (iL c) c.length false],.int .u8 q,.bool true] (.retS false [none,some 2] [.own (aZ b) b.length 5,.own (eU E.ls) E.ls.length 6,.own (gZ (E.qs.map Sq.c)) (E.qs.map Sq.c).length 4])) (G:CO 21 [.sl (List.take (a.length*5) (aZ a)) a.length true,.agg [.sl (List.take (E.ls.length*6) (eU E.ls)) E.ls.length true,.sl (List.take ((E.qs.map Sq.c).length*4) (gZ (E.qs.map Sq.c))) (E.qs.map Sq.c).length true]] (.ret (.agg [.bool x.n,.str x.a,.str x.d,.int .i64 x.e]))) (t:CO 21 [.sl (List.take (b.length*5) (aZ b)) b.length true,.agg [.sl (List.take (E.ls.length*6) (eU E.ls)) E.ls.length true,.sl (List.take ((E.qs.map Sq.c).length*4) (gZ (E.qs.map Sq.c))) (E.qs.map Sq.c).length true]] (.ret (.agg [.bool y.n,.str y.a,.str y.d,.int .i64 y.e]))) (r:CO 26 [.int .i64 17] (.ret (.agg [.bool false,.str [],.str [],.int .i64 17]))) (F:CO 27 [.int .i64 v,.int .i64 3] (.ret (.agg [.bool w.neg,.str (af w.n),.str (af w.d)]))) (z:CO 28 [.int .i64 1] (.ret (.agg zcc4_17))) (s:CO 25 [.agg zcc4_17,.pp [.sl (List.take (a.length*5) (aZ a)) a.length true] 0,.pp [.sl (List.take (b.length*5) (aZ b)) b.length true] 0,.pp [.sl (List.take (L.length*6) (eU L)) L.length true,.sl (List.take ((E.qs.map Sq.c).length*4) (gZ (E.qs.map Sq.c))) (E.qs.map Sq.c).length true] 0] (.ret (.agg [.bool x.n,.str x.a,.str x.d,.int .i64 x.e]))) (I:CO 28 [.int .i64 0] (.ret (.agg zcc4_19))) (m:CO 25 [.agg zcc4_19,.pp [.sl (List.take (a.length*5) (aZ a)) a.length true] 0,.pp [.sl (List.take (b.length*5) (aZ b)) b.length true] 0,.pp [.sl (List.take (L.length*6) (eU L)) L.length true,.sl (List.take ((E.qs.map Sq.c).length*4) (gZ (E.qs.map Sq.c))) (E.qs.map Sq.c).length true] 0] (.ret (.agg [.bool y.n,.str y.a,.str y.d,.int .i64 y.e]))) (j:CO 25 [.agg zcc4_20,.pp [.sl (List.take (a.length*5) (aZ a)) a.length true] 0,.pp [.sl (List.take (b.length*5) (aZ b)) b.length true] 0,.pp [.sl (List.take (L.length*6) (eU L)) L.length true,.sl (List.take ((E.qs.map Sq.c).length*4) (gZ (E.qs.map Sq.c))) (E.qs.map Sq.c).length true] 0] (.ret (.agg [.bool false,.str [],.str [],.int .i64 17]))) (f:CO 25 [.agg [.int .i64 3,.bool w.neg,.str (af w.n),.str (af w.d),.str []],.pp [.sl (List.take (a.length*5) (aZ a)) a.length true] 0,.pp [.sl (List.take (b.length*5) (aZ b)) b.length true] 0,.pp [.sl (List.take (L.length*6) (eU L)) L.length true,.sl (List.take ((E.qs.map Sq.c).length*4) (gZ (E.qs.map Sq.c))) (E.qs.map Sq.c).length true] 0] (.ret (.agg [.bool false,.str [],.str [],.int .i64 13]))) (k:CO 27 [.int .i64 1,.int .i64 1] (.ret (.agg [.bool false,.str [1],.str [1]]))) (p:CO 27 [.int .i64 0,.int .i64 1] (.ret (.agg [.bool false,.str [],.str [1]]))) (i:CO 27 [.int .i64 1,.int .i64 1] (.ret (.agg [.bool false,.str [1],.str [1]]))) (n:CO 27 [.int .i64 0,.int .i64 1] (.ret (.agg [.bool false,.str [],.str [1]]))) (o:CO 26 [.int .i64 13] (.ret (.agg [.bool false,.str [],.str [],.int .i64 13]))):CO 8 [.agg [.sl (iL e) e.length false,.sl (iL d) d.length false,.sl (iL c) c.length false],.int .u8 q,.int .i64 v] (.ret (.bool true)):=pK [] 10 776 (.k 4 P (.k 3 C (.k 4 J (.k 4 K (.k 13 B (.k 4 A (.k 6 u (.c D (.c N (.n 31 .nil)))))))))) (.c o (.c n (.c i (.c p (.c k (.c f (.c j (.c m (.c I (.c s (.c z (.b 54 h (.v 54 (.eq g) (.c F (.c r (.c t (.c G (.c O (.c Q (.c M .nil))))))))))))))))))))
theorem afv (c:Nd) (a b:List Nd) (L:List Lk) (Q:List Sc) (o:Oq) (j:(Nat.ble (((1+a.length)+b.length)+1) 1099511627776)=true) (i:(Nat.ble (((1+a.length)+b.length)*5) (List.length ((List.take ((1+a.length)*5) ([.int .i64 c.op,.bool c.neg,.str c.num,.str c.den,.str c.name]++(aZ a)))++(aZ b))))=true) (e:(Nat.beq (List.length (aZ b)) (b.length*5))=true) (f:(Nat.ble ((1+a.length)+b.length) 1099511627776)=true) (g:(Nat.ble ((1+a.length)*5) (List.length ([.int .i64 c.op,.bool c.neg,.str c.num,.str c.den,.str c.name]++(aZ a))))=true) (k:(Nat.beq (List.length (aZ a)) (a.length*5))=true) (d:(Nat.ble (1+a.length) 1099511627776)=true) (h:CO 21 [.sl (List.take ((((1+a.length)+b.length)+1)*5) ((List.take (((1+a.length)+b.length)*5) ((List.take ((1+a.length)*5) ([.int .i64 c.op,.bool c.neg,.str c.num,.str c.den,.str c.name]++(aZ a)))++(aZ b)))++ [.int .i64 15,.bool false,.str [],.str [],.str []])) (((1+a.length)+b.length)+1) true,.agg [.sl (eU L) L.length false,.sl (gZ Q) Q.length false]] (.ret (.agg [.bool o.n,.str o.a,.str o.d,.int .i64 o.e]))):CO 25 [.agg [.int .i64 c.op,.bool c.neg,.str c.num,.str c.den,.str c.name],.pp [.sl (aZ a) a.length true] 0,.pp [.sl (aZ b) b.length true] 0,.pp [.sl (eU L) L.length true,.sl (gZ Q) Q.length true] 0] (.ret (.agg [.bool o.n,.str o.a,.str o.d,.int .i64 o.e])):=pK [] 0 0 (.k 8 j (.c i (.k 1 e (.c f (.c g (.k 2 k (.c d (.n 8 .nil)))))))) (.c h .nil)
theorem PQ (a:CO 27 [.int .i64 0,.int .i64 1] (.ret (.agg [.bool false,.str [],.str [1]]))):CO 28 [.int .i64 0] (.ret (.agg zcc4_19)):=pK [] 0 0 (.n 6 .nil) (.c a .nil)
theorem PT (a:CO 27 [.int .i64 1,.int .i64 1] (.ret (.agg [.bool false,.str [1],.str [1]]))):CO 28 [.int .i64 1] (.ret (.agg zcc4_17)):=pK [] 0 0 (.n 6 .nil) (.c a .nil)
theorem Eh:CO 26 [.int .i64 17] (.ret (.agg [.bool false,.str [],.str [],.int .i64 17])):=pK [] 0 0 (.n 5 .nil) (.nil)
theorem Ws:CO 26 [.int .i64 13] (.ret (.agg [.bool false,.str [],.str [],.int .i64 13])):=pK [] 0 0 (.n 5 .nil) (.nil)
theorem aa_ (v:Int) (h: -9223372036854775808≤v) (k:v<9223372036854775808):CO 48 [.int .i64 v] (.ret (qA (jY v))):=by
 by_cases h0:0≤v
 ·obtain ⟨x,rfl⟩:∃ x:Nat,v=(x:Int):=⟨v.toNat,by omega⟩
  have:=GN x (by omega)
  unfold jY
  rw [decide_eq_false (by omega),Int.natAbs_natCast]
  exact this
 ·obtain ⟨x,rfl⟩:∃ x:Nat,v= -((x:Int)+1):=⟨(-v - 1).toNat,by omega⟩
  have g:x<9223372036854775808:=by omega
  have e:=jQ x g
  have a:=jQ 1 (by omega)
  have j:(af x).length≤8:=dw (by omega)
  have i:(af 1).length≤8:=dw (by omega)
  have b:=Il (af x) (af 1) (by omega) (by omega)
  rw [aB,aB] at b
  have h:=adv (-((x:Int)+1)) (x+1) x
  have f:IntKind.wrap .i64 (-((x:Int)+1)+((1:Nat):Int))= -(x:Int):=by rw [bF]<;>omega
  have c:IntKind.wrap .i64 (0 - -(x:Int))=(x:Int):=by rw [bF]<;>omega
  rw [f,c] at h
  have d:=h (by simp only [lit,Bool.not_eq_true'];exact decide_eq_false (by omega)) e a b a
  unfold jY
  rw [decide_eq_true (by omega),show (-((x:Int)+1)).natAbs=x+1 by omega]
  exact d
theorem anG (v:Int) (h: -9223372036854775808≤v) (f:v<9223372036854775808):∃ w,Gu 66 w∧CO 27 [.int .i64 v,.int .i64 3] (.ret (qA w)):=by
 have i:=aa_ v h f
 have a:(jY v).neg=true→0<(jY v).n:=by intro h;simp only [jY,decide_eq_true_eq] at h ⊢;omega
 have g:(jY v).n<2^66:=by simp only [jY];omega
 have hd:(jY v).d=1:=rfl
 generalize jY v=w at*
 obtain ⟨c,b,k⟩:=w
 simp only at a g hd
 subst hd
 have ok:(⟨c,b,1⟩:RQ).ok:=vW a
 have v1:=Dz ok
 have k3:(⟨false,3,1⟩:RQ).ok:=vW (by simp)
 have e:=Dz k3
 have m:(af b).length≤9:=dw (by omega)
 have j:(af 1).length≤9:=dw (by omega)
 have n:(af 3).length≤9:=dw (by omega)
 have d:=abv c false (af b) (af 1) (af 3) (af 1) (by omega) (by omega) (by omega) (by omega) (by rw [e];decide)
 rw [v1,e] at d
 have o:=uS (!(c==false)) (b*1) (1*3)
 refine ⟨ui ⟨c,b,1⟩ ⟨false,3,1⟩,⟨Dk ok (by decide), ?_, ?_⟩,Rh v 3 ⟨c,b,1⟩ ⟨false,3,1⟩ _ i (GN 3 (by omega)) d⟩
 ·show (g_ (!(c==false)) (b*1) (1*3)).n<_;omega
 ·show (g_ (!(c==false)) (b*1) (1*3)).d<_;omega
theorem amM {n:Int} (h:(Lit.int .i64 n).wf=true): -9223372036854775808≤n:=by
 simp only [Lit.wf,Bool.and_eq_true,decide_eq_true_eq] at h
 exact h.1
theorem amL {n:Int} (h:(Lit.int .i64 n).wf=true):n<9223372036854775808:=by
 simp only [Lit.wf,Bool.and_eq_true,decide_eq_true_eq] at h
 exact Int.lt_of_le_of_lt h.2 (by decide)
def ifN:Nd:=⟨15,false,[],[],[]⟩
def SQ:Lk:=⟨6,zcc4_0,false,[],[],17⟩
def zW (E:dY):dY:=⟨E.ls++ [SQ],E.qs⟩
def wX (c:Nd) (a b:List Nd):List Nd:= [c]++a++b++ [ifN]
theorem H6 (c:Nd) (a b:List Nd):(wX c a b).length=((1+a.length)+b.length)+1:=by
 unfold wX;rw [List.length_append,List.length_append,List.length_append];rfl
theorem aao (c:Nd) (a b:List Nd):(List.take ((((1+a.length)+b.length)+1)*5) ((List.take (((1+a.length)+b.length)*5) ((List.take ((1+a.length)*5) ([.int .i64 c.op,.bool c.neg,.str c.num,.str c.den,.str c.name]++(aZ a)))++(aZ b)))++ [.int .i64 15,.bool false,.str [],.str [],.str []]))=aZ (wX c a b):=by
 rw [List.take_of_length_le (l:=([.int .i64 c.op,.bool c.neg,.str c.num,.str c.den,.str c.name]:List AV)++(aZ a)) (by rw [List.length_append,aN];simp;omega),List.take_of_length_le (l:=([.int .i64 c.op,.bool c.neg,.str c.num,.str c.den,.str c.name]:List AV)++(aZ a)++aZ b) (by rw [List.length_append,List.length_append,aN,aN];simp;omega),List.take_of_length_le (by rw [List.length_append,List.length_append,List.length_append,aN,aN];simp;omega)]
 unfold wX aZ
 rw [List.flatMap_append,List.flatMap_append,List.flatMap_append]
 rfl
theorem aap {F:dY} (i:F.sm) (c:Nd) (j:c.sm) {a b:List Nd} (f:∀ x ∈ a,x.sm) (g:∀ x ∈ b,x.sm) (m:a.length≤13) (k:b.length≤13):CO 25 [.agg [.int .i64 c.op,.bool c.neg,.str c.num,.str c.den,.str c.name],.pp [.sl (List.take (a.length*5) (aZ a)) a.length true] 0,.pp [.sl (List.take (b.length*5) (aZ b)) b.length true] 0,.pp [.sl (List.take (F.ls.length*6) (eU F.ls)) F.ls.length true,.sl (List.take ((F.qs.map Sq.c).length*4) (gZ (F.qs.map Sq.c))) (F.qs.map Sq.c).length true] 0] (.ret (fM (jX F (wX c a b)))):=by
 have h:=fD F false false true (e:=wX c a b) i (by
  intro x d
  unfold wX at d
  rcases List.mem_append.1 d with d|d
  ·rcases List.mem_append.1 d with d|d
   ·rcases List.mem_append.1 d with d|d
    ·exact List.mem_singleton.1 d ▸ j
    ·exact f x d
   ·exact g x d
  ·exact List.mem_singleton.1 d ▸ ⟨Nat.two_pow_pos 33,Nat.two_pow_pos 33⟩)
 rw [H6,← aao] at h
 rw [Ci,Ci,aaF,agO]
 exact afv c a b F.ls (F.qs.map Sq.c) _ (Nat.ble_eq_true_of_le (by omega)) (Nat.ble_eq_true_of_le (by rw [List.length_append,List.length_take,List.length_append,aN,aN];simp;omega)) (by rw [aN];exact Nat.beq_refl _) (Nat.ble_eq_true_of_le (by omega)) (Nat.ble_eq_true_of_le (by rw [List.length_append,aN];simp;omega)) (by rw [aN];exact Nat.beq_refl _) (Nat.ble_eq_true_of_le (by omega)) h
theorem WO {F:dY} {a b:List Nd} {t:Ty} (d:IG t a) (e:IG t b) {c:Nd} (h:aK c=0) (g:fG c.op=0):jX F (wX c a b)=IY (fE F c []) (jX F a) (jX F b):=by
 obtain ⟨_,i,_⟩:=d.tm.runs
 obtain ⟨_,rb,_⟩:=e.tm.runs
 have k:=d.ln
 have j:=e.ln
 refine Lc ?_ (fun st=> ?_)
 ·unfold dE
  rw [H6,if_neg (by omega)]
  unfold wX
  rw [List.append_assoc,List.append_assoc,List.singleton_append,uB h (by omega),i.chk,rb.chk,g]
  rfl
 ·unfold wX
  rw [jC,jC,jC]
  have f:=wC F (x:=c) (st:=st) (l:= []) (by rw [g];rfl)
  rw [List.append_nil] at f
  rw [f,d.tm.val (by omega) F,e.tm.val (by omega) F,List.append_assoc,List.append_assoc]
  exact wC F (x:=ifN) (st:=st) (l:= [fE F c [],jX F a,jX F b]) rfl
theorem Ky {f:Bool} {E:dY} (g:SA f E) {t:Ty} {e:List Nd} (hd:IG t e):jX (zW E) e=jX E e:=by
 refine Ou fun x h l=> ?_
 obtain ⟨i,d⟩:=hd.tm.names x h
 refine OX (E:=zW E) (F:=E) (x:=x) (fun b a=> ?_) (fun _=>rfl) l
 obtain ⟨s,hs⟩:=d (decide_eq_true (.inl ⟨b,a⟩))
 obtain ⟨y,u,c,_⟩:=afH g b a hs
 rw [WY,WY]
 show ((E.ls++ [SQ]).find? _).map lkV=_
 rw [List.find?_append,c]
 rfl
theorem Vl {d:Bool} {E:dY} (e:SA d E):fE (zW E) ⟨6,false,[],[],zcc4_0⟩ []= .err 17:=by
 unfold fE
 rw [if_neg (by decide),if_pos (by decide)]
 show (QK (E.ls++ [SQ]) 6 zcc4_0).getD _=_
 have b:E.ls.find? (OC 6 zcc4_0)=none:=by
  rw [List.find?_eq_none]
  intro x f a
  obtain ⟨s,hs,g,c,_⟩:=e.lk.get x f
  simp only [OC,Bool.and_eq_true,beq_iff_eq] at a
  have:∀ s ∈ sgK,s.name ≠ zcc4_0:=by decide
  exact this s hs (by rw [← c,← a.2])
 rw [WY,List.find?_append,b]
 rfl
theorem YG (b:Bool):(uj b).one=b:=by
 have a:af 0= []:=dI
 have c:af 1= [1]:=by kernel_rfl
 cases b<;>simp [uj,bR,Oq.one,Oq.n,Oq.a,Oq.d,a,c]
theorem CX (b:Bool) (x y:Oq):IY (uj b) x y=if b then x else y:=by
 unfold IY
 rw [if_pos (show (uj b).e=0 from rfl),YF,if_pos rfl,YG]
theorem r11:CO 27 [.int .i64 1,.int .i64 1] (.ret (.agg [.bool false,.str [1],.str [1]])):=kC (qF 1 1 (by decide) (by decide) (by decide) (by decide)) (by kernel_rfl)
theorem r01:CO 27 [.int .i64 0,.int .i64 1] (.ret (.agg [.bool false,.str [],.str [1]])):=kC (qF 0 1 (by decide) (by decide) (by decide) (by decide)) (by kernel_rfl)
theorem alq (r o n:List Int) (q v:Int) (hv: -9223372036854775808≤v) (T:v<9223372036854775808) (ha:r.length<2^63) (hb:o.length<2^63) (Y:n.length<2^63):CO 8 [.agg [.sl (iL r) r.length false,.sl (iL o) o.length false,.sl (iL n) n.length false],.int .u8 q,.int .i64 v] (.ret (.bool true)):=by
 obtain ⟨t,ht,ck⟩:=afA (IntKind.wrap .i64 q)
 obtain ⟨a,f,ca⟩:=KN q t ht r ha
 obtain ⟨b,d,cb⟩:=KN q t ht o hb
 obtain ⟨E,s,cE⟩:=aeT true true false n Y
 have O:=KO ck ca cE
 have R:=KO ck cb cE
 have A:=s.sm
 have P:E.ls.length=10:=by rw [s.lk.len];rfl
 have hF:(zW E).sm:=⟨by show (E.ls++ [SQ]).length<_;rw [List.length_append,P];decide,A.qs,(by
  intro x u
  rcases List.mem_append.1 u with u|u
  ·exact A.lk x u
  ·exact List.mem_singleton.1 u ▸ ⟨by decide,by decide⟩),A.sq⟩
 have D:=fD E true true true (e:=a) A f.sm
 have J:=fD E true true true (e:=b) A d.sm
 rw [← Ci,← aaF,← agO] at D J
 obtain ⟨w,p,Q⟩:=anG v hv T
 have I:=fun (c:Nd) (Y:c.sm)=>aap hF c Y f.sm d.sm f.ln d.ln
 have z:=fun (c:Nd) (p:aK c=0) (h0:fG c.op=0)=>WO (F:=zW E) f d p h0
 rw [Ky s f,Ky s d] at z
 have G:=I ⟨4,false,[1],[1],[]⟩ ⟨by decide,by decide⟩
 rw [z ⟨4,false,[1],[1],[]⟩ (by kernel_rfl) rfl,show fE (zW E) ⟨4,false,[1],[1],[]⟩ []=uj true by kernel_rfl,CX,if_pos rfl] at G
 have K:=I ⟨4,false,[],[1],[]⟩ ⟨by decide,by decide⟩
 rw [z ⟨4,false,[],[1],[]⟩ (by kernel_rfl) rfl,show fE (zW E) ⟨4,false,[],[1],[]⟩ []=uj false by kernel_rfl,CX,if_neg Bool.false_ne_true] at K
 have L:=I ⟨6,false,[],[],zcc4_0⟩ ⟨by decide,by decide⟩
 rw [z ⟨6,false,[],[],zcc4_0⟩ (by kernel_rfl) rfl,Vl s] at L
 have i:=I ⟨3,w.neg,af w.n,af w.d,[]⟩ ⟨Nat.lt_trans (dX p.2.1 (by omega)) (by decide),Nat.lt_trans (dX p.2.2 (by omega)) (by decide)⟩
 have fw:=og p (by omega)
 have wq:aK ⟨3,w.neg,af w.n,af w.d,[]⟩=0:=by
  have e:jg ⟨3,w.neg,af w.n,af w.d,[]⟩=true:=by
   show fA w.neg (af w.n) (af w.d)=true
   unfold fA
   rw [oD w p.1,aB,aB]
   simpa [jM] using fw
  unfold aK
  rw [e]
  rfl
 rw [z ⟨3,w.neg,af w.n,af w.d,[]⟩ wq rfl,show fE (zW E) ⟨3,w.neg,af w.n,af w.d,[]⟩ []= .val w by
  show CE w.neg (af w.n) (af w.d) 0=_
  rw [zA p.1];unfold pM;rw [if_pos fw]] at i
 have g:af 1= [1]:=by kernel_rfl
 have C:af 0= []:=dI
 have m:(List.take (E.ls.length*6) (eU E.ls))++ zcc4_14=eU (zW E).ls:=by
  rw [aaF]
  show _=eU (E.ls++ [SQ])
  unfold eU
  rw [List.flatMap_append]
  rfl
 have j:AV.ref 9 1 0 (E.ls.length+1)=AV.ref 9 1 0 (zW E).ls.length:=by
  show _=AV.ref 9 1 0 (E.ls++ [SQ]).length
  rw [List.length_append];rfl
 have n1:Nat.ble (E.ls.length+1) 1099511627776=true:=Nat.ble_eq_true_of_le (by omega)
 have V:Nat.ble (E.ls.length*6) (List.length (eU E.ls))=true:=Nat.ble_eq_true_of_le (by rw [vZ];exact Nat.le_refl _)
 have N:Nat.ble (List.length (eU E.ls)) (E.ls.length*6)=true:=Nat.ble_eq_true_of_le (by rw [vZ];exact Nat.le_refl _)
 generalize jX E a=x at*
 generalize jX E b=y at*
 by_cases w1:w=bR true
 ·subst w1
  rw [show Oq.val (bR true)=uj true from rfl,CX,if_pos rfl] at i
  rw [show af (bR true).n= [1] from g,show af (bR true).d= [1] from g] at i
  have k:CO 27 [.int .i64 v,.int .i64 3] (.ret (.agg [.bool false,.str [1],.str [1]])):=by
   have:=Q;unfold qA at this;rw [show af (bR true).n= [1] from g,show af (bR true).d= [1] from g] at this;exact this
  exact alr r o n q v a b E (zW E).ls x y j m (stO x) (sfO y) (sfO x) n1 V N AX O R D J Eh k (PT r11) G (PQ r01) K L i r11
 ·by_cases w0:w=bR false
  ·subst w0
   rw [show Oq.val (bR false)=uj false from rfl,CX,if_neg Bool.false_ne_true] at i
   rw [show af (bR false).n= [] from C,show af (bR false).d= [1] from g] at i
   have k:CO 27 [.int .i64 v,.int .i64 3] (.ret (.agg [.bool false,.str [],.str [1]])):=by
    have:=Q;unfold qA at this;rw [show af (bR false).n= [] from C,show af (bR false).d= [1] from g] at this;exact this
   exact alu r o n q v a b E (zW E).ls x y j m (stO y) (sfO y) (sfO x) n1 V N AX O R D J Eh k (PT r11) G (PQ r01) K L i r11 r01
  ·have key:∀ b:Bool,w.neg=false→af w.n=af (bR b).n→af w.d=af 1→w=bR b:=by
    intro b h1 h2 h3
    have Z:=congrArg ah h2
    have M:=congrArg ah h3
    rw [aB,aB] at Z M
    obtain ⟨p1,p2,p3⟩:=w
    simp only at h1 Z M
    rw [h1,Z,M]
    cases b<;>rfl
   have U:((w.neg==false) && (((af w.n)== []) && (((af w.d)== [1]) && true)))=false:=by
    rw [Bool.eq_false_iff]
    intro h
    simp only [Bool.and_eq_true,beq_iff_eq,and_true] at h
    exact w0 (key false h.1 (h.2.1.trans C.symm) (h.2.2.trans g.symm))
   have X:((w.neg==false) && (((af w.n)== [1]) && (((af w.d)== [1]) && true)))=false:=by
    rw [Bool.eq_false_iff]
    intro h
    simp only [Bool.and_eq_true,beq_iff_eq,and_true] at h
    exact w1 (key true h.1 (h.2.1.trans g.symm) (h.2.2.trans g.symm))
   have B:(Oq.val w).bit=false:=by
    unfold Oq.bit Oq.one
    rw [g,C]
    show (((w.neg==false) && (((af w.n)== [1]) && (((af w.d)== [1]) && true)))||((w.neg==false) && (((af w.n)== []) && (((af w.d)== [1]) && true))))=false
    rw [U,X]
    rfl
   rw [show IY (Oq.val w) x y= .err 13 by unfold IY;rw [if_pos (show (Oq.val w).e=0 from rfl),B,if_neg Bool.false_ne_true]] at i
   exact alv r o n q v a b E (zW E).ls x y w j m (by rw [U];rfl) (by rw [X];rfl) (by rw [U];rfl) (by rw [X];rfl) (sfO y) (sfO x) n1 V N AX O R D J Eh Q (PT r11) G (PQ r01) K L i r11 r01 r11 r01 Ws
end Go.Proofs.Tryz
set_option maxRecDepth 100000
open Go AM Go.ChangeShapes Go.WideShapes Go.ChangeAt Go.RowKit
namespace Go.Proofs.Tryz
noncomputable def EK (t:TypeId) (d:DataW Unit):List Lit:=((mf prog 6 t d 0).getD []).map (·.2)
open Go.Proofs.YtdmfgmmooalfnaaGreatDoor
def WS:List (String × DataW Unit):= [("unicode/utf8.acceptRanges",Rows.laid_unicode_utf8_acceptRanges),("tithing/expr.table",Rows.laid_tithing_expr_table),("unicode/utf8.first",Rows.laid_unicode_utf8_first)]
theorem Ua:WS.filter (fun x=>x.2.handleName?.isSome)= []:=by kernel_rfl
theorem ai0 {W:World} (h:laidMetH prog WS W):U7 ap W:=by
 have c (i:Nat) (n:String) (d:DataW Unit) (hm:WS[i]? =some (n,d)) (g:Nat) (t:TypeId) (hg:prog.globalNamed n=some g) (ht:(prog.globals[g]?).map (·.type)=some t)
   (hl:mf prog 6 t d 0=some ((EK t d).zipIdx.map fun (l,i)=>(i,l))):=OE h Ua (List.mem_of_getElem? hm) hg ht hl
 have b:=c 1 _ _ rfl 0 108 (by kernel_rfl) (by kernel_rfl) (by kernel_rfl)
 have e:=c 0 _ _ rfl 6 244 (by kernel_rfl) (by kernel_rfl) (by kernel_rfl)
 have key (k:Nat) (t:TypeId) (d:DataW Unit) (hx:(ap.gl[k]?).join=some ((EK t d).map LC)) (ho:(EK t d).all EJ=true) (hc:∀ (j:Nat) (l:Lit),(EK t d)[j]? =some l→W.cell? ⟨k,j,none⟩=some (qB l)):
   ∀ xs,(ap.gl[k]?).join=some xs→∃ ls:List Lit,xs=ls.map LC∧ls.all EJ=true∧∀ (j:Nat) (l:Lit),ls[j]? =some l→W.cell? ⟨k,j,none⟩=some (qB l):=by
  intro xs a
  rw [hx] at a
  cases a
  exact ⟨_,rfl,ho,hc⟩
 intro k
 match k with
 |0=>exact key 0 _ _ (by kernel_rfl) (by kernel_rfl) b
 |1=>intro xs a;exact absurd (show (none:Option (List AV))=some xs from a) (by simp)
 |2=>intro xs a;exact absurd (show (none:Option (List AV))=some xs from a) (by simp)
 |3=>intro xs a;exact absurd (show (none:Option (List AV))=some xs from a) (by simp)
 |4=>intro xs a;exact absurd (show (none:Option (List AV))=some xs from a) (by simp)
 |5=>intro xs a;exact absurd (show (none:Option (List AV))=some xs from a) (by simp)
 |6=>exact key 6 _ _ (by kernel_rfl) (by kernel_rfl) e
 |7=>intro xs a;exact absurd (show (none:Option (List AV))=some xs from a) (by simp)
 |k+8=>
  intro xs a
  have:ap.gl.length=8:=by kernel_rfl
  rw [List.getElem?_eq_none (by omega)] at a
  cases a
theorem own:ownKnob prog.godebug=none:=by kernel_rfl
theorem alR:laidOutB prog=true:=by kernel_rfl
noncomputable def agP (t:TypeId) (d:DataW Unit):Obj→Obj
 | .cells _ t' fr=> .cells ((EK t d).map qB).toArray t' fr
 |o=>o
noncomputable def ahe (os:Os):World:=
 let w:=World.holding prog os ⟨#[],#[],[]⟩
 {w with heap:=((w.heap.modify 0 (agP 108 Rows.laid_tithing_expr_table)).modify 5 (agP 241 Rows.laid_unicode_utf8_first)).modify 6 (agP 244 Rows.laid_unicode_utf8_acceptRanges)}
end Go.Proofs.Tryz
set_option maxRecDepth 100000
set_option linter.unusedVariables false
open Go AM Go.ChangeShapes Go.WideShapes Go.ChangeAt Go.RowKit
namespace Go.Proofs.Tryz
section
variable {H:Type} {enc:TypeId × Value→H} {W:World} {base:Nat}
theorem ai5 {x:List Value} (h:fO [.int .i64] x):∃ a:Int,x.map rZ= [AV.int .i64 a]:=by
 rcases h with _|@⟨_,a,_,_,h⟩|_|_
 cases h
 exact ⟨a,rfl⟩
theorem aal (l:List Int):(l.flatMap fun a=> [AV.int .i64 a])=iL l:=by
 induction l with
 |nil=>rfl
 |cons a r ih=>rw [List.flatMap_cons,ih];rfl
theorem u45:prog.underlying 45=some (.slice 3):=by kernel_rfl
theorem XD {v:Value} {d:DataW H} {p:List MemPlace} (f:Value.okWide prog W .any base 45 v) (h:DataW.Trod enc prog W 0 (fun _=>true) true 45 v d p):
  ∃ xs:List Int,xs.length<2^63∧PR (lL W) (.sl (iL xs) xs.length false) v:=by
 obtain ⟨L0,q,b⟩:=XE (t:=45) (e:=3) (n:=4) (ks:= [.int .i64]) u45 (by kernel_rfl) (by kernel_rfl) f h
 obtain ⟨xs,j,k⟩:=TK (fun a:Int=> [AV.int .i64 a]) (L:=L0) (fun x r=>ai5 (q x r))
 rw [j,k,aal] at b
 refine ⟨xs, ?_,b⟩
 obtain ⟨o,len,i,rfl⟩:=okWide_slice u45 f
 have g:xs.length=len:=by
  simp only [PR] at b
  obtain ⟨a,c,m,_⟩:=b
  cases m
  rfl
 simp only [Value.okWide,u45,Cell.okWide,Cell.ok] at f
 have s:IntKind.i64.max=9223372036854775807:=rfl
 cases o with
 |none=>
  cases len with
  |zero=>omega
  |succ n=>simp at f
 |some a=>
  simp only at f
  omega
def a3A (la lb lc:List Int):AV:= .agg [.sl (iL la) la.length false,.sl (iL lb) lb.length false,.sl (iL lc) lc.length false]
theorem IW {t:TypeId} {n:Nat} {ts:List TypeId} (a:prog.underlying t=some (.array n 45)) (b:prog.cellTypes prog.depth t=some ts) {d:Array Value} (f:Value.okWide prog W .any base t (.agg d)) {i:Nat} {u:Value} (k:ts[i % ts.length]? =some 45) (j:d[i]? =some u) {m:Nat} {y:DataW H × List MemPlace} (g:DataW.trod enc prog W 0 (fun _=>true) true m 45 [u]=some y):
  ∃ xs:List Int,xs.length<2^63∧PR (lL W) (.sl (iL xs) xs.length false) u:=by
 have c:=Uh (u:=45) (e:=3) u45 (L6 (ts:=ts) (u:=45) (.inr ⟨_,_,a⟩) b f (i:=i) (v:=u) j k)
 have h:=MV (e:=3) u45 c
 have a:DataW.Trod enc prog W 0 (fun _=>true) true 45 u y.1 y.2:=⟨m,by rw [h];exact g⟩
 exact XD c a
theorem alX {t:TypeId} (c:prog.underlying t=some (.array 3 45)) (a:prog.cellTypes prog.depth t=some [45,45,45]) (x:prog.cellsOf t=3) {v:Value} {d:DataW H} {p:List MemPlace} (g:Value.okWide prog W .any base t v) (h:DataW.Trod enc prog W 0 (fun _=>true) true t v d p):
  ∃ j f e:List Int,j.length<2^63∧f.length<2^63∧e.length<2^63∧PR (lL W) (a3A j f e) v:=by
 have b:=g
 simp only [Value.okWide,c] at b
 obtain ⟨C,rfl,m,_⟩:=b
 obtain ⟨o,h⟩:=h
 obtain ⟨cl⟩:=C
 have k:cl.length=3:=m.trans x
 match cl,k with
 | [u0,u1,u2],_=>
 obtain ⟨D,G,F,n,_,B,z,w⟩:=trod_array3 c (show prog.cellsOf 45=1 by kernel_rfl) h
 obtain ⟨j,A,s⟩:=IW c a g (i:=0) rfl rfl B
 obtain ⟨f,u,y⟩:=IW c a g (i:=1) rfl rfl z
 obtain ⟨e,q,r⟩:=IW c a g (i:=2) rfl rfl w
 refine ⟨j,f,e,A,u,q, ?_⟩
 unfold a3A
 rw [PR]
 exact ⟨[u0,u1,u2],rfl,by rw [dV,dV,dV,dV];exact ⟨s,y,r,trivial⟩⟩
end
end Go.Proofs.Tryz
