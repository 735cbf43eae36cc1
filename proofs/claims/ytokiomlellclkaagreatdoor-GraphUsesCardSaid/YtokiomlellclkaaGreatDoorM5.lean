/- The abstract machine over the code of the model, and the proof that it is sound. No conditions. -/
import Derived.Test.YtokiomlellclkaaGreatDoorM4
import Derived.ChangeArms
import Derived.WideShapes
import Derived.Deep.Strs
import Derived.Maps.RangeRun
import Derived.Laws.IdiomRangeMap
import Derived.WideKeyEntry
import Derived.Maps.AppendAt
set_option linter.unusedSimpArgs false
set_option linter.unusedVariables false
open Nat renaming beq→υ,le_refl→ζ,add_zero→Xqo,lt_of_lt_of_le→Xqf,beq_refl→Xq3,eq_of_beq_eq_true→Xqq,le_trans→Xqg,eq_zero_or_pos→Xq1,zero_mul→Xj3,lt_trichotomy→Xxx,ne_of_lt→Xzw,zero_le→Xqr,lt_irrefl→Xjh,zero_add→Θ
open List renaming map_cons→φ,append_nil→ο,mem_of_getElem?→χ,isEmpty_iff→Xwd,map→Xvv,drop→ε,getElem?_drop→Xxr,getElem?_take→Xq9,all_cons→Xxu,length_append→ξ,take_add→Xkj,drop_drop→Xx7,flatten_cons→Xjd,getElem?_eq_getElem→ν,getElem_mem→Xx1,getElem?_append→Xwq,flatten_append→Xzq,flatten_nil→Xvr,eq_nil_of_length_eq_zero→Xxe,range→Xqd,flatMap_map→Xzi,getElem?_map→Ξ,mem_filter→Xxg,getElem?_of_mem→Xxs,mem_toArray→Xvs,mem_map→Xvi,mem_reverse→Xvt,getElem_map→Xzj,toList_toArray→Xxz,length_cons→Γ,cons_append→Xqt,nil_append→θ,ext_getElem?→Xxk,getElem?_modify→Xjy,mem_cons→Xqs,length→κ,getElem?_set→Xjv,getElem?_append_left→Xqc,map_append→Xxa,set_cons_succ→Xzv,take_set→Xkk,reverse_cons→Xju,reverse_reverse→Xjw
open Option renaming getD_some→Xxd,map_some→Xqu
open Bool renaming and_eq_true→δ,not_eq_true'→Xqi
namespace AM
open Go
structure aI (s s':St):Prop where
 env:∀ t,s.env.get t=s'.env.get t∨s.env.get t= .dead
 hp:s.hp=s'.hp
 md:s.md=s'.md
 dfs:s.dfs=s'.dfs
theorem aI.refl (s:St):aI s s:=⟨fun _=> .inl rfl,rfl,rfl,rfl⟩
def KT:dK→(Nat→AV)→Prop
 | [],_=>True
 |(t,v)::r,f=>(f t=v)∧KT r f
theorem vJ {f:Nat→AV}:∀ {e:dK},KT e f→∀ t,e.get t=f t∨e.get t= .dead
 | [],_,t=> .inr rfl
 | (u,v)::r,h,t=>by
  simp only [KT] at h;simp only [dK.get,ah];cases a:υ u t with
  |true=>
   have:=aA a;subst this;exact .inl h.1.symm
  |false=>exact vJ h.2 t
theorem aI.of {e e':dK} {hp:Hp} {md:AV} {dfs:List (Nat × List AV)} (h:KT e e'.get):aI {env:=e,hp,md,dfs} {env:=e',hp,md,dfs}:=⟨vJ h,rfl,rfl,rfl⟩
section
variable {P:Program} {ap:AP} {H:bG}
theorem FR.less {s s':St} (h:aI s s') {nt:Nat} {m:aH} {S:az} {w:World} {a:Act} (b:FR ap s'.env s'.hp s'.dfs nt m S w a):FR ap s.env s.hp s.dfs nt m S w a:=by
 refine ⟨h.hp ▸ b.srel,fun t=> ?_, ?_,b.size⟩
 ·rcases h.env t with e|e
  ·rw [e,h.hp];exact b.env t
  ·rw [e];simp [VR]
 ·rw [h.hp,h.dfs];exact b.dfs
theorem ak.weak {h0:List aP} {nt:Nat} {b:Code} {s s' r j:St} {e:aY} (h:ak P ap h0 nt b s e r) (hs:aI s s') (c:aI j r):ak P ap h0 nt b s' e j:=by
 intro f;obtain ⟨n,p⟩:=h (hs.md ▸ f);refine ⟨c.md ▸ n,fun m0 S0 w0 m S w a d o Q k=>p m0 S0 w0 m S w a (by rw [hs.hp];exact d) (o.less hs) Q ?_⟩;intro q S' w' a' l t;have:=k q S' w' a' (by rw [c.hp];exact l) (t.less c);cases e with
 |normal=>exact this
 |exit id=>exact this
 |ret=>exact this
 |panic v=>intro cv i;exact this cv (by rw [c.hp];exact i)
inductive aJ (P:Program) (ap:AP) (h0:List aP) (nt:Nat) (b:Code) {α β:Type} (e:β→aY) (st:α→St) (out:β→St):α→β→Prop where
 |done {a:α} {r:β}:ak P ap h0 nt b (st a) (e r) (out r)→aJ P ap h0 nt b e st out a r
 |next {a a':α} {r:β}:ak P ap h0 nt b (st a) .normal (st a')→aJ P ap h0 nt b e st out a' r→aJ P ap h0 nt b e st out a r
theorem aJ.rounds {h0:List aP} {nt:Nat} {b:Code} {α β:Type} {e:β→aY} {st:α→St} {out:β→St} {a:α} {r:β} (d:e r ≠ .normal) (h:aJ P ap h0 nt b e st out a r):(st a).md= .dead→(out r).md= .dead∧∃ n,∀ m0 S0 w0 m S w c,Fr (aF h0) m0 S0 w0 (ah (st a).hp) m S w→FR ap (st a).env (st a).hp (st a).dfs nt m S w c→∀ Q,XA ap h0 m0 S0 w0 nt (out r) (e r) Q→Code.rounds P b Q n c w:=by
 induction h with
 |@done a r hx=>
  intro i;obtain ⟨p,q⟩:=hx i;refine ⟨p,1,fun m0 S0 w0 m S w c f k Q o=>q m0 S0 w0 m S w c f k _ ?_⟩;intro l S' w' a' j s;have:=o l S' w' a' j s
  revert d this
  cases e r with
  |normal=>intro d _;exact absurd rfl d
  |exit id=>intro _ h;exact h
  |ret=>intro _ h;exact h
  |panic v=>intro _ h;exact h
 |next hx _ ih=>
  intro i;obtain ⟨p,q⟩:=hx i;obtain ⟨j,n,s⟩:=ih d p;refine ⟨j,n+1,fun m0 S0 w0 m S w c f k Q o=>q m0 S0 w0 m S w c f k _ ?_⟩;intro l S' w' a' t u;exact s m0 S0 w0 l S' w' a' t u Q o
theorem aJ.ok {h0:List aP} {nt:Nat} {b:Code} {α β:Type} {e:β→aY} {st:α→St} {out:β→St} {a:α} {r:β} (i:e r ≠ .normal) (h:aJ P ap h0 nt b e st out a r):ak P ap h0 nt (.loop b) (st a) (e r) (out r):=by
 intro f;obtain ⟨k,n,o⟩:=h.rounds i f;exact ⟨k,fun m0 S0 w0 m S w c d l Q j=>wp_loop_rounds n (o m0 S0 w0 m S w c d l Q j)⟩
theorem aJ.blk {h0:List aP} {n id:Nat} {b:Code} {α β:Type} {e:β→aY} {st:α→St} {out:β→St} {a:α} {r:β} {s s':St} {e':aY} (h:∀ nt,n≤nt→aJ P ap h0 nt b e st out a r) (c:e r ≠ .normal) (f:uV id (e r)=e') (hs:aI (st a) s) (j:aI s' (out r)):bg P ap h0 n (.block id (.loop b)) s e' s':=by
 intro nt i;have d:=((h nt i).ok c).block (id:=id);rw [f] at d;exact d.weak hs j
def lQ (id:Nat):Code→Option Code
 | .seq a b=>match lQ id a with|some c=>some c|none=>lQ id b
 | .cond _ a b=>match lQ id a with|some c=>some c|none=>lQ id b
 | .block i b=>match υ i id with|true=>some b|false=>lQ id b
 | .loop b=>lQ id b
 | .scope b=>lQ id b
 |_=>none
def au (id:Nat) (c:Code):Code:=match lQ id c with|some (.loop b)=>b|_=> .skip
def f_ (id:Nat):Code→Code
 | .seq a b=>match f_ id a with| .region i o d=> .region i o d|_=>f_ id b
 | .cond _ a b=>match f_ id a with| .region i o d=> .region i o d|_=>f_ id b
 | .block _ b=>f_ id b
 | .loop b=>f_ id b
 | .scope b=>f_ id b
 | .region i o d=>match υ i id with|true=> .region i o d|false=> .skip
 |_=> .skip
end
end AM
namespace AM
open Go
def sS (x y:List AV):Prop:=∀ g m S v,aU g m S x v→aU g m S y v
def rU:AV→Bool
 | .own _ _ _=>false
 | .tup _=>false
 |_=>true
theorem sS.refl (x:List AV):sS x x:=fun _ _ _ _ h=>h
theorem sS.nil:sS [] []:=sS.refl []
theorem sS.cons {x y:AV} {l r:List AV} (h:bF x y) (b:sS l r):sS (x::l) (y::r):=by
 intro g m S v a;cases v with
 |nil=>simp [aU] at a
 |cons u vs=>simp only [aU] at a ⊢;exact ⟨h g m S u a.1,b g m S vs a.2⟩
theorem bF.nilS (a:Bool) (h:a=false):bF .nilS (.sl [] 0 a):=by
 subst h;intro g m S v b;simp only [VR,PR] at b ⊢;exact ⟨none,0,b,ζ _,.inl (by simp)⟩
theorem bF.sl (d:List AV) (n:Nat) (a:Bool):bF (.sl d n a) (.sl d n false):=by
 intro g m S v f;simp only [VR,PR] at f ⊢;obtain ⟨a,b,e,c,q⟩:=f;refine ⟨a,b,e,c, ?_⟩;rcases q with ⟨_,h,i⟩|q
 ·exact .inl ⟨fun _=>trivial,h,i⟩
 ·exact .inr q
theorem bF.dead (x:AV):bF x .dead:=fun _ _ _ _ _=>by simp only [VR]
theorem bF.agg {l r:List AV} (h:sS l r):bF (.agg l) (.agg r):=by
 intro g m S v a;simp only [VR] at a ⊢;obtain ⟨vs,e,q⟩:=a;exact ⟨vs,e,h _ _ _ _ q⟩
section
variable {P:Program} {ap:AP}
theorem af.args {f:Nat} {args args':List AV} {h b:List aP} {out:gK} (c:sS args' args) (a:af P ap f args h out b):af P ap f args' h out b:=
 ⟨a.len,a.ent,fun m S w cargs d e=>a.calls m S w cargs d (c _ _ _ _ e)⟩
def je (out out':gK):Prop:=(∀ n,iE n out=iE n out')∧∀ h' m' S' e,TV h' m' S' out e→TV h' m' S' out' e
theorem af.out {f:Nat} {args:List AV} {h d:List aP} {out a:gK} (c:je out a) (b:af P ap f args h out d):af P ap f args h a d:=
 ⟨b.len,b.ent,fun m S w cargs i j=>(b.calls m S w cargs i j).mono fun e w' ⟨m',S',hF⟩=> ⟨m',S',c.1 _ ▸ hF.srel,c.1 _ ▸ hF.fr,c.2 _ _ _ _ hF.out⟩⟩
theorem rV {x:AV} (h:rU x=true):∀ a k e,x ≠ .own a k e:=by intro a k e b;subst b;cases h
theorem rW {x:AV} (h:rU x=true):∀ l,x ≠ .tup l:=by intro l a;subst a;cases h
theorem je.ret {x y:AV} (b:rU x=true) (a:rU y=true) (h:bF x y):je (.ret x) (.ret y):=by
 refine ⟨fun n=> ?_,fun i j S' e d=> ?_⟩
 ·simp only [iE,gW n (rV b) (rW b),gW n (rV a) (rW a)]
 ·obtain ⟨cv,f,c⟩:=d;refine ⟨cv,f, ?_⟩;rw [jD (rV b) (rW b)] at c;rw [jD (rV a) (rW a)];exact h _ _ _ _ c
inductive Pj:List AV→List AV→Prop where
 |nil:Pj [] []
 |same {x:AV} {l r:List AV}:Pj l r→Pj (x::l) (x::r)
 |fit {x y:AV} {l r:List AV}:rU x=true→rU y=true→bF x y→Pj l r→Pj (x::l) (y::r)
end
end AM
namespace AM
open Go
def thaw:AV→AV
 | .own xs n e=> .sl (xs.take (n*e)) n true
 |x=>x
def qg:gK→gK
 | .ret (.tup l)=> .ret (.tup (l.map thaw))
 | .ret x=> .ret (thaw x)
 | .pan v=> .pan v
theorem CG {x:AV} (h:∀ xs k e,x ≠ .own xs k e):thaw x=x:=by
 cases x<;>first|rfl|exact absurd rfl (h _ _ _)
theorem nZ (x:AV):∀ a k e,thaw x ≠ .own a k e:=by
 intro a k e h;cases x<;>simp [thaw] at h
theorem uJ:∀ (l:List AV) (n:Nat),(eF n (l.map thaw)).2= []
 | [],_=>rfl
 |x::r,n=>by rw [φ,bM n (nZ x)];exact uJ r n
section
variable {P:Program} {ap:AP}
theorem xh {gh gf g':bJ} {m:aH} {S S':az} {w:World} (o:bf ap gf m S w) {rd:bJ} (c:∀ b B,rd b=some B→gf b=some B) (d:S'=bU S m rd w) (hother:∀ x v,VR gh m S x v→VR g' m S' x v):
  ∀ (l:List AV) (n:Nat) (vs:List Value),(∀ i B,(eF n l).2[i]? =some B→rd (n+i)=some B)→gQ gh gf m S n l vs→gQ g' g' m S' n (l.map thaw) vs
 | [],n,vs,_,h=>by cases vs with|nil=>trivial|cons _ _=>simp [gQ] at h
 |x::r,n,[],_,h=>by
  exfalso;rcases jm x with ⟨j,k,e,rfl⟩|f
  ·simp [gQ] at h
  ·cases x<;>simp [gQ] at h
 | x ::r,n,v::vs,hb,h=>by
  rcases jm x with ⟨j,k,e,rfl⟩|f
  ·simp only [gQ] at h;simp only [eF] at hb;have h0:=hb 0 _ rfl;rw [Xqo] at h0;have A:frz rd 6 (.ref n 0 0 k)=some (.sl (j.take (k*e)) k true):=by
    simp [frz,h0,xk]
   have t:=iZ o c 6 _ _ _ A h.1;rw [φ,cZ (nZ _)];refine ⟨dQ _ (d ▸ t), ?_⟩;have D:=xh o c d hother r (n+1) vs (fun i B C=>by rw [show n+1+i=n+(i+1) by omega];exact hb (i+1) B (by simpa using C)) h.2;have key:∀ (l:List AV) (a b:Nat) (vs:List Value),(∀ x ∈ l,∀ j k e,x ≠ .own j k e)→gQ g' g' m S' a l vs→gQ g' g' m S' b l vs:=by
    intro l
    induction l with
    |nil=>intro a b vs _ h;cases vs with|nil=>trivial|cons _ _=>simp [gQ] at h
    | cons y q ih=>
     intro a b vs s h;cases vs with
     |nil=>cases y<;>simp [gQ] at h
     |cons u us=>
      have p:=s y (by simp);rw [cZ p] at h ⊢;exact ⟨h.1,ih a b us (fun x f=>s x (by simp [f])) h.2⟩
   refine key _ (n+1) n vs ?_ D;intro y p;obtain ⟨z,_,rfl⟩:=List.mem_map.1 p;exact nZ z
  ·rw [cZ f] at h;rw [bM n f] at hb;rw [φ,cZ (nZ x),CG f];exact ⟨hother _ _ h.1,xh o c d hother r n vs hb h.2⟩
theorem af.thaw {f:Nat} {args:List AV} {h a:List aP} {out:gK} (hp:∀ B ∈ a,B.pr=true) (I:af P ap f args h out a):af P ap f args h (qg out) a:=by
 refine ⟨I.len,I.ent,fun m S w cargs Y D=>(I.calls m S w cargs Y D).mono ?_⟩
 rintro e w' ⟨m',S',hF⟩
 obtain ⟨s,j,z⟩:=hF;have y:∀ n,iE n (qg out)= []:=by
  intro n;cases out with
  |pan v=>rfl
  | ret x=>
   rcases xB x with ⟨l,rfl⟩|ht
   ·simp only [qg,iE,iR];exact uJ l n
   ·have:qg (.ret x)= .ret (AM.thaw x):=by cases x<;>first|rfl|exact absurd rfl (ht _)
    rw [this];simp only [iE];have C:∀ l,AM.thaw x ≠ .tup l:=by intro l L;cases x<;>simp [AM.thaw] at L;exact ht _ rfl
    rw [gW n (nZ x) C]
 let rd:bJ:=fun b=>if a.length≤b then aF (a++iE a.length out) b else none
 have u:∀ b B,rd b=some B→aF (a++iE a.length out) b=some B:=by
  intro b B c;simp only [rd] at c;split at c
  ·exact c
  ·cases c
 have r:=jJ S' m' rd w';have d:∀ b B,aF a b=some B→aF (a++iE a.length out) b=some B:=by
  intro b B c;have:b<a.length:=(List.getElem?_eq_some_iff.1 c).1;rw [dL this];exact c
 have hother:∀ x v,VR (aF a) m' S' x v→VR (aF (a++iE a.length (qg out))) m' (bU S' m' rd w') x v:=by
  intro x v F;rw [y,ο];exact jO r (Ge.refl _ _) x F
 refine ⟨m',bU S' m' rd w', ?_, ?_, ?_⟩
 ·rw [y,ο];refine ⟨fun b A B B' c R=>s.inj b A B B' (d b B c) (d A B' R), ?_,fun k o v D=>jX s D, ?_, ?_⟩
  ·intro b B c;obtain ⟨⟨cur,e,vs,rest,p,t,G,T,J,h6⟩,W,Q⟩:=s.blk b B (d b B c);have K:=hp B (χ c);refine ⟨⟨cur,e,vs,rest,p,t,fun _=>aV r _ (G K),aZ _ (aV r _ (G K)),J,h6⟩,W,Q⟩
  ·intro b B c o v D;rcases dW D with p|⟨p,A,B',t,G,T⟩
   ·exact s.own b B (d b B c) o v p
   ·have:=s.inj b A B B' (d b B c) (u _ _ t) G.symm;subst this;have E:b<a.length:=(List.getElem?_eq_some_iff.1 c).1;simp only [rd] at t;rw [if_neg (by omega)] at t;cases t
  ·intro k O hk;obtain ⟨vs,p,t⟩:=s.glob k O hk;exact ⟨vs,aV r _ p,t.mono r⟩
 ·rw [y,ο];refine ⟨?_,ig.trans j.sle r,j.os,j.tape,j.output,j.size,j.rest,fun b B c=>j.img b B (d b B c), ?_,fun b B c=>j.mw b B (d b B c)⟩
  ·intro b B c;obtain ⟨B',p,t⟩:=j.ge b B c;have E:b<a.length:=Xqf (List.getElem?_eq_some_iff.1 c).1 I.len;rw [dL E] at p;exact ⟨B',p,t⟩
  ·intro k o v D;rcases dW D with p|⟨p,A,B',t,G,T⟩
   ·exact j.sealN k o v p
   ·rcases j.img A B' (u _ _ t) with J|⟨B0,J,_⟩
    ·exact .inr (.inl (G ▸ J))
    ·exfalso;have E:A<h.length:=(List.getElem?_eq_some_iff.1 J).1;simp only [rd] at t;rw [if_neg (by have:=I.len;omega)] at t;cases t
 ·have M:∀ l,out= .ret (.tup l)→∀ i B,(eF a.length l).2[i]? =some B→rd (a.length+i)=some B:=by
   intro l L i B Z;subst L;simp only [rd];rw [if_pos (by omega),gV (by omega),show a.length+i - a.length=i by omega];exact Z
  cases out with
  |pan v=>
   obtain ⟨cv,N,p⟩:=z;refine ⟨cv,N, ?_⟩;have:=hother v cv p;rwa [y,ο] at this
  | ret x=>
   obtain ⟨cv,N,p⟩:=z;rcases xB x with ⟨l,rfl⟩|ht
   ·simp only [ug] at p;obtain ⟨vs,V,q⟩:=p;refine ⟨cv,N, ?_⟩;simp only [ug];refine ⟨vs,V, ?_⟩;have c:(iR a.length (.tup (l.map AM.thaw))).2= []:=by simp only [iR];exact uJ l _
    rw [c,ο];have:=xh (gh:=aF a) (g':=aF a) s u rfl (fun x v F=>jO r (Ge.refl _ _) x F) l a.length vs (M l rfl) q;exact this
   ·have U:qg (.ret x)= .ret (AM.thaw x):=by cases x<;>first|rfl|exact absurd rfl (ht _)
    have C:∀ l,AM.thaw x ≠ .tup l:=by intro l L;cases x<;>simp [AM.thaw] at L;exact ht _ rfl
    rw [U];refine ⟨cv,N, ?_⟩;rw [jD (nZ x) C];rcases jm x with ⟨O,k,e,rfl⟩|F
    ·simp only [ug] at p;have h0:rd a.length=some (xk O e):=by
      simp only [rd];rw [if_pos (ζ _),gV (ζ _),Nat.sub_self];rfl
     have X:frz rd 6 (.ref a.length 0 0 k)=some (.sl (O.take (k*e)) k true):=by
      simp [frz,h0,xk]
     have:=iZ s u 6 _ _ _ X p;exact dQ _ this
    ·rw [jD F ht] at p;rw [CG F];exact jO r (Ge.refl _ _) x p
end
end AM
namespace AM
open Go
def xU (b:Nat) (c v:Nat):Option (Nat × Nat):=match υ c b with|true=>none|false=>some (c,v)
inductive Fz (b:Nat) (B:aP):AV→AV→Prop
 |ren {x:AV}:Fz b B x (ren (xU b) x)
 |ref {i n:Nat}:Fz b B (.ref b B.ver i n) (.sl ((B.cells.drop (i*B.esz)).take (n*B.esz)) n true)
 |fit {x y z:AV}:Fz b B x y→bF y z→Fz b B x z
inductive VO (b:Nat) (B:aP):List AV→List AV→Prop
 |nil:VO b B [] []
 |cons {x y:AV} {l r:List AV}:Fz b B x y→VO b B l r→VO b B (x::l) (y::r)
theorem Fz.same {b:Nat} {B:aP} {x:AV} (h:AM.ren (xU b) x=x):Fz b B x x:=by
 have:=Fz.ren (b:=b) (B:=B) (x:=x);rwa [h] at this
theorem Fz.dead {b:Nat} {B:aP} (x:AV):Fz b B x .dead:= .fit .ren (bF.dead _)
theorem VO.length {b:Nat} {B:aP} {l r:List AV} (h:VO b B l r):l.length=r.length:=by
 induction h with
 |nil=>rfl
 |cons _ _ ih=>simp [ih]
structure Dx (b:Nat) (B:aP) (C C':aP):Prop where
 ver:C'.ver=C.ver
 fro:C'.fro=C.fro
 fz:C'.fz=C.fz
 esz:C'.esz=C.esz
 body:(C.pr=true∧C'.cells=C.cells∧C'.pr=true)∨(VO b B C.cells C'.cells∧(C'.pr=true→(bD C'.cells).isEmpty=true))
theorem Dx.same {b:Nat} {B C:aP} (hp:C.pr=true):Dx b B C C:=⟨rfl,rfl,rfl,rfl,.inl ⟨hp,rfl,hp⟩⟩
theorem Dx.length {b:Nat} {B C C':aP} (h:Dx b B C C'):C.cells.length=C'.cells.length:=by
 rcases h.body with ⟨_,e,_⟩|⟨e,_⟩
 ·rw [e]
 ·exact e.length
section
variable {P:Program} {ap:AP} {g:bJ} {m:aH} {S:az} {w:World}
def kE (b:Nat) (B:aP):bJ:=fun c=>match υ c b with|true=>some B|false=>none
theorem oU {b c:Nat} {B C:aP} (h:kE b B c=some C):c=b∧C=B:=by
 unfold kE at h;split at h
 ·rename_i a;cases h;exact ⟨aA a,rfl⟩
 ·cases h
theorem J4 (b:Nat) (B:aP):kE b B b=some B:=by unfold kE;rw [Xq3]
theorem Fz.sound {b:Nat} {B:aP} (k:bf ap g m S w) (l:g b=some B) (d:B.pr=true) {g':bJ} (o:nD g m g' m (xU b)) {x y:AV} (h:Fz b B x y):∀ {v:Value},VR g m S x v→VR g' m (bU S m (kE b B) w) y v:=by
 have e:∀ c C,kE b B c=some C→g c=some C:=by
  intro c C j;obtain ⟨rfl,rfl⟩:=oU j;exact l
 induction h with
 |ren=>intro v a;exact ui (jJ S m (kE b B) w) o _ a
 | @ref i n=>
  intro v a;have f:frz (kE b B) 6 (.ref b B.ver i n)=some (.sl ((B.cells.drop (i*B.esz)).take (n*B.esz)) n true):=by
   simp [frz,J4,d]
  exact dQ _ (iZ k e 6 _ _ _ f a)
 |fit _ f ih=>intro v a;exact f _ _ _ _ (ih a)
theorem VO.sound {b:Nat} {B:aP} (d:bf ap g m S w) (e:g b=some B) (c:B.pr=true) {g':bJ} (f:nD g m g' m (xU b)) {l r:List AV} (h:VO b B l r):∀ {vs:List Value},aU g m S l vs→aU g' m (bU S m (kE b B) w) r vs:=by
 induction h with
 |nil=>intro vs a;cases vs with|nil=>simp [aU]|cons _ _=>simp [aU] at a
 | cons hx _ ih=>
  intro vs a;cases vs with
  |nil=>simp [aU] at a
  |cons v vs=>
   simp only [aU] at a ⊢;exact ⟨hx.sound d e c f a.1,ih a.2⟩
theorem sV:∀ {l:List AV} {vs:List Value},(bD l).isEmpty=true→aU g m S l vs→bi S l vs
 | [],[],_,_=>by simp [bi]
 |x::l,v::vs,h,hv=>by
  simp only [bD,Xwd,List.append_eq_nil_iff] at h;rw [← Xwd,← Xwd] at h;simp only [aU] at hv;simp only [bi];exact ⟨kG h.1 hv.1,sV h.2 hv.2⟩
 | [],_::_,_,hv=>by simp [aU] at hv
 |_::_,[],_,hv=>by simp [aU] at hv
theorem Dw {g g':bJ} {m e:aH} {S S':az} {ρ:Nat→Nat→Option (Nat × Nat)} (c:ig S S') (b:nD g m g' e ρ):∀ {l:List (Nat × List AV)} {ds:List Deferred},dS g m S l ds→dS g' e S' (l.map fun d=>(d.1,jV ρ d.2)) ds
 | [],[],_=>by simp only [List.map_nil,dS]
 |d::r,cd::cr,h=>by
  simp only [dS] at h;simp only [φ,dS];obtain ⟨⟨a,f,i⟩,j⟩:=h;exact ⟨⟨a,f,iI c b _ i⟩,Dw c b j⟩
 | [],_::_,h=>by simp [dS] at h
 |_::_,[],h=>by simp [dS] at h
theorem P8 {h0:List aP} {nt:Nat} {r i:St} {m0 h:aH} {S0 S':az} {w0 w':World} {a':Act} (b:Nat) (B:aP) (Y:h0.length≤b) (E:ah r.hp b=some B) (F:B.pr=true)
  (hd:i.dfs=r.dfs.map fun d=>(d.1,jV (xU b) d.2))
  (henv:∀ t,Fz b B (r.env.get t) (i.env.get t))
  (hdom:∀ c C',ah i.hp c=some C'→c ≠ b∧∃ C,ah r.hp c=some C∧Dx b B C C')
  (hall:∀ c C,c ≠ b→ah r.hp c=some C→∃ C',ah i.hp c=some C')
  (h5:Fr (aF h0) m0 S0 w0 (ah r.hp) h S' w') (h6:FR ap r.env r.hp r.dfs nt h S' w' a'):
  ∃ S2,Fr (aF h0) m0 S0 w0 (ah i.hp) h S2 w'∧FR ap i.env i.hp i.dfs nt h S2 w' a':=by
 have f:=h6.srel;have q:=jJ S' h (kE b B) w';have X:∀ c C,kE b B c=some C→ah r.hp c=some C:=by
  intro c C j;obtain ⟨rfl,rfl⟩:=oU j;exact E
 have l:nD (ah r.hp) h (ah i.hp) h (xU b):=by
  intro c ver c' W hρ C p u;unfold xU at hρ;split at hρ
  ·cases hρ
  ·rename_i K;cases hρ;have x:c ≠ b:=by intro e;subst e;simp at K
   obtain ⟨C',s⟩:=hall c C x p;obtain ⟨_,C2,n,a⟩:=hdom c C' s;rw [p] at n;cases n;exact ⟨C',s,by rw [a.ver];exact u,fun e=> ⟨by rw [← a.ver];exact e,rfl,a.esz⟩⟩
 have Q:bf ap (ah i.hp) h (bU S' h (kE b B) w') w':=by
  refine ⟨?_, ?_,fun k o v u=>jX f u, ?_, ?_⟩
  ·intro c c' C C' j L hm;obtain ⟨_,D,hD,_⟩:=hdom c C j;obtain ⟨_,D',J,_⟩:=hdom c' C' L;exact f.inj c c' D D' hD J hm
  ·intro c C' j;obtain ⟨_,C,p,a⟩:=hdom c C' j;obtain ⟨⟨cur,ee,vs,rest,k1,k2,k3,k4,k5,k6⟩,hz,M⟩:=f.blk c C p;have G:(C'.pr=true→bi (bU S' h (kE b B) w') C'.cells vs)∧aU (ah i.hp) h (bU S' h (kE b B) w') C'.cells vs:=by
    rcases a.body with ⟨U,V,q3⟩|⟨U,V⟩
    ·have:=aV q _ (k3 U);rw [V];exact ⟨fun _=>this,aZ _ this⟩
    ·have u:=U.sound f E F l k4;exact ⟨fun hp=>sV (V hp) u,u⟩
   exact ⟨⟨cur,ee,vs,rest,by rw [a.esz];exact k1,k2,G.1,G.2,by rw [a.esz];exact k5,fun hp=>by rw [a.esz] at hp ⊢;exact k6 hp⟩,fun hp=>by rw [a.fz];exact hz (by rw [← a.fro];exact hp),by rw [a.fz,← a.length];exact M⟩
  ·intro c C' j o v u;obtain ⟨x,C,p,a⟩:=hdom c C' j;rw [a.fro,a.fz];rcases dW u with y|⟨y,I,B',O,T,Z⟩
   ·exact f.own c C p o v y
   ·obtain ⟨rfl,rfl⟩:=oU O;exact absurd (f.inj c I C B' p E T.symm) x
  ·intro k xs hk;obtain ⟨vs,k1,k2⟩:=f.glob k xs hk;exact ⟨vs,aV q _ k1,k2.mono q⟩
 have z:Fr (aF h0) m0 S0 w0 (ah i.hp) h (bU S' h (kE b B) w') w':=by
  refine ⟨?_,ig.trans h5.sle q,h5.os,h5.tape,h5.output,h5.size,h5.rest, ?_, ?_,fun c C' j=>by
   obtain ⟨_,C,p,_⟩:=hdom c C' j;exact h5.mw c C p⟩
  ·intro c C j;have hlt:c<h0.length:=(List.getElem?_eq_some_iff.1 j).1;obtain ⟨C1,A,e1,e2⟩:=h5.ge c C j;obtain ⟨C',s⟩:=hall c C1 (by omega) A;obtain ⟨_,C2,n,a⟩:=hdom c C' s;rw [A] at n;cases n;exact ⟨C',s,by rw [a.esz];exact e1,by rw [a.ver];exact e2⟩
  ·intro c C' j;obtain ⟨_,C,p,_⟩:=hdom c C' j;exact h5.img c C p
  ·intro k o v u;rcases dW u with y|⟨y,I,B',O,T,Z⟩
   ·exact h5.sealN k o v y
   ·obtain ⟨rfl,rfl⟩:=oU O;rcases h5.img I B' E with N|⟨B0,N,_⟩
    ·exact .inr (.inl (T ▸ N))
    ·have:I<h0.length:=(List.getElem?_eq_some_iff.1 N).1;omega
 have R:FR ap i.env i.hp i.dfs nt h (bU S' h (kE b B) w') w' a':=by
  refine ⟨Q,fun t=>(henv t).sound f E F l (h6.env t), ?_,h6.size⟩;rw [hd];exact Dw q l h6.dfs
 exact ⟨_,z,R⟩
theorem ak.freeze {h0:List aP} {nt:Nat} {f:Code} {s r i:St} {e:aY} (b:Nat) (B:aP) (h:ak P ap h0 nt f s e r) (p:∀ v,e ≠ .panic v) (n:h0.length≤b) (u:ah r.hp b=some B) (l:B.pr=true)
  (hmd:i.md=r.md) (hd:i.dfs=r.dfs.map fun d=>(d.1,jV (xU b) d.2))
  (henv:∀ t,Fz b B (r.env.get t) (i.env.get t))
  (hdom:∀ c C',ah i.hp c=some C'→c ≠ b∧∃ C,ah r.hp c=some C∧Dx b B C C')
  (hall:∀ c C,c ≠ b→ah r.hp c=some C→∃ C',ah i.hp c=some C'):ak P ap h0 nt f s e i:=by
 intro hs;obtain ⟨A,D⟩:=h hs;refine ⟨hmd ▸ A,fun m0 S0 w0 m S w a k x Q z=>D m0 S0 w0 m S w a k x Q ?_⟩;intro y S' w' a' q E;obtain ⟨S2,j,o⟩:=P8 b B n u l hd henv hdom hall q E;have:=z y S2 w' a' j o;cases e with
 |normal=>exact this
 |exit id=>exact this
 |ret=>exact this
 |panic v=>exact absurd rfl (p v)
def Ul (b:Nat) (B:aP):dK→(Nat→AV)→Prop
 | [],_=>True
 |(t,v)::r,f=>Fz b B (f t) v∧Ul b B r f
theorem xW {b:Nat} {B:aP} {f:Nat→AV}:∀ {e:dK},Ul b B e f→∀ t,Fz b B (f t) (e.get t)
 | [],_,t=>Fz.dead _
 | (u,v)::r,h,t=>by
  simp only [Ul] at h;simp only [dK.get,ah];cases a:υ u t with
  |true=>
   have:=aA a;subst this;exact h.1
  |false=>exact xW h.2 t
def Ol (b:Nat) (B:aP):Hp→Hp→Prop
 | [],l=>l= [(b,B)]
 |(c,C)::r,(d,D)::l=>c=d∧Dx b B D C∧c ≠ b∧Ol b B r l
 |_::_,[]=>False
theorem Lu {b:Nat} {B:aP}:∀ {r l:Hp},Ol b B r l→∀ c C',ah r c=some C'→c ≠ b∧∃ C,ah l c=some C∧Dx b B C C'
 | [],l,_,c,C',hc=>by simp [ah] at hc
 | (d,D)::r,(d',D')::l,h,c,C',hc=>by
  simp only [Ol] at h;obtain ⟨rfl,f,i,e⟩:=h;simp only [ah] at hc ⊢;cases a:υ d c with
  |true=>
   rw [a] at hc;have:=aA a;subst this;cases hc;exact ⟨i,D',rfl,f⟩
  |false=>
   rw [a] at hc;exact Lu e c C' hc
 |_::_,[],h,_,_,_=>by simp [Ol] at h
theorem Lt {b:Nat} {B:aP}:∀ {r l:Hp},Ol b B r l→∀ c C,c ≠ b→ah l c=some C→∃ C',ah r c=some C'
 | [],l,h,c,C,hcb,hc=>by
  simp only [Ol] at h;subst h;simp only [ah] at hc;split at hc
  ·rename_i a;exact absurd (aA a).symm hcb
  ·cases hc
 |(d,D)::r,(d',D')::l,h,c,C,hcb,hc=>by
  simp only [Ol] at h;obtain ⟨rfl,f,i,e⟩:=h;simp only [ah] at hc ⊢;cases a:υ d c with
  |true=>exact ⟨D,rfl⟩
  |false=>rw [a] at hc;exact Lt e c C hcb hc
 |_::_,[],h,_,_,_,_=>by simp [Ol] at h
theorem Ht {b:Nat} {B:aP}:∀ {r l:Hp},Ol b B r l→ah l b=some B
 | [],l,h=>by
  simp only [Ol] at h;subst h;simp [ah]
 |(d,D)::r,(d',D')::l,h=>by
  simp only [Ol] at h;obtain ⟨rfl,f,e,a⟩:=h;simp only [ah];cases c:υ d b with
  |true=>exact absurd (aA c) e
  |false=>exact Ht a
 |_::_,[],h=>by simp [Ol] at h
theorem ak.forget {h0:List aP} {nt:Nat} {a:Code} {s:St} {e:aY} (b:Nat) (B:aP) {i c:dK} {hp hp':Hp} {md:AV} (h:ak P ap h0 nt a s e {env:=i,hp,md,dfs:= []}) (j:∀ v,e ≠ .panic v) (d:h0.length≤b) (f:B.pr=true)
  (henv:Ul b B c (dK.get i)) (hhp:Ol b B hp' hp):ak P ap h0 nt a s e {env:=c,hp:=hp',md,dfs:= []}:=
 h.freeze b B j d (Ht hhp) f rfl rfl (xW henv) (Lu hhp) (Lt hhp)
end
end AM
namespace AM
open Go
def dG:List Nat→Code→Code
 | [],c=>c
 |0::p,.seq a _=>dG p a
 |_::p,.seq _ b=>dG p b
 |0::p,.cond _ a _=>dG p a
 |_::p,.cond _ _ b=>dG p b
 |_::p,.block _ b=>dG p b
 |_::p,.loop b=>dG p b
 |_::p,.scope b=>dG p b
 |_,c=>c
section
variable {P:Program} {ap:AP}
end
end AM
namespace AM
open Go
inductive zx:List LK→List Value→Prop
 |nil:zx [] []
 |int {k:IntKind} {n:Int} {r:List LK} {l:List Value}:zx r l→zx (.int k::r) (.int k n::l)
 |bool {b:Bool} {r:List LK} {l:List Value}:zx r l→zx (.bool::r) (.bool b::l)
 |str {s:ByteArray} {r:List LK} {l:List Value}:zx r l→zx (.str::r) (.string s::l)
section
variable {H:Type} {enc:TypeId × Value→H} {P:Program} {w:World} {base:Nat} {spare:Nat→Bool} {held:Bool}
end
end AM
namespace AM
open Go
def uU:Nat→Nat→List Bool
 |0,_=> []
 |n+1,k=>υ (k % 2) 1::uU n (k / 2)
def Tn:Nat→List Bool→List Bool
 |0,l=>l
 |n+1,l=>true::Tn n l
theorem jQ.n (k:Nat) {l:List Bool} (h:jQ l):jQ (Tn k l):=by
 induction k with
 |zero=>exact h
 |succ k ih=>exact .t ih
theorem jQ.k (k:Nat) {b:Bool} {l:List Bool} (a:b=true) (h:jQ l):jQ (Tn k (b::l)):= .n k (.c a h)
theorem tf (b:Bool):b=true∨b=false:=by cases b<;>simp
theorem ai {b:Bool} (h:b=true):lit true b=true:=h
theorem aj {b:Bool} (h:b=false):lit false b=true:=by subst h;rfl
theorem fK {b:Bool} (h:b=false):lit true (!b)=true:=by subst h;rfl
theorem dM {b:Bool} (h:b=true):lit false (!b)=true:=by subst h;rfl
inductive PS (P:Program) (ap:AP):List Prop→List (gK × List aP)→qj→List ng→Prop where
 |nil:PS P ap [] [] [] []
 |c {f:Nat} {args:List AV} {h h':List aP} {out:gK} {ps:List Prop} {ans:List (gK × List aP)} {lps:qj} {hs:List ng}:af P ap f args h out h'→PS P ap ps ans lps hs→PS P ap (af P ap f args h out h'::ps) (ans++ [(out,h')]) lps hs
 |l {h0:List aP} {n:Nat} {code:Code} {s s':St} {e:aY} {ps:List Prop} {ans:List (gK × List aP)} {lps:qj} {hs:List ng}:bg P ap h0 n code s e s'→PS P ap ps ans lps hs→PS P ap (bg P ap h0 n code s e s'::ps) ans (lps++ [(e,s',none)]) hs
 |k (K:List Nat) {h0:List aP} {n:Nat} {code:Code} {s s':St} {e:aY} {ps:List Prop} {ans:List (gK × List aP)} {lps:qj} {hs:List ng}:bg P ap h0 n code s e s'→PS P ap ps ans lps hs→PS P ap (bg P ap h0 n code s e s'::ps) ans (lps++ [(e,s',some ([],K))]) hs
 |w (L K:List Nat) {h0:List aP} {n:Nat} {code:Code} {s s':St} {e:aY} {ps:List Prop} {ans:List (gK × List aP)} {lps:qj} {hs:List ng}:bg P ap h0 n code s e s'→PS P ap ps ans lps hs→PS P ap (bg P ap h0 n code s e s'::ps) ans (lps++ [(e,s',some (L,K))]) hs
 |v (d:Nat) {x y:AV} {ps:List Prop} {ans:List (gK × List aP)} {lps:qj} {hs:List ng}:bF x y→PS P ap ps ans lps hs→PS P ap (bF x y::ps) ans lps (hs++ [.v d y])
 |b (d:Nat) {x y:List AV} {ps:List Prop} {ans:List (gK × List aP)} {lps:qj} {hs:List ng}:x=y→PS P ap ps ans lps hs→PS P ap ((x=y)::ps) ans lps (hs++ [.b d y])
 |u (d:Nat) {x y:List (Option aP)} {ps:List Prop} {ans:List (gK × List aP)} {lps:qj} {hs:List ng}:x=y→PS P ap ps ans lps hs→PS P ap ((x=y)::ps) ans lps (hs++ [.u d])
 |f (d:Nat) {ps:List Prop} {ans:List (gK × List aP)} {lps:qj} {hs:List ng}:PS P ap ps ans lps hs→PS P ap ps ans lps (hs++ [.f d])
theorem PS.all {P:Program} {ap:AP} {ps:List Prop} {ans:List (gK × List aP)} {a:qj} {hs:List ng} (h:PS P ap ps ans a hs):Gv ps:=by
 induction h with
 |nil=>exact .nil
 |c h _ ih=>exact .cons h ih
 |l h _ ih=>exact .cons h ih
 |k _ h _ ih=>exact .cons h ih
 |w _ _ h _ ih=>exact .cons h ih
 |v _ h _ ih=>exact .cons h ih
 |b _ h _ ih=>exact .cons h ih
 |u _ h _ ih=>exact .cons h ih
 |f _ _ ih=>exact ih
theorem ck {P:Program} {ap:AP} (g:xH P ap) {ans:List (gK × List aP)} {ps:List Prop} {f:Nat} {args:List AV} {h a:List aP} {out:gK} (hp:PS P ap ps ans [] [])
  (he:kR ap (uK P ap 3000 4) 3000 .dead f args h ⟨true,[],[],[],ans,[]⟩= .ok (out,a,.dead) ⟨true,[],[],ps,[],[]⟩):af P ap f args h out a:=N8 g hp.all he
theorem pk {P:Program} {ap:AP} (g:xH P ap) (e:List Nat) (n k:Nat) {ans:List (gK × List aP)} {a:qj} {hs:List ng} {bs:List Bool} {ps:List Prop} {f:Nat} {args:List AV} {h b:List aP} {out:gK}
  (hb:jQ bs) (hp:PS P ap ps ans a hs) (he:KJ P ap (uK P ap 3000 4) 3000 e f args h a ⟨false,uU n k,[],[],ans,hs⟩= .ok (out,b,.dead) ⟨false,[],bs,ps,[],[]⟩):af P ap f args h out b:=by
 obtain ⟨c,d⟩:=gX g.apok g.mixed g.fnok 3000 4;exact PD g.apok g.mixed g.fnok c d he ⟨hb.mem,hp.all.mem⟩
def AQ (ap:AP) (f:Nat):List Nat:=match ap.fnAt f with|some F=>F.keep|none=> []
def MK (env:dK):R ((aY × St) × qj)→R ((aY × St) × qj)
 | .ok ((e,s),l) c=> .ok ((e,⟨env.map fun q=>(q.1,s.env.get q.1),s.hp,s.md,s.dfs⟩),l) c
 |r=>r
def JX (P:Program) (ap:AP) (h0:List aP) (f nt0:Nat) (ls:List Nat) (code:Code) (s:St) (lps:qj) (orc:List Bool) (ans:List (gK × List aP)) (hs:List ng) (env:dK):R ((aY × St) × qj):=
 match cO nt0 code with
 |true=>MK env (jR P ap (uK P ap 3000 4) h0 (AQ ap f) 3000 nt0 ls code s lps ⟨false,orc,[],[],ans,hs⟩)
 |false=> .bad 0
theorem Qa (env env':dK):∀ t,dK.get (env.map fun q=>(q.1,env'.get q.1)) t=env'.get t∨dK.get (env.map fun q=>(q.1,env'.get q.1)) t= .dead:=by
 intro t
 induction env with
 |nil=>exact .inr rfl
 | cons q r ih=>
  cases a:υ q.1 t with
  |true=>
   left;have:=Xqq a;subst this;simp only [dK.get,φ,ah,a,Xxd]
  | false=>
   have e:dK.get (Xvv (fun q=>(q.1,env'.get q.1)) (q::r)) t=dK.get (Xvv (fun q=>(q.1,env'.get q.1)) r) t:=by
    simp only [dK.get,φ,ah,a]
   rw [e];exact ih
theorem pj {P:Program} {ap:AP} (g:xH P ap) (f:Nat) (h:List Nat) (n k:Nat) {nt nt0:Nat} {ans:List (gK × List aP)} {b:qj} {hs:List ng} {bs:List Bool} {ps:List Prop} {a:Code} {s s':St} {h0:List aP} {e:aY}
  (hb:jQ bs) (hp:PS P ap ps ans b hs) (hn:nt0≤nt) (he:JX P ap h0 f nt0 h a s b (uU n k) ans hs s'.env= .ok ((e,s'),[]) ⟨false,[],bs,ps,[],[]⟩):ak P ap h0 nt a s e s':=by
 unfold JX at he;split at he
 ·rename_i l;generalize t:jR P ap (uK P ap 3000 4) h0 (AQ ap f) 3000 nt0 h a s b ⟨false,uU n k,[],[],ans,hs⟩=r at he;cases r with
  |ok q c=>
   obtain ⟨⟨j,p⟩,v⟩:=q;simp only [MK,R.ok.injEq,Prod.mk.injEq] at he;obtain ⟨⟨⟨rfl,d⟩,rfl⟩,rfl⟩:=he;obtain ⟨i,u⟩:=gX g.apok g.mixed g.fnok 3000 4;have o:ak P ap h0 nt a s j p:=(qG g.apok g.mixed i hn a (dC hn a l) _ _ _ _ _ t ⟨hb.mem,hp.all.mem⟩).2;refine o.weak (aI.refl _) ?_;rw [← d];exact ⟨Qa _ _,rfl,rfl,rfl⟩
  |need=>simp [MK] at he
  |bad n=>simp [MK] at he
 ·cases he
theorem bF.pp {d c:List AV} {a:Nat} (h:ε a d=c):bF (.pp d a) (.pp c 0):=by
 subst h;intro g m S v f;simp only [VR,PR] at f ⊢;obtain ⟨b,o,vs,rfl,hp,hs⟩:=f;refine ⟨b,o+a,vs.drop a,rfl,ny a hp,fun j u e=> ?_⟩;rw [Xxr] at e;have:=hs (a+j) u e;rwa [← Nat.add_assoc] at this
theorem bF.ppt {e d f:List AV} {a:Nat} (h:ε a e=d++f):bF (.pp e a) (.pp d 0):=by
 intro g m S v i;have:=bF.pp h g m S v i;simp only [VR,PR] at this ⊢;obtain ⟨b,o,vs,rfl,hp,hs⟩:=this;refine ⟨b,o,vs.take d.length,rfl, ?_,fun j u c=> ?_⟩
 ·have:=jf d.length hp;rwa [List.take_left'] at this;rfl
 ·rw [Xq9] at c;split at c
  ·exact hs j u c
  ·cases c
theorem bF.eq {x y:AV} (h:x=y):bF x y:=h ▸ fun _ _ _ _ a=>a
theorem bF.rd (ks:List LK) {d b c:List AV} {a:Nat} (h:ε a d=b++c) (e:Ir true ks (b++c)=b):bF (.agg (jU true ks d a)) (.agg b):= .eq (by unfold jU;rw [h,e])
theorem bF.rd1 (k:LK) {b c:List AV} {y:AV} {a:Nat} (h:ε a b= [y]++c) (d:eta k y=y):bF (eta k ((ε a b).headD .dead)) y:= .eq (by rw [h];exact d)
theorem jQ.a {l r:List Bool} (h:jQ l) (a:jQ r):jQ (l++r):=by
 induction h with
 |nil=>exact a
 |t _ ih=>exact .t ih
 |c hb _ ih=>exact .c hb ih
theorem jQ.of {l:List Bool} (h:l.all id=true):jQ l:=by
 induction l with
 |nil=>exact .nil
 |cons b r ih=>
  simp only [Xxu,id,δ] at h;exact .c h.1 (ih h.2)
theorem bP (ks:List LK) {d c b:List AV} {a:Nat} (h:ε a d=c++b) (e:(PI true ks (c++b)).all id=true):jQ (EY true ks d a):=by
 unfold EY;rw [h];exact .of e
inductive O6:List AV→List AV→Prop where
 |nil:O6 [] []
 |same {x:AV} {l r:List AV}:O6 l r→O6 (x::l) (x::r)
 |nilS {l r:List AV}:O6 l r→O6 (.nilS::l) (.sl [] 0 false::r)
 |sl {xs:List AV} {n:Nat} {a:Bool} {l r:List AV}:O6 l r→O6 (.sl xs n a::l) (.sl xs n false::r)
theorem O6.prl {S:az} {l r:List AV} (h:O6 l r):∀ {vs:List Value},bi S l vs→bi S r vs:=by
 induction h with
 |nil=>exact fun h=>h
 |same _ ih=>intro vs b;cases vs with|nil=>simp [bi] at b|cons v vs=>simp only [bi] at b ⊢;exact ⟨b.1,ih b.2⟩
 | nilS _ ih=>
  intro vs b;cases vs with
  |nil=>simp [bi] at b
  |cons v vs=>
   simp only [bi,PR] at b ⊢;exact ⟨⟨none,0,b.1,ζ _,.inl (by simp)⟩,ih b.2⟩
 | @sl xs n a _ _ _ ih=>
  intro vs b;cases vs with
  |nil=>simp [bi] at b
  |cons v vs=>
   have c:=b;simp only [bi] at c ⊢;refine ⟨?_,ih c.2⟩;have d:=bF.sl xs n a (fun _=>none) (fun _=>(0,0)) S v (by simp only [VR];exact c.1);simpa only [VR] using d
theorem bF.slP {k i:List AV} {n:Nat} {l:Bool} (j:O6 k i):bF (.sl k n l) (.sl i n l):=by
 intro g m S v f;simp only [VR,PR] at f ⊢;obtain ⟨a,c,rfl,q,h⟩:=f;refine ⟨a,c,rfl,q, ?_⟩;rcases h with ⟨d,e,s,r⟩|⟨b,o,vs,p,d,e⟩
 ·subst e;cases j;exact .inl ⟨d,rfl,s,r⟩
 ·exact .inr ⟨b,o,vs,p,j.prl d,e⟩
end AM
namespace AM
open Go
variable {P:Program} {ap:AP}
theorem ak.norm {h0:List aP} {nt:Nat} {b:Code} {s c:St} {e:aY} (keep:List Nat) (n:∀ v,e= .panic v→(bZ v).isEmpty=true) (h:ak P ap h0 nt b s e c):ak P ap h0 nt b s e (AM.norm h0.length keep c):=by
 intro hs;obtain ⟨q,l⟩:=h hs;refine ⟨q,fun m0 S0 w0 m S w a d r Q i=>l m0 S0 w0 m S w a d r Q ?_⟩;intro u S' w' a' o t;obtain ⟨p,j,k⟩:=iP (keep:=keep) o t;have:=i p S' w' a' j k;clear i j k l;generalize AM.norm h0.length keep c=s2 at*
 cases e with
 |normal=>exact this
 |exit id=>exact this
 |ret=>exact this
 |panic v=>intro cv f;exact this cv (dQ _ (kG (n v rfl) f))
def ab5:aY→Bool
 | .panic v=>(bZ v).isEmpty
 |_=>true
def Me (base:Nat) (env:dK):R ((aY × St) × qj)→R ((aY × St) × qj)
 | .ok ((e,s),l) c=>match ab5 e with
  |true=> .ok ((e,norm base (env.map fun q=>q.1) s),l) c
  |false=> .bad 1
 |r=>r
def JW (P:Program) (ap:AP) (h0:List aP) (f nt0:Nat) (ls:List Nat) (code:Code) (s:St) (lps:qj) (orc:List Bool) (ans:List (gK × List aP)) (hs:List ng) (env:dK):R ((aY × St) × qj):=
 match cO nt0 code with
 |true=>Me h0.length env (jR P ap (uK P ap 3000 4) h0 (AQ ap f) 3000 nt0 ls code s lps ⟨false,orc,[],[],ans,hs⟩)
 |false=> .bad 0
theorem pn (g:xH P ap) (f:Nat) (i:List Nat) (n k:Nat) {nt nt0:Nat} {ans:List (gK × List aP)} {b:qj} {hs:List ng} {bs:List Bool} {ps:List Prop} {a:Code} {s s':St} {h0:List aP} {e:aY}
  (hb:jQ bs) (hp:PS P ap ps ans b hs) (hn:nt0≤nt) (he:JW P ap h0 f nt0 i a s b (uU n k) ans hs s'.env= .ok ((e,s'),[]) ⟨false,[],bs,ps,[],[]⟩):ak P ap h0 nt a s e s':=by
 unfold JW at he;split at he
 ·rename_i u;generalize t:jR P ap (uK P ap 3000 4) h0 (AQ ap f) 3000 nt0 i a s b ⟨false,uU n k,[],[],ans,hs⟩=r at he;cases r with
  | ok q c=>
   obtain ⟨⟨o,j⟩,z⟩:=q;simp only [Me] at he;split at he
   ·rename_i d;simp only [R.ok.injEq,Prod.mk.injEq] at he;obtain ⟨⟨⟨rfl,h⟩,rfl⟩,rfl⟩:=he;obtain ⟨l,y⟩:=gX g.apok g.mixed g.fnok 3000 4;have x:ak P ap h0 nt a s o j:=(qG g.apok g.mixed l hn a (dC hn a u) _ _ _ _ _ t ⟨hb.mem,hp.all.mem⟩).2;have:=x.norm (s'.env.map fun q=>q.1) (fun v p=>by subst p;exact d);rwa [h] at this
   ·cases he
  |need=>simp [Me] at he
  |bad n=>simp [Me] at he
 ·cases he
end AM
namespace AM
open Go
variable {P:Program} {ap:AP}
def goL {α σ β:Type} (F:σ→α→σ ⊕ β) (fin:σ→β):List α→σ→β
 | [],s=>fin s
 |x::r,s=>match F s x with
  | .inl s'=>goL F fin r s'
  | .inr b=>b
theorem aJ.goL {α σ β:Type} {h0:List aP} {nt:Nat} {b:Code} {e:β→aY} {st:Nat × σ→St} {out:β→St} (F:σ→α→σ ⊕ β) (a:σ→β) (L:List α) (Inv:List α→σ→Prop)
  (hstep:∀ p x r s,L=p++x::r→Inv p s→match F s x with
   | .inl s'=>ak P ap h0 nt b (st (p.length,s)) .normal (st (p.length+1,s'))∧Inv (p++ [x]) s'
   | .inr q=>ak P ap h0 nt b (st (p.length,s)) (e q) (out q))
  (hend:∀ s,Inv L s→ak P ap h0 nt b (st (L.length,s)) (e (a s)) (out (a s))):
  ∀ (r p:List α) (s:σ),L=p++r→Inv p s→aJ P ap h0 nt b e st out (p.length,s) (AM.goL F a r s):=by
 intro r
 induction r with
 |nil=>
  intro p s h d;rw [ο] at h;subst h;exact .done (hend s d)
 | cons x r ih=>
  intro p s h d;have c:=hstep p x r s h d;simp only [AM.goL];cases i:F s x with
  |inl s'=>
   rw [i] at c;have f:=ih (p++ [x]) s' (by rw [h];simp) c.2;rw [ξ,List.length_singleton] at f;exact .next c.1 f
  |inr q=>
   rw [i] at c;exact .done c
end AM
namespace AM
open Go Go.WideShapes Go.ChangeShapes
theorem DL {a:Addr} (h:a.spot=none) (n:Nat):a.add n=⟨a.block,a.off+n,none⟩:=by
 unfold Addr.add;obtain ⟨b,o,s⟩:=a;simp only at h;subst h;split
 ·rename_i c;subst c;rfl
 ·rfl
section
variable {H:Type} {enc:TypeId × Value→H} {P:Program} {w:World} {base:Nat} {spare:Nat→Bool} {held:Bool}
end
end AM
namespace AM
open Go Go.WideShapes Go.ChangeShapes
section
variable {H:Type} {enc:TypeId × Value→H} {P:Program} {w:World} {base:Nat} {spare:Nat→Bool} {held:Bool}
theorem IX {u e:TypeId} (b:P.underlying u=some (.slice e)) {base':Nat} {v:Value} (h:Value.okWide P w .any base' u v):v.cells.toList= [v]:=by
 obtain ⟨a,l,c,rfl⟩:=okWide_slice b h;rfl
end
end AM
namespace AM
open Go Go.WideShapes Go.ChangeShapes
inductive DK where
 |int (k:IntKind)
 |bool
 |str
 |slc (l:List DK)
def zZ (P:Program) (f:TypeId→Option (List DK)):List Field→Nat→Option (List DK)
 | [],_=>some []
 | x::r,off=>match f x.type with
  | some l=>match υ x.offset off && υ (P.cellsOf x.type) l.length with
   |true=>match zZ P f r (off+l.length) with
    |some q=>some (l++q)
    |none=>none
   |false=>none
  |none=>none
def DV (P:Program):Nat→TypeId→Option (List DK)
 |0,_=>none
 | n+1,t=>match P.underlying t with
  |some (.int k)=>some [.int k]
  |some .bool=>some [.bool]
  |some .string=>some [.str]
  |some (.struct fs)=>match zZ P (DV P n) fs.toList 0 with
   |some l=>match υ (P.cellsOf t) l.length with|true=>some l|false=>none
   |none=>none
  |some (.slice e)=>match DV P n e with
   |some l=>match υ (P.cellsOf e) l.length && Nat.ble 1 l.length with|true=>some [.slc l]|false=>none
   |none=>none
  |_=>none
inductive fF (b:Nat):List DK→List AV→Prop
 |nil:fF b [] []
 |int {k:IntKind} {n:Int} {r:List DK} {l:List AV}:fF b r l→fF b (.int k::r) (.int k n::l)
 |bool {x:Bool} {r:List DK} {l:List AV}:fF b r l→fF b (.bool::r) (.bool x::l)
 |str {s:List UInt8} {r:List DK} {l:List AV}:s.length≤b→fF b r l→fF b (.str::r) (.str s::l)
 |slc {ks:List DK} {L:List (List AV)} {r:List DK} {l:List AV}:(∀ x ∈ L,fF b ks x)→L.length≤b→fF b r l→fF b (.slc ks::r) (.sl L.flatten L.length false::l)
theorem fF.mono {b c:Nat} (h:b≤c) {ks:List DK} {a:List AV} (d:fF b ks a):fF c ks a:=by
 induction d with
 |nil=>exact .nil
 |int _ ih=>exact .int ih
 |bool _ ih=>exact .bool ih
 |str hs _ ih=>exact .str (Xqg hs h) ih
 |slc _ hl _ ihx ih=>exact .slc ihx (Xqg hl h) ih
theorem fF.app {b:Nat} {k1 k2:List DK} {c a:List AV} (h:fF b k1 c) (d:fF b k2 a):fF b (k1++k2) (c++a):=by
 induction h with
 |nil=>exact d
 |int _ ih=>exact .int ih
 |bool _ ih=>exact .bool ih
 |str hs _ ih=>exact .str hs ih
 |slc hx hl _ _ ih=>exact .slc hx hl ih
structure Z5 {H:Type} (bk:DataW H→Nat):Prop where
 str:∀ s:List UInt8,s.length≤bk (.lit (.string s))
 agg:∀ l:List (DataW H),∀ d ∈ l,bk d≤bk (.agg l)
 slc:∀ l r:List (DataW H),(∀ d ∈ l,bk d≤bk (.slice l r))∧l.length≤bk (.slice l r)
section
variable {H:Type} {enc:TypeId × Value→H} {P:Program} {w:World} {base:Nat} {spare:Nat→Bool} {held:Bool} {bk:DataW H→Nat}
theorem xR {n B:Nat} {f:TypeId→Option (List DK)} (e:∀ t ks,f t=some ks→∀ (fuel:Nat) (cs:List Value) (x:DataW H × List MemPlace),DataW.trod enc P w base spare held fuel t cs=some x→∃ xs,fF (bk x.1) ks xs∧bi (gI w) xs cs∧∀ u ∈ cs,u.oneCell'=true) {cs:List Value}:∀ (r:List Field) (off:Nat) (ks:List DK),zZ P f r off=some ks→
  (∀ (i:Nat) (x:Field),r[i]? =some x→∃ y,DataW.trod enc P w base spare held n x.type ((cs.drop x.offset).take (P.cellsOf x.type))=some y∧bk y.1≤B)→∃ xs,fF B ks xs∧bi (gI w) xs ((cs.drop off).take ks.length)∧∀ u ∈ (cs.drop off).take ks.length,u.oneCell'=true
 | [],off,ks,h,_=>by
  simp only [zZ] at h;cases h;exact ⟨[],.nil,by simp [bi],by simp⟩
 | x ::r,off,ks,h,hx=>by
  simp only [zZ] at h;split at h
  ·rename_i l E;split at h
   ·rename_i b;simp only [δ] at b;have z:=Xqq b.1;have A:=Xqq b.2;split at h
    ·rename_i q s;cases h;obtain ⟨y,G,C⟩:=hx 0 x rfl;obtain ⟨v,j,d,c⟩:=e _ _ E _ _ _ G;rw [z,A] at d c;obtain ⟨p,F,o,D⟩:=xR e r (off+l.length) q s (fun i f k=>hx (i+1) f (by simpa using k));refine ⟨v++p,(j.mono C).app F, ?_, ?_⟩
     ·rw [ξ,Xkj,Xx7];exact iK d o
     ·rw [ξ,Xkj,Xx7];intro u a;rcases List.mem_append.1 a with a|a
      ·exact c u a
      ·exact D u a
    ·cases h
   ·cases h
  ·cases h
theorem xI {S:az}:∀ {L:List (List AV)} {M:List (List Value)},L.length=M.length→(∀ (i:Nat) (x:List AV) (m:List Value),L[i]? =some x→M[i]? =some m→bi S x m)→bi S L.flatten M.flatten
 | [],[],_,_=>by simp [bi]
 |x::L,m::M,h,hp=>by
  rw [Xjd,Xjd];exact iK (hp 0 x m rfl rfl) (xI (by simpa using h) fun i a d c b=>hp (i+1) a d (by simpa using c) (by simpa using b))
 | [],_::_,h,_=>by simp at h
 |_::_,[],h,_=>by simp at h
theorem N_ (hk:Z5 bk) (hsp:∀ b,spare b=true):∀ (n:Nat) (t:TypeId) (ks:List DK),DV P n t=some ks→∀ (D:Nat) (cs:List Value) (x:DataW H × List MemPlace),DataW.trod enc P w base spare held D t cs=some x→
  ∃ T,fF (bk x.1) ks T∧bi (gI w) T cs∧∀ u ∈ cs,u.oneCell'=true:=by
 intro n
 induction n with
 |zero=>intro t ks h;simp [DV] at h
 | succ n ih=>
  intro t ks h D cs x v;simp only [DV] at h;split at h
  ·rename_i k A;cases h;obtain ⟨m,rfl,_⟩:=DataW.trod_int A v;exact ⟨[.int k m],.int .nil,by simp [bi,PR],by simp [Value.oneCell']⟩
  ·rename_i A;cases h;obtain ⟨b,rfl,_⟩:=DataW.trod_bool A v;exact ⟨[.bool b],.bool .nil,by simp [bi,PR],by simp [Value.oneCell']⟩
  ·rename_i A;cases h;obtain ⟨s,rfl,rfl,_⟩:=DataW.trod_string A v;exact ⟨[.str s.data.toList],.str (hk.str _) .nil,by simp [bi,PR],by simp [Value.oneCell']⟩
  ·rename_i fs A;split at h
   ·rename_i l hl;split at h
    ·rename_i U;cases h;obtain ⟨T,m,rfl,rfl,F,hxl,C⟩:=DataW.trod_struct A v;have e:=Xqq U;obtain ⟨ys,d1,Y,R⟩:=xR (n:=m) (B:=bk (.agg (T.map (·.1)))) ih (cs:=cs) fs.toList 0 ks hl (fun i f hf=>by
      have W:fs[i]? =some f:=by simpa using hf
      have O:=C i f W;have r:i<T.length:=by rw [hxl];exact (Array.getElem?_eq_some_iff.1 W).1
      rw [ν r] at O;exact ⟨_,O,hk.agg _ _ (List.mem_map.2 ⟨_,Xx1 r,rfl⟩)⟩)
     rw [List.drop_zero,List.take_of_length_le (by omega)] at Y R;exact ⟨ys,d1,Y,R⟩
    ·cases h
   ·cases h
  ·rename_i e A;split at h
   ·rename_i l hl;split at h
    ·rename_i U;cases h;simp only [δ] at U;have hce:=Xqq U.1;have hpos:=Nat.le_of_ble_eq_true U.2;rcases DataW.trod_slice A v with ⟨rfl,rfl⟩|⟨a,y,G,elems,rest,m,_,rfl,rfl,_,hlc,hm,F,V,hre,_⟩
     ·refine ⟨[.sl [] 0 false],.slc (L:= []) (by simp) (by simp) .nil, ?_,by simp [Value.oneCell']⟩;simp only [bi,PR,and_true];exact ⟨none,0,rfl,ζ _,.inl ⟨fun _=>trivial,trivial,trivial,rfl⟩⟩
     ·obtain ⟨b1,b2⟩:=hk.slc (elems.map (·.1)) (rest.map (·.1));generalize hB:bk (.slice (elems.map (·.1)) (rest.map (·.1)))=B at b1 b2;have hspot:0<G→a.spot=none:=by
       intro Z;have key:∃ c,w.cells? base (a.add 0) (P.cellsOf e)=some c:=by
        rcases Xq1 y with h0|h0
        ·obtain ⟨r1,r2⟩:=hre (hsp _);have E:=r2 0 (by omega);rw [ν (by omega)] at E;obtain ⟨c,z,_⟩:=Option.bind_eq_some_iff.1 E;rw [h0,Xqo,Xj3] at z;exact ⟨c,z⟩
        ·have E:=V 0 h0;rw [ν (by omega)] at E;obtain ⟨c,z,_⟩:=Option.bind_eq_some_iff.1 E;rw [Xj3] at z;exact ⟨c,z⟩
       obtain ⟨c,z⟩:=key;obtain ⟨_,h9,J⟩:=World.cells?_some z;have p:=J 0 (by omega);have ez:(a.add 0).add 0=a:=by simp [Addr.add]
       rw [ez] at p;have r:0<c.length:=by omega
       rw [ν r] at p;exact World.cell?_spot p
      have key:∀ q,q≤y→∃ (L:List (List AV)) (M:List (List Value)),L.length=q∧M.length=q∧(∀ x ∈ L,fF B l x)∧(∀ (i:Nat) (x:List AV) (m:List Value),L[i]? =some x→M[i]? =some m→bi (gI w) x m)∧M.flatten.length=q*l.length∧(∀ u ∈ M.flatten,u.oneCell'=true)∧∀ j u,M.flatten[j]? =some u→gI w a.block (a.off+j)=some u:=by
       intro q
       induction q with
       |zero=>intro _;exact ⟨[],[],rfl,rfl,by simp,by simp,by simp,by simp,by simp⟩
       | succ q ihq=>
        intro hq;obtain ⟨L,M,Q,X,O,I,h3,K,h4⟩:=ihq (by omega);have E:=V q (by omega);rw [ν (by omega)] at E;obtain ⟨c,z,h7⟩:=Option.bind_eq_some_iff.1 E;obtain ⟨ys,d1,Y,R⟩:=ih e l hl _ _ _ h7;obtain ⟨_,h9,J⟩:=World.cells?_some z;have hs:=hspot (by omega);have d2:fF B l ys:=d1.mono (b1 _ (List.mem_map.2 ⟨_,Xx1 _,rfl⟩));refine ⟨L++ [ys],M++ [c],by simp [Q],by simp [X], ?_, ?_, ?_, ?_, ?_⟩
        ·intro x v;rcases List.mem_append.1 v with v|v
         ·exact O x v
         ·simp at v;subst v;exact d2
        ·intro i x m C d;rw [Xwq] at C d;split at C
         ·rename_i r;rw [if_pos (by omega)] at d;exact I i x m C d
         ·rename_i r;rw [if_neg (by omega)] at d;have e0:i - L.length=0:=by
           have:=(List.getElem?_eq_some_iff.1 C).1;simp at this;omega
          have e1:i - M.length=0:=by omega
          rw [e0] at C;rw [e1] at d;cases C;cases d;exact Y
        ·rw [Xzq,ξ,h3];simp only [Xjd,Xvr,ο];rw [Nat.succ_mul];omega
        ·intro u N;rw [Xzq] at N;rcases List.mem_append.1 N with N|N
         ·exact K u N
         ·exact R u (by simpa using N)
        ·intro j u d;rw [Xzq,Xwq] at d;split at d
         ·exact h4 j u d
         ·rename_i hjl;simp only [Xjd,Xvr,ο] at d;have h11:=(List.getElem?_eq_some_iff.1 d).1;have p:=J (j - M.flatten.length) (by omega);rw [d,DL hs,DL rfl] at p;refine EL ?_ (R u (χ d));rw [← p,h3,hce];congr 2;have:q*l.length≤j:=by rw [← h3];omega
          simp only;omega
      obtain ⟨L,M,Q,X,O,I,h3,K,h4⟩:=key y (ζ _);have hlB:L.length≤B:=by rw [Q,← F];simpa using b2
      refine ⟨[.sl L.flatten L.length false],.slc O hlB .nil, ?_,by simp [Value.oneCell']⟩;simp only [bi,PR,and_true];refine ⟨some a,G,by rw [Q],by rw [Q];exact hlc, ?_⟩;rcases Xq1 G with Z|Z
      ·have h0:y=0:=by omega
       have:L= []:=Xxe (by omega);subst this;exact .inl ⟨fun _=>trivial,rfl,rfl,Z⟩
      ·refine .inr ⟨a.block,a.off,M.flatten, ?_,xI (by omega) I,fun j u d=> ⟨h4 j u d,K u (χ d)⟩⟩;have hs:=hspot Z;obtain ⟨b,o,s⟩:=a;simp only at hs;subst hs;rfl
    ·cases h
   ·cases h
  ·cases h
end
end AM
namespace AM
open Go
variable {P:Program} {ap:AP} {H:bG}
def Rl (ap:AP) (n:Nat) (F:Func) (env:dK) (hp:Hp):Option (gK × List aP):=
 let rd:=ah hp
 match fM (r_ ap env hp) F.results.toList,fM rd (Xqd n) with
 | some vs,some h'=>
  match h'.all (fun B=>B.pr||(bD B.cells).all fun b=>Nat.blt b n) && (vs.flatMap fun (q:AV × List Bool)=>q.2).all id with
  |false=>none
  |true=>
   let all:=vs.flatMap fun (q:AV × List Bool)=>mG rd 6 (fP (bZ q.1))
   match fM (lX n rd all) (vs.map fun (q:AV × List Bool)=>q.1) with
   |some [v]=>some (.ret v,h')
   |some l=>some (.ret (.tup l),h')
   |none=>none
 |_,_=>none
theorem yu (k:dJ P ap) {n:Nat} {h0 r:List aP} (z:h0.length≤n) {G:Func} {env:dK} {hp:Hp} {out:gK} (h:Rl ap n G env hp=some (out,r)) {m m0:aH} {S S0:az} {w w0:World} {tmps:Array Value}:
  h0.length≤r.length∧(bf ap (ah hp) m S w→Fr (aF h0) m0 S0 w0 (ah hp) m S w→(∀ t,VR (ah hp) m S (env.get t) (tmps.getD t undef))→
   ∃ cv,(results G tmps).run P w= .ok cv w∧∃ s S',yG ap h0 m0 S0 w0 out r s S' w (.returned cv)):=by
 unfold Rl at h;dsimp only at h;split at h
 ·rename_i vs K x c;split at h
  ·cases h
  ·rename_i I;rw [δ] at I;obtain ⟨hbase,d⟩:=I;have d:∀ b ∈ vs.flatMap (·.2),b=true:=fun b hm=>List.all_eq_true.1 d b hm
   split at h
   ·rename_i v f;cases h;have hlen':h0.length≤r.length:=by rw [(d_ c).1];simpa using z
    refine ⟨hlen',fun p e B=> ?_⟩;obtain ⟨cvs,C,u,D⟩:=iH k p B x d;have a:(vs.flatMap fun q=>mG (ah hp) 6 (fP (bZ q.1)))=(vs.map (·.1)).flatMap (cl (ah hp)):=by rw [Xzi];rfl
    rw [a] at f;obtain ⟨s,S',A,y,F⟩:=kW p e u z f c hbase;have E:cvs.length=1:=by
     have:=aW u;have j:=(d_ f).1;simp at j this;omega
    match cvs,E with
    | [cv],_=>
     obtain ⟨j,J⟩:=Gw F;refine ⟨cv,jW C D,s,S', ?_⟩;rw [← J] at A y;refine ⟨A,y,cv,rfl, ?_⟩;rw [J];exact j
   ·rename_i l i f;cases h;have hlen':h0.length≤r.length:=by rw [(d_ c).1];simpa using z
    refine ⟨hlen',fun p e B=> ?_⟩;obtain ⟨cvs,C,u,D⟩:=iH k p B x d;have a:(vs.flatMap fun q=>mG (ah hp) 6 (fP (bZ q.1)))=(vs.map (·.1)).flatMap (cl (ah hp)):=by rw [Xzi];rfl
    rw [a] at f;obtain ⟨s,S',A,y,F⟩:=kW p e u z f c hbase;have o:MG cvs= .tuple cvs.toArray:=by
     match cvs with
     | []=>rfl
     | [cv]=>
      exfalso;have:=aW u;have j:=(d_ f).1;simp at j this
      match l,i with
      | [],_=>simp at j;omega
      | [v],i=>exact i v rfl
      |_::_::_,_=>simp at j;omega
     |_::_::_=>rfl
    refine ⟨_,jW C D,s,S',A,y, ?_⟩;rw [o];exact ⟨_,rfl,cvs,rfl,F⟩
   ·cases h
 ·cases h
theorem nI (g:xH P ap) (n:Nat) {f:Nat} {F:AF} (o:ap.fnAt f=some F) {args:List AV} {h0 u:List aP} {out:gK} {s:St} {nt0:Nat} (l:F.fn.ntmps=nt0) (j:∀ nt,nt0≤nt→ak P ap h0 nt (ag F.fn) (eQ .dead args h0) .ret s) (G:s.dfs= []) (t:h0.length≤n) (x:Rl ap n F.fn s.env s.hp=some (out,u)):af P ap f args h0 out u:=by
 obtain ⟨i,_⟩:=yu (P:=P) (m:=fun _=>(0,0)) (m0:=fun _=>(0,0)) (S:=fun _ _=>none) (S0:=fun _ _=>none) (w:=default) (w0:=default) (tmps:=#[]) g.apok t x;subst l;refine ⟨i,rq g.fnok o,fun m S w cargs I D=> ?_⟩;obtain ⟨e,v,y⟩:=g.fnok.body f F o;have hbody:ag F.fn=e:=by simp [ag,v]
 rw [hbody] at j;obtain ⟨B,c⟩:=yY (md:= .dead) I D F.fn.ntmps;have c:FR ap (eQ .dead args h0).env (eQ .dead args h0).hp (eQ .dead args h0).dfs _ m S w _:=c;have q:F.fn.ntmps≤(cargs.toArray++Array.replicate (F.fn.ntmps - cargs.toArray.size) undef).size:=by simp;omega
 obtain ⟨_,j⟩:=j _ q rfl;refine calls_of_wp_defers (g.fnok.fn f F o) v ?_;refine j m S w m S w _ (by rw [B];exact Fr.refl _ _ _ _) c _ ?_;intro J S' w' a' z a;obtain ⟨_,E⟩:=lZ g.apok (gX g.apok g.mixed g.fnok 3000 4).2 [] .nilI .nilI s.hp s.hp ⟨false,[],[],[],[],[]⟩ _ rfl ⟨fun b h=>(by cases h),fun p h=>(by cases h)⟩;have d:=a.dfs;rw [G] at d;refine E h0 F.fn a'.tmps s.env _ m S w J S' w' a'.defers .returning a.srel z a.env d rfl ?_;intro C S2 A Q L N O r;simp only [ni] at r;subst r;obtain ⟨_,k⟩:=yu (P:=P) (m:=C) (m0:=m) (S:=S2) (S0:=S) (w:=A) (w0:=w) (tmps:=a'.tmps) g.apok t x;obtain ⟨cv,M,K⟩:=k L N O;exact ⟨cv,M,K⟩
end AM
namespace AM
open Go
open Go.ChangeMaps (setBlock)
section
variable {P:Program} {ap:AP} {h0:List aP} {nt:Nat}
def gZ (P:Program) (ap:AP) (h0:List aP) (nt:Nat) (code:Code) (s:St) (Post:aY→St→Prop):Prop:=
 s.md= .dead→(∀ e s',Post e s'→s'.md= .dead)∧∀ m0 S0 w0 m S w a,Fr (aF h0) m0 S0 w0 (ah s.hp) m S w→FR ap s.env s.hp s.dfs nt m S w a→∀ Q,(∀ e s',Post e s'→XA ap h0 m0 S0 w0 nt s' e Q)→code.wp P Q a w
theorem ak.any {b:Code} {s s':St} {e:aY} {Post:aY→St→Prop} (h:ak P ap h0 nt b s e s') (hp:Post e s') (hm:∀ e s',Post e s'→s'.md= .dead):gZ P ap h0 nt b s Post:=
 fun d=> ⟨hm,fun m0 S0 w0 m S w a c i Q f=>(h d).2 m0 S0 w0 m S w a c i Q (f _ _ hp)⟩
theorem gZ.one {b:Code} {s s':St} {e:aY} (h:gZ P ap h0 nt b s fun e1 s1=>e1=e∧s1=s'):ak P ap h0 nt b s e s':=fun c=>
 ⟨(h c).1 _ _ ⟨rfl,rfl⟩,fun m0 S0 w0 m S w a d i Q f=>(h c).2 m0 S0 w0 m S w a d i Q fun e1 s1 ⟨h1,h2⟩=>by subst h1;subst h2;exact f⟩
theorem gZ.seq {x y:Code} {s:St} {A Post:aY→St→Prop} (o:gZ P ap h0 nt x s A) (r:∀ b,A .normal b→gZ P ap h0 nt y b Post) (l:∀ e b,A e b→e ≠ .normal→Post e b) (hm:∀ e s',Post e s'→s'.md= .dead):gZ P ap h0 nt (.seq x y) s Post:=by
 intro k;obtain ⟨n,p⟩:=o k;refine ⟨hm,fun m0 S0 w0 m S w a j q Q i=>wp_seq (p m0 S0 w0 m S w a j q _ fun e b h=> ?_)⟩;cases e with
 |normal=>intro f S' w' a' c d;exact (r b h (n _ _ h)).2 m0 S0 w0 f S' w' a' c d Q i
 |exit id=>intro f S' w' a' c d;exact i _ _ (l _ _ h (by simp)) f S' w' a' c d
 |ret=>intro f S' w' a' c d;exact i _ _ (l _ _ h (by simp)) f S' w' a' c d
 |panic v=>intro f S' w' a' c d;exact i _ _ (l _ _ h (by simp)) f S' w' a' c d
def Jd (P:Program) (ap:AP) (nt:Nat) (ops:List Oper) (k:Nat) (s s':St):Prop:=
 s.md= .dead→s'.md= .dead∧∀ m S w a,FR ap s.env s.hp s.dfs nt m S w a→∀ Q,(∀ m' S' w' a',Fr (ah s.hp) m S w (ah s'.hp) m' S' w'→FR ap s'.env s'.hp s'.dfs nt m' S' w' a'→Q .normal a' w')→wpOps P ops.toArray Q (List.range' k (ops.length - k)) a w
theorem Oh {H:bG} (f:dJ P ap) (C:gz P ap H) {ops:List Oper} {k:Nat} (i:ops.all (tu nt)=true) {s:St} {r:RS} {c c':Cx} (h:m_ ap H ops (ops.drop k) (eu s.hp) {env:=s.env,hp:=s.hp,md:=s.md,dfs:=s.dfs,dec:= [],feet:= []} c= .ok (r,none) c') (q:c'.Ok):
  c.Ok∧Jd P ap nt ops k s ⟨r.env,r.hp,r.md,r.dfs⟩:=by
 have y:∀ o ∈ ops,∀ d,o.dst=some d→d<nt:=by
  intro o z d e;have:=List.all_eq_true.1 i o z;simp only [tu,e] at this;exact dV this
 obtain ⟨p,u⟩:=jK f C y (ops.drop k) k (eu s.hp) {env:=s.env,hp:=s.hp,md:=s.md,dfs:=s.dfs,dec:= [],feet:= []} r none c c' h q;refine ⟨p,fun j=> ?_⟩;obtain ⟨v,A⟩:=u j (fun t b l=>by cases l) rfl (fun b B l=>kM l);refine ⟨v,fun m S w a x Q n=> ?_⟩;have:=A m S w a x Q n;rwa [List.length_drop] at this
theorem IB {w w':World} {r k z:Nat} {cur:Array Value} {e:TypeId} {j:Option Nat} {d l:Nat} {n:Array Nat} (i:w.heap[r]? =some (.mapIter j d n l)) (c:∀ k,k ≠ r→w'.heap[k]? =w.heap[k]?) (h:fU w k z cur e):k ≠ r∧fU w' k z cur e:=by
 have a:k ≠ r:=by
  rintro rfl
  rcases h with ⟨_,h⟩|⟨_,es,clk,h,_⟩<;>(rw [i] at h;cases h)
 refine ⟨a, ?_⟩;rcases h with ⟨b,h⟩|⟨b,es,clk,h,f⟩
 ·exact .inl ⟨b,by rw [c k a];exact h⟩
 ·exact .inr ⟨b,es,clk,by rw [c k a];exact h,f⟩
theorem bf.iter {g:bJ} {m:aH} {S:az} {w w':World} {r:Nat} {x j:Option Nat} {n z d f:Nat} {A c:Array Nat} (h:bf ap g m S w) (i:w.heap[r]? =some (.mapIter x n A z)) (t:w'.heap[r]? =some (.mapIter j d c f)) (l:∀ k,k ≠ r→w'.heap[k]? =w.heap[k]?):bf ap g m S w':=by
 refine ⟨h.inj,fun b B q=> ?_,fun k o v s=> ?_,h.own,h.glob⟩
 ·obtain ⟨⟨cur,e,vs,rest,a,p⟩,u,y⟩:=h.blk b B q;exact ⟨⟨cur,e,vs,rest,(IB i l a).2,p⟩,u,y⟩
 ·have a:=h.sealed k o v s;by_cases e:k=r
  ·subst e;exfalso;unfold bW at a;rw [i] at a;simp [World.cell?,i] at a
  ·unfold bW at a ⊢;simp only [World.cell?] at a ⊢;rw [l k e];exact a
theorem FR.iter {env:dK} {hp:Hp} {dfs:List (Nat × List AV)} {m:aH} {S:az} {w w':World} {a:Act} {r:Nat} {j c:Option Nat} {i p b f:Nat} {l d:Array Nat} (h:FR ap env hp dfs nt m S w a) (o:w.heap[r]? =some (.mapIter j i l p)) (e:w'.heap[r]? =some (.mapIter c b d f)) (n:∀ k,k ≠ r→w'.heap[k]? =w.heap[k]?):FR ap env hp dfs nt m S w' a:=
 ⟨h.srel.iter o e n,h.env,h.dfs,h.size⟩
theorem FR.dead {env:dK} {hp:Hp} {dfs:List (Nat × List AV)} {m:aH} {S:az} {w:World} {a:Act} {d:Nat} (h:FR ap env hp dfs nt m S w a) (b:env.get d= .dead) (v:Value):FR ap env hp dfs nt m S w (a.put (some d) v):=by
 refine ⟨h.srel,fun t=> ?_, ?_,by rw [aC];exact h.size⟩
 ·by_cases e:t=d
  ·subst e;rw [b];simp [VR]
  ·rw [jI a (some d) v (by simpa using fun h=>e h.symm)];exact h.env t
 ·rw [lq];exact h.dfs
theorem Fr.iter {n g:bJ} {m0 m:aH} {S0 S:az} {w0 w w':World} {r:Nat} {u f:Option Nat} {p z c l:Nat} {x i:Array Nat} (h:Fr n m0 S0 w0 g m S w) (h0:w0.heap.size≤r) (A:w.heap[r]? =some (.mapIter u p x z)) (j:w'.heap[r]? =some (.mapIter f c i l)) (o:∀ k,k ≠ r→w'.heap[k]? =w.heap[k]?) (hs:w'.heap.size=w.heap.size) (v:w'.os=w.os) (t:w'.tape=w.tape) (y:w'.output=w.output):Fr n m0 S0 w0 g m S w':=
 ⟨h.ge,h.sle,v.trans h.os,t.trans h.tape,y.trans h.output,by rw [hs];exact h.size,fun k d s=>by rw [o k (by omega)];exact h.rest k d s,h.img,h.sealN,fun b B q es clk a=>by
  by_cases e:(m b).1=r
  ·rw [e,j] at a;cases a
  ·rw [o _ e] at a;exact h.mw b B q es clk a⟩
def wI (es:Array MapEntry) (i:Nat):Nat:=(es.toList.map (·.born)).getD i 0
def di (es:Array MapEntry) (done:List Nat):Array Nat:=(done.reverse.map (wI es)).toArray
theorem yF (es:Array MapEntry) (done:List Nat) (i:Nat):(di es done).push (wI es i)=di es (i::done):=by
 apply Array.toList_inj.1;simp [di]
theorem ru {es:Array MapEntry} {i:Nat} {e:MapEntry} (h:es.toList[i]? =some e):wI es i=e.born:=by
 unfold wI;rw [List.getD_eq_getElem?_getD,Ξ,h];rfl
theorem HY {es:Array MapEntry} {done:List Nat} {e:MapEntry} (h:e ∈ (leftOf es (di es done)).toList):∃ i,es.toList[i]? =some e∧i ∉ done:=by
 unfold leftOf at h;rw [Array.toList_filter,Xxg] at h;obtain ⟨b,d⟩:=h;obtain ⟨i,a⟩:=Xxs b;refine ⟨i,a,fun c=> ?_⟩;have:e.born ∈ di es done:=by
  simp only [di,Xvs,Xvi,Xvt];exact ⟨i,c,ru a⟩
 simp [this] at d
theorem Ec {es:Array MapEntry} {clk:Nat} {done:List Nat} (f:sW es clk) (n:∀ j ∈ done,j<es.size) (h:(leftOf es (di es done)).size=0):∀ i,i<es.size→i ∈ done:=by
 intro i d;refine Classical.byContradiction fun k=> ?_
 have a:i<es.toList.length:=by simpa using d
 have o:es.toList[i]? =some es.toList[i]:=ν a;have hm:es.toList[i] ∈ (leftOf es (di es done)).toList:=by
  unfold leftOf;rw [Array.toList_filter,Xxg];refine ⟨Xx1 a, ?_⟩;have hs:es.toList[i].born ∉ di es done:=by
   simp only [di,Xvs,Xvi,Xvt]
   rintro ⟨j,hj,e⟩
   have b:j<es.toList.length:=by simpa using n j hj
   rw [ru (ν b)] at e;have c:=List.pairwise_iff_getElem.1 f.1;have:j=i:=by
    rcases Xxx j i with hlt|heq|hlt
    ·exact (c j i (by simpa using b) (by simpa using a) hlt (by rw [Xzj,Xzj];exact e)).elim
    ·exact heq
    ·exact (c i j (by simpa using a) (by simpa using b) hlt (by rw [Xzj,Xzj];exact e.symm)).elim
   exact k (this ▸ hj)
  rw [Xqi,Bool.eq_false_iff];intro l;exact hs (by simpa using l)
 rw [Array.eq_empty_of_size_eq_zero h] at hm;simp at hm
def oh (P:Program) (ap:AP) (nt:Nat) (REST:Code) (pt:Value) (env:dK) (hp:Hp) (k v:AV) (PostI:aY→St→Prop):Prop:=
 ∀ m S w a,FR ap env hp [] nt m S w a→(∃ kv vv,(Instr.entry pt).run P w= .ok (.tuple #[kv,vv]) w∧PR S k kv∧PR S v vv)→
  ∀ Q,(∀ e s',PostI e s'→∀ m' S' w' a',Fr (ah hp) m S w (ah s'.hp) m' S' w'→FR ap s'.env s'.hp s'.dfs nt m' S' w' a'→xG s'.hp m' S' Q a' w' e)→REST.wp P Q a w
def fQ (it tn ok:Nat) (pt:Value) (env:dK):dK:=(it,.raw pt)::(ok,.dead)::(tn,.dead)::env
def pG (n:Nat) (done:List Nat):Nat:=((Xqd n).filter fun j=> !done.contains j).length
theorem sH {n i:Nat} {done:List Nat} (a:i<n) (b:i ∉ done):pG n (i::done)<pG n done:=by
 unfold pG;have e:(Xqd n).filter (fun j=> !(i::done).contains j)=((Xqd n).filter fun j=> !done.contains j).filter fun j=> !(j==i):=by
  rw [List.filter_filter];congr 1;funext j;simp only [List.contains_cons,Bool.not_or]
 rw [e];refine (List.length_filter_lt_length_iff_exists).2 ⟨i, ?_,by simp⟩;rw [Xxg];exact ⟨List.mem_range.2 a,by simpa using b⟩
theorem zA {S:az}:∀ {l:List AV} {us:List Value} {i:Nat} {u:Value},bi S l us→us[i]? =some u→∃ x,l[i]? =some x∧PR S x u
 | [],[],_,_,_,h=>by simp at h
 |x::l,y::us,0,u,h,hu=>by simp only [bi] at h;simp at hu;subst hu;exact ⟨x,rfl,h.1⟩
 |x::l,y::us,i+1,u,h,hu=>by
  simp only [bi] at h;obtain ⟨z,a,b⟩:=zA (i:=i) h.2 (by simpa using hu);exact ⟨z,by simpa using a,b⟩
 | [],_::_,_,_,h,_=>by simp [bi] at h
 |_::_,[],_,_,h,_=>by simp [bi] at h
theorem lh {a b:Nat} (h:a ≠ b):υ a b=false:=by
 cases e:υ a b with
 |false=>rfl
 |true=>exact absurd (Xqq e) h
theorem F6 {σ:Type} {l c ok id j n r bm clk:Nat} {Z o2:Oper} {REST:Code} {st:σ→St} {Inv:List Nat→σ→Prop} {ks vs:List AV} {es:Array MapEntry} {PostX:aY→St→Prop} {m0:aH} {S0:az} {w0:World}
  (ho1:Z.op= .next (.tmp l) false) (hd1:Z.dst=some c) (hg1:Z.guard=none) (ho2:o2.op= .extract (.tmp c) 0) (hd2:o2.dst=some ok) (hg2:o2.guard=none)
  (htn:c<nt) (hok:ok<nt) (hit:l ≠ c∧l ≠ ok) (htk:c ≠ ok)
  (hrest:∀ done s i k v,Inv done s→i<n→i ∉ done→ks[i]? =some k→vs[i]? =some v→
   oh P ap nt REST (.pointer (some ⟨r,0,none⟩)) (fQ l c ok (.pointer (some ⟨r,0,none⟩)) (st s).env) (st s).hp k v fun e s'=>(e= .normal∧∃ o,Inv (i::done) o∧s'=⟨fQ l c ok (.pointer (some ⟨r,0,none⟩)) (st o).env,(st o).hp,.dead,[]⟩)∨(e ≠ .normal∧PostX e s'))
  (hr0:w0.heap.size≤r) (hn:es.size=n) (hw:sW es clk) {Q:Exit→Act→World→Prop}
  (hend:∀ done s,Inv done s→(∀ i,i<n→i ∈ done)→XA ap h0 m0 S0 w0 nt ⟨fQ l c ok (.pointer (some ⟨r,0,none⟩)) (st s).env,(st s).hp,.dead,[]⟩ (.exit id) Q)
  (hX:∀ e s',e ≠ .normal→PostX e s'→XA ap h0 m0 S0 w0 nt s' e Q):
  ∀ (f:Nat) (done:List Nat) (s:σ),Inv done s→(∀ i ∈ done,i<n)→pG n done≤f→∀ (m:aH) (S:az) (w:World) (a:Act) (F:Nat),
   Fr (aF h0) m0 S0 w0 (ah (st s).hp) m S w→FR ap (fQ l c ok (.pointer (some ⟨r,0,none⟩)) (st s).env) (st s).hp [] nt m S w a→
   w.heap[r]? =some (.mapIter (some bm) clk (di es done) F)→clk≤F→w.heap[bm]? =some (.map es clk)→(∀ b B,ah (st s).hp b=some B→(m b).1 ≠ bm)→bi S ks (es.toList.map (·.key))→bi S vs (es.toList.map (·.val))→
   Code.rounds P (.seq (.region j #[Z,o2] false) (.seq (.cond (.tmp ok) .skip (.exit id)) REST)) Q (f+1) a w:=by
 have key:∀ (K:Act→World→Prop) (done:List Nat) (s:σ),Inv done s→(∀ i ∈ done,i<n)→∀ (m:aH) (S:az) (w:World) (a:Act) (F:Nat),
   Fr (aF h0) m0 S0 w0 (ah (st s).hp) m S w→FR ap (fQ l c ok (.pointer (some ⟨r,0,none⟩)) (st s).env) (st s).hp [] nt m S w a→
   w.heap[r]? =some (.mapIter (some bm) clk (di es done) F)→clk≤F→w.heap[bm]? =some (.map es clk)→(∀ b B,ah (st s).hp b=some B→(m b).1 ≠ bm)→bi S ks (es.toList.map (·.key))→bi S vs (es.toList.map (·.val))→
   (∀ i o,i<n→i ∉ done→Inv (i::done) o→∀ N S' w' a',Fr (aF h0) m0 S0 w0 (ah (st o).hp) N S' w'→FR ap (fQ l c ok (.pointer (some ⟨r,0,none⟩)) (st o).env) (st o).hp [] nt N S' w' a'→
    w'.heap[r]? =some (.mapIter (some bm) clk (di es (i::done)) clk)→w'.heap[bm]? =some (.map es clk)→(∀ b B,ah (st o).hp b=some B→(N b).1 ≠ bm)→bi S' ks (es.toList.map (·.key))→bi S' vs (es.toList.map (·.val))→K a' w')→
   (Code.seq (.region j #[Z,o2] false) (.seq (.cond (.tmp ok) .skip (.exit id)) REST)).wp P (Exit.then K Q) a w:=by
  intro K done s hI Y m S w a F t A M hc R hs hk X hK;have hpt:a.eval (.tmp l)= .pointer (some ⟨r,0,none⟩):=by
   have:=A.env l;simp only [fQ,dK.get,ah,Xq3,Xxd,VR,PR] at this;exact this
  have hold:∀ x ∈ es.toList,x.born<clk:=hw.2;refine wp_seq (wp_region_list ?_);refine wpList_plain hg1 fun K1 hK1=> ?_
  unfold Oper.wp;have p:∀ d,d=c∨d=ok→(fQ l c ok (.pointer (some ⟨r,0,none⟩)) (st s).env).get d= .dead:=by
   rintro d (rfl|rfl)
   ·have V:υ l d=false:=lh hit.1;have e2:υ ok d=false:=lh fun e=>htk e.symm
    simp [fQ,dK.get,ah,V,e2]
   ·have V:υ l d=false:=lh hit.2;simp [fQ,dK.get,ah,V]
  rcases run_next_at (P:=P) w Z.type r bm clk F (di es done) es clk M R hold hc with ⟨hz,E⟩|⟨e,he,w1,hw1,E⟩
  ·simp [execOp,ho1,hpt,E,Result.andThen];refine hK1 _ _ ?_;rw [hd1];refine wpList_plain hg2 fun K2 U=> ?_
   unfold Oper.wp;have hx:(a.put (some c) (.tuple #[.bool false])).eval (.tmp c)= .tuple #[.bool false]:=bY a c _ (by rw [A.size];exact htn);simp [execOp,ho2,hx,Instr.extract,Result.andThen];refine U _ _ ?_;rw [hd2];have I:=(A.dead (p c (.inl rfl)) (.tuple #[.bool false])).dead (p ok (.inr rfl)) (.bool false);have L:((a.put (some c) (.tuple #[.bool false])).put (some ok) (.bool false)).eval (.tmp ok)= .bool false:=bY _ ok _ (by rw [aC,A.size];exact hok);refine wp_seq (wp_cond_false L (wp_exit ?_));exact hend done s hI (fun i G=>Ec hw (fun q hq=>by rw [hn];exact Y q hq) hz i (by rw [hn];exact G)) m S w _ t I
  ·simp [execOp,ho1,hpt,E,Result.andThen];refine hK1 _ _ ?_;rw [hd1];refine wpList_plain hg2 fun K2 U=> ?_
   unfold Oper.wp;have hx:(a.put (some c) (.tuple #[.bool true,e.key,e.val])).eval (.tmp c)= .tuple #[.bool true,e.key,e.val]:=bY a c _ (by rw [A.size];exact htn);simp [execOp,ho2,hx,Instr.extract,Result.andThen];refine U _ _ ?_;rw [hd2];have I:=(A.dead (p c (.inl rfl)) (.tuple #[.bool true,e.key,e.val])).dead (p ok (.inr rfl)) (.bool true);have L:((a.put (some c) (.tuple #[.bool true,e.key,e.val])).put (some ok) (.bool true)).eval (.tmp ok)= .bool true:=bY _ ok _ (by rw [aC,A.size];exact hok);refine wp_seq (wp_cond_true L (wp_skip ?_));generalize (a.put (some c) (.tuple #[.bool true,e.key,e.val])).put (some ok) (.bool true)=a2 at I L;obtain ⟨i,C,y⟩:=HY he;have G:i<n:=by
    have:=(List.getElem?_eq_some_iff.1 C).1;rw [← hn];simpa using this
   have hborn:wI es i=e.born:=ru C;have z:w1.heap=w.heap∧w1.os=w.os∧w1.tape=w.tape∧w1.output=w.output:=by rcases hw1 with rfl|rfl<;>exact ⟨rfl,rfl,rfl,rfl⟩
   have hrlt:r<w.heap.size:=(Array.getElem?_eq_some_iff.1 M).1;have D:(setBlock w1 r (Obj.mapIter (some bm) clk ((di es done).push e.born) clk)).heap[r]? =some (.mapIter (some bm) clk ((di es done).push e.born) clk):=by simp [setBlock,z.1,hrlt]
   have W:∀ k,k ≠ r→(setBlock w1 r (Obj.mapIter (some bm) clk ((di es done).push e.born) clk)).heap[k]? =w.heap[k]? :=fun k hk0=>by
    simp only [setBlock,z.1];rw [Array.getElem?_setIfInBounds_ne (fun h=>hk0 h.symm)]
   have hsz:(setBlock w1 r (Obj.mapIter (some bm) clk ((di es done).push e.born) clk)).heap.size=w.heap.size:=by simp [setBlock,z.1]
   have hF3:=I.iter M D W;have hfr3:=t.iter hr0 M D W hsz z.2.1 z.2.2.1 z.2.2.2;have hbr:bm ≠ r:=by rintro rfl;rw [M] at R;cases R
   have J:=(W bm hbr).trans R;generalize setBlock w1 r (Obj.mapIter (some bm) clk ((di es done).push e.born) clk)=w2 at*
   have hent:=run_entry_at (P:=P) w2 r bm clk (di es done) es clk e D J (χ C) hw.1;obtain ⟨k,hk1,hk2⟩:=zA (i:=i) hk (u:=e.key) (by rw [Ξ,C];rfl);obtain ⟨v,hv1,hv2⟩:=zA (i:=i) X (u:=e.val) (by rw [Ξ,C];rfl);refine hrest done s i k v hI G y hk1 hv1 m S w2 a2 hF3 ⟨_,_,hent,hk2,hv2⟩ _ ?_;intro ex s' hp N S' w' a' hl hF4;have O:=hfr3.trans hl;rcases hp with ⟨rfl,o,T,rfl⟩|⟨hne,hp⟩
   ·have hkeep:∀ q,q<w2.heap.size→(∀ b B,ah (st s).hp b=some B→(m b).1 ≠ q)→w'.heap[q]? =w2.heap[q]? :=hl.rest;have hrr:w'.heap[r]? =w2.heap[r]? :=hkeep r (by omega) fun b B hB V=>by
     obtain ⟨⟨cur,ty,us,rs,h1,_⟩,_,_⟩:=hF3.srel.blk b B hB;rw [V] at h1;exact (IB D (fun _ _=>rfl) h1).1 rfl
    have hbb:w'.heap[bm]? =w2.heap[bm]? :=hkeep bm (Array.getElem?_eq_some_iff.1 J).1 hs;refine hK i o G y T N S' w' a' O hF4 ?_ (hbb.trans J) ?_ (aV hl.sle _ hk) (aV hl.sle _ X)
    ·rw [hrr,D,← hborn,yF]
    ·intro b B hB V;rcases hl.img b B hB with h9|⟨B0,h9,h10⟩
     ·have:=(Array.getElem?_eq_some_iff.1 J).1;omega
     ·exact hs b B0 h9 (by rw [← h10];exact V)
   ·have:=hX ex s' hne hp N S' w' a' O hF4;cases ex with
    |normal=>exact absurd rfl hne
    |exit q=>exact this
    |ret=>exact this
    |panic q=>exact this
 intro f
 induction f with
 | zero=>
  intro done s hI Y hu m S w a F t A M hc R hs hk X;exact key _ done s hI Y m S w a F t A M hc R hs hk X fun i o G y _ _ _ _ _ _ _ _ _ _ _ _=>by
   have:=sH G y;omega
 | succ f ih=>
  intro done s hI Y hu m S w a F t A M hc R hs hk X;exact key _ done s hI Y m S w a F t A M hc R hs hk X fun i o G y T N S' w' a' h1 h2 h3 h4 h5 h6 h7=>
   ih (i::done) o T (fun q hq=>by
    rcases List.mem_cons.1 hq with rfl|hq
    ·exact G
    ·exact Y q hq) (by have:=sH G y;omega) N S' w' a' clk h1 h2 h3 (ζ _) h4 h5 h6 h7
theorem FR.set {env:dK} {hp:Hp} {dfs:List (Nat × List AV)} {m:aH} {S:az} {w:World} {a:Act} {d:Nat} {x:AV} {v:Value} (h:FR ap env hp dfs nt m S w a) (b:d<nt) (c:VR (ah hp) m S x v):FR ap ((d,x)::env) hp dfs nt m S w (a.put (some d) v):=by
 refine ⟨h.srel,fun t=> ?_, ?_,by rw [aC];exact h.size⟩
 ·by_cases e:t=d
  ·subst e;rw [bY a t v (by rw [h.size];exact b)];simpa [dK.get,ah] using c
  ·rw [jI a (some d) v (by simpa using fun h=>e h.symm)];simpa [dK.get,ah,lh (fun h=>e h.symm:d ≠ t)] using h.env t
 ·rw [lq];exact h.dfs
theorem VS {g:bJ} {m:aH} {S:az} {x:AV} {v:Value} (h:PR S x v):VR g m S x v:=dQ x h
theorem oh.of {hs:List aP} {G f h:Nat} {b:Oper} {c:List Oper} {TAIL:Code} {n:Value} {env:dK} {hp:Hp} {k v:AV} {u:St} {A:aY→St→Prop}
  (hoe:b.op= .entry (.tmp f)) (hde:b.dst=some h) (hge:b.guard=none) (hte:h<nt) (hhp:aF hs=ah hp) (hpt:env.get f= .raw n)
  (h1:Jd P ap nt (b::c) 1 ⟨(h,.tup [k,v])::env,hp,.dead,[]⟩ u) (h2:gZ P ap hs nt TAIL u A):oh P ap nt (.seq (.region G (b::c).toArray false) TAIL) n env hp k v A:=by
 intro m S w a s ⟨kv,vv,hrun,hk,hv⟩ Q hQ;have hp':a.eval (.tmp f)=n:=by
  have:=s.env f;rw [hpt] at this;simp only [VR,PR] at this;exact this
 refine wp_seq (wp_region_list ?_);rw [Xxz];refine wpList_plain hge fun K y=> ?_
 unfold Oper.wp;simp [execOp,hoe,hp',hrun,Result.andThen];refine y _ _ ?_;rw [hde];have p:=s.set (d:=h) (x:= .tup [k,v]) (v:= .tuple #[kv,vv]) hte (by
  simp only [VR];exact ⟨[kv,vv],rfl,by simp only [aU];exact ⟨VS hk,VS hv,trivial⟩⟩)
 obtain ⟨F,I⟩:=h1 rfl;obtain ⟨_,z⟩:=h2 F;have r:=I m S w _ p (Exit.then (TAIL.wp P Q) Q) fun C S' w' a' D E=>z m S w C S' w' a' (by rw [hhp];exact D) E Q fun e s' B q S'' o l t i=>hQ e s' B q S'' o l (by rw [hhp] at t;exact t) i
 have e:=wpOps_eq_wpList (P:=P) (ops:=(b::c).toArray) (Q:=Exit.then (TAIL.wp P Q) Q) c 1 (fun j=>by simp [Nat.add_comm 1 j]);simp only [Γ,Nat.add_sub_cancel] at r;rw [e] at r;exact r
theorem oh.block {id:Nat} {REST:Code} {l:Value} {env:dK} {hp:Hp} {k v:AV} {A B:aY→St→Prop} (h:oh P ap nt REST l env hp k v A) (o:∀ s',A (.exit id) s'→B .normal s') (j:∀ e s',A e s'→e ≠ .exit id→B e s'):oh P ap nt (.block id REST) l env hp k v B:=by
 intro m S w a p n Q b;refine wp_block (h m S w a p n _ fun e s' d f S' w' a' c i=> ?_);cases e with
 |normal=>exact b _ _ (j _ _ d (by simp)) f S' w' a' c i
 | exit q=>
  by_cases hk:q=id
  ·subst hk;have:=b _ _ (o _ d) f S' w' a' c i;simpa [xG,Exit.inBlock] using this
  ·have:=b _ _ (j _ _ d (by simpa using hk)) f S' w' a' c i;simpa [xG,Exit.inBlock,hk] using this
 |ret=>exact b _ _ (j _ _ d (by simp)) f S' w' a' c i
 |panic q=>
  have:=b _ _ (j _ _ d (by simp)) f S' w' a' c i;exact this
theorem bf.push {g:bJ} {m:aH} {S:az} {w:World} (h:bf ap g m S w) (o:Obj):bf ap g m S (w.alloc o):=by
 have d:∀ k,k<w.heap.size→(w.alloc o).heap[k]? =w.heap[k]? :=fun k d=>by
  simp only [World.alloc,Array.getElem?_push];rw [if_neg (Xzw d)]
 refine ⟨h.inj,fun b B i=> ?_,fun k l v j=> ?_,h.own,h.glob⟩
 ·have c:=h.lt i;obtain ⟨⟨cur,e,vs,rest,a,p⟩,q,r⟩:=h.blk b B i;refine ⟨⟨cur,e,vs,rest, ?_,p⟩,q,r⟩;rcases a with ⟨f,a⟩|⟨f,es,clk,a,n⟩
  ·exact .inl ⟨f,by rw [d _ c];exact a⟩
  ·exact .inr ⟨f,es,clk,by rw [d _ c];exact a,n⟩
 ·have a:=h.sealed k l v j;have c:=h.seal_lt j;unfold bW at a ⊢;simp only [World.cell?] at a ⊢;rw [d k c];exact a
theorem FR.push {env:dK} {hp:Hp} {dfs:List (Nat × List AV)} {m:aH} {S:az} {w:World} {a:Act} (h:FR ap env hp dfs nt m S w a) (o:Obj):FR ap env hp dfs nt m S (w.alloc o) a:=⟨h.srel.push o,h.env,h.dfs,h.size⟩
theorem Fr.push {i g:bJ} {m0 m:aH} {S0 S:az} {w0 w:World} (h:Fr i m0 S0 w0 g m S w) {o:Obj} (l:∀ es clk,o ≠ .map es clk):Fr i m0 S0 w0 g m S (w.alloc o):=by
 have d:∀ k,k<w.heap.size→(w.alloc o).heap[k]? =w.heap[k]? :=fun k d=>by
  simp only [World.alloc,Array.getElem?_push];rw [if_neg (Xzw d)]
 have hs:(w.alloc o).heap.size=w.heap.size+1:=Array.size_push ..;refine ⟨h.ge,h.sle,h.os,h.tape,h.output,by rw [hs];exact Nat.le_succ_of_le h.size,fun k c j=>by rw [d k (Xqf c h.size)];exact h.rest k c j,h.img,h.sealN,fun b B f es clk a=> ?_⟩;by_cases e:(m b).1<w.heap.size
 ·rw [d _ e] at a;exact h.mw b B f es clk a
 ·simp only [World.alloc,Array.getElem?_push] at a;split at a
  ·cases a;exact absurd rfl (l es clk)
  ·exact h.mw b B f es clk a
theorem FR.drop {env env':dK} {hp hp':Hp} {m:aH} {S:az} {w:World} {a:Act} (h:FR ap env hp [] nt m S w a) (c:∀ x B,ah hp' x=some B→ah hp x=some B) (k:∀ x B,ah hp' x=some B→∀ y ∈ bD B.cells,ah hp' y=ah hp y) (d:∀ t,env'.get t= .dead∨(env'.get t=env.get t∧∀ y ∈ bZ (env'.get t),ah hp' y=ah hp y)):FR ap env' hp' [] nt m S w a:=by
 refine ⟨⟨fun b o B B' i j e=>h.srel.inj b o B B' (c _ _ i) (c _ _ j) e,fun b B f=> ?_,h.srel.sealed,fun b B f=>h.srel.own b B (c _ _ f),h.srel.glob⟩,fun t=> ?_, ?_,h.size⟩
 ·obtain ⟨⟨cur,e,vs,rest,i,j,s,v,q⟩,z,p⟩:=h.srel.blk b B (c _ _ f);exact ⟨⟨cur,e,vs,rest,i,j,s,jF (ig.refl S) _ (fun y l=> ⟨k b B f y l,rfl⟩) v,q⟩,z,p⟩
 ·rcases d t with e|⟨e,n⟩
  ·rw [e];simp [VR]
  ·rw [e] at n ⊢;exact qp (ig.refl S) _ (fun y l=> ⟨n y l,rfl⟩) (h.env t)
 ·have:=h.dfs;cases u:a.defers with
  |nil=>simp [dS]
  |cons x r=>rw [u] at this;simp [dS] at this
theorem Fr.drop {d:bJ} {hp hp':Hp} {m0 m:aH} {S0 S:az} {w0 w:World} (h:Fr d m0 S0 w0 (ah hp) m S w) (a:∀ x B,ah hp' x=some B→ah hp x=some B) (hbase:∀ x B0 B,d x=some B0→ah hp x=some B→ah hp' x=some B):Fr d m0 S0 w0 (ah hp') m S w:=by
 refine ⟨fun b B0 e=> ?_,h.sle,h.os,h.tape,h.output,h.size,h.rest,fun b B c=>h.img b B (a _ _ c),h.sealN,fun b B c=>h.mw b B (a _ _ c)⟩;obtain ⟨B,f,i⟩:=h.ge b B0 e;exact ⟨B,hbase b B0 B e f,i⟩
theorem OJ {σ:Type} {d p ok id j i0 n b ver tm l:Nat} {ty kt et:TypeId} {V X U W:Oper} {REST:Code} {st:σ→St} {Inv:List Nat→σ→Prop} {ks vs:List AV} {PostX Post:aY→St→Prop} {B:aP} {s:St} {s0:σ}
  (ho3:U.op= .move (.tmp tm)) (hd3:U.dst=some l) (hg3:U.guard=none) (ho4:W.op= .range ty (.tmp l)) (hd4:W.dst=some d) (hg4:W.guard=none)
  (ho1:V.op= .next (.tmp d) false) (hd1:V.dst=some p) (hg1:V.guard=none) (ho2:X.op= .extract (.tmp p) 0) (hd2:X.dst=some ok) (hg2:X.guard=none)
  (hit:d<nt) (htn:p<nt) (hok:ok<nt) (ht1:l<nt) (hne:d ≠ p∧d ≠ ok) (htk:p ≠ ok)
  (hund:P.underlying ty=some (.map kt et)) (hm:s.env.get tm= .mr b ver) (hB:ah s.hp b=some B) (hver:B.ver=ver) (hz:B.esz=dN) (hcells:B.cells= [.agg ks,.agg vs]) (hpr:B.pr=true) (hbase:aF h0 b=none) (hdfs:s.dfs= []) (hlen:ks.length=n)
  (hI0:Inv [] s0) (hsub:∀ x C,ah (st s0).hp x=some C→ah s.hp x=some C∧x ≠ b) (hcl:∀ x C,ah (st s0).hp x=some C→∀ y ∈ bD C.cells,ah (st s0).hp y=ah s.hp y)
  (henv:∀ t,(st s0).env.get t= .dead∨(t ≠ l∧t ≠ d∧(st s0).env.get t=s.env.get t∧∀ y ∈ bZ ((st s0).env.get t),ah (st s0).hp y=ah s.hp y))
  (hb2:∀ x B0 C,aF h0 x=some B0→ah s.hp x=some C→ah (st s0).hp x=some C)
  (hrest:∀ pt done s i k v,Inv done s→i<n→i ∉ done→ks[i]? =some k→vs[i]? =some v→
   oh P ap nt REST pt (fQ d p ok pt (st s).env) (st s).hp k v fun e s'=>(e= .normal∧∃ M,Inv (i::done) M∧s'=⟨fQ d p ok pt (st M).env,(st M).hp,.dead,[]⟩)∨(e ≠ .normal∧PostX e s'))
  (hend:∀ pt done s,Inv done s→(∀ i,i<n→i ∈ done)→Post .normal ⟨fQ d p ok pt (st s).env,(st s).hp,.dead,[]⟩)
  (hX:∀ e s',e ≠ .normal→PostX e s'→e ≠ .exit id∧Post e s') (hmd:∀ e s',Post e s'→s'.md= .dead):
  gZ P ap h0 nt (.seq (.region i0 #[U,W] false) (.block id (.loop (.seq (.region j #[V,X] false) (.seq (.cond (.tmp ok) .skip (.exit id)) REST))))) s Post:=by
 intro _;refine ⟨hmd,fun m0 S0 w0 m S w a z E Q hQ=>wp_seq (wp_region_list ?_)⟩;rw [hdfs] at E;have F:=E.env tm;rw [hm] at F;simp only [VR] at F;obtain ⟨B',L,_,_,hv⟩:=F;rw [hB] at L;cases L;have hv:=hv hver;obtain ⟨⟨cur,e,us,rest,N,f,hp,_⟩,_,_⟩:=E.srel.blk b B hB;have hp:=hp hpr;rw [hcells] at hp;have O:∃ es clk,w.heap[(m b).1]? =some (.map es clk)∧cur=jk es:=by
  rcases N with ⟨c,_⟩|⟨_,es,clk,c,A⟩
  ·exact absurd hz c
  ·exact ⟨es,clk,c,A⟩
 obtain ⟨es,clk,Y,rfl⟩:=O;have hu:bi S ks (es.toList.map (·.key))∧bi S vs (es.toList.map (·.val)):=by
  match us,hp,f with
  | [u1,u2],hp,f=>
   simp only [bi,PR] at hp;obtain ⟨⟨kk,rfl,c⟩,⟨vv,rfl,A⟩,_⟩:=hp;simp only [jk,Xqt,θ,List.cons.injEq,Value.agg.injEq] at f;obtain ⟨D,I,_⟩:=f;have D:es.toList.map (·.key)=kk:=by rw [← Array.toList_map,D]
   have I:es.toList.map (·.val)=vv:=by rw [← Array.toList_map,I]
   rw [D,I];exact ⟨c,A⟩
  | [],hp,_=>simp [bi] at hp
  | [_],hp,_=>simp [bi] at hp
  |_::_::_::_,hp,_=>simp [bi] at hp
 have hsz:es.size=n:=by
  have:=jE hu.1;rw [← hlen,this];simp
 have hge:w0.heap.size≤(m b).1:=by
  rcases z.img b B hB with c|⟨B0,c,_⟩
  ·exact c
  ·rw [hbase] at c;cases c
 have hwf:sW es clk:=by
  rcases z.mw b B hB _ _ Y with ⟨es0,clk0,c,_⟩|⟨_,c⟩
  ·have:=(Array.getElem?_eq_some_iff.1 c).1;omega
  ·exact c
 refine wpList_plain hg3 fun K hK=> ?_
 unfold Oper.wp;simp [execOp,ho3,Result.andThen];refine hK _ _ ?_;rw [hd3];have Z:a.eval (.tmp tm)= .map (some (m b).1):=hv;rw [Z];refine wpList_plain hg4 fun K2 hK2=> ?_
 unfold Oper.wp;have G:(a.put (some l) (.map (some (m b).1))).eval (.tmp l)= .map (some (m b).1):=bY a l _ (by rw [E.size];exact ht1);simp [execOp,ho4,G,run_range_map w ty kt et (m b).1 es clk hund Y,Result.andThen];refine hK2 _ _ ?_;rw [hd4];show (Code.block _ _).wp P Q _ _;have u:FR ap (st s0).env (st s0).hp [] nt m S w ((a.put (some l) (.map (some (m b).1))).put (some d) (.pointer (some ⟨w.heap.size,0,none⟩))):=by
  have c:=E.drop (env':=(st s0).env) (hp':=(st s0).hp) (fun x C G=>(hsub x C G).1) hcl fun t=>(henv t).imp (fun h=>h) fun h=> ⟨h.2.2.1,h.2.2.2⟩
  have g1:(st s0).env.get l= .dead:=(henv l).elim (fun h=>h) fun h=>absurd rfl h.1
  have g2:(st s0).env.get d= .dead:=(henv d).elim (fun h=>h) fun h=>absurd rfl h.2.1
  exact (c.dead g1 _).dead g2 _
 have hFe:FR ap (fQ d p ok (.pointer (some ⟨w.heap.size,0,none⟩)) (st s0).env) (st s0).hp [] nt m S w ((a.put (some l) (.map (some (m b).1))).put (some d) (.pointer (some ⟨w.heap.size,0,none⟩))):=by
  refine ⟨u.srel,fun t=> ?_,u.dfs,u.size⟩;simp only [fQ,dK.get,ah];by_cases D:d=t
  ·subst D;rw [Xq3];simp only [Xxd,VR,PR];exact bY _ d _ (by rw [aC,E.size];exact hit)
  ·rw [lh D];by_cases I:ok=t
   ·subst I;rw [Xq3];simp [VR]
   ·rw [lh I];by_cases e3:p=t
    ·subst e3;rw [Xq3];simp [VR]
    ·rw [lh e3];exact u.env t
 have T:=(z.drop (hp':=(st s0).hp) (fun x C G=>(hsub x C G).1) hb2).push (o:= .mapIter (some (m b).1) clk #[] clk) (fun _ _ h=>by cases h);have hF2:=hFe.push (.mapIter (some (m b).1) clk #[] clk);have hbl:(m b).1<w.heap.size:=(Array.getElem?_eq_some_iff.1 Y).1;have hk:∀ k,k<w.heap.size→(w.alloc (.mapIter (some (m b).1) clk #[] clk)).heap[k]? =w.heap[k]? :=fun k hk=>by
  simp only [World.alloc,Array.getElem?_push];rw [if_neg (Xzw hk)]
 refine wp_block (wp_loop_rounds (pG n []+1) ?_);refine F6 (h0:=h0) (m0:=m0) (S0:=S0) (w0:=w0) (r:=w.heap.size) (bm:=(m b).1) (clk:=clk) (es:=es) (st:=st) (Inv:=Inv) (ks:=ks) (vs:=vs) (PostX:=PostX) ho1 hd1 hg1 ho2 hd2 hg2 htn hok hne htk (fun done s i k v=>hrest _ done s i k v) z.size hsz hwf ?_ ?_ (pG n []) [] s0 hI0 (fun i hi=>by cases hi) (ζ _) m S _ _ clk T hF2 ?_ (ζ _) ?_ ?_ hu.1 hu.2
 ·intro done M hI1 R m' S' w' a' c A;have:=hQ _ _ (hend _ done M hI1 R) m' S' w' a' c A;simpa [xG,Exit.inBlock] using this
 ·intro e s' J hp';obtain ⟨c,A⟩:=hX e s' J hp';intro m' S' w' a' h3 h4;have:=hQ _ _ A m' S' w' a' h3 h4;cases e with
  |normal=>exact absurd rfl J
  |exit q=>simpa [xG,Exit.inBlock,show q ≠ id from fun e=>c (by rw [e])] using this
  |ret=>exact this
  |panic q=>exact this
 ·simp only [World.alloc,Array.getElem?_push,if_true];rfl
 ·rw [hk _ hbl];exact Y
 ·intro x C G D;obtain ⟨c,A⟩:=hsub x C G;exact A (E.srel.inj x b C B c hB D)
end
end AM
namespace AM
open Go
section
variable {P:Program} {ap:AP} {nt:Nat}
structure VP (g:bJ) (m:aH) (S:az) (w:World) (k:Nat):Prop where
 lt:k<w.heap.size
 blk:∀ b B,g b=some B→(m b).1 ≠ k
 clr:∀ o,S k o=none
theorem bf.other {g:bJ} {m:aH} {S:az} {w w':World} (h:bf ap g m S w) (j:∀ k,k<w.heap.size→w'.heap[k]? =w.heap[k]? ∨VP g m S w k):bf ap g m S w':=by
 refine ⟨h.inj,fun b B f=> ?_,fun k o v d=> ?_,h.own,h.glob⟩
 ·have c:=h.lt f;obtain ⟨⟨cur,e,vs,rest,a,n⟩,p,q⟩:=h.blk b B f;refine ⟨⟨cur,e,vs,rest, ?_,n⟩,p,q⟩;rcases j _ c with hs|hs
  ·rcases a with ⟨i,a⟩|⟨i,es,clk,a,l⟩
   ·exact .inl ⟨i,by rw [hs];exact a⟩
   ·exact .inr ⟨i,es,clk,by rw [hs];exact a,l⟩
  ·exact absurd rfl (hs.blk b B f)
 ·have a:=h.sealed k o v d;have c:=h.seal_lt d;rcases j k c with hs|hs
  ·unfold bW at a ⊢;simp only [World.cell?] at a ⊢;rw [hs];exact a
  ·rw [hs.clr o] at d;cases d
theorem FR.other {env:dK} {hp:Hp} {dfs:List (Nat × List AV)} {m:aH} {S:az} {w w':World} {a:Act} (h:FR ap env hp dfs nt m S w a) (b:∀ k,k<w.heap.size→w'.heap[k]? =w.heap[k]? ∨VP (ah hp) m S w k):FR ap env hp dfs nt m S w' a:=⟨h.srel.other b,h.env,h.dfs,h.size⟩
theorem Fr.other {e g:bJ} {m0 m:aH} {S0 S:az} {w0 w w':World} (h:Fr e m0 S0 w0 g m S w) (hs:w.heap.size≤w'.heap.size) (n:w'.os=w.os) (l:w'.tape=w.tape) (i:w'.output=w.output) (f:∀ k,k<w0.heap.size→w'.heap[k]? =w.heap[k]?) (hm:∀ b B,g b=some B→w'.heap[(m b).1]? =w.heap[(m b).1]?):Fr e m0 S0 w0 g m S w':=
 ⟨h.ge,h.sle,n.trans h.os,l.trans h.tape,i.trans h.output,Xqg h.size hs,fun k a j=>(f k a).trans (h.rest k a j),h.img,h.sealN,fun b B d es clk c=>by rw [hm b B d] at c;exact h.mw b B d es clk c⟩
end
end AM
namespace AM
open Go
open Go.ChangeMaps (setBlock)
section
variable {P:Program} {ap:AP} {h0:List aP} {nt:Nat}
def nX (S:az) (k:Nat) (us:List Value):az:=fun k' o=>if k'=k then us[o]? else S k' o
theorem SH {env:dK} {hp:Hp} {m0 m:aH} {S0 S:az} {w0 w:World} {a:Act} {k:Nat} {cur:Array Value} {e:TypeId} {us:List Value} (c:Fr (aF h0) m0 S0 w0 (ah hp) m S w) (h:FR ap env hp [] nt m S w a)
  (ho:VP (ah hp) m S w k) (hk0:w0.heap.size≤k) (hk:w.heap[k]? =some (.cells cur e (0,0))) (hc:cur.toList.take us.length=us) (h1:∀ u ∈ us,u.oneCell'=true):
  ig S (nX S k us)∧Fr (aF h0) m0 S0 w0 (ah hp) m (nX S k us) w∧FR ap env hp [] nt m (nX S k us) w a∧iM (nX S k us) k 0 us:=by
 have f:ig S (nX S k us):=fun l o v d=>by
  unfold nX;split
  ·rename_i i;subst i;rw [ho.clr] at d;cases d
  ·exact d
 have p:bf ap (ah hp) m (nX S k us) w:=by
  refine ⟨h.srel.inj,fun b B n=>(h.srel.blk b B n).mono f (Ge.refl _ _) rfl,fun l o v d=> ?_,fun b B n o v d=> ?_,fun q z y=> ?_⟩
  ·unfold nX at d;split at d
   ·rename_i i;subst i;refine oz ?_ (h1 v (χ d));rw [jh hk];rw [← hc,Xq9] at d;split at d
    ·exact d
    ·cases d
   ·exact h.srel.sealed l o v d
  ·unfold nX at d;split at d
   ·rename_i i;exact absurd i (ho.blk b B n)
   ·exact h.srel.own b B n o v d
  ·obtain ⟨vs,k1,k2⟩:=h.srel.glob q z y;exact ⟨vs,aV f _ k1,k2.mono f⟩
 refine ⟨f,⟨c.ge,c.sle.trans f,c.os,c.tape,c.output,c.size,c.rest,c.img,fun l o v d=> ?_,c.mw⟩,⟨p,fun t=>jO f (Ge.refl _ _) _ (h.env t), ?_,h.size⟩,fun j u s=> ⟨by simpa [nX] using s,h1 u (χ s)⟩⟩
 ·unfold nX at d;split at d
  ·rename_i i;subst i;exact .inr (.inl hk0)
  ·exact c.sealN l o v d
 ·have:=h.dfs;cases A:a.defers with
  |nil=>simp [dS]
  |cons x r=>rw [A] at this;simp [dS] at this
theorem VT {env:dK} {hp:Hp} {m0 m:aH} {S0 S:az} {w0 w:World} {a:Act} (b:Nat) (B:aP) {k c:Nat} (f:Fr (aF h0) m0 S0 w0 (ah hp) m S w) (l:FR ap env hp [] nt m S w a)
  (hb:ah hp b=none) (ho:VP (ah hp) m S w k) (hk0:w0.heap.size≤k) (hfro:B.fro=false) (hfz:B.fz=0) (hwf:∀ es clk,w.heap[k]? =some (Obj.map es clk)→sW es clk)
  (hrow:∃ cur e vs rest,fU w k B.esz cur e∧cur.toList=vs++rest∧(B.pr=true→bi S B.cells vs)∧aU (ah hp) m S B.cells vs∧(B.esz ≠ dN→∀ u ∈ vs,u.oneCell'=true)∧(0<B.esz→B.esz ≠ dN→cur.size=c*B.esz∧c≤maxLen)):
  ∃ m',(∀ x,x ≠ b→m' x=m x)∧m' b=(k,c)∧Fr (aF h0) m0 S0 w0 (ah ((b,B)::hp)) m' S w∧FR ap env ((b,B)::hp) [] nt m' S w a:=by
 refine ⟨fun x=>if x=b then (k,c) else m x,fun x d=>by simp [d],by simp, ?_⟩;have p:∀ x C,ah ((b,B)::hp) x=some C→(x=b∧C=B)∨(x ≠ b∧ah hp x=some C):=fun x C h=>by
  by_cases e:x=b
  ·subst e;simp [ah] at h;exact .inl ⟨rfl,h.symm⟩
  ·simp [ah,lh (fun h=>e h.symm:b ≠ x)] at h;exact .inr ⟨e,h⟩
 have j:Ge (ah hp) m (ah ((b,B)::hp)) (fun x=>if x=b then (k,c) else m x):=fun x C d=>by
  have e:x ≠ b:=fun e=>by subst e;rw [hb] at d;cases d
  exact ⟨C,by simp [ah,lh (fun h=>e h.symm:b ≠ x),d],rfl,.inl ⟨rfl,by simp [e]⟩⟩
 have I:bf ap (ah ((b,B)::hp)) (fun x=>if x=b then (k,c) else m x) S w:=by
  refine ⟨fun x y C D d K n=> ?_,fun x C d=> ?_,l.srel.sealed,fun x C d o v q=> ?_,l.srel.glob⟩
  ·rcases p x C d with ⟨E,_⟩|⟨i,F⟩<;>rcases p y D K with ⟨s,_⟩|⟨z,A⟩
   ·rw [E,s]
   ·simp [E,z] at n;exact absurd n.symm (ho.blk y D A)
   ·simp [s,i] at n;exact absurd n (ho.blk x C F)
   ·simp [i,z] at n;exact l.srel.inj x y C D F A n
  ·rcases p x C d with ⟨rfl,rfl⟩|⟨i,d⟩
   ·simp only [if_true];obtain ⟨cur,e,vs,rest,k1,k2,k3,k4,k5,k6⟩:=hrow;exact ⟨⟨cur,e,vs,rest,k1,k2,k3,iw (ig.refl S) j _ k4,k5,k6⟩,fun _=>hfz,by rw [hfz];exact Xqr _⟩
   ·simp only [if_neg i];exact (l.srel.blk x C d).mono (ig.refl S) j rfl
  ·rcases p x C d with ⟨rfl,rfl⟩|⟨i,d⟩
   ·simp only [if_true] at q;rw [ho.clr] at q;cases q
   ·simp only [if_neg i] at q;exact l.srel.own x C d o v q
 refine ⟨⟨f.ge.trans j,f.sle,f.os,f.tape,f.output,f.size,f.rest,fun x C d=> ?_,f.sealN,fun x C d es clk G=> ?_⟩,⟨I,fun t=>jO (ig.refl S) j _ (l.env t), ?_,l.size⟩⟩
 ·rcases p x C d with ⟨rfl,rfl⟩|⟨i,d⟩
  ·exact .inl (by simpa using hk0)
  ·simp only [if_neg i];exact f.img x C d
 ·rcases p x C d with ⟨rfl,rfl⟩|⟨i,d⟩
  ·simp only [if_true] at G ⊢;exact .inr ⟨hk0,hwf es clk G⟩
  ·simp only [if_neg i] at G ⊢;exact f.mw x C d es clk G
 ·have:=l.dfs;cases J:a.defers with
  |nil=>simp [dS]
  |cons x r=>rw [J] at this;simp [dS] at this
theorem FR.say {env:dK} {hp:Hp} {dfs:List (Nat × List AV)} {m:aH} {S:az} {w:World} {a:Act} {t:Nat} {x:AV} (h:FR ap env hp dfs nt m S w a) (b:VR (ah hp) m S x (a.tmps.getD t undef)):FR ap ((t,x)::env) hp dfs nt m S w a:=by
 refine ⟨h.srel,fun u=> ?_,h.dfs,h.size⟩;by_cases e:u=t
 ·subst e;simpa [dK.get,ah] using b
 ·simpa [dK.get,ah,lh (fun h=>e h.symm:t ≠ u)] using h.env u
theorem Ip {f c ok id j i0 n b ver tm O:Nat} {ty kt et:TypeId} {o1 o2 o3 o4:Oper} {REST:Code} {ks vs:List AV} {B:aP} {env:dK} {hp hp0:Hp} {env0:dK} {J:List Nat→World→Prop}
  (ho3:o3.op= .move (.tmp tm)) (hd3:o3.dst=some O) (hg3:o3.guard=none) (ho4:o4.op= .range ty (.tmp O)) (hd4:o4.dst=some f) (hg4:o4.guard=none)
  (ho1:o1.op= .next (.tmp f) false) (hd1:o1.dst=some c) (hg1:o1.guard=none) (ho2:o2.op= .extract (.tmp c) 0) (hd2:o2.dst=some ok) (hg2:o2.guard=none)
  (hit:f<nt) (htn:c<nt) (hok:ok<nt) (ht1:O<nt) (hne:f ≠ c∧f ≠ ok) (htk:c ≠ ok)
  (hund:P.underlying ty=some (.map kt et)) (hm:env.get tm= .mr b ver) (hB:ah hp b=some B) (hver:B.ver=ver) (hz:B.esz=dN) (hcells:B.cells= [.agg ks,.agg vs]) (hpr:B.pr=true) (hbase:aF h0 b=none) (hlen:ks.length=n)
  (hsub:∀ x C,ah hp0 x=some C→ah hp x=some C∧x ≠ b) (hcl:∀ x C,ah hp0 x=some C→∀ y ∈ bD C.cells,ah hp0 y=ah hp y)
  (henv:∀ t,env0.get t= .dead∨(t ≠ O∧t ≠ f∧env0.get t=env.get t∧∀ y ∈ bZ (env0.get t),ah hp0 y=ah hp y))
  (I:∀ x B0 C,aF h0 x=some B0→ah hp x=some C→ah hp0 x=some C)
  {m0 m:aH} {S0 S:az} {w0 w:World} {a:Act} (l:Fr (aF h0) m0 S0 w0 (ah hp) m S w) (s:FR ap env hp [] nt m S w a)
  (hJ0:∀ w',(∀ k,k<w.heap.size→w'.heap[k]? =w.heap[k]?)→w'.heap.size=w.heap.size+1→w'.os=w.os→w'.tape=w.tape→w'.output=w.output→J [] w') (hJi:∀ done (w1 w':World) (r:Nat) mm si se ci,J done w1→w1.heap[r]? =some (Obj.mapIter mm si se ci)→r=w.heap.size→(∀ k,k ≠ r→w'.heap[k]? =w1.heap[k]?)→w'.heap.size=w1.heap.size→w'.os=w1.os→w'.tape=w1.tape→w'.output=w1.output→J done w')
  (Q:Exit→Act→World→Prop)
  (hrest:∀ (r bm:Nat) done i k v (w1:World) a es clk (it0:Obj),r=w.heap.size→J done w1→i<n→i ∉ done→ks[i]? =some k→vs[i]? =some v→Fr (aF h0) m0 S0 w0 (ah hp0) m S w1→FR ap (fQ f c ok (.pointer (some ⟨r,0,none⟩)) env0) hp0 [] nt m S w1 a→
   w1.heap[r]? =some it0→(∀ cs e fr,it0 ≠ .cells cs e fr)→(∀ es clk,it0 ≠ .map es clk)→w1.heap[bm]? =some (.map es clk)→bm=(m b).1→
   (∃ kv vv,(Instr.entry (.pointer (some ⟨r,0,none⟩))).run P w1= .ok (.tuple #[kv,vv]) w1∧PR S k kv∧PR S v vv)→
   ∀ K:Exit→Act→World→Prop,(∀ w' a',J (i::done) w'→Fr (aF h0) m0 S0 w0 (ah hp0) m S w'→FR ap (fQ f c ok (.pointer (some ⟨r,0,none⟩)) env0) hp0 [] nt m S w' a'→w'.heap[r]? =w1.heap[r]? →w'.heap[bm]? =w1.heap[bm]? →K .normal a' w')→REST.wp P K a w1)
  (hend:∀ (r:Nat) done (w:World) a,J done w→(∀ i,i<n→i ∈ done)→Fr (aF h0) m0 S0 w0 (ah hp0) m S w→FR ap (fQ f c ok (.pointer (some ⟨r,0,none⟩)) env0) hp0 [] nt m S w a→Q .normal a w):
  (Code.seq (.region i0 #[o3,o4] false) (.block id (.loop (.seq (.region j #[o1,o2] false) (.seq (.cond (.tmp ok) .skip (.exit id)) REST))))).wp P Q a w:=by
 refine wp_seq (wp_region_list ?_);have hmv:=s.env tm;rw [hm] at hmv;simp only [VR] at hmv;obtain ⟨B',hB',_,_,hv⟩:=hmv;rw [hB] at hB';cases hB';have hv:=hv hver;obtain ⟨⟨cur,e,us,rest,hrow,D,hp',_⟩,_,_⟩:=s.srel.blk b B hB;have hp':=hp' hpr;rw [hcells] at hp';have hmap:∃ es clk,w.heap[(m b).1]? =some (.map es clk)∧cur=jk es:=by
  rcases hrow with ⟨p,_⟩|⟨_,es,clk,p,h2⟩
  ·exact absurd hz p
  ·exact ⟨es,clk,p,h2⟩
 obtain ⟨es,clk,L,rfl⟩:=hmap;have hu:bi S ks (es.toList.map (·.key))∧bi S vs (es.toList.map (·.val)):=by
  match us,hp',D with
  | [u1,u2],hp,D=>
   simp only [bi,PR] at hp;obtain ⟨⟨kk,rfl,p⟩,⟨vv,rfl,h2⟩,_⟩:=hp;simp only [jk,Xqt,θ,List.cons.injEq,Value.agg.injEq] at D;obtain ⟨E,e2,_⟩:=D;have E:es.toList.map (·.key)=kk:=by rw [← Array.toList_map,E]
   have e2:es.toList.map (·.val)=vv:=by rw [← Array.toList_map,e2]
   rw [E,e2];exact ⟨p,h2⟩
  | [],hp,_=>simp [bi] at hp
  | [_],hp,_=>simp [bi] at hp
  |_::_::_::_,hp,_=>simp [bi] at hp
 have hsz:es.size=n:=by
  have:=jE hu.1;rw [← hlen,this];simp
 have hge:w0.heap.size≤(m b).1:=by
  rcases l.img b B hB with p|⟨B0,p,_⟩
  ·exact p
  ·rw [hbase] at p;cases p
 have hwf:sW es clk:=by
  rcases l.mw b B hB _ _ L with ⟨es0,clk0,p,_⟩|⟨_,p⟩
  ·have:=(Array.getElem?_eq_some_iff.1 p).1;omega
  ·exact p
 refine wpList_plain hg3 fun K hK=> ?_
 unfold Oper.wp;simp [execOp,ho3,Result.andThen];refine hK _ _ ?_;rw [hd3];have hvt:a.eval (.tmp tm)= .map (some (m b).1):=hv;rw [hvt];refine wpList_plain hg4 fun K2 Y=> ?_
 unfold Oper.wp;have R:(a.put (some O) (.map (some (m b).1))).eval (.tmp O)= .map (some (m b).1):=bY a O _ (by rw [s.size];exact ht1);simp [execOp,ho4,R,run_range_map w ty kt et (m b).1 es clk hund L,Result.andThen];refine Y _ _ ?_;rw [hd4];show (Code.block _ _).wp P Q _ _;have U:FR ap env0 hp0 [] nt m S w ((a.put (some O) (.map (some (m b).1))).put (some f) (.pointer (some ⟨w.heap.size,0,none⟩))):=by
  have p:=s.drop (env':=env0) (hp':=hp0) (fun x C R=>(hsub x C R).1) hcl fun t=>(henv t).imp (fun h=>h) fun h=> ⟨h.2.2.1,h.2.2.2⟩
  have g1:env0.get O= .dead:=(henv O).elim (fun h=>h) fun h=>absurd rfl h.1
  have g2:env0.get f= .dead:=(henv f).elim (fun h=>h) fun h=>absurd rfl h.2.1
  exact (p.dead g1 _).dead g2 _
 have hFe:FR ap (fQ f c ok (.pointer (some ⟨w.heap.size,0,none⟩)) env0) hp0 [] nt m S w ((a.put (some O) (.map (some (m b).1))).put (some f) (.pointer (some ⟨w.heap.size,0,none⟩))):=by
  refine ⟨U.srel,fun t=> ?_,U.dfs,U.size⟩;simp only [fQ,dK.get,ah];by_cases E:f=t
  ·subst E;rw [Xq3];simp only [Xxd,VR,PR];exact bY _ f _ (by rw [aC,s.size];exact hit)
  ·rw [lh E];by_cases e2:ok=t
   ·subst e2;rw [Xq3];simp [VR]
   ·rw [lh e2];by_cases e3:c=t
    ·subst e3;rw [Xq3];simp [VR]
    ·rw [lh e3];exact U.env t
 have hfr2:=(l.drop (hp':=hp0) (fun x C R=>(hsub x C R).1) I).push (o:= .mapIter (some (m b).1) clk #[] clk) (fun _ _ h=>by cases h);have G:=hFe.push (.mapIter (some (m b).1) clk #[] clk);have hbl:(m b).1<w.heap.size:=(Array.getElem?_eq_some_iff.1 L).1;have hk:∀ k,k<w.heap.size→(w.alloc (.mapIter (some (m b).1) clk #[] clk)).heap[k]? =w.heap[k]? :=fun k hk=>by
  simp only [World.alloc,Array.getElem?_push];rw [if_neg (Xzw hk)]
 have hnew:(w.alloc (.mapIter (some (m b).1) clk #[] clk)).heap[w.heap.size]? =some (.mapIter (some (m b).1) clk (di es []) clk):=by
  simp only [World.alloc,Array.getElem?_push,if_true];rfl
 have hJ1:=hJ0 (w.alloc (.mapIter (some (m b).1) clk #[] clk)) hk (by simp) rfl rfl rfl;have hb1:=(hk _ hbl).trans L;have hoff:∀ x C,ah hp0 x=some C→(m x).1 ≠ (m b).1:=fun x C R E=>by
  obtain ⟨p,h2⟩:=hsub x C R;exact h2 (s.srel.inj x b C B p hB E)
 refine wp_block (wp_loop_rounds (pG n []+1) ?_);generalize N:w.heap.size=r at*
 have hr0:w0.heap.size≤r:=by rw [← N];exact l.size
 generalize w.alloc (.mapIter (some (m b).1) clk #[] clk)=w1 at*
 generalize (a.put (some O) (.map (some (m b).1))).put (some f) (.pointer (some ⟨r,0,none⟩))=a1 at*
 clear l s hJ0 U hFe hv hvt R hk N;have key:∀ (K:Act→World→Prop) (done:List Nat),(∀ i ∈ done,i<n)→∀ (w:World) (a:Act) (T:Nat),J done w→
   Fr (aF h0) m0 S0 w0 (ah hp0) m S w→FR ap (fQ f c ok (.pointer (some ⟨r,0,none⟩)) env0) hp0 [] nt m S w a→
   w.heap[r]? =some (.mapIter (some (m b).1) clk (di es done) T)→clk≤T→w.heap[(m b).1]? =some (.map es clk)→
   (∀ i,i<n→i ∉ done→∀ w' a',J (i::done) w'→Fr (aF h0) m0 S0 w0 (ah hp0) m S w'→FR ap (fQ f c ok (.pointer (some ⟨r,0,none⟩)) env0) hp0 [] nt m S w' a'→
    w'.heap[r]? =some (.mapIter (some (m b).1) clk (di es (i::done)) clk)→w'.heap[(m b).1]? =some (.map es clk)→K a' w')→
   (Code.seq (.region j #[o1,o2] false) (.seq (.cond (.tmp ok) .skip (.exit id)) REST)).wp P (Exit.then K (Exit.inBlock id Q)) a w:=by
  intro K done hd w a T hJ l s N hc L hK;have hpt:a.eval (.tmp f)= .pointer (some ⟨r,0,none⟩):=by
   have:=s.env f;simp only [fQ,dK.get,ah,Xq3,Xxd,VR,PR] at this;exact this
  have hold:∀ x ∈ es.toList,x.born<clk:=hwf.2;refine wp_seq (wp_region_list ?_);refine wpList_plain hg1 fun K1 hK1=> ?_
  unfold Oper.wp;have F:∀ d,d=c∨d=ok→(fQ f c ok (.pointer (some ⟨r,0,none⟩)) env0).get d= .dead:=by
   rintro d (rfl|rfl)
   ·have E:υ f d=false:=lh hne.1;have e2:υ ok d=false:=lh fun e=>htk e.symm
    simp [fQ,dK.get,ah,E,e2]
   ·have E:υ f d=false:=lh hne.2;simp [fQ,dK.get,ah,E]
  rcases run_next_at (P:=P) w o1.type r (m b).1 clk T (di es done) es clk N L hold hc with ⟨hz,Z⟩|⟨e,he,w1,hw1,Z⟩
  ·simp [execOp,ho1,hpt,Z,Result.andThen];refine hK1 _ _ ?_;rw [hd1];refine wpList_plain hg2 fun K2 Y=> ?_
   unfold Oper.wp;have R:(a.put (some c) (.tuple #[.bool false])).eval (.tmp c)= .tuple #[.bool false]:=bY a c _ (by rw [s.size];exact htn);simp [execOp,ho2,R,Instr.extract,Result.andThen];refine Y _ _ ?_;rw [hd2];have G:=(s.dead (F c (.inl rfl)) (.tuple #[.bool false])).dead (F ok (.inr rfl)) (.bool false);have I:((a.put (some c) (.tuple #[.bool false])).put (some ok) (.bool false)).eval (.tmp ok)= .bool false:=bY _ ok _ (by rw [aC,s.size];exact hok);refine wp_seq (wp_cond_false I (wp_exit ?_));have:=hend r done w _ hJ (fun i V=>Ec hwf (fun q hq=>by rw [hsz];exact hd q hq) hz i (by rw [hsz];exact V)) l G;simpa [Exit.then,Exit.inBlock] using this
  ·simp [execOp,ho1,hpt,Z,Result.andThen];refine hK1 _ _ ?_;rw [hd1];refine wpList_plain hg2 fun K2 Y=> ?_
   unfold Oper.wp;have R:(a.put (some c) (.tuple #[.bool true,e.key,e.val])).eval (.tmp c)= .tuple #[.bool true,e.key,e.val]:=bY a c _ (by rw [s.size];exact htn);simp [execOp,ho2,R,Instr.extract,Result.andThen];refine Y _ _ ?_;rw [hd2];have G:=(s.dead (F c (.inl rfl)) (.tuple #[.bool true,e.key,e.val])).dead (F ok (.inr rfl)) (.bool true);have I:((a.put (some c) (.tuple #[.bool true,e.key,e.val])).put (some ok) (.bool true)).eval (.tmp ok)= .bool true:=bY _ ok _ (by rw [aC,s.size];exact hok);refine wp_seq (wp_cond_true I (wp_skip ?_));generalize (a.put (some c) (.tuple #[.bool true,e.key,e.val])).put (some ok) (.bool true)=a2 at G I;obtain ⟨i,W,M⟩:=HY he;have V:i<n:=by
    have:=(List.getElem?_eq_some_iff.1 W).1;rw [← hsz];simpa using this
   have hborn:wI es i=e.born:=ru W;have z:w1.heap=w.heap∧w1.os=w.os∧w1.tape=w.tape∧w1.output=w.output:=by rcases hw1 with rfl|rfl<;>exact ⟨rfl,rfl,rfl,rfl⟩
   have hrlt:r<w.heap.size:=(Array.getElem?_eq_some_iff.1 N).1;have X:(setBlock w1 r (Obj.mapIter (some (m b).1) clk ((di es done).push e.born) clk)).heap[r]? =some (.mapIter (some (m b).1) clk ((di es done).push e.born) clk):=by simp [setBlock,z.1,hrlt]
   have hk':∀ k,k ≠ r→(setBlock w1 r (Obj.mapIter (some (m b).1) clk ((di es done).push e.born) clk)).heap[k]? =w.heap[k]? :=fun k hk0=>by
    simp only [setBlock,z.1];rw [Array.getElem?_setIfInBounds_ne (fun h=>hk0 h.symm)]
   have hsz':(setBlock w1 r (Obj.mapIter (some (m b).1) clk ((di es done).push e.born) clk)).heap.size=w.heap.size:=by simp [setBlock,z.1]
   have hF3:=G.iter N X hk';have hfr3:=l.iter hr0 N X hk' hsz' z.2.1 z.2.2.1 z.2.2.2;have hJ3:=hJi done w _ r _ _ _ _ hJ N rfl hk' hsz' z.2.1 z.2.2.1 z.2.2.2;have hbr:(m b).1 ≠ r:=by intro E;rw [E,N] at L;cases L
   have hb3:=(hk' _ hbr).trans L;generalize setBlock w1 r (Obj.mapIter (some (m b).1) clk ((di es done).push e.born) clk)=w2 at*
   have hent:=run_entry_at (P:=P) w2 r (m b).1 clk (di es done) es clk e X hb3 (χ W) hwf.1;obtain ⟨k,hk1,hk2⟩:=zA (i:=i) hu.1 (u:=e.key) (by rw [Ξ,W];rfl);obtain ⟨v,hv1,hv2⟩:=zA (i:=i) hu.2 (u:=e.val) (by rw [Ξ,W];rfl);refine hrest r (m b).1 done i k v w2 a2 es clk _ rfl hJ3 V M hk1 hv1 hfr3 hF3 X (fun _ _ _ h=>by cases h) (fun _ _ h=>by cases h) hb3 rfl ⟨_,_,hent,hk2,hv2⟩ _ ?_;intro w' a' hJ' hfr' hF' p h2;refine hK i V M w' a' hJ' hfr' hF' ?_ (h2.trans hb3);rw [p,X,← hborn,yF]
 have main:∀ (A:Nat) (done:List Nat),(∀ i ∈ done,i<n)→pG n done≤A→∀ (w:World) (a:Act) (T:Nat),J done w→
   Fr (aF h0) m0 S0 w0 (ah hp0) m S w→FR ap (fQ f c ok (.pointer (some ⟨r,0,none⟩)) env0) hp0 [] nt m S w a→
   w.heap[r]? =some (.mapIter (some (m b).1) clk (di es done) T)→clk≤T→w.heap[(m b).1]? =some (.map es clk)→
   Code.rounds P (.seq (.region j #[o1,o2] false) (.seq (.cond (.tmp ok) .skip (.exit id)) REST)) (Exit.inBlock id Q) (A+1) a w:=by
  intro A
  induction A with
  | zero=>
   intro done hd hu w a T hJ l s N hc L;exact key _ done hd w a T hJ l s N hc L fun i V M _ _ _ _ _ _ _=>by
    have:=sH V M;omega
  | succ A ih=>
   intro done hd hu w a T hJ l s N hc L;exact key _ done hd w a T hJ l s N hc L fun i V M w' a' p h2 h3 h4 h5=>
    ih (i::done) (fun q hq=>by
     rcases List.mem_cons.1 hq with rfl|hq
     ·exact V
     ·exact hd q hq) (by have:=sH V M;omega) w' a' clk p h2 h3 h4 (ζ _) h5
 exact main (pG n []) [] (fun i V=>by cases V) (ζ _) w1 a1 clk hJ1 hfr2 G hnew (ζ _) hb1
end
end AM
namespace AM
open Go
open Go.ChangeMaps (setBlock)
section
variable {P:Program} {ap:AP} {g:bJ} {m:aH} {S:az} {w:World}
theorem GG:∀ l:List Value,aU g m S (l.map fun _=>AV.dead) l
 | []=>by simp [aU]
 |_::r=>by simp only [φ,aU,VR,true_and];exact GG r
theorem uj (es:Array MapEntry) (j:Nat) (f:MapEntry→MapEntry):(es.modify j f).toList=es.toList.modify j f:=by simp [Array.toList_modify]
theorem Ig (l:List MapEntry) (j:Nat) (f:MapEntry→MapEntry) (a:∀ e,(f e).born=e.born):(l.modify j f).map (·.born)=l.map (·.born):=by
 apply Xxk;intro n;simp only [Ξ,Xjy];cases l[n]? with
 |none=>rfl
 |some e=>simp;split<;>simp [a]
theorem JQ (l:List MapEntry) (j:Nat) (v:Value):(l.modify j fun e=> {e with val:=v}).map (·.key)=l.map (·.key):=by
 apply Xxk;intro n;simp only [Ξ,Xjy];cases l[n]? with
 |none=>rfl
 |some e=>simp;split<;>simp
theorem Oc (o:dJ P ap) {t K L:Nat} {N C T:TI} {i Q:TypeInfo} {z l:Value} {R:TypeDesc} (J:uO P t N i (.map K L) z) (s:ap.tyAt K=some C) (p:uO P L T Q R l) {k:AV} {ck:Value} (E:gJ C k=true) (O:VR g m S k ck)
  {b:Nat} {es:Array MapEntry} {clk:Nat} (hb:w.heap[b]? =some (.map es clk)) (hw:sW es clk) {ks:List AV} (hks:aU g m S ks (es.toList.map (·.key))) (hka:ks.all (gJ C)=true):
  ∃ v0 st c a j,(Instr.mapEntry t (.map (some b)) ck).run P w= .ok (.tuple #[v0,goInt st]) (setBlock w b (.map c a))∧
   ((∃ e,es.toList[j]? =some e∧e.key=ck∧v0=e.val∧c=es∧a=clk)∨(ks.any (Ad k)=false∧c=es.push ⟨ck,l,clk⟩∧a=clk+1∧j=es.size∧v0=l))∧sW c a∧
   ∀ (h:World) (val:Value),h.heap[b]? =some (.map c a)→∃ es',(Instr.entryStore t (.map (some b)) (goInt st) val).run P h= .ok () (setBlock h b (.map es' a))∧es'.toList=(c.toList.modify j fun e=> {e with val:=val})∧sW es' a:=by
 obtain ⟨Y,dk,W,d⟩:=bV o s;have f:=wW (w:=w) o s d E O;have store:∀ (c:Array MapEntry) (a j:Nat) (B:MapEntry),sW c a→c.toList[j]? =some B→∀ (h:World) (val:Value),h.heap[b]? =some (.map c a)→
   ∃ es',(Instr.entryStore t (.map (some b)) (goInt B.born) val).run P h= .ok () (setBlock h b (.map es' a))∧es'.toList=(c.toList.modify j fun e=> {e with val:=val})∧sW es' a:=by
  intro c a j B r M h val A;have u:c.findIdx? (fun e=>(e.born:Int)==(B.born:Int))=some j:=by
   rw [WideElems.findIdx_arr];exact WideElems.findIdx_born r.1 M
  refine ⟨c.modify j fun e=> {e with val:=val}, ?_,uj _ _ _, ?_⟩
  ·simp [Instr.entryStore,MapKept.run_getObj_map A,asInt,asIntOf,goInt,u,MapKept.run_setObj_map _ A,Result.andThen,setBlock]
  ·exact r.same (by rw [uj];exact Ig _ _ _ fun _=>rfl)
 rcases lW f (v:= .dead) (cv:= .nilFunc) (by simp only [VR]) es.toList ks (es.toList.map fun _=>AV.dead) 0 hks (by have:=GG (g:=g) (m:=m) (S:=S) (es.toList.map (·.val));rwa [List.map_map] at this) hka with ⟨D,Z,U,_⟩|⟨j,e,x,D,y,F,V,_,r6,_⟩
 ·have q:sW (es.push ⟨ck,l,clk⟩) (clk+1):=sW.push ck l hw;refine ⟨l,clk,es.push ⟨ck,l,clk⟩,clk+1,es.size, ?_,.inr ⟨U,rfl,rfl,rfl,rfl⟩,q, ?_⟩
  ·simp [Instr.mapEntry,run_underlying J.und,MapKept.run_getObj_map hb,f.chk,D.run d,zeroValue,typeInfo,p.info,p.zero,MapKept.run_setObj_map _ hb,Result.andThen,setBlock]
  ·exact store _ _ _ ⟨ck,l,clk⟩ q (by simp)
 ·have G:es[j]? =some e:=by simpa using y
  have hsame:es.modify j (fun e'=> {e' with key:=ck})=es:=by
   apply Array.ext';rw [uj];apply Xxk;intro n;rw [Xjy];by_cases hn:j=n
   ·subst hn;rw [y];simp only [Xqu,if_true];rw [← F];rfl
   ·simp [hn]
  refine ⟨e.val,e.born,es,clk,j, ?_,.inl ⟨e,y,F,rfl,rfl,rfl⟩,hw,store _ _ _ e hw y⟩;have X:es.toList[j]? =some e:=y;have I:(Instr.keyThatStays e.key ck).run P w= .ok ck w:=by rw [F];exact f.stay
  simp [Instr.mapEntry,run_underlying J.und,MapKept.run_getObj_map hb,f.chk,D.run d,G,I,hsame,MapKept.run_setObj_map _ hb,Result.andThen,setBlock]
end
end AM
namespace AM
open Go
open Go.ChangeMaps (setBlock)
abbrev Cl:=Int × Int
def cC (c:Cl):List AV:= [.int .i64 c.1,.int .i64 c.2]
def cA (c:Cl):AV:= .agg (cC c)
def cU (c:Cl):List Value:= [.int .i64 c.1,.int .i64 c.2]
def cV (c:Cl):Value:= .agg (cU c).toArray
def cL (l:List Cl):List AV:=l.flatMap cC
def ES (l:List Cl):List Value:=l.flatMap cU
theorem Yy {c d:Cl} (h:cV c=cV d):c=d:=by
 have h:=Value.agg.inj h;have h:=congrArg Array.toList h;simp only [cU,Xxz,List.cons.injEq,Value.int.injEq,true_and,and_true] at h;exact Prod.ext h.1 h.2
theorem Jp (c:Cl):∀ u ∈ cU c,u.oneCell'=true:=by
 intro u a;simp only [cU,Xqs,List.not_mem_nil,or_false] at a;rcases a with rfl|rfl<;>rfl
theorem Uc (l:List Cl):∀ u ∈ ES l,u.oneCell'=true:=by
 intro u a;obtain ⟨c,_,h⟩:=List.mem_flatMap.1 a;exact Jp c u h
theorem Ub (l:List Cl):(ES l).length=l.length*2:=by
 unfold ES
 induction l with
 |nil=>rfl
 |cons c l ih=>simp only [List.flatMap_cons,ξ,ih,Γ];simp [cU];omega
theorem Jf {S:az} (c:Cl):bi S (cC c) (cU c):=by simp [cC,cU,bi,PR]
theorem Pm {S:az}:∀ l:List Cl,bi S (cL l) (ES l)
 | []=>by simp [cL,ES,bi]
 |c::l=>iK (Jf c) (Pm l)
theorem Pn {S:az} (c:Cl):PR S (cA c) (cV c):=by simp only [cA,cV,PR];exact ⟨cU c,rfl,Jf c⟩
theorem DF {S:az} {c:Cl} {v:Value} (h:PR S (cA c) v):v=cV c:=by
 simp only [cA,cC,PR] at h;obtain ⟨vs,rfl,h⟩:=h
 match vs,h with
 | [a,b],h=>simp only [bi,PR] at h;obtain ⟨rfl,rfl,_⟩:=h;rfl
 | [],h=>simp [bi] at h
 | [_],h=>simp [bi] at h
 |_::_::_::_,h=>simp [bi] at h
theorem zB {S:az}:∀ {l:List Cl} {us:List Value},bi S (cL l) us→us=ES l
 | [],us,h=>by cases us with|nil=>rfl|cons _ _=>simp [cL,bi] at h
 | c::l,us,h=>by
  have e:cL (c::l)= .int .i64 c.1::.int .i64 c.2::cL l:=rfl;rw [e] at h
  match us,h with
  |a::b::us,h=>
   simp only [bi,PR] at h;obtain ⟨rfl,rfl,h⟩:=h;rw [zB h];rfl
  | [],h=>simp [bi] at h
  | [_],h=>simp [bi] at h
abbrev Ut:=List (Cl × List Cl)
def dm:Ut→Cl→List Cl
 | [],_=> []
 |(x,l)::r,d=>if x=d then l else dm r d
def jy:Ut→Cl→Cl→Ut
 | [],d,c=> [(d,[c])]
 |(x,l)::r,d,c=>if x=d then (x,l++ [c])::r else (x,l)::jy r d c
theorem Ew:∀ {U:Ut} {d:Cl},d ∉ U.map (·.1)→dm U d= []∧∀ c,jy U d c=U++ [(d,[c])]
 | [],_,_=> ⟨rfl,fun _=>rfl⟩
 |(x,l)::r,d,h=>by
  simp only [φ,Xqs,not_or] at h;obtain ⟨f,b⟩:=Ew h.2;have a:x ≠ d:=fun e=>h.1 e.symm
  exact ⟨by rw [dm,if_neg a,f],fun c=>by rw [jy,if_neg a,b];rfl⟩
theorem M_:∀ {U:Ut} {j:Nat} {x:Cl × List Cl},(U.map (·.1)).Nodup→U[j]? =some x→dm U x.1=x.2∧∀ c,jy U x.1 c=U.set j (x.1,x.2++ [c])
 | [],_,_,_,h=>by simp at h
 |(y,l)::r,0,x,_,h=>by simp at h;subst h;exact ⟨by rw [dm,if_pos rfl],fun c=>by rw [jy,if_pos rfl];rfl⟩
 |(y,l)::r,j+1,x,hn,h=>by
  simp only [φ,List.nodup_cons] at hn;simp only [List.getElem?_cons_succ] at h;have a:y ≠ x.1:=fun e=>hn.1 (List.mem_map.2 ⟨x,χ h,e.symm⟩)
  obtain ⟨d,b⟩:=M_ hn.2 h;exact ⟨by rw [dm,if_neg a,d],fun c=>by rw [jy,if_neg a,b];rfl⟩
theorem DJ:∀ (U:Ut) (d c:Cl),(jy U d c).map (·.1)=if d ∈ U.map (·.1) then U.map (·.1) else U.map (·.1)++ [d]
 | [],d,c=>by simp [jy]
 | (x,l)::r,d,c=>by
  by_cases hx:x=d
  ·subst hx;simp [jy]
  ·have a:=DJ r d c;rw [jy,if_neg hx,φ,a];have:d ≠ x:=fun e=>hx e.symm
   by_cases hd:d ∈ r.map (·.1)<;>simp [hd,this]
theorem Ji {U:Ut} {d c:Cl} (h:(U.map (·.1)).Nodup):((jy U d c).map (·.1)).Nodup:=by
 rw [DJ];split
 ·exact h
 ·rename_i j;rw [List.nodup_append];exact ⟨h,by simp,fun a i b f e=>by simp at f;subst f;subst e;exact j i⟩
theorem wu:∀ (U:Ut) (d c y:Cl),dm (jy U d c) y=if y=d then dm U d++ [c] else dm U y
 | [],d,c,y=>by
  by_cases h:y=d
  ·subst h;simp [jy,dm]
  ·have a:d ≠ y:=fun e=>h e.symm
   simp [jy,dm,h,a]
 | (x,l)::r,d,c,y=>by
  by_cases hx:x=d
  ·subst hx;by_cases h:y=x
   ·subst h;simp [jy,dm]
   ·have a:x ≠ y:=fun e=>h e.symm
    simp [jy,dm,h,a]
  ·have b:=wu r d c y;rw [jy,if_neg hx];by_cases h:x=y
   ·subst h;simp [dm,hx]
   ·rw [dm,if_neg h,b];by_cases h2:y=d
    ·subst h2;simp [dm,h]
    ·simp [dm,h2,h]
section
variable {P:Program} {ap:AP}
structure yS (w:World) (base:Nat) (e:TypeId) (um x:Nat) (U:Ut) (bnd:Nat):Prop where
 ex:∃ es clk,w.heap[um]? =some (.map es clk)∧sW es clk∧es.toList.map (·.key)=U.map (fun x=>cV x.1)∧
  (∀ (i:Nat) (x:Cl × List Cl) (en:MapEntry),U[i]? =some x→es.toList[i]? =some en→x.2.length≤bnd∧w.ownsRow base e 2 en.val x.2.length (ES x.2))∧
  (∀ (i j:Nat) (en en':MapEntry),es.toList[i]? =some en→es.toList[j]? =some en'→i ≠ j→en.val.ownBlock=none∨en.val.ownBlock ≠ en'.val.ownBlock)∧∀ en ∈ es.toList,en.val.ownBlock ≠ some x
 lt:um<base
 nd:(U.map (·.1)).Nodup
theorem yS.new {w:World} {base a clk x:Nat} {e:TypeId} (h:w.heap[a]? =some (.map #[] clk)) (c:a<base):yS w base e a x [] 0:=
 ⟨⟨#[],clk,h,⟨by simp,by simp⟩,rfl,fun i x b h=>by simp at h,fun i j b d h=>by simp at h,fun b h=>by simp at h⟩,c,by simp⟩
theorem yS.kept {w w':World} {base b x:Nat} {e:TypeId} {U:Ut} {a:Nat} (h:yS w base e b x U a) (f:w.grownBy w' none):yS w' base e b x U a:=by
 obtain ⟨⟨es,clk,d,n,o,s,l,t⟩,q,r⟩:=h;refine ⟨⟨es,clk,(f.block b (Array.getElem?_eq_some_iff.1 d).1 (by simp)).trans d,n,o,fun i x c u j=> ?_,l,t⟩,q,r⟩;obtain ⟨p,k⟩:=s i x c u j;exact ⟨p,k.kept f (by cases c.val.ownBlock<;>simp)⟩
theorem yS.apart {w w':World} {base b x r:Nat} {e:TypeId} {U:Ut} {a:Nat} (h:yS w base e b x U a) (G:r<base) (f:b ≠ r) (j:∀ k,k ≠ r→w'.heap[k]? =w.heap[k]?):yS w' base e b x U a:=by
 obtain ⟨⟨es,clk,o,t,v,D,s,E⟩,z,A⟩:=h;refine ⟨⟨es,clk,(j b f).trans o,t,v,fun i x n F l=> ?_,s,E⟩,z,A⟩;obtain ⟨y,q,c⟩:=D i x n F l;refine ⟨y,q, ?_⟩;rcases c with c|⟨g,d,cur,B,p,C,u⟩
 ·exact .inl c
 ·exact .inr ⟨g,d,cur,B,p,(j g (by omega)).trans C,u⟩
theorem yS.new_x {w:World} {base l x y:Nat} {e:TypeId} {U:Ut} {a:Nat} (h:yS w base e l x U a) (u:w.heap.size≤y):yS w base e l y U a:=by
 obtain ⟨⟨es,clk,o,r,j,k,p,_⟩,s,t⟩:=h;refine ⟨⟨es,clk,o,r,j,k,p,fun n d q=> ?_⟩,s,t⟩;obtain ⟨i,f⟩:=Xxs d;have b:es.toList.length=U.length:=by have:=congrArg κ j;simpa using this
 have c:i<U.length:=by rw [← b];exact (List.getElem?_eq_some_iff.1 f).1
 have:=(k i U[i] n (ν c) f).2.lt _ q;omega
theorem yS.mono {w:World} {base f x:Nat} {e:TypeId} {U:Ut} {a bnd':Nat} (h:yS w base e f x U a) (r:a≤bnd'):yS w base e f x U bnd':=by
 obtain ⟨⟨es,clk,k,n,o,d,l,s⟩,p,q⟩:=h;exact ⟨⟨es,clk,k,n,o,fun i x c j b=> ⟨Xqg (d i x c j b).1 r,(d i x c j b).2⟩,l,s⟩,p,q⟩
theorem D9 {w:World} {b:Nat} (o:Obj):w.grownBy (setBlock w b o) (some b):=
 ⟨rfl,rfl,rfl,by simp [setBlock],fun k _ a=>by
  simp only [setBlock];exact Array.getElem?_setIfInBounds_ne fun e=>a (by rw [e])⟩
theorem Np {w:World} {b:Nat} (o:Obj) (h:b<w.heap.size):(setBlock w b o).heap[b]? =some o:=by simp [setBlock,h]
theorem yS.entry (hap:dJ P ap) {t kt et:Nat} {ti tk te:TI} {i ie:TypeInfo} {z ze:Value} {de:TypeDesc} (ht:uO P t ti i (.map kt et) z) (htk:ap.tyAt kt=some tk) (hte:uO P et te ie de ze) (W:ze= .slice none 0 0) (hok:∀ c,gJ tk (cA c)=true)
  {w:World} {base um x:Nat} {e:TypeId} {U:Ut} {bnd:Nat} (h:yS w base e um x U bnd) (hbw:base≤w.heap.size) (hxw:x<w.heap.size) (d:Cl):
  ∃ C st w1,(Instr.mapEntry t (.map (some um)) (cV d)).run P w= .ok (.tuple #[C,goInt st]) w1∧w.grownBy w1 (some um)∧w1.ownsRow base e 2 C (dm U d).length (ES (dm U d))∧(dm U d).length≤bnd∧C.ownBlock ≠ some x∧
   ∀ (F:World) (G:Value) (c:Cl),w1.grownBy F C.ownBlock→F.ownsRow base e 2 G ((dm U d).length+1) (ES (dm U d++ [c]))→(G.ownBlock=C.ownBlock∨∃ k,G.ownBlock=some k∧w1.heap.size≤k)→
    ∃ w3,(Instr.entryStore t (.map (some um)) (goInt st) G).run P F= .ok () w3∧F.grownBy w3 (some um)∧yS w3 base e um x (jy U d c) (bnd+1):=by
 obtain ⟨⟨es,clk,hb,hwf,hkeys,hrows,M,hxx⟩,hlt,V⟩:=h;have u:es.toList.length=U.length:=by have:=congrArg κ hkeys;simpa using this
 have hks:aU (fun _=>none) (fun _=>(0,0)) (fun _ _=>none) (U.map fun x=>cA x.1) (es.toList.map (·.key)):=by
  rw [hkeys];clear hkeys hrows u V
  induction U with
  |nil=>simp [aU]
  |cons x U ih=>simp only [φ,aU];exact ⟨dQ _ (Pn x.1),ih⟩
 have hka:(U.map fun x=>cA x.1).all (gJ tk)=true:=by
  rw [List.all_eq_true];intro a ha;obtain ⟨x,_,rfl⟩:=List.mem_map.1 ha;exact hok x.1
 have hum:um<w.heap.size:=(Array.getElem?_eq_some_iff.1 hb).1;obtain ⟨C,st,s,p,j,hrun,hcase,hwf1,hstore⟩:=Oc (g:=fun _=>none) (m:=fun _=>(0,0)) (S:=fun _ _=>none) hap ht htk hte (hok d) (dQ _ (Pn d)) hb hwf hks hka;have T:w.grownBy (setBlock w um (.map s p)) (some um):=D9 _;have keep:∀ {w':World} {v:Value} {n:Nat} {xs:List Value},w'.ownsRow base e 2 v n xs→∀ {w'':World},w'.grownBy w'' (some um)→w''.ownsRow base e 2 v n xs:=fun {w' v n xs} ho {w''} hg=>ho.kept hg (by
  cases I:v.ownBlock with
  |none=>exact .inl rfl
  |some k=>exact .inr fun B=>by have:=(ho.lt k I).1;cases B;omega)
 have found:∃ l,dm U d=l∧l.length≤bnd∧(setBlock w um (.map s p)).ownsRow base e 2 C l.length (ES l)∧(∀ (i:Nat) (b:MapEntry),es.toList[i]? =some b→i ≠ j→b.val.ownBlock=none∨b.val.ownBlock ≠ C.ownBlock)∧
   (∀ (i:Nat) (b:MapEntry),s.toList[i]? =some b→i ≠ j→es.toList[i]? =some b)∧j<s.toList.length∧(∀ c,(jy U d c).map (fun x=>cV x.1)=s.toList.map (·.key))∧
   (∀ (c:Cl) (i:Nat) (x:Cl × List Cl),(jy U d c)[i]? =some x→(i=j∧x.2=l++ [c])∨(i ≠ j∧U[i]? =some x)):=by
  rcases hcase with ⟨b,r,hek,rfl,rfl,rfl⟩|⟨hno,rfl,rfl,rfl,rfl⟩
  ·have K:j<U.length:=by rw [← u];exact (List.getElem?_eq_some_iff.1 r).1
   have J:U[j]? =some U[j]:=ν K;have hd:U[j].1=d:=by
    have:=congrArg (fun l=>l[j]?) hkeys;simp only [Ξ,r,J,Xqu,Option.some.injEq] at this;exact Yy (this.symm.trans hek)
   obtain ⟨r1,r2⟩:=M_ V J;rw [hd] at r1 r2;obtain ⟨q1,q2⟩:=hrows j _ b J r;refine ⟨U[j].2,r1,q1,keep q2 T,fun i A f o=>M i j A b f r o,fun i A h _=>h,by rw [u];exact K,fun c=> ?_,fun c i x y=> ?_⟩
   ·rw [r2,hkeys];apply Xxk;intro n;simp only [Ξ,Xjv];by_cases hn:j=n
    ·subst hn;simp [K,hd,J]
    ·simp [hn]
   ·rw [r2,Xjv] at y;by_cases f:j=i
    ·subst f;simp [K] at y;subst y;exact .inl ⟨rfl,rfl⟩
    ·rw [if_neg f] at y;exact .inr ⟨fun e=>f e.symm,y⟩
  ·have hd:d ∉ U.map (·.1):=by
    intro hm;obtain ⟨x,y,rfl⟩:=List.mem_map.1 hm;have:(U.map fun x=>cA x.1).any (Ad (cA x.1))=true:=List.any_eq_true.2 ⟨cA x.1,List.mem_map.2 ⟨x,y,rfl⟩,by simp [cA,cC,Ad,Ff,Ae]⟩;rw [hno] at this;cases this
   obtain ⟨r1,r2⟩:=Ew hd;refine ⟨[],r1,Xqr _,by rw [W];exact World.ownsRow_nil _ _ _ _,fun i b _ _=>by rw [W];cases b.val.ownBlock<;>simp [Value.ownBlock],fun i A h f=> ?_,by simp,fun c=> ?_,fun c i x y=> ?_⟩
   ·rw [Array.toList_push] at h;have:=(List.getElem?_eq_some_iff.1 h).1;simp at this;rwa [Xqc (by simp;omega)] at h
   ·rw [r2,Xxa,← hkeys,Array.toList_push,Xxa];rfl
   ·rw [r2] at y;have hl2:es.size=U.length:=by rw [← u];simp
    by_cases f:i<U.length
    ·rw [Xqc f] at y;exact .inr ⟨by omega,y⟩
    ·have:=(List.getElem?_eq_some_iff.1 y).1;simp at this;have Q:i=U.length:=by omega
     subst Q;simp at y;subst y;exact .inl ⟨hl2.symm,rfl⟩
 obtain ⟨l,hl,hlb,O,hapart,hold,hjlt,hk1,hr1⟩:=found;have N:C.ownBlock ≠ some x:=by
  rcases hcase with ⟨b,r,_,rfl,_,_⟩|⟨_,_,_,_,rfl⟩
  ·exact hxx b (χ r)
  ·rw [W];simp [Value.ownBlock]
 refine ⟨C,st,_,hrun,T,by rw [hl];exact O,by rw [hl];exact hlb,N, ?_⟩;rw [hl];intro F G c hg2 hown' hwhere;have hum1:(setBlock w um (.map s p)).heap[um]? =some (.map s p):=Np _ hum;have hv0:C.ownBlock ≠ some um:=fun B=>by have:=(O.lt um B).1;omega
 have hw2:F.heap[um]? =some (.map s p):=(hg2.block um (by simpa [setBlock] using hum) fun B=>hv0 B.symm).trans hum1;obtain ⟨Y,hrun',L,hwf'⟩:=hstore F G hw2;have hum2:um<F.heap.size:=(Array.getElem?_eq_some_iff.1 hw2).1;have X:F.grownBy (setBlock F um (.map Y p)) (some um):=D9 _;have D:∀ (i:Nat) (b:MapEntry),Y.toList[i]? =some b→(i=j∧b.val=G)∨(i ≠ j∧es.toList[i]? =some b):=by
  intro i b f;rw [L,Xjy] at f;by_cases o:j=i
  ·subst o;left;refine ⟨rfl, ?_⟩;cases hq:s.toList[j]? with
   |none=>rw [hq] at f;cases f
   |some q=>rw [hq] at f;simp at f;subst f;rfl
  ·right;simp [o] at f;exact ⟨fun e=>o e.symm,hold i b (by simpa using f) fun e=>o e.symm⟩
 refine ⟨_,hrun',X,⟨Y,p,Np _ hum2,hwf',by rw [L,JQ,hk1],fun i x b y r=> ?_,fun i i' b A f Q hne=> ?_,fun b r=> ?_⟩,hlt,Ji V⟩
 ·rcases hr1 c i x y with ⟨rfl,R⟩|⟨o,R⟩
  ·rcases D i b r with ⟨_,I⟩|⟨E,_⟩
   ·rw [R,I];exact ⟨by simp;omega,keep (by simpa using hown') X⟩
   ·exact absurd rfl E
  ·rcases D i b r with ⟨E,_⟩|⟨_,he⟩
   ·exact absurd E o
   ·obtain ⟨q1,q2⟩:=hrows i x b R he;exact ⟨by omega,keep ((keep q2 T).kept hg2 (hapart i b he o)) X⟩
 ·have old:∀ (i:Nat) (b:MapEntry),es.toList[i]? =some b→i ≠ j→b.val.ownBlock=none∨b.val.ownBlock ≠ G.ownBlock:=by
   intro i b f o;rcases hwhere with E|⟨k,E,Z⟩
   ·rw [E];exact hapart i b f o
   ·cases I:b.val.ownBlock with
    |none=>exact .inl rfl
    |some q=>
     right;rw [E];intro B;cases B;have hiU:i<U.length:=by rw [← u];exact (List.getElem?_eq_some_iff.1 f).1
     have:=(hrows i U[i] b (ν hiU) f).2.lt _ I;simp [setBlock] at Z;omega
  rcases D i b f with ⟨E,I⟩|⟨E,Z⟩<;>rcases D i' A Q with ⟨h1',hv'⟩|⟨h1',h2'⟩
  ·omega
  ·rw [I];rcases old i' A h2' h1' with B|B
   ·cases hvv:G.ownBlock with
    |none=>exact .inl rfl
    |some q=>exact .inr (by rw [B];simp)
   ·exact .inr fun e2=>B e2.symm
  ·rw [hv'];exact old i b Z E
  ·exact M i i' b A Z h2' hne
 ·obtain ⟨i,f⟩:=Xxs r;rcases D i b f with ⟨_,I⟩|⟨_,Z⟩
  ·rw [I];rcases hwhere with h3|⟨k,h3,h4⟩
   ·rw [h3];exact N
   ·rw [h3];intro B;cases B;simp [setBlock] at h4;omega
  ·exact hxx b (χ Z)
end
end AM
namespace AM
open Go
section
variable {P:Program} {ap:AP} {h0:List aP} {nt:Nat}
def Dv (U:Ut):aP:=⟨[.agg (U.map fun x=>cA x.1),.agg (U.map fun x=> .sl (cL x.2) x.2.length false)],0,false,0,dN,true⟩
theorem yS.shut {env:dK} {hp:Hp} {m0 m:aH} {S0 S:az} {w0 w:World} {a:Act} {base u x0:Nat} {e:TypeId} {U:Ut} {bnd:Nat} (hfr:Fr (aF h0) m0 S0 w0 (ah hp) m S w) (hF:FR ap env hp [] nt m S w a)
  (h:yS w base e u x0 U bnd) (hw0:w0.heap.size≤u) (hoff:VP (ah hp) m S w u) (hclr:∀ k,base≤k→(∀ b B,ah hp b=some B→(m b).1 ≠ k)∧∀ o,S k o=none) (b:Nat) (hb:ah hp b=none):
  ∃ z S',ig S S'∧(∀ x,x ≠ b→z x=m x)∧z b=(u,0)∧(∀ k o,k<base→S' k o=S k o)∧Fr (aF h0) m0 S0 w0 (ah ((b,Dv U)::hp)) z S' w∧FR ap env ((b,Dv U)::hp) [] nt z S' w a:=by
 obtain ⟨⟨es,clk,I,hwf,hkeys,hrows,F,_⟩,hlt,hnd⟩:=h;have t:es.toList.length=U.length:=by have:=congrArg κ hkeys;simpa using this
 have G:∀ n,n≤U.length→∃ S',ig S S'∧(∀ k o,k<base→S' k o=S k o)∧Fr (aF h0) m0 S0 w0 (ah hp) m S' w∧FR ap env hp [] nt m S' w a∧
   (∀ (i:Nat) (x:Cl × List Cl) (j:MapEntry),i<n→U[i]? =some x→es.toList[i]? =some j→PR S' (.sl (cL x.2) x.2.length false) j.val)∧
   (∀ (i:Nat) (j:MapEntry),n≤i→es.toList[i]? =some j→∀ k,j.val.ownBlock=some k→∀ o,S' k o=none):=by
  intro n
  induction n with
  |zero=>
   intro _;refine ⟨S,ig.refl S,fun _ _ _=>rfl,hfr,hF,fun i x j h=>absurd h (by omega),fun i j _ A k s o=> ?_⟩;have X:i<U.length:=by rw [← t];exact (List.getElem?_eq_some_iff.1 A).1
   exact (hclr k ((hrows i U[i] j (ν X) A).2.lt k s).1).2 o
  | succ n ih=>
   intro hn;obtain ⟨S1,L,K,R,N,O,h6⟩:=ih (by omega);have r:U[n]? =some U[n]:=ν (by omega);have p:es.toList[n]? =some (es.toList[n]'(by omega)):=ν (by omega);generalize es.toList[n]'(by omega)=j at p;generalize U[n]=x at r;obtain ⟨q1,q2⟩:=hrows n x j r p;rcases q2.2 with ⟨D,J⟩|⟨g,T,cur,D,hg1,E,hg3,hg4,hg5,hg6⟩
   ·have Q:x.2= []:=Xxe J;refine ⟨S1,L,K,R,N,fun i y f A v d=> ?_,fun i f A=>h6 i f (by omega)⟩;by_cases hin:i=n
    ·subst hin;rw [r] at v;cases v;rw [p] at d;cases d;rw [Q,D];simp only [PR];exact ⟨none,0,rfl,ζ _,.inl ⟨fun _=>by simp,rfl,by simp,rfl⟩⟩
    ·exact O i y f (by omega) v d
   ·have hog:VP (ah hp) m S1 w g:=⟨(Array.getElem?_eq_some_iff.1 E).1,(hclr g hg1).1,h6 n j (ζ _) p g (by rw [D];rfl)⟩
    have hul:(ES x.2).length=x.2.length*2:=Ub _;obtain ⟨r1,r2,r3,r4⟩:=SH R N hog (by omega) E (us:=ES x.2) (by rw [hul];exact hg6) (Uc _);refine ⟨_,L.trans r1,fun k o s=>by rw [← K k o s];unfold nX;rw [if_neg (by omega)],r2,r3,fun i y f A v d=> ?_,fun i f A d k s o=> ?_⟩
    ·by_cases hin:i=n
     ·subst hin;rw [r] at v;cases v;rw [p] at d;cases d;rw [D];simp only [PR];exact ⟨_,T,rfl,hg3,.inr ⟨g,0,ES x.2,rfl,Pm _,r4⟩⟩
     ·exact bI r1 _ (O i y f (by omega) v d)
    ·have W:k ≠ g:=by
      rcases F i n f j d p (by omega) with e1|e1
      ·rw [e1] at s;cases s
      ·intro e2;subst e2;rw [s,D] at e1;exact e1 rfl
     unfold nX;rw [if_neg W];exact h6 i f (by omega) d k s o
 obtain ⟨S',L,K,R,N,O,_⟩:=G U.length (ζ _);have hoff':VP (ah hp) m S' w u:=⟨hoff.lt,hoff.blk,fun o=>by rw [K u o hlt];exact hoff.clr o⟩
 have Y:bi S' (U.map fun x=>cA x.1) (es.toList.map (·.key)):=by
  rw [hkeys];have key:∀ l:Ut,bi S' (l.map fun x=>cA x.1) (l.map fun x=>cV x.1):=by
   intro l
   induction l with
   |nil=>simp [bi]
   |cons x l ih=>simp only [φ,bi];exact ⟨Pn x.1,ih⟩
  exact key U
 have V:bi S' (U.map fun x=> .sl (cL x.2) x.2.length false) (es.toList.map (·.val)):=by
  have key:∀ (l:Ut) (q:List MapEntry),l.length=q.length→(∀ (i:Nat) (x:Cl × List Cl) (j:MapEntry),l[i]? =some x→q[i]? =some j→PR S' (.sl (cL x.2) x.2.length false) j.val)→bi S' (l.map fun x=> .sl (cL x.2) x.2.length false) (q.map (·.val)):=by
   intro l
   induction l with
   |nil=>intro q M _;cases q with|nil=>simp [bi]|cons _ _=>simp at M
   | cons x l ih=>
    intro q M hr;cases q with
    |nil=>simp at M
    |cons j q=>
     simp only [φ,bi];exact ⟨hr 0 x j rfl rfl,ih q (by simpa using M) fun i y f h h'=>hr (i+1) y f (by simpa using h) (by simpa using h')⟩
  exact key U es.toList t.symm fun i x j Q Z=>O i x j (List.getElem?_eq_some_iff.1 Q).1 Q Z
 have C:bi S' (Dv U).cells [.agg (es.map (·.key)),.agg (es.map (·.val))]:=by
  simp only [Dv,bi,PR,and_true];exact ⟨⟨es.toList.map (·.key),by rw [← Array.toList_map],Y⟩,⟨es.toList.map (·.val),by rw [← Array.toList_map],V⟩⟩
 obtain ⟨z,k1,k2,k3,k4⟩:=VT (h0:=h0) b (Dv U) (k:=u) (c:=0) R N hb hoff' hw0 rfl rfl (fun es' clk' he=>by rw [I] at he;cases he;exact hwf)
  ⟨jk es,0,_,[],.inr ⟨rfl,es,clk,I,rfl⟩,by simp [jk],fun _=>C,aZ _ C,fun J=>absurd rfl J,fun _ J=>absurd rfl J⟩
 exact ⟨z,S',L,k1,k2,K,k3,k4⟩
end
end AM
namespace AM
open Go
inductive HpS (b:Nat) (B:aP):Hp→Hp→Prop
 |nil:HpS b B [] []
 |cons {c:Nat} {C D:aP} {r l:Hp}:Dx b B D C→c ≠ b→HpS b B r l→HpS b B ((c,C)::r) ((c,D)::l)
section
variable {P:Program} {ap:AP}
theorem ak.tidy {h0:List aP} {nt:Nat} {b:Code} {e:aY} {s c f:St} (keep:List Nat) (h:ak P ap h0 nt b c e f) (p:AM.norm h0.length keep s=c) (q:c.md= .dead):ak P ap h0 nt b s e f:=by
 intro hs;obtain ⟨n,r⟩:=h q;refine ⟨n,fun m0 S0 w0 m S w a d o Q k=> ?_⟩;obtain ⟨l,i,j⟩:=iP (keep:=keep) d o;rw [p] at i j;exact r m0 S0 w0 l S w a i j Q k
end
end AM
namespace AM
open Go
def bare:AV→Bool
 | .int _ _=>true
 | .bool _=>true
 | .str _=>true
 | .nilS=>true
 | .nilP=>true
 | .nilI=>true
 | .nilF=>true
 |_=>false
def Pq:gK→Bool
 | .ret (.own xs _ e)=>xs.all bare && !(υ e dN)
 | .ret (.tup l)=>l.all bare
 | .ret x=>bare x
 |_=>false
section
variable {P:Program} {ap:AP}
theorem TW {S S':az}:∀ {x:AV} {v:Value},bare x=true→PR S x v→PR S' x v
 | .int _ _,_,_,h=>by simpa only [PR] using h
 | .bool _,_,_,h=>by simpa only [PR] using h
 | .str _,_,_,h=>by simpa only [PR] using h
 | .nilS,_,_,h=>by simpa only [PR] using h
 | .nilP,_,_,h=>by simpa only [PR] using h
 | .nilI,_,_,h=>by simpa only [PR] using h
 | .nilF,_,_,h=>by simpa only [PR] using h
theorem lL {g g':bJ} {m a:aH} {S S':az}:∀ {x:AV} {v:Value},bare x=true→VR g m S x v→VR g' a S' x v
 | .int _ _,_,_,h=>by simpa only [VR,PR] using h
 | .bool _,_,_,h=>by simpa only [VR,PR] using h
 | .str _,_,_,h=>by simpa only [VR,PR] using h
 | .nilS,_,_,h=>by simpa only [VR,PR] using h
 | .nilP,_,_,h=>by simpa only [VR,PR] using h
 | .nilI,_,_,h=>by simpa only [VR,PR] using h
 | .nilF,_,_,h=>by simpa only [VR,PR] using h
theorem Gx {S S':az}:∀ {l:List AV} {vs:List Value},l.all bare=true→bi S l vs→bi S' l vs
 | [],[],_,_=>by simp [bi]
 |x::l,v::vs,h,hv=>by
  simp only [Xxu,δ] at h;simp only [bi] at hv ⊢;exact ⟨TW h.1 hv.1,Gx h.2 hv.2⟩
 | [],_::_,_,hv=>by simp [bi] at hv
 |_::_,[],_,hv=>by simp [bi] at hv
theorem BN:∀ {l:List AV},l.all bare=true→∀ n,eF n l=(l,[])
 | [],_,n=>rfl
 |x::l,h,n=>by
  simp only [Xxu,δ] at h;have a:=BN h.2 n;cases x<;>simp [bare] at h<;>simp [eF,a]
theorem DD {gh gf a b:bJ} {m c:aH} {S S':az} {n d:Nat}:∀ {l:List AV} {vs:List Value},l.all bare=true→gQ gh gf m S n l vs→gQ a b c S' d l vs
 | [],[],_,_=>by simp [gQ]
 | x::l,v::vs,h,hv=>by
  simp only [Xxu,δ] at h;have key:VR gh m S x v∧gQ gh gf m S n l vs:=by
   cases x<;>simp [bare] at h<;>simpa only [gQ] using hv
  have k2:=(⟨lL h.1 key.1,DD h.2 key.2⟩:VR a c S' x v∧gQ a b c S' d l vs)
  cases x<;>simp [bare] at h<;>simpa only [gQ] using k2
 | [],_::_,_,hv=>by simp [gQ] at hv
 |_::_,[],_,hv=>by simp [gQ] at hv
theorem Ha {g:bJ} {m:aH} {S:az} {w:World} (c:bf ap g m S w) (n:Nat):∀ {l l':List AV} {vs:List Value},fM (frz g n) l=some l'→aU g m S l vs→bi (bU S m g w) l' vs
 | [],l',vs,h,hv=>by
  simp only [fM,Option.some.injEq] at h;subst h;cases vs with
  |nil=>simp [bi]
  |cons _ _=>simp [aU] at hv
 | x ::l,l',vs,h,hv=>by
  cases vs with
  |nil=>simp [aU] at hv
  | cons v vs=>
   simp only [aU] at hv;simp only [fM] at h;cases a:frz g n x with
   |none=>rw [a] at h;simp at h
   | some y=>
    cases b:fM (frz g n) l with
    |none=>rw [a,b] at h;simp at h
    |some r=>
     rw [a,b] at h;simp at h;subst h;simp only [bi];exact ⟨iZ c (fun _ _ h=>h) n x v y a hv.1,Ha c n b hv.2⟩
theorem nO {h:List aP} {B:aP} {b:Nat} {C:aP} (a:aF (h++ [B]) b=some C):(b<h.length∧aF h b=some C)∨(b=h.length∧C=B):=by
 unfold aF at a ⊢;by_cases hl:b<h.length
 ·rw [Xqc hl] at a;exact .inl ⟨hl,a⟩
 ·have e:b=h.length:=by
   have:=(List.getElem?_eq_some_iff.1 a).1;simp at this;omega
  subst e;simp at a;exact .inr ⟨rfl,a.symm⟩
theorem af.lend {f:Nat} {args args':List AV} {h:List aP} {out:gK} (hz:fM (frz (aF h) 6) args=some args') (F:Pq out=true) (hc:af P ap f args' [] out []):af P ap f args h out h:=by
 refine ⟨ζ _,hc.ent,fun m S w cargs t r=> ?_⟩;have I:=jJ S m (aF h) w;have U:bf ap (aF []) m (bU S m (aF h) w) w:=by
  refine ⟨fun b _ B _ p=>by simp [aF] at p,fun b B p=>by simp [aF] at p,fun k o v r=>jX t r,fun b B p=>by simp [aF] at p, ?_⟩;intro k E D;obtain ⟨vs,x,y⟩:=t.glob k E D;exact ⟨vs,aV I _ x,fun j u hj=> ⟨I _ _ _ (y j u hj).1,(y j u hj).2⟩⟩
 have X:aU (aF []) m (bU S m (aF h) w) args' cargs:=aZ _ (Ha t 6 hz r);refine (hc.calls m _ w cargs U X).mono fun e w' ⟨m',S',hF⟩=> ?_
 have hrest:∀ k,k<w.heap.size→w'.heap[k]? =w.heap[k]? :=fun k D=>hF.fr.rest k D fun b B p=>by simp [aF] at p
 have G:bf ap (aF h) m S w':=by
  refine ⟨t.inj,fun b B p=> ?_,fun k o v r=>hF.srel.sealed k o v (hF.fr.sle _ _ _ (I _ _ _ r)),t.own,t.glob⟩;obtain ⟨⟨cur,W,vs,rest,x,y⟩,Q,h4⟩:=t.blk b B p;exact ⟨⟨cur,W,vs,rest,x.same (hrest _ (t.lt p)),y⟩,Q,h4⟩
 have plain:(iE 0 out= [])→(∀ n,iE n out= [])→(TV h m S out e)→∃ m' S',yG ap h m S w out h m' S' w' e:=fun _ y Q=>by
  refine ⟨m,S, ?_, ?_,Q⟩
  ·rw [y,ο];exact G
  ·rw [y,ο];exact ⟨Ge.refl _ _,ig.refl _,hF.fr.os,hF.fr.tape,hF.fr.output,hF.fr.size,fun k D _=>hrest k D,fun b B p=> .inr ⟨B,p,rfl⟩,fun k o v r=> .inl r,
    fun b B p es clk d=> .inl ⟨es,clk,by rw [← hrest _ (t.lt p)];exact d,id⟩⟩
 have c:=hF.out
 match out,F with
 | .ret (.own E n e0),F=>
  simp only [Pq,δ,Xqi] at F;obtain ⟨T,J⟩:=F;have J:e0 ≠ dN:=fun e=>by subst e;simp at J
  obtain ⟨cv,d,a⟩:=c;subst d;have K:aF ([]++iE ([]:List aP).length (.ret (.own E n e0))) 0=some (xk E e0):=rfl;have D:w.heap.size≤(m' 0).1:=by
   rcases hF.fr.img 0 _ K with x|⟨B1,x,_⟩
   ·exact x
   ·simp [aF] at x
  obtain ⟨⟨cur,W,vs,rest,k1,k2,k3,k4,k5,k6⟩,k7,k8⟩:=hF.srel.blk 0 _ K;have N:bi S E vs:=Gx T (k3 rfl);have M:Ge (aF h) m (aF (h++ [xk E e0])) (fun i=>if i<h.length then m i else m' 0):=fun b B p=>by
   have hl:b<h.length:=(List.getElem?_eq_some_iff.1 p).1;refine ⟨B, ?_,rfl,.inl ⟨rfl,by simp [hl]⟩⟩;unfold aF at p ⊢;rw [Xqc hl];exact p
  have hmw:∀ b B,aF h b=some B→(m b).1<w.heap.size:=fun b B p=>t.lt p
  refine ⟨fun i=>if i<h.length then m i else m' 0,S,⟨fun b Z B B' C Y d=> ?_,fun b B C=> ?_,G.sealed,fun b B C o v r=> ?_,t.glob⟩,
   ⟨M,ig.refl _,hF.fr.os,hF.fr.tape,hF.fr.output,hF.fr.size,fun k D _=>hrest k D,fun b B C=> ?_,fun k o v r=> .inl r,fun b B C es clk R=> ?_⟩,⟨cv,rfl, ?_⟩⟩
  ·rcases nO C with ⟨z,q⟩|⟨A,q⟩<;>rcases nO Y with ⟨l2,V⟩|⟨e2,V⟩
   ·simp [z,l2] at d;exact t.inj b Z B B' q V d
   ·subst e2;simp [z] at d;have:=hmw b B q;omega
   ·subst A;simp [l2] at d;have:=hmw Z B' V;omega
   ·rw [A,e2]
  ·rcases nO C with ⟨z,q⟩|⟨A,q⟩
   ·simp only [if_pos z];exact (G.blk b B q).mono (ig.refl S) M rfl
   ·subst A q;simp only [Xjh,if_false];exact ⟨⟨cur,W,vs,rest,k1,k2,fun _=>N,aZ _ N,k5,k6⟩,k7,k8⟩
  ·rcases nO C with ⟨z,q⟩|⟨A,q⟩
   ·simp only [if_pos z] at r;exact t.own b B q o v r
   ·subst A q;simp only [Xjh,if_false] at r;have:=t.seal_lt r;omega
  ·rcases nO C with ⟨z,q⟩|⟨A,q⟩
   ·simp only [if_pos z];exact .inr ⟨B,q,trivial⟩
   ·subst A;simp only [Xjh,if_false];exact .inl D
  ·rcases nO C with ⟨z,q⟩|⟨A,q⟩
   ·simp only [if_pos z] at R ⊢;exact .inl ⟨es,clk,by rw [← hrest _ (hmw b B q)];exact R,id⟩
   ·subst A q;simp only [Xjh,if_false] at R ⊢;obtain ⟨es',clk',L,_⟩:∃ es clk,w'.heap[(m' 0).1]? =some (Obj.map es clk)∧True:=⟨es,clk,R,trivial⟩
    have:=k1.cells (show e0 ≠ dN from J);rw [this] at L;cases L
  ·simp only [ug,VR] at a ⊢;obtain ⟨B,p,x,y,Q⟩:=a;have p:B=xk E e0:=by
    have:=p.symm.trans K;simpa using this
   subst p;refine ⟨xk E e0,by simp [aF,iR],x,y,fun e=> ?_⟩;simpa using Q e
 | .ret (.tup l),F=>
  simp only [Pq] at F;obtain ⟨cv,d,a⟩:=c;have O:∀ n,(iR n (.tup l)).2= []:=fun n=>by
   simp only [iR,BN F n]
  refine plain (O 0) O ⟨cv,d, ?_⟩;simp only [ug] at a ⊢;obtain ⟨vs,x,y⟩:=a;exact ⟨vs,x,DD F y⟩
 | .ret (.int k n),_=>
  obtain ⟨cv,d,a⟩:=c;exact plain rfl (fun _=>rfl) ⟨cv,d,lL (g:=aF []) (m:=m') rfl a⟩
 | .ret (.bool b),_=>
  obtain ⟨cv,d,a⟩:=c;exact plain rfl (fun _=>rfl) ⟨cv,d,lL (g:=aF []) (m:=m') rfl a⟩
 | .ret (.str s),_=>
  obtain ⟨cv,d,a⟩:=c;exact plain rfl (fun _=>rfl) ⟨cv,d,lL (g:=aF []) (m:=m') rfl a⟩
 | .ret .nilS,_=>
  obtain ⟨cv,d,a⟩:=c;exact plain rfl (fun _=>rfl) ⟨cv,d,lL (g:=aF []) (m:=m') rfl a⟩
 | .ret .nilP,_=>
  obtain ⟨cv,d,a⟩:=c;exact plain rfl (fun _=>rfl) ⟨cv,d,lL (g:=aF []) (m:=m') rfl a⟩
 | .ret .nilI,_=>
  obtain ⟨cv,d,a⟩:=c;exact plain rfl (fun _=>rfl) ⟨cv,d,lL (g:=aF []) (m:=m') rfl a⟩
 | .ret .nilF,_=>
  obtain ⟨cv,d,a⟩:=c;exact plain rfl (fun _=>rfl) ⟨cv,d,lL (g:=aF []) (m:=m') rfl a⟩
end
end AM
namespace AM
open Go
section
variable {P:Program} {ap:AP} {H:bG}
def mW (r:iW):iW:={r with rb:= []}
theorem Aa {D:Nat→Bool}:∀ (rs:List iW) (i j:Nat) (e:dK) (r:iW),rs[i]? =some r→j_ D j e (rs.set i (mW r))=j_ D j e rs
 | [],i,j,e,r,h=>by simp at h
 |x::rs,0,j,e,r,h=>by
  have h:x=r:=by simpa using h
  subst h;rfl
 |x::rs,i+1,j,e,r,h=>by
  simp only [Xzv,j_];exact Aa rs i (j+1) _ r (by simpa using h)
theorem Fp {D:Nat→Bool}:∀ (rs:List iW) (i j:Nat) (e:Hp) (r:iW),rs[i]? =some r→lH D j e (rs.set i (mW r))=lH D j e rs
 | [],i,j,e,r,h=>by simp at h
 |x::rs,0,j,e,r,h=>by
  have h:x=r:=by simpa using h
  subst h;rfl
 |x::rs,i+1,j,e,r,h=>by
  simp only [Xzv,lH];exact Fp rs i (j+1) _ r (by simpa using h)
theorem EC (a:List iW) (i k:Nat) (r:iW) (h:a[i]? =some r):(a.set i (mW r)).take k=a.take k∨((a.take k)[i]? =some r∧(a.set i (mW r)).take k=(a.take k).set i (mW r)):=by
 by_cases hk:i<k
 ·right;refine ⟨by rw [Xq9,if_pos hk];exact h, ?_⟩;rw [Xkk]
 ·left;rw [Xkk,List.set_eq_of_length_le];rw [List.length_take];omega
theorem DW (a:List iW) (i k:Nat) (e:dK) (r:iW) (h:a[i]? =some r):lF e ((a.set i (mW r)).take k)=lF e (a.take k):=by
 rcases EC a i k r h with b|⟨b,c⟩
 ·rw [b]
 ·rw [c];exact Aa _ _ _ _ _ b
theorem Qs (a:List iW) (i k:Nat) (e:Hp) (r:iW) (h:a[i]? =some r):Az e ((a.set i (mW r)).take k)=Az e (a.take k):=by
 rcases EC a i k r h with b|⟨b,c⟩
 ·rw [b]
 ·rw [c];exact Fp _ _ _ _ _ b
def EI:Hp→Nat→List aP
 | [],_=> []
 |(b,B)::r,t=>match υ b t with|true=>B::EI r t|false=>EI r t
theorem EJ {b:Nat} {B:aP}:∀ {hp:Hp},(b,B) ∈ hp→B ∈ EI hp b
 | (c,C)::r,h=>by
  simp only [EI];rcases List.mem_cons.1 h with h|h
  ·cases h;rw [Xq3];exact List.mem_cons_self
  ·have a:=EJ h;split
   ·exact List.mem_cons_of_mem _ a
   ·exact a
theorem Ls {D D':Nat→Bool} (c:∀ j,D j=true→D' j=true):∀ (rs:List iW) (j:Nat) (h h':Hp),(∀ x ∈ h,x ∈ h')→∀ x ∈ lH D j h rs,x ∈ lH D' j h' rs
 | [],_,_,_,hs=>hs
 | r::rs,j,h,h',hs=>by
  simp only [lH];refine Ls c rs (j+1) _ _ ?_;intro x a;cases b:D j with
  |true=>
   rw [b] at a;rw [c j b];rcases List.mem_append.1 a with a|a
   ·exact List.mem_append.2 (.inl a)
   ·exact List.mem_append.2 (.inr (hs x a))
  |false=>
   rw [b] at a;cases D' j with
   |true=>exact List.mem_append.2 (.inr (hs x a))
   |false=>exact hs x a
def sD (D:Nat→Bool):List uf→Hp→Hp
 | [],hp=>hp
 |F::r,hp=>match D r.length with
  |true=>hp.take F.wb.length++sD D r (hp.drop F.wb.length)
  |false=>sD D r (hp.drop F.wb.length)
theorem Aw {D:Nat→Bool}:∀ (rs:List iW) (j:Nat) (h:Hp) (r:iW),lH D j h (rs++ [r])=match D (j+rs.length) with|true=>r.ups++lH D j h rs|false=>lH D j h rs
 | [],j,h,r=>by
  simp only [θ,lH,List.length_nil,Xqo];cases D j<;>rfl
 |x::rs,j,h,r=>by
  simp only [Xqt,lH];rw [Aw rs (j+1) _ r];rw [show j+1+rs.length=j+(x::rs).length by simp;omega]
theorem Cj {D:Nat→Bool} (h:Hp):∀ (l:List iW),sD D (l.map iW.foot) (Az h l.reverse)=lH D 0 h l.reverse
 | []=>rfl
 | r::l=>by
  have e:Az h (r::l).reverse=r.ups++Az h l.reverse:=by
   unfold Az;rw [Xju,Aw]
  have a:(iW.foot r).wb.length=r.ups.length:=by simp [iW.foot]
  rw [e,Xju,Aw];simp only [φ,sD,a,List.length_map,List.take_left,List.drop_left,List.length_reverse,Θ];rw [Cj h l]
theorem Hr {D:Nat→Bool} {b:Nat}:∀ (rs:List iW) (j:Nat) (h:Hp),(∃ B,ah h b=some B)→∃ B,ah (lH D j h rs) b=some B
 | [],_,_,hs=>hs
 | r ::rs,j,h,hs=>by
  simp only [lH];refine Hr rs (j+1) _ ?_;cases D j with
  |false=>exact hs
  | true=>
   by_cases hm:b ∈ r.ups.map (·.1)
   ·obtain ⟨B,a⟩:=qJ hm;exact ⟨B,by
     rw [eY,a]⟩
   ·rw [oM hm];exact hs
inductive zF (P:Program) (ap:AP) (H:bG) (n:Nat) (ops:List Oper) (o:Oper) (b d:Nat) (rt:List Nat) (env:dK) (v:AV):List aP→Prop where
 |nil:zF P ap H n ops o b d rt env v []
 | cons {B:aP} {r:List aP} {c2 c3:Cx} {t:RS}:I8 ap H n ops o {env,hp:= [(b,B)],md:= .dead,dfs:= [],dec:= [],feet:= []} c2= .ok (t,none) c3→c3.Ok→t.feet= [{rt:=rt,wt:= [d],rb:= [b],wb:= []}]→t.dfs= []→t.env.get d=v→
   zF P ap H n ops o b d rt env v r→zF P ap H n ops o b d rt env v (B::r)
theorem zF.sem (f:dJ P ap) (A:gz P ap H) {n:Nat} {ops:List Oper} {o:Oper} {b d:Nat} {rt:List Nat} {env:dK} {v:AV} {l:List aP} (y:o.dst=some d) (h:zF P ap H n ops o b d rt env v l):∀ B ∈ l,EN P ap ops.toArray o n env [(b,B)] rt [b] v [] [] none:=by
 induction h with
 |nil=>intro B u;simp at u
 | @cons B r c2 c3 t he hc hft hdf0 hvd _ ih=>
  intro B' a;rcases List.mem_cons.1 a with rfl|a
  ·obtain ⟨_,hs⟩:=pF f A he hc;obtain ⟨s,rb,ups,q,hs⟩:=hs rfl (fun t b z=>by cases z);have p:=hs.feet rfl;rw [hft] at p;simp only [List.cons.injEq,uf.mk.injEq,and_true] at p;obtain ⟨e,_,k,j⟩:=p;have c:ups= []:=by
    cases ups with
    |nil=>rfl
    |cons _ _=>simp at j
   have i:q= []:=by
    have:=hs.dfs;rw [hdf0] at this;simpa using this.symm
   have x:s=v:=by
    have:=hs.env rfl;rw [this,y,gU] at hvd;exact hvd
   have:=hs.sem;rw [← e,← k,c,i,x] at this;exact this
  ·exact ih B' a
theorem Ob (Z:dJ P ap) (hmix:P.follows .mixedOrders=true) (hH:gz P ap H) {ops:List Oper} {nt:Nat} {h0:List aP} (keep:List Nat) {id:Nat} (hnt:∀ o ∈ ops,∀ d,o.dst=some d→d<nt) {s:St} {f:RS} {c c':Cx} (i b d:Nat) (o:Oper) (rt:List Nat) (v:AV) (L:List aP)
  (e1:m_ ap H ops ops (eu s.hp) {env:=s.env,hp:=s.hp,md:=s.md,dfs:=s.dfs,dec:= [],feet:= []} c= .ok (f,none) c') (hc:c'.Ok)
  (hoi:ops[i]? =some o) (hod:o.dst=some d) (hft:f.feet.reverse[i]? =some {rt:=rt,wt:= [d],rb:= [b],wb:= []})
  (hord:qO (eu s.hp) (Region.before ops.toArray).toList (f.feet.reverse.set i {rt:=rt,wt:= [d],rb:= [],wb:= []}).reverse=true) (hback:oH ops=true) (hdl:f.dfs.length=s.dfs.length)
  (hlate:∀ k C,i<k→ops[k]? =some C→∀ x,C.dst=some x→x ≠ d∧x ∉ rt) (hdr:d ∉ rt)
  (hv:f.env.get d=v) (Y:∃ B,ah s.hp b=some B) (hL:EI (sD (fun k=> !(((Region.before ops.toArray).toList.getD k 0).testBit i)) f.feet f.hp) b=L) (hst:zF P ap H (eu s.hp+4*i) ops o b d rt f.env v L):
  ak P ap h0 nt (.region id ops.toArray true) s .normal (norm h0.length keep ⟨f.env,f.hp,f.md,f.dfs⟩):=by
 intro hmd;have hn0:∀ b B,ah s.hp b=some B→b<eu s.hp:=fun b B Y=>kM Y
 obtain ⟨_,hs⟩:=Tm Z hH ops 0 _ _ _ _ _ e1 hc;obtain ⟨h1,recs,U,e⟩:=hs hmd (fun t b Y=>by cases Y) rfl;refine ⟨h1,fun m0 S0 w0 m S w a hfr M Q hQ=>wp_region_any hmix ?_⟩;have F:f.dfs.length=s.dfs.length:=hdl;have hdf:=(e.sem F).1;have hil:i<recs.length:=by rw [U];exact (List.getElem?_eq_some_iff.1 hoi).1
 have p:recs[i]? =some recs[i]:=ν hil;have hfeet:f.feet.reverse=recs.map iW.foot:=by rw [e.feet,ο,Xjw]
 rw [hfeet] at hft hord;rw [Ξ,p,Xqu,Option.some.injEq] at hft;generalize recs[i]=r at p hft;have O:=hft;simp only [iW.foot,uf.mk.injEq] at O;obtain ⟨hrt,hwt,hrb,u⟩:=O;have u:r.ups= []:=by
  cases hu:r.ups with
  |nil=>rfl
  |cons _ _=>rw [hu] at u;simp at u
 have hset:(recs.map iW.foot).set i {rt:=rt,wt:= [d],rb:= [],wb:= []}=(recs.set i (mW r)).map iW.foot:=by
  rw [List.map_set];congr 1;simp only [iW.foot,mW,uf.mk.injEq];exact ⟨hrt.symm,hwt.symm,trivial,by rw [u];rfl⟩
 rw [hset] at hord;have V:lS (Array.replicate ops.length false)=fun _=>false:=by
  funext k;simp only [lS,Array.getD_eq_getD_getElem?];by_cases n:k<ops.length<;>simp [n]
 have hsz:ops.toArray.size=ops.length:=by simp
 rw [hsz];have W:∀ D,lH D 0 s.hp (recs.set i (mW r))=lH D 0 s.hp recs:=fun D=>Fp recs i 0 s.hp r p
 have enE:∀ D,j_ D 0 s.env (recs.set i (mW r))=j_ D 0 s.env recs:=fun D=>Aa recs i 0 s.env r p
 have T:∀ k,k ≠ i→(recs.set i (mW r))[k]? =recs[k]? :=fun k n=>List.getElem?_set_ne (Ne.symm n)
 have hgeti:(recs.set i (mW r))[i]? =some (mW r):=List.getElem?_set_self hil;have hdsto:∀ (k:Nat) (q:iW),recs[k]? =some q→∃ C:Oper,ops[k]? =some C∧q.dst=C.dst:=by
  intro k q n;obtain ⟨C,z,A,_⟩:=(e.sem F).2 k q n;exact ⟨C,by rw [← z,Θ],A⟩
 have I:r.dst=some d:=by
  obtain ⟨C,z,A⟩:=hdsto i r p;rw [hoi] at z;cases z;rw [A,hod]
 have hrv:r.v=v:=by
  have e2:(lF s.env recs).get d=(lF s.env (recs.take (i+1))).get d:=by
   rw [← vF];refine kT recs 0 _ _ rfl fun k q n N=> ?_
   rw [Θ];by_cases hki:i<k
   ·obtain ⟨C,z,A⟩:=hdsto k q n;exact absurd rfl (hlate k C hki z d (A ▸ N)).1
   ·simp;omega
  have e3:f.env.get d=v:=hv;rw [e.env] at e3;rw [show (lF s.env recs).get d=(lF s.env recs).get d from rfl,e2,DX _ _ _ _ p,I,gU] at e3;exact e3
 have hrte:∀ t ∈ rt,(lF s.env (recs.take i)).get t=f.env.get t:=by
  intro t ht;rw [e.env,← vF];refine kT recs 0 _ _ rfl fun k q n N=> ?_
  rw [Θ];rcases Xxx k i with h|h|h
  ·simp [h]
  ·subst h;rw [p] at n;cases n;rw [I] at N;cases N;exact absurd ht hdr
  ·obtain ⟨C,z,A⟩:=hdsto k q n;exact absurd ht (hlate k C h z t (A ▸ N)).2
 refine G5 (P:=P) (ap:=ap) (s:={env:=s.env,hp:=s.hp,md:=s.md,dfs:=s.dfs,dec:= [],feet:= []}) (recs:=recs.set i (mW r)) hnt (by rw [List.length_set];exact U) ?_ ?_ (BF hord) hback hn0 (m0:=m) (S0:=S) (w0:=w) (Q:=Q) ?_ ops.length _ m S _ a ⟨by simp, ?_, ?_, ?_⟩ ?_
 ·intro k q n x R;by_cases hki:k=i
  ·subst hki;rw [hgeti] at n;cases n;rw [show (mW r).ups=r.ups from rfl,u] at R;simp at R
  ·rw [T k hki] at n;have:=e.bound k q n x R;omega
 ·intro k q n;by_cases hki:k=i
  ·subst hki;rw [hgeti] at n;cases n;refine ⟨o,hoi,by rw [← hod] at I;exact I, ?_⟩;intro D m2 S2 w2 a2 X y _ l hnb Q2 K J;dsimp only at X y l J;rw [W] at X y l J;obtain ⟨B,hB⟩:=Hr (D:=D) recs 0 s.hp Y;have hBm:B ∈ L:=by
    have e4:=Cj (D:=fun j=> !(((Region.before ops.toArray).toList.getD j 0).testBit k)) s.hp recs.reverse;rw [Xjw,List.map_reverse] at e4;rw [← hL,e.hp,e.feet,ο];rw [e4];refine EJ (Ls (D:=D) (fun j hj=> ?_) recs 0 s.hp s.hp (fun _ h=>h) _ (wZ hB));cases hb2:((Region.before ops.toArray).toList.getD j 0).testBit k with
    |false=>rfl
    |true=>rw [hnb j hb2] at hj;cases hj
   have E:=hst.sem Z hH hod B hBm;rw [show (mW r).v=r.v from rfl,hrv,show (mW r).ups=r.ups from rfl,u] at J;refine E _ m2 S2 w2 a2 X (fun t ht=> ?_) (fun x R B2 hB2=> ?_) l Q2 K J
   ·have z:=y t (by rw [show (mW r).rt=r.rt from rfl,hrt];exact ht);rw [DW recs k k s.env r p,hrte t ht] at z;exact z
   ·rw [List.mem_singleton] at R;subst R;simp only [ah,Xq3,Option.some.injEq] at hB2;subst hB2;exact hB
  ·rw [T k hki] at n;obtain ⟨C,z,A,E⟩:=(e.sem F).2 k q n;rw [Θ] at z;refine ⟨C,z,A, ?_⟩;intro D m2 S2 w2 a2 X y G l _ Q2 K J;dsimp only at X y G l J;rw [W] at X y G l J;rw [DW recs i k s.env r p] at y;rw [Qs recs i k s.hp r p] at G;exact E _ m2 S2 w2 a2 X y (fun x R B hB=>by rw [← G x R];exact hB) l Q2 K J
 ·intro m' S' w' a' A h4;dsimp only at A h4;have e5:Az s.hp (recs.set i (mW r))=Az s.hp recs:=W _;have e6:lF s.env (recs.set i (mW r))=lF s.env recs:=enE _;rw [e5] at A h4;rw [e6] at h4;have h5:Fr (aF h0) m0 S0 w0 (ah f.hp) m' S' w':=by
   rw [e.hp];exact hfr.trans A
  have h6:FR ap f.env f.hp f.dfs nt m' S' w' a':=by
   rw [e.hp,e.env,hdf];exact h4
  obtain ⟨m2,h7,h8⟩:=iP (keep:=keep) (s:=⟨f.env,f.hp,f.md,f.dfs⟩) h5 h6;exact hQ m2 S' w' a' h7 h8
 ·intro k o n N;rw [V] at N;cases N
 ·dsimp only;rw [V,kX _ 0 _ (fun _ _=>rfl)];exact ⟨Ge.refl _ _,ig.refl _,rfl,rfl,rfl,ζ _,fun _ _ _=>rfl,fun _ B h=> .inr ⟨B,h,rfl⟩,fun _ _ _ h=> .inl h,(MW.refl _).mb _ _⟩
 ·dsimp only;rw [V,kX _ 0 _ (fun _ _=>rfl),rJ _ 0 _ (fun _ _=>rfl)];exact ⟨⟨M.srel.inj,fun b B Y=>M.srel.blk b B Y|>fun ⟨h1,z,A⟩=> ⟨h1,z,A⟩,M.srel.sealed,M.srel.own,M.srel.glob⟩,M.env,M.dfs,M.size⟩
 ·simp only [y_];exact Xqg (List.length_filter_le _ _) (by simp)
def yL:List Nat→List Nat→Bool
 | [],[]=>true
 |a::r,b::q=>υ a b && yL r q
 |_,_=>false
theorem lT:∀ {l r:List Nat},yL l r=true→l=r
 | [],[],_=>rfl
 |a::r,b::q,h=>by
  simp only [yL,δ] at h;rw [aA h.1,lT h.2]
 | [],_::_,h=>by simp [yL] at h
 |_::_,[],h=>by simp [yL] at h
def NF (ap:AP) (H:bG) (n:Nat) (ops:List Oper) (o:Oper) (b d:Nat) (rt:List Nat) (env:dK) (v:AV):List aP→Option (List Prop)
 | []=>some []
 | B ::r=>match I8 ap H n ops o {env,hp:= [(b,B)],md:= .dead,dfs:= [],dec:= [],feet:= []} ⟨true,[],[],[],[],[]⟩ with
  | .ok (t,none) c3=>match t.feet,t.dfs,c3.bs,c3.ps with
   | [F],[],[],[]=>match yL F.rt rt && yL F.wt [d] && yL F.rb [b] && yL F.wb [] with
    |true=>match NF ap H n ops o b d rt env v r with
     |some l=>some ((t.env.get d=v)::l)
     |none=>none
    |false=>none
   |_,_,_,_=>none
  |_=>none
theorem I7 {n:Nat} {ops:List Oper} {o:Oper} {b d:Nat} {rt:List Nat} {env:dK} {v:AV}:∀ {L:List aP} {l:List Prop},NF ap H n ops o b d rt env v L=some l→(∀ p ∈ l,p)→zF P ap H n ops o b d rt env v L
 | [],_,_,_=> .nil
 | B ::r,l,h,hl=>by
  simp only [NF] at h;split at h
  ·rename_i t s c;split at h
   ·rename_i F e f i k;split at h
    ·rename_i a;simp only [δ] at a;split at h
     ·rename_i q j;cases h;refine .cons c ⟨by rw [i];simp,by rw [k];simp⟩ ?_ f (hl _ (by simp)) (I7 j fun p hp=>hl p (by simp [hp]));rw [e,← lT a.1.1.1,← lT a.1.1.2,← lT a.1.2,← lT a.2]
     ·cases h
    ·cases h
   ·cases h
  ·cases h
def Gj (ap:AP) (H:bG) (base:Nat) (keep:List Nat) (nt0 i b d:Nat) (code:Code) (s:St) (c:Cx):R St:=
 match code with
 | .region _ opsA true=>
  (m_ ap H opsA.toList opsA.toList (eu s.hp) {env:=s.env,hp:=s.hp,md:=s.md,dfs:=s.dfs,dec:= [],feet:= []} c).bind fun (s1,p) c=>
  match p with
  |some _=> .bad 1
  |none=>
  match opsA.toList[i]?,s1.feet.reverse[i]? with
  | some o,some F=>
   match (match o.dst with|some d'=>υ d' d|none=>false) && yL F.wt [d] && yL F.rb [b] && yL F.wb [] && qO (eu s.hp) (Region.before opsA).toList (s1.feet.reverse.set i {rt:=F.rt,wt:= [d],rb:= [],wb:= []}).reverse && oH opsA.toList && υ s1.dfs.length s.dfs.length
    && (opsA.toList.drop (i+1)).all (fun o'=>match o'.dst with|some x=> !(υ x d) && !(kJ F.rt x)|none=>true) && !(kJ F.rt d) && (ah s.hp b).isSome && opsA.toList.all (tu nt0) with
   |true=>match NF ap H (eu s.hp+4*i) opsA.toList o b d F.rt s1.env (s1.env.get d) (EI (sD (fun k=> !(((Region.before opsA).toList.getD k 0).testBit i)) s1.feet s1.hp) b) with
    |some l=> .ok (norm base keep ⟨s1.env,s1.hp,s1.md,s1.dfs⟩) {c with ps:=l++c.ps}
    |none=> .bad 3
   |false=> .bad 2
  |_,_=> .bad 4
 |_=> .bad 5
theorem Ku (y:dJ P ap) (q:P.follows .mixedOrders=true) (X:gz P ap H) {h0:List aP} {keep:List Nat} {nt nt0 i b d:Nat} {j:Code} {s s':St} {c c':Cx} (L:nt0≤nt) (h:Gj ap H h0.length keep nt0 i b d j s c= .ok s' c') (u:c'.Ok):ak P ap h0 nt j s .normal s':=by
 unfold Gj at h;split at h
 ·rename_i id a;obtain ⟨⟨N,p⟩,c1,I,h⟩:=R.bind_ok h;dsimp only at h;split at h
  ·cases h
  ·split at h
   ·rename_i o F M K;split at h
    ·rename_i hcond;split at h
     ·rename_i l J;cases h;simp only [δ] at hcond;obtain ⟨⟨⟨⟨⟨⟨⟨⟨⟨⟨C,W⟩,G⟩,V⟩,U⟩,Q⟩,O⟩,T⟩,E⟩,z⟩,t⟩:=hcond;have v:o.dst=some d:=by
       split at C
       ·rename_i Y D;rw [D,aA C]
       ·cases C
      have B:F={rt:=F.rt,wt:= [d],rb:= [b],wb:= []}:=by
       rw [← lT W,← lT G,← lT V]
      have f:a.toList.toArray=a:=by simp
      have key:=Ob (nt:=nt) (h0:=h0) y q X keep (id:=id) (ops:=a.toList) (fun r n x A=>by
        have:=List.all_eq_true.1 t r n;simp only [tu,A] at this;exact Xqf (dV this) L) i b d o F.rt (N.env.get d) _ I ⟨u.bs,fun p hp=>u.ps p (by simp [hp])⟩ M v (by rw [K,← B]) (by rw [f];exact U) Q (aA O) ?_ ?_ rfl (by simpa [Option.isSome_iff_exists] using z) (by rw [f]) (I7 J fun p hp=>u.ps p (by simp [hp]))
      ·rw [f] at key;exact key
      ·intro k r Z n x A;have hm:r ∈ a.toList.drop (i+1):=by
        refine χ (i:=k - (i+1)) ?_;rw [Xxr,show i+1+(k - (i+1))=k by omega];exact n
       have:=List.all_eq_true.1 T r hm;simp only [A,δ,Xqi] at this;refine ⟨fun e=> ?_,fun e=> ?_⟩
       ·subst e;rw [Xq3] at this;cases this.1
       ·rw [fO.2 e] at this;cases this.2
      ·intro e;rw [fO.2 e] at E;cases E
     ·cases h
    ·cases h
   ·cases h
 ·cases h
end
theorem Vt {P:Program} {ap:AP} (g:xH P ap) {h0:List aP} {keep:List Nat} {nt nt0 i b d:Nat} {a:Code} {s s':St} {ans:List (gK × List aP)} {ps:List Prop} (hp:Gv ps) (e:nt0≤nt)
  (h:Gj ap (uK P ap 3000 4) h0.length keep nt0 i b d a s ⟨true,[],[],[],ans,[]⟩= .ok s' ⟨true,[],[],ps,[],[]⟩):ak P ap h0 nt a s .normal s':=by
 obtain ⟨c,_⟩:=gX g.apok g.mixed g.fnok 3000 4;exact Ku g.apok g.mixed c e h ⟨by simp,hp.mem⟩
abbrev ω (x:Int):AV:= .int .i64 x
abbrev Ω (b:Bool) (n d:List UInt8):AV:= .agg [.bool b,.str n,.str d]
theorem Yq0 {p:Prop} [Decidable p]:p→decide p=true:=decide_eq_true
theorem Yq1 {p:Prop} [Decidable p]:¬p→decide p=false:=decide_eq_false
theorem Yq2 {α:Type} [BEq α] [LawfulBEq α] {a b:α}:(a==b)=false↔a≠b:=beq_eq_false_iff_ne
end AM
