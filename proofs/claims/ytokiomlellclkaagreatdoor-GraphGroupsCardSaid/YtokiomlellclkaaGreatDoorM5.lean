/- The abstract machine over the code of the model, and the proof that it is sound. No conditions. -/
import Derived.Test.YtokiomlellclkaaGreatDoorM4
import Derived.ChangeArms
import Derived.WideShapes
import Derived.Deep.Strs
import Derived.Maps.RangeRun
import Derived.Laws.IdiomRangeMap
import Derived.WideKeyEntry
import Derived.Maps.AppendAt
set_option linter.unusedSimpArgs false
set_option linter.unusedVariables false
open Nat renaming beq→Δ,le_refl→ζ,add_zero→Xxf,lt_of_lt_of_le→Xqy,beq_refl→Xxj,eq_of_beq_eq_true→Xqv,le_trans→Xqg,eq_zero_or_pos→Xjx,zero_mul→Xjp,blt→Xxc,lt_trichotomy→Xj4,ne_of_lt→Xz8,zero_le→Xqn,lt_irrefl→Xzl,lt_succ_self→Xj8,zero_add→Φ
open List renaming map_cons→Γ,append_nil→μ,mem_of_getElem?→ο,isEmpty_iff→Xwp,map→Xvw,drop→κ,getElem?_drop→Xxy,getElem?_take→Xxh,all_cons→Xjc,length_append→η,take_add→Xkm,drop_drop→Xjo,flatten_cons→Xx6,getElem?_eq_getElem→δ,getElem_mem→Xxq,getElem?_append→Xwz,flatten_append→Xz4,flatten_nil→Xvt,eq_nil_of_length_eq_zero→Xq0,range→Ψ,flatMap_map→Xj9,getD_eq_getElem?_getD→γ,getElem?_map→φ,mem_filter→Xq7,getElem?_of_mem→Xq1,mem_toArray→Xvu,mem_map→Xvk,mem_reverse→Xvv,getElem_map→Xzv,toList_toArray→Xx8,length_cons→τ,cons_append→Xqz,nil_append→Xqj,ext_getElem?→Xq8,getElem?_modify→Xj6,mem_cons→Xqo,length→Xqb,getElem?_set→Xxd,getElem?_append_left→υ,map_append→Xxp,replicate→Xqh,mem_replicate→Xzm,length_set→Xzh,append_assoc→Xqi,replicate_succ→Xxm,length_take→Xqm,getElem?_take_of_lt→Xxi,length_filter_le→Xqp,set_cons_succ→Xzg,take_set→Xkn,reverse_cons→Xwa,reverse_reverse→Xj5
open Option renaming getD_some→Xqt,map_some→Xqu,map_eq_some_iff→Ξ
open Bool renaming and_eq_true→ε,not_eq_true'→Xqe
namespace AM
open Go
structure aH (s s':St):Prop where
 env:∀ t,s.env.get t=s'.env.get t∨s.env.get t= .dead
 hp:s.hp=s'.hp
 md:s.md=s'.md
 dfs:s.dfs=s'.dfs
theorem aH.refl (s:St):aH s s:=⟨fun _=> .inl rfl,rfl,rfl,rfl⟩
def Nk:dG→(Nat→AV)→Prop
 | [],_=>True
 |(t,v)::r,f=>(f t=v)∧Nk r f
theorem wR {f:Nat→AV}:∀ {e:dG},Nk e f→∀ t,e.get t=f t∨e.get t= .dead
 | [],_,t=> .inr rfl
 | (u,v)::r,h,t=>by
  simp only [Nk] at h;simp only [dG.get,ai];cases a:Δ u t with
  |true=>
   have:=aA a;subst this;exact .inl h.1.symm
  |false=>exact wR h.2 t
theorem aH.of {e e':dG} {hp:Hp} {md:AV} {dfs:List (Nat × List AV)} (h:Nk e e'.get):aH {env:=e,hp,md,dfs} {env:=e',hp,md,dfs}:=⟨wR h,rfl,rfl,rfl⟩
section
variable {P:Program} {ap:AP} {H:bi}
theorem FR.less {s s':St} (h:aH s s') {nt:Nat} {m:aB} {S:au} {w:World} {a:Act} (b:FR ap s'.env s'.hp s'.dfs nt m S w a):FR ap s.env s.hp s.dfs nt m S w a:=by
 refine ⟨h.hp ▸ b.srel,fun t=> ?_, ?_,b.size⟩
 ·rcases h.env t with e|e
  ·rw [e,h.hp];exact b.env t
  ·rw [e];simp [VR]
 ·rw [h.hp,h.dfs];exact b.dfs
theorem ag.weak {h0:List az} {nt:Nat} {b:Code} {s s' r r':St} {e:aJ} (h:ag P ap h0 nt b s e r) (hs:aH s s') (c:aH r' r):ag P ap h0 nt b s' e r':=by
 intro i;obtain ⟨q,l⟩:=h (hs.md ▸ i);refine ⟨c.md ▸ q,fun m0 S0 w0 m S w a d p Q o=>l m0 S0 w0 m S w a (by rw [hs.hp];exact d) (p.less hs) Q ?_⟩;intro k S' w' a' n j;have:=o k S' w' a' (by rw [c.hp];exact n) (j.less c);cases e with
 |normal=>exact this
 |exit id=>exact this
 |ret=>exact this
 |panic v=>intro cv f;exact this cv (by rw [c.hp];exact f)
inductive aN (P:Program) (ap:AP) (h0:List az) (nt:Nat) (b:Code) {α β:Type} (e:β→aJ) (st:α→St) (out:β→St):α→β→Prop where
 |done {a:α} {r:β}:ag P ap h0 nt b (st a) (e r) (out r)→aN P ap h0 nt b e st out a r
 |next {a a':α} {r:β}:ag P ap h0 nt b (st a) .normal (st a')→aN P ap h0 nt b e st out a' r→aN P ap h0 nt b e st out a r
theorem aN.rounds {h0:List az} {nt:Nat} {b:Code} {α β:Type} {e:β→aJ} {st:α→St} {out:β→St} {a:α} {r:β} (d:e r ≠ .normal) (h:aN P ap h0 nt b e st out a r):(st a).md= .dead→(out r).md= .dead∧∃ n,∀ m0 S0 w0 m S w c,Fr (ax h0) m0 S0 w0 (ai (st a).hp) m S w→FR ap (st a).env (st a).hp (st a).dfs nt m S w c→∀ Q,XA ap h0 m0 S0 w0 nt (out r) (e r) Q→Code.rounds P b Q n c w:=by
 induction h with
 |@done a r hx=>
  intro i;obtain ⟨q,l⟩:=hx i;refine ⟨q,1,fun m0 S0 w0 m S w c f s Q p=>l m0 S0 w0 m S w c f s _ ?_⟩;intro k S' w' a' o j;have:=p k S' w' a' o j
  revert d this
  cases e r with
  |normal=>intro d _;exact absurd rfl d
  |exit id=>intro _ h;exact h
  |ret=>intro _ h;exact h
  |panic v=>intro _ h;exact h
 |next hx _ ih=>
  intro i;obtain ⟨q,l⟩:=hx i;obtain ⟨o,n,j⟩:=ih d q;refine ⟨o,n+1,fun m0 S0 w0 m S w c f s Q p=>l m0 S0 w0 m S w c f s _ ?_⟩;intro k S' w' a' u t;exact j m0 S0 w0 k S' w' a' u t Q p
theorem aN.ok {h0:List az} {nt:Nat} {b:Code} {α β:Type} {e:β→aJ} {st:α→St} {out:β→St} {a:α} {r:β} (f:e r ≠ .normal) (h:aN P ap h0 nt b e st out a r):ag P ap h0 nt (.loop b) (st a) (e r) (out r):=by
 intro i;obtain ⟨o,n,j⟩:=h.rounds f i;exact ⟨o,fun m0 S0 w0 m S w c d l Q k=>wp_loop_rounds n (j m0 S0 w0 m S w c d l Q k)⟩
theorem aN.blk {h0:List az} {n id:Nat} {b:Code} {α β:Type} {e:β→aJ} {st:α→St} {out:β→St} {a:α} {r:β} {s s':St} {e':aJ} (h:∀ nt,n≤nt→aN P ap h0 nt b e st out a r) (c:e r ≠ .normal) (j:kS id (e r)=e') (hs:aH (st a) s) (f:aH s' (out r)):bG P ap h0 n (.block id (.loop b)) s e' s':=by
 intro nt i;have d:=((h nt i).ok c).block (id:=id);rw [j] at d;exact d.weak hs f
def ni (id:Nat):Code→Option Code
 | .seq a b=>match ni id a with|some c=>some c|none=>ni id b
 | .cond _ a b=>match ni id a with|some c=>some c|none=>ni id b
 | .block i b=>match Δ i id with|true=>some b|false=>ni id b
 | .loop b=>ni id b
 | .scope b=>ni id b
 |_=>none
def ah (id:Nat) (c:Code):Code:=match ni id c with|some (.loop b)=>b|_=> .skip
def dI (id:Nat):Code→Code
 | .seq a b=>match dI id a with| .region i o d=> .region i o d|_=>dI id b
 | .cond _ a b=>match dI id a with| .region i o d=> .region i o d|_=>dI id b
 | .block _ b=>dI id b
 | .loop b=>dI id b
 | .scope b=>dI id b
 | .region i o d=>match Δ i id with|true=> .region i o d|false=> .skip
 |_=> .skip
end
end AM
namespace AM
open Go
def uw (x y:List AV):Prop:=∀ g m S v,aS g m S x v→aS g m S y v
def tH:AV→Bool
 | .own _ _ _=>false
 | .tup _=>false
 |_=>true
theorem uw.refl (x:List AV):uw x x:=fun _ _ _ _ h=>h
theorem uw.nil:uw [] []:=uw.refl []
theorem uw.cons {x y:AV} {l r:List AV} (h:bF x y) (b:uw l r):uw (x::l) (y::r):=by
 intro g m S v a;cases v with
 |nil=>simp [aS] at a
 |cons u vs=>simp only [aS] at a ⊢;exact ⟨h g m S u a.1,b g m S vs a.2⟩
theorem bF.nilS (nn:Bool) (h:nn=false):bF .nilS (.sl [] 0 nn):=by
 subst h;intro g m S v a;simp only [VR,PR] at a ⊢;exact ⟨none,0,a,ζ _,.inl (by simp)⟩
theorem bF.sl (c:List AV) (n:Nat) (a:Bool):bF (.sl c n a) (.sl c n false):=by
 intro g m S v d;simp only [VR,PR] at d ⊢;obtain ⟨a,cap,e,b,q⟩:=d;refine ⟨a,cap,e,b, ?_⟩;rcases q with ⟨_,f,h⟩|q
 ·exact .inl ⟨fun _=>trivial,f,h⟩
 ·exact .inr q
theorem bF.dead (x:AV):bF x .dead:=fun _ _ _ _ _=>by simp only [VR]
theorem bF.agg {l r:List AV} (h:uw l r):bF (.agg l) (.agg r):=by
 intro g m S v a;simp only [VR] at a ⊢;obtain ⟨vs,e,q⟩:=a;exact ⟨vs,e,h _ _ _ _ q⟩
section
variable {P:Program} {ap:AP}
theorem ae.args {f:Nat} {args args':List AV} {h b:List az} {out:gV} (d:uw args' args) (a:ae P ap f args h out b):ae P ap f args' h out b:=
 ⟨a.len,a.ent,fun m S w cargs c e=>a.calls m S w cargs c (d _ _ _ _ e)⟩
def kK (out out':gV):Prop:=(∀ n,h_ n out=h_ n out')∧∀ h' m' S' e,VA h' m' S' out e→VA h' m' S' out' e
theorem ae.out {f:Nat} {args:List AV} {h d:List az} {out a:gV} (c:kK out a) (b:ae P ap f args h out d):ae P ap f args h a d:=
 ⟨b.len,b.ent,fun m S w cargs i j=>(b.calls m S w cargs i j).mono fun e w' ⟨m',S',hF⟩=> ⟨m',S',c.1 _ ▸ hF.srel,c.1 _ ▸ hF.fr,c.2 _ _ _ _ hF.out⟩⟩
theorem tJ {x:AV} (h:tH x=true):∀ a k e,x ≠ .own a k e:=by intro a k e b;subst b;cases h
theorem tK {x:AV} (h:tH x=true):∀ l,x ≠ .tup l:=by intro l a;subst a;cases h
theorem kK.ret {x y:AV} (a:tH x=true) (b:tH y=true) (h:bF x y):kK (.ret x) (.ret y):=by
 refine ⟨fun n=> ?_,fun i j S' e d=> ?_⟩
 ·simp only [h_,ig n (tJ a) (tK a),ig n (tJ b) (tK b)]
 ·obtain ⟨cv,f,c⟩:=d;refine ⟨cv,f, ?_⟩;rw [jK (tJ a) (tK a)] at c;rw [jK (tJ b) (tK b)];exact h _ _ _ _ c
inductive QH:List AV→List AV→Prop where
 |nil:QH [] []
 |same {x:AV} {l r:List AV}:QH l r→QH (x::l) (x::r)
 |fit {x y:AV} {l r:List AV}:tH x=true→tH y=true→bF x y→QH l r→QH (x::l) (y::r)
end
end AM
namespace AM
open Go
def thaw:AV→AV
 | .own xs n e=> .sl (xs.take (n*e)) n true
 |x=>x
def uQ:gV→gV
 | .ret (.tup l)=> .ret (.tup (l.map thaw))
 | .ret x=> .ret (thaw x)
 | .pan v=> .pan v
theorem D7 {x:AV} (h:∀ xs k e,x ≠ .own xs k e):thaw x=x:=by
 cases x<;>first|rfl|exact absurd rfl (h _ _ _)
theorem oQ (x:AV):∀ a k e,thaw x ≠ .own a k e:=by
 intro a k e h;cases x<;>simp [thaw] at h
theorem vS:∀ (l:List AV) (n:Nat),(eQ n (l.map thaw)).2= []
 | [],_=>rfl
 |x::r,n=>by rw [Γ,bJ n (oQ x)];exact vS r n
section
variable {P:Program} {ap:AP}
theorem yI {gh gf g':bD} {m:aB} {S S':au} {w:World} (p:aZ ap gf m S w) {rd:bD} (d:∀ b B,rd b=some B→gf b=some B) (c:S'=bP S m rd w) (hother:∀ x v,VR gh m S x v→VR g' m S' x v):
  ∀ (l:List AV) (n:Nat) (vs:List Value),(∀ i B,(eQ n l).2[i]? =some B→rd (n+i)=some B)→gY gh gf m S n l vs→gY g' g' m S' n (l.map thaw) vs
 | [],n,vs,_,h=>by cases vs with|nil=>trivial|cons _ _=>simp [gY] at h
 |x::r,n,[],_,h=>by
  exfalso;rcases jy x with ⟨j,k,e,rfl⟩|f
  ·simp [gY] at h
  ·cases x<;>simp [gY] at h
 | x ::r,n,v::vs,hb,h=>by
  rcases jy x with ⟨j,k,e,rfl⟩|f
  ·simp only [gY] at h;simp only [eQ] at hb;have h0:=hb 0 _ rfl;rw [Xxf] at h0;have A:frz rd 6 (.ref n 0 0 k)=some (.sl (j.take (k*e)) k true):=by
    simp [frz,h0,yJ]
   have C:=jf p d 6 _ _ _ A h.1;rw [Γ,dm (oQ _)];refine ⟨ed _ (c ▸ C), ?_⟩;have D:=yI p d c hother r (n+1) vs (fun i B t=>by rw [show n+1+i=n+(i+1) by omega];exact hb (i+1) B (by simpa using t)) h.2;have key:∀ (l:List AV) (a b:Nat) (vs:List Value),(∀ x ∈ l,∀ j k e,x ≠ .own j k e)→gY g' g' m S' a l vs→gY g' g' m S' b l vs:=by
    intro l
    induction l with
    |nil=>intro a b vs _ h;cases vs with|nil=>trivial|cons _ _=>simp [gY] at h
    | cons y q ih=>
     intro a b vs s h;cases vs with
     |nil=>cases y<;>simp [gY] at h
     |cons u us=>
      have o:=s y (by simp);rw [dm o] at h ⊢;exact ⟨h.1,ih a b us (fun x f=>s x (by simp [f])) h.2⟩
   refine key _ (n+1) n vs ?_ D;intro y o;obtain ⟨z,_,rfl⟩:=List.mem_map.1 o;exact oQ z
  ·rw [dm f] at h;rw [bJ n f] at hb;rw [Γ,dm (oQ x),D7 f];exact ⟨hother _ _ h.1,yI p d c hother r n vs hb h.2⟩
theorem ae.thaw {f:Nat} {args:List AV} {h a:List az} {out:gV} (hp:∀ B ∈ a,B.pr=true) (K:ae P ap f args h out a):ae P ap f args h (uQ out) a:=by
 refine ⟨K.len,K.ent,fun m S w cargs hS C=>(K.calls m S w cargs hS C).mono ?_⟩
 rintro e w' ⟨m',S',hF⟩
 obtain ⟨s,d,z⟩:=hF;have u:∀ n,h_ n (uQ out)= []:=by
  intro n;cases out with
  |pan v=>rfl
  | ret x=>
   rcases yT x with ⟨l,rfl⟩|ht
   ·simp only [uQ,h_,iE];exact vS l n
   ·have:uQ (.ret x)= .ret (AM.thaw x):=by cases x<;>first|rfl|exact absurd rfl (ht _)
    rw [this];simp only [h_];have D:∀ l,AM.thaw x ≠ .tup l:=by intro l M;cases x<;>simp [AM.thaw] at M;exact ht _ rfl
    rw [ig n (oQ x) D]
 let rd:bD:=fun b=>if a.length≤b then ax (a++h_ a.length out) b else none
 have y:∀ b B,rd b=some B→ax (a++h_ a.length out) b=some B:=by
  intro b B c;simp only [rd] at c;split at c
  ·exact c
  ·cases c
 have r:=jT S' m' rd w';have j:∀ b B,ax a b=some B→ax (a++h_ a.length out) b=some B:=by
  intro b B c;have:b<a.length:=(List.getElem?_eq_some_iff.1 c).1;rw [dU this];exact c
 have hother:∀ x v,VR (ax a) m' S' x v→VR (ax (a++h_ a.length (uQ out))) m' (bP S' m' rd w') x v:=by
  intro x v F;rw [u,μ];exact jW r (Ge.refl _ _) x F
 refine ⟨m',bP S' m' rd w', ?_, ?_, ?_⟩
 ·rw [u,μ];refine ⟨fun b A B B' c R=>s.inj b A B B' (j b B c) (j A B' R), ?_,fun k o v C=>kE s C, ?_, ?_⟩
  ·intro b B c;obtain ⟨⟨cur,e,vs,rest,p,t,G,T,J,X⟩,hz,Q⟩:=s.blk b B (j b B c);have I:=hp B (ο c);refine ⟨⟨cur,e,vs,rest,p,t,fun _=>aW r _ (G I),aV _ (aW r _ (G I)),J,X⟩,hz,Q⟩
  ·intro b B c o v C;rcases eU C with p|⟨p,A,B',t,G,T⟩
   ·exact s.own b B (j b B c) o v p
   ·have:=s.inj b A B B' (j b B c) (y _ _ t) G.symm;subst this;have E:b<a.length:=(List.getElem?_eq_some_iff.1 c).1;simp only [rd] at t;rw [if_neg (by omega)] at t;cases t
  ·intro k N U;obtain ⟨vs,p,t⟩:=s.glob k N U;exact ⟨vs,aW r _ p,t.mono r⟩
 ·rw [u,μ];refine ⟨?_,gK.trans d.sle r,d.os,d.tape,d.output,d.size,d.rest,fun b B c=>d.img b B (j b B c), ?_,fun b B c=>d.mw b B (j b B c)⟩
  ·intro b B c;obtain ⟨B',p,t⟩:=d.ge b B c;have E:b<a.length:=Xqy (List.getElem?_eq_some_iff.1 c).1 K.len;rw [dU E] at p;exact ⟨B',p,t⟩
  ·intro k o v C;rcases eU C with p|⟨p,A,B',t,G,T⟩
   ·exact d.sealN k o v p
   ·rcases d.img A B' (y _ _ t) with J|⟨B0,J,_⟩
    ·exact .inr (.inl (G ▸ J))
    ·exfalso;have E:A<h.length:=(List.getElem?_eq_some_iff.1 J).1;simp only [rd] at t;rw [if_neg (by have:=K.len;omega)] at t;cases t
 ·have L:∀ l,out= .ret (.tup l)→∀ i B,(eQ a.length l).2[i]? =some B→rd (a.length+i)=some B:=by
   intro l M i B V;subst M;simp only [rd];rw [if_pos (by omega),g_ (by omega),show a.length+i - a.length=i by omega];exact V
  cases out with
  |pan v=>
   obtain ⟨cv,O,p⟩:=z;refine ⟨cv,O, ?_⟩;have:=hother v cv p;rwa [u,μ] at this
  | ret x=>
   obtain ⟨cv,O,p⟩:=z;rcases yT x with ⟨l,rfl⟩|ht
   ·simp only [uV] at p;obtain ⟨vs,Y,q⟩:=p;refine ⟨cv,O, ?_⟩;simp only [uV];refine ⟨vs,Y, ?_⟩;have c:(iE a.length (.tup (l.map AM.thaw))).2= []:=by simp only [iE];exact vS l _
    rw [c,μ];have:=yI (gh:=ax a) (g':=ax a) s y rfl (fun x v F=>jW r (Ge.refl _ _) x F) l a.length vs (L l rfl) q;exact this
   ·have Z:uQ (.ret x)= .ret (AM.thaw x):=by cases x<;>first|rfl|exact absurd rfl (ht _)
    have D:∀ l,AM.thaw x ≠ .tup l:=by intro l M;cases x<;>simp [AM.thaw] at M;exact ht _ rfl
    rw [Z];refine ⟨cv,O, ?_⟩;rw [jK (oQ x) D];rcases jy x with ⟨N,k,e,rfl⟩|F
    ·simp only [uV] at p;have h0:rd a.length=some (yJ N e):=by
      simp only [rd];rw [if_pos (ζ _),g_ (ζ _),Nat.sub_self];rfl
     have W:frz rd 6 (.ref a.length 0 0 k)=some (.sl (N.take (k*e)) k true):=by
      simp [frz,h0,yJ]
     have:=jf s y 6 _ _ _ W p;exact ed _ this
    ·rw [jK F ht] at p;rw [D7 F];exact jW r (Ge.refl _ _) x p
end
end AM
namespace AM
open Go
def zl (b:Nat) (c v:Nat):Option (Nat × Nat):=match Δ c b with|true=>none|false=>some (c,v)
inductive Fz (b:Nat) (B:az):AV→AV→Prop
 |ren {x:AV}:Fz b B x (ren (zl b) x)
 |ref {i n:Nat}:Fz b B (.ref b B.ver i n) (.sl ((B.cells.drop (i*B.esz)).take (n*B.esz)) n true)
 |fit {x y z:AV}:Fz b B x y→bF y z→Fz b B x z
inductive XG (b:Nat) (B:az):List AV→List AV→Prop
 |nil:XG b B [] []
 |cons {x y:AV} {l r:List AV}:Fz b B x y→XG b B l r→XG b B (x::l) (y::r)
theorem Fz.same {b:Nat} {B:az} {x:AV} (h:AM.ren (zl b) x=x):Fz b B x x:=by
 have:=Fz.ren (b:=b) (B:=B) (x:=x);rwa [h] at this
theorem Fz.dead {b:Nat} {B:az} (x:AV):Fz b B x .dead:= .fit .ren (bF.dead _)
theorem XG.length {b:Nat} {B:az} {l r:List AV} (h:XG b B l r):l.length=r.length:=by
 induction h with
 |nil=>rfl
 |cons _ _ ih=>simp [ih]
structure Ee (b:Nat) (B:az) (C C':az):Prop where
 ver:C'.ver=C.ver
 fro:C'.fro=C.fro
 fz:C'.fz=C.fz
 esz:C'.esz=C.esz
 body:(C.pr=true∧C'.cells=C.cells∧C'.pr=true)∨(XG b B C.cells C'.cells∧(C'.pr=true→(bg C'.cells).isEmpty=true))
theorem Ee.same {b:Nat} {B C:az} (hp:C.pr=true):Ee b B C C:=⟨rfl,rfl,rfl,rfl,.inl ⟨hp,rfl,hp⟩⟩
theorem Ee.length {b:Nat} {B C C':az} (h:Ee b B C C'):C.cells.length=C'.cells.length:=by
 rcases h.body with ⟨_,e,_⟩|⟨e,_⟩
 ·rw [e]
 ·exact e.length
section
variable {P:Program} {ap:AP} {g:bD} {m:aB} {S:au} {w:World}
def kP (b:Nat) (B:az):bD:=fun c=>match Δ c b with|true=>some B|false=>none
theorem pY {b c:Nat} {B C:az} (h:kP b B c=some C):c=b∧C=B:=by
 unfold kP at h;split at h
 ·rename_i a;cases h;exact ⟨aA a,rfl⟩
 ·cases h
theorem Lu (b:Nat) (B:az):kP b B b=some B:=by unfold kP;rw [Xxj]
theorem Fz.sound {b:Nat} {B:az} (l:aZ ap g m S w) (k:g b=some B) (d:B.pr=true) {g':bD} (j:mX g m g' m (zl b)) {x y:AV} (h:Fz b B x y):∀ {v:Value},VR g m S x v→VR g' m (bP S m (kP b B) w) y v:=by
 have f:∀ c C,kP b B c=some C→g c=some C:=by
  intro c C o;obtain ⟨rfl,rfl⟩:=pY o;exact k
 induction h with
 |ren=>intro v a;exact qY (jT S m (kP b B) w) j _ a
 | @ref i n=>
  intro v a;have e:frz (kP b B) 6 (.ref b B.ver i n)=some (.sl ((B.cells.drop (i*B.esz)).take (n*B.esz)) n true):=by
   simp [frz,Lu,d]
  exact ed _ (jf l f 6 _ _ _ e a)
 |fit _ e ih=>intro v a;exact e _ _ _ _ (ih a)
theorem XG.sound {b:Nat} {B:az} (f:aZ ap g m S w) (e:g b=some B) (c:B.pr=true) {g':bD} (d:mX g m g' m (zl b)) {l r:List AV} (h:XG b B l r):∀ {vs:List Value},aS g m S l vs→aS g' m (bP S m (kP b B) w) r vs:=by
 induction h with
 |nil=>intro vs a;cases vs with|nil=>simp [aS]|cons _ _=>simp [aS] at a
 | cons hx _ ih=>
  intro vs a;cases vs with
  |nil=>simp [aS] at a
  |cons v vs=>
   simp only [aS] at a ⊢;exact ⟨hx.sound f e c d a.1,ih a.2⟩
theorem uA:∀ {l:List AV} {vs:List Value},(bg l).isEmpty=true→aS g m S l vs→a_ S l vs
 | [],[],_,_=>by simp [a_]
 |x::l,v::vs,h,hv=>by
  simp only [bg,Xwp,List.append_eq_nil_iff] at h;rw [← Xwp,← Xwp] at h;simp only [aS] at hv;simp only [a_];exact ⟨kR h.1 hv.1,uA h.2 hv.2⟩
 | [],_::_,_,hv=>by simp [aS] at hv
 |_::_,[],_,hv=>by simp [aS] at hv
theorem Ew {g g':bD} {m b:aB} {S S':au} {ρ:Nat→Nat→Option (Nat × Nat)} (a:gK S S') (c:mX g m g' b ρ):∀ {l:List (Nat × List AV)} {ds:List Deferred},dR g m S l ds→dR g' b S' (l.map fun d=>(d.1,jG ρ d.2)) ds
 | [],[],_=>by simp only [List.map_nil,dR]
 |d::r,cd::cr,h=>by
  simp only [dR] at h;simp only [Γ,dR];obtain ⟨⟨cap,e,f⟩,i⟩:=h;exact ⟨⟨cap,e,iw a c _ f⟩,Ew a c i⟩
 | [],_::_,h=>by simp [dR] at h
 |_::_,[],h=>by simp [dR] at h
theorem IV {h0:List az} {nt:Nat} {r r':St} {m0 h:aB} {S0 S':au} {w0 w':World} {a':Act} (b:Nat) (B:az) (hb0:h0.length≤b) (F:ai r.hp b=some B) (z:B.pr=true)
  (hd:r'.dfs=r.dfs.map fun d=>(d.1,jG (zl b) d.2))
  (henv:∀ t,Fz b B (r.env.get t) (r'.env.get t))
  (hdom:∀ c C',ai r'.hp c=some C'→c ≠ b∧∃ C,ai r.hp c=some C∧Ee b B C C')
  (hall:∀ c C,c ≠ b→ai r.hp c=some C→∃ C',ai r'.hp c=some C')
  (h5:Fr (ax h0) m0 S0 w0 (ai r.hp) h S' w') (h6:FR ap r.env r.hp r.dfs nt h S' w' a'):
  ∃ S2,Fr (ax h0) m0 S0 w0 (ai r'.hp) h S2 w'∧FR ap r'.env r'.hp r'.dfs nt h S2 w' a':=by
 have f:=h6.srel;have q:=jT S' h (kP b B) w';have hrd:∀ c C,kP b B c=some C→ai r.hp c=some C:=by
  intro c C i;obtain ⟨rfl,rfl⟩:=pY i;exact F
 have n:mX (ai r.hp) h (ai r'.hp) h (zl b):=by
  intro c ver c' V hρ C l s;unfold zl at hρ;split at hρ
  ·cases hρ
  ·rename_i I;cases hρ;have u:c ≠ b:=by intro e;subst e;simp at I
   obtain ⟨C',j⟩:=hall c C u l;obtain ⟨_,C2,p,a⟩:=hdom c C' j;rw [l] at p;cases p;exact ⟨C',j,by rw [a.ver];exact s,fun e=> ⟨by rw [← a.ver];exact e,rfl,a.esz⟩⟩
 have T:aZ ap (ai r'.hp) h (bP S' h (kP b B) w') w':=by
  refine ⟨?_, ?_,fun k o v s=>kE f s, ?_, ?_⟩
  ·intro c c' C C' i N hm;obtain ⟨_,D,hD,_⟩:=hdom c C i;obtain ⟨_,D',U,_⟩:=hdom c' C' N;exact f.inj c c' D D' hD U hm
  ·intro c C' i;obtain ⟨_,C,l,a⟩:=hdom c C' i;obtain ⟨⟨cur,X,vs,rest,k1,k2,k3,k4,k5,k6⟩,hz,R⟩:=f.blk c C l;have E:(C'.pr=true→a_ (bP S' h (kP b B) w') C'.cells vs)∧aS (ai r'.hp) h (bP S' h (kP b B) w') C'.cells vs:=by
    rcases a.body with ⟨J,Q,q3⟩|⟨J,Q⟩
    ·have:=aW q _ (k3 J);rw [Q];exact ⟨fun _=>this,aV _ this⟩
    ·have s:=J.sound f F z n k4;exact ⟨fun hp=>uA (Q hp) s,s⟩
   exact ⟨⟨cur,X,vs,rest,by rw [a.esz];exact k1,k2,E.1,E.2,by rw [a.esz];exact k5,fun hp=>by rw [a.esz] at hp ⊢;exact k6 hp⟩,fun hp=>by rw [a.fz];exact hz (by rw [← a.fro];exact hp),by rw [a.fz,← a.length];exact R⟩
  ·intro c C' i o v s;obtain ⟨u,C,l,a⟩:=hdom c C' i;rw [a.fro,a.fz];rcases eU s with y|⟨y,G,B',M,K,h4⟩
   ·exact f.own c C l o v y
   ·obtain ⟨rfl,rfl⟩:=pY M;exact absurd (f.inj c G C B' l F K.symm) u
  ·intro k Z W;obtain ⟨vs,k1,k2⟩:=f.glob k Z W;exact ⟨vs,aW q _ k1,k2.mono q⟩
 have x:Fr (ax h0) m0 S0 w0 (ai r'.hp) h (bP S' h (kP b B) w') w':=by
  refine ⟨?_,gK.trans h5.sle q,h5.os,h5.tape,h5.output,h5.size,h5.rest, ?_, ?_,fun c C' i=>by
   obtain ⟨_,C,l,_⟩:=hdom c C' i;exact h5.mw c C l⟩
  ·intro c C i;have hlt:c<h0.length:=(List.getElem?_eq_some_iff.1 i).1;obtain ⟨C1,A,e1,Y⟩:=h5.ge c C i;obtain ⟨C',j⟩:=hall c C1 (by omega) A;obtain ⟨_,C2,p,a⟩:=hdom c C' j;rw [A] at p;cases p;exact ⟨C',j,by rw [a.esz];exact e1,by rw [a.ver];exact Y⟩
  ·intro c C' i;obtain ⟨_,C,l,_⟩:=hdom c C' i;exact h5.img c C l
  ·intro k o v s;rcases eU s with y|⟨y,G,B',M,K,h4⟩
   ·exact h5.sealN k o v y
   ·obtain ⟨rfl,rfl⟩:=pY M;rcases h5.img G B' F with L|⟨B0,L,_⟩
    ·exact .inr (.inl (K ▸ L))
    ·have:G<h0.length:=(List.getElem?_eq_some_iff.1 L).1;omega
 have O:FR ap r'.env r'.hp r'.dfs nt h (bP S' h (kP b B) w') w' a':=by
  refine ⟨T,fun t=>(henv t).sound f F z n (h6.env t), ?_,h6.size⟩;rw [hd];exact Ew q n h6.dfs
 exact ⟨_,x,O⟩
theorem ag.freeze {h0:List az} {nt:Nat} {f:Code} {s r r':St} {e:aJ} (b:Nat) (B:az) (h:ag P ap h0 nt f s e r) (D:∀ v,e ≠ .panic v) (n:h0.length≤b) (o:ai r.hp b=some B) (j:B.pr=true)
  (hmd:r'.md=r.md) (hd:r'.dfs=r.dfs.map fun d=>(d.1,jG (zl b) d.2))
  (henv:∀ t,Fz b B (r.env.get t) (r'.env.get t))
  (hdom:∀ c C',ai r'.hp c=some C'→c ≠ b∧∃ C,ai r.hp c=some C∧Ee b B C C')
  (hall:∀ c C,c ≠ b→ai r.hp c=some C→∃ C',ai r'.hp c=some C'):ag P ap h0 nt f s e r':=by
 intro hs;obtain ⟨z,u⟩:=h hs;refine ⟨hmd ▸ z,fun m0 S0 w0 m S w a l A Q y=>u m0 S0 w0 m S w a l A Q ?_⟩;intro q S' w' a' x p;obtain ⟨S2,i,k⟩:=IV b B n o j hd henv hdom hall x p;have:=y q S2 w' a' i k;cases e with
 |normal=>exact this
 |exit id=>exact this
 |ret=>exact this
 |panic v=>exact absurd rfl (D v)
def Q9 (b:Nat) (B:az):dG→(Nat→AV)→Prop
 | [],_=>True
 |(t,v)::r,f=>Fz b B (f t) v∧Q9 b B r f
theorem rM {b:Nat} {B:az} {f:Nat→AV}:∀ {e:dG},Q9 b B e f→∀ t,Fz b B (f t) (e.get t)
 | [],_,t=>Fz.dead _
 | (u,v)::r,h,t=>by
  simp only [Q9] at h;simp only [dG.get,ai];cases a:Δ u t with
  |true=>
   have:=aA a;subst this;exact h.1
  |false=>exact rM h.2 t
def NH (b:Nat) (B:az):Hp→Hp→Prop
 | [],l=>l= [(b,B)]
 |(c,C)::r,(d,D)::l=>c=d∧Ee b B D C∧c ≠ b∧NH b B r l
 |_::_,[]=>False
theorem GG {b:Nat} {B:az}:∀ {r l:Hp},NH b B r l→∀ c C',ai r c=some C'→c ≠ b∧∃ C,ai l c=some C∧Ee b B C C'
 | [],l,_,c,C',hc=>by simp [ai] at hc
 | (d,D)::r,(d',D')::l,h,c,C',hc=>by
  simp only [NH] at h;obtain ⟨rfl,f,e,i⟩:=h;simp only [ai] at hc ⊢;cases a:Δ d c with
  |true=>
   rw [a] at hc;have:=aA a;subst this;cases hc;exact ⟨e,D',rfl,f⟩
  |false=>
   rw [a] at hc;exact GG i c C' hc
 |_::_,[],h,_,_,_=>by simp [NH] at h
theorem Gz {b:Nat} {B:az}:∀ {r l:Hp},NH b B r l→∀ c C,c ≠ b→ai l c=some C→∃ C',ai r c=some C'
 | [],l,h,c,C,hcb,hc=>by
  simp only [NH] at h;subst h;simp only [ai] at hc;split at hc
  ·rename_i a;exact absurd (aA a).symm hcb
  ·cases hc
 |(d,D)::r,(d',D')::l,h,c,C,hcb,hc=>by
  simp only [NH] at h;obtain ⟨rfl,i,f,e⟩:=h;simp only [ai] at hc ⊢;cases a:Δ d c with
  |true=>exact ⟨D,rfl⟩
  |false=>rw [a] at hc;exact Gz e c C hcb hc
 |_::_,[],h,_,_,_,_=>by simp [NH] at h
theorem Cf {b:Nat} {B:az}:∀ {r l:Hp},NH b B r l→ai l b=some B
 | [],l,h=>by
  simp only [NH] at h;subst h;simp [ai]
 |(d,D)::r,(d',D')::l,h=>by
  simp only [NH] at h;obtain ⟨rfl,f,a,e⟩:=h;simp only [ai];cases c:Δ d b with
  |true=>exact absurd (aA c) a
  |false=>exact Cf e
 |_::_,[],h=>by simp [NH] at h
theorem ag.forget {h0:List az} {nt:Nat} {a:Code} {s:St} {e:aJ} (b:Nat) (B:az) {en c:dG} {hp hp':Hp} {md:AV} (h:ag P ap h0 nt a s e {env:=en,hp,md,dfs:= []}) (i:∀ v,e ≠ .panic v) (f:h0.length≤b) (d:B.pr=true)
  (henv:Q9 b B c (dG.get en)) (hhp:NH b B hp' hp):ag P ap h0 nt a s e {env:=c,hp:=hp',md,dfs:= []}:=
 h.freeze b B i f (Cf hhp) d rfl rfl (rM henv) (GG hhp) (Gz hhp)
end
end AM
namespace AM
open Go
def b_:List Nat→Code→Code
 | [],c=>c
 |0::p,.seq a _=>b_ p a
 |_::p,.seq _ b=>b_ p b
 |0::p,.cond _ a _=>b_ p a
 |_::p,.cond _ _ b=>b_ p b
 |_::p,.block _ b=>b_ p b
 |_::p,.loop b=>b_ p b
 |_::p,.scope b=>b_ p b
 |_,c=>c
section
variable {P:Program} {ap:AP}
end
end AM
namespace AM
open Go
inductive AY:List LK→List Value→Prop
 |nil:AY [] []
 |int {k:IntKind} {n:Int} {r:List LK} {l:List Value}:AY r l→AY (.int k::r) (.int k n::l)
 |bool {b:Bool} {r:List LK} {l:List Value}:AY r l→AY (.bool::r) (.bool b::l)
 |str {s:ByteArray} {r:List LK} {l:List Value}:AY r l→AY (.str::r) (.string s::l)
section
variable {H:Type} {enc:TypeId × Value→H} {P:Program} {w:World} {base:Nat} {spare:Nat→Bool} {held:Bool}
end
end AM
namespace AM
open Go
def qB:Nat→Nat→List Bool
 |0,_=> []
 |n+1,k=>Δ (k % 2) 1::qB n (k / 2)
def U_:Nat→List Bool→List Bool
 |0,l=>l
 |n+1,l=>true::U_ n l
theorem jE.n (k:Nat) {l:List Bool} (h:jE l):jE (U_ k l):=by
 induction k with
 |zero=>exact h
 |succ k ih=>exact .t ih
theorem jE.k (k:Nat) {b:Bool} {l:List Bool} (a:b=true) (h:jE l):jE (U_ k (b::l)):= .n k (.c a h)
theorem tf (b:Bool):b=true∨b=false:=by cases b<;>simp
theorem aQ {b:Bool} (h:b=true):lit true b=true:=h
theorem aX {b:Bool} (h:b=false):lit false b=true:=by subst h;rfl
theorem nK {b:Bool} (h:b=false):lit true (!b)=true:=by subst h;rfl
theorem fZ {b:Bool} (h:b=true):lit false (!b)=true:=by subst h;rfl
inductive PS (P:Program) (ap:AP):List Prop→List (gV × List az)→qQ→List mJ→Prop where
 |nil:PS P ap [] [] [] []
 |c {f:Nat} {args:List AV} {h h':List az} {out:gV} {ps:List Prop} {ans:List (gV × List az)} {lps:qQ} {hs:List mJ}:ae P ap f args h out h'→PS P ap ps ans lps hs→PS P ap (ae P ap f args h out h'::ps) (ans++ [(out,h')]) lps hs
 |l {h0:List az} {n:Nat} {code:Code} {s s':St} {e:aJ} {ps:List Prop} {ans:List (gV × List az)} {lps:qQ} {hs:List mJ}:bG P ap h0 n code s e s'→PS P ap ps ans lps hs→PS P ap (bG P ap h0 n code s e s'::ps) ans (lps++ [(e,s',none)]) hs
 |k (K:List Nat) {h0:List az} {n:Nat} {code:Code} {s s':St} {e:aJ} {ps:List Prop} {ans:List (gV × List az)} {lps:qQ} {hs:List mJ}:bG P ap h0 n code s e s'→PS P ap ps ans lps hs→PS P ap (bG P ap h0 n code s e s'::ps) ans (lps++ [(e,s',some ([],K))]) hs
 |w (L K:List Nat) {h0:List az} {n:Nat} {code:Code} {s s':St} {e:aJ} {ps:List Prop} {ans:List (gV × List az)} {lps:qQ} {hs:List mJ}:bG P ap h0 n code s e s'→PS P ap ps ans lps hs→PS P ap (bG P ap h0 n code s e s'::ps) ans (lps++ [(e,s',some (L,K))]) hs
 |v (d:Nat) {x y:AV} {ps:List Prop} {ans:List (gV × List az)} {lps:qQ} {hs:List mJ}:bF x y→PS P ap ps ans lps hs→PS P ap (bF x y::ps) ans lps (hs++ [.v d y])
 |b (d:Nat) {x y:List AV} {ps:List Prop} {ans:List (gV × List az)} {lps:qQ} {hs:List mJ}:x=y→PS P ap ps ans lps hs→PS P ap ((x=y)::ps) ans lps (hs++ [.b d y])
 |u (d:Nat) {x y:List (Option az)} {ps:List Prop} {ans:List (gV × List az)} {lps:qQ} {hs:List mJ}:x=y→PS P ap ps ans lps hs→PS P ap ((x=y)::ps) ans lps (hs++ [.u d])
 |f (d:Nat) {ps:List Prop} {ans:List (gV × List az)} {lps:qQ} {hs:List mJ}:PS P ap ps ans lps hs→PS P ap ps ans lps (hs++ [.f d])
theorem PS.all {P:Program} {ap:AP} {ps:List Prop} {ans:List (gV × List az)} {a:qQ} {hs:List mJ} (h:PS P ap ps ans a hs):Ik ps:=by
 induction h with
 |nil=>exact .nil
 |c h _ ih=>exact .cons h ih
 |l h _ ih=>exact .cons h ih
 |k _ h _ ih=>exact .cons h ih
 |w _ _ h _ ih=>exact .cons h ih
 |v _ h _ ih=>exact .cons h ih
 |b _ h _ ih=>exact .cons h ih
 |u _ h _ ih=>exact .cons h ih
 |f _ _ ih=>exact ih
theorem ck {P:Program} {ap:AP} (g:uy P ap) {ans:List (gV × List az)} {ps:List Prop} {f:Nat} {args:List AV} {h a:List az} {out:gV} (hp:PS P ap ps ans [] [])
  (he:lG ap (uq P ap 3000 4) 3000 .dead f args h ⟨true,[],[],[],ans,[]⟩= .ok (out,a,.dead) ⟨true,[],[],ps,[],[]⟩):ae P ap f args h out a:=Pq g hp.all he
theorem pk {P:Program} {ap:AP} (g:uy P ap) (c:List Nat) (n k:Nat) {ans:List (gV × List az)} {a:qQ} {hs:List mJ} {bs:List Bool} {ps:List Prop} {f:Nat} {args:List AV} {h b:List az} {out:gV}
  (hb:jE bs) (hp:PS P ap ps ans a hs) (he:Na P ap (uq P ap 3000 4) 3000 c f args h a ⟨false,qB n k,[],[],ans,hs⟩= .ok (out,b,.dead) ⟨false,[],bs,ps,[],[]⟩):ae P ap f args h out b:=by
 obtain ⟨d,e⟩:=gy g.apok g.mixed g.fnok 3000 4;exact QT g.apok g.mixed g.fnok d e he ⟨hb.mem,hp.all.mem⟩
def GK (ap:AP) (f:Nat):List Nat:=match ap.fnAt f with|some F=>F.keep|none=> []
theorem Rw (env env':dG):∀ t,dG.get (env.map fun q=>(q.1,env'.get q.1)) t=env'.get t∨dG.get (env.map fun q=>(q.1,env'.get q.1)) t= .dead:=by
 intro t
 induction env with
 |nil=>exact .inr rfl
 | cons q r ih=>
  cases a:Δ q.1 t with
  |true=>
   left;have:=Xqv a;subst this;simp only [dG.get,Γ,ai,a,Xqt]
  | false=>
   have e:dG.get (Xvw (fun q=>(q.1,env'.get q.1)) (q::r)) t=dG.get (Xvw (fun q=>(q.1,env'.get q.1)) r) t:=by
    simp only [dG.get,Γ,ai,a]
   rw [e];exact ih
theorem bF.pp {d c:List AV} {a:Nat} (h:κ a d=c):bF (.pp d a) (.pp c 0):=by
 subst h;intro g m S v e;simp only [VR,PR] at e ⊢;obtain ⟨b,o,vs,rfl,hp,hs⟩:=e;refine ⟨b,o+a,vs.drop a,rfl,og a hp,fun j u f=> ?_⟩;rw [Xxy] at f;have:=hs (a+j) u f;rwa [← Nat.add_assoc] at this
theorem bF.ppt {e d f:List AV} {a:Nat} (h:κ a e=d++f):bF (.pp e a) (.pp d 0):=by
 intro g m S v i;have:=bF.pp h g m S v i;simp only [VR,PR] at this ⊢;obtain ⟨b,o,vs,rfl,hp,hs⟩:=this;refine ⟨b,o,vs.take d.length,rfl, ?_,fun j u c=> ?_⟩
 ·have:=jo d.length hp;rwa [List.take_left'] at this;rfl
 ·rw [Xxh] at c;split at c
  ·exact hs j u c
  ·cases c
theorem bF.eq {x y:AV} (h:x=y):bF x y:=h ▸ fun _ _ _ _ a=>a
theorem bF.rd (ks:List LK) {d b c:List AV} {a:Nat} (h:κ a d=b++c) (e:JB true ks (b++c)=b):bF (.agg (su true ks d a)) (.agg b):= .eq (by unfold su;rw [h,e])
theorem bF.rd1 (k:LK) {b c:List AV} {y:AV} {a:Nat} (h:κ a b= [y]++c) (d:eta k y=y):bF (eta k ((κ a b).headD .dead)) y:= .eq (by rw [h];exact d)
theorem jE.a {l r:List Bool} (h:jE l) (a:jE r):jE (l++r):=by
 induction h with
 |nil=>exact a
 |t _ ih=>exact .t ih
 |c hb _ ih=>exact .c hb ih
theorem jE.of {l:List Bool} (h:l.all id=true):jE l:=by
 induction l with
 |nil=>exact .nil
 |cons b r ih=>
  simp only [Xjc,id,ε] at h;exact .c h.1 (ih h.2)
theorem bU (ks:List LK) {d c b:List AV} {a:Nat} (h:κ a d=c++b) (e:(QU true ks (c++b)).all id=true):jE (Gg true ks d a):=by
 unfold Gg;rw [h];exact .of e
inductive QF:List AV→List AV→Prop where
 |nil:QF [] []
 |same {x:AV} {l r:List AV}:QF l r→QF (x::l) (x::r)
 |nilS {l r:List AV}:QF l r→QF (.nilS::l) (.sl [] 0 false::r)
 |sl {xs:List AV} {n:Nat} {a:Bool} {l r:List AV}:QF l r→QF (.sl xs n a::l) (.sl xs n false::r)
theorem QF.prl {S:au} {l r:List AV} (h:QF l r):∀ {vs:List Value},a_ S l vs→a_ S r vs:=by
 induction h with
 |nil=>exact fun h=>h
 |same _ ih=>intro vs b;cases vs with|nil=>simp [a_] at b|cons v vs=>simp only [a_] at b ⊢;exact ⟨b.1,ih b.2⟩
 | nilS _ ih=>
  intro vs b;cases vs with
  |nil=>simp [a_] at b
  |cons v vs=>
   simp only [a_,PR] at b ⊢;exact ⟨⟨none,0,b.1,ζ _,.inl (by simp)⟩,ih b.2⟩
 | @sl xs n a _ _ _ ih=>
  intro vs b;cases vs with
  |nil=>simp [a_] at b
  |cons v vs=>
   have c:=b;simp only [a_] at c ⊢;refine ⟨?_,ih c.2⟩;have d:=bF.sl xs n a (fun _=>none) (fun _=>(0,0)) S v (by simp only [VR];exact c.1);simpa only [VR] using d
theorem bF.slP {e i:List AV} {n:Nat} {nn:Bool} (j:QF e i):bF (.sl e n nn) (.sl i n nn):=by
 intro g m S v f;simp only [VR,PR] at f ⊢;obtain ⟨a,cap,rfl,p,h⟩:=f;refine ⟨a,cap,rfl,p, ?_⟩;rcases h with ⟨c,d,k,l⟩|⟨b,o,vs,q,c,d⟩
 ·subst d;cases j;exact .inl ⟨c,rfl,k,l⟩
 ·exact .inr ⟨b,o,vs,q,j.prl c,d⟩
end AM
namespace AM
open Go
variable {P:Program} {ap:AP}
theorem ag.norm {h0:List az} {nt:Nat} {b:Code} {s s1:St} {e:aJ} (keep:List Nat) (q:∀ v,e= .panic v→(bZ v).isEmpty=true) (h:ag P ap h0 nt b s e s1):ag P ap h0 nt b s e (AM.norm h0.length keep s1):=by
 intro hs;obtain ⟨r,j⟩:=h hs;refine ⟨r,fun m0 S0 w0 m S w a c p Q k=>j m0 S0 w0 m S w a c p Q ?_⟩;intro t S' w' a' o n;obtain ⟨l,i,f⟩:=iW (keep:=keep) o n;have:=k l S' w' a' i f;clear k i f j;generalize AM.norm h0.length keep s1=s2 at*
 cases e with
 |normal=>exact this
 |exit id=>exact this
 |ret=>exact this
 |panic v=>intro cv d;exact this cv (ed _ (kR (q v rfl) d))
def aek:aJ→Bool
 | .panic v=>(bZ v).isEmpty
 |_=>true
def Dc (base:Nat) (env:dG):R ((aJ × St) × qQ)→R ((aJ × St) × qQ)
 | .ok ((e,s),l) c=>match aek e with
  |true=> .ok ((e,norm base (env.map fun q=>q.1) s),l) c
  |false=> .bad 1
 |r=>r
def vM (P:Program) (ap:AP) (h0:List az) (f nt0:Nat) (ls:List Nat) (code:Code) (s:St) (lps:qQ) (orc:List Bool) (ans:List (gV × List az)) (hs:List mJ) (env:dG):R ((aJ × St) × qQ):=
 match dA nt0 code with
 |true=>Dc h0.length env (kL P ap (uq P ap 3000 4) h0 (GK ap f) 3000 nt0 ls code s lps ⟨false,orc,[],[],ans,hs⟩)
 |false=> .bad 0
theorem pn (g:uy P ap) (f:Nat) (i:List Nat) (n k:Nat) {nt nt0:Nat} {ans:List (gV × List az)} {b:qQ} {hs:List mJ} {bs:List Bool} {ps:List Prop} {a:Code} {s s':St} {h0:List az} {e:aJ}
  (hb:jE bs) (hp:PS P ap ps ans b hs) (hn:nt0≤nt) (he:vM P ap h0 f nt0 i a s b (qB n k) ans hs s'.env= .ok ((e,s'),[]) ⟨false,[],bs,ps,[],[]⟩):ag P ap h0 nt a s e s':=by
 unfold vM at he;split at he
 ·rename_i p;generalize u:kL P ap (uq P ap 3000 4) h0 (GK ap f) 3000 nt0 i a s b ⟨false,qB n k,[],[],ans,hs⟩=r at he;cases r with
  | ok q c=>
   obtain ⟨⟨j,s1⟩,x⟩:=q;simp only [Dc] at he;split at he
   ·rename_i d;simp only [R.ok.injEq,Prod.mk.injEq] at he;obtain ⟨⟨⟨rfl,h⟩,rfl⟩,rfl⟩:=he;obtain ⟨t,y⟩:=gy g.apok g.mixed g.fnok 3000 4;have o:ag P ap h0 nt a s j s1:=(rG g.apok g.mixed t hn a (dK hn a p) _ _ _ _ _ u ⟨hb.mem,hp.all.mem⟩).2;have:=o.norm (s'.env.map fun q=>q.1) (fun v l=>by subst l;exact d);rwa [h] at this
   ·cases he
  |need=>simp [Dc] at he
  |bad n=>simp [Dc] at he
 ·cases he
end AM
namespace AM
open Go
variable {P:Program} {ap:AP}
def goL {α σ β:Type} (F:σ→α→σ ⊕ β) (fin:σ→β):List α→σ→β
 | [],s=>fin s
 |x::r,s=>match F s x with
  | .inl s'=>goL F fin r s'
  | .inr b=>b
theorem aN.goL {α σ β:Type} {h0:List az} {nt:Nat} {b:Code} {e:β→aJ} {st:Nat × σ→St} {out:β→St} (F:σ→α→σ ⊕ β) (a:σ→β) (L:List α) (Inv:List α→σ→Prop)
  (hstep:∀ p x r s,L=p++x::r→Inv p s→match F s x with
   | .inl s'=>ag P ap h0 nt b (st (p.length,s)) .normal (st (p.length+1,s'))∧Inv (p++ [x]) s'
   | .inr q=>ag P ap h0 nt b (st (p.length,s)) (e q) (out q))
  (hend:∀ s,Inv L s→ag P ap h0 nt b (st (L.length,s)) (e (a s)) (out (a s))):
  ∀ (r p:List α) (s:σ),L=p++r→Inv p s→aN P ap h0 nt b e st out (p.length,s) (AM.goL F a r s):=by
 intro r
 induction r with
 |nil=>
  intro p s h d;rw [μ] at h;subst h;exact .done (hend s d)
 | cons x r ih=>
  intro p s h d;have c:=hstep p x r s h d;simp only [AM.goL];cases f:F s x with
  |inl s'=>
   rw [f] at c;have i:=ih (p++ [x]) s' (by rw [h];simp) c.2;rw [η,List.length_singleton] at i;exact .next c.1 i
  |inr q=>
   rw [f] at c;exact .done c
end AM
namespace AM
open Go Go.WideShapes Go.ChangeShapes
theorem EI {a:Addr} (h:a.spot=none) (n:Nat):a.add n=⟨a.block,a.off+n,none⟩:=by
 unfold Addr.add;obtain ⟨b,o,s⟩:=a;simp only at h;subst h;split
 ·rename_i c;subst c;rfl
 ·rfl
section
variable {H:Type} {enc:TypeId × Value→H} {P:Program} {w:World} {base:Nat} {spare:Nat→Bool} {held:Bool}
end
end AM
namespace AM
open Go Go.WideShapes Go.ChangeShapes
section
variable {H:Type} {enc:TypeId × Value→H} {P:Program} {w:World} {base:Nat} {spare:Nat→Bool} {held:Bool}
theorem JY {u e:TypeId} (b:P.underlying u=some (.slice e)) {base':Nat} {v:Value} (h:Value.okWide P w .any base' u v):v.cells.toList= [v]:=by
 obtain ⟨a,l,c,rfl⟩:=okWide_slice b h;rfl
end
end AM
namespace AM
open Go Go.WideShapes Go.ChangeShapes
inductive DK where
 |int (k:IntKind)
 |bool
 |str
 |slc (l:List DK)
def BL (P:Program) (f:TypeId→Option (List DK)):List Field→Nat→Option (List DK)
 | [],_=>some []
 | x::r,off=>match f x.type with
  | some l=>match Δ x.offset off && Δ (P.cellsOf x.type) l.length with
   |true=>match BL P f r (off+l.length) with
    |some q=>some (l++q)
    |none=>none
   |false=>none
  |none=>none
def EM (P:Program):Nat→TypeId→Option (List DK)
 |0,_=>none
 | n+1,t=>match P.underlying t with
  |some (.int k)=>some [.int k]
  |some .bool=>some [.bool]
  |some .string=>some [.str]
  |some (.struct fs)=>match BL P (EM P n) fs.toList 0 with
   |some l=>match Δ (P.cellsOf t) l.length with|true=>some l|false=>none
   |none=>none
  |some (.slice e)=>match EM P n e with
   |some l=>match Δ (P.cellsOf e) l.length && Nat.ble 1 l.length with|true=>some [.slc l]|false=>none
   |none=>none
  |_=>none
inductive fM (b:Nat):List DK→List AV→Prop
 |nil:fM b [] []
 |int {k:IntKind} {n:Int} {r:List DK} {l:List AV}:fM b r l→fM b (.int k::r) (.int k n::l)
 |bool {x:Bool} {r:List DK} {l:List AV}:fM b r l→fM b (.bool::r) (.bool x::l)
 |str {s:List UInt8} {r:List DK} {l:List AV}:s.length≤b→fM b r l→fM b (.str::r) (.str s::l)
 |slc {ks:List DK} {L:List (List AV)} {r:List DK} {l:List AV}:(∀ x ∈ L,fM b ks x)→L.length≤b→fM b r l→fM b (.slc ks::r) (.sl L.flatten L.length false::l)
theorem fM.mono {b c:Nat} (h:b≤c) {ks:List DK} {a:List AV} (d:fM b ks a):fM c ks a:=by
 induction d with
 |nil=>exact .nil
 |int _ ih=>exact .int ih
 |bool _ ih=>exact .bool ih
 |str hs _ ih=>exact .str (Xqg hs h) ih
 |slc _ hl _ ihx ih=>exact .slc ihx (Xqg hl h) ih
theorem fM.app {b:Nat} {k1 k2:List DK} {a c:List AV} (h:fM b k1 a) (d:fM b k2 c):fM b (k1++k2) (a++c):=by
 induction h with
 |nil=>exact d
 |int _ ih=>exact .int ih
 |bool _ ih=>exact .bool ih
 |str hs _ ih=>exact .str hs ih
 |slc hx hl _ _ ih=>exact .slc hx hl ih
structure ab9 {H:Type} (bk:DataW H→Nat):Prop where
 str:∀ s:List UInt8,s.length≤bk (.lit (.string s))
 agg:∀ l:List (DataW H),∀ d ∈ l,bk d≤bk (.agg l)
 slc:∀ l r:List (DataW H),(∀ d ∈ l,bk d≤bk (.slice l r))∧l.length≤bk (.slice l r)
section
variable {H:Type} {enc:TypeId × Value→H} {P:Program} {w:World} {base:Nat} {spare:Nat→Bool} {held:Bool} {bk:DataW H→Nat}
theorem zi {n B:Nat} {f:TypeId→Option (List DK)} (c:∀ t ks,f t=some ks→∀ (fuel:Nat) (cs:List Value) (x:DataW H × List MemPlace),DataW.trod enc P w base spare held fuel t cs=some x→∃ xs,fM (bk x.1) ks xs∧a_ (iF w) xs cs∧∀ u ∈ cs,u.oneCell'=true) {cs:List Value}:∀ (r:List Field) (off:Nat) (ks:List DK),BL P f r off=some ks→
  (∀ (i:Nat) (x:Field),r[i]? =some x→∃ y,DataW.trod enc P w base spare held n x.type ((cs.drop x.offset).take (P.cellsOf x.type))=some y∧bk y.1≤B)→∃ xs,fM B ks xs∧a_ (iF w) xs ((cs.drop off).take ks.length)∧∀ u ∈ (cs.drop off).take ks.length,u.oneCell'=true
 | [],off,ks,h,_=>by
  simp only [BL] at h;cases h;exact ⟨[],.nil,by simp [a_],by simp⟩
 | x ::r,off,ks,h,hx=>by
  simp only [BL] at h;split at h
  ·rename_i l G;split at h
   ·rename_i b;simp only [ε] at b;have s:=Xqv b.1;have z:=Xqv b.2;split at h
    ·rename_i q j;cases h;obtain ⟨y,E,p⟩:=hx 0 x rfl;obtain ⟨D,C,d,e⟩:=c _ _ G _ _ _ E;rw [s,z] at d e;obtain ⟨F,A,o,v⟩:=zi c r (off+l.length) q j (fun i f k=>hx (i+1) f (by simpa using k));refine ⟨D++F,(C.mono p).app A, ?_, ?_⟩
     ·rw [η,Xkm,Xjo];exact iP d o
     ·rw [η,Xkm,Xjo];intro u a;rcases List.mem_append.1 a with a|a
      ·exact e u a
      ·exact v u a
    ·cases h
   ·cases h
  ·cases h
theorem yY {S:au}:∀ {L:List (List AV)} {M:List (List Value)},L.length=M.length→(∀ (i:Nat) (x:List AV) (m:List Value),L[i]? =some x→M[i]? =some m→a_ S x m)→a_ S L.flatten M.flatten
 | [],[],_,_=>by simp [a_]
 |x::L,m::M,h,hp=>by
  rw [Xx6,Xx6];exact iP (hp 0 x m rfl rfl) (yY (by simpa using h) fun i b a c d=>hp (i+1) b a (by simpa using c) (by simpa using d))
 | [],_::_,h,_=>by simp at h
 |_::_,[],h,_=>by simp at h
theorem PD (hk:ab9 bk) (hsp:∀ b,spare b=true):∀ (n:Nat) (t:TypeId) (ks:List DK),EM P n t=some ks→∀ (E:Nat) (cs:List Value) (x:DataW H × List MemPlace),DataW.trod enc P w base spare held E t cs=some x→
  ∃ O,fM (bk x.1) ks O∧a_ (iF w) O cs∧∀ u ∈ cs,u.oneCell'=true:=by
 intro n
 induction n with
 |zero=>intro t ks h;simp [EM] at h
 | succ n ih=>
  intro t ks h E cs x v;simp only [EM] at h;split at h
  ·rename_i k z;cases h;obtain ⟨m,rfl,_⟩:=DataW.trod_int z v;exact ⟨[.int k m],.int .nil,by simp [a_,PR],by simp [Value.oneCell']⟩
  ·rename_i z;cases h;obtain ⟨b,rfl,_⟩:=DataW.trod_bool z v;exact ⟨[.bool b],.bool .nil,by simp [a_,PR],by simp [Value.oneCell']⟩
  ·rename_i z;cases h;obtain ⟨s,rfl,rfl,_⟩:=DataW.trod_string z v;exact ⟨[.str s.data.toList],.str (hk.str _) .nil,by simp [a_,PR],by simp [Value.oneCell']⟩
  ·rename_i fs z;split at h
   ·rename_i l hl;split at h
    ·rename_i Q;cases h;obtain ⟨O,m,rfl,rfl,D,hxl,A⟩:=DataW.trod_struct z v;have e:=Xqv Q;obtain ⟨Y,d1,Z,R⟩:=zi (n:=m) (B:=bk (.agg (O.map (·.1)))) ih (cs:=cs) fs.toList 0 ks hl (fun i f hf=>by
      have U:fs[i]? =some f:=by simpa using hf
      have K:=A i f U;have p:i<O.length:=by rw [hxl];exact (Array.getElem?_eq_some_iff.1 U).1
      rw [δ p] at K;exact ⟨_,K,hk.agg _ _ (List.mem_map.2 ⟨_,Xxq p,rfl⟩)⟩)
     rw [List.drop_zero,List.take_of_length_le (by omega)] at Z R;exact ⟨Y,d1,Z,R⟩
    ·cases h
   ·cases h
  ·rename_i e z;split at h
   ·rename_i l hl;split at h
    ·rename_i Q;cases h;simp only [ε] at Q;have hce:=Xqv Q.1;have hpos:=Nat.le_of_ble_eq_true Q.2;rcases DataW.trod_slice z v with ⟨rfl,rfl⟩|⟨a,len,cap,elems,rest,m,_,rfl,rfl,_,hlc,hm,D,V,hre,_⟩
     ·refine ⟨[.sl [] 0 false],.slc (L:= []) (by simp) (by simp) .nil, ?_,by simp [Value.oneCell']⟩;simp only [a_,PR,and_true];exact ⟨none,0,rfl,ζ _,.inl ⟨fun _=>trivial,trivial,trivial,rfl⟩⟩
     ·obtain ⟨b1,b2⟩:=hk.slc (elems.map (·.1)) (rest.map (·.1));generalize hB:bk (.slice (elems.map (·.1)) (rest.map (·.1)))=B at b1 b2;have hspot:0<cap→a.spot=none:=by
       intro W;have key:∃ c,w.cells? base (a.add 0) (P.cellsOf e)=some c:=by
        rcases Xjx len with h0|h0
        ·obtain ⟨r1,r2⟩:=hre (hsp _);have C:=r2 0 (by omega);rw [δ (by omega)] at C;obtain ⟨c,y,_⟩:=Option.bind_eq_some_iff.1 C;rw [h0,Xxf,Xjp] at y;exact ⟨c,y⟩
        ·have C:=V 0 h0;rw [δ (by omega)] at C;obtain ⟨c,y,_⟩:=Option.bind_eq_some_iff.1 C;rw [Xjp] at y;exact ⟨c,y⟩
       obtain ⟨c,y⟩:=key;obtain ⟨_,h9,F⟩:=World.cells?_some y;have r:=F 0 (by omega);have ez:(a.add 0).add 0=a:=by simp [Addr.add]
       rw [ez] at r;have p:0<c.length:=by omega
       rw [δ p] at r;exact World.cell?_spot r
      have key:∀ q,q≤len→∃ (L:List (List AV)) (M:List (List Value)),L.length=q∧M.length=q∧(∀ x ∈ L,fM B l x)∧(∀ (i:Nat) (x:List AV) (m:List Value),L[i]? =some x→M[i]? =some m→a_ (iF w) x m)∧M.flatten.length=q*l.length∧(∀ u ∈ M.flatten,u.oneCell'=true)∧∀ j u,M.flatten[j]? =some u→iF w a.block (a.off+j)=some u:=by
       intro q
       induction q with
       |zero=>intro _;exact ⟨[],[],rfl,rfl,by simp,by simp,by simp,by simp,by simp⟩
       | succ q ihq=>
        intro hq;obtain ⟨L,M,N,T,K,G,X,I,h4⟩:=ihq (by omega);have C:=V q (by omega);rw [δ (by omega)] at C;obtain ⟨c,y,h7⟩:=Option.bind_eq_some_iff.1 C;obtain ⟨Y,d1,Z,R⟩:=ih e l hl _ _ _ h7;obtain ⟨_,h9,F⟩:=World.cells?_some y;have hs:=hspot (by omega);have d2:fM B l Y:=d1.mono (b1 _ (List.mem_map.2 ⟨_,Xxq _,rfl⟩));refine ⟨L++ [Y],M++ [c],by simp [N],by simp [T], ?_, ?_, ?_, ?_, ?_⟩
        ·intro x v;rcases List.mem_append.1 v with v|v
         ·exact K x v
         ·simp at v;subst v;exact d2
        ·intro i x m A d;rw [Xwz] at A d;split at A
         ·rename_i p;rw [if_pos (by omega)] at d;exact G i x m A d
         ·rename_i p;rw [if_neg (by omega)] at d;have e0:i - L.length=0:=by
           have:=(List.getElem?_eq_some_iff.1 A).1;simp at this;omega
          have e1:i - M.length=0:=by omega
          rw [e0] at A;rw [e1] at d;cases A;cases d;exact Z
        ·rw [Xz4,η,X];simp only [Xx6,Xvt,μ];rw [Nat.succ_mul];omega
        ·intro u J;rw [Xz4] at J;rcases List.mem_append.1 J with J|J
         ·exact I u J
         ·exact R u (by simpa using J)
        ·intro j u d;rw [Xz4,Xwz] at d;split at d
         ·exact h4 j u d
         ·rename_i hjl;simp only [Xx6,Xvt,μ] at d;have h11:=(List.getElem?_eq_some_iff.1 d).1;have r:=F (j - M.flatten.length) (by omega);rw [d,EI hs,EI rfl] at r;refine FQ ?_ (R u (ο d));rw [← r,X,hce];congr 2;have:q*l.length≤j:=by rw [← X];omega
          simp only;omega
      obtain ⟨L,M,N,T,K,G,X,I,h4⟩:=key len (ζ _);have hlB:L.length≤B:=by rw [N,← D];simpa using b2
      refine ⟨[.sl L.flatten L.length false],.slc K hlB .nil, ?_,by simp [Value.oneCell']⟩;simp only [a_,PR,and_true];refine ⟨some a,cap,by rw [N],by rw [N];exact hlc, ?_⟩;rcases Xjx cap with W|W
      ·have h0:len=0:=by omega
       have:L= []:=Xq0 (by omega);subst this;exact .inl ⟨fun _=>trivial,rfl,rfl,W⟩
      ·refine .inr ⟨a.block,a.off,M.flatten, ?_,yY (by omega) G,fun j u d=> ⟨h4 j u d,I u (ο d)⟩⟩;have hs:=hspot W;obtain ⟨b,o,s⟩:=a;simp only at hs;subst hs;rfl
    ·cases h
   ·cases h
  ·cases h
end
end AM
namespace AM
open Go
variable {P:Program} {ap:AP} {H:bi}
def TW (ap:AP) (n:Nat) (F:Func) (env:dG) (hp:Hp):Option (gV × List az):=
 let rd:=ai hp
 match fP (tX ap env hp) F.results.toList,fP rd (Ψ n) with
 | some vs,some h'=>
  match h'.all (fun B=>B.pr||(bg B.cells).all fun b=>Xxc b n) && (vs.flatMap fun (q:AV × List Bool)=>q.2).all id with
  |false=>none
  |true=>
   let all:=vs.flatMap fun (q:AV × List Bool)=>lH rd 6 (fJ (bZ q.1))
   match fP (nH n rd all) (vs.map fun (q:AV × List Bool)=>q.1) with
   |some [v]=>some (.ret v,h')
   |some l=>some (.ret (.tup l),h')
   |none=>none
 |_,_=>none
theorem zG (p:di P ap) {n:Nat} {h0 r:List az} (A:h0.length≤n) {I:Func} {env:dG} {hp:Hp} {out:gV} (h:TW ap n I env hp=some (out,r)) {m m0:aB} {S S0:au} {w w0:World} {tmps:Array Value}:
  h0.length≤r.length∧(aZ ap (ai hp) m S w→Fr (ax h0) m0 S0 w0 (ai hp) m S w→(∀ t,VR (ai hp) m S (env.get t) (tmps.getD t undef))→
   ∃ cv,(results I tmps).run P w= .ok cv w∧∃ k S',zT ap h0 m0 S0 w0 out r k S' w (.returned cv)):=by
 unfold TW at h;dsimp only at h;split at h
 ·rename_i vs K o d;split at h
  ·cases h
  ·rename_i J;rw [ε] at J;obtain ⟨hbase,c⟩:=J;have c:∀ b ∈ vs.flatMap (·.2),b=true:=fun b hm=>List.all_eq_true.1 c b hm
   split at h
   ·rename_i v j;cases h;have hlen':h0.length≤r.length:=by rw [(fA d).1];simpa using A
    refine ⟨hlen',fun s f F=> ?_⟩;obtain ⟨cvs,C,u,D⟩:=iK p s F o c;have a:(vs.flatMap fun q=>lH (ai hp) 6 (fJ (bZ q.1)))=(vs.map (·.1)).flatMap (cl (ai hp)):=by rw [Xj9];rfl
    rw [a] at j;obtain ⟨k,S',y,z,B⟩:=lL s f u A j d hbase;have E:cvs.length=1:=by
     have:=aU u;have i:=(fA j).1;simp at i this;omega
    match cvs,E with
    | [cv],_=>
     obtain ⟨i,G⟩:=Io B;refine ⟨cv,kD C D,k,S', ?_⟩;rw [← G] at y z;refine ⟨y,z,cv,rfl, ?_⟩;rw [G];exact i
   ·rename_i l e j;cases h;have hlen':h0.length≤r.length:=by rw [(fA d).1];simpa using A
    refine ⟨hlen',fun s f F=> ?_⟩;obtain ⟨cvs,C,u,D⟩:=iK p s F o c;have a:(vs.flatMap fun q=>lH (ai hp) 6 (fJ (bZ q.1)))=(vs.map (·.1)).flatMap (cl (ai hp)):=by rw [Xj9];rfl
    rw [a] at j;obtain ⟨k,S',y,z,B⟩:=lL s f u A j d hbase;have x:Og cvs= .tuple cvs.toArray:=by
     match cvs with
     | []=>rfl
     | [cv]=>
      exfalso;have:=aU u;have i:=(fA j).1;simp at i this
      match l,e with
      | [],_=>simp at i;omega
      | [v],e=>exact e v rfl
      |_::_::_,_=>simp at i;omega
     |_::_::_=>rfl
    refine ⟨_,kD C D,k,S',y,z, ?_⟩;rw [x];exact ⟨_,rfl,cvs,rfl,B⟩
   ·cases h
 ·cases h
theorem jO (g:uy P ap) (n:Nat) {f:Nat} {F:AF} (l:ap.fnAt f=some F) {args:List AV} {h0 u:List az} {out:gV} {s:St} {nt0:Nat} (q:F.fn.ntmps=nt0) (j:∀ nt,nt0≤nt→ag P ap h0 nt (af F.fn) (dZ .dead args h0) .ret s) (M:s.dfs= []) (y:h0.length≤n) (t:TW ap n F.fn s.env s.hp=some (out,u)):ae P ap f args h0 out u:=by
 obtain ⟨i,_⟩:=zG (P:=P) (m:=fun _=>(0,0)) (m0:=fun _=>(0,0)) (S:=fun _ _=>none) (S0:=fun _ _=>none) (w:=default) (w0:=default) (tmps:=#[]) g.apok y t;subst q;refine ⟨i,sQ g.fnok l,fun m S w cargs J L=> ?_⟩;obtain ⟨e,v,x⟩:=g.fnok.body f F l;have hbody:af F.fn=e:=by simp [af,v]
 rw [hbody] at j;obtain ⟨D,a⟩:=Ak (md:= .dead) J L F.fn.ntmps;have a:FR ap (dZ .dead args h0).env (dZ .dead args h0).hp (dZ .dead args h0).dfs _ m S w _:=a;have o:F.fn.ntmps≤(cargs.toArray++Array.replicate (F.fn.ntmps - cargs.toArray.size) undef).size:=by simp;omega
 obtain ⟨_,j⟩:=j _ o rfl;refine calls_of_wp_defers (g.fnok.fn f F l) v ?_;refine j m S w m S w _ (by rw [D];exact Fr.refl _ _ _ _) a _ ?_;intro A S' w' a' C c;obtain ⟨_,O⟩:=nJ g.apok (gy g.apok g.mixed g.fnok 3000 4).2 [] .nilI .nilI s.hp s.hp ⟨false,[],[],[],[],[]⟩ _ rfl ⟨fun b h=>(by cases h),fun p h=>(by cases h)⟩;have d:=c.dfs;rw [M] at d;refine O h0 F.fn a'.tmps s.env _ m S w A S' w' a'.defers .returning c.srel C c.env d rfl ?_;intro I S2 G Q N E B r;simp only [n_] at r;subst r;obtain ⟨_,k⟩:=zG (P:=P) (m:=I) (m0:=m) (S:=S2) (S0:=S) (w:=G) (w0:=w) (tmps:=a'.tmps) g.apok y t;obtain ⟨cv,z,K⟩:=k N E B;exact ⟨cv,z,K⟩
end AM
namespace AM
open Go
open Go.ChangeMaps (setBlock)
section
variable {P:Program} {ap:AP} {h0:List az} {nt:Nat}
def iq (P:Program) (ap:AP) (h0:List az) (nt:Nat) (code:Code) (s:St) (Post:aJ→St→Prop):Prop:=
 s.md= .dead→(∀ e s',Post e s'→s'.md= .dead)∧∀ m0 S0 w0 m S w a,Fr (ax h0) m0 S0 w0 (ai s.hp) m S w→FR ap s.env s.hp s.dfs nt m S w a→∀ Q,(∀ e s',Post e s'→XA ap h0 m0 S0 w0 nt s' e Q)→code.wp P Q a w
theorem ag.any {b:Code} {s s':St} {e:aJ} {Post:aJ→St→Prop} (h:ag P ap h0 nt b s e s') (hp:Post e s') (hm:∀ e s',Post e s'→s'.md= .dead):iq P ap h0 nt b s Post:=
 fun d=> ⟨hm,fun m0 S0 w0 m S w a c i Q f=>(h d).2 m0 S0 w0 m S w a c i Q (f _ _ hp)⟩
theorem iq.one {b:Code} {s s':St} {e:aJ} (h:iq P ap h0 nt b s fun e1 s1=>e1=e∧s1=s'):ag P ap h0 nt b s e s':=fun c=>
 ⟨(h c).1 _ _ ⟨rfl,rfl⟩,fun m0 S0 w0 m S w a d f Q i=>(h c).2 m0 S0 w0 m S w a d f Q fun e1 s1 ⟨h1,h2⟩=>by subst h1;subst h2;exact i⟩
theorem iq.seq {x y:Code} {s:St} {A Post:aJ→St→Prop} (q:iq P ap h0 nt x s A) (l:∀ s1,A .normal s1→iq P ap h0 nt y s1 Post) (j:∀ e s1,A e s1→e ≠ .normal→Post e s1) (hm:∀ e s',Post e s'→s'.md= .dead):iq P ap h0 nt (.seq x y) s Post:=by
 intro k;obtain ⟨o,p⟩:=q k;refine ⟨hm,fun m0 S0 w0 m S w a i n Q h=>wp_seq (p m0 S0 w0 m S w a i n _ fun e s1 f=> ?_)⟩;cases e with
 |normal=>intro b S' w' a' d c;exact (l s1 f (o _ _ f)).2 m0 S0 w0 b S' w' a' d c Q h
 |exit id=>intro b S' w' a' d c;exact h _ _ (j _ _ f (by simp)) b S' w' a' d c
 |ret=>intro b S' w' a' d c;exact h _ _ (j _ _ f (by simp)) b S' w' a' d c
 |panic v=>intro b S' w' a' d c;exact h _ _ (j _ _ f (by simp)) b S' w' a' d c
def Kt (P:Program) (ap:AP) (nt:Nat) (ops:List Oper) (k:Nat) (s s':St):Prop:=
 s.md= .dead→s'.md= .dead∧∀ m S w a,FR ap s.env s.hp s.dfs nt m S w a→∀ Q,(∀ m' S' w' a',Fr (ai s.hp) m S w (ai s'.hp) m' S' w'→FR ap s'.env s'.hp s'.dfs nt m' S' w' a'→Q .normal a' w')→wpOps P ops.toArray Q (List.range' k (ops.length - k)) a w
theorem PK {H:bi} (i:di P ap) (C:gp P ap H) {ops:List Oper} {k:Nat} (j:ops.all (qE nt)=true) {s:St} {r:RS} {c c':Cx} (h:mf ap H ops (ops.drop k) (dV s.hp) {env:=s.env,hp:=s.hp,md:=s.md,dfs:=s.dfs,dec:= [],feet:= []} c= .ok (r,none) c') (u:c'.Ok):
  c.Ok∧Kt P ap nt ops k s ⟨r.env,r.hp,r.md,r.dfs⟩:=by
 have v:∀ o ∈ ops,∀ d,o.dst=some d→d<nt:=by
  intro o z d f;have:=List.all_eq_true.1 j o z;simp only [qE,f] at this;exact dW this
 obtain ⟨x,y⟩:=ji i C v (ops.drop k) k (dV s.hp) {env:=s.env,hp:=s.hp,md:=s.md,dfs:=s.dfs,dec:= [],feet:= []} r none c c' h u;refine ⟨x,fun l=> ?_⟩;obtain ⟨A,n⟩:=y l (fun t b e=>by cases e) rfl (fun b B e=>jR e);refine ⟨A,fun m S w a q Q p=> ?_⟩;have:=n m S w a q Q p;rwa [List.length_drop] at this
theorem JI {w w':World} {r k z:Nat} {cur:Array Value} {e:TypeId} {d:Option Nat} {n l:Nat} {f:Array Nat} (j:w.heap[r]? =some (.mapIter d n f l)) (c:∀ k,k ≠ r→w'.heap[k]? =w.heap[k]?) (h:fV w k z cur e):k ≠ r∧fV w' k z cur e:=by
 have a:k ≠ r:=by
  rintro rfl
  rcases h with ⟨_,h⟩|⟨_,es,clk,h,_⟩<;>(rw [j] at h;cases h)
 refine ⟨a, ?_⟩;rcases h with ⟨b,h⟩|⟨b,es,clk,h,i⟩
 ·exact .inl ⟨b,by rw [c k a];exact h⟩
 ·exact .inr ⟨b,es,clk,by rw [c k a];exact h,i⟩
theorem aZ.iter {g:bD} {m:aB} {S:au} {w w':World} {r:Nat} {n c:Option Nat} {A z f d:Nat} {q j:Array Nat} (h:aZ ap g m S w) (i:w.heap[r]? =some (.mapIter n A q z)) (u:w'.heap[r]? =some (.mapIter c f j d)) (l:∀ k,k ≠ r→w'.heap[k]? =w.heap[k]?):aZ ap g m S w':=by
 refine ⟨h.inj,fun b B p=> ?_,fun k o v t=> ?_,h.own,h.glob⟩
 ·obtain ⟨⟨cur,e,vs,rest,a,x⟩,y,s⟩:=h.blk b B p;exact ⟨⟨cur,e,vs,rest,(JI i l a).2,x⟩,y,s⟩
 ·have a:=h.sealed k o v t;by_cases e:k=r
  ·subst e;exfalso;unfold bT at a;rw [i] at a;simp [World.cell?,i] at a
  ·unfold bT at a ⊢;simp only [World.cell?] at a ⊢;rw [l k e];exact a
theorem FR.iter {env:dG} {hp:Hp} {dfs:List (Nat × List AV)} {m:aB} {S:au} {w w':World} {a:Act} {r:Nat} {n e:Option Nat} {l p d b:Nat} {o f:Array Nat} (h:FR ap env hp dfs nt m S w a) (j:w.heap[r]? =some (.mapIter n l o p)) (c:w'.heap[r]? =some (.mapIter e d f b)) (i:∀ k,k ≠ r→w'.heap[k]? =w.heap[k]?):FR ap env hp dfs nt m S w' a:=
 ⟨h.srel.iter j c i,h.env,h.dfs,h.size⟩
theorem FR.dead {env:dG} {hp:Hp} {dfs:List (Nat × List AV)} {m:aB} {S:au} {w:World} {a:Act} {d:Nat} (h:FR ap env hp dfs nt m S w a) (b:env.get d= .dead) (v:Value):FR ap env hp dfs nt m S w (a.put (some d) v):=by
 refine ⟨h.srel,fun t=> ?_, ?_,by rw [ay];exact h.size⟩
 ·by_cases e:t=d
  ·subst e;rw [b];simp [VR]
  ·rw [jS a (some d) v (by simpa using fun h=>e h.symm)];exact h.env t
 ·rw [lZ];exact h.dfs
theorem Fr.iter {o g:bD} {m0 m:aB} {S0 S:au} {w0 w w':World} {r:Nat} {s j:Option Nat} {q z i c:Nat} {v l:Array Nat} (h:Fr o m0 S0 w0 g m S w) (h0:w0.heap.size≤r) (A:w.heap[r]? =some (.mapIter s q v z)) (f:w'.heap[r]? =some (.mapIter j i l c)) (n:∀ k,k ≠ r→w'.heap[k]? =w.heap[k]?) (hs:w'.heap.size=w.heap.size) (x:w'.os=w.os) (y:w'.tape=w.tape) (t:w'.output=w.output):Fr o m0 S0 w0 g m S w':=
 ⟨h.ge,h.sle,x.trans h.os,y.trans h.tape,t.trans h.output,by rw [hs];exact h.size,fun k d u=>by rw [n k (by omega)];exact h.rest k d u,h.img,h.sealN,fun b B p es clk a=>by
  by_cases e:(m b).1=r
  ·rw [e,f] at a;cases a
  ·rw [n _ e] at a;exact h.mw b B p es clk a⟩
def xU (es:Array MapEntry) (i:Nat):Nat:=(es.toList.map (·.born)).getD i 0
def dD (es:Array MapEntry) (done:List Nat):Array Nat:=(done.reverse.map (xU es)).toArray
theorem zQ (es:Array MapEntry) (done:List Nat) (i:Nat):(dD es done).push (xU es i)=dD es (i::done):=by
 apply Array.toList_inj.1;simp [dD]
theorem sS {es:Array MapEntry} {i:Nat} {e:MapEntry} (h:es.toList[i]? =some e):xU es i=e.born:=by
 unfold xU;rw [γ,φ,h];rfl
theorem Ji {es:Array MapEntry} {done:List Nat} {e:MapEntry} (h:e ∈ (leftOf es (dD es done)).toList):∃ i,es.toList[i]? =some e∧i ∉ done:=by
 unfold leftOf at h;rw [Array.toList_filter,Xq7] at h;obtain ⟨c,d⟩:=h;obtain ⟨i,a⟩:=Xq1 c;refine ⟨i,a,fun b=> ?_⟩;have:e.born ∈ dD es done:=by
  simp only [dD,Xvu,Xvk,Xvv];exact ⟨i,b,sS a⟩
 simp [this] at d
theorem EY {es:Array MapEntry} {clk:Nat} {done:List Nat} (n:uB es clk) (d:∀ j ∈ done,j<es.size) (h:(leftOf es (dD es done)).size=0):∀ i,i<es.size→i ∈ done:=by
 intro i f;refine Classical.byContradiction fun l=> ?_
 have a:i<es.toList.length:=by simpa using f
 have o:es.toList[i]? =some es.toList[i]:=δ a;have hm:es.toList[i] ∈ (leftOf es (dD es done)).toList:=by
  unfold leftOf;rw [Array.toList_filter,Xq7];refine ⟨Xxq a, ?_⟩;have hs:es.toList[i].born ∉ dD es done:=by
   simp only [dD,Xvu,Xvk,Xvv]
   rintro ⟨j,hj,e⟩
   have b:j<es.toList.length:=by simpa using d j hj
   rw [sS (δ b)] at e;have c:=List.pairwise_iff_getElem.1 n.1;have:j=i:=by
    rcases Xj4 j i with hlt|heq|hlt
    ·exact (c j i (by simpa using b) (by simpa using a) hlt (by rw [Xzv,Xzv];exact e)).elim
    ·exact heq
    ·exact (c i j (by simpa using a) (by simpa using b) hlt (by rw [Xzv,Xzv];exact e.symm)).elim
   exact l (this ▸ hj)
  rw [Xqe,Bool.eq_false_iff];intro k;exact hs (by simpa using k)
 rw [Array.eq_empty_of_size_eq_zero h] at hm;simp at hm
def o_ (P:Program) (ap:AP) (nt:Nat) (REST:Code) (pt:Value) (env:dG) (hp:Hp) (k v:AV) (PostI:aJ→St→Prop):Prop:=
 ∀ m S w a,FR ap env hp [] nt m S w a→(∃ kv vv,(Instr.entry pt).run P w= .ok (.tuple #[kv,vv]) w∧PR S k kv∧PR S v vv)→
  ∀ Q,(∀ e s',PostI e s'→∀ m' S' w' a',Fr (ai hp) m S w (ai s'.hp) m' S' w'→FR ap s'.env s'.hp s'.dfs nt m' S' w' a'→qy s'.hp m' S' Q a' w' e)→REST.wp P Q a w
def fU (it tn ok:Nat) (pt:Value) (env:dG):dG:=(it,.raw pt)::(ok,.dead)::(tn,.dead)::env
def qm (n:Nat) (done:List Nat):Nat:=((Ψ n).filter fun j=> !done.contains j).length
theorem ug {n i:Nat} {done:List Nat} (a:i<n) (b:i ∉ done):qm n (i::done)<qm n done:=by
 unfold qm;have e:(Ψ n).filter (fun j=> !(i::done).contains j)=((Ψ n).filter fun j=> !done.contains j).filter fun j=> !(j==i):=by
  rw [List.filter_filter];congr 1;funext j;simp only [List.contains_cons,Bool.not_or]
 rw [e];refine (List.length_filter_lt_length_iff_exists).2 ⟨i, ?_,by simp⟩;rw [Xq7];exact ⟨List.mem_range.2 a,by simpa using b⟩
theorem A8 {S:au}:∀ {l:List AV} {us:List Value} {i:Nat} {u:Value},a_ S l us→us[i]? =some u→∃ x,l[i]? =some x∧PR S x u
 | [],[],_,_,_,h=>by simp at h
 |x::l,y::us,0,u,h,hu=>by simp only [a_] at h;simp at hu;subst hu;exact ⟨x,rfl,h.1⟩
 |x::l,y::us,i+1,u,h,hu=>by
  simp only [a_] at h;obtain ⟨z,a,b⟩:=A8 (i:=i) h.2 (by simpa using hu);exact ⟨z,by simpa using a,b⟩
 | [],_::_,_,_,h,_=>by simp [a_] at h
 |_::_,[],_,_,h,_=>by simp [a_] at h
theorem iD {a b:Nat} (h:a ≠ b):Δ a b=false:=by
 cases e:Δ a b with
 |false=>rfl
 |true=>exact absurd (Xqv e) h
theorem Hf {σ:Type} {l c ok id j n r bm clk:Nat} {Y o2:Oper} {REST:Code} {st:σ→St} {Inv:List Nat→σ→Prop} {ks vs:List AV} {es:Array MapEntry} {PostX:aJ→St→Prop} {m0:aB} {S0:au} {w0:World}
  (ho1:Y.op= .next (.tmp l) false) (hd1:Y.dst=some c) (hg1:Y.guard=none) (ho2:o2.op= .extract (.tmp c) 0) (hd2:o2.dst=some ok) (hg2:o2.guard=none)
  (htn:c<nt) (hok:ok<nt) (hit:l ≠ c∧l ≠ ok) (htk:c ≠ ok)
  (hrest:∀ done s i k v,Inv done s→i<n→i ∉ done→ks[i]? =some k→vs[i]? =some v→
   o_ P ap nt REST (.pointer (some ⟨r,0,none⟩)) (fU l c ok (.pointer (some ⟨r,0,none⟩)) (st s).env) (st s).hp k v fun e s'=>(e= .normal∧∃ s1,Inv (i::done) s1∧s'=⟨fU l c ok (.pointer (some ⟨r,0,none⟩)) (st s1).env,(st s1).hp,.dead,[]⟩)∨(e ≠ .normal∧PostX e s'))
  (hr0:w0.heap.size≤r) (hn:es.size=n) (hw:uB es clk) {Q:Exit→Act→World→Prop}
  (hend:∀ done s,Inv done s→(∀ i,i<n→i ∈ done)→XA ap h0 m0 S0 w0 nt ⟨fU l c ok (.pointer (some ⟨r,0,none⟩)) (st s).env,(st s).hp,.dead,[]⟩ (.exit id) Q)
  (hX:∀ e s',e ≠ .normal→PostX e s'→XA ap h0 m0 S0 w0 nt s' e Q):
  ∀ (f:Nat) (done:List Nat) (s:σ),Inv done s→(∀ i ∈ done,i<n)→qm n done≤f→∀ (m:aB) (S:au) (w:World) (a:Act) (z:Nat),
   Fr (ax h0) m0 S0 w0 (ai (st s).hp) m S w→FR ap (fU l c ok (.pointer (some ⟨r,0,none⟩)) (st s).env) (st s).hp [] nt m S w a→
   w.heap[r]? =some (.mapIter (some bm) clk (dD es done) z)→clk≤z→w.heap[bm]? =some (.map es clk)→(∀ b B,ai (st s).hp b=some B→(m b).1 ≠ bm)→a_ S ks (es.toList.map (·.key))→a_ S vs (es.toList.map (·.val))→
   Code.rounds P (.seq (.region j #[Y,o2] false) (.seq (.cond (.tmp ok) .skip (.exit id)) REST)) Q (f+1) a w:=by
 have key:∀ (K:Act→World→Prop) (done:List Nat) (s:σ),Inv done s→(∀ i ∈ done,i<n)→∀ (m:aB) (S:au) (w:World) (a:Act) (z:Nat),
   Fr (ax h0) m0 S0 w0 (ai (st s).hp) m S w→FR ap (fU l c ok (.pointer (some ⟨r,0,none⟩)) (st s).env) (st s).hp [] nt m S w a→
   w.heap[r]? =some (.mapIter (some bm) clk (dD es done) z)→clk≤z→w.heap[bm]? =some (.map es clk)→(∀ b B,ai (st s).hp b=some B→(m b).1 ≠ bm)→a_ S ks (es.toList.map (·.key))→a_ S vs (es.toList.map (·.val))→
   (∀ i s1,i<n→i ∉ done→Inv (i::done) s1→∀ N S' w' a',Fr (ax h0) m0 S0 w0 (ai (st s1).hp) N S' w'→FR ap (fU l c ok (.pointer (some ⟨r,0,none⟩)) (st s1).env) (st s1).hp [] nt N S' w' a'→
    w'.heap[r]? =some (.mapIter (some bm) clk (dD es (i::done)) clk)→w'.heap[bm]? =some (.map es clk)→(∀ b B,ai (st s1).hp b=some B→(N b).1 ≠ bm)→a_ S' ks (es.toList.map (·.key))→a_ S' vs (es.toList.map (·.val))→K a' w')→
   (Code.seq (.region j #[Y,o2] false) (.seq (.cond (.tmp ok) .skip (.exit id)) REST)).wp P (Exit.then K Q) a w:=by
  intro K done s Z hd m S w a z t A L hc M hs X hv hK;have hpt:a.eval (.tmp l)= .pointer (some ⟨r,0,none⟩):=by
   have:=A.env l;simp only [fU,dG.get,ai,Xxj,Xqt,VR,PR] at this;exact this
  have hold:∀ x ∈ es.toList,x.born<clk:=hw.2;refine wp_seq (wp_region_list ?_);refine wpList_plain hg1 fun K1 hK1=> ?_
  unfold Oper.wp;have o:∀ d,d=c∨d=ok→(fU l c ok (.pointer (some ⟨r,0,none⟩)) (st s).env).get d= .dead:=by
   rintro d (rfl|rfl)
   ·have U:Δ l d=false:=iD hit.1;have e2:Δ ok d=false:=iD fun e=>htk e.symm
    simp [fU,dG.get,ai,U,e2]
   ·have U:Δ l d=false:=iD hit.2;simp [fU,dG.get,ai,U]
  rcases run_next_at (P:=P) w Y.type r bm clk z (dD es done) es clk L M hold hc with ⟨hz,D⟩|⟨e,he,R,hw1,D⟩
  ·simp [execOp,ho1,hpt,D,Result.andThen];refine hK1 _ _ ?_;rw [hd1];refine wpList_plain hg2 fun K2 T=> ?_
   unfold Oper.wp;have hx:(a.put (some c) (.tuple #[.bool false])).eval (.tmp c)= .tuple #[.bool false]:=cZ a c _ (by rw [A.size];exact htn);simp [execOp,ho2,hx,Instr.extract,Result.andThen];refine T _ _ ?_;rw [hd2];have I:=(A.dead (o c (.inl rfl)) (.tuple #[.bool false])).dead (o ok (.inr rfl)) (.bool false);have F:((a.put (some c) (.tuple #[.bool false])).put (some ok) (.bool false)).eval (.tmp ok)= .bool false:=cZ _ ok _ (by rw [ay,A.size];exact hok);refine wp_seq (wp_cond_false F (wp_exit ?_));exact hend done s Z (fun i J=>EY hw (fun q hq=>by rw [hn];exact hd q hq) hz i (by rw [hn];exact J)) m S w _ t I
  ·simp [execOp,ho1,hpt,D,Result.andThen];refine hK1 _ _ ?_;rw [hd1];refine wpList_plain hg2 fun K2 T=> ?_
   unfold Oper.wp;have hx:(a.put (some c) (.tuple #[.bool true,e.key,e.val])).eval (.tmp c)= .tuple #[.bool true,e.key,e.val]:=cZ a c _ (by rw [A.size];exact htn);simp [execOp,ho2,hx,Instr.extract,Result.andThen];refine T _ _ ?_;rw [hd2];have I:=(A.dead (o c (.inl rfl)) (.tuple #[.bool true,e.key,e.val])).dead (o ok (.inr rfl)) (.bool true);have F:((a.put (some c) (.tuple #[.bool true,e.key,e.val])).put (some ok) (.bool true)).eval (.tmp ok)= .bool true:=cZ _ ok _ (by rw [ay,A.size];exact hok);refine wp_seq (wp_cond_true F (wp_skip ?_));generalize (a.put (some c) (.tuple #[.bool true,e.key,e.val])).put (some ok) (.bool true)=a2 at I F;obtain ⟨i,E,p⟩:=Ji he;have J:i<n:=by
    have:=(List.getElem?_eq_some_iff.1 E).1;rw [← hn];simpa using this
   have hborn:xU es i=e.born:=sS E;have y:R.heap=w.heap∧R.os=w.os∧R.tape=w.tape∧R.output=w.output:=by rcases hw1 with rfl|rfl<;>exact ⟨rfl,rfl,rfl,rfl⟩
   have hrlt:r<w.heap.size:=(Array.getElem?_eq_some_iff.1 L).1;have C:(setBlock R r (Obj.mapIter (some bm) clk ((dD es done).push e.born) clk)).heap[r]? =some (.mapIter (some bm) clk ((dD es done).push e.born) clk):=by simp [setBlock,y.1,hrlt]
   have V:∀ k,k ≠ r→(setBlock R r (Obj.mapIter (some bm) clk ((dD es done).push e.born) clk)).heap[k]? =w.heap[k]? :=fun k hk0=>by
    simp only [setBlock,y.1];rw [Array.getElem?_setIfInBounds_ne (fun h=>hk0 h.symm)]
   have hsz:(setBlock R r (Obj.mapIter (some bm) clk ((dD es done).push e.born) clk)).heap.size=w.heap.size:=by simp [setBlock,y.1]
   have hF3:=I.iter L C V;have hfr3:=t.iter hr0 L C V hsz y.2.1 y.2.2.1 y.2.2.2;have hbr:bm ≠ r:=by rintro rfl;rw [L] at M;cases M
   have G:=(V bm hbr).trans M;generalize setBlock R r (Obj.mapIter (some bm) clk ((dD es done).push e.born) clk)=w2 at*
   have hent:=run_entry_at (P:=P) w2 r bm clk (dD es done) es clk e C G (ο E) hw.1;obtain ⟨k,hk1,hk2⟩:=A8 (i:=i) X (u:=e.key) (by rw [φ,E];rfl);obtain ⟨v,hv1,hv2⟩:=A8 (i:=i) hv (u:=e.val) (by rw [φ,E];rfl);refine hrest done s i k v Z J p hk1 hv1 m S w2 a2 hF3 ⟨_,_,hent,hk2,hv2⟩ _ ?_;intro ex s' hp N S' w' a' hl hF4;have O:=hfr3.trans hl;rcases hp with ⟨rfl,s1,W,rfl⟩|⟨hne,hp⟩
   ·have hkeep:∀ q,q<w2.heap.size→(∀ b B,ai (st s).hp b=some B→(m b).1 ≠ q)→w'.heap[q]? =w2.heap[q]? :=hl.rest;have hrr:w'.heap[r]? =w2.heap[r]? :=hkeep r (by omega) fun b B hB U=>by
     obtain ⟨⟨cur,ty,us,rs,h1,_⟩,_,_⟩:=hF3.srel.blk b B hB;rw [U] at h1;exact (JI C (fun _ _=>rfl) h1).1 rfl
    have hbb:w'.heap[bm]? =w2.heap[bm]? :=hkeep bm (Array.getElem?_eq_some_iff.1 G).1 hs;refine hK i s1 J p W N S' w' a' O hF4 ?_ (hbb.trans G) ?_ (aW hl.sle _ X) (aW hl.sle _ hv)
    ·rw [hrr,C,← hborn,zQ]
    ·intro b B hB U;rcases hl.img b B hB with h9|⟨B0,h9,h10⟩
     ·have:=(Array.getElem?_eq_some_iff.1 G).1;omega
     ·exact hs b B0 h9 (by rw [← h10];exact U)
   ·have:=hX ex s' hne hp N S' w' a' O hF4;cases ex with
    |normal=>exact absurd rfl hne
    |exit q=>exact this
    |ret=>exact this
    |panic q=>exact this
 intro f
 induction f with
 | zero=>
  intro done s Z hd hu m S w a z t A L hc M hs X hv;exact key _ done s Z hd m S w a z t A L hc M hs X hv fun i s1 J p _ _ _ _ _ _ _ _ _ _ _ _=>by
   have:=ug J p;omega
 | succ f ih=>
  intro done s Z hd hu m S w a z t A L hc M hs X hv;exact key _ done s Z hd m S w a z t A L hc M hs X hv fun i s1 J p W N S' w' a' h1 h2 h3 h4 h5 h6 h7=>
   ih (i::done) s1 W (fun q hq=>by
    rcases List.mem_cons.1 hq with rfl|hq
    ·exact J
    ·exact hd q hq) (by have:=ug J p;omega) N S' w' a' clk h1 h2 h3 (ζ _) h4 h5 h6 h7
theorem FR.set {env:dG} {hp:Hp} {dfs:List (Nat × List AV)} {m:aB} {S:au} {w:World} {a:Act} {d:Nat} {x:AV} {v:Value} (h:FR ap env hp dfs nt m S w a) (b:d<nt) (c:VR (ai hp) m S x v):FR ap ((d,x)::env) hp dfs nt m S w (a.put (some d) v):=by
 refine ⟨h.srel,fun t=> ?_, ?_,by rw [ay];exact h.size⟩
 ·by_cases e:t=d
  ·subst e;rw [cZ a t v (by rw [h.size];exact b)];simpa [dG.get,ai] using c
  ·rw [jS a (some d) v (by simpa using fun h=>e h.symm)];simpa [dG.get,ai,iD (fun h=>e h.symm:d ≠ t)] using h.env t
 ·rw [lZ];exact h.dfs
theorem XI {g:bD} {m:aB} {S:au} {x:AV} {v:Value} (h:PR S x v):VR g m S x v:=ed x h
theorem o_.of {hs:List az} {i1 f c:Nat} {b:Oper} {h:List Oper} {TAIL:Code} {l:Value} {env:dG} {hp:Hp} {k v:AV} {s2:St} {A:aJ→St→Prop}
  (hoe:b.op= .entry (.tmp f)) (hde:b.dst=some c) (hge:b.guard=none) (hte:c<nt) (hhp:ax hs=ai hp) (hpt:env.get f= .raw l)
  (h1:Kt P ap nt (b::h) 1 ⟨(c,.tup [k,v])::env,hp,.dead,[]⟩ s2) (h2:iq P ap hs nt TAIL s2 A):o_ P ap nt (.seq (.region i1 (b::h).toArray false) TAIL) l env hp k v A:=by
 intro m S w a t ⟨kv,vv,hrun,hk,hv⟩ Q hQ;have hp':a.eval (.tmp f)=l:=by
  have:=t.env f;rw [hpt] at this;simp only [VR,PR] at this;exact this
 refine wp_seq (wp_region_list ?_);rw [Xx8];refine wpList_plain hge fun K F=> ?_
 unfold Oper.wp;simp [execOp,hoe,hp',hrun,Result.andThen];refine F _ _ ?_;rw [hde];have o:=t.set (d:=c) (x:= .tup [k,v]) (v:= .tuple #[kv,vv]) hte (by
  simp only [VR];exact ⟨[kv,vv],rfl,by simp only [aS];exact ⟨XI hk,XI hv,trivial⟩⟩)
 obtain ⟨C,z⟩:=h1 rfl;obtain ⟨_,B⟩:=h2 C;have i:=z m S w _ o (Exit.then (TAIL.wp P Q) Q) fun y S' w' a' D u=>B m S w y S' w' a' (by rw [hhp];exact D) u Q fun e s' E r S'' p q s n=>hQ e s' E r S'' p q (by rw [hhp] at s;exact s) n
 have e:=wpOps_eq_wpList (P:=P) (ops:=(b::h).toArray) (Q:=Exit.then (TAIL.wp P Q) Q) h 1 (fun j=>by simp [Nat.add_comm 1 j]);simp only [τ,Nat.add_sub_cancel] at i;rw [e] at i;exact i
theorem o_.block {id:Nat} {REST:Code} {l:Value} {env:dG} {hp:Hp} {k v:AV} {A B:aJ→St→Prop} (h:o_ P ap nt REST l env hp k v A) (p:∀ s',A (.exit id) s'→B .normal s') (j:∀ e s',A e s'→e ≠ .exit id→B e s'):o_ P ap nt (.block id REST) l env hp k v B:=by
 intro m S w a n o Q i;refine wp_block (h m S w a n o _ fun e s' f c S' w' a' d b=> ?_);cases e with
 |normal=>exact i _ _ (j _ _ f (by simp)) c S' w' a' d b
 | exit q=>
  by_cases hk:q=id
  ·subst hk;have:=i _ _ (p _ f) c S' w' a' d b;simpa [qy,Exit.inBlock] using this
  ·have:=i _ _ (j _ _ f (by simpa using hk)) c S' w' a' d b;simpa [qy,Exit.inBlock,hk] using this
 |ret=>exact i _ _ (j _ _ f (by simp)) c S' w' a' d b
 |panic q=>
  have:=i _ _ (j _ _ f (by simp)) c S' w' a' d b;exact this
theorem aZ.push {g:bD} {m:aB} {S:au} {w:World} (h:aZ ap g m S w) (o:Obj):aZ ap g m S (w.alloc o):=by
 have d:∀ k,k<w.heap.size→(w.alloc o).heap[k]? =w.heap[k]? :=fun k d=>by
  simp only [World.alloc,Array.getElem?_push];rw [if_neg (Xz8 d)]
 refine ⟨h.inj,fun b B i=> ?_,fun k l v j=> ?_,h.own,h.glob⟩
 ·have c:=h.lt i;obtain ⟨⟨cur,e,vs,rest,a,q⟩,r,n⟩:=h.blk b B i;refine ⟨⟨cur,e,vs,rest, ?_,q⟩,r,n⟩;rcases a with ⟨f,a⟩|⟨f,es,clk,a,p⟩
  ·exact .inl ⟨f,by rw [d _ c];exact a⟩
  ·exact .inr ⟨f,es,clk,by rw [d _ c];exact a,p⟩
 ·have a:=h.sealed k l v j;have c:=h.seal_lt j;unfold bT at a ⊢;simp only [World.cell?] at a ⊢;rw [d k c];exact a
theorem FR.push {env:dG} {hp:Hp} {dfs:List (Nat × List AV)} {m:aB} {S:au} {w:World} {a:Act} (h:FR ap env hp dfs nt m S w a) (o:Obj):FR ap env hp dfs nt m S (w.alloc o) a:=⟨h.srel.push o,h.env,h.dfs,h.size⟩
theorem Fr.push {i g:bD} {m0 m:aB} {S0 S:au} {w0 w:World} (h:Fr i m0 S0 w0 g m S w) {o:Obj} (l:∀ es clk,o ≠ .map es clk):Fr i m0 S0 w0 g m S (w.alloc o):=by
 have d:∀ k,k<w.heap.size→(w.alloc o).heap[k]? =w.heap[k]? :=fun k d=>by
  simp only [World.alloc,Array.getElem?_push];rw [if_neg (Xz8 d)]
 have hs:(w.alloc o).heap.size=w.heap.size+1:=Array.size_push ..;refine ⟨h.ge,h.sle,h.os,h.tape,h.output,by rw [hs];exact Nat.le_succ_of_le h.size,fun k c j=>by rw [d k (Xqy c h.size)];exact h.rest k c j,h.img,h.sealN,fun b B f es clk a=> ?_⟩;by_cases e:(m b).1<w.heap.size
 ·rw [d _ e] at a;exact h.mw b B f es clk a
 ·simp only [World.alloc,Array.getElem?_push] at a;split at a
  ·cases a;exact absurd rfl (l es clk)
  ·exact h.mw b B f es clk a
theorem FR.drop {env env':dG} {hp hp':Hp} {m:aB} {S:au} {w:World} {a:Act} (h:FR ap env hp [] nt m S w a) (c:∀ x B,ai hp' x=some B→ai hp x=some B) (i:∀ x B,ai hp' x=some B→∀ y ∈ bg B.cells,ai hp' y=ai hp y) (d:∀ t,env'.get t= .dead∨(env'.get t=env.get t∧∀ y ∈ bZ (env'.get t),ai hp' y=ai hp y)):FR ap env' hp' [] nt m S w a:=by
 refine ⟨⟨fun b q B B' j k e=>h.srel.inj b q B B' (c _ _ j) (c _ _ k) e,fun b B f=> ?_,h.srel.sealed,fun b B f=>h.srel.own b B (c _ _ f),h.srel.glob⟩,fun t=> ?_, ?_,h.size⟩
 ·obtain ⟨⟨cur,e,vs,rest,j,k,z,s,u⟩,o,p⟩:=h.srel.blk b B (c _ _ f);exact ⟨⟨cur,e,vs,rest,j,k,z,jd (gK.refl S) _ (fun y l=> ⟨i b B f y l,rfl⟩) s,u⟩,o,p⟩
 ·rcases d t with e|⟨e,n⟩
  ·rw [e];simp [VR]
  ·rw [e] at n ⊢;exact lF (gK.refl S) _ (fun y l=> ⟨n y l,rfl⟩) (h.env t)
 ·have:=h.dfs;cases v:a.defers with
  |nil=>simp [dR]
  |cons x r=>rw [v] at this;simp [dR] at this
theorem Fr.drop {d:bD} {hp hp':Hp} {m0 m:aB} {S0 S:au} {w0 w:World} (h:Fr d m0 S0 w0 (ai hp) m S w) (a:∀ x B,ai hp' x=some B→ai hp x=some B) (hbase:∀ x B0 B,d x=some B0→ai hp x=some B→ai hp' x=some B):Fr d m0 S0 w0 (ai hp') m S w:=by
 refine ⟨fun b B0 e=> ?_,h.sle,h.os,h.tape,h.output,h.size,h.rest,fun b B c=>h.img b B (a _ _ c),h.sealN,fun b B c=>h.mw b B (a _ _ c)⟩;obtain ⟨B,f,i⟩:=h.ge b B0 e;exact ⟨B,hbase b B0 B e f,i⟩
theorem P7 {σ:Type} {d p ok id j i0 n b ver tm l:Nat} {ty kt et:TypeId} {W T X U:Oper} {REST:Code} {st:σ→St} {Inv:List Nat→σ→Prop} {ks vs:List AV} {PostX Post:aJ→St→Prop} {B:az} {s:St} {s0:σ}
  (ho3:X.op= .move (.tmp tm)) (hd3:X.dst=some l) (hg3:X.guard=none) (ho4:U.op= .range ty (.tmp l)) (hd4:U.dst=some d) (hg4:U.guard=none)
  (ho1:W.op= .next (.tmp d) false) (hd1:W.dst=some p) (hg1:W.guard=none) (ho2:T.op= .extract (.tmp p) 0) (hd2:T.dst=some ok) (hg2:T.guard=none)
  (hit:d<nt) (htn:p<nt) (hok:ok<nt) (ht1:l<nt) (hne:d ≠ p∧d ≠ ok) (htk:p ≠ ok)
  (hund:P.underlying ty=some (.map kt et)) (hm:s.env.get tm= .mr b ver) (hB:ai s.hp b=some B) (hver:B.ver=ver) (hz:B.esz=dJ) (hcells:B.cells= [.agg ks,.agg vs]) (hpr:B.pr=true) (hbase:ax h0 b=none) (hdfs:s.dfs= []) (hlen:ks.length=n)
  (hI0:Inv [] s0) (hsub:∀ x C,ai (st s0).hp x=some C→ai s.hp x=some C∧x ≠ b) (hcl:∀ x C,ai (st s0).hp x=some C→∀ y ∈ bg C.cells,ai (st s0).hp y=ai s.hp y)
  (henv:∀ t,(st s0).env.get t= .dead∨(t ≠ l∧t ≠ d∧(st s0).env.get t=s.env.get t∧∀ y ∈ bZ ((st s0).env.get t),ai (st s0).hp y=ai s.hp y))
  (hb2:∀ x B0 C,ax h0 x=some B0→ai s.hp x=some C→ai (st s0).hp x=some C)
  (hrest:∀ pt done s i k v,Inv done s→i<n→i ∉ done→ks[i]? =some k→vs[i]? =some v→
   o_ P ap nt REST pt (fU d p ok pt (st s).env) (st s).hp k v fun e s'=>(e= .normal∧∃ s1,Inv (i::done) s1∧s'=⟨fU d p ok pt (st s1).env,(st s1).hp,.dead,[]⟩)∨(e ≠ .normal∧PostX e s'))
  (hend:∀ pt done s,Inv done s→(∀ i,i<n→i ∈ done)→Post .normal ⟨fU d p ok pt (st s).env,(st s).hp,.dead,[]⟩)
  (hX:∀ e s',e ≠ .normal→PostX e s'→e ≠ .exit id∧Post e s') (hmd:∀ e s',Post e s'→s'.md= .dead):
  iq P ap h0 nt (.seq (.region i0 #[X,U] false) (.block id (.loop (.seq (.region j #[W,T] false) (.seq (.cond (.tmp ok) .skip (.exit id)) REST))))) s Post:=by
 intro _;refine ⟨hmd,fun m0 S0 w0 m S w a A G Q hQ=>wp_seq (wp_region_list ?_)⟩;rw [hdfs] at G;have E:=G.env tm;rw [hm] at E;simp only [VR] at E;obtain ⟨B',L,_,_,hv⟩:=E;rw [hB] at L;cases L;have hv:=hv hver;obtain ⟨⟨cur,e,us,rest,O,f,hp,_⟩,_,_⟩:=G.srel.blk b B hB;have hp:=hp hpr;rw [hcells] at hp;have R:∃ es clk,w.heap[(m b).1]? =some (.map es clk)∧cur=jw es:=by
  rcases O with ⟨c,_⟩|⟨_,es,clk,c,u⟩
  ·exact absurd hz c
  ·exact ⟨es,clk,c,u⟩
 obtain ⟨es,clk,V,rfl⟩:=R;have hu:a_ S ks (es.toList.map (·.key))∧a_ S vs (es.toList.map (·.val)):=by
  match us,hp,f with
  | [u1,u2],hp,f=>
   simp only [a_,PR] at hp;obtain ⟨⟨kk,rfl,c⟩,⟨vv,rfl,u⟩,_⟩:=hp;simp only [jw,Xqz,Xqj,List.cons.injEq,Value.agg.injEq] at f;obtain ⟨D,I,_⟩:=f;have D:es.toList.map (·.key)=kk:=by rw [← Array.toList_map,D]
   have I:es.toList.map (·.val)=vv:=by rw [← Array.toList_map,I]
   rw [D,I];exact ⟨c,u⟩
  | [],hp,_=>simp [a_] at hp
  | [_],hp,_=>simp [a_] at hp
  |_::_::_::_,hp,_=>simp [a_] at hp
 have hsz:es.size=n:=by
  have:=jL hu.1;rw [← hlen,this];simp
 have hge:w0.heap.size≤(m b).1:=by
  rcases A.img b B hB with c|⟨B0,c,_⟩
  ·exact c
  ·rw [hbase] at c;cases c
 have hwf:uB es clk:=by
  rcases A.mw b B hB _ _ V with ⟨es0,clk0,c,_⟩|⟨_,c⟩
  ·have:=(Array.getElem?_eq_some_iff.1 c).1;omega
  ·exact c
 refine wpList_plain hg3 fun K hK=> ?_
 unfold Oper.wp;simp [execOp,ho3,Result.andThen];refine hK _ _ ?_;rw [hd3];have hvt:a.eval (.tmp tm)= .map (some (m b).1):=hv;rw [hvt];refine wpList_plain hg4 fun K2 Z=> ?_
 unfold Oper.wp;have F:(a.put (some l) (.map (some (m b).1))).eval (.tmp l)= .map (some (m b).1):=cZ a l _ (by rw [G.size];exact ht1);simp [execOp,ho4,F,run_range_map w ty kt et (m b).1 es clk hund V,Result.andThen];refine Z _ _ ?_;rw [hd4];show (Code.block _ _).wp P Q _ _;have z:FR ap (st s0).env (st s0).hp [] nt m S w ((a.put (some l) (.map (some (m b).1))).put (some d) (.pointer (some ⟨w.heap.size,0,none⟩))):=by
  have c:=G.drop (env':=(st s0).env) (hp':=(st s0).hp) (fun x C F=>(hsub x C F).1) hcl fun t=>(henv t).imp (fun h=>h) fun h=> ⟨h.2.2.1,h.2.2.2⟩
  have g1:(st s0).env.get l= .dead:=(henv l).elim (fun h=>h) fun h=>absurd rfl h.1
  have g2:(st s0).env.get d= .dead:=(henv d).elim (fun h=>h) fun h=>absurd rfl h.2.1
  exact (c.dead g1 _).dead g2 _
 have hFe:FR ap (fU d p ok (.pointer (some ⟨w.heap.size,0,none⟩)) (st s0).env) (st s0).hp [] nt m S w ((a.put (some l) (.map (some (m b).1))).put (some d) (.pointer (some ⟨w.heap.size,0,none⟩))):=by
  refine ⟨z.srel,fun t=> ?_,z.dfs,z.size⟩;simp only [fU,dG.get,ai];by_cases D:d=t
  ·subst D;rw [Xxj];simp only [Xqt,VR,PR];exact cZ _ d _ (by rw [ay,G.size];exact hit)
  ·rw [iD D];by_cases I:ok=t
   ·subst I;rw [Xxj];simp [VR]
   ·rw [iD I];by_cases e3:p=t
    ·subst e3;rw [Xxj];simp [VR]
    ·rw [iD e3];exact z.env t
 have J:=(A.drop (hp':=(st s0).hp) (fun x C F=>(hsub x C F).1) hb2).push (o:= .mapIter (some (m b).1) clk #[] clk) (fun _ _ h=>by cases h);have hF2:=hFe.push (.mapIter (some (m b).1) clk #[] clk);have hbl:(m b).1<w.heap.size:=(Array.getElem?_eq_some_iff.1 V).1;have Y:∀ k,k<w.heap.size→(w.alloc (.mapIter (some (m b).1) clk #[] clk)).heap[k]? =w.heap[k]? :=fun k Y=>by
  simp only [World.alloc,Array.getElem?_push];rw [if_neg (Xz8 Y)]
 refine wp_block (wp_loop_rounds (qm n []+1) ?_);refine Hf (h0:=h0) (m0:=m0) (S0:=S0) (w0:=w0) (r:=w.heap.size) (bm:=(m b).1) (clk:=clk) (es:=es) (st:=st) (Inv:=Inv) (ks:=ks) (vs:=vs) (PostX:=PostX) ho1 hd1 hg1 ho2 hd2 hg2 htn hok hne htk (fun done s i k v=>hrest _ done s i k v) A.size hsz hwf ?_ ?_ (qm n []) [] s0 hI0 (fun i hi=>by cases hi) (ζ _) m S _ _ clk J hF2 ?_ (ζ _) ?_ ?_ hu.1 hu.2
 ·intro done s1 hI1 N m' S' w' a' c u;have:=hQ _ _ (hend _ done s1 hI1 N) m' S' w' a' c u;simpa [qy,Exit.inBlock] using this
 ·intro e s' M hp';obtain ⟨c,u⟩:=hX e s' M hp';intro m' S' w' a' h3 h4;have:=hQ _ _ u m' S' w' a' h3 h4;cases e with
  |normal=>exact absurd rfl M
  |exit q=>simpa [qy,Exit.inBlock,show q ≠ id from fun e=>c (by rw [e])] using this
  |ret=>exact this
  |panic q=>exact this
 ·simp only [World.alloc,Array.getElem?_push,if_true];rfl
 ·rw [Y _ hbl];exact V
 ·intro x C F D;obtain ⟨c,u⟩:=hsub x C F;exact u (G.srel.inj x b C B c hB D)
end
end AM
namespace AM
open Go
section
variable {P:Program} {ap:AP} {nt:Nat}
structure xQ (g:bD) (m:aB) (S:au) (w:World) (k:Nat):Prop where
 lt:k<w.heap.size
 blk:∀ b B,g b=some B→(m b).1 ≠ k
 clr:∀ o,S k o=none
theorem xQ.keeps {g g':bD} {m f:aB} {S S':au} {w w':World} {k:Nat} (h:xQ g m S w k) (c:Fr g m S w g' f S' w'):xQ g' f S' w' k∧w'.heap[k]? =w.heap[k]? :=by
 refine ⟨⟨Xqy h.lt c.size,fun b B i e=> ?_,fun o=> ?_⟩,c.rest k h.lt h.blk⟩
 ·rcases c.img b B i with a|⟨B0,a,d⟩
  ·have:=h.lt;omega
  ·exact h.blk b B0 a (d ▸ e)
 ·cases hs:S' k o with
  |none=>rfl
  |some v=>
   rcases c.sealN k o v hs with a|a|⟨b,B,a,d⟩
   ·rw [h.clr o] at a;cases a
   ·have:=h.lt;omega
   ·exact absurd d (h.blk b B a)
theorem xQ.new {g:bD} {m:aB} {S:au} {w w':World} {k:Nat} (h:aZ ap g m S w) (d:w.heap.size≤k) (c:k<w'.heap.size):xQ g m S w' k:=
 ⟨c,fun b B a e=>by have:=h.lt a;omega,fun o=>by
  cases hs:S k o with
  |none=>rfl
  |some v=>have:=h.seal_lt hs;omega⟩
theorem aZ.other {g:bD} {m:aB} {S:au} {w w':World} (h:aZ ap g m S w) (j:∀ k,k<w.heap.size→w'.heap[k]? =w.heap[k]? ∨xQ g m S w k):aZ ap g m S w':=by
 refine ⟨h.inj,fun b B f=> ?_,fun k o v d=> ?_,h.own,h.glob⟩
 ·have c:=h.lt f;obtain ⟨⟨cur,e,vs,rest,a,p⟩,q,l⟩:=h.blk b B f;refine ⟨⟨cur,e,vs,rest, ?_,p⟩,q,l⟩;rcases j _ c with hs|hs
  ·rcases a with ⟨i,a⟩|⟨i,es,clk,a,n⟩
   ·exact .inl ⟨i,by rw [hs];exact a⟩
   ·exact .inr ⟨i,es,clk,by rw [hs];exact a,n⟩
  ·exact absurd rfl (hs.blk b B f)
 ·have a:=h.sealed k o v d;have c:=h.seal_lt d;rcases j k c with hs|hs
  ·unfold bT at a ⊢;simp only [World.cell?] at a ⊢;rw [hs];exact a
  ·rw [hs.clr o] at d;cases d
theorem FR.other {env:dG} {hp:Hp} {dfs:List (Nat × List AV)} {m:aB} {S:au} {w w':World} {a:Act} (h:FR ap env hp dfs nt m S w a) (b:∀ k,k<w.heap.size→w'.heap[k]? =w.heap[k]? ∨xQ (ai hp) m S w k):FR ap env hp dfs nt m S w' a:=⟨h.srel.other b,h.env,h.dfs,h.size⟩
theorem Fr.other {c g:bD} {m0 m:aB} {S0 S:au} {w0 w w':World} (h:Fr c m0 S0 w0 g m S w) (hs:w.heap.size≤w'.heap.size) (l:w'.os=w.os) (n:w'.tape=w.tape) (f:w'.output=w.output) (i:∀ k,k<w0.heap.size→w'.heap[k]? =w.heap[k]?) (hm:∀ b B,g b=some B→w'.heap[(m b).1]? =w.heap[(m b).1]?):Fr c m0 S0 w0 g m S w':=
 ⟨h.ge,h.sle,l.trans h.os,n.trans h.tape,f.trans h.output,Xqg h.size hs,fun k a j=>(i k a).trans (h.rest k a j),h.img,h.sealN,fun b B d es clk e=>by rw [hm b B d] at e;exact h.mw b B d es clk e⟩
end
end AM
namespace AM
open Go
open Go.ChangeMaps (setBlock)
section
variable {P:Program} {ap:AP} {h0:List az} {nt:Nat}
def jJ (S:au) (k:Nat) (us:List Value):au:=fun k' o=>if k'=k then us[o]? else S k' o
theorem DT {env:dG} {hp:Hp} {m0 m:aB} {S0 S:au} {w0 w:World} {a:Act} {k:Nat} {cur:Array Value} {e:TypeId} {us:List Value} (c:Fr (ax h0) m0 S0 w0 (ai hp) m S w) (h:FR ap env hp [] nt m S w a)
  (ho:xQ (ai hp) m S w k) (hk0:w0.heap.size≤k) (hk:w.heap[k]? =some (.cells cur e (0,0))) (hc:cur.toList.take us.length=us) (h1:∀ u ∈ us,u.oneCell'=true):
  gK S (jJ S k us)∧Fr (ax h0) m0 S0 w0 (ai hp) m (jJ S k us) w∧FR ap env hp [] nt m (jJ S k us) w a∧iQ (jJ S k us) k 0 us:=by
 have f:gK S (jJ S k us):=fun n o v d=>by
  unfold jJ;split
  ·rename_i i;subst i;rw [ho.clr] at d;cases d
  ·exact d
 have p:aZ ap (ai hp) m (jJ S k us) w:=by
  refine ⟨h.srel.inj,fun b B l=>(h.srel.blk b B l).mono f (Ge.refl _ _) rfl,fun n o v d=> ?_,fun b B l o v d=> ?_,fun q y z=> ?_⟩
  ·unfold jJ at d;split at d
   ·rename_i i;subst i;refine pq ?_ (h1 v (ο d));rw [iI hk];rw [← hc,Xxh] at d;split at d
    ·exact d
    ·cases d
   ·exact h.srel.sealed n o v d
  ·unfold jJ at d;split at d
   ·rename_i i;exact absurd i (ho.blk b B l)
   ·exact h.srel.own b B l o v d
  ·obtain ⟨vs,k1,k2⟩:=h.srel.glob q y z;exact ⟨vs,aW f _ k1,k2.mono f⟩
 refine ⟨f,⟨c.ge,c.sle.trans f,c.os,c.tape,c.output,c.size,c.rest,c.img,fun n o v d=> ?_,c.mw⟩,⟨p,fun t=>jW f (Ge.refl _ _) _ (h.env t), ?_,h.size⟩,fun j u s=> ⟨by simpa [jJ] using s,h1 u (ο s)⟩⟩
 ·unfold jJ at d;split at d
  ·rename_i i;subst i;exact .inr (.inl hk0)
  ·exact c.sealN n o v d
 ·have:=h.dfs;cases A:a.defers with
  |nil=>simp [dR]
  |cons x r=>rw [A] at this;simp [dR] at this
theorem XJ {env:dG} {hp:Hp} {m0 m:aB} {S0 S:au} {w0 w:World} {a:Act} (b:Nat) (B:az) {k c:Nat} (i:Fr (ax h0) m0 S0 w0 (ai hp) m S w) (l:FR ap env hp [] nt m S w a)
  (hb:ai hp b=none) (ho:xQ (ai hp) m S w k) (hk0:w0.heap.size≤k) (hfro:B.fro=false) (hfz:B.fz=0) (hwf:∀ es clk,w.heap[k]? =some (Obj.map es clk)→uB es clk)
  (hrow:∃ cur e vs rest,fV w k B.esz cur e∧cur.toList=vs++rest∧(B.pr=true→a_ S B.cells vs)∧aS (ai hp) m S B.cells vs∧(B.esz ≠ dJ→∀ u ∈ vs,u.oneCell'=true)∧(0<B.esz→B.esz ≠ dJ→cur.size=c*B.esz∧c≤maxLen)):
  ∃ m',(∀ x,x ≠ b→m' x=m x)∧m' b=(k,c)∧Fr (ax h0) m0 S0 w0 (ai ((b,B)::hp)) m' S w∧FR ap env ((b,B)::hp) [] nt m' S w a:=by
 refine ⟨fun x=>if x=b then (k,c) else m x,fun x d=>by simp [d],by simp, ?_⟩;have p:∀ x C,ai ((b,B)::hp) x=some C→(x=b∧C=B)∨(x ≠ b∧ai hp x=some C):=fun x C h=>by
  by_cases e:x=b
  ·subst e;simp [ai] at h;exact .inl ⟨rfl,h.symm⟩
  ·simp [ai,iD (fun h=>e h.symm:b ≠ x)] at h;exact .inr ⟨e,h⟩
 have j:Ge (ai hp) m (ai ((b,B)::hp)) (fun x=>if x=b then (k,c) else m x):=fun x C d=>by
  have e:x ≠ b:=fun e=>by subst e;rw [hb] at d;cases d
  exact ⟨C,by simp [ai,iD (fun h=>e h.symm:b ≠ x),d],rfl,.inl ⟨rfl,by simp [e]⟩⟩
 have I:aZ ap (ai ((b,B)::hp)) (fun x=>if x=b then (k,c) else m x) S w:=by
  refine ⟨fun x y C D d J n=> ?_,fun x C d=> ?_,l.srel.sealed,fun x C d o v A=> ?_,l.srel.glob⟩
  ·rcases p x C d with ⟨s,_⟩|⟨f,E⟩<;>rcases p y D J with ⟨z,_⟩|⟨q,F⟩
   ·rw [s,z]
   ·simp [s,q] at n;exact absurd n.symm (ho.blk y D F)
   ·simp [z,f] at n;exact absurd n (ho.blk x C E)
   ·simp [f,q] at n;exact l.srel.inj x y C D E F n
  ·rcases p x C d with ⟨rfl,rfl⟩|⟨f,d⟩
   ·simp only [if_true];obtain ⟨cur,e,vs,rest,k1,k2,k3,k4,k5,k6⟩:=hrow;exact ⟨⟨cur,e,vs,rest,k1,k2,k3,iH (gK.refl S) j _ k4,k5,k6⟩,fun _=>hfz,by rw [hfz];exact Xqn _⟩
   ·simp only [if_neg f];exact (l.srel.blk x C d).mono (gK.refl S) j rfl
  ·rcases p x C d with ⟨rfl,rfl⟩|⟨f,d⟩
   ·simp only [if_true] at A;rw [ho.clr] at A;cases A
   ·simp only [if_neg f] at A;exact l.srel.own x C d o v A
 refine ⟨⟨i.ge.trans j,i.sle,i.os,i.tape,i.output,i.size,i.rest,fun x C d=> ?_,i.sealN,fun x C d es clk G=> ?_⟩,⟨I,fun t=>jW (gK.refl S) j _ (l.env t), ?_,l.size⟩⟩
 ·rcases p x C d with ⟨rfl,rfl⟩|⟨f,d⟩
  ·exact .inl (by simpa using hk0)
  ·simp only [if_neg f];exact i.img x C d
 ·rcases p x C d with ⟨rfl,rfl⟩|⟨f,d⟩
  ·simp only [if_true] at G ⊢;exact .inr ⟨hk0,hwf es clk G⟩
  ·simp only [if_neg f] at G ⊢;exact i.mw x C d es clk G
 ·have:=l.dfs;cases K:a.defers with
  |nil=>simp [dR]
  |cons x r=>rw [K] at this;simp [dR] at this
theorem FR.say {env:dG} {hp:Hp} {dfs:List (Nat × List AV)} {m:aB} {S:au} {w:World} {a:Act} {t:Nat} {x:AV} (h:FR ap env hp dfs nt m S w a) (b:VR (ai hp) m S x (a.tmps.getD t undef)):FR ap ((t,x)::env) hp dfs nt m S w a:=by
 refine ⟨h.srel,fun u=> ?_,h.dfs,h.size⟩;by_cases e:u=t
 ·subst e;simpa [dG.get,ai] using b
 ·simpa [dG.get,ai,iD (fun h=>e h.symm:t ≠ u)] using h.env u
theorem Jz {l f ok id j i0 n b ver tm T:Nat} {ty kt et:TypeId} {o1 o2 o3 o4:Oper} {REST:Code} {ks vs:List AV} {B:az} {env:dG} {hp hp0:Hp} {env0:dG} {J:List Nat→World→Prop}
  (ho3:o3.op= .move (.tmp tm)) (hd3:o3.dst=some T) (hg3:o3.guard=none) (ho4:o4.op= .range ty (.tmp T)) (hd4:o4.dst=some l) (hg4:o4.guard=none)
  (ho1:o1.op= .next (.tmp l) false) (hd1:o1.dst=some f) (hg1:o1.guard=none) (ho2:o2.op= .extract (.tmp f) 0) (hd2:o2.dst=some ok) (hg2:o2.guard=none)
  (hit:l<nt) (htn:f<nt) (hok:ok<nt) (ht1:T<nt) (hne:l ≠ f∧l ≠ ok) (htk:f ≠ ok)
  (hund:P.underlying ty=some (.map kt et)) (hm:env.get tm= .mr b ver) (hB:ai hp b=some B) (hver:B.ver=ver) (hz:B.esz=dJ) (hcells:B.cells= [.agg ks,.agg vs]) (hpr:B.pr=true) (hbase:ax h0 b=none) (hlen:ks.length=n)
  (hsub:∀ x C,ai hp0 x=some C→ai hp x=some C∧x ≠ b) (hcl:∀ x C,ai hp0 x=some C→∀ y ∈ bg C.cells,ai hp0 y=ai hp y)
  (henv:∀ t,env0.get t= .dead∨(t ≠ T∧t ≠ l∧env0.get t=env.get t∧∀ y ∈ bZ (env0.get t),ai hp0 y=ai hp y))
  (I:∀ x B0 C,ax h0 x=some B0→ai hp x=some C→ai hp0 x=some C)
  {m0 m:aB} {S0 S:au} {w0 w:World} {a:Act} (p:Fr (ax h0) m0 S0 w0 (ai hp) m S w) (z:FR ap env hp [] nt m S w a)
  (hJ0:∀ w',(∀ k,k<w.heap.size→w'.heap[k]? =w.heap[k]?)→w'.heap.size=w.heap.size+1→w'.os=w.os→w'.tape=w.tape→w'.output=w.output→J [] w') (hJi:∀ done (c w':World) (r:Nat) mm si se ci,J done c→c.heap[r]? =some (Obj.mapIter mm si se ci)→r=w.heap.size→(∀ k,k ≠ r→w'.heap[k]? =c.heap[k]?)→w'.heap.size=c.heap.size→w'.os=c.os→w'.tape=c.tape→w'.output=c.output→J done w')
  (Q:Exit→Act→World→Prop)
  (hrest:∀ (r bm:Nat) done i k v (c:World) a es clk (it0:Obj),r=w.heap.size→J done c→i<n→i ∉ done→ks[i]? =some k→vs[i]? =some v→Fr (ax h0) m0 S0 w0 (ai hp0) m S c→FR ap (fU l f ok (.pointer (some ⟨r,0,none⟩)) env0) hp0 [] nt m S c a→
   c.heap[r]? =some it0→(∀ cs e fr,it0 ≠ .cells cs e fr)→(∀ es clk,it0 ≠ .map es clk)→c.heap[bm]? =some (.map es clk)→bm=(m b).1→
   (∃ kv vv,(Instr.entry (.pointer (some ⟨r,0,none⟩))).run P c= .ok (.tuple #[kv,vv]) c∧PR S k kv∧PR S v vv)→
   ∀ K:Exit→Act→World→Prop,(∀ w' a',J (i::done) w'→Fr (ax h0) m0 S0 w0 (ai hp0) m S w'→FR ap (fU l f ok (.pointer (some ⟨r,0,none⟩)) env0) hp0 [] nt m S w' a'→w'.heap[r]? =c.heap[r]? →w'.heap[bm]? =c.heap[bm]? →K .normal a' w')→REST.wp P K a c)
  (hend:∀ (r:Nat) done (w:World) a,J done w→(∀ i,i<n→i ∈ done)→Fr (ax h0) m0 S0 w0 (ai hp0) m S w→FR ap (fU l f ok (.pointer (some ⟨r,0,none⟩)) env0) hp0 [] nt m S w a→Q .normal a w):
  (Code.seq (.region i0 #[o3,o4] false) (.block id (.loop (.seq (.region j #[o1,o2] false) (.seq (.cond (.tmp ok) .skip (.exit id)) REST))))).wp P Q a w:=by
 refine wp_seq (wp_region_list ?_);have hmv:=z.env tm;rw [hm] at hmv;simp only [VR] at hmv;obtain ⟨B',hB',_,_,hv⟩:=hmv;rw [hB] at hB';cases hB';have hv:=hv hver;obtain ⟨⟨cur,e,us,rest,hrow,F,hp',_⟩,_,_⟩:=z.srel.blk b B hB;have hp':=hp' hpr;rw [hcells] at hp';have hmap:∃ es clk,w.heap[(m b).1]? =some (.map es clk)∧cur=jw es:=by
  rcases hrow with ⟨s,_⟩|⟨_,es,clk,s,h2⟩
  ·exact absurd hz s
  ·exact ⟨es,clk,s,h2⟩
 obtain ⟨es,clk,M,rfl⟩:=hmap;have hu:a_ S ks (es.toList.map (·.key))∧a_ S vs (es.toList.map (·.val)):=by
  match us,hp',F with
  | [u1,u2],hp,F=>
   simp only [a_,PR] at hp;obtain ⟨⟨kk,rfl,s⟩,⟨vv,rfl,h2⟩,_⟩:=hp;simp only [jw,Xqz,Xqj,List.cons.injEq,Value.agg.injEq] at F;obtain ⟨E,e2,_⟩:=F;have E:es.toList.map (·.key)=kk:=by rw [← Array.toList_map,E]
   have e2:es.toList.map (·.val)=vv:=by rw [← Array.toList_map,e2]
   rw [E,e2];exact ⟨s,h2⟩
  | [],hp,_=>simp [a_] at hp
  | [_],hp,_=>simp [a_] at hp
  |_::_::_::_,hp,_=>simp [a_] at hp
 have hsz:es.size=n:=by
  have:=jL hu.1;rw [← hlen,this];simp
 have hge:w0.heap.size≤(m b).1:=by
  rcases p.img b B hB with s|⟨B0,s,_⟩
  ·exact s
  ·rw [hbase] at s;cases s
 have hwf:uB es clk:=by
  rcases p.mw b B hB _ _ M with ⟨es0,clk0,s,_⟩|⟨_,s⟩
  ·have:=(Array.getElem?_eq_some_iff.1 s).1;omega
  ·exact s
 refine wpList_plain hg3 fun K hK=> ?_
 unfold Oper.wp;simp [execOp,ho3,Result.andThen];refine hK _ _ ?_;rw [hd3];have hvt:a.eval (.tmp tm)= .map (some (m b).1):=hv;rw [hvt];refine wpList_plain hg4 fun K2 V=> ?_
 unfold Oper.wp;have R:(a.put (some T) (.map (some (m b).1))).eval (.tmp T)= .map (some (m b).1):=cZ a T _ (by rw [z.size];exact ht1);simp [execOp,ho4,R,run_range_map w ty kt et (m b).1 es clk hund M,Result.andThen];refine V _ _ ?_;rw [hd4];show (Code.block _ _).wp P Q _ _;have X:FR ap env0 hp0 [] nt m S w ((a.put (some T) (.map (some (m b).1))).put (some l) (.pointer (some ⟨w.heap.size,0,none⟩))):=by
  have s:=z.drop (env':=env0) (hp':=hp0) (fun x C R=>(hsub x C R).1) hcl fun t=>(henv t).imp (fun h=>h) fun h=> ⟨h.2.2.1,h.2.2.2⟩
  have g1:env0.get T= .dead:=(henv T).elim (fun h=>h) fun h=>absurd rfl h.1
  have g2:env0.get l= .dead:=(henv l).elim (fun h=>h) fun h=>absurd rfl h.2.1
  exact (s.dead g1 _).dead g2 _
 have hFe:FR ap (fU l f ok (.pointer (some ⟨w.heap.size,0,none⟩)) env0) hp0 [] nt m S w ((a.put (some T) (.map (some (m b).1))).put (some l) (.pointer (some ⟨w.heap.size,0,none⟩))):=by
  refine ⟨X.srel,fun t=> ?_,X.dfs,X.size⟩;simp only [fU,dG.get,ai];by_cases E:l=t
  ·subst E;rw [Xxj];simp only [Xqt,VR,PR];exact cZ _ l _ (by rw [ay,z.size];exact hit)
  ·rw [iD E];by_cases e2:ok=t
   ·subst e2;rw [Xxj];simp [VR]
   ·rw [iD e2];by_cases e3:f=t
    ·subst e3;rw [Xxj];simp [VR]
    ·rw [iD e3];exact X.env t
 have hfr2:=(p.drop (hp':=hp0) (fun x C R=>(hsub x C R).1) I).push (o:= .mapIter (some (m b).1) clk #[] clk) (fun _ _ h=>by cases h);have L:=hFe.push (.mapIter (some (m b).1) clk #[] clk);have hbl:(m b).1<w.heap.size:=(Array.getElem?_eq_some_iff.1 M).1;have hk:∀ k,k<w.heap.size→(w.alloc (.mapIter (some (m b).1) clk #[] clk)).heap[k]? =w.heap[k]? :=fun k hk=>by
  simp only [World.alloc,Array.getElem?_push];rw [if_neg (Xz8 hk)]
 have hnew:(w.alloc (.mapIter (some (m b).1) clk #[] clk)).heap[w.heap.size]? =some (.mapIter (some (m b).1) clk (dD es []) clk):=by
  simp only [World.alloc,Array.getElem?_push,if_true];rfl
 have hJ1:=hJ0 (w.alloc (.mapIter (some (m b).1) clk #[] clk)) hk (by simp) rfl rfl rfl;have hb1:=(hk _ hbl).trans M;have hoff:∀ x C,ai hp0 x=some C→(m x).1 ≠ (m b).1:=fun x C R E=>by
  obtain ⟨s,h2⟩:=hsub x C R;exact h2 (z.srel.inj x b C B s hB E)
 refine wp_block (wp_loop_rounds (qm n []+1) ?_);generalize O:w.heap.size=r at*
 have hr0:w0.heap.size≤r:=by rw [← O];exact p.size
 generalize w.alloc (.mapIter (some (m b).1) clk #[] clk)=c at*
 generalize (a.put (some T) (.map (some (m b).1))).put (some l) (.pointer (some ⟨r,0,none⟩))=a1 at*
 clear p z hJ0 X hFe hv hvt R hk O;have key:∀ (K:Act→World→Prop) (done:List Nat),(∀ i ∈ done,i<n)→∀ (w:World) (a:Act) (U:Nat),J done w→
   Fr (ax h0) m0 S0 w0 (ai hp0) m S w→FR ap (fU l f ok (.pointer (some ⟨r,0,none⟩)) env0) hp0 [] nt m S w a→
   w.heap[r]? =some (.mapIter (some (m b).1) clk (dD es done) U)→clk≤U→w.heap[(m b).1]? =some (.map es clk)→
   (∀ i,i<n→i ∉ done→∀ w' a',J (i::done) w'→Fr (ax h0) m0 S0 w0 (ai hp0) m S w'→FR ap (fU l f ok (.pointer (some ⟨r,0,none⟩)) env0) hp0 [] nt m S w' a'→
    w'.heap[r]? =some (.mapIter (some (m b).1) clk (dD es (i::done)) clk)→w'.heap[(m b).1]? =some (.map es clk)→K a' w')→
   (Code.seq (.region j #[o1,o2] false) (.seq (.cond (.tmp ok) .skip (.exit id)) REST)).wp P (Exit.then K (Exit.inBlock id Q)) a w:=by
  intro K done hd w a U hJ p z O hc M hK;have hpt:a.eval (.tmp l)= .pointer (some ⟨r,0,none⟩):=by
   have:=z.env l;simp only [fU,dG.get,ai,Xxj,Xqt,VR,PR] at this;exact this
  have hold:∀ x ∈ es.toList,x.born<clk:=hwf.2;refine wp_seq (wp_region_list ?_);refine wpList_plain hg1 fun K1 hK1=> ?_
  unfold Oper.wp;have G:∀ d,d=f∨d=ok→(fU l f ok (.pointer (some ⟨r,0,none⟩)) env0).get d= .dead:=by
   rintro d (rfl|rfl)
   ·have E:Δ l d=false:=iD hne.1;have e2:Δ ok d=false:=iD fun e=>htk e.symm
    simp [fU,dG.get,ai,E,e2]
   ·have E:Δ l d=false:=iD hne.2;simp [fU,dG.get,ai,E]
  rcases run_next_at (P:=P) w o1.type r (m b).1 clk U (dD es done) es clk O M hold hc with ⟨hz,Z⟩|⟨e,he,c,hw1,Z⟩
  ·simp [execOp,ho1,hpt,Z,Result.andThen];refine hK1 _ _ ?_;rw [hd1];refine wpList_plain hg2 fun K2 V=> ?_
   unfold Oper.wp;have R:(a.put (some f) (.tuple #[.bool false])).eval (.tmp f)= .tuple #[.bool false]:=cZ a f _ (by rw [z.size];exact htn);simp [execOp,ho2,R,Instr.extract,Result.andThen];refine V _ _ ?_;rw [hd2];have L:=(z.dead (G f (.inl rfl)) (.tuple #[.bool false])).dead (G ok (.inr rfl)) (.bool false);have I:((a.put (some f) (.tuple #[.bool false])).put (some ok) (.bool false)).eval (.tmp ok)= .bool false:=cZ _ ok _ (by rw [ay,z.size];exact hok);refine wp_seq (wp_cond_false I (wp_exit ?_));have:=hend r done w _ hJ (fun i W=>EY hwf (fun q hq=>by rw [hsz];exact hd q hq) hz i (by rw [hsz];exact W)) p L;simpa [Exit.then,Exit.inBlock] using this
  ·simp [execOp,ho1,hpt,Z,Result.andThen];refine hK1 _ _ ?_;rw [hd1];refine wpList_plain hg2 fun K2 V=> ?_
   unfold Oper.wp;have R:(a.put (some f) (.tuple #[.bool true,e.key,e.val])).eval (.tmp f)= .tuple #[.bool true,e.key,e.val]:=cZ a f _ (by rw [z.size];exact htn);simp [execOp,ho2,R,Instr.extract,Result.andThen];refine V _ _ ?_;rw [hd2];have L:=(z.dead (G f (.inl rfl)) (.tuple #[.bool true,e.key,e.val])).dead (G ok (.inr rfl)) (.bool true);have I:((a.put (some f) (.tuple #[.bool true,e.key,e.val])).put (some ok) (.bool true)).eval (.tmp ok)= .bool true:=cZ _ ok _ (by rw [ay,z.size];exact hok);refine wp_seq (wp_cond_true I (wp_skip ?_));generalize (a.put (some f) (.tuple #[.bool true,e.key,e.val])).put (some ok) (.bool true)=a2 at L I;obtain ⟨i,hei,N⟩:=Ji he;have W:i<n:=by
    have:=(List.getElem?_eq_some_iff.1 hei).1;rw [← hsz];simpa using this
   have hborn:xU es i=e.born:=sS hei;have A:c.heap=w.heap∧c.os=w.os∧c.tape=w.tape∧c.output=w.output:=by rcases hw1 with rfl|rfl<;>exact ⟨rfl,rfl,rfl,rfl⟩
   have hrlt:r<w.heap.size:=(Array.getElem?_eq_some_iff.1 O).1;have Y:(setBlock c r (Obj.mapIter (some (m b).1) clk ((dD es done).push e.born) clk)).heap[r]? =some (.mapIter (some (m b).1) clk ((dD es done).push e.born) clk):=by simp [setBlock,A.1,hrlt]
   have hk':∀ k,k ≠ r→(setBlock c r (Obj.mapIter (some (m b).1) clk ((dD es done).push e.born) clk)).heap[k]? =w.heap[k]? :=fun k hk0=>by
    simp only [setBlock,A.1];rw [Array.getElem?_setIfInBounds_ne (fun h=>hk0 h.symm)]
   have hsz':(setBlock c r (Obj.mapIter (some (m b).1) clk ((dD es done).push e.born) clk)).heap.size=w.heap.size:=by simp [setBlock,A.1]
   have hF3:=L.iter O Y hk';have hfr3:=p.iter hr0 O Y hk' hsz' A.2.1 A.2.2.1 A.2.2.2;have hJ3:=hJi done w _ r _ _ _ _ hJ O rfl hk' hsz' A.2.1 A.2.2.1 A.2.2.2;have hbr:(m b).1 ≠ r:=by intro E;rw [E,O] at M;cases M
   have hb3:=(hk' _ hbr).trans M;generalize setBlock c r (Obj.mapIter (some (m b).1) clk ((dD es done).push e.born) clk)=w2 at*
   have hent:=run_entry_at (P:=P) w2 r (m b).1 clk (dD es done) es clk e Y hb3 (ο hei) hwf.1;obtain ⟨k,hk1,hk2⟩:=A8 (i:=i) hu.1 (u:=e.key) (by rw [φ,hei];rfl);obtain ⟨v,hv1,hv2⟩:=A8 (i:=i) hu.2 (u:=e.val) (by rw [φ,hei];rfl);refine hrest r (m b).1 done i k v w2 a2 es clk _ rfl hJ3 W N hk1 hv1 hfr3 hF3 Y (fun _ _ _ h=>by cases h) (fun _ _ h=>by cases h) hb3 rfl ⟨_,_,hent,hk2,hv2⟩ _ ?_;intro w' a' hJ' hfr' hF' s h2;refine hK i W N w' a' hJ' hfr' hF' ?_ (h2.trans hb3);rw [s,Y,← hborn,zQ]
 have main:∀ (D:Nat) (done:List Nat),(∀ i ∈ done,i<n)→qm n done≤D→∀ (w:World) (a:Act) (U:Nat),J done w→
   Fr (ax h0) m0 S0 w0 (ai hp0) m S w→FR ap (fU l f ok (.pointer (some ⟨r,0,none⟩)) env0) hp0 [] nt m S w a→
   w.heap[r]? =some (.mapIter (some (m b).1) clk (dD es done) U)→clk≤U→w.heap[(m b).1]? =some (.map es clk)→
   Code.rounds P (.seq (.region j #[o1,o2] false) (.seq (.cond (.tmp ok) .skip (.exit id)) REST)) (Exit.inBlock id Q) (D+1) a w:=by
  intro D
  induction D with
  | zero=>
   intro done hd hu w a U hJ p z O hc M;exact key _ done hd w a U hJ p z O hc M fun i W N _ _ _ _ _ _ _=>by
    have:=ug W N;omega
  | succ D ih=>
   intro done hd hu w a U hJ p z O hc M;exact key _ done hd w a U hJ p z O hc M fun i W N w' a' s h2 h3 h4 h5=>
    ih (i::done) (fun q hq=>by
     rcases List.mem_cons.1 hq with rfl|hq
     ·exact W
     ·exact hd q hq) (by have:=ug W N;omega) w' a' clk s h2 h3 h4 (ζ _) h5
 exact main (qm n []) [] (fun i W=>by cases W) (ζ _) c a1 clk hJ1 hfr2 L hnew (ζ _) hb1
end
end AM
namespace AM
open Go
open Go.ChangeMaps (setBlock)
section
variable {P:Program} {ap:AP} {g:bD} {m:aB} {S:au} {w:World}
theorem Iu:∀ l:List Value,aS g m S (l.map fun _=>AV.dead) l
 | []=>by simp [aS]
 |_::r=>by simp only [Γ,aS,VR,true_and];exact Iu r
theorem uY (es:Array MapEntry) (j:Nat) (f:MapEntry→MapEntry):(es.modify j f).toList=es.toList.modify j f:=by simp [Array.toList_modify]
theorem Jp (l:List MapEntry) (j:Nat) (f:MapEntry→MapEntry) (a:∀ e,(f e).born=e.born):(l.modify j f).map (·.born)=l.map (·.born):=by
 apply Xq8;intro n;simp only [φ,Xj6];cases l[n]? with
 |none=>rfl
 |some e=>simp;split<;>simp [a]
theorem Lp (l:List MapEntry) (j:Nat) (v:Value):(l.modify j fun e=> {e with val:=v}).map (·.key)=l.map (·.key):=by
 apply Xq8;intro n;simp only [φ,Xj6];cases l[n]? with
 |none=>rfl
 |some e=>simp;split<;>simp
theorem PH (q:di P ap) {t J K:Nat} {R I N:TI} {i U:TypeInfo} {z h:Value} {Q:TypeDesc} (L:v_ P t R i (.map J K) z) (r:ap.tyAt J=some I) (u:v_ P K N U Q h) {k:AV} {ck:Value} (G:gW I k=true) (M:VR g m S k ck)
  {b:Nat} {es:Array MapEntry} {clk:Nat} (hb:w.heap[b]? =some (.map es clk)) (hw:uB es clk) {ks:List AV} (hks:aS g m S ks (es.toList.map (·.key))) (hka:ks.all (gW I)=true):
  ∃ v0 st c a j,(Instr.mapEntry t (.map (some b)) ck).run P w= .ok (.tuple #[v0,goInt st]) (setBlock w b (.map c a))∧
   ((∃ e,es.toList[j]? =some e∧e.key=ck∧v0=e.val∧c=es∧a=clk)∨(ks.any (uG k)=false∧c=es.push ⟨ck,h,clk⟩∧a=clk+1∧j=es.size∧v0=h))∧uB c a∧
   ∀ (l:World) (val:Value),l.heap[b]? =some (.map c a)→∃ es',(Instr.entryStore t (.map (some b)) (goInt st) val).run P l= .ok () (setBlock l b (.map es' a))∧es'.toList=(c.toList.modify j fun e=> {e with val:=val})∧uB es' a:=by
 obtain ⟨Y,dk,zk,d⟩:=bQ q r;have f:=yu (w:=w) q r d G M;have store:∀ (c:Array MapEntry) (a j:Nat) (B:MapEntry),uB c a→c.toList[j]? =some B→∀ (l:World) (val:Value),l.heap[b]? =some (.map c a)→
   ∃ es',(Instr.entryStore t (.map (some b)) (goInt B.born) val).run P l= .ok () (setBlock l b (.map es' a))∧es'.toList=(c.toList.modify j fun e=> {e with val:=val})∧uB es' a:=by
  intro c a j B o O l val p;have A:c.findIdx? (fun e=>(e.born:Int)==(B.born:Int))=some j:=by
   rw [WideElems.findIdx_arr];exact WideElems.findIdx_born o.1 O
  refine ⟨c.modify j fun e=> {e with val:=val}, ?_,uY _ _ _, ?_⟩
  ·simp [Instr.entryStore,MapKept.run_getObj_map p,asInt,asIntOf,goInt,A,MapKept.run_setObj_map _ p,Result.andThen,setBlock]
  ·exact o.same (by rw [uY];exact Jp _ _ _ fun _=>rfl)
 rcases nG f (v:= .dead) (cv:= .nilFunc) (by simp only [VR]) es.toList ks (es.toList.map fun _=>AV.dead) 0 hks (by have:=Iu (g:=g) (m:=m) (S:=S) (es.toList.map (·.val));rwa [List.map_map] at this) hka with ⟨D,X,T,_⟩|⟨j,e,x,D,s,E,W,_,Z,_⟩
 ·have y:uB (es.push ⟨ck,h,clk⟩) (clk+1):=uB.push ck h hw;refine ⟨h,clk,es.push ⟨ck,h,clk⟩,clk+1,es.size, ?_,.inr ⟨T,rfl,rfl,rfl,rfl⟩,y, ?_⟩
  ·simp [Instr.mapEntry,run_underlying L.und,MapKept.run_getObj_map hb,f.chk,D.run d,zeroValue,typeInfo,u.info,u.zero,MapKept.run_setObj_map _ hb,Result.andThen,setBlock]
  ·exact store _ _ _ ⟨ck,h,clk⟩ y (by simp)
 ·have F:es[j]? =some e:=by simpa using s
  have hsame:es.modify j (fun e'=> {e' with key:=ck})=es:=by
   apply Array.ext';rw [uY];apply Xq8;intro n;rw [Xj6];by_cases hn:j=n
   ·subst hn;rw [s];simp only [Xqu,if_true];rw [← E];rfl
   ·simp [hn]
  refine ⟨e.val,e.born,es,clk,j, ?_,.inl ⟨e,s,E,rfl,rfl,rfl⟩,hw,store _ _ _ e hw s⟩;have V:es.toList[j]? =some e:=s;have C:(Instr.keyThatStays e.key ck).run P w= .ok ck w:=by rw [E];exact f.stay
  simp [Instr.mapEntry,run_underlying L.und,MapKept.run_getObj_map hb,f.chk,D.run d,F,C,hsame,MapKept.run_setObj_map _ hb,Result.andThen,setBlock]
end
end AM
namespace AM
open Go
open Go.ChangeMaps (setBlock)
abbrev Cl:=Int × Int
def cC (c:Cl):List AV:= [.int .i64 c.1,.int .i64 c.2]
def cA (c:Cl):AV:= .agg (cC c)
def cU (c:Cl):List Value:= [.int .i64 c.1,.int .i64 c.2]
def cV (c:Cl):Value:= .agg (cU c).toArray
def cL (l:List Cl):List AV:=l.flatMap cC
def F9 (l:List Cl):List Value:=l.flatMap cU
theorem aac {c d:Cl} (h:cV c=cV d):c=d:=by
 have h:=Value.agg.inj h;have h:=congrArg Array.toList h;simp only [cU,Xx8,List.cons.injEq,Value.int.injEq,true_and,and_true] at h;exact Prod.ext h.1 h.2
theorem KE (c:Cl):∀ u ∈ cU c,u.oneCell'=true:=by
 intro u a;simp only [cU,Xqo,List.not_mem_nil,or_false] at a;rcases a with rfl|rfl<;>rfl
theorem VJ (l:List Cl):∀ u ∈ F9 l,u.oneCell'=true:=by
 intro u a;obtain ⟨c,_,h⟩:=List.mem_flatMap.1 a;exact KE c u h
theorem VI (l:List Cl):(F9 l).length=l.length*2:=by
 unfold F9
 induction l with
 |nil=>rfl
 |cons c l ih=>simp only [List.flatMap_cons,η,ih,τ];simp [cU];omega
theorem Kv {S:au} (c:Cl):a_ S (cC c) (cU c):=by simp [cC,cU,a_,PR]
theorem QI {S:au}:∀ l:List Cl,a_ S (cL l) (F9 l)
 | []=>by simp [cL,F9,a_]
 |c::l=>iP (Kv c) (QI l)
theorem QK {S:au} (c:Cl):PR S (cA c) (cV c):=by simp only [cA,cV,PR];exact ⟨cU c,rfl,Kv c⟩
theorem EF {S:au} {c:Cl} {v:Value} (h:PR S (cA c) v):v=cV c:=by
 simp only [cA,cC,PR] at h;obtain ⟨vs,rfl,h⟩:=h
 match vs,h with
 | [a,b],h=>simp only [a_,PR] at h;obtain ⟨rfl,rfl,_⟩:=h;rfl
 | [],h=>simp [a_] at h
 | [_],h=>simp [a_] at h
 |_::_::_::_,h=>simp [a_] at h
theorem A_ {S:au}:∀ {l:List Cl} {us:List Value},a_ S (cL l) us→us=F9 l
 | [],us,h=>by cases us with|nil=>rfl|cons _ _=>simp [cL,a_] at h
 | c::l,us,h=>by
  have e:cL (c::l)= .int .i64 c.1::.int .i64 c.2::cL l:=rfl;rw [e] at h
  match us,h with
  |a::b::us,h=>
   simp only [a_,PR] at h;obtain ⟨rfl,rfl,h⟩:=h;rw [A_ h];rfl
  | [],h=>simp [a_] at h
  | [_],h=>simp [a_] at h
abbrev Ut:=List (Cl × List Cl)
def dh:Ut→Cl→List Cl
 | [],_=> []
 |(x,l)::r,d=>if x=d then l else dh r d
def jF:Ut→Cl→Cl→Ut
 | [],d,c=> [(d,[c])]
 |(x,l)::r,d,c=>if x=d then (x,l++ [c])::r else (x,l)::jF r d c
theorem Fj:∀ {U:Ut} {d:Cl},d ∉ U.map (·.1)→dh U d= []∧∀ c,jF U d c=U++ [(d,[c])]
 | [],_,_=> ⟨rfl,fun _=>rfl⟩
 |(x,l)::r,d,h=>by
  simp only [Γ,Xqo,not_or] at h;obtain ⟨b,f⟩:=Fj h.2;have a:x ≠ d:=fun e=>h.1 e.symm
  exact ⟨by rw [dh,if_neg a,b],fun c=>by rw [jF,if_neg a,f];rfl⟩
theorem Ox:∀ {U:Ut} {j:Nat} {x:Cl × List Cl},(U.map (·.1)).Nodup→U[j]? =some x→dh U x.1=x.2∧∀ c,jF U x.1 c=U.set j (x.1,x.2++ [c])
 | [],_,_,_,h=>by simp at h
 |(y,l)::r,0,x,_,h=>by simp at h;subst h;exact ⟨by rw [dh,if_pos rfl],fun c=>by rw [jF,if_pos rfl];rfl⟩
 |(y,l)::r,j+1,x,hn,h=>by
  simp only [Γ,List.nodup_cons] at hn;simp only [List.getElem?_cons_succ] at h;have a:y ≠ x.1:=fun e=>hn.1 (List.mem_map.2 ⟨x,ο h,e.symm⟩)
  obtain ⟨b,d⟩:=Ox hn.2 h;exact ⟨by rw [dh,if_neg a,b],fun c=>by rw [jF,if_neg a,d];rfl⟩
theorem EH:∀ (U:Ut) (d c:Cl),(jF U d c).map (·.1)=if d ∈ U.map (·.1) then U.map (·.1) else U.map (·.1)++ [d]
 | [],d,c=>by simp [jF]
 | (x,l)::r,d,c=>by
  by_cases hx:x=d
  ·subst hx;simp [jF]
  ·have a:=EH r d c;rw [jF,if_neg hx,Γ,a];have:d ≠ x:=fun e=>hx e.symm
   by_cases hd:d ∈ r.map (·.1)<;>simp [hd,this]
theorem Kz {U:Ut} {d c:Cl} (h:(U.map (·.1)).Nodup):((jF U d c).map (·.1)).Nodup:=by
 rw [EH];split
 ·exact h
 ·rename_i i;rw [List.nodup_append];exact ⟨h,by simp,fun a j b f e=>by simp at f;subst f;subst e;exact i j⟩
theorem xy:∀ (U:Ut) (d c y:Cl),dh (jF U d c) y=if y=d then dh U d++ [c] else dh U y
 | [],d,c,y=>by
  by_cases h:y=d
  ·subst h;simp [jF,dh]
  ·have a:d ≠ y:=fun e=>h e.symm
   simp [jF,dh,h,a]
 | (x,l)::r,d,c,y=>by
  by_cases hx:x=d
  ·subst hx;by_cases h:y=x
   ·subst h;simp [jF,dh]
   ·have a:x ≠ y:=fun e=>h e.symm
    simp [jF,dh,h,a]
  ·have b:=xy r d c y;rw [jF,if_neg hx];by_cases h:x=y
   ·subst h;simp [dh,hx]
   ·rw [dh,if_neg h,b];by_cases h2:y=d
    ·subst h2;simp [dh,h]
    ·simp [dh,h2,h]
section
variable {P:Program} {ap:AP}
structure Af (w:World) (base:Nat) (e:TypeId) (um x:Nat) (U:Ut) (bnd:Nat):Prop where
 ex:∃ es clk,w.heap[um]? =some (.map es clk)∧uB es clk∧es.toList.map (·.key)=U.map (fun x=>cV x.1)∧
  (∀ (i:Nat) (x:Cl × List Cl) (en:MapEntry),U[i]? =some x→es.toList[i]? =some en→x.2.length≤bnd∧w.ownsRow base e 2 en.val x.2.length (F9 x.2))∧
  (∀ (i j:Nat) (en en':MapEntry),es.toList[i]? =some en→es.toList[j]? =some en'→i ≠ j→en.val.ownBlock=none∨en.val.ownBlock ≠ en'.val.ownBlock)∧∀ en ∈ es.toList,en.val.ownBlock ≠ some x
 lt:um<base
 nd:(U.map (·.1)).Nodup
theorem Af.new {w:World} {base a clk x:Nat} {e:TypeId} (h:w.heap[a]? =some (.map #[] clk)) (c:a<base):Af w base e a x [] 0:=
 ⟨⟨#[],clk,h,⟨by simp,by simp⟩,rfl,fun i x en h=>by simp at h,fun i j en b h=>by simp at h,fun en h=>by simp at h⟩,c,by simp⟩
theorem Af.kept {w w':World} {base a x:Nat} {e:TypeId} {U:Ut} {bnd:Nat} (h:Af w base e a x U bnd) (b:w.grownBy w' none):Af w' base e a x U bnd:=by
 obtain ⟨⟨es,clk,c,q,r,j,n,f⟩,s,d⟩:=h;refine ⟨⟨es,clk,(b.block a (Array.getElem?_eq_some_iff.1 c).1 (by simp)).trans c,q,r,fun i x en o p=> ?_,n,f⟩,s,d⟩;obtain ⟨k,l⟩:=j i x en o p;exact ⟨k,l.kept b (by cases en.val.ownBlock<;>simp)⟩
theorem Af.apart {w w':World} {base a x r:Nat} {e:TypeId} {U:Ut} {bnd:Nat} (h:Af w base e a x U bnd) (D:r<base) (c:a ≠ r) (d:∀ k,k ≠ r→w'.heap[k]? =w.heap[k]?):Af w' base e a x U bnd:=by
 obtain ⟨⟨es,clk,z,A,B,o,q,l⟩,C,j⟩:=h;refine ⟨⟨es,clk,(d a c).trans z,A,B,fun i x en u y=> ?_,q,l⟩,C,j⟩;obtain ⟨p,s,b⟩:=o i x en u y;refine ⟨p,s, ?_⟩;rcases b with b|⟨g,cap,cur,n,f,v,t⟩
 ·exact .inl b
 ·exact .inr ⟨g,cap,cur,n,f,(d g (by omega)).trans v,t⟩
theorem Af.new_x {w:World} {base j x y:Nat} {e:TypeId} {U:Ut} {bnd:Nat} (h:Af w base e j x U bnd) (r:w.heap.size≤y):Af w base e j y U bnd:=by
 obtain ⟨⟨es,clk,o,p,f,d,n,_⟩,q,k⟩:=h;refine ⟨⟨es,clk,o,p,f,d,n,fun en b l=> ?_⟩,q,k⟩;obtain ⟨i,c⟩:=Xq1 b;have a:es.toList.length=U.length:=by have:=congrArg Xqb f;simpa using this
 have Ih:i<U.length:=by rw [← a];exact (List.getElem?_eq_some_iff.1 c).1
 have:=(d i U[i] en (δ Ih) c).2.lt _ l;omega
theorem Af.mono {w:World} {base d x:Nat} {e:TypeId} {U:Ut} {bnd bnd':Nat} (h:Af w base e d x U bnd) (f:bnd≤bnd'):Af w base e d x U bnd':=by
 obtain ⟨⟨es,clk,n,o,p,a,l,k⟩,q,j⟩:=h;exact ⟨⟨es,clk,n,o,p,fun i x en b c=> ⟨Xqg (a i x en b c).1 f,(a i x en b c).2⟩,l,k⟩,q,j⟩
theorem yg {w:World} {b:Nat} (o:Obj):w.grownBy (setBlock w b o) (some b):=
 ⟨rfl,rfl,rfl,by simp [setBlock],fun k _ a=>by
  simp only [setBlock];exact Array.getElem?_setIfInBounds_ne fun e=>a (by rw [e])⟩
theorem AC {w:World} {b:Nat} (o:Obj) (h:b<w.heap.size):(setBlock w b o).heap[b]? =some o:=by simp [setBlock,h]
theorem Af.entry (hap:di P ap) {t kt et:Nat} {ti tk te:TI} {i ie:TypeInfo} {z ze:Value} {de:TypeDesc} (ht:v_ P t ti i (.map kt et) z) (htk:ap.tyAt kt=some tk) (hte:v_ P et te ie de ze) (T:ze= .slice none 0 0) (hok:∀ c,gW tk (cA c)=true)
  {w:World} {base um x:Nat} {e:TypeId} {U:Ut} {bnd:Nat} (h:Af w base e um x U bnd) (hbw:base≤w.heap.size) (hxw:x<w.heap.size) (d:Cl):
  ∃ v0 st w1,(Instr.mapEntry t (.map (some um)) (cV d)).run P w= .ok (.tuple #[v0,goInt st]) w1∧w.grownBy w1 (some um)∧w1.ownsRow base e 2 v0 (dh U d).length (F9 (dh U d))∧(dh U d).length≤bnd∧v0.ownBlock ≠ some x∧
   ∀ (D:World) (G:Value) (c:Cl),w1.grownBy D v0.ownBlock→D.ownsRow base e 2 G ((dh U d).length+1) (F9 (dh U d++ [c]))→(G.ownBlock=v0.ownBlock∨∃ k,G.ownBlock=some k∧w1.heap.size≤k)→
    ∃ w3,(Instr.entryStore t (.map (some um)) (goInt st) G).run P D= .ok () w3∧D.grownBy w3 (some um)∧Af w3 base e um x (jF U d c) (bnd+1):=by
 obtain ⟨⟨es,clk,hb,hwf,hkeys,hrows,M,hxx⟩,hlt,N⟩:=h;have s:es.toList.length=U.length:=by have:=congrArg Xqb hkeys;simpa using this
 have hks:aS (fun _=>none) (fun _=>(0,0)) (fun _ _=>none) (U.map fun x=>cA x.1) (es.toList.map (·.key)):=by
  rw [hkeys];clear hkeys hrows s N
  induction U with
  |nil=>simp [aS]
  |cons x U ih=>simp only [Γ,aS];exact ⟨ed _ (QK x.1),ih⟩
 have hka:(U.map fun x=>cA x.1).all (gW tk)=true:=by
  rw [List.all_eq_true];intro a ha;obtain ⟨x,_,rfl⟩:=List.mem_map.1 ha;exact hok x.1
 have hum:um<w.heap.size:=(Array.getElem?_eq_some_iff.1 hb).1;obtain ⟨v0,st,r,f,j,hrun,hcase,hwf1,hstore⟩:=PH (g:=fun _=>none) (m:=fun _=>(0,0)) (S:=fun _ _=>none) hap ht htk hte (hok d) (ed _ (QK d)) hb hwf hks hka;have W:w.grownBy (setBlock w um (.map r f)) (some um):=yg _;have keep:∀ {w':World} {v:Value} {n:Nat} {xs:List Value},w'.ownsRow base e 2 v n xs→∀ {w'':World},w'.grownBy w'' (some um)→w''.ownsRow base e 2 v n xs:=fun {w' v n xs} ho {w''} hg=>ho.kept hg (by
  cases I:v.ownBlock with
  |none=>exact .inl rfl
  |some k=>exact .inr fun A=>by have:=(ho.lt k I).1;cases A;omega)
 have found:∃ l,dh U d=l∧l.length≤bnd∧(setBlock w um (.map r f)).ownsRow base e 2 v0 l.length (F9 l)∧(∀ (i:Nat) (en:MapEntry),es.toList[i]? =some en→i ≠ j→en.val.ownBlock=none∨en.val.ownBlock ≠ v0.ownBlock)∧
   (∀ (i:Nat) (en:MapEntry),r.toList[i]? =some en→i ≠ j→es.toList[i]? =some en)∧j<r.toList.length∧(∀ c,(jF U d c).map (fun x=>cV x.1)=r.toList.map (·.key))∧
   (∀ (c:Cl) (i:Nat) (x:Cl × List Cl),(jF U d c)[i]? =some x→(i=j∧x.2=l++ [c])∨(i ≠ j∧U[i]? =some x)):=by
  rcases hcase with ⟨en,o,hek,rfl,rfl,rfl⟩|⟨hno,rfl,rfl,rfl,rfl⟩
  ·have E:j<U.length:=by rw [← s];exact (List.getElem?_eq_some_iff.1 o).1
   have F:U[j]? =some U[j]:=δ E;have hd:U[j].1=d:=by
    have:=congrArg (fun l=>l[j]?) hkeys;simp only [φ,o,F,Xqu,Option.some.injEq] at this;exact aac (this.symm.trans hek)
   obtain ⟨r1,X⟩:=Ox N F;rw [hd] at r1 X;obtain ⟨q1,q2⟩:=hrows j _ en F o;refine ⟨U[j].2,r1,q1,keep q2 W,fun i y b p=>M i j y en b o p,fun i y h _=>h,by rw [s];exact E,fun c=> ?_,fun c i x u=> ?_⟩
   ·rw [X,hkeys];apply Xq8;intro n;simp only [φ,Xxd];by_cases hn:j=n
    ·subst hn;simp [E,hd,F]
    ·simp [hn]
   ·rw [X,Xxd] at u;by_cases b:j=i
    ·subst b;simp [E] at u;subst u;exact .inl ⟨rfl,rfl⟩
    ·rw [if_neg b] at u;exact .inr ⟨fun e=>b e.symm,u⟩
  ·have hd:d ∉ U.map (·.1):=by
    intro hm;obtain ⟨x,u,rfl⟩:=List.mem_map.1 hm;have:(U.map fun x=>cA x.1).any (uG (cA x.1))=true:=List.any_eq_true.2 ⟨cA x.1,List.mem_map.2 ⟨x,u,rfl⟩,by simp [cA,cC,uG,Gq,zY]⟩;rw [hno] at this;cases this
   obtain ⟨r1,X⟩:=Fj hd;refine ⟨[],r1,Xqn _,by rw [T];exact World.ownsRow_nil _ _ _ _,fun i en _ _=>by rw [T];cases en.val.ownBlock<;>simp [Value.ownBlock],fun i y h b=> ?_,by simp,fun c=> ?_,fun c i x u=> ?_⟩
   ·rw [Array.toList_push] at h;have:=(List.getElem?_eq_some_iff.1 h).1;simp at this;rwa [υ (by simp;omega)] at h
   ·rw [X,Xxp,← hkeys,Array.toList_push,Xxp];rfl
   ·rw [X] at u;have hl2:es.size=U.length:=by rw [← s];simp
    by_cases b:i<U.length
    ·rw [υ b] at u;exact .inr ⟨by omega,u⟩
    ·have:=(List.getElem?_eq_some_iff.1 u).1;simp at this;have O:i=U.length:=by omega
     subst O;simp at u;subst u;exact .inl ⟨hl2.symm,rfl⟩
 obtain ⟨l,hl,hlb,L,hapart,hold,hjlt,hk1,hr1⟩:=found;have J:v0.ownBlock ≠ some x:=by
  rcases hcase with ⟨en,o,_,rfl,_,_⟩|⟨_,_,_,_,rfl⟩
  ·exact hxx en (ο o)
  ·rw [T];simp [Value.ownBlock]
 refine ⟨v0,st,_,hrun,W,by rw [hl];exact L,by rw [hl];exact hlb,J, ?_⟩;rw [hl];intro D G c hg2 hown' hwhere;have hum1:(setBlock w um (.map r f)).heap[um]? =some (.map r f):=AC _ hum;have hv0:v0.ownBlock ≠ some um:=fun A=>by have:=(L.lt um A).1;omega
 have hw2:D.heap[um]? =some (.map r f):=(hg2.block um (by simpa [setBlock] using hum) fun A=>hv0 A.symm).trans hum1;obtain ⟨Q,hrun',K,hwf'⟩:=hstore D G hw2;have hum2:um<D.heap.size:=(Array.getElem?_eq_some_iff.1 hw2).1;have R:D.grownBy (setBlock D um (.map Q f)) (some um):=yg _;have B:∀ (i:Nat) (en:MapEntry),Q.toList[i]? =some en→(i=j∧en.val=G)∨(i ≠ j∧es.toList[i]? =some en):=by
  intro i en b;rw [K,Xj6] at b;by_cases p:j=i
  ·subst p;left;refine ⟨rfl, ?_⟩;cases hq:r.toList[j]? with
   |none=>rw [hq] at b;cases b
   |some q=>rw [hq] at b;simp at b;subst b;rfl
  ·right;simp [p] at b;exact ⟨fun e=>p e.symm,hold i en (by simpa using b) fun e=>p e.symm⟩
 refine ⟨_,hrun',R,⟨Q,f,AC _ hum2,hwf',by rw [K,Lp,hk1],fun i x en u o=> ?_,fun i i' en y b O hne=> ?_,fun en o=> ?_⟩,hlt,Kz N⟩
 ·rcases hr1 c i x u with ⟨rfl,V⟩|⟨p,V⟩
  ·rcases B i en o with ⟨_,I⟩|⟨C,_⟩
   ·rw [V,I];exact ⟨by simp;omega,keep (by simpa using hown') R⟩
   ·exact absurd rfl C
  ·rcases B i en o with ⟨C,_⟩|⟨_,he⟩
   ·exact absurd C p
   ·obtain ⟨q1,q2⟩:=hrows i x en V he;exact ⟨by omega,keep ((keep q2 W).kept hg2 (hapart i en he p)) R⟩
 ·have old:∀ (i:Nat) (en:MapEntry),es.toList[i]? =some en→i ≠ j→en.val.ownBlock=none∨en.val.ownBlock ≠ G.ownBlock:=by
   intro i en b p;rcases hwhere with C|⟨k,C,Y⟩
   ·rw [C];exact hapart i en b p
   ·cases I:en.val.ownBlock with
    |none=>exact .inl rfl
    |some q=>
     right;rw [C];intro A;cases A;have Ih:i<U.length:=by rw [← s];exact (List.getElem?_eq_some_iff.1 b).1
     have:=(hrows i U[i] en (δ Ih) b).2.lt _ I;simp [setBlock] at Y;omega
  rcases B i en b with ⟨C,I⟩|⟨C,Y⟩<;>rcases B i' y O with ⟨h1',hv'⟩|⟨h1',Z⟩
  ·omega
  ·rw [I];rcases old i' y Z h1' with A|A
   ·cases hvv:G.ownBlock with
    |none=>exact .inl rfl
    |some q=>exact .inr (by rw [A];simp)
   ·exact .inr fun e2=>A e2.symm
  ·rw [hv'];exact old i en Y C
  ·exact M i i' en y Y Z hne
 ·obtain ⟨i,b⟩:=Xq1 o;rcases B i en b with ⟨_,I⟩|⟨_,Y⟩
  ·rw [I];rcases hwhere with h3|⟨k,h3,h4⟩
   ·rw [h3];exact J
   ·rw [h3];intro A;cases A;simp [setBlock] at h4;omega
  ·exact hxx en (ο Y)
end
end AM
namespace AM
open Go
section
variable {P:Program} {ap:AP} {h0:List az} {nt:Nat}
def Eu (U:Ut):az:=⟨[.agg (U.map fun x=>cA x.1),.agg (U.map fun x=> .sl (cL x.2) x.2.length false)],0,false,0,dJ,true⟩
theorem Af.shut {env:dG} {hp:Hp} {m0 m:aB} {S0 S:au} {w0 w:World} {a:Act} {base u x0:Nat} {e:TypeId} {U:Ut} {bnd:Nat} (Z:Fr (ax h0) m0 S0 w0 (ai hp) m S w) (hF:FR ap env hp [] nt m S w a)
  (h:Af w base e u x0 U bnd) (hw0:w0.heap.size≤u) (hoff:xQ (ai hp) m S w u) (hclr:∀ k,base≤k→(∀ b B,ai hp b=some B→(m b).1 ≠ k)∧∀ o,S k o=none) (b:Nat) (hb:ai hp b=none):
  ∃ z S',gK S S'∧(∀ x,x ≠ b→z x=m x)∧z b=(u,0)∧(∀ k o,k<base→S' k o=S k o)∧Fr (ax h0) m0 S0 w0 (ai ((b,Eu U)::hp)) z S' w∧FR ap env ((b,Eu U)::hp) [] nt z S' w a:=by
 obtain ⟨⟨es,clk,F,hwf,hkeys,hrows,G,_⟩,V,hnd⟩:=h;have s:es.toList.length=U.length:=by have:=congrArg Xqb hkeys;simpa using this
 have rows:∀ n,n≤U.length→∃ S',gK S S'∧(∀ k o,k<base→S' k o=S k o)∧Fr (ax h0) m0 S0 w0 (ai hp) m S' w∧FR ap env hp [] nt m S' w a∧
   (∀ (i:Nat) (x:Cl × List Cl) (en:MapEntry),i<n→U[i]? =some x→es.toList[i]? =some en→PR S' (.sl (cL x.2) x.2.length false) en.val)∧
   (∀ (i:Nat) (en:MapEntry),n≤i→es.toList[i]? =some en→∀ k,en.val.ownBlock=some k→∀ o,S' k o=none):=by
  intro n
  induction n with
  |zero=>
   intro _;refine ⟨S,gK.refl S,fun _ _ _=>rfl,Z,hF,fun i x en h=>absurd h (by omega),fun i en _ v k r o=> ?_⟩;have Ih:i<U.length:=by rw [← s];exact (List.getElem?_eq_some_iff.1 v).1
   exact (hclr k ((hrows i U[i] en (δ Ih) v).2.lt k r).1).2 o
  | succ n ih=>
   intro hn;obtain ⟨S1,L,D,M,N,O,W⟩:=ih (by omega);have p:U[n]? =some U[n]:=δ (by omega);have j:es.toList[n]? =some (es.toList[n]'(by omega)):=δ (by omega);generalize es.toList[n]'(by omega)=en at j;generalize U[n]=x at p;obtain ⟨q1,q2⟩:=hrows n x en p j;rcases q2.2 with ⟨I,E⟩|⟨g,cap,cur,I,hg1,C,X,hg4,hg5,hg6⟩
   ·have K:x.2= []:=Xq0 E;refine ⟨S1,L,D,M,N,fun i y f v t d=> ?_,fun i f v=>W i f (by omega)⟩;by_cases hin:i=n
    ·subst hin;rw [p] at t;cases t;rw [j] at d;cases d;rw [K,I];simp only [PR];exact ⟨none,0,rfl,ζ _,.inl ⟨fun _=>by simp,rfl,by simp,rfl⟩⟩
    ·exact O i y f (by omega) t d
   ·have Y:xQ (ai hp) m S1 w g:=⟨(Array.getElem?_eq_some_iff.1 C).1,(hclr g hg1).1,W n en (ζ _) j g (by rw [I];rfl)⟩
    have T:(F9 x.2).length=x.2.length*2:=VI _;obtain ⟨r1,r2,r3,r4⟩:=DT M N Y (by omega) C (us:=F9 x.2) (by rw [T];exact hg6) (VJ _);refine ⟨_,L.trans r1,fun k o r=>by rw [← D k o r];unfold jJ;rw [if_neg (by omega)],r2,r3,fun i y f v t d=> ?_,fun i f v d k r o=> ?_⟩
    ·by_cases hin:i=n
     ·subst hin;rw [p] at t;cases t;rw [j] at d;cases d;rw [I];simp only [PR];exact ⟨_,cap,rfl,X,.inr ⟨g,0,F9 x.2,rfl,QI _,r4⟩⟩
     ·exact bn r1 _ (O i y f (by omega) t d)
    ·have hkg:k ≠ g:=by
      rcases G i n f en d j (by omega) with e1|e1
      ·rw [e1] at r;cases r
      ·intro e2;subst e2;rw [r,I] at e1;exact e1 rfl
     unfold jJ;rw [if_neg hkg];exact W i f (by omega) d k r o
 obtain ⟨S',L,D,M,N,O,_⟩:=rows U.length (ζ _);have hoff':xQ (ai hp) m S' w u:=⟨hoff.lt,hoff.blk,fun o=>by rw [D u o V];exact hoff.clr o⟩
 have hks:a_ S' (U.map fun x=>cA x.1) (es.toList.map (·.key)):=by
  rw [hkeys];have key:∀ l:Ut,a_ S' (l.map fun x=>cA x.1) (l.map fun x=>cV x.1):=by
   intro l
   induction l with
   |nil=>simp [a_]
   |cons x l ih=>simp only [Γ,a_];exact ⟨QK x.1,ih⟩
  exact key U
 have Q:a_ S' (U.map fun x=> .sl (cL x.2) x.2.length false) (es.toList.map (·.val)):=by
  have key:∀ (l:Ut) (q:List MapEntry),l.length=q.length→(∀ (i:Nat) (x:Cl × List Cl) (en:MapEntry),l[i]? =some x→q[i]? =some en→PR S' (.sl (cL x.2) x.2.length false) en.val)→a_ S' (l.map fun x=> .sl (cL x.2) x.2.length false) (q.map (·.val)):=by
   intro l
   induction l with
   |nil=>intro q J _;cases q with|nil=>simp [a_]|cons _ _=>simp at J
   | cons x l ih=>
    intro q J hr;cases q with
    |nil=>simp at J
    |cons en q=>
     simp only [Γ,a_];exact ⟨hr 0 x en rfl rfl,ih q (by simpa using J) fun i y f h h'=>hr (i+1) y f (by simpa using h) (by simpa using h')⟩
  exact key U es.toList s.symm fun i x en K R=>O i x en (List.getElem?_eq_some_iff.1 K).1 K R
 have A:a_ S' (Eu U).cells [.agg (es.map (·.key)),.agg (es.map (·.val))]:=by
  simp only [Eu,a_,PR,and_true];exact ⟨⟨es.toList.map (·.key),by rw [← Array.toList_map],hks⟩,⟨es.toList.map (·.val),by rw [← Array.toList_map],Q⟩⟩
 obtain ⟨z,k1,k2,k3,k4⟩:=XJ (h0:=h0) b (Eu U) (k:=u) (c:=0) M N hb hoff' hw0 rfl rfl (fun es' clk' he=>by rw [F] at he;cases he;exact hwf)
  ⟨jw es,0,_,[],.inr ⟨rfl,es,clk,F,rfl⟩,by simp [jw],fun _=>A,aV _ A,fun E=>absurd rfl E,fun _ E=>absurd rfl E⟩
 exact ⟨z,S',L,k1,k2,D,k3,k4⟩
end
end AM
namespace AM
open Go
section
variable {P:Program} {ap:AP}
theorem ag.ahead {h0:List az} {nt:Nat} {c:Code} {e:aJ} {s2:St} (b:Nat) (B:az) {en d:dG} {hp hp':Hp} (q:ag P ap h0 nt c ⟨d,hp',.dead,[]⟩ e s2) (i:h0.length≤b) (f:B.pr=true)
  (henv:Q9 b B d (dG.get en)) (hhp:NH b B hp' hp):ag P ap h0 nt c {env:=en,hp,md:= .dead,dfs:= []} e s2:=by
 intro _;obtain ⟨n,l⟩:=q rfl;refine ⟨n,fun m0 S0 w0 m S w a h p Q o=> ?_⟩;obtain ⟨S2,k,j⟩:=IV (r:={env:=en,hp,md:= .dead,dfs:= []}) (r':=⟨d,hp',.dead,[]⟩) b B i (Cf hhp) f rfl (rM henv) (GG hhp) (Gz hhp) h p;exact l m0 S0 w0 m S2 w a k j Q o
end
end AM
namespace AM
open Go
inductive HpS (b:Nat) (B:az):Hp→Hp→Prop
 |nil:HpS b B [] []
 |cons {c:Nat} {C D:az} {r l:Hp}:Ee b B D C→c ≠ b→HpS b B r l→HpS b B ((c,C)::r) ((c,D)::l)
section
variable {P:Program} {ap:AP}
theorem ag.tidy {h0:List az} {nt:Nat} {b:Code} {e:aJ} {s s1 s2:St} (keep:List Nat) (h:ag P ap h0 nt b s1 e s2) (j:AM.norm h0.length keep s=s1) (o:s1.md= .dead):ag P ap h0 nt b s e s2:=by
 intro hs;obtain ⟨p,k⟩:=h o;refine ⟨p,fun m0 S0 w0 m S w a c n Q l=> ?_⟩;obtain ⟨i,f,d⟩:=iW (keep:=keep) c n;rw [j] at f d;exact k m0 S0 w0 i S w a f d Q l
end
end AM
namespace AM
open Go
def bare:AV→Bool
 | .int _ _=>true
 | .bool _=>true
 | .str _=>true
 | .nilS=>true
 | .nilP=>true
 | .nilI=>true
 | .nilF=>true
 |_=>false
def QP:gV→Bool
 | .ret (.own xs _ e)=>xs.all bare && !(Δ e dJ)
 | .ret (.tup l)=>l.all bare
 | .ret x=>bare x
 |_=>false
section
variable {P:Program} {ap:AP}
theorem VB {S S':au}:∀ {x:AV} {v:Value},bare x=true→PR S x v→PR S' x v
 | .int _ _,_,_,h=>by simpa only [PR] using h
 | .bool _,_,_,h=>by simpa only [PR] using h
 | .str _,_,_,h=>by simpa only [PR] using h
 | .nilS,_,_,h=>by simpa only [PR] using h
 | .nilP,_,_,h=>by simpa only [PR] using h
 | .nilI,_,_,h=>by simpa only [PR] using h
 | .nilF,_,_,h=>by simpa only [PR] using h
theorem mZ {g g':bD} {m a:aB} {S S':au}:∀ {x:AV} {v:Value},bare x=true→VR g m S x v→VR g' a S' x v
 | .int _ _,_,_,h=>by simpa only [VR,PR] using h
 | .bool _,_,_,h=>by simpa only [VR,PR] using h
 | .str _,_,_,h=>by simpa only [VR,PR] using h
 | .nilS,_,_,h=>by simpa only [VR,PR] using h
 | .nilP,_,_,h=>by simpa only [VR,PR] using h
 | .nilI,_,_,h=>by simpa only [VR,PR] using h
 | .nilF,_,_,h=>by simpa only [VR,PR] using h
theorem Ip {S S':au}:∀ {l:List AV} {vs:List Value},l.all bare=true→a_ S l vs→a_ S' l vs
 | [],[],_,_=>by simp [a_]
 |x::l,v::vs,h,hv=>by
  simp only [Xjc,ε] at h;simp only [a_] at hv ⊢;exact ⟨VB h.1 hv.1,Ip h.2 hv.2⟩
 | [],_::_,_,hv=>by simp [a_] at hv
 |_::_,[],_,hv=>by simp [a_] at hv
theorem Du:∀ {l:List AV},l.all bare=true→∀ n,eQ n l=(l,[])
 | [],_,n=>rfl
 |x::l,h,n=>by
  simp only [Xjc,ε] at h;have a:=Du h.2 n;cases x<;>simp [bare] at h<;>simp [eQ,a]
theorem EE {gh gf a b:bD} {m c:aB} {S S':au} {n d:Nat}:∀ {l:List AV} {vs:List Value},l.all bare=true→gY gh gf m S n l vs→gY a b c S' d l vs
 | [],[],_,_=>by simp [gY]
 | x::l,v::vs,h,hv=>by
  simp only [Xjc,ε] at h;have key:VR gh m S x v∧gY gh gf m S n l vs:=by
   cases x<;>simp [bare] at h<;>simpa only [gY] using hv
  have k2:=(⟨mZ h.1 key.1,EE h.2 key.2⟩:VR a c S' x v∧gY a b c S' d l vs)
  cases x<;>simp [bare] at h<;>simpa only [gY] using k2
 | [],_::_,_,hv=>by simp [gY] at hv
 |_::_,[],_,hv=>by simp [gY] at hv
theorem IU {g:bD} {m:aB} {S:au} {w:World} (c:aZ ap g m S w) (n:Nat):∀ {l l':List AV} {vs:List Value},fP (frz g n) l=some l'→aS g m S l vs→a_ (bP S m g w) l' vs
 | [],l',vs,h,hv=>by
  simp only [fP,Option.some.injEq] at h;subst h;cases vs with
  |nil=>simp [a_]
  |cons _ _=>simp [aS] at hv
 | x ::l,l',vs,h,hv=>by
  cases vs with
  |nil=>simp [aS] at hv
  | cons v vs=>
   simp only [aS] at hv;simp only [fP] at h;cases a:frz g n x with
   |none=>rw [a] at h;simp at h
   | some y=>
    cases b:fP (frz g n) l with
    |none=>rw [a,b] at h;simp at h
    |some r=>
     rw [a,b] at h;simp at h;subst h;simp only [a_];exact ⟨jf c (fun _ _ h=>h) n x v y a hv.1,IU c n b hv.2⟩
theorem oK {h:List az} {B:az} {b:Nat} {C:az} (a:ax (h++ [B]) b=some C):(b<h.length∧ax h b=some C)∨(b=h.length∧C=B):=by
 unfold ax at a ⊢;by_cases hl:b<h.length
 ·rw [υ hl] at a;exact .inl ⟨hl,a⟩
 ·have e:b=h.length:=by
   have:=(List.getElem?_eq_some_iff.1 a).1;simp at this;omega
  subst e;simp at a;exact .inr ⟨rfl,a.symm⟩
theorem ae.lend {f:Nat} {args args':List AV} {h:List az} {out:gV} (hz:fP (frz (ax h) 6) args=some args') (F:QP out=true) (hc:ae P ap f args' [] out []):ae P ap f args h out h:=by
 refine ⟨ζ _,hc.ent,fun m S w cargs r t=> ?_⟩;have J:=jT S m (ax h) w;have V:aZ ap (ax []) m (bP S m (ax h) w) w:=by
  refine ⟨fun b _ B _ p=>by simp [ax] at p,fun b B p=>by simp [ax] at p,fun k o v t=>kE r t,fun b B p=>by simp [ax] at p, ?_⟩;intro k E C;obtain ⟨vs,x,y⟩:=r.glob k E C;exact ⟨vs,aW J _ x,fun j u hj=> ⟨J _ _ _ (y j u hj).1,(y j u hj).2⟩⟩
 have U:aS (ax []) m (bP S m (ax h) w) args' cargs:=aV _ (IU r 6 hz t);refine (hc.calls m _ w cargs V U).mono fun e w' ⟨m',S',hF⟩=> ?_
 have hrest:∀ k,k<w.heap.size→w'.heap[k]? =w.heap[k]? :=fun k C=>hF.fr.rest k C fun b B p=>by simp [ax] at p
 have K:aZ ap (ax h) m S w':=by
  refine ⟨r.inj,fun b B p=> ?_,fun k o v t=>hF.srel.sealed k o v (hF.fr.sle _ _ _ (J _ _ _ t)),r.own,r.glob⟩;obtain ⟨⟨cur,T,vs,rest,x,y⟩,L,h4⟩:=r.blk b B p;exact ⟨⟨cur,T,vs,rest,x.same (hrest _ (r.lt p)),y⟩,L,h4⟩
 have plain:(h_ 0 out= [])→(∀ n,h_ n out= [])→(VA h m S out e)→∃ m' S',zT ap h m S w out h m' S' w' e:=fun _ y L=>by
  refine ⟨m,S, ?_, ?_,L⟩
  ·rw [y,μ];exact K
  ·rw [y,μ];exact ⟨Ge.refl _ _,gK.refl _,hF.fr.os,hF.fr.tape,hF.fr.output,hF.fr.size,fun k C _=>hrest k C,fun b B p=> .inr ⟨B,p,rfl⟩,fun k o v t=> .inl t,
    fun b B p es clk d=> .inl ⟨es,clk,by rw [← hrest _ (r.lt p)];exact d,id⟩⟩
 have c:=hF.out
 match out,F with
 | .ret (.own E n e0),F=>
  simp only [QP,ε,Xqe] at F;obtain ⟨X,G⟩:=F;have G:e0 ≠ dJ:=fun e=>by subst e;simp at G
  obtain ⟨cv,d,a⟩:=c;subst d;have I:ax ([]++h_ ([]:List az).length (.ret (.own E n e0))) 0=some (yJ E e0):=rfl;have C:w.heap.size≤(m' 0).1:=by
   rcases hF.fr.img 0 _ I with x|⟨B1,x,_⟩
   ·exact x
   ·simp [ax] at x
  obtain ⟨⟨cur,T,vs,rest,k1,k2,k3,k4,k5,k6⟩,k7,k8⟩:=hF.srel.blk 0 _ I;have M:a_ S E vs:=Ip X (k3 rfl);have Q:Ge (ax h) m (ax (h++ [yJ E e0])) (fun i=>if i<h.length then m i else m' 0):=fun b B p=>by
   have hl:b<h.length:=(List.getElem?_eq_some_iff.1 p).1;refine ⟨B, ?_,rfl,.inl ⟨rfl,by simp [hl]⟩⟩;unfold ax at p ⊢;rw [υ hl];exact p
  have hmw:∀ b B,ax h b=some B→(m b).1<w.heap.size:=fun b B p=>r.lt p
  refine ⟨fun i=>if i<h.length then m i else m' 0,S,⟨fun b b' B B' D Y d=> ?_,fun b B D=> ?_,K.sealed,fun b B D o v t=> ?_,r.glob⟩,
   ⟨Q,gK.refl _,hF.fr.os,hF.fr.tape,hF.fr.output,hF.fr.size,fun k C _=>hrest k C,fun b B D=> ?_,fun k o v t=> .inl t,fun b B D es clk R=> ?_⟩,⟨cv,rfl, ?_⟩⟩
  ·rcases oK D with ⟨A,q⟩|⟨z,q⟩<;>rcases oK Y with ⟨l2,W⟩|⟨Z,W⟩
   ·simp [A,l2] at d;exact r.inj b b' B B' q W d
   ·subst Z;simp [A] at d;have:=hmw b B q;omega
   ·subst z;simp [l2] at d;have:=hmw b' B' W;omega
   ·rw [z,Z]
  ·rcases oK D with ⟨A,q⟩|⟨z,q⟩
   ·simp only [if_pos A];exact (K.blk b B q).mono (gK.refl S) Q rfl
   ·subst z q;simp only [Xzl,if_false];exact ⟨⟨cur,T,vs,rest,k1,k2,fun _=>M,aV _ M,k5,k6⟩,k7,k8⟩
  ·rcases oK D with ⟨A,q⟩|⟨z,q⟩
   ·simp only [if_pos A] at t;exact r.own b B q o v t
   ·subst z q;simp only [Xzl,if_false] at t;have:=r.seal_lt t;omega
  ·rcases oK D with ⟨A,q⟩|⟨z,q⟩
   ·simp only [if_pos A];exact .inr ⟨B,q,trivial⟩
   ·subst z;simp only [Xzl,if_false];exact .inl C
  ·rcases oK D with ⟨A,q⟩|⟨z,q⟩
   ·simp only [if_pos A] at R ⊢;exact .inl ⟨es,clk,by rw [← hrest _ (hmw b B q)];exact R,id⟩
   ·subst z q;simp only [Xzl,if_false] at R ⊢;obtain ⟨es',clk',N,_⟩:∃ es clk,w'.heap[(m' 0).1]? =some (Obj.map es clk)∧True:=⟨es,clk,R,trivial⟩
    have:=k1.cells (show e0 ≠ dJ from G);rw [this] at N;cases N
  ·simp only [uV,VR] at a ⊢;obtain ⟨B,p,x,y,L⟩:=a;have p:B=yJ E e0:=by
    have:=p.symm.trans I;simpa using this
   subst p;refine ⟨yJ E e0,by simp [ax,iE],x,y,fun e=> ?_⟩;simpa using L e
 | .ret (.tup l),F=>
  simp only [QP] at F;obtain ⟨cv,d,a⟩:=c;have O:∀ n,(iE n (.tup l)).2= []:=fun n=>by
   simp only [iE,Du F n]
  refine plain (O 0) O ⟨cv,d, ?_⟩;simp only [uV] at a ⊢;obtain ⟨vs,x,y⟩:=a;exact ⟨vs,x,EE F y⟩
 | .ret (.int k n),_=>
  obtain ⟨cv,d,a⟩:=c;exact plain rfl (fun _=>rfl) ⟨cv,d,mZ (g:=ax []) (m:=m') rfl a⟩
 | .ret (.bool b),_=>
  obtain ⟨cv,d,a⟩:=c;exact plain rfl (fun _=>rfl) ⟨cv,d,mZ (g:=ax []) (m:=m') rfl a⟩
 | .ret (.str s),_=>
  obtain ⟨cv,d,a⟩:=c;exact plain rfl (fun _=>rfl) ⟨cv,d,mZ (g:=ax []) (m:=m') rfl a⟩
 | .ret .nilS,_=>
  obtain ⟨cv,d,a⟩:=c;exact plain rfl (fun _=>rfl) ⟨cv,d,mZ (g:=ax []) (m:=m') rfl a⟩
 | .ret .nilP,_=>
  obtain ⟨cv,d,a⟩:=c;exact plain rfl (fun _=>rfl) ⟨cv,d,mZ (g:=ax []) (m:=m') rfl a⟩
 | .ret .nilI,_=>
  obtain ⟨cv,d,a⟩:=c;exact plain rfl (fun _=>rfl) ⟨cv,d,mZ (g:=ax []) (m:=m') rfl a⟩
 | .ret .nilF,_=>
  obtain ⟨cv,d,a⟩:=c;exact plain rfl (fun _=>rfl) ⟨cv,d,mZ (g:=ax []) (m:=m') rfl a⟩
end
end AM
namespace AM
open Go
section
variable {P:Program} {ap:AP}
theorem ag.rvEnd {h0:List az} {nt:Nat} {d:Code} {e:aJ} {s s1 s2:St} (L:List Nat) (h:ag P ap h0 nt d s e s1) (k:Qd L s1=s2) (n:FI h0 L=true) (t:∀ v,e ≠ .panic v):ag P ap h0 nt d s e s2:=by
 intro p;obtain ⟨u,q⟩:=h p;refine ⟨by rw [← k];exact u,fun m0 S0 w0 m S w a l r Q o=>q m0 S0 w0 m S w a l r Q ?_⟩;cases e with
 |normal=>intro i S' w' a' j f;obtain ⟨c,b⟩:=xB (L:=L) (xM n) j f;rw [k] at c b;exact o i S' w' a' c b
 |exit id=>intro i S' w' a' j f;obtain ⟨c,b⟩:=xB (L:=L) (xM n) j f;rw [k] at c b;exact o i S' w' a' c b
 |ret=>intro i S' w' a' j f;obtain ⟨c,b⟩:=xB (L:=L) (xM n) j f;rw [k] at c b;exact o i S' w' a' c b
 |panic v=>exact absurd rfl (t v)
def vR (L:List Nat):R ((aJ × St) × qQ)→R ((aJ × St) × qQ)
 | .ok ((e,s),l) c=> .ok ((e,Qd L s),l) c
 |r=>r
def Yj:aJ→Bool
 | .panic _=>false
 |_=>true
theorem pn2 (g:uy P ap) (f:Nat) (i:List Nat) (n k:Nat) {nt nt0:Nat} {ans:List (gV × List az)} {b:qQ} {hs:List mJ} {bs:List Bool} {ps:List Prop} {a:Code} {s s':St} {h0:List az} {e:aJ} (env:dG)
  (hb:jE bs) (hp:PS P ap ps ans b hs) (hn:nt0≤nt) (he:vM P ap h0 f nt0 i a s b (qB n k) ans hs env= .ok ((e,s'),[]) ⟨false,[],bs,ps,[],[]⟩):ag P ap h0 nt a s e s':=by
 unfold vM at he;split at he
 ·rename_i p;generalize u:kL P ap (uq P ap 3000 4) h0 (GK ap f) 3000 nt0 i a s b ⟨false,qB n k,[],[],ans,hs⟩=r at he;cases r with
  | ok q c=>
   obtain ⟨⟨j,s1⟩,x⟩:=q;simp only [Dc] at he;split at he
   ·rename_i d;simp only [R.ok.injEq,Prod.mk.injEq] at he;obtain ⟨⟨⟨rfl,h⟩,rfl⟩,rfl⟩:=he;obtain ⟨t,y⟩:=gy g.apok g.mixed g.fnok 3000 4;have o:ag P ap h0 nt a s j s1:=(rG g.apok g.mixed t hn a (dK hn a p) _ _ _ _ _ u ⟨hb.mem,hp.all.mem⟩).2;have:=o.norm (env.map fun q=>q.1) (fun v l=>by subst l;exact d);rwa [h] at this
   ·cases he
  |need=>simp [Dc] at he
  |bad n=>simp [Dc] at he
 ·cases he
theorem aht {L:List Nat} {r:R ((aJ × St) × qQ)} {e:aJ} {s:St} {c:Cx} (h:vR L r= .ok ((e,s),[]) c):∃ s1,r= .ok ((e,s1),[]) c∧Qd L s1=s:=by
 cases r with
 |ok q c=>
  obtain ⟨⟨d,s1⟩,b⟩:=q;simp only [vR,R.ok.injEq,Prod.mk.injEq] at h;obtain ⟨⟨⟨rfl,a⟩,rfl⟩,rfl⟩:=h;exact ⟨s1,rfl,a⟩
 |need=>simp [vR] at h
 |bad n=>simp [vR] at h
theorem pv (g:uy P ap) (L:List Nat) (f:Nat) (c:List Nat) (n k:Nat) {nt nt0:Nat} {ans:List (gV × List az)} {b:qQ} {hs:List mJ} {bs:List Bool} {ps:List Prop} {a:Code} {s s':St} {h0:List az} {e:aJ}
  (hb:jE bs) (hp:PS P ap ps ans b hs) (hn:nt0≤nt) (hv:FI h0 L=true) (hne:Yj e=true) (he:vR L (vM P ap h0 f nt0 c a s b (qB n k) ans hs s'.env)= .ok ((e,s'),[]) ⟨false,[],bs,ps,[],[]⟩):ag P ap h0 nt a s e s':=by
 obtain ⟨s1,d,i⟩:=aht he;exact (pn2 g f c n k _ hb hp hn d).rvEnd L i hv fun v h=>by subst h;cases hne
end
end AM
namespace AM
open Go
open Go.ChangeMaps (setBlock)
def iV (k:Nat):Value:= .int .i64 (k:Int)
def iL (l:List Nat):List Value:=l.map iV
structure Kw (w:World) (base:Nat) (e ue:TypeId) (u x:Nat) (U:List (List Nat)) (bnd:Nat):Prop where
 ex:∃ (hs:List Value) (ty:TypeId),w.heap[u]? =some (.cells hs.toArray ty (0,0))∧U.length≤hs.length∧
  (∀ (i:Nat) (l:List Nat) (v:Value),U[i]? =some l→hs[i]? =some v→l.length≤bnd∧w.ownsRow base e 1 v l.length (iL l))∧
  (∀ (i j:Nat) (v v':Value),i<U.length→j<U.length→hs[i]? =some v→hs[j]? =some v'→i ≠ j→v.ownBlock=none∨v.ownBlock ≠ v'.ownBlock)∧∀ (i:Nat) (v:Value),i<U.length→hs[i]? =some v→v.ownBlock ≠ some x
 lt:u<base
theorem Kw.new {w:World} {base u x n:Nat} {e ue ty:TypeId} {rest:List Value} (h:w.heap[u]? =some (.cells (Xqh n (Value.slice none 0 0)++rest).toArray ty (0,0))) (c:u<base):Kw w base e ue u x (Xqh n []) 0:=by
 have key:∀ (i:Nat) (v:Value),i<n→(Xqh n (Value.slice none 0 0)++rest)[i]? =some v→v= .slice none 0 0:=fun i v b a=>by
  rw [υ (by simpa using b)] at a;have d:=ο a;rw [Xzm] at d;exact d.2
 refine ⟨⟨_,ty,h,by simp,fun i l v c a=> ?_,fun i j v p b q a o _=> ?_,fun i v b a=> ?_⟩,c⟩
 ·have f:=ο c;have k:=(List.getElem?_eq_some_iff.1 c).1;rw [Xzm] at f;rw [f.2,key i v (by simpa using k) a];exact ⟨ζ _,World.ownsRow_nil _ _ _ _⟩
 ·rw [key i v (by simpa using b) a];exact .inl rfl
 ·rw [key i v (by simpa using b) a];simp [Value.ownBlock]
theorem Kw.store {w:World} {base u x:Nat} {e ue:TypeId} {U:List (List Nat)} {bnd:Nat} (h:Kw w base e ue u x U bnd) (hxw:x<w.heap.size) {n:Nat} {l:List Nat} (R:U[n]? =some l):
  ∃ (hs:List Value) (ty:TypeId) (v0:Value),w.heap[u]? =some (.cells hs.toArray ty (0,0))∧hs[n]? =some v0∧w.ownsRow base e 1 v0 l.length (iL l)∧l.length≤bnd∧v0.ownBlock ≠ some x∧v0.ownBlock ≠ some u∧
   ∀ (s:World) (y:Value) (k:Nat),w.grownBy s v0.ownBlock→s.ownsRow base e 1 y (l.length+1) (iL (l++ [k]))→(y.ownBlock=v0.ownBlock∨∃ b,y.ownBlock=some b∧w.heap.size≤b)→
    s.heap[u]? =some (.cells hs.toArray ty (0,0))∧Kw (setBlock s u (.cells (hs.set n y).toArray ty (0,0))) base e ue u x (U.set n (l++ [k])) (bnd+1):=by
 obtain ⟨⟨hs,ty,L,h2,J,K,F⟩,hl⟩:=h;have t:n<U.length:=(List.getElem?_eq_some_iff.1 R).1;have r:n<hs.length:=by omega
 have p:hs[n]? =some hs[n]:=δ r;obtain ⟨Z,O⟩:=J n l _ R p;have Q:hs[n].ownBlock ≠ some u:=fun c=>by have:=(O.lt u c).1;omega
 refine ⟨hs,ty,hs[n],L,p,O,Z,F n _ t p,Q,fun s y k N E T=> ?_⟩;have G:u<w.heap.size:=(Array.getElem?_eq_some_iff.1 L).1;have D:s.heap[u]? =some (.cells hs.toArray ty (0,0)):=(N.block u G fun c=>Q c.symm).trans L;have C:u<s.heap.size:=(Array.getElem?_eq_some_iff.1 D).1;have I:s.grownBy (setBlock s u (.cells (hs.set n y).toArray ty (0,0))) (some u):=yg _;have keep:∀ {v:Value} {m:Nat} {xs:List Value},s.ownsRow base e 1 v m xs→(setBlock s u (.cells (hs.set n y).toArray ty (0,0))).ownsRow base e 1 v m xs:=fun {v m xs} E=>E.kept I (by
  cases a:v.ownBlock with
  |none=>exact .inl rfl
  |some k=>exact .inr fun c=>by have:=(E.lt k a).1;cases c;omega)
 refine ⟨D,⟨⟨hs.set n y,ty,AC _ C,by simpa using h2,fun i l' v B a=> ?_,fun i j v V o M a f A=> ?_,fun i v o a=> ?_⟩,hl⟩⟩
 ·rw [Xxd] at B a;by_cases o:n=i
  ·subst o;rw [if_pos rfl,if_pos t] at B;rw [if_pos rfl,if_pos r] at a;cases B;cases a;exact ⟨by simp;omega,keep (by simpa using E)⟩
  ·rw [if_neg o] at B a;obtain ⟨r1,X⟩:=J i l' v B a;have Ih:=(List.getElem?_eq_some_iff.1 B).1;exact ⟨by omega,keep (X.kept N (K i n v _ Ih t a p fun c=>o c.symm))⟩
 ·rw [Xzh] at o M;have old:∀ (i:Nat) (v:Value),i<U.length→hs[i]? =some v→i ≠ n→v.ownBlock=none∨v.ownBlock ≠ y.ownBlock:=by
   intro i v Ih o d;rcases T with z|⟨b,z,W⟩
   ·rw [z];exact K i n v _ Ih t o p d
   ·cases a:v.ownBlock with
    |none=>exact .inl rfl
    |some q=>
     right;rw [z];intro c;cases c;have:=(J i U[i] v (δ Ih) o).2.lt _ a;omega
  rw [Xxd] at a f;by_cases d:n=i
  ·subst d;rw [if_pos rfl,if_pos r] at a;cases a;rw [if_neg A] at f;rcases old j V M f (fun c=>A c.symm) with c|c
   ·cases hvv:y.ownBlock with
    |none=>exact .inl rfl
    |some q=>exact .inr (by rw [c];simp)
   ·exact .inr fun Y=>c Y.symm
  ·rw [if_neg d] at a;by_cases hjn:n=j
   ·subst hjn;rw [if_pos rfl,if_pos r] at f;cases f;exact old i v o a (fun c=>d c.symm)
   ·rw [if_neg hjn] at f;exact K i j v V o M a f A
 ·rw [Xzh] at o;rw [Xxd] at a;by_cases d:n=i
  ·subst d;rw [if_pos rfl,if_pos r] at a;cases a;rcases T with z|⟨b,z,W⟩
   ·rw [z];exact F n _ t p
   ·rw [z];intro c;cases c;omega
  ·rw [if_neg d] at a;exact F i v o a
end AM
namespace AM
open Go
abbrev WJ:Type:=Nat→bD→aB→au→World→Prop
def Pg (J:WJ):Prop:=∀ B g m S w g' m' S' w',Fr g m S w g' m' S' w'→J B g m S w→J B g' m' S' w'
section
variable {P:Program} {ap:AP} {h0:List az} {nt:Nat}
def aO (P:Program) (ap:AP) (h0:List az) (nt:Nat) (code:Code) (s:St) (J:WJ) (e:aJ) (s':St) (J':WJ):Prop:=
 s.md= .dead→s'.md= .dead∧∀ m0 S0 w0 m S w a,Fr (ax h0) m0 S0 w0 (ai s.hp) m S w→FR ap s.env s.hp s.dfs nt m S w a→J w0.heap.size (ai s.hp) m S w→∀ Q,
  (∀ m' S' w' a',Fr (ax h0) m0 S0 w0 (ai s'.hp) m' S' w'→FR ap s'.env s'.hp s'.dfs nt m' S' w' a'→J' w0.heap.size (ai s'.hp) m' S' w'→qy s'.hp m' S' Q a' w' e)→code.wp P Q a w
theorem ag.w {i:List az} {b:Code} {s s':St} {e:aJ} {J:WJ} (k:Pg J) (j:ai s.hp=ax i) (h:ag P ap i nt b s e s'):aO P ap h0 nt b s J e s' J:=by
 intro f;obtain ⟨r,o⟩:=h f;refine ⟨r,fun m0 S0 w0 m S w a c q t Q p=>o m S w m S w a (j ▸ Fr.refl _ _ _ _) q Q fun n S' w' a' d l=> ?_⟩;rw [← j] at d;exact p n S' w' a' (c.trans d) l (k _ _ _ _ _ _ _ _ _ d t)
theorem aO.seq {x y:Code} {s s1 s2:St} {e:aJ} {J J1 J2:WJ} (o:aO P ap h0 nt x s J .normal s1 J1) (q:aO P ap h0 nt y s1 J1 e s2 J2):aO P ap h0 nt (.seq x y) s J e s2 J2:=by
 intro c;obtain ⟨r,k⟩:=o c;obtain ⟨l,h⟩:=q r;refine ⟨l,fun m0 S0 w0 m S w a b p t Q n=>wp_seq (k m0 S0 w0 m S w a b p t _ ?_)⟩;intro i S' w' a' f d j;exact h m0 S0 w0 i S' w' a' f d j Q n
theorem aO.seq_out {x y:Code} {s s1:St} {e:aJ} {J J1:WJ} (c:e ≠ .normal) (n:aO P ap h0 nt x s J e s1 J1):aO P ap h0 nt (.seq x y) s J e s1 J1:=by
 intro d;obtain ⟨p,j⟩:=n d;refine ⟨p,fun m0 S0 w0 m S w a b o q Q l=>wp_seq (j m0 S0 w0 m S w a b o q _ ?_)⟩;intro i S' w' a' k h f;have:=l i S' w' a' k h f;cases e with
 |normal=>exact absurd rfl c
 |exit id=>exact this
 |ret=>exact this
 |panic v=>exact this
theorem aO.cond {t:Operand} {x y:Code} {s s':St} {e:aJ} {bv:Bool} {J J':WJ} (f:oG ap s.env t= .bool bv) (h:aO P ap h0 nt (if bv then x else y) s J e s' J'):aO P ap h0 nt (.cond t x y) s J e s' J':=by
 intro d;obtain ⟨j,i⟩:=h d;refine ⟨j,fun m0 S0 w0 m S w a b c l Q k=>wp_cond (t:=bv) ?_ (i m0 S0 w0 m S w a b c l Q k)⟩;have:=pI c.srel (a:=a) (env:=s.env) t (fun t _=>c.env t);rw [f] at this;simpa only [VR,PR] using this
theorem aO.block {id:Nat} {b:Code} {s s':St} {e:aJ} {J J':WJ} (h:aO P ap h0 nt b s J e s' J'):aO P ap h0 nt (.block id b) s J (kS id e) s' J':=by
 intro j;obtain ⟨u,p⟩:=h j;refine ⟨u,fun m0 S0 w0 m S w a d t x Q r=>wp_block (p m0 S0 w0 m S w a d t x _ ?_)⟩;intro n S' w' a' q l k;have c:=r n S' w' a' q l k;cases e with
 |normal=>exact c
 |ret=>exact c
 |panic v=>exact c
 | exit id'=>
  simp only [kS] at c;split at c
  ·rename_i i;show Exit.inBlock id Q (.exit id') a' w';have:=Xqv i;subst this;simpa [qy,Exit.inBlock] using c
  ·rename_i i;have f:id' ≠ id:=fun o=>by subst o;simp at i
   simpa [qy,Exit.inBlock,f] using c
theorem aO.skip {s:St} {J:WJ}:aO P ap h0 nt .skip s J .normal s J:=fun b=> ⟨b,fun _ _ _ m S w a d c e Q f=>wp_skip (f m S w a d c e)⟩
inductive qA (P:Program) (ap:AP) (h0:List az) (nt:Nat) (b:Code) (e:aJ):St→WJ→St→WJ→Prop where
 |done {s s':St} {J J':WJ}:aO P ap h0 nt b s J e s' J'→qA P ap h0 nt b e s J s' J'
 |next {s s1 s':St} {J J1 J':WJ}:aO P ap h0 nt b s J .normal s1 J1→qA P ap h0 nt b e s1 J1 s' J'→qA P ap h0 nt b e s J s' J'
theorem qA.rounds {b:Code} {e:aJ} {s s':St} {J J':WJ} (d:e ≠ .normal) (h:qA P ap h0 nt b e s J s' J'):s.md= .dead→s'.md= .dead∧∃ n,∀ m0 S0 w0 m S w c,Fr (ax h0) m0 S0 w0 (ai s.hp) m S w→FR ap s.env s.hp s.dfs nt m S w c→J w0.heap.size (ai s.hp) m S w→∀ Q,
  (∀ a S' w' a',Fr (ax h0) m0 S0 w0 (ai s'.hp) a S' w'→FR ap s'.env s'.hp s'.dfs nt a S' w' a'→J' w0.heap.size (ai s'.hp) a S' w'→qy s'.hp a S' Q a' w' e)→Code.rounds P b Q n c w:=by
 induction h with
 |done hx=>
  intro i;obtain ⟨p,k⟩:=hx i;refine ⟨p,1,fun m0 S0 w0 m S w c f t q Q o=>k m0 S0 w0 m S w c f t q _ ?_⟩;intro a S' w' a' l j r;have:=o a S' w' a' l j r
  revert d this
  cases e with
  |normal=>intro d _;exact absurd rfl d
  |exit id=>intro _ h;exact h
  |ret=>intro _ h;exact h
  |panic v=>intro _ h;exact h
 |next hx _ ih=>
  intro i;obtain ⟨p,k⟩:=hx i;obtain ⟨l,n,j⟩:=ih p;refine ⟨l,n+1,fun m0 S0 w0 m S w c f t q Q o=>k m0 S0 w0 m S w c f t q _ ?_⟩;intro a S' w' a' r u x;exact j m0 S0 w0 a S' w' a' r u x Q o
theorem qA.ok {b:Code} {e:aJ} {s s':St} {J J':WJ} (d:e ≠ .normal) (h:qA P ap h0 nt b e s J s' J'):aO P ap h0 nt (.loop b) s J e s' J':=by
 intro f;obtain ⟨l,n,i⟩:=h.rounds d f;exact ⟨l,fun m0 S0 w0 m S w c a k o Q j=>wp_loop_rounds n (i m0 S0 w0 m S w c a k o Q j)⟩
end
end AM
namespace AM
open Go
section
variable {P:Program} {ap:AP}
theorem Ju {h0:List az} {keep:List Nat} {s:St} {nt:Nat} {m m0:aB} {S S0:au} {w w0:World} {a:Act} (f:Fr (ax h0) m0 S0 w0 (ai s.hp) m S w) (E:FR ap s.env s.hp s.dfs nt m S w a):
  ∃ m',Fr (ax h0) m0 S0 w0 (ai (norm h0.length keep s).hp) m' S w∧FR ap (norm h0.length keep s).env (norm h0.length keep s).hp (norm h0.length keep s).dfs nt m' S w a∧∀ p B2,ai (norm h0.length keep s).hp p=some B2→∃ b B,ai s.hp b=some B∧(m' p).1=(m b).1:=by
 obtain ⟨_,t0,R⟩:=lI (ai s.hp) 20 (Ψ h0.length) List.nodup_range;generalize hroots:t0++(rE keep s.env++s.dfs.flatMap (fun d=>bg d.2))=roots;have hroots':lH (ai s.hp) 20 (Ψ h0.length)++rE keep s.env++s.dfs.flatMap (fun d=>bg d.2)=Ψ h0.length++roots:=by rw [← hroots,R];simp only [Xqi]
 obtain ⟨U,t1,I⟩:=C_ h0.length roots;obtain ⟨V,t2,M⟩:=lI (ai s.hp) 20 _ U;rw [I,Xqi] at M;have hsome:∀ b,b<h0.length→∃ B0 B,ax h0 b=some B0∧ai s.hp b=some B∧B.esz=B0.esz∧((B.ver=B0.ver∧m b=m0 b)∨B0.ver<B.ver):=by
  intro b z;obtain ⟨B,j,k⟩:=f.ge b h0[b] (by simp [ax,z]);exact ⟨h0[b],B,by simp [ax,z],j,k⟩
 generalize n:(lH (ai s.hp) 20 (fJ (Ψ h0.length++roots))).filter (fun b=>(ai s.hp b).isSome)=ids;have Q:ids.Nodup:=by rw [← n];exact V.filter _
 have F:=yF Q;have u:∃ t,ids=Ψ h0.length++t:=by
  rw [← n,I,M,List.filter_append];refine ⟨_,congrArg (· ++_) ?_⟩;rw [List.filter_eq_self];intro b z;obtain ⟨_,B,_,k,_⟩:=hsome b (by simpa using z);simp [k]
 obtain ⟨t,u⟩:=u;have y:∀ b,b<h0.length→ids[b]? =some b:=by
  intro b z;rw [u,υ (by simpa using z)];simp [z]
 have L:∀ (p b:Nat),ids[p]? =some b→∃ B,ai s.hp b=some B:=by
  intro p b hp;have:=ο hp;rw [← n,Xq7] at this;exact Option.isSome_iff_exists.1 this.2
 let ρ:Nat→Nat→Option (Nat × Nat):=fun b v=>match ai s.hp b with
  |some B=>match Δ B.ver v with
   |true=>(mQ ids b).map fun p=>(p,match Xxc p h0.length with|true=>v|false=>0)
   |false=>none
  |none=>none
 let mk:Nat→az→az:=fun p B=> {B with cells:=(match B.pr with|true=>B.cells|false=>jG ρ B.cells),ver:=match Xxc p h0.length with|true=>B.ver|false=>0}
 have hnorm:norm h0.length keep s=⟨keep.map fun t=>(t,ren ρ (s.env.get t)),ids.zipIdx.filterMap fun (b,p)=>(ai s.hp b).map fun B=>(p,mk p B),s.md,s.dfs.map fun d=>(d.1,jG ρ d.2)⟩:=by
  unfold norm;simp only [hroots',n];rfl
 rw [hnorm];dsimp only;have A:∀ p,ai (ids.zipIdx.filterMap fun (b,p)=>(ai s.hp b).map fun B=>(p,mk p B)) p=(ids[p]?).bind fun b=>(ai s.hp b).map (mk p):=by
  intro p;rw [rV (rd:=ai s.hp) (mk:=mk) ids 0 p,if_pos (Xqn _),Nat.sub_zero]
 generalize (ids.zipIdx.filterMap fun (b,p)=>(ai s.hp b).map fun B=>(p,mk p B))=hp2 at A;have c:∀ (p:Nat) (B2:az),ai hp2 p=some B2→∃ b B,ids[p]? =some b∧ai s.hp b=some B∧B2=mk p B:=by
  intro p B2 h;rw [A] at h;cases hp:ids[p]? with
  |none=>rw [hp] at h;cases h
  |some b=>
   rw [hp] at h;obtain ⟨B,K⟩:=L p b hp;simp only [Option.bind_some,K,Xqu,Option.some.injEq] at h;exact ⟨b,B,rfl,K,h.symm⟩
 let m2:aB:=fun p=>m (ids.getD p 0)
 have i:∀ (p b:Nat),ids[p]? =some b→m2 p=m b:=by
  intro p b hp;show m (ids.getD p 0)=_;rw [γ,hp];rfl
 have x:mX (ai s.hp) m (ai hp2) m2 ρ:=by
  intro b ver p ver' h B K X;simp only [ρ,K] at h;split at h
  ·rename_i G;have G:=aA G;simp only [Ξ,Prod.mk.injEq] at h;obtain ⟨q,C,rfl,rfl⟩:=h;have C:=kZ C;refine ⟨mk q B, ?_, ?_,fun _=> ⟨G,i q b C,rfl⟩⟩
   ·rw [A,C];simp [K]
   ·simp only [mk];split
    ·omega
    ·exact ζ _
  ·cases h
 have D:∀ (p q b:Nat),ids[p]? =some b→ids[q]? =some b→p=q:=by
  intro p q b hp C;have Y:=jX F hp;rw [jX F C] at Y;cases Y;rfl
 refine ⟨m2, ?_,⟨?_, ?_, ?_,E.size⟩,fun p B2 hp=>by
  obtain ⟨b,B,j,k,rfl⟩:=c p B2 hp;exact ⟨b,B,k,by rw [i p b j]⟩⟩
 ·refine ⟨?_,f.sle,f.os,f.tape,f.output,f.size,f.rest, ?_,f.sealN,fun p B2 hp=>by
   obtain ⟨b,B,j,k,rfl⟩:=c p B2 hp;rw [i p b j];exact f.mw b B k⟩
  ·intro b B0 z;have r:b<h0.length:=(List.getElem?_eq_some_iff.1 z).1;obtain ⟨B0',B,j,k,N,T⟩:=hsome b r;rw [z] at j;cases j;have W:Xxc b h0.length=true:=Nat.ble_eq_true_of_le r;refine ⟨mk b B,by rw [A,y b r];simp [k],N, ?_⟩;simp only [mk,W];rw [i b b (y b r)];exact T
  ·intro p B2 hp;obtain ⟨b,B,j,k,rfl⟩:=c p B2 hp;rw [i p b j];rcases f.img b B k with h|⟨B0,N,T⟩
   ·exact .inl h
   ·have r:b<h0.length:=(List.getElem?_eq_some_iff.1 N).1;have:=D p b b j (y b r);subst this;exact .inr ⟨B0,N,T⟩
 ·refine ⟨?_, ?_,E.srel.sealed, ?_,E.srel.glob⟩
  ·intro p q B2 B2' hp C e;obtain ⟨b,B,j,k,rfl⟩:=c p B2 hp;obtain ⟨Z,B',J,O,rfl⟩:=c q B2' C;rw [i p b j,i q Z J] at e;have:=E.srel.inj b Z B B' k O e;subst this;exact D p q b j J
  ·intro p B2 hp;obtain ⟨b,B,j,k,rfl⟩:=c p B2 hp;rw [i p b j];obtain ⟨⟨cur,e,vs,rest,k1,k2,k3,k4,k5,k6⟩,k7,k8⟩:=E.srel.blk b B k;cases l:B.pr with
   |true=>exact ⟨⟨cur,e,vs,rest,k1,k2,fun _=>by simpa [mk,l] using k3 l,by simpa [mk,l] using aV _ (k3 l),k5,k6⟩,k7,by simpa [mk,l] using k8⟩
   | false=>
    have G:=iw (gK.refl S) x _ k4;exact ⟨⟨cur,e,vs,rest,k1,k2,fun h=>by simp [mk,l] at h,by simpa [mk,l] using G,k5,k6⟩,k7,by
     have:(mk p B).cells.length=B.cells.length:=by simp only [mk,l];rw [aU k4,aU G]
     rw [this];exact k8⟩
  ·intro p B2 hp o v ho;obtain ⟨b,B,j,k,rfl⟩:=c p B2 hp;rw [i p b j] at ho;exact E.srel.own b B k o v ho
 ·intro t;simp only [dG.get,yw];by_cases ht:t ∈ keep
  ·rw [if_pos ht];exact qY (gK.refl S) x _ (E.env t)
  ·rw [if_neg ht];simp [VR]
 ·exact wo (gK.refl S) x E.dfs
def ZZ (J:WJ):Prop:=∀ n g m S w g' m',(∀ b B,g' b=some B→∃ b0 B0,g b0=some B0∧(m' b).1=(m b0).1)→J n g m S w→J n g' m' S w
theorem aO.tidy {h0:List az} {nt:Nat} {b:Code} {e:aJ} {s s1 s2:St} {J J2:WJ} (j:ZZ J) (keep:List Nat) (h:aO P ap h0 nt b s1 J e s2 J2) (l:AM.norm h0.length keep s=s1) (q:s1.md= .dead):aO P ap h0 nt b s J e s2 J2:=by
 intro hs;obtain ⟨r,n⟩:=h q;refine ⟨r,fun m0 S0 w0 m S w a c p t Q o=> ?_⟩;obtain ⟨k,f,d,i⟩:=Ju (keep:=keep) c p;rw [l] at f d i;exact n m0 S0 w0 k S w a f d (j _ _ _ _ _ _ _ i t) Q o
theorem aO.tidyE {h0:List az} {nt:Nat} {b:Code} {e:aJ} {s s1 s2:St} {J J2:WJ} (p:ZZ J2) (keep:List Nat) (h:aO P ap h0 nt b s J e s1 J2) (hp:∀ v,e ≠ .panic v) (r:AM.norm h0.length keep s1=s2) (x:s2.md= .dead):aO P ap h0 nt b s J e s2 J2:=by
 intro hs;obtain ⟨z,k⟩:=h hs;refine ⟨x,fun m0 S0 w0 m S w a d u o Q n=>k m0 S0 w0 m S w a d u o Q fun y S' w' a' l j t=> ?_⟩;obtain ⟨q,f,i,c⟩:=Ju (keep:=keep) l j;rw [r] at f i c;have:=n q S' w' a' f i (p _ _ _ _ _ _ _ c t);cases e with
 |normal=>exact this
 |exit id=>exact this
 |ret=>exact this
 |panic v=>exact absurd rfl (hp v)
end
end AM
namespace AM
open Go
open Go.ChangeMaps (setBlock)
theorem G9 {w w':World} {base:Nat} {e:TypeId} {z:Nat} {v:Value} {n:Nat} {a:List Value} (h:w.ownsRow base e z v n a) (d:∀ b,v.ownBlock=some b→w'.heap[b]? =w.heap[b]?):w'.ownsRow base e z v n a:=by
 refine ⟨h.1, ?_⟩;rcases h.2 with hn|⟨g,cap,cur,rfl,f,c,rest⟩
 ·exact .inl hn
 ·exact .inr ⟨g,cap,cur,rfl,f,(d g rfl).trans c,rest⟩
structure JU (base:Nat) (e ue:TypeId) (u:Nat) (U:List (List Nat)) (bnd:Nat) (n0:Nat) (g:bD) (m:aB) (S:au) (w:World):Prop where
 low:n0≤u
 tab:Kw w base e ue u u U bnd
 offU:xQ g m S w u
 offR:∀ (hs:Array Value) (ty:TypeId),w.heap[u]? =some (.cells hs ty (0,0))→∀ (i:Nat) (v:Value),i<U.length→hs.toList[i]? =some v→∀ b,v.ownBlock=some b→xQ g m S w b
theorem JU.stab {base:Nat} {e ue:TypeId} {u:Nat} {U:List (List Nat)} {bnd:Nat}:Pg (JU base e ue u U bnd):=by
 intro E g m S w g' r S' w' k h;obtain ⟨A,n⟩:=h.offU.keeps k;obtain ⟨⟨hs,ty,j,C,s,y,q⟩,D⟩:=h.tab;have a:∀ (i:Nat) (v:Value),i<U.length→hs[i]? =some v→∀ b,v.ownBlock=some b→xQ g' r S' w' b∧w'.heap[b]? =w.heap[b]? :=fun i v f c b d=>(h.offR hs.toArray ty j i v f (by simpa using c) b d).keeps k
 refine ⟨h.low,⟨⟨hs,ty,n.trans j,C,fun i l v o c=> ?_,y,q⟩,D⟩,A,fun z B p i v f c b d=> ?_⟩
 ·obtain ⟨t,x⟩:=s i l v o c;exact ⟨t,G9 x fun b d=>(a i v (List.getElem?_eq_some_iff.1 o).1 c b d).2⟩
 ·rw [n,j] at p;cases p;exact (a i v f (by simpa using c) b d).1
theorem xQ.sub {g g':bD} {m c:aB} {S:au} {w:World} {k:Nat} (h:xQ g m S w k) (d:∀ b B,g' b=some B→∃ a B0,g a=some B0∧(c b).1=(m a).1):xQ g' c S w k:=
 ⟨h.lt,fun b B j e=>by
  obtain ⟨a,B0,f,i⟩:=d b B j;exact h.blk a B0 f (i ▸ e),h.clr⟩
theorem JU.sub {base:Nat} {e ue:TypeId} {u:Nat} {U:List (List Nat)} {bnd:Nat}:ZZ (JU base e ue u U bnd):=fun l g m S w g' k c h=>
 ⟨h.low,h.tab,h.offU.sub c,fun hs ty j i v d f b a=>(h.offR hs ty j i v d f b a).sub c⟩
theorem JU.store {base:Nat} {e ue:TypeId} {u:Nat} {U:List (List Nat)} {bnd:Nat} {g:bD} {m:aB} {S:au} {w:World} {ap:AP} {G:Nat} (h:JU base e ue u U bnd G g m S w) (M:aZ ap g m S w) {n:Nat} {l:List Nat} (F:U[n]? =some l):
  ∃ (hs:List Value) (ty:TypeId) (v0:Value),w.heap[u]? =some (.cells hs.toArray ty (0,0))∧hs[n]? =some v0∧w.ownsRow base e 1 v0 l.length (iL l)∧l.length≤bnd∧v0.ownBlock ≠ some u∧(∀ b,v0.ownBlock=some b→xQ g m S w b)∧
   ∀ (a:World) (d:Value) (k:Nat),w.grownBy a v0.ownBlock→a.ownsRow base e 1 d (l.length+1) (iL (l++ [k]))→(d.ownBlock=v0.ownBlock∨∃ b,d.ownBlock=some b∧w.heap.size≤b)→
    a.heap[u]? =some (.cells hs.toArray ty (0,0))∧JU base e ue u (U.set n (l++ [k])) (bnd+1) G g m S (setBlock a u (.cells (hs.set n d).toArray ty (0,0))):=by
 obtain ⟨hs,ty,v0,s,t,L,K,V,J,N⟩:=h.tab.store h.offU.lt F;have r:n<U.length:=(List.getElem?_eq_some_iff.1 F).1;refine ⟨hs,ty,v0,s,t,L,K,J,fun b o=>h.offR hs.toArray ty s n v0 r (by simpa using t) b o,fun a d k C p I=> ?_⟩;obtain ⟨B,Q⟩:=N a d k C p I;have q:u<a.heap.size:=(Array.getElem?_eq_some_iff.1 B).1;have x:w.heap.size≤a.heap.size:=C.size;have f:(setBlock a u (.cells (hs.set n d).toArray ty (0,0))).heap.size=a.heap.size:=by simp [setBlock]
 have A:∀ b,xQ g m S w b→xQ g m S (setBlock a u (.cells (hs.set n d).toArray ty (0,0))) b:=fun b p=> ⟨by rw [f];exact Xqy p.lt x,p.blk,p.clr⟩
 refine ⟨B,⟨h.low,Q,A u h.offU,fun O R E i v D j b o=> ?_⟩⟩;rw [AC _ q] at E;cases E;rw [Xzh] at D;have j:(hs.set n d)[i]? =some v:=by simpa using j
 rw [Xxd] at j;by_cases hin:n=i
 ·subst hin;have z:n<hs.length:=(List.getElem?_eq_some_iff.1 t).1;rw [if_pos rfl,if_pos z] at j;cases j;rcases I with c|⟨T,c,y⟩
  ·exact A b (h.offR hs.toArray ty s n v0 r (by simpa using t) b (c ▸ o))
  ·rw [c] at o;cases o;refine xQ.new M y ?_;rw [f];exact (p.lt b c).2
 ·rw [if_neg hin] at j;exact A b (h.offR hs.toArray ty s i v D (by simpa using j) b o)
end AM
namespace AM
open Go
open Go.ChangeMaps (setBlock)
def WT:WJ:=fun _ _ _ _ _=>True
def DC (l:List Nat):AV:= .sl (l.map fun k=> .int .i64 ((k:Nat):Int)) l.length false
theorem QJ {S:au}:∀ l:List Nat,a_ S (l.map fun k=> .int .i64 ((k:Nat):Int)) (iL l)
 | []=>by simp [iL,a_]
 |k::l=>by
  have:=QJ (S:=S) l;simp only [iL,Γ,a_,PR] at this ⊢;exact ⟨rfl,this⟩
theorem aaG (l:List Nat):∀ u ∈ iL l,u.oneCell'=true:=by
 intro u a;obtain ⟨k,_,rfl⟩:=List.mem_map.1 a;rfl
theorem Iw {g:bD} {m:aB} {S:au} {n:Nat} {us:List Value} (h:aS g m S (Xqh n .nilS) us):us=Xqh n (.slice none 0 0):=by
 induction n generalizing us with
 |zero=>cases us with|nil=>rfl|cons _ _=>simp [aS] at h
 | succ n ih=>
  cases us with
  |nil=>simp [Xxm,aS] at h
  |cons v us=>
   rw [Xxm] at h;simp only [aS,VR,PR] at h;rw [h.1,ih h.2,Xxm]
section
variable {P:Program} {ap:AP} {h0:List az} {nt:Nat}
theorem ag.ofW {b:Code} {s s':St} {e:aJ} (h:aO P ap h0 nt b s WT e s' WT):ag P ap h0 nt b s e s':=by
 intro d;obtain ⟨o,j⟩:=h d;exact ⟨o,fun m0 S0 w0 m S w a c n Q l=>j m0 S0 w0 m S w a c n trivial Q fun i S' w' a' k f _=>l i S' w' a' k f⟩
theorem ag.toW {b:Code} {s s':St} {e:aJ} (h:ag P ap h0 nt b s e s'):aO P ap h0 nt b s WT e s' WT:=by
 intro d;obtain ⟨o,j⟩:=h d;exact ⟨o,fun m0 S0 w0 m S w a c n _ Q l=>j m0 S0 w0 m S w a c n Q fun i S' w' a' k f=>l i S' w' a' k f trivial⟩
theorem lh {α:Type} {k x:Nat} {B C:α} {r:List (Nat × α)} (h:ai ((k,B)::r) x=some C):(x=k∧C=B)∨(x ≠ k∧ai r x=some C):=by
 by_cases e:k=x
 ·subst e;simp [ai] at h;exact .inl ⟨rfl,h.symm⟩
 ·simp [ai,iD e] at h;exact .inr ⟨fun a=>e a.symm,h⟩
theorem FR.dropP {env env':dG} {hp hp':Hp} {m:aB} {S:au} {w:World} {a:Act} (h:FR ap env hp [] nt m S w a) (c:∀ x B,ai hp' x=some B→ai hp x=some B) (i:∀ x B,ai hp' x=some B→B.pr=false→∀ y ∈ bg B.cells,ai hp' y=ai hp y) (d:∀ t,env'.get t= .dead∨(env'.get t=env.get t∧∀ y ∈ bZ (env'.get t),ai hp' y=ai hp y)):FR ap env' hp' [] nt m S w a:=by
 refine ⟨⟨fun b s B B' j k e=>h.srel.inj b s B B' (c _ _ j) (c _ _ k) e,fun b B f=> ?_,h.srel.sealed,fun b B f=>h.srel.own b B (c _ _ f),h.srel.glob⟩,fun t=> ?_, ?_,h.size⟩
 ·obtain ⟨⟨cur,e,vs,rest,j,k,n,u,v⟩,p,q⟩:=h.srel.blk b B (c _ _ f);refine ⟨⟨cur,e,vs,rest,j,k,n, ?_,v⟩,p,q⟩;cases hp:B.pr with
  |true=>exact aV _ (n hp)
  |false=>exact jd (gK.refl S) _ (fun y l=> ⟨i b B f hp y l,rfl⟩) u
 ·rcases d t with e|⟨e,o⟩
  ·rw [e];simp [VR]
  ·rw [e] at o ⊢;exact lF (gK.refl S) _ (fun y l=> ⟨o y l,rfl⟩) (h.env t)
 ·have:=h.dfs;cases z:a.defers with
  |nil=>simp [dR]
  |cons x r=>rw [z] at this;simp [dR] at this
theorem aO.rows {j:Code} {s s':St} {e':aJ} {e ue:TypeId} {env2:Value→dG} {hp0:Hp} (b t ver N:Nat)
  (hB:ai s.hp b=some ⟨Xqh N .nilS,ver,false,0,1,false⟩) (ht:s.env.get t= .ref b ver 0 N) (hd:s.dfs= [])
  (hsub:∀ x C,ai hp0 x=some C→ai s.hp x=some C∧x ≠ b) (hcl:∀ x C,ai hp0 x=some C→C.pr=false→∀ y ∈ bg C.cells,ai hp0 y=ai s.hp y)
  (Vr:∀ v,(env2 v).get t= .raw v) (henv:∀ v q,q ≠ t→(env2 v).get q= .dead∨((env2 v).get q=s.env.get q∧∀ y ∈ bZ ((env2 v).get q),ai hp0 y=ai s.hp y))
  (hb0:∀ x B0,ax h0 x=some B0→ai hp0 x=ai s.hp x) (hbn:ax h0 b=none)
  (hN:0<N) (h:∀ u c,N≤c→aO P ap h0 nt j ⟨env2 (.slice (some ⟨u,0,none⟩) N c),hp0,s.md,[]⟩ (JU (u+1) e ue u (Xqh N []) 0) e' s' WT):aO P ap h0 nt j s WT e' s' WT:=by
 intro G;refine ⟨((h 0 N (ζ _)) G).1,fun m0 S0 w0 m S w a L f _ Q hQ=> ?_⟩;have R:=f.env t;rw [ht] at R;simp only [VR] at R;obtain ⟨B,D,_,_,R⟩:=R;rw [hB] at D;cases D;obtain ⟨o,z,hv2,hv3,_,_⟩:=R rfl;have Z:=f.srel.blk b _ hB;obtain ⟨⟨cur,ty,vs,rest,k1,k2,k3,k4,k5,k6⟩,k7,k8⟩:=Z;have W:∀ C:List AV,(⟨C,ver,false,0,1,false⟩:az).esz ≠ dJ:=fun _=>(by decide:(1:Nat) ≠ dJ)
 have d:=k1.cells (W _);have V:=Iw k4;have ho:o=0:=by
  have:=hv3 (by omega);simpa using this
 subst ho;have U:(m b).2 - 0=(m b).2:=by omega
 rw [U] at z;have Y:=f.srel.lt hB;have hbl:w0.heap.size≤(m b).1:=by
  rcases L.img b _ hB with l|⟨B0,l,_⟩
  ·exact l
  ·rw [hbn] at l;cases l
 have p:∀ o,S (m b).1 o=none:=fun o=>by
  cases hs:S (m b).1 o with
  |none=>rfl
  |some v=>
   have:=(f.srel.own b _ hB o v hs).1;cases this
 have J:FR ap s.env s.hp [] nt m S w a:=hd ▸ f;have A:=L.drop (hp':=hp0) (fun x C k=>(hsub x C k).1) fun x B0 C k hC=>by rw [hb0 x B0 k];exact hC
 have K:aZ ap (ai hp0) m S w:=(J.dropP (env':= []) (hp':=hp0) (fun x C k=>(hsub x C k).1) hcl fun q=> .inl rfl).srel;have M:a.tmps.getD t undef= .slice (some ⟨(m b).1,0,none⟩) N (m b).2:=z;have O:xQ (ai hp0) m S w (m b).1:=⟨Y,fun x C k E=>by
  obtain ⟨l,T⟩:=hsub x C k;exact T (f.srel.inj x b C _ l hB E),p⟩
 have X:FR ap (env2 (.slice (some ⟨(m b).1,0,none⟩) N (m b).2)) hp0 [] nt m S w a:=by
  refine ⟨K,fun q=> ?_, ?_,f.size⟩
  ·by_cases n:q=t
   ·subst n;rw [Vr];simp only [VR,PR];exact M
   ·rcases henv (.slice (some ⟨(m b).1,0,none⟩) N (m b).2) q n with E|⟨E,hr⟩
    ·rw [E];simp [VR]
    ·rw [E] at hr ⊢;exact lF (gK.refl S) _ (fun y hy=> ⟨hr y hy,rfl⟩) (f.env q)
  ·have:=J.dfs;cases hdd:a.defers with
   |nil=>simp [dR]
   |cons x r=>rw [hdd] at this;simp [dR] at this
 have I:cur=(Xqh N (Value.slice none 0 0)++rest).toArray:=by rw [← V,← k2]
 rw [I] at d;have hJ:JU ((m b).1+1) e ue (m b).1 (Xqh N []) 0 w0.heap.size (ai hp0) m S w:=by
  refine ⟨hbl,Kw.new d (Xj8 _),O,fun hs ty' hh i v hi F q n=> ?_⟩;rw [d] at hh;cases hh;rw [List.length_replicate] at hi;rw [Xx8,υ (by simpa using hi)] at F;have T:=ο F;rw [Xzm] at T;rw [T.2] at n;cases n
 exact (h (m b).1 (m b).2 (by omega) G).2 m0 S0 w0 m S w a A X hJ Q hQ
theorem aO.rowsEnd {C:Code} {s s2 s':St} {e':aJ} {e ue:TypeId} {u c N bnd:Nat} {U:List (List Nat)} (t:Nat)
  (ht:s.env.get t= .raw (.slice (some ⟨u,0,none⟩) N c)) (hd:s.dfs= []) (hN:N=U.length) (hc:N≤c) (hhp:s2.hp=s.hp) (hmd2:s2.md=s.md) (hd2:s2.dfs= [])
  (Vr:s2.env.get t= .sl (U.map DC) N false) (henv:∀ q,q ≠ t→s2.env.get q= .dead∨s2.env.get q=s.env.get q)
  (h:aO P ap h0 nt C s2 WT e' s' WT):aO P ap h0 nt C s (JU (u+1) e ue u U bnd) e' s' WT:=by
 intro hmd;obtain ⟨R,T⟩:=h (hmd2.trans hmd);refine ⟨R,fun m0 S0 w0 m S w a hfr hF hj Q hQ=> ?_⟩;have hFd:FR ap s.env s.hp [] nt m S w a:=hd ▸ hF;obtain ⟨M,⟨⟨hs,ty,X,q2,q3,q4,q5⟩,_⟩,hoffU,hoffR⟩:=hj;have rows:∀ n,n≤U.length→∃ S',gK S S'∧(∀ k o,k<u+1→S' k o=S k o)∧Fr (ax h0) m0 S0 w0 (ai s.hp) m S' w∧FR ap s.env s.hp [] nt m S' w a∧
   (∀ (i:Nat) (l:List Nat) (v:Value),i<n→U[i]? =some l→hs[i]? =some v→PR S' (DC l) v∧v.oneCell'=true)∧
   (∀ (i:Nat) (v:Value),n≤i→i<U.length→hs[i]? =some v→∀ k,v.ownBlock=some k→∀ o,S' k o=none):=by
  intro n
  induction n with
  |zero=>
   intro _;refine ⟨S,gK.refl S,fun _ _ _=>rfl,hfr,hFd,fun i l v h=>absurd h (by omega),fun i v _ A p k B o=> ?_⟩;exact (hoffR hs.toArray ty X i v A (by simpa using p) k B).clr o
  | succ n ih=>
   intro hn;obtain ⟨S1,h1,h2,R,T,h5,J⟩:=ih (by omega);have z:U[n]? =some U[n]:=δ (by omega);have d:hs[n]? =some (hs[n]'(by omega)):=δ (by omega);generalize hs[n]'(by omega)=v at d;generalize U[n]=l at z;obtain ⟨_,I⟩:=q3 n l v z d;rcases I.2 with ⟨p,hz⟩|⟨g,cap,cur,p,hg1,Z,hg3,hg4,hg5,hg6⟩
   ·have O:l= []:=Xq0 hz;refine ⟨S1,h1,h2,R,T,fun i l' r A f b=> ?_,fun i r A=>J i r (by omega)⟩;by_cases hin:i=n
    ·subst hin;rw [z] at f;cases f;rw [d] at b;cases b;rw [O,p];refine ⟨?_,rfl⟩;simp only [DC,PR];exact ⟨none,0,rfl,ζ _,.inl ⟨fun _=>by simp,rfl,by simp,rfl⟩⟩
    ·exact h5 i l' r (by omega) f b
   ·have F:v.ownBlock=some g:=by rw [p];rfl
    have D:=hoffR hs.toArray ty X n v (by omega) (by simpa using d) g F;have hog:xQ (ai s.hp) m S1 w g:=⟨D.lt,D.blk,J n v (ζ _) (by omega) d g F⟩
    have hul:(iL l).length=l.length*1:=by simp [iL]
    obtain ⟨V,I,G,W⟩:=DT R T hog (by omega) Z (us:=iL l) (by rw [hul];exact hg6) (aaG _);refine ⟨_,h1.trans V,fun k o B=>by rw [← h2 k o B];unfold jJ;rw [if_neg (by omega)],I,G,fun i l' r A f b=> ?_,fun i r A Ih b k B o=> ?_⟩
    ·by_cases hin:i=n
     ·subst hin;rw [z] at f;cases f;rw [d] at b;cases b;rw [p];refine ⟨?_,rfl⟩;simp only [DC,PR];exact ⟨_,cap,rfl,hg3,.inr ⟨g,0,iL l,rfl,QJ _,W⟩⟩
     ·have:=h5 i l' r (by omega) f b;exact ⟨bn V _ this.1,this.2⟩
    ·have hkg:k ≠ g:=by
      rcases q4 i n r v Ih (by omega) b d (by omega) with e1|e1
      ·rw [e1] at B;cases B
      ·intro e2;subst e2;rw [B,F] at e1;exact e1 rfl
     unfold jJ;rw [if_neg hkg];exact J i r (by omega) Ih b k B o
 obtain ⟨S',h5,J,h7,h8,h9,_⟩:=rows U.length (ζ _);have hoff':xQ (ai s.hp) m S' w u:=⟨hoffU.lt,hoffU.blk,fun o=>by rw [J u o (Xj8 _)];exact hoffU.clr o⟩
 have K:(hs.take U.length).length=U.length:=by rw [Xqm];omega
 obtain ⟨V,I,G,W⟩:=DT h7 h8 hoff' M X (us:=hs.take U.length) (by rw [K]) fun v p=>by
  obtain ⟨i,A⟩:=Xq1 p;have j:i<U.length:=by have:=(List.getElem?_eq_some_iff.1 A).1;omega
  rw [Xxi j] at A;exact (h9 i U[i] v j (δ j) A).2
 have hp:a_ (jJ S' u (hs.take U.length)) (U.map DC) (hs.take U.length):=by
  have key:∀ (l:List (List Nat)) (q:List Value),l.length=q.length→(∀ (i:Nat) (x:List Nat) (v:Value),l[i]? =some x→q[i]? =some v→PR S' (DC x) v)→a_ (jJ S' u (hs.take U.length)) (l.map DC) q:=by
   intro l
   induction l with
   |nil=>intro q E _;cases q with|nil=>simp [a_]|cons _ _=>simp at E
   | cons x l ih=>
    intro q E hr;cases q with
    |nil=>simp at E
    |cons v q=>
     simp only [Γ,a_];exact ⟨bn V _ (hr 0 x v rfl rfl),ih q (by simpa using E) fun i y r h h'=>hr (i+1) y r (by simpa using h) (by simpa using h')⟩
  exact key U _ K.symm fun i x v O p=>by
   have j:=(List.getElem?_eq_some_iff.1 O).1;rw [Xxi j] at p;exact (h9 i x v j O p).1
 have L:a.tmps.getD t undef= .slice (some ⟨u,0,none⟩) N c:=by
  have:=hF.env t;rw [ht] at this;simpa only [VR,PR] using this
 have Y:FR ap s2.env s2.hp s2.dfs nt m (jJ S' u (hs.take U.length)) w a:=by
  rw [hhp,hd2];refine ⟨G.srel,fun q=> ?_,G.dfs,G.size⟩;by_cases E:q=t
  ·subst E;rw [Vr,L];simp only [VR,PR];exact ⟨_,c,rfl,hc,.inr ⟨u,0,_,rfl,hp,W⟩⟩
  ·rcases henv q E with e1|e1
   ·rw [e1];simp [VR]
   ·rw [e1];exact G.env q
 exact T m0 S0 w0 m _ w a (hhp ▸ I) Y trivial Q hQ
end
end AM
namespace AM
open Go
section
variable {P:Program} {ap:AP}
def AA (ap:AP) (H:bi) (ops:List Oper) (draw:Bool) (s:St) (c:Cx):R St:=
 (mf ap H ops ops (dV s.hp) {env:=s.env,hp:=s.hp,md:=s.md,dfs:=s.dfs,dec:= [],feet:= []} c).bind fun (s',p) c=>
 match p with
 |some _=> .bad 40
 |none=>match !draw||(oO (dV s.hp) (Region.before ops.toArray).toList s'.feet && ny ops && Δ s'.dfs.length s.dfs.length) with
  |true=> .ok ⟨s'.env,s'.hp,s'.md,s'.dfs⟩ c
  |false=> .bad 41
theorem Eo {H:bi} (y:di P ap) (x:P.follows .mixedOrders=true) (N:gp P ap H) {ops:List Oper} {f:Bool} {nt:Nat} (C:∀ o ∈ ops,∀ d,o.dst=some d→d<nt) {s:St} {s':St} {c c':Cx} {id:Nat}
  (h:AA ap H ops f s c= .ok s' c') (hc:c'.Ok):c.Ok∧(s.md= .dead→s'.md= .dead∧(∀ m S w a,FR ap s.env s.hp s.dfs nt m S w a→∀ Q,
   qU ap s.hp m S w nt s'.env s'.hp s'.dfs Q none→(Code.region id ops.toArray f).wp P Q a w)):=by
 unfold AA at h;obtain ⟨⟨s1,p⟩,U,K,h⟩:=R.bind_ok h;dsimp only at h;have u:∀ b B,ai s.hp b=some B→b<dV s.hp:=fun b B q=>jR q
 cases p with
 |some v=>cases h
 | none=>
  dsimp only at h;split at h
  ·rename_i hcond;cases h;cases f with
   |false=>
    obtain ⟨l,hs⟩:=ji y N C ops 0 _ _ _ _ _ _ K hc;refine ⟨l,fun r=> ?_⟩;obtain ⟨z,I⟩:=hs r (fun t b q=>by cases q) rfl u;refine ⟨z,fun m S w a i Q E=>wp_region ?_⟩;have:=I m S w a i Q E;rw [← List.range_eq_range'] at this;simpa using this
   | true=>
    obtain ⟨l,hs⟩:=OM y N ops 0 _ _ _ _ _ K hc;refine ⟨l,fun r=> ?_⟩;obtain ⟨z,recs,A,e⟩:=hs r (fun t b q=>by cases q) rfl;refine ⟨z,fun m S w a i Q E=>wp_region_any x ?_⟩;simp only [Bool.not_true,Bool.false_or,ε] at hcond;obtain ⟨⟨M,hback⟩,j⟩:=hcond;have j:=aA j;rw [e.feet,μ] at M;have D:=(e.sem j).1;have n:mF (Array.replicate ops.length false)=fun _=>false:=by
     funext k;simp only [mF,Array.getD_eq_getD_getElem?];by_cases J:k<ops.length<;>simp [J]
    have G:ops.toArray.size=ops.length:=by simp
    rw [G];refine IK C A e j (vK M) hback u (m0:=m) (S0:=S) (w0:=w) (Q:=Q) ?_ ops.length _ m S _ a ⟨by simp, ?_, ?_, ?_⟩ ?_
    ·intro O S' w' a' F T;refine E O S' w' a' ?_ ?_
     ·rw [e.hp];exact F
     ·rw [e.hp,e.env,D];exact T
    ·intro k o J L;rw [n] at L;cases L
    ·rw [n,jr recs 0 _ (fun _ _=>rfl)];exact ⟨Ge.refl _ _,gK.refl _,rfl,rfl,rfl,ζ _,fun _ _ _=>rfl,fun _ B h=> .inr ⟨B,h,rfl⟩,fun _ _ _ h=> .inl h,(MW.refl _).mb _ _⟩
    ·rw [n,jr recs 0 _ (fun _ _=>rfl),oD recs 0 _ (fun _ _=>rfl)];exact ⟨⟨i.srel.inj,fun b B q=>i.srel.blk b B q|>fun ⟨z,I,F⟩=> ⟨z,I,F⟩,i.srel.sealed,i.srel.own,i.srel.glob⟩,i.env,i.dfs,i.size⟩
    ·exact Xqg (Xqp _ _) (by simp)
  ·cases h
def Om (env:dG):R St→R St
 | .ok s c=> .ok ⟨env.map fun q=>(q.1,s.env.get q.1),s.hp,s.md,s.dfs⟩ c
 |r=>r
def TK (P:Program) (ap:AP) (nt0:Nat) (ops:List Oper) (draw:Bool) (s:St) (orc:List Bool) (ans:List (gV × List az)) (hs:List mJ) (env:dG):R St:=
 match ops.all (qE nt0) with
 |true=>Om env (AA ap (uq P ap 3000 4) ops draw s ⟨false,orc,[],[],ans,hs⟩)
 |false=> .bad 0
theorem pu (g:uy P ap) (n k:Nat) {nt nt0 id:Nat} {ans:List (gV × List az)} {hs:List mJ} {bs:List Bool} {ps:List Prop} {ops:List Oper} {b:Bool} {s s':St} {h0:List az}
  (hb:jE bs) (hp:PS P ap ps ans [] hs) (hn:nt0≤nt) (he:TK P ap nt0 ops b s (qB n k) ans hs s'.env= .ok s' ⟨false,[],bs,ps,[],[]⟩):ag P ap h0 nt (.region id ops.toArray b) s .normal s':=by
 unfold TK at he;split at he
 ·rename_i B;generalize z:AA ap (uq P ap 3000 4) ops b s ⟨false,qB n k,[],[],ans,hs⟩=r at he;cases r with
  | ok s1 c=>
   simp only [Om,R.ok.injEq] at he;obtain ⟨i,rfl⟩:=he;obtain ⟨x,D⟩:=gy g.apok g.mixed g.fnok 3000 4;have j:∀ o ∈ ops,∀ d,o.dst=some d→d<nt:=by
    intro o C d h;have:=List.all_eq_true.1 B o C;simp only [qE,h] at this;exact Xqy (dW this) hn
   obtain ⟨_,e⟩:=Eo g.apok g.mixed x j (id:=id) z ⟨hb.mem,hp.all.mem⟩;have e:ag P ap h0 nt (.region id ops.toArray b) s .normal s1:=by
    intro l;obtain ⟨y,t⟩:=e l;refine ⟨y,fun m0 S0 w0 m S w a f A Q v=>t m S w a A Q ?_⟩;intro q S' w' a' u p;exact v q S' w' a' (f.trans u) p
   refine e.weak (aH.refl _) ?_;rw [← i];exact ⟨Rw _ _,rfl,rfl,rfl⟩
  |need=>simp [Om] at he
  |bad n=>simp [Om] at he
 ·cases he
end
end AM
namespace AM
open Go
section
variable {P:Program} {ap:AP} {H:bi}
def nY (r:jc):jc:={r with rb:= []}
theorem BN {D:Nat→Bool}:∀ (rs:List jc) (i j:Nat) (e:dG) (r:jc),rs[i]? =some r→kG D j e (rs.set i (nY r))=kG D j e rs
 | [],i,j,e,r,h=>by simp at h
 |x::rs,0,j,e,r,h=>by
  have h:x=r:=by simpa using h
  subst h;rfl
 |x::rs,i+1,j,e,r,h=>by
  simp only [Xzg,kG];exact BN rs i (j+1) _ r (by simpa using h)
theorem Gy {D:Nat→Bool}:∀ (rs:List jc) (i j:Nat) (e:Hp) (r:jc),rs[i]? =some r→mP D j e (rs.set i (nY r))=mP D j e rs
 | [],i,j,e,r,h=>by simp at h
 |x::rs,0,j,e,r,h=>by
  have h:x=r:=by simpa using h
  subst h;rfl
 |x::rs,i+1,j,e,r,h=>by
  simp only [Xzg,mP];exact Gy rs i (j+1) _ r (by simpa using h)
theorem FD (a:List jc) (i k:Nat) (r:jc) (h:a[i]? =some r):(a.set i (nY r)).take k=a.take k∨((a.take k)[i]? =some r∧(a.set i (nY r)).take k=(a.take k).set i (nY r)):=by
 by_cases hk:i<k
 ·right;refine ⟨by rw [Xxh,if_pos hk];exact h, ?_⟩;rw [Xkn]
 ·left;rw [Xkn,List.set_eq_of_length_le];rw [Xqm];omega
theorem EO (a:List jc) (i k:Nat) (e:dG) (r:jc) (h:a[i]? =some r):mO e ((a.set i (nY r)).take k)=mO e (a.take k):=by
 rcases FD a i k r h with b|⟨b,c⟩
 ·rw [b]
 ·rw [c];exact BN _ _ _ _ _ b
theorem Sj (a:List jc) (i k:Nat) (e:Hp) (r:jc) (h:a[i]? =some r):Ce e ((a.set i (nY r)).take k)=Ce e (a.take k):=by
 rcases FD a i k r h with b|⟨b,c⟩
 ·rw [b]
 ·rw [c];exact Gy _ _ _ _ _ b
def FK:Hp→Nat→List az
 | [],_=> []
 |(b,B)::r,t=>match Δ b t with|true=>B::FK r t|false=>FK r t
theorem FM {b:Nat} {B:az}:∀ {hp:Hp},(b,B) ∈ hp→B ∈ FK hp b
 | (c,C)::r,h=>by
  simp only [FK];rcases List.mem_cons.1 h with h|h
  ·cases h;rw [Xxj];exact List.mem_cons_self
  ·have a:=FM h;split
   ·exact List.mem_cons_of_mem _ a
   ·exact a
theorem NG {D D':Nat→Bool} (c:∀ j,D j=true→D' j=true):∀ (rs:List jc) (j:Nat) (h h':Hp),(∀ x ∈ h,x ∈ h')→∀ x ∈ mP D j h rs,x ∈ mP D' j h' rs
 | [],_,_,_,hs=>hs
 | r::rs,j,h,h',hs=>by
  simp only [mP];refine NG c rs (j+1) _ _ ?_;intro x a;cases b:D j with
  |true=>
   rw [b] at a;rw [c j b];rcases List.mem_append.1 a with a|a
   ·exact List.mem_append.2 (.inl a)
   ·exact List.mem_append.2 (.inr (hs x a))
  |false=>
   rw [b] at a;cases D' j with
   |true=>exact List.mem_append.2 (.inr (hs x a))
   |false=>exact hs x a
def tZ (D:Nat→Bool):List uU→Hp→Hp
 | [],hp=>hp
 |F::r,hp=>match D r.length with
  |true=>hp.take F.wb.length++tZ D r (hp.drop F.wb.length)
  |false=>tZ D r (hp.drop F.wb.length)
theorem Cc {D:Nat→Bool}:∀ (rs:List jc) (j:Nat) (h:Hp) (r:jc),mP D j h (rs++ [r])=match D (j+rs.length) with|true=>r.ups++mP D j h rs|false=>mP D j h rs
 | [],j,h,r=>by
  simp only [Xqj,mP,List.length_nil,Xxf];cases D j<;>rfl
 |x::rs,j,h,r=>by
  simp only [Xqz,mP];rw [Cc rs (j+1) _ r];rw [show j+1+rs.length=j+(x::rs).length by simp;omega]
theorem DW {D:Nat→Bool} (h:Hp):∀ (l:List jc),tZ D (l.map jc.foot) (Ce h l.reverse)=mP D 0 h l.reverse
 | []=>rfl
 | r::l=>by
  have e:Ce h (r::l).reverse=r.ups++Ce h l.reverse:=by
   unfold Ce;rw [Xwa,Cc]
  have a:(jc.foot r).wb.length=r.ups.length:=by simp [jc.foot]
  rw [e,Xwa,Cc];simp only [Γ,tZ,a,List.length_map,List.take_left,List.drop_left,List.length_reverse,Φ];rw [DW h l]
theorem Jb {D:Nat→Bool} {b:Nat}:∀ (rs:List jc) (j:Nat) (h:Hp),(∃ B,ai h b=some B)→∃ B,ai (mP D j h rs) b=some B
 | [],_,_,hs=>hs
 | r ::rs,j,h,hs=>by
  simp only [mP];refine Jb rs (j+1) _ ?_;cases D j with
  |false=>exact hs
  | true=>
   by_cases hm:b ∈ r.ups.map (·.1)
   ·obtain ⟨B,a⟩:=rU hm;exact ⟨B,by
     rw [fF,a]⟩
   ·rw [pO hm];exact hs
inductive Be (P:Program) (ap:AP) (H:bi) (n:Nat) (ops:List Oper) (o:Oper) (b d:Nat) (rt:List Nat) (env:dG) (v:AV):List az→Prop where
 |nil:Be P ap H n ops o b d rt env v []
 | cons {B:az} {r:List az} {c2 c3:Cx} {t:RS}:J6 ap H n ops o {env,hp:= [(b,B)],md:= .dead,dfs:= [],dec:= [],feet:= []} c2= .ok (t,none) c3→c3.Ok→t.feet= [{rt:=rt,wt:= [d],rb:= [b],wb:= []}]→t.dfs= []→t.env.get d=v→
   Be P ap H n ops o b d rt env v r→Be P ap H n ops o b d rt env v (B::r)
theorem Be.sem (p:di P ap) (A:gp P ap H) {n:Nat} {ops:List Oper} {o:Oper} {b d:Nat} {rt:List Nat} {env:dG} {v:AV} {l:List az} (y:o.dst=some d) (h:Be P ap H n ops o b d rt env v l):∀ B ∈ l,FW P ap ops.toArray o n env [(b,B)] rt [b] v [] [] none:=by
 induction h with
 |nil=>intro B s;simp at s
 | @cons B r c2 c3 t he hc hft hdf0 hvd _ ih=>
  intro B' a;rcases List.mem_cons.1 a with rfl|a
  ·obtain ⟨_,hs⟩:=qj p A he hc;obtain ⟨z,rb,ups,x,hs⟩:=hs rfl (fun t b q=>by cases q);have j:=hs.feet rfl;rw [hft] at j;simp only [List.cons.injEq,uU.mk.injEq,and_true] at j;obtain ⟨i,_,f,e⟩:=j;have c:ups= []:=by
    cases ups with
    |nil=>rfl
    |cons _ _=>simp at e
   have k:x= []:=by
    have:=hs.dfs;rw [hdf0] at this;simpa using this.symm
   have u:z=v:=by
    have:=hs.env rfl;rw [this,y,gZ] at hvd;exact hvd
   have:=hs.sem;rw [← i,← f,c,k,u] at this;exact this
  ·exact ih B' a
theorem PG (Z:di P ap) (Y:P.follows .mixedOrders=true) (hH:gp P ap H) {ops:List Oper} {nt:Nat} {h0:List az} (keep:List Nat) {id:Nat} (hnt:∀ o ∈ ops,∀ d,o.dst=some d→d<nt) {s:St} {s1:RS} {c c':Cx} (i b d:Nat) (o:Oper) (rt:List Nat) (v:AV) (L:List az)
  (e1:mf ap H ops ops (dV s.hp) {env:=s.env,hp:=s.hp,md:=s.md,dfs:=s.dfs,dec:= [],feet:= []} c= .ok (s1,none) c') (hc:c'.Ok)
  (hoi:ops[i]? =some o) (hod:o.dst=some d) (hft:s1.feet.reverse[i]? =some {rt:=rt,wt:= [d],rb:= [b],wb:= []})
  (hord:oO (dV s.hp) (Region.before ops.toArray).toList (s1.feet.reverse.set i {rt:=rt,wt:= [d],rb:= [],wb:= []}).reverse=true) (hback:ny ops=true) (hdl:s1.dfs.length=s.dfs.length)
  (hlate:∀ k A,i<k→ops[k]? =some A→∀ x,A.dst=some x→x ≠ d∧x ∉ rt) (hdr:d ∉ rt)
  (hv:s1.env.get d=v) (W:∃ B,ai s.hp b=some B) (hL:FK (tZ (fun k=> !(((Region.before ops.toArray).toList.getD k 0).testBit i)) s1.feet s1.hp) b=L) (hst:Be P ap H (dV s.hp+4*i) ops o b d rt s1.env v L):
  ag P ap h0 nt (.region id ops.toArray true) s .normal (norm h0.length keep ⟨s1.env,s1.hp,s1.md,s1.dfs⟩):=by
 intro hmd;have hn0:∀ b B,ai s.hp b=some B→b<dV s.hp:=fun b B W=>jR W
 obtain ⟨_,hs⟩:=OM Z hH ops 0 _ _ _ _ _ e1 hc;obtain ⟨h1,recs,O,e⟩:=hs hmd (fun t b W=>by cases W) rfl;refine ⟨h1,fun m0 S0 w0 m S w a hfr M Q hQ=>wp_region_any Y ?_⟩;have C:s1.dfs.length=s.dfs.length:=hdl;have hdf:=(e.sem C).1;have hil:i<recs.length:=by rw [O];exact (List.getElem?_eq_some_iff.1 hoi).1
 have n:recs[i]? =some recs[i]:=δ hil;have hfeet:s1.feet.reverse=recs.map jc.foot:=by rw [e.feet,μ,Xj5]
 rw [hfeet] at hft hord;rw [φ,n,Xqu,Option.some.injEq] at hft;generalize recs[i]=r at n hft;have I:=hft;simp only [jc.foot,uU.mk.injEq] at I;obtain ⟨hrt,hwt,hrb,p⟩:=I;have p:r.ups= []:=by
  cases hu:r.ups with
  |nil=>rfl
  |cons _ _=>rw [hu] at p;simp at p
 have hset:(recs.map jc.foot).set i {rt:=rt,wt:= [d],rb:= [],wb:= []}=(recs.set i (nY r)).map jc.foot:=by
  rw [List.map_set];congr 1;simp only [jc.foot,nY,uU.mk.injEq];exact ⟨hrt.symm,hwt.symm,trivial,by rw [p];rfl⟩
 rw [hset] at hord;have V:mF (Array.replicate ops.length false)=fun _=>false:=by
  funext k;simp only [mF,Array.getD_eq_getD_getElem?];by_cases l:k<ops.length<;>simp [l]
 have hsz:ops.toArray.size=ops.length:=by simp
 rw [hsz];have U:∀ D,mP D 0 s.hp (recs.set i (nY r))=mP D 0 s.hp recs:=fun D=>Gy recs i 0 s.hp r n
 have enE:∀ D,kG D 0 s.env (recs.set i (nY r))=kG D 0 s.env recs:=fun D=>BN recs i 0 s.env r n
 have N:∀ k,k ≠ i→(recs.set i (nY r))[k]? =recs[k]? :=fun k l=>List.getElem?_set_ne (Ne.symm l)
 have hgeti:(recs.set i (nY r))[i]? =some (nY r):=List.getElem?_set_self hil;have hdsto:∀ (k:Nat) (q:jc),recs[k]? =some q→∃ A:Oper,ops[k]? =some A∧q.dst=A.dst:=by
  intro k q l;obtain ⟨A,y,z,_⟩:=(e.sem C).2 k q l;exact ⟨A,by rw [← y,Φ],z⟩
 have G:r.dst=some d:=by
  obtain ⟨A,y,z⟩:=hdsto i r n;rw [hoi] at y;cases y;rw [z,hod]
 have hrv:r.v=v:=by
  have e2:(mO s.env recs).get d=(mO s.env (recs.take (i+1))).get d:=by
   rw [← wM];refine lJ recs 0 _ _ rfl fun k q l T=> ?_
   rw [Φ];by_cases hki:i<k
   ·obtain ⟨A,y,z⟩:=hdsto k q l;exact absurd rfl (hlate k A hki y d (z ▸ T)).1
   ·simp;omega
  have e3:s1.env.get d=v:=hv;rw [e.env] at e3;rw [show (mO s.env recs).get d=(mO s.env recs).get d from rfl,e2,EP _ _ _ _ n,G,gZ] at e3;exact e3
 have hrte:∀ t ∈ rt,(mO s.env (recs.take i)).get t=s1.env.get t:=by
  intro t ht;rw [e.env,← wM];refine lJ recs 0 _ _ rfl fun k q l T=> ?_
  rw [Φ];rcases Xj4 k i with h|h|h
  ·simp [h]
  ·subst h;rw [n] at l;cases l;rw [G] at T;cases T;exact absurd ht hdr
  ·obtain ⟨A,y,z⟩:=hdsto k q l;exact absurd ht (hlate k A h y t (z ▸ T)).2
 refine IL (P:=P) (ap:=ap) (s:={env:=s.env,hp:=s.hp,md:=s.md,dfs:=s.dfs,dec:= [],feet:= []}) (recs:=recs.set i (nY r)) hnt (by rw [Xzh];exact O) ?_ ?_ (vK hord) hback hn0 (m0:=m) (S0:=S) (w0:=w) (Q:=Q) ?_ ops.length _ m S _ a ⟨by simp, ?_, ?_, ?_⟩ ?_
 ·intro k q l x J;by_cases hki:k=i
  ·subst hki;rw [hgeti] at l;cases l;rw [show (nY r).ups=r.ups from rfl,p] at J;simp at J
  ·rw [N k hki] at l;have:=e.bound k q l x J;omega
 ·intro k q l;by_cases hki:k=i
  ·subst hki;rw [hgeti] at l;cases l;refine ⟨o,hoi,by rw [← hod] at G;exact G, ?_⟩;intro D m2 S2 w2 a2 X u _ f hnb Q2 K R;dsimp only at X u f R;rw [U] at X u f R;obtain ⟨B,hB⟩:=Jb (D:=D) recs 0 s.hp W;have hBm:B ∈ L:=by
    have e4:=DW (D:=fun j=> !(((Region.before ops.toArray).toList.getD j 0).testBit k)) s.hp recs.reverse;rw [Xj5,List.map_reverse] at e4;rw [← hL,e.hp,e.feet,μ];rw [e4];refine FM (NG (D:=D) (fun j hj=> ?_) recs 0 s.hp s.hp (fun _ h=>h) _ (yA hB));cases hb2:((Region.before ops.toArray).toList.getD j 0).testBit k with
    |false=>rfl
    |true=>rw [hnb j hb2] at hj;cases hj
   have E:=hst.sem Z hH hod B hBm;rw [show (nY r).v=r.v from rfl,hrv,show (nY r).ups=r.ups from rfl,p] at R;refine E _ m2 S2 w2 a2 X (fun t ht=> ?_) (fun x J B2 hB2=> ?_) f Q2 K R
   ·have y:=u t (by rw [show (nY r).rt=r.rt from rfl,hrt];exact ht);rw [EO recs k k s.env r n,hrte t ht] at y;exact y
   ·rw [List.mem_singleton] at J;subst J;simp only [ai,Xxj,Option.some.injEq] at hB2;subst hB2;exact hB
  ·rw [N k hki] at l;obtain ⟨A,y,z,E⟩:=(e.sem C).2 k q l;rw [Φ] at y;refine ⟨A,y,z, ?_⟩;intro D m2 S2 w2 a2 X u F f _ Q2 K R;dsimp only at X u F f R;rw [U] at X u F f R;rw [EO recs i k s.env r n] at u;rw [Sj recs i k s.hp r n] at F;exact E _ m2 S2 w2 a2 X u (fun x J B hB=>by rw [← F x J];exact hB) f Q2 K R
 ·intro m' S' w' a' z h4;dsimp only at z h4;have e5:Ce s.hp (recs.set i (nY r))=Ce s.hp recs:=U _;have e6:mO s.env (recs.set i (nY r))=mO s.env recs:=enE _;rw [e5] at z h4;rw [e6] at h4;have h5:Fr (ax h0) m0 S0 w0 (ai s1.hp) m' S' w':=by
   rw [e.hp];exact hfr.trans z
  have h6:FR ap s1.env s1.hp s1.dfs nt m' S' w' a':=by
   rw [e.hp,e.env,hdf];exact h4
  obtain ⟨m2,h7,h8⟩:=iW (keep:=keep) (s:=⟨s1.env,s1.hp,s1.md,s1.dfs⟩) h5 h6;exact hQ m2 S' w' a' h7 h8
 ·intro k o l T;rw [V] at T;cases T
 ·dsimp only;rw [V,jr _ 0 _ (fun _ _=>rfl)];exact ⟨Ge.refl _ _,gK.refl _,rfl,rfl,rfl,ζ _,fun _ _ _=>rfl,fun _ B h=> .inr ⟨B,h,rfl⟩,fun _ _ _ h=> .inl h,(MW.refl _).mb _ _⟩
 ·dsimp only;rw [V,jr _ 0 _ (fun _ _=>rfl),oD _ 0 _ (fun _ _=>rfl)];exact ⟨⟨M.srel.inj,fun b B W=>M.srel.blk b B W|>fun ⟨h1,y,z⟩=> ⟨h1,y,z⟩,M.srel.sealed,M.srel.own,M.srel.glob⟩,M.env,M.dfs,M.size⟩
 ·simp only [Aq];exact Xqg (Xqp _ _) (by simp)
def zZ:List Nat→List Nat→Bool
 | [],[]=>true
 |a::r,b::q=>Δ a b && zZ r q
 |_,_=>false
theorem nC:∀ {l r:List Nat},zZ l r=true→l=r
 | [],[],_=>rfl
 |a::r,b::q,h=>by
  simp only [zZ,ε] at h;rw [aA h.1,nC h.2]
 | [],_::_,h=>by simp [zZ] at h
 |_::_,[],h=>by simp [zZ] at h
def OL (ap:AP) (H:bi) (n:Nat) (ops:List Oper) (o:Oper) (b d:Nat) (rt:List Nat) (env:dG) (v:AV):List az→Option (List Prop)
 | []=>some []
 | B ::r=>match J6 ap H n ops o {env,hp:= [(b,B)],md:= .dead,dfs:= [],dec:= [],feet:= []} ⟨true,[],[],[],[],[]⟩ with
  | .ok (t,none) c3=>match t.feet,t.dfs,c3.bs,c3.ps with
   | [F],[],[],[]=>match zZ F.rt rt && zZ F.wt [d] && zZ F.rb [b] && zZ F.wb [] with
    |true=>match OL ap H n ops o b d rt env v r with
     |some l=>some ((t.env.get d=v)::l)
     |none=>none
    |false=>none
   |_,_,_,_=>none
  |_=>none
theorem J5 {n:Nat} {ops:List Oper} {o:Oper} {b d:Nat} {rt:List Nat} {env:dG} {v:AV}:∀ {L:List az} {l:List Prop},OL ap H n ops o b d rt env v L=some l→(∀ p ∈ l,p)→Be P ap H n ops o b d rt env v L
 | [],_,_,_=> .nil
 | B ::r,l,h,hl=>by
  simp only [OL] at h;split at h
  ·rename_i t q e;split at h
   ·rename_i F f i j c;split at h
    ·rename_i a;simp only [ε] at a;split at h
     ·rename_i s k;cases h;refine .cons e ⟨by rw [j];simp,by rw [c];simp⟩ ?_ i (hl _ (by simp)) (J5 k fun p hp=>hl p (by simp [hp]));rw [f,← nC a.1.1.1,← nC a.1.1.2,← nC a.1.2,← nC a.2]
     ·cases h
    ·cases h
   ·cases h
  ·cases h
def H6 (ap:AP) (H:bi) (base:Nat) (keep:List Nat) (nt0 i b d:Nat) (code:Code) (s:St) (c:Cx):R St:=
 match code with
 | .region _ opsA true=>
  (mf ap H opsA.toList opsA.toList (dV s.hp) {env:=s.env,hp:=s.hp,md:=s.md,dfs:=s.dfs,dec:= [],feet:= []} c).bind fun (s1,p) c=>
  match p with
  |some _=> .bad 1
  |none=>
  match opsA.toList[i]?,s1.feet.reverse[i]? with
  | some o,some F=>
   match (match o.dst with|some d'=>Δ d' d|none=>false) && zZ F.wt [d] && zZ F.rb [b] && zZ F.wb [] && oO (dV s.hp) (Region.before opsA).toList (s1.feet.reverse.set i {rt:=F.rt,wt:= [d],rb:= [],wb:= []}).reverse && ny opsA.toList && Δ s1.dfs.length s.dfs.length
    && (opsA.toList.drop (i+1)).all (fun o'=>match o'.dst with|some x=> !(Δ x d) && !(kY F.rt x)|none=>true) && !(kY F.rt d) && (ai s.hp b).isSome && opsA.toList.all (qE nt0) with
   |true=>match OL ap H (dV s.hp+4*i) opsA.toList o b d F.rt s1.env (s1.env.get d) (FK (tZ (fun k=> !(((Region.before opsA).toList.getD k 0).testBit i)) s1.feet s1.hp) b) with
    |some l=> .ok (norm base keep ⟨s1.env,s1.hp,s1.md,s1.dfs⟩) {c with ps:=l++c.ps}
    |none=> .bad 3
   |false=> .bad 2
  |_,_=> .bad 4
 |_=> .bad 5
theorem MC (y:di P ap) (q:P.follows .mixedOrders=true) (U:gp P ap H) {h0:List az} {keep:List Nat} {nt nt0 i b d:Nat} {j:Code} {s s':St} {c c':Cx} (L:nt0≤nt) (h:H6 ap H h0.length keep nt0 i b d j s c= .ok s' c') (A:c'.Ok):ag P ap h0 nt j s .normal s':=by
 unfold H6 at h;split at h
 ·rename_i id a;obtain ⟨⟨s1,p⟩,Z,M,h⟩:=R.bind_ok h;dsimp only at h;split at h
  ·cases h
  ·split at h
   ·rename_i o F T Q;split at h
    ·rename_i hcond;split at h
     ·rename_i l W;cases h;simp only [ε] at hcond;obtain ⟨⟨⟨⟨⟨⟨⟨⟨⟨⟨u,J⟩,N⟩,O⟩,K⟩,V⟩,G⟩,I⟩,E⟩,B⟩,v⟩:=hcond;have D:o.dst=some d:=by
       split at u
       ·rename_i Y t;rw [t,aA u]
       ·cases u
      have C:F={rt:=F.rt,wt:= [d],rb:= [b],wb:= []}:=by
       rw [← nC J,← nC N,← nC O]
      have f:a.toList.toArray=a:=by simp
      have key:=PG (nt:=nt) (h0:=h0) y q U keep (id:=id) (ops:=a.toList) (fun r n x z=>by
        have:=List.all_eq_true.1 v r n;simp only [qE,z] at this;exact Xqy (dW this) L) i b d o F.rt (s1.env.get d) _ M ⟨A.bs,fun p hp=>A.ps p (by simp [hp])⟩ T D (by rw [Q,← C]) (by rw [f];exact K) V (aA G) ?_ ?_ rfl (by simpa [Option.isSome_iff_exists] using B) (by rw [f]) (J5 W fun p hp=>A.ps p (by simp [hp]))
      ·rw [f] at key;exact key
      ·intro k r X n x z;have hm:r ∈ a.toList.drop (i+1):=by
        refine ο (i:=k - (i+1)) ?_;rw [Xxy,show i+1+(k - (i+1))=k by omega];exact n
       have:=List.all_eq_true.1 I r hm;simp only [z,ε,Xqe] at this;refine ⟨fun e=> ?_,fun e=> ?_⟩
       ·subst e;rw [Xxj] at this;cases this.1
       ·rw [fQ.2 e] at this;cases this.2
      ·intro e;rw [fQ.2 e] at E;cases E
     ·cases h
    ·cases h
   ·cases h
 ·cases h
end
theorem Xm {P:Program} {ap:AP} (g:uy P ap) {h0:List az} {keep:List Nat} {nt nt0 i b d:Nat} {a:Code} {s s':St} {ans:List (gV × List az)} {ps:List Prop} (hp:Ik ps) (c:nt0≤nt)
  (h:H6 ap (uq P ap 3000 4) h0.length keep nt0 i b d a s ⟨true,[],[],[],ans,[]⟩= .ok s' ⟨true,[],[],ps,[],[]⟩):ag P ap h0 nt a s .normal s':=by
 obtain ⟨e,_⟩:=gy g.apok g.mixed g.fnok 3000 4;exact MC g.apok g.mixed e c h ⟨by simp,hp.mem⟩
abbrev ω (x:Int):AV:= .int .i64 x
abbrev Ω (b:Bool) (n d:List UInt8):AV:= .agg [.bool b,.str n,.str d]
theorem Yq0 {p:Prop} [Decidable p]:p→decide p=true:=decide_eq_true
theorem Yq1 {p:Prop} [Decidable p]:¬p→decide p=false:=decide_eq_false
theorem Yq2 {α:Type} [BEq α] [LawfulBEq α] {a b:α}:(a==b)=false↔a≠b:=beq_eq_false_iff_ne
end AM
