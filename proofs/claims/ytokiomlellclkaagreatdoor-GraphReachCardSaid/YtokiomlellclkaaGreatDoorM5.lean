/- The abstract machine over the code of the model, and the proof that it is sound. No conditions. -/
import Derived.Test.YtokiomlellclkaaGreatDoorM4
import Derived.ChangeArms
import Derived.WideShapes
import Derived.Deep.Strs
import Derived.Maps.RangeRun
import Derived.Laws.IdiomRangeMap
import Derived.WideKeyEntry
import Derived.Maps.AppendAt
set_option linter.unusedSimpArgs false
set_option linter.unusedVariables false
open Nat renaming beq→Δ,le_refl→ε,add_zero→Xqt,lt_of_lt_of_le→Xqd,beq_refl→Xxi,eq_of_beq_eq_true→Xqq,le_trans→Xqh,eq_zero_or_pos→Xxg,zero_mul→Xzg,blt→Xq5,lt_trichotomy→Xx9,ne_of_lt→Xz8,zero_le→Xqp,lt_irrefl→Xjg,zero_add→Φ
open List renaming map_cons→χ,append_nil→υ,mem_of_getElem?→Γ,isEmpty_iff→Xwt,map→Xv9,drop→θ,getElem?_drop→Xx0,getElem?_take→Xxn,all_cons→Xx5,length_append→ο,take_add→Xkz,drop_drop→Xjj,flatten_cons→Xjp,getElem?_eq_getElem→ζ,getElem_mem→Xx1,getElem?_append→Xw9,flatten_append→Xz2,flatten_nil→Xv5,eq_nil_of_length_eq_zero→Xxd,range→Xqf,flatMap_map→Xzv,getD_eq_getElem?_getD→π,getElem?_map→Ψ,mem_filter→Xxa,getElem?_of_mem→Xxm,mem_toArray→Xv6,mem_map→Xw3,mem_reverse→Xv7,getElem_map→Xzb,toList_toArray→Xxw,length_cons→Θ,cons_append→Xqw,nil_append→μ,ext_getElem?→Xxx,getElem?_modify→Xj8,mem_cons→Xqu,length→ν,getElem?_set→Xxv,getElem?_append_left→Xqa,map_append→Xxc,append_assoc→Ξ,set_cons_succ→Xz7,take_set→Xvm,reverse_cons→Xj4,reverse_reverse→Xj6
open Option renaming getD_some→Xq9,map_some→Xqr
open Bool renaming and_eq_true→η,not_eq_true'→Xqk
namespace AM
open Go
structure aJ (s s':St):Prop where
 env:∀ t,s.env.get t=s'.env.get t∨s.env.get t= .dead
 hp:s.hp=s'.hp
 md:s.md=s'.md
 dfs:s.dfs=s'.dfs
theorem aJ.refl (s:St):aJ s s:=⟨fun _=> .inl rfl,rfl,rfl,rfl⟩
def ND:dE→(Nat→AV)→Prop
 | [],_=>True
 |(t,v)::r,f=>(f t=v)∧ND r f
theorem wS {f:Nat→AV}:∀ {e:dE},ND e f→∀ t,e.get t=f t∨e.get t= .dead
 | [],_,t=> .inr rfl
 | (u,v)::r,h,t=>by
  simp only [ND] at h;simp only [dE.get,ag];cases a:Δ u t with
  |true=>
   have:=aF a;subst this;exact .inl h.1.symm
  |false=>exact wS h.2 t
theorem aJ.of {e e':dE} {hp:Hp} {md:AV} {dfs:List (Nat × List AV)} (h:ND e e'.get):aJ {env:=e,hp,md,dfs} {env:=e',hp,md,dfs}:=⟨wS h,rfl,rfl,rfl⟩
section
variable {P:Program} {ap:AP} {H:bI}
theorem FR.less {s s':St} (h:aJ s s') {nt:Nat} {m:aI} {S:aB} {w:World} {a:Act} (b:FR ap s'.env s'.hp s'.dfs nt m S w a):FR ap s.env s.hp s.dfs nt m S w a:=by
 refine ⟨h.hp ▸ b.srel,fun t=> ?_, ?_,b.size⟩
 ·rcases h.env t with e|e
  ·rw [e,h.hp];exact b.env t
  ·rw [e];simp [VR]
 ·rw [h.hp,h.dfs];exact b.dfs
theorem af.weak {h0:List aK} {nt:Nat} {b:Code} {s s' r j:St} {e:aV} (h:af P ap h0 nt b s e r) (hs:aJ s s') (c:aJ j r):af P ap h0 nt b s' e j:=by
 intro f;obtain ⟨l,k⟩:=h (hs.md ▸ f);refine ⟨c.md ▸ l,fun m0 S0 w0 m S w a i p Q n=>k m0 S0 w0 m S w a (by rw [hs.hp];exact i) (p.less hs) Q ?_⟩;intro o S' w' a' t q;have:=n o S' w' a' (by rw [c.hp];exact t) (q.less c);cases e with
 |normal=>exact this
 |exit id=>exact this
 |ret=>exact this
 |panic v=>intro cv d;exact this cv (by rw [c.hp];exact d)
inductive aP (P:Program) (ap:AP) (h0:List aK) (nt:Nat) (b:Code) {α β:Type} (e:β→aV) (st:α→St) (out:β→St):α→β→Prop where
 |done {a:α} {r:β}:af P ap h0 nt b (st a) (e r) (out r)→aP P ap h0 nt b e st out a r
 |next {a a':α} {r:β}:af P ap h0 nt b (st a) .normal (st a')→aP P ap h0 nt b e st out a' r→aP P ap h0 nt b e st out a r
theorem aP.rounds {h0:List aK} {nt:Nat} {b:Code} {α β:Type} {e:β→aV} {st:α→St} {out:β→St} {a:α} {r:β} (d:e r ≠ .normal) (h:aP P ap h0 nt b e st out a r):(st a).md= .dead→(out r).md= .dead∧∃ n,∀ m0 S0 w0 m S w c,Fr (aC h0) m0 S0 w0 (ag (st a).hp) m S w→FR ap (st a).env (st a).hp (st a).dfs nt m S w c→∀ Q,XA ap h0 m0 S0 w0 nt (out r) (e r) Q→Code.rounds P b Q n c w:=by
 induction h with
 |@done a r hx=>
  intro f;obtain ⟨p,o⟩:=hx f;refine ⟨p,1,fun m0 S0 w0 m S w c i k Q q=>o m0 S0 w0 m S w c i k _ ?_⟩;intro j S' w' a' s l;have:=q j S' w' a' s l
  revert d this
  cases e r with
  |normal=>intro d _;exact absurd rfl d
  |exit id=>intro _ h;exact h
  |ret=>intro _ h;exact h
  |panic v=>intro _ h;exact h
 |next hx _ ih=>
  intro f;obtain ⟨p,o⟩:=hx f;obtain ⟨s,n,l⟩:=ih d p;refine ⟨s,n+1,fun m0 S0 w0 m S w c i k Q q=>o m0 S0 w0 m S w c i k _ ?_⟩;intro j S' w' a' u t;exact l m0 S0 w0 j S' w' a' u t Q q
theorem aP.ok {h0:List aK} {nt:Nat} {b:Code} {α β:Type} {e:β→aV} {st:α→St} {out:β→St} {a:α} {r:β} (f:e r ≠ .normal) (h:aP P ap h0 nt b e st out a r):af P ap h0 nt (.loop b) (st a) (e r) (out r):=by
 intro d;obtain ⟨k,n,j⟩:=h.rounds f d;exact ⟨k,fun m0 S0 w0 m S w c i o Q l=>wp_loop_rounds n (j m0 S0 w0 m S w c i o Q l)⟩
theorem aP.blk {h0:List aK} {n id:Nat} {b:Code} {α β:Type} {e:β→aV} {st:α→St} {out:β→St} {a:α} {r:β} {s s':St} {e':aV} (h:∀ nt,n≤nt→aP P ap h0 nt b e st out a r) (c:e r ≠ .normal) (f:lq id (e r)=e') (hs:aJ (st a) s) (j:aJ s' (out r)):bD P ap h0 n (.block id (.loop b)) s e' s':=by
 intro nt i;have d:=((h nt i).ok c).block (id:=id);rw [f] at d;exact d.weak hs j
def m_ (id:Nat):Code→Option Code
 | .seq a b=>match m_ id a with|some c=>some c|none=>m_ id b
 | .cond _ a b=>match m_ id a with|some c=>some c|none=>m_ id b
 | .block i b=>match Δ i id with|true=>some b|false=>m_ id b
 | .loop b=>m_ id b
 | .scope b=>m_ id b
 |_=>none
def aj (id:Nat) (c:Code):Code:=match m_ id c with|some (.loop b)=>b|_=> .skip
def eQ (id:Nat):Code→Code
 | .seq a b=>match eQ id a with| .region i o d=> .region i o d|_=>eQ id b
 | .cond _ a b=>match eQ id a with| .region i o d=> .region i o d|_=>eQ id b
 | .block _ b=>eQ id b
 | .loop b=>eQ id b
 | .scope b=>eQ id b
 | .region i o d=>match Δ i id with|true=> .region i o d|false=> .skip
 |_=> .skip
end
end AM
namespace AM
open Go
def uz (x y:List AV):Prop:=∀ g m S v,aX g m S x v→aX g m S y v
def tK:AV→Bool
 | .own _ _ _=>false
 | .tup _=>false
 |_=>true
theorem bF.refl (x:AV):bF x x:=fun _ _ _ _ h=>h
theorem uz.refl (x:List AV):uz x x:=fun _ _ _ _ h=>h
theorem uz.nil:uz [] []:=uz.refl []
theorem uz.cons {x y:AV} {l r:List AV} (h:bF x y) (b:uz l r):uz (x::l) (y::r):=by
 intro g m S v a;cases v with
 |nil=>simp [aX] at a
 |cons u vs=>simp only [aX] at a ⊢;exact ⟨h g m S u a.1,b g m S vs a.2⟩
theorem bF.nilS (b:Bool) (h:b=false):bF .nilS (.sl [] 0 b):=by
 subst h;intro g m S v a;simp only [VR,PR] at a ⊢;exact ⟨none,0,a,ε _,.inl (by simp)⟩
theorem bF.sl (d:List AV) (n:Nat) (a:Bool):bF (.sl d n a) (.sl d n false):=by
 intro g m S v f;simp only [VR,PR] at f ⊢;obtain ⟨a,c,e,b,q⟩:=f;refine ⟨a,c,e,b, ?_⟩;rcases q with ⟨_,i,h⟩|q
 ·exact .inl ⟨fun _=>trivial,i,h⟩
 ·exact .inr q
theorem bF.dead (x:AV):bF x .dead:=fun _ _ _ _ _=>by simp only [VR]
theorem bF.agg {l r:List AV} (h:uz l r):bF (.agg l) (.agg r):=by
 intro g m S v a;simp only [VR] at a ⊢;obtain ⟨vs,e,q⟩:=a;exact ⟨vs,e,h _ _ _ _ q⟩
section
variable {P:Program} {ap:AP}
theorem ah.args {f:Nat} {args args':List AV} {h b:List aK} {out:h_} (c:uz args' args) (a:ah P ap f args h out b):ah P ap f args' h out b:=
 ⟨a.len,a.ent,fun m S w cargs e d=>a.calls m S w cargs e (c _ _ _ _ d)⟩
def iP (out out':h_):Prop:=(∀ n,iW n out=iW n out')∧∀ h' m' S' e,V4 h' m' S' out e→V4 h' m' S' out' e
theorem ah.out {f:Nat} {args:List AV} {h d:List aK} {out a:h_} (c:iP out a) (b:ah P ap f args h out d):ah P ap f args h a d:=
 ⟨b.len,b.ent,fun m S w cargs j i=>(b.calls m S w cargs j i).mono fun e w' ⟨m',S',hF⟩=> ⟨m',S',c.1 _ ▸ hF.srel,c.1 _ ▸ hF.fr,c.2 _ _ _ _ hF.out⟩⟩
theorem tN {x:AV} (h:tK x=true):∀ a k e,x ≠ .own a k e:=by intro a k e b;subst b;cases h
theorem tV {x:AV} (h:tK x=true):∀ l,x ≠ .tup l:=by intro l a;subst a;cases h
theorem iP.ret {x y:AV} (b:tK x=true) (a:tK y=true) (h:bF x y):iP (.ret x) (.ret y):=by
 refine ⟨fun n=> ?_,fun i j S' e d=> ?_⟩
 ·simp only [iW,iC n (tN b) (tV b),iC n (tN a) (tV a)]
 ·obtain ⟨cv,f,c⟩:=d;refine ⟨cv,f, ?_⟩;rw [jT (tN b) (tV b)] at c;rw [jT (tN a) (tV a)];exact h _ _ _ _ c
inductive Rh:List AV→List AV→Prop where
 |nil:Rh [] []
 |same {x:AV} {l r:List AV}:Rh l r→Rh (x::l) (x::r)
 |fit {x y:AV} {l r:List AV}:tK x=true→tK y=true→bF x y→Rh l r→Rh (x::l) (y::r)
end
end AM
namespace AM
open Go
def thaw:AV→AV
 | .own xs n e=> .sl (xs.take (n*e)) n true
 |x=>x
def qL:h_→h_
 | .ret (.tup l)=> .ret (.tup (l.map thaw))
 | .ret x=> .ret (thaw x)
 | .pan v=> .pan v
theorem Eb {x:AV} (h:∀ xs k e,x ≠ .own xs k e):thaw x=x:=by
 cases x<;>first|rfl|exact absurd rfl (h _ _ _)
theorem oW (x:AV):∀ a k e,thaw x ≠ .own a k e:=by
 intro a k e h;cases x<;>simp [thaw] at h
theorem vU:∀ (l:List AV) (n:Nat),(fC n (l.map thaw)).2= []
 | [],_=>rfl
 |x::r,n=>by rw [χ,bU n (oW x)];exact vU r n
section
variable {P:Program} {ap:AP}
theorem yz {gh gf g':bP} {m:aI} {S S':aB} {w:World} (p:bi ap gf m S w) {rd:bP} (d:∀ b B,rd b=some B→gf b=some B) (c:S'=bY S m rd w) (hother:∀ x v,VR gh m S x v→VR g' m S' x v):
  ∀ (l:List AV) (n:Nat) (vs:List Value),(∀ i B,(fC n l).2[i]? =some B→rd (n+i)=some B)→ig gh gf m S n l vs→ig g' g' m S' n (l.map thaw) vs
 | [],n,vs,_,h=>by cases vs with|nil=>trivial|cons _ _=>simp [ig] at h
 |x::r,n,[],_,h=>by
  exfalso;rcases jH x with ⟨j,k,e,rfl⟩|f
  ·simp [ig] at h
  ·cases x<;>simp [ig] at h
 | x ::r,n,v::vs,hb,h=>by
  rcases jH x with ⟨j,k,e,rfl⟩|f
  ·simp only [ig] at h;simp only [fC] at hb;have h0:=hb 0 _ rfl;rw [Xqt] at h0;have D:frz rd 6 (.ref n 0 0 k)=some (.sl (j.take (k*e)) k true):=by
    simp [frz,h0,yA]
   have C:=jr p d 6 _ _ _ D h.1;rw [χ,dw (oW _)];refine ⟨d_ _ (c ▸ C), ?_⟩;have t:=yz p d c hother r (n+1) vs (fun i B A=>by rw [show n+1+i=n+(i+1) by omega];exact hb (i+1) B (by simpa using A)) h.2;have key:∀ (l:List AV) (a b:Nat) (vs:List Value),(∀ x ∈ l,∀ j k e,x ≠ .own j k e)→ig g' g' m S' a l vs→ig g' g' m S' b l vs:=by
    intro l
    induction l with
    |nil=>intro a b vs _ h;cases vs with|nil=>trivial|cons _ _=>simp [ig] at h
    | cons y q ih=>
     intro a b vs s h;cases vs with
     |nil=>cases y<;>simp [ig] at h
     |cons u us=>
      have o:=s y (by simp);rw [dw o] at h ⊢;exact ⟨h.1,ih a b us (fun x f=>s x (by simp [f])) h.2⟩
   refine key _ (n+1) n vs ?_ t;intro y o;obtain ⟨z,_,rfl⟩:=List.mem_map.1 o;exact oW z
  ·rw [dw f] at h;rw [bU n f] at hb;rw [χ,dw (oW x),Eb f];exact ⟨hother _ _ h.1,yz p d c hother r n vs hb h.2⟩
theorem ah.thaw {f:Nat} {args:List AV} {h a:List aK} {out:h_} (hp:∀ B ∈ a,B.pr=true) (J:ah P ap f args h out a):ah P ap f args h (qL out) a:=by
 refine ⟨J.len,J.ent,fun m S w cargs X A=>(J.calls m S w cargs X A).mono ?_⟩
 rintro e w' ⟨m',S',hF⟩
 obtain ⟨s,j,z⟩:=hF;have y:∀ n,iW n (qL out)= []:=by
  intro n;cases out with
  |pan v=>rfl
  | ret x=>
   rcases yI x with ⟨l,rfl⟩|ht
   ·simp only [qL,iW,jf];exact vU l n
   ·have:qL (.ret x)= .ret (AM.thaw x):=by cases x<;>first|rfl|exact absurd rfl (ht _)
    rw [this];simp only [iW];have C:∀ l,AM.thaw x ≠ .tup l:=by intro l M;cases x<;>simp [AM.thaw] at M;exact ht _ rfl
    rw [iC n (oW x) C]
 let rd:bP:=fun b=>if a.length≤b then aC (a++iW a.length out) b else none
 have u:∀ b B,rd b=some B→aC (a++iW a.length out) b=some B:=by
  intro b B c;simp only [rd] at c;split at c
  ·exact c
  ·cases c
 have r:=j_ S' m' rd w';have d:∀ b B,aC a b=some B→aC (a++iW a.length out) b=some B:=by
  intro b B c;have:b<a.length:=(List.getElem?_eq_some_iff.1 c).1;rw [dU this];exact c
 have hother:∀ x v,VR (aC a) m' S' x v→VR (aC (a++iW a.length (qL out))) m' (bY S' m' rd w') x v:=by
  intro x v F;rw [y,υ];exact kE r (Ge.refl _ _) x F
 refine ⟨m',bY S' m' rd w', ?_, ?_, ?_⟩
 ·rw [y,υ];refine ⟨fun b E B B' c R=>s.inj b E B B' (d b B c) (d E B' R), ?_,fun k o v A=>kP s A, ?_, ?_⟩
  ·intro b B c;obtain ⟨⟨cur,e,vs,rest,p,t,G,T,I,W⟩,V,Q⟩:=s.blk b B (d b B c);have K:=hp B (Γ c);refine ⟨⟨cur,e,vs,rest,p,t,fun _=>a_ r _ (G K),aZ _ (a_ r _ (G K)),I,W⟩,V,Q⟩
  ·intro b B c o v A;rcases eP A with p|⟨p,E,B',t,G,T⟩
   ·exact s.own b B (d b B c) o v p
   ·have:=s.inj b E B B' (d b B c) (u _ _ t) G.symm;subst this;have D:b<a.length:=(List.getElem?_eq_some_iff.1 c).1;simp only [rd] at t;rw [if_neg (by omega)] at t;cases t
  ·intro k O hk;obtain ⟨vs,p,t⟩:=s.glob k O hk;exact ⟨vs,a_ r _ p,t.mono r⟩
 ·rw [y,υ];refine ⟨?_,gZ.trans j.sle r,j.os,j.tape,j.output,j.size,j.rest,fun b B c=>j.img b B (d b B c), ?_,fun b B c=>j.mw b B (d b B c)⟩
  ·intro b B c;obtain ⟨B',p,t⟩:=j.ge b B c;have D:b<a.length:=Xqd (List.getElem?_eq_some_iff.1 c).1 J.len;rw [dU D] at p;exact ⟨B',p,t⟩
  ·intro k o v A;rcases eP A with p|⟨p,E,B',t,G,T⟩
   ·exact j.sealN k o v p
   ·rcases j.img E B' (u _ _ t) with I|⟨B0,I,_⟩
    ·exact .inr (.inl (G ▸ I))
    ·exfalso;have D:E<h.length:=(List.getElem?_eq_some_iff.1 I).1;simp only [rd] at t;rw [if_neg (by have:=J.len;omega)] at t;cases t
 ·have L:∀ l,out= .ret (.tup l)→∀ i B,(fC a.length l).2[i]? =some B→rd (a.length+i)=some B:=by
   intro l M i B Y;subst M;simp only [rd];rw [if_pos (by omega),iy (by omega),show a.length+i - a.length=i by omega];exact Y
  cases out with
  |pan v=>
   obtain ⟨cv,N,p⟩:=z;refine ⟨cv,N, ?_⟩;have:=hother v cv p;rwa [y,υ] at this
  | ret x=>
   obtain ⟨cv,N,p⟩:=z;rcases yI x with ⟨l,rfl⟩|ht
   ·simp only [u_] at p;obtain ⟨vs,Z,q⟩:=p;refine ⟨cv,N, ?_⟩;simp only [u_];refine ⟨vs,Z, ?_⟩;have c:(jf a.length (.tup (l.map AM.thaw))).2= []:=by simp only [jf];exact vU l _
    rw [c,υ];have:=yz (gh:=aC a) (g':=aC a) s u rfl (fun x v F=>kE r (Ge.refl _ _) x F) l a.length vs (L l rfl) q;exact this
   ·have U:qL (.ret x)= .ret (AM.thaw x):=by cases x<;>first|rfl|exact absurd rfl (ht _)
    have C:∀ l,AM.thaw x ≠ .tup l:=by intro l M;cases x<;>simp [AM.thaw] at M;exact ht _ rfl
    rw [U];refine ⟨cv,N, ?_⟩;rw [jT (oW x) C];rcases jH x with ⟨O,k,e,rfl⟩|F
    ·simp only [u_] at p;have h0:rd a.length=some (yA O e):=by
      simp only [rd];rw [if_pos (ε _),iy (ε _),Nat.sub_self];rfl
     have hf:frz rd 6 (.ref a.length 0 0 k)=some (.sl (O.take (k*e)) k true):=by
      simp [frz,h0,yA]
     have:=jr s u 6 _ _ _ hf p;exact d_ _ this
    ·rw [jT F ht] at p;rw [Eb F];exact kE r (Ge.refl _ _) x p
end
end AM
namespace AM
open Go
def yZ (b:Nat) (c v:Nat):Option (Nat × Nat):=match Δ c b with|true=>none|false=>some (c,v)
inductive Fz (b:Nat) (B:aK):AV→AV→Prop
 |ren {x:AV}:Fz b B x (ren (yZ b) x)
 |ref {i n:Nat}:Fz b B (.ref b B.ver i n) (.sl ((B.cells.drop (i*B.esz)).take (n*B.esz)) n true)
 |fit {x y z:AV}:Fz b B x y→bF y z→Fz b B x z
inductive Yk (b:Nat) (B:aK):List AV→List AV→Prop
 |nil:Yk b B [] []
 |cons {x y:AV} {l r:List AV}:Fz b B x y→Yk b B l r→Yk b B (x::l) (y::r)
theorem Fz.same {b:Nat} {B:aK} {x:AV} (h:AM.ren (yZ b) x=x):Fz b B x x:=by
 have:=Fz.ren (b:=b) (B:=B) (x:=x);rwa [h] at this
theorem Fz.dead {b:Nat} {B:aK} (x:AV):Fz b B x .dead:= .fit .ren (bF.dead _)
theorem Yk.length {b:Nat} {B:aK} {l r:List AV} (h:Yk b B l r):l.length=r.length:=by
 induction h with
 |nil=>rfl
 |cons _ _ ih=>simp [ih]
structure EJ (b:Nat) (B:aK) (C C':aK):Prop where
 ver:C'.ver=C.ver
 fro:C'.fro=C.fro
 fz:C'.fz=C.fz
 esz:C'.esz=C.esz
 body:(C.pr=true∧C'.cells=C.cells∧C'.pr=true)∨(Yk b B C.cells C'.cells∧(C'.pr=true→(bG C'.cells).isEmpty=true))
theorem EJ.same {b:Nat} {B C:aK} (hp:C.pr=true):EJ b B C C:=⟨rfl,rfl,rfl,rfl,.inl ⟨hp,rfl,hp⟩⟩
theorem EJ.length {b:Nat} {B C C':aK} (h:EJ b B C C'):C.cells.length=C'.cells.length:=by
 rcases h.body with ⟨_,e,_⟩|⟨e,_⟩
 ·rw [e]
 ·exact e.length
section
variable {P:Program} {ap:AP} {g:bP} {m:aI} {S:aB} {w:World}
def kZ (b:Nat) (B:aK):bP:=fun c=>match Δ c b with|true=>some B|false=>none
theorem qg {b c:Nat} {B C:aK} (h:kZ b B c=some C):c=b∧C=B:=by
 unfold kZ at h;split at h
 ·rename_i a;cases h;exact ⟨aF a,rfl⟩
 ·cases h
theorem MC (b:Nat) (B:aK):kZ b B b=some B:=by unfold kZ;rw [Xxi]
theorem Fz.sound {b:Nat} {B:aK} (o:bi ap g m S w) (j:g b=some B) (f:B.pr=true) {g':bP} (l:mV g m g' m (yZ b)) {x y:AV} (h:Fz b B x y):∀ {v:Value},VR g m S x v→VR g' m (bY S m (kZ b B) w) y v:=by
 have d:∀ c C,kZ b B c=some C→g c=some C:=by
  intro c C k;obtain ⟨rfl,rfl⟩:=qg k;exact j
 induction h with
 |ren=>intro v a;exact qX (j_ S m (kZ b B) w) l _ a
 | @ref i n=>
  intro v a;have e:frz (kZ b B) 6 (.ref b B.ver i n)=some (.sl ((B.cells.drop (i*B.esz)).take (n*B.esz)) n true):=by
   simp [frz,MC,f]
  exact d_ _ (jr o d 6 _ _ _ e a)
 |fit _ e ih=>intro v a;exact e _ _ _ _ (ih a)
theorem Yk.sound {b:Nat} {B:aK} (f:bi ap g m S w) (d:g b=some B) (c:B.pr=true) {g':bP} (e:mV g m g' m (yZ b)) {l r:List AV} (h:Yk b B l r):∀ {vs:List Value},aX g m S l vs→aX g' m (bY S m (kZ b B) w) r vs:=by
 induction h with
 |nil=>intro vs a;cases vs with|nil=>simp [aX]|cons _ _=>simp [aX] at a
 | cons hx _ ih=>
  intro vs a;cases vs with
  |nil=>simp [aX] at a
  |cons v vs=>
   simp only [aX] at a ⊢;exact ⟨hx.sound f d c e a.1,ih a.2⟩
theorem uG:∀ {l:List AV} {vs:List Value},(bG l).isEmpty=true→aX g m S l vs→bu S l vs
 | [],[],_,_=>by simp [bu]
 |x::l,v::vs,h,hv=>by
  simp only [bG,Xwt,List.append_eq_nil_iff] at h;rw [← Xwt,← Xwt] at h;simp only [aX] at hv;simp only [bu];exact ⟨lm h.1 hv.1,uG h.2 hv.2⟩
 | [],_::_,_,hv=>by simp [aX] at hv
 |_::_,[],_,hv=>by simp [aX] at hv
theorem EI {g g':bP} {m c:aI} {S S':aB} {ρ:Nat→Nat→Option (Nat × Nat)} (b:gZ S S') (e:mV g m g' c ρ):∀ {l:List (Nat × List AV)} {ds:List Deferred},dW g m S l ds→dW g' c S' (l.map fun d=>(d.1,jO ρ d.2)) ds
 | [],[],_=>by simp only [List.map_nil,dW]
 |d::r,cd::cr,h=>by
  simp only [dW] at h;simp only [χ,dW];obtain ⟨⟨a,i,j⟩,f⟩:=h;exact ⟨⟨a,i,iI b e _ j⟩,EI b e f⟩
 | [],_::_,h=>by simp [dW] at h
 |_::_,[],h=>by simp [dW] at h
theorem Sl {h0:List aK} {nt:Nat} {r i:St} {m0 h:aI} {S0 S':aB} {w0 w':World} {a':Act} (b:Nat) (B:aK) (hb0:h0.length≤b) (E:ag r.hp b=some B) (A:B.pr=true)
  (hd:i.dfs=r.dfs.map fun d=>(d.1,jO (yZ b) d.2))
  (henv:∀ t,Fz b B (r.env.get t) (i.env.get t))
  (hdom:∀ c C',ag i.hp c=some C'→c ≠ b∧∃ C,ag r.hp c=some C∧EJ b B C C')
  (hall:∀ c C,c ≠ b→ag r.hp c=some C→∃ C',ag i.hp c=some C')
  (h5:Fr (aC h0) m0 S0 w0 (ag r.hp) h S' w') (h6:FR ap r.env r.hp r.dfs nt h S' w' a'):
  ∃ S2,Fr (aC h0) m0 S0 w0 (ag i.hp) h S2 w'∧FR ap i.env i.hp i.dfs nt h S2 w' a':=by
 have f:=h6.srel;have p:=j_ S' h (kZ b B) w';have hrd:∀ c C,kZ b B c=some C→ag r.hp c=some C:=by
  intro c C j;obtain ⟨rfl,rfl⟩:=qg j;exact E
 have q:mV (ag r.hp) h (ag i.hp) h (yZ b):=by
  intro c ver c' W hρ C n u;unfold yZ at hρ;split at hρ
  ·cases hρ
  ·rename_i U;cases hρ;have x:c ≠ b:=by intro e;subst e;simp at U
   obtain ⟨C',s⟩:=hall c C x n;obtain ⟨_,C2,l,a⟩:=hdom c C' s;rw [n] at l;cases l;exact ⟨C',s,by rw [a.ver];exact u,fun e=> ⟨by rw [← a.ver];exact e,rfl,a.esz⟩⟩
 have R:bi ap (ag i.hp) h (bY S' h (kZ b B) w') w':=by
  refine ⟨?_, ?_,fun k o v u=>kP f u, ?_, ?_⟩
  ·intro c c' C C' j Q hm;obtain ⟨_,D,hD,_⟩:=hdom c C j;obtain ⟨_,D',O,_⟩:=hdom c' C' Q;exact f.inj c c' D D' hD O hm
  ·intro c C' j;obtain ⟨_,C,n,a⟩:=hdom c C' j;obtain ⟨⟨cur,Y,vs,rest,k1,k2,k3,k4,k5,k6⟩,Z,T⟩:=f.blk c C n;have F:(C'.pr=true→bu (bY S' h (kZ b B) w') C'.cells vs)∧aX (ag i.hp) h (bY S' h (kZ b B) w') C'.cells vs:=by
    rcases a.body with ⟨J,V,q3⟩|⟨J,V⟩
    ·have:=a_ p _ (k3 J);rw [V];exact ⟨fun _=>this,aZ _ this⟩
    ·have u:=J.sound f E A q k4;exact ⟨fun hp=>uG (V hp) u,u⟩
   exact ⟨⟨cur,Y,vs,rest,by rw [a.esz];exact k1,k2,F.1,F.2,by rw [a.esz];exact k5,fun hp=>by rw [a.esz] at hp ⊢;exact k6 hp⟩,fun hp=>by rw [a.fz];exact Z (by rw [← a.fro];exact hp),by rw [a.fz,← a.length];exact T⟩
  ·intro c C' j o v u;obtain ⟨x,C,n,a⟩:=hdom c C' j;rw [a.fro,a.fz];rcases eP u with G|⟨G,I,B',K,L,h4⟩
   ·exact f.own c C n o v G
   ·obtain ⟨rfl,rfl⟩:=qg K;exact absurd (f.inj c I C B' n E L.symm) x
  ·intro k xs hk;obtain ⟨vs,k1,k2⟩:=f.glob k xs hk;exact ⟨vs,a_ p _ k1,k2.mono p⟩
 have y:Fr (aC h0) m0 S0 w0 (ag i.hp) h (bY S' h (kZ b B) w') w':=by
  refine ⟨?_,gZ.trans h5.sle p,h5.os,h5.tape,h5.output,h5.size,h5.rest, ?_, ?_,fun c C' j=>by
   obtain ⟨_,C,n,_⟩:=hdom c C' j;exact h5.mw c C n⟩
  ·intro c C j;have hlt:c<h0.length:=(List.getElem?_eq_some_iff.1 j).1;obtain ⟨C1,z,X,e2⟩:=h5.ge c C j;obtain ⟨C',s⟩:=hall c C1 (by omega) z;obtain ⟨_,C2,l,a⟩:=hdom c C' s;rw [z] at l;cases l;exact ⟨C',s,by rw [a.esz];exact X,by rw [a.ver];exact e2⟩
  ·intro c C' j;obtain ⟨_,C,n,_⟩:=hdom c C' j;exact h5.img c C n
  ·intro k o v u;rcases eP u with G|⟨G,I,B',K,L,h4⟩
   ·exact h5.sealN k o v G
   ·obtain ⟨rfl,rfl⟩:=qg K;rcases h5.img I B' E with M|⟨B0,M,_⟩
    ·exact .inr (.inl (L ▸ M))
    ·have:I<h0.length:=(List.getElem?_eq_some_iff.1 M).1;omega
 have N:FR ap i.env i.hp i.dfs nt h (bY S' h (kZ b B) w') w' a':=by
  refine ⟨R,fun t=>(henv t).sound f E A q (h6.env t), ?_,h6.size⟩;rw [hd];exact EI p q h6.dfs
 exact ⟨_,y,N⟩
theorem af.freeze {h0:List aK} {nt:Nat} {f:Code} {s r i:St} {e:aV} (b:Nat) (B:aK) (h:af P ap h0 nt f s e r) (p:∀ v,e ≠ .panic v) (l:h0.length≤b) (y:ag r.hp b=some B) (k:B.pr=true)
  (hmd:i.md=r.md) (hd:i.dfs=r.dfs.map fun d=>(d.1,jO (yZ b) d.2))
  (henv:∀ t,Fz b B (r.env.get t) (i.env.get t))
  (hdom:∀ c C',ag i.hp c=some C'→c ≠ b∧∃ C,ag r.hp c=some C∧EJ b B C C')
  (hall:∀ c C,c ≠ b→ag r.hp c=some C→∃ C',ag i.hp c=some C'):af P ap h0 nt f s e i:=by
 intro hs;obtain ⟨A,z⟩:=h hs;refine ⟨hmd ▸ A,fun m0 S0 w0 m S w a o u Q D=>z m0 S0 w0 m S w a o u Q ?_⟩;intro q S' w' a' E x;obtain ⟨S2,j,n⟩:=Sl b B l y k hd henv hdom hall E x;have:=D q S2 w' a' j n;cases e with
 |normal=>exact this
 |exit id=>exact this
 |ret=>exact this
 |panic v=>exact absurd rfl (p v)
def WB (b:Nat) (B:aK):dE→(Nat→AV)→Prop
 | [],_=>True
 |(t,v)::r,f=>Fz b B (f t) v∧WB b B r f
theorem y_ {b:Nat} {B:aK} {f:Nat→AV}:∀ {e:dE},WB b B e f→∀ t,Fz b B (f t) (e.get t)
 | [],_,t=>Fz.dead _
 | (u,v)::r,h,t=>by
  simp only [WB] at h;simp only [dE.get,ag];cases a:Δ u t with
  |true=>
   have:=aF a;subst this;exact h.1
  |false=>exact y_ h.2 t
def Qo (b:Nat) (B:aK):Hp→Hp→Prop
 | [],l=>l= [(b,B)]
 |(c,C)::r,(d,D)::l=>c=d∧EJ b B D C∧c ≠ b∧Qo b B r l
 |_::_,[]=>False
theorem NW {b:Nat} {B:aK}:∀ {r l:Hp},Qo b B r l→∀ c C',ag r c=some C'→c ≠ b∧∃ C,ag l c=some C∧EJ b B C C'
 | [],l,_,c,C',hc=>by simp [ag] at hc
 | (d,D)::r,(d',D')::l,h,c,C',hc=>by
  simp only [Qo] at h;obtain ⟨rfl,f,i,e⟩:=h;simp only [ag] at hc ⊢;cases a:Δ d c with
  |true=>
   rw [a] at hc;have:=aF a;subst this;cases hc;exact ⟨i,D',rfl,f⟩
  |false=>
   rw [a] at hc;exact NW e c C' hc
 |_::_,[],h,_,_,_=>by simp [Qo] at h
theorem NV {b:Nat} {B:aK}:∀ {r l:Hp},Qo b B r l→∀ c C,c ≠ b→ag l c=some C→∃ C',ag r c=some C'
 | [],l,h,c,C,hcb,hc=>by
  simp only [Qo] at h;subst h;simp only [ag] at hc;split at hc
  ·rename_i a;exact absurd (aF a).symm hcb
  ·cases hc
 |(d,D)::r,(d',D')::l,h,c,C,hcb,hc=>by
  simp only [Qo] at h;obtain ⟨rfl,f,i,e⟩:=h;simp only [ag] at hc ⊢;cases a:Δ d c with
  |true=>exact ⟨D,rfl⟩
  |false=>rw [a] at hc;exact NV e c C hcb hc
 |_::_,[],h,_,_,_,_=>by simp [Qo] at h
theorem Jd {b:Nat} {B:aK}:∀ {r l:Hp},Qo b B r l→ag l b=some B
 | [],l,h=>by
  simp only [Qo] at h;subst h;simp [ag]
 |(d,D)::r,(d',D')::l,h=>by
  simp only [Qo] at h;obtain ⟨rfl,f,e,c⟩:=h;simp only [ag];cases a:Δ d b with
  |true=>exact absurd (aF a) e
  |false=>exact Jd c
 |_::_,[],h=>by simp [Qo] at h
theorem af.forget {h0:List aK} {nt:Nat} {a:Code} {s:St} {e:aV} (b:Nat) (B:aK) {i c:dE} {hp hp':Hp} {md:AV} (h:af P ap h0 nt a s e {env:=i,hp,md,dfs:= []}) (j:∀ v,e ≠ .panic v) (f:h0.length≤b) (d:B.pr=true)
  (henv:WB b B c (dE.get i)) (hhp:Qo b B hp' hp):af P ap h0 nt a s e {env:=c,hp:=hp',md,dfs:= []}:=
 h.freeze b B j f (Jd hhp) d rfl rfl (y_ henv) (NW hhp) (NV hhp)
end
end AM
namespace AM
open Go
def aU:List Nat→Code→Code
 | [],c=>c
 |0::p,.seq a _=>aU p a
 |_::p,.seq _ b=>aU p b
 |0::p,.cond _ a _=>aU p a
 |_::p,.cond _ _ b=>aU p b
 |_::p,.block _ b=>aU p b
 |_::p,.loop b=>aU p b
 |_::p,.scope b=>aU p b
 |_,c=>c
section
variable {P:Program} {ap:AP}
end
end AM
namespace AM
open Go
inductive AB:List LK→List Value→Prop
 |nil:AB [] []
 |int {k:IntKind} {n:Int} {r:List LK} {l:List Value}:AB r l→AB (.int k::r) (.int k n::l)
 |bool {b:Bool} {r:List LK} {l:List Value}:AB r l→AB (.bool::r) (.bool b::l)
 |str {s:ByteArray} {r:List LK} {l:List Value}:AB r l→AB (.str::r) (.string s::l)
section
variable {H:Type} {enc:TypeId × Value→H} {P:Program} {w:World} {base:Nat} {spare:Nat→Bool} {held:Bool}
end
end AM
namespace AM
open Go
def wE:Nat→Nat→List Bool
 |0,_=> []
 |n+1,k=>Δ (k % 2) 1::wE n (k / 2)
def VB:Nat→List Bool→List Bool
 |0,l=>l
 |n+1,l=>true::VB n l
theorem kH.n (k:Nat) {l:List Bool} (h:kH l):kH (VB k l):=by
 induction k with
 |zero=>exact h
 |succ k ih=>exact .t ih
theorem kH.k (k:Nat) {b:Bool} {l:List Bool} (a:b=true) (h:kH l):kH (VB k (b::l)):= .n k (.c a h)
theorem tf (b:Bool):b=true∨b=false:=by cases b<;>simp
theorem ak {b:Bool} (h:b=true):lit true b=true:=h
theorem au {b:Bool} (h:b=false):lit false b=true:=by subst h;rfl
theorem fZ {b:Bool} (h:b=false):lit true (!b)=true:=by subst h;rfl
theorem dV {b:Bool} (h:b=true):lit false (!b)=true:=by subst h;rfl
inductive PS (P:Program) (ap:AP):List Prop→List (h_ × List aK)→qQ→List oh→Prop where
 |nil:PS P ap [] [] [] []
 |c {f:Nat} {args:List AV} {h h':List aK} {out:h_} {ps:List Prop} {ans:List (h_ × List aK)} {lps:qQ} {hs:List oh}:ah P ap f args h out h'→PS P ap ps ans lps hs→PS P ap (ah P ap f args h out h'::ps) (ans++ [(out,h')]) lps hs
 |l {h0:List aK} {n:Nat} {code:Code} {s s':St} {e:aV} {ps:List Prop} {ans:List (h_ × List aK)} {lps:qQ} {hs:List oh}:bD P ap h0 n code s e s'→PS P ap ps ans lps hs→PS P ap (bD P ap h0 n code s e s'::ps) ans (lps++ [(e,s',none)]) hs
 |k (K:List Nat) {h0:List aK} {n:Nat} {code:Code} {s s':St} {e:aV} {ps:List Prop} {ans:List (h_ × List aK)} {lps:qQ} {hs:List oh}:bD P ap h0 n code s e s'→PS P ap ps ans lps hs→PS P ap (bD P ap h0 n code s e s'::ps) ans (lps++ [(e,s',some ([],K))]) hs
 |w (L K:List Nat) {h0:List aK} {n:Nat} {code:Code} {s s':St} {e:aV} {ps:List Prop} {ans:List (h_ × List aK)} {lps:qQ} {hs:List oh}:bD P ap h0 n code s e s'→PS P ap ps ans lps hs→PS P ap (bD P ap h0 n code s e s'::ps) ans (lps++ [(e,s',some (L,K))]) hs
 |v (d:Nat) {x y:AV} {ps:List Prop} {ans:List (h_ × List aK)} {lps:qQ} {hs:List oh}:bF x y→PS P ap ps ans lps hs→PS P ap (bF x y::ps) ans lps (hs++ [.v d y])
 |b (d:Nat) {x y:List AV} {ps:List Prop} {ans:List (h_ × List aK)} {lps:qQ} {hs:List oh}:x=y→PS P ap ps ans lps hs→PS P ap ((x=y)::ps) ans lps (hs++ [.b d y])
 |u (d:Nat) {x y:List (Option aK)} {ps:List Prop} {ans:List (h_ × List aK)} {lps:qQ} {hs:List oh}:x=y→PS P ap ps ans lps hs→PS P ap ((x=y)::ps) ans lps (hs++ [.u d])
 |f (d:Nat) {ps:List Prop} {ans:List (h_ × List aK)} {lps:qQ} {hs:List oh}:PS P ap ps ans lps hs→PS P ap ps ans lps (hs++ [.f d])
theorem PS.all {P:Program} {ap:AP} {ps:List Prop} {ans:List (h_ × List aK)} {a:qQ} {hs:List oh} (h:PS P ap ps ans a hs):Ir ps:=by
 induction h with
 |nil=>exact .nil
 |c h _ ih=>exact .cons h ih
 |l h _ ih=>exact .cons h ih
 |k _ h _ ih=>exact .cons h ih
 |w _ _ h _ ih=>exact .cons h ih
 |v _ h _ ih=>exact .cons h ih
 |b _ h _ ih=>exact .cons h ih
 |u _ h _ ih=>exact .cons h ih
 |f _ _ ih=>exact ih
theorem ck {P:Program} {ap:AP} (g:yO P ap) {ans:List (h_ × List aK)} {ps:List Prop} {f:Nat} {args:List AV} {h a:List aK} {out:h_} (hp:PS P ap ps ans [] [])
  (he:lL ap (vW P ap 3000 4) 3000 .dead f args h ⟨true,[],[],[],ans,[]⟩= .ok (out,a,.dead) ⟨true,[],[],ps,[],[]⟩):ah P ap f args h out a:=Qb g hp.all he
theorem pk {P:Program} {ap:AP} (g:yO P ap) (d:List Nat) (n k:Nat) {ans:List (h_ × List aK)} {a:qQ} {hs:List oh} {bs:List Bool} {ps:List Prop} {f:Nat} {args:List AV} {h b:List aK} {out:h_}
  (hb:kH bs) (hp:PS P ap ps ans a hs) (he:Nq P ap (vW P ap 3000 4) 3000 d f args h a ⟨false,wE n k,[],[],ans,hs⟩= .ok (out,b,.dead) ⟨false,[],bs,ps,[],[]⟩):ah P ap f args h out b:=by
 obtain ⟨c,e⟩:=iD g.apok g.mixed g.fnok 3000 4;exact Ru g.apok g.mixed g.fnok c e he ⟨hb.mem,hp.all.mem⟩
def Cf (ap:AP) (f:Nat):List Nat:=match ap.fnAt f with|some F=>F.keep|none=> []
def OH (env:dE):R ((aV × St) × qQ)→R ((aV × St) × qQ)
 | .ok ((e,s),l) c=> .ok ((e,⟨env.map fun q=>(q.1,s.env.get q.1),s.hp,s.md,s.dfs⟩),l) c
 |r=>r
def L_ (P:Program) (ap:AP) (h0:List aK) (f nt0:Nat) (ls:List Nat) (code:Code) (s:St) (lps:qQ) (orc:List Bool) (ans:List (h_ × List aK)) (hs:List oh) (env:dE):R ((aV × St) × qQ):=
 match dm nt0 code with
 |true=>OH env (kJ P ap (vW P ap 3000 4) h0 (Cf ap f) 3000 nt0 ls code s lps ⟨false,orc,[],[],ans,hs⟩)
 |false=> .bad 0
theorem Su (env env':dE):∀ t,dE.get (env.map fun q=>(q.1,env'.get q.1)) t=env'.get t∨dE.get (env.map fun q=>(q.1,env'.get q.1)) t= .dead:=by
 intro t
 induction env with
 |nil=>exact .inr rfl
 | cons q r ih=>
  cases a:Δ q.1 t with
  |true=>
   left;have:=Xqq a;subst this;simp only [dE.get,χ,ag,a,Xq9]
  | false=>
   have e:dE.get (Xv9 (fun q=>(q.1,env'.get q.1)) (q::r)) t=dE.get (Xv9 (fun q=>(q.1,env'.get q.1)) r) t:=by
    simp only [dE.get,χ,ag,a]
   rw [e];exact ih
theorem pj {P:Program} {ap:AP} (g:yO P ap) (f:Nat) (h:List Nat) (n k:Nat) {nt nt0:Nat} {ans:List (h_ × List aK)} {b:qQ} {hs:List oh} {bs:List Bool} {ps:List Prop} {a:Code} {s s':St} {h0:List aK} {e:aV}
  (hb:kH bs) (hp:PS P ap ps ans b hs) (hn:nt0≤nt) (he:L_ P ap h0 f nt0 h a s b (wE n k) ans hs s'.env= .ok ((e,s'),[]) ⟨false,[],bs,ps,[],[]⟩):af P ap h0 nt a s e s':=by
 unfold L_ at he;split at he
 ·rename_i l;generalize p:kJ P ap (vW P ap 3000 4) h0 (Cf ap f) 3000 nt0 h a s b ⟨false,wE n k,[],[],ans,hs⟩=r at he;cases r with
  |ok q c=>
   obtain ⟨⟨j,s1⟩,t⟩:=q;simp only [OH,R.ok.injEq,Prod.mk.injEq] at he;obtain ⟨⟨⟨rfl,d⟩,rfl⟩,rfl⟩:=he;obtain ⟨o,u⟩:=iD g.apok g.mixed g.fnok 3000 4;have i:af P ap h0 nt a s j s1:=(rH g.apok g.mixed o hn a (dI hn a l) _ _ _ _ _ p ⟨hb.mem,hp.all.mem⟩).2;refine i.weak (aJ.refl _) ?_;rw [← d];exact ⟨Su _ _,rfl,rfl,rfl⟩
  |need=>simp [OH] at he
  |bad n=>simp [OH] at he
 ·cases he
theorem bF.pp {c f:List AV} {a:Nat} (h:θ a c=f):bF (.pp c a) (.pp f 0):=by
 subst h;intro g m S v d;simp only [VR,PR] at d ⊢;obtain ⟨b,o,vs,rfl,hp,hs⟩:=d;refine ⟨b,o+a,vs.drop a,rfl,oz a hp,fun j u e=> ?_⟩;rw [Xx0] at e;have:=hs (a+j) u e;rwa [← Nat.add_assoc] at this
theorem bF.ppt {e d i:List AV} {a:Nat} (h:θ a e=d++i):bF (.pp e a) (.pp d 0):=by
 intro g m S v f;have:=bF.pp h g m S v f;simp only [VR,PR] at this ⊢;obtain ⟨b,o,vs,rfl,hp,hs⟩:=this;refine ⟨b,o,vs.take d.length,rfl, ?_,fun j u c=> ?_⟩
 ·have:=jB d.length hp;rwa [List.take_left'] at this;rfl
 ·rw [Xxn] at c;split at c
  ·exact hs j u c
  ·cases c
theorem bF.eq {x y:AV} (h:x=y):bF x y:=h ▸ fun _ _ _ _ a=>a
theorem bF.rd (ks:List LK) {c b d:List AV} {a:Nat} (h:θ a c=b++d) (e:JJ true ks (b++d)=b):bF (.agg (kM true ks c a)) (.agg b):= .eq (by unfold kM;rw [h,e])
theorem bF.rd1 (k:LK) {b c:List AV} {y:AV} {a:Nat} (h:θ a b= [y]++c) (d:eta k y=y):bF (eta k ((θ a b).headD .dead)) y:= .eq (by rw [h];exact d)
theorem kH.a {l r:List Bool} (h:kH l) (a:kH r):kH (l++r):=by
 induction h with
 |nil=>exact a
 |t _ ih=>exact .t ih
 |c hb _ ih=>exact .c hb ih
theorem kH.of {l:List Bool} (h:l.all id=true):kH l:=by
 induction l with
 |nil=>exact .nil
 |cons b r ih=>
  simp only [Xx5,id,η] at h;exact .c h.1 (ih h.2)
theorem bQ (ks:List LK) {b d c:List AV} {a:Nat} (h:θ a b=d++c) (e:(Ry true ks (d++c)).all id=true):kH (Gv true ks b a):=by
 unfold Gv;rw [h];exact .of e
inductive QY:List AV→List AV→Prop where
 |nil:QY [] []
 |same {x:AV} {l r:List AV}:QY l r→QY (x::l) (x::r)
 |nilS {l r:List AV}:QY l r→QY (.nilS::l) (.sl [] 0 false::r)
 |sl {xs:List AV} {n:Nat} {a:Bool} {l r:List AV}:QY l r→QY (.sl xs n a::l) (.sl xs n false::r)
theorem QY.prl {S:aB} {l r:List AV} (h:QY l r):∀ {vs:List Value},bu S l vs→bu S r vs:=by
 induction h with
 |nil=>exact fun h=>h
 |same _ ih=>intro vs b;cases vs with|nil=>simp [bu] at b|cons v vs=>simp only [bu] at b ⊢;exact ⟨b.1,ih b.2⟩
 | nilS _ ih=>
  intro vs b;cases vs with
  |nil=>simp [bu] at b
  |cons v vs=>
   simp only [bu,PR] at b ⊢;exact ⟨⟨none,0,b.1,ε _,.inl (by simp)⟩,ih b.2⟩
 | @sl xs n a _ _ _ ih=>
  intro vs b;cases vs with
  |nil=>simp [bu] at b
  |cons v vs=>
   have c:=b;simp only [bu] at c ⊢;refine ⟨?_,ih c.2⟩;have d:=bF.sl xs n a (fun _=>none) (fun _=>(0,0)) S v (by simp only [VR];exact c.1);simpa only [VR] using d
theorem bF.slP {i k:List AV} {n:Nat} {j:Bool} (l:QY i k):bF (.sl i n j) (.sl k n j):=by
 intro g m S v f;simp only [VR,PR] at f ⊢;obtain ⟨a,d,rfl,r,h⟩:=f;refine ⟨a,d,rfl,r, ?_⟩;rcases h with ⟨e,c,p,s⟩|⟨b,o,vs,q,e,c⟩
 ·subst c;cases l;exact .inl ⟨e,rfl,p,s⟩
 ·exact .inr ⟨b,o,vs,q,l.prl e,c⟩
end AM
namespace AM
open Go
variable {P:Program} {ap:AP}
theorem af.norm {h0:List aK} {nt:Nat} {b:Code} {s s1:St} {e:aV} (keep:List Nat) (l:∀ v,e= .panic v→(cZ v).isEmpty=true) (h:af P ap h0 nt b s e s1):af P ap h0 nt b s e (AM.norm h0.length keep s1):=by
 intro hs;obtain ⟨n,f⟩:=h hs;refine ⟨n,fun m0 S0 w0 m S w a d p Q k=>f m0 S0 w0 m S w a d p Q ?_⟩;intro t S' w' a' r q;obtain ⟨o,j,i⟩:=jd (keep:=keep) r q;have:=k o S' w' a' j i;clear k j i f;generalize AM.norm h0.length keep s1=s2 at*
 cases e with
 |normal=>exact this
 |exit id=>exact this
 |ret=>exact this
 |panic v=>intro cv c;exact this cv (d_ _ (lm (l v rfl) c))
def aeB:aV→Bool
 | .panic v=>(cZ v).isEmpty
 |_=>true
def Oy (base:Nat) (env:dE):R ((aV × St) × qQ)→R ((aV × St) × qQ)
 | .ok ((e,s),l) c=>match aeB e with
  |true=> .ok ((e,norm base (env.map fun q=>q.1) s),l) c
  |false=> .bad 1
 |r=>r
def L9 (P:Program) (ap:AP) (h0:List aK) (f nt0:Nat) (ls:List Nat) (code:Code) (s:St) (lps:qQ) (orc:List Bool) (ans:List (h_ × List aK)) (hs:List oh) (env:dE):R ((aV × St) × qQ):=
 match dm nt0 code with
 |true=>Oy h0.length env (kJ P ap (vW P ap 3000 4) h0 (Cf ap f) 3000 nt0 ls code s lps ⟨false,orc,[],[],ans,hs⟩)
 |false=> .bad 0
theorem pn (g:yO P ap) (f:Nat) (i:List Nat) (n k:Nat) {nt nt0:Nat} {ans:List (h_ × List aK)} {b:qQ} {hs:List oh} {bs:List Bool} {ps:List Prop} {a:Code} {s s':St} {h0:List aK} {e:aV}
  (hb:kH bs) (hp:PS P ap ps ans b hs) (hn:nt0≤nt) (he:L9 P ap h0 f nt0 i a s b (wE n k) ans hs s'.env= .ok ((e,s'),[]) ⟨false,[],bs,ps,[],[]⟩):af P ap h0 nt a s e s':=by
 unfold L9 at he;split at he
 ·rename_i l;generalize u:kJ P ap (vW P ap 3000 4) h0 (Cf ap f) 3000 nt0 i a s b ⟨false,wE n k,[],[],ans,hs⟩=r at he;cases r with
  | ok q c=>
   obtain ⟨⟨t,s1⟩,x⟩:=q;simp only [Oy] at he;split at he
   ·rename_i d;simp only [R.ok.injEq,Prod.mk.injEq] at he;obtain ⟨⟨⟨rfl,h⟩,rfl⟩,rfl⟩:=he;obtain ⟨p,y⟩:=iD g.apok g.mixed g.fnok 3000 4;have j:af P ap h0 nt a s t s1:=(rH g.apok g.mixed p hn a (dI hn a l) _ _ _ _ _ u ⟨hb.mem,hp.all.mem⟩).2;have:=j.norm (s'.env.map fun q=>q.1) (fun v o=>by subst o;exact d);rwa [h] at this
   ·cases he
  |need=>simp [Oy] at he
  |bad n=>simp [Oy] at he
 ·cases he
end AM
namespace AM
open Go
variable {P:Program} {ap:AP}
def goL {α σ β:Type} (F:σ→α→σ ⊕ β) (fin:σ→β):List α→σ→β
 | [],s=>fin s
 |x::r,s=>match F s x with
  | .inl s'=>goL F fin r s'
  | .inr b=>b
theorem aP.goL {α σ β:Type} {h0:List aK} {nt:Nat} {b:Code} {e:β→aV} {st:Nat × σ→St} {out:β→St} (F:σ→α→σ ⊕ β) (a:σ→β) (L:List α) (Inv:List α→σ→Prop)
  (hstep:∀ p x r s,L=p++x::r→Inv p s→match F s x with
   | .inl s'=>af P ap h0 nt b (st (p.length,s)) .normal (st (p.length+1,s'))∧Inv (p++ [x]) s'
   | .inr q=>af P ap h0 nt b (st (p.length,s)) (e q) (out q))
  (hend:∀ s,Inv L s→af P ap h0 nt b (st (L.length,s)) (e (a s)) (out (a s))):
  ∀ (r p:List α) (s:σ),L=p++r→Inv p s→aP P ap h0 nt b e st out (p.length,s) (AM.goL F a r s):=by
 intro r
 induction r with
 |nil=>
  intro p s h d;rw [υ] at h;subst h;exact .done (hend s d)
 | cons x r ih=>
  intro p s h d;have c:=hstep p x r s h d;simp only [AM.goL];cases f:F s x with
  |inl s'=>
   rw [f] at c;have i:=ih (p++ [x]) s' (by rw [h];simp) c.2;rw [ο,List.length_singleton] at i;exact .next c.1 i
  |inr q=>
   rw [f] at c;exact .done c
end AM
namespace AM
open Go Go.WideShapes Go.ChangeShapes
theorem ER {a:Addr} (h:a.spot=none) (n:Nat):a.add n=⟨a.block,a.off+n,none⟩:=by
 unfold Addr.add;obtain ⟨b,o,s⟩:=a;simp only at h;subst h;split
 ·rename_i c;subst c;rfl
 ·rfl
section
variable {H:Type} {enc:TypeId × Value→H} {P:Program} {w:World} {base:Nat} {spare:Nat→Bool} {held:Bool}
end
end AM
namespace AM
open Go Go.WideShapes Go.ChangeShapes
section
variable {H:Type} {enc:TypeId × Value→H} {P:Program} {w:World} {base:Nat} {spare:Nat→Bool} {held:Bool}
theorem Kq {u e:TypeId} (b:P.underlying u=some (.slice e)) {base':Nat} {v:Value} (h:Value.okWide P w .any base' u v):v.cells.toList= [v]:=by
 obtain ⟨a,l,c,rfl⟩:=okWide_slice b h;rfl
end
end AM
namespace AM
open Go Go.WideShapes Go.ChangeShapes
inductive DK where
 |int (k:IntKind)
 |bool
 |str
 |slc (l:List DK)
def BD (P:Program) (f:TypeId→Option (List DK)):List Field→Nat→Option (List DK)
 | [],_=>some []
 | x::r,off=>match f x.type with
  | some l=>match Δ x.offset off && Δ (P.cellsOf x.type) l.length with
   |true=>match BD P f r (off+l.length) with
    |some q=>some (l++q)
    |none=>none
   |false=>none
  |none=>none
def EX (P:Program):Nat→TypeId→Option (List DK)
 |0,_=>none
 | n+1,t=>match P.underlying t with
  |some (.int k)=>some [.int k]
  |some .bool=>some [.bool]
  |some .string=>some [.str]
  |some (.struct fs)=>match BD P (EX P n) fs.toList 0 with
   |some l=>match Δ (P.cellsOf t) l.length with|true=>some l|false=>none
   |none=>none
  |some (.slice e)=>match EX P n e with
   |some l=>match Δ (P.cellsOf e) l.length && Nat.ble 1 l.length with|true=>some [.slc l]|false=>none
   |none=>none
  |_=>none
inductive fG (b:Nat):List DK→List AV→Prop
 |nil:fG b [] []
 |int {k:IntKind} {n:Int} {r:List DK} {l:List AV}:fG b r l→fG b (.int k::r) (.int k n::l)
 |bool {x:Bool} {r:List DK} {l:List AV}:fG b r l→fG b (.bool::r) (.bool x::l)
 |str {s:List UInt8} {r:List DK} {l:List AV}:s.length≤b→fG b r l→fG b (.str::r) (.str s::l)
 |slc {ks:List DK} {L:List (List AV)} {r:List DK} {l:List AV}:(∀ x ∈ L,fG b ks x)→L.length≤b→fG b r l→fG b (.slc ks::r) (.sl L.flatten L.length false::l)
theorem fG.mono {b c:Nat} (h:b≤c) {ks:List DK} {a:List AV} (d:fG b ks a):fG c ks a:=by
 induction d with
 |nil=>exact .nil
 |int _ ih=>exact .int ih
 |bool _ ih=>exact .bool ih
 |str hs _ ih=>exact .str (Xqh hs h) ih
 |slc _ hl _ ihx ih=>exact .slc ihx (Xqh hl h) ih
theorem fG.app {b:Nat} {k1 k2:List DK} {a c:List AV} (h:fG b k1 a) (d:fG b k2 c):fG b (k1++k2) (a++c):=by
 induction h with
 |nil=>exact d
 |int _ ih=>exact .int ih
 |bool _ ih=>exact .bool ih
 |str hs _ ih=>exact .str hs ih
 |slc hx hl _ _ ih=>exact .slc hx hl ih
structure acD {H:Type} (bk:DataW H→Nat):Prop where
 str:∀ s:List UInt8,s.length≤bk (.lit (.string s))
 agg:∀ l:List (DataW H),∀ d ∈ l,bk d≤bk (.agg l)
 slc:∀ l r:List (DataW H),(∀ d ∈ l,bk d≤bk (.slice l r))∧l.length≤bk (.slice l r)
section
variable {H:Type} {enc:TypeId × Value→H} {P:Program} {w:World} {base:Nat} {spare:Nat→Bool} {held:Bool} {bk:DataW H→Nat}
theorem yY {n B:Nat} {f:TypeId→Option (List DK)} (d:∀ t ks,f t=some ks→∀ (fuel:Nat) (cs:List Value) (x:DataW H × List MemPlace),DataW.trod enc P w base spare held fuel t cs=some x→∃ xs,fG (bk x.1) ks xs∧bu (iG w) xs cs∧∀ u ∈ cs,u.oneCell'=true) {cs:List Value}:∀ (r:List Field) (off:Nat) (ks:List DK),BD P f r off=some ks→
  (∀ (i:Nat) (x:Field),r[i]? =some x→∃ y,DataW.trod enc P w base spare held n x.type ((cs.drop x.offset).take (P.cellsOf x.type))=some y∧bk y.1≤B)→∃ xs,fG B ks xs∧bu (iG w) xs ((cs.drop off).take ks.length)∧∀ u ∈ (cs.drop off).take ks.length,u.oneCell'=true
 | [],off,ks,h,_=>by
  simp only [BD] at h;cases h;exact ⟨[],.nil,by simp [bu],by simp⟩
 | x ::r,off,ks,h,hx=>by
  simp only [BD] at h;split at h
  ·rename_i l G;split at h
   ·rename_i b;simp only [η] at b;have z:=Xqq b.1;have A:=Xqq b.2;split at h
    ·rename_i q D;cases h;obtain ⟨y,j,k⟩:=hx 0 x rfl;obtain ⟨C,F,e,c⟩:=d _ _ G _ _ _ j;rw [z,A] at e c;obtain ⟨E,p,v,s⟩:=yY d r (off+l.length) q D (fun i f o=>hx (i+1) f (by simpa using o));refine ⟨C++E,(F.mono k).app p, ?_, ?_⟩
     ·rw [ο,Xkz,Xjj];exact jb e v
     ·rw [ο,Xkz,Xjj];intro u a;rcases List.mem_append.1 a with a|a
      ·exact c u a
      ·exact s u a
    ·cases h
   ·cases h
  ·cases h
theorem yP {S:aB}:∀ {L:List (List AV)} {M:List (List Value)},L.length=M.length→(∀ (i:Nat) (x:List AV) (m:List Value),L[i]? =some x→M[i]? =some m→bu S x m)→bu S L.flatten M.flatten
 | [],[],_,_=>by simp [bu]
 |x::L,m::M,h,hp=>by
  rw [Xjp,Xjp];exact jb (hp 0 x m rfl rfl) (yP (by simpa using h) fun i d b a c=>hp (i+1) d b (by simpa using a) (by simpa using c))
 | [],_::_,h,_=>by simp at h
 |_::_,[],h,_=>by simp at h
theorem Qd (hk:acD bk) (hsp:∀ b,spare b=true):∀ (n:Nat) (t:TypeId) (ks:List DK),EX P n t=some ks→∀ (A:Nat) (cs:List Value) (x:DataW H × List MemPlace),DataW.trod enc P w base spare held A t cs=some x→
  ∃ R,fG (bk x.1) ks R∧bu (iG w) R cs∧∀ u ∈ cs,u.oneCell'=true:=by
 intro n
 induction n with
 |zero=>intro t ks h;simp [EX] at h
 | succ n ih=>
  intro t ks h A cs x v;simp only [EX] at h;split at h
  ·rename_i k y;cases h;obtain ⟨m,rfl,_⟩:=DataW.trod_int y v;exact ⟨[.int k m],.int .nil,by simp [bu,PR],by simp [Value.oneCell']⟩
  ·rename_i y;cases h;obtain ⟨b,rfl,_⟩:=DataW.trod_bool y v;exact ⟨[.bool b],.bool .nil,by simp [bu,PR],by simp [Value.oneCell']⟩
  ·rename_i y;cases h;obtain ⟨s,rfl,rfl,_⟩:=DataW.trod_string y v;exact ⟨[.str s.data.toList],.str (hk.str _) .nil,by simp [bu,PR],by simp [Value.oneCell']⟩
  ·rename_i fs y;split at h
   ·rename_i l hl;split at h
    ·rename_i O;cases h;obtain ⟨R,m,rfl,rfl,C,hxl,D⟩:=DataW.trod_struct y v;have e:=Xqq O;obtain ⟨X,d1,Z,Q⟩:=yY (n:=m) (B:=bk (.agg (R.map (·.1)))) ih (cs:=cs) fs.toList 0 ks hl (fun i f hf=>by
      have U:fs[i]? =some f:=by simpa using hf
      have K:=D i f U;have r:i<R.length:=by rw [hxl];exact (Array.getElem?_eq_some_iff.1 U).1
      rw [ζ r] at K;exact ⟨_,K,hk.agg _ _ (List.mem_map.2 ⟨_,Xx1 r,rfl⟩)⟩)
     rw [List.drop_zero,List.take_of_length_le (by omega)] at Z Q;exact ⟨X,d1,Z,Q⟩
    ·cases h
   ·cases h
  ·rename_i e y;split at h
   ·rename_i l hl;split at h
    ·rename_i O;cases h;simp only [η] at O;have hce:=Xqq O.1;have hpos:=Nat.le_of_ble_eq_true O.2;rcases DataW.trod_slice y v with ⟨rfl,rfl⟩|⟨a,len,J,elems,rest,m,_,rfl,rfl,_,hlc,hm,C,T,hre,_⟩
     ·refine ⟨[.sl [] 0 false],.slc (L:= []) (by simp) (by simp) .nil, ?_,by simp [Value.oneCell']⟩;simp only [bu,PR,and_true];exact ⟨none,0,rfl,ε _,.inl ⟨fun _=>trivial,trivial,trivial,rfl⟩⟩
     ·obtain ⟨b1,b2⟩:=hk.slc (elems.map (·.1)) (rest.map (·.1));generalize hB:bk (.slice (elems.map (·.1)) (rest.map (·.1)))=B at b1 b2;have hspot:0<J→a.spot=none:=by
       intro hc;have key:∃ c,w.cells? base (a.add 0) (P.cellsOf e)=some c:=by
        rcases Xxg len with h0|h0
        ·obtain ⟨r1,r2⟩:=hre (hsp _);have E:=r2 0 (by omega);rw [ζ (by omega)] at E;obtain ⟨c,z,_⟩:=Option.bind_eq_some_iff.1 E;rw [h0,Xqt,Xzg] at z;exact ⟨c,z⟩
        ·have E:=T 0 h0;rw [ζ (by omega)] at E;obtain ⟨c,z,_⟩:=Option.bind_eq_some_iff.1 E;rw [Xzg] at z;exact ⟨c,z⟩
       obtain ⟨c,z⟩:=key;obtain ⟨_,h9,F⟩:=World.cells?_some z;have p:=F 0 (by omega);have ez:(a.add 0).add 0=a:=by simp [Addr.add]
       rw [ez] at p;have r:0<c.length:=by omega
       rw [ζ r] at p;exact World.cell?_spot p
      have key:∀ q,q≤len→∃ (L:List (List AV)) (M:List (List Value)),L.length=q∧M.length=q∧(∀ x ∈ L,fG B l x)∧(∀ (i:Nat) (x:List AV) (m:List Value),L[i]? =some x→M[i]? =some m→bu (iG w) x m)∧M.flatten.length=q*l.length∧(∀ u ∈ M.flatten,u.oneCell'=true)∧∀ j u,M.flatten[j]? =some u→iG w a.block (a.off+j)=some u:=by
       intro q
       induction q with
       |zero=>intro _;exact ⟨[],[],rfl,rfl,by simp,by simp,by simp,by simp,by simp⟩
       | succ q ihq=>
        intro hq;obtain ⟨L,M,V,W,K,G,Y,I,h4⟩:=ihq (by omega);have E:=T q (by omega);rw [ζ (by omega)] at E;obtain ⟨c,z,h7⟩:=Option.bind_eq_some_iff.1 E;obtain ⟨X,d1,Z,Q⟩:=ih e l hl _ _ _ h7;obtain ⟨_,h9,F⟩:=World.cells?_some z;have hs:=hspot (by omega);have d2:fG B l X:=d1.mono (b1 _ (List.mem_map.2 ⟨_,Xx1 _,rfl⟩));refine ⟨L++ [X],M++ [c],by simp [V],by simp [W], ?_, ?_, ?_, ?_, ?_⟩
        ·intro x v;rcases List.mem_append.1 v with v|v
         ·exact K x v
         ·simp at v;subst v;exact d2
        ·intro i x m D d;rw [Xw9] at D d;split at D
         ·rename_i r;rw [if_pos (by omega)] at d;exact G i x m D d
         ·rename_i r;rw [if_neg (by omega)] at d;have e0:i - L.length=0:=by
           have:=(List.getElem?_eq_some_iff.1 D).1;simp at this;omega
          have e1:i - M.length=0:=by omega
          rw [e0] at D;rw [e1] at d;cases D;cases d;exact Z
        ·rw [Xz2,ο,Y];simp only [Xjp,Xv5,υ];rw [Nat.succ_mul];omega
        ·intro u N;rw [Xz2] at N;rcases List.mem_append.1 N with N|N
         ·exact I u N
         ·exact Q u (by simpa using N)
        ·intro j u d;rw [Xz2,Xw9] at d;split at d
         ·exact h4 j u d
         ·rename_i hjl;simp only [Xjp,Xv5,υ] at d;have h11:=(List.getElem?_eq_some_iff.1 d).1;have p:=F (j - M.flatten.length) (by omega);rw [d,ER hs,ER rfl] at p;refine F_ ?_ (Q u (Γ d));rw [← p,Y,hce];congr 2;have:q*l.length≤j:=by rw [← Y];omega
          simp only;omega
      obtain ⟨L,M,V,W,K,G,Y,I,h4⟩:=key len (ε _);have hlB:L.length≤B:=by rw [V,← C];simpa using b2
      refine ⟨[.sl L.flatten L.length false],.slc K hlB .nil, ?_,by simp [Value.oneCell']⟩;simp only [bu,PR,and_true];refine ⟨some a,J,by rw [V],by rw [V];exact hlc, ?_⟩;rcases Xxg J with hc|hc
      ·have h0:len=0:=by omega
       have:L= []:=Xxd (by omega);subst this;exact .inl ⟨fun _=>trivial,rfl,rfl,hc⟩
      ·refine .inr ⟨a.block,a.off,M.flatten, ?_,yP (by omega) G,fun j u d=> ⟨h4 j u d,I u (Γ d)⟩⟩;have hs:=hspot hc;obtain ⟨b,o,s⟩:=a;simp only at hs;subst hs;rfl
    ·cases h
   ·cases h
  ·cases h
end
end AM
namespace AM
open Go
variable {P:Program} {ap:AP} {H:bI}
def Uy (ap:AP) (n:Nat) (F:Func) (env:dE) (hp:Hp):Option (h_ × List aK):=
 let rd:=ag hp
 match f_ (t_ ap env hp) F.results.toList,f_ rd (Xqf n) with
 | some vs,some h'=>
  match h'.all (fun B=>B.pr||(bG B.cells).all fun b=>Xq5 b n) && (vs.flatMap fun (q:AV × List Bool)=>q.2).all id with
  |false=>none
  |true=>
   let all:=vs.flatMap fun (q:AV × List Bool)=>lM rd 6 (fO (cZ q.1))
   match f_ (nD n rd all) (vs.map fun (q:AV × List Bool)=>q.1) with
   |some [v]=>some (.ret v,h')
   |some l=>some (.ret (.tup l),h')
   |none=>none
 |_,_=>none
theorem zB (u:dF P ap) {n:Nat} {h0 s:List aK} (z:h0.length≤n) {I:Func} {env:dE} {hp:Hp} {out:h_} (h:Uy ap n I env hp=some (out,s)) {m m0:aI} {S S0:aB} {w w0:World} {tmps:Array Value}:
  h0.length≤s.length∧(bi ap (ag hp) m S w→Fr (aC h0) m0 S0 w0 (ag hp) m S w→(∀ t,VR (ag hp) m S (env.get t) (tmps.getD t undef))→
   ∃ cv,(results I tmps).run P w= .ok cv w∧∃ o S',zO ap h0 m0 S0 w0 out s o S' w (.returned cv)):=by
 unfold Uy at h;dsimp only at h;split at h
 ·rename_i vs K k c;split at h
  ·cases h
  ·rename_i G;rw [η] at G;obtain ⟨hbase,d⟩:=G;have d:∀ b ∈ vs.flatMap (·.2),b=true:=fun b hm=>List.all_eq_true.1 d b hm
   split at h
   ·rename_i v j;cases h;have hlen':h0.length≤s.length:=by rw [(fA c).1];simpa using z
    refine ⟨hlen',fun r i B=> ?_⟩;obtain ⟨cvs,E,p,D⟩:=iZ u r B k d;have a:(vs.flatMap fun q=>lM (ag hp) 6 (fO (cZ q.1)))=(vs.map (·.1)).flatMap (cl (ag hp)):=by rw [Xzv];rfl
    rw [a] at j;obtain ⟨o,S',y,A,C⟩:=lT r i p z j c hbase;have F:cvs.length=1:=by
     have:=aY p;have e:=(fA j).1;simp at e this;omega
    match cvs,F with
    | [cv],_=>
     obtain ⟨e,J⟩:=Iu C;refine ⟨cv,kN E D,o,S', ?_⟩;rw [← J] at y A;refine ⟨y,A,cv,rfl, ?_⟩;rw [J];exact e
   ·rename_i l f j;cases h;have hlen':h0.length≤s.length:=by rw [(fA c).1];simpa using z
    refine ⟨hlen',fun r i B=> ?_⟩;obtain ⟨cvs,E,p,D⟩:=iZ u r B k d;have a:(vs.flatMap fun q=>lM (ag hp) 6 (fO (cZ q.1)))=(vs.map (·.1)).flatMap (cl (ag hp)):=by rw [Xzv];rfl
    rw [a] at j;obtain ⟨o,S',y,A,C⟩:=lT r i p z j c hbase;have x:OB cvs= .tuple cvs.toArray:=by
     match cvs with
     | []=>rfl
     | [cv]=>
      exfalso;have:=aY p;have e:=(fA j).1;simp at e this
      match l,f with
      | [],_=>simp at e;omega
      | [v],f=>exact f v rfl
      |_::_::_,_=>simp at e;omega
     |_::_::_=>rfl
    refine ⟨_,kN E D,o,S',y,A, ?_⟩;rw [x];exact ⟨_,rfl,cvs,rfl,C⟩
   ·cases h
 ·cases h
theorem jm (g:yO P ap) (n:Nat) {f:Nat} {F:AF} (o:ap.fnAt f=some F) {args:List AV} {h0 t:List aK} {out:h_} {s:St} {nt0:Nat} (q:F.fn.ntmps=nt0) (j:∀ nt,nt0≤nt→af P ap h0 nt (ae F.fn) (dO .dead args h0) .ret s) (E:s.dfs= []) (u:h0.length≤n) (y:Uy ap n F.fn s.env s.hp=some (out,t)):ah P ap f args h0 out t:=by
 obtain ⟨e,_⟩:=zB (P:=P) (m:=fun _=>(0,0)) (m0:=fun _=>(0,0)) (S:=fun _ _=>none) (S0:=fun _ _=>none) (w:=default) (w0:=default) (tmps:=#[]) g.apok u y;subst q;refine ⟨e,sO g.fnok o,fun m S w cargs G z=> ?_⟩;obtain ⟨i,r,v⟩:=g.fnok.body f F o;have hbody:ae F.fn=i:=by simp [ae,r]
 rw [hbody] at j;obtain ⟨I,c⟩:=Ai (md:= .dead) G z F.fn.ntmps;have c:FR ap (dO .dead args h0).env (dO .dead args h0).hp (dO .dead args h0).dfs _ m S w _:=c;have l:F.fn.ntmps≤(cargs.toArray++Array.replicate (F.fn.ntmps - cargs.toArray.size) undef).size:=by simp;omega
 obtain ⟨_,j⟩:=j _ l rfl;refine calls_of_wp_defers (g.fnok.fn f F o) r ?_;refine j m S w m S w _ (by rw [I];exact Fr.refl _ _ _ _) c _ ?_;intro B S' w' a' L a;obtain ⟨_,N⟩:=nG g.apok (iD g.apok g.mixed g.fnok 3000 4).2 [] .nilI .nilI s.hp s.hp ⟨false,[],[],[],[],[]⟩ _ rfl ⟨fun b h=>(by cases h),fun p h=>(by cases h)⟩;have d:=a.dfs;rw [E] at d;refine N h0 F.fn a'.tmps s.env _ m S w B S' w' a'.defers .returning a.srel L a.env d rfl ?_;intro A S2 w2 O D K J x;simp only [oq] at x;subst x;obtain ⟨_,k⟩:=zB (P:=P) (m:=A) (m0:=m) (S:=S2) (S0:=S) (w:=w2) (w0:=w) (tmps:=a'.tmps) g.apok u y;obtain ⟨cv,C,M⟩:=k D K J;exact ⟨cv,C,M⟩
end AM
namespace AM
open Go
open Go.ChangeMaps (setBlock)
section
variable {P:Program} {ap:AP} {h0:List aK} {nt:Nat}
def iH (P:Program) (ap:AP) (h0:List aK) (nt:Nat) (code:Code) (s:St) (Post:aV→St→Prop):Prop:=
 s.md= .dead→(∀ e s',Post e s'→s'.md= .dead)∧∀ m0 S0 w0 m S w a,Fr (aC h0) m0 S0 w0 (ag s.hp) m S w→FR ap s.env s.hp s.dfs nt m S w a→∀ Q,(∀ e s',Post e s'→XA ap h0 m0 S0 w0 nt s' e Q)→code.wp P Q a w
theorem af.any {b:Code} {s s':St} {e:aV} {Post:aV→St→Prop} (h:af P ap h0 nt b s e s') (hp:Post e s') (hm:∀ e s',Post e s'→s'.md= .dead):iH P ap h0 nt b s Post:=
 fun c=> ⟨hm,fun m0 S0 w0 m S w a d i Q f=>(h c).2 m0 S0 w0 m S w a d i Q (f _ _ hp)⟩
theorem iH.one {b:Code} {s s':St} {e:aV} (h:iH P ap h0 nt b s fun e1 s1=>e1=e∧s1=s'):af P ap h0 nt b s e s':=fun c=>
 ⟨(h c).1 _ _ ⟨rfl,rfl⟩,fun m0 S0 w0 m S w a d f Q i=>(h c).2 m0 S0 w0 m S w a d f Q fun e1 s1 ⟨h1,h2⟩=>by subst h1;subst h2;exact i⟩
theorem iH.seq {x y:Code} {s:St} {A Post:aV→St→Prop} (o:iH P ap h0 nt x s A) (l:∀ s1,A .normal s1→iH P ap h0 nt y s1 Post) (i:∀ e s1,A e s1→e ≠ .normal→Post e s1) (hm:∀ e s',Post e s'→s'.md= .dead):iH P ap h0 nt (.seq x y) s Post:=by
 intro j;obtain ⟨n,q⟩:=o j;refine ⟨hm,fun m0 S0 w0 m S w a k p Q h=>wp_seq (q m0 S0 w0 m S w a k p _ fun e s1 f=> ?_)⟩;cases e with
 |normal=>intro d S' w' a' c b;exact (l s1 f (n _ _ f)).2 m0 S0 w0 d S' w' a' c b Q h
 |exit id=>intro d S' w' a' c b;exact h _ _ (i _ _ f (by simp)) d S' w' a' c b
 |ret=>intro d S' w' a' c b;exact h _ _ (i _ _ f (by simp)) d S' w' a' c b
 |panic v=>intro d S' w' a' c b;exact h _ _ (i _ _ f (by simp)) d S' w' a' c b
def KH (P:Program) (ap:AP) (nt:Nat) (ops:List Oper) (k:Nat) (s s':St):Prop:=
 s.md= .dead→s'.md= .dead∧∀ m S w a,FR ap s.env s.hp s.dfs nt m S w a→∀ Q,(∀ m' S' w' a',Fr (ag s.hp) m S w (ag s'.hp) m' S' w'→FR ap s'.env s'.hp s'.dfs nt m' S' w' a'→Q .normal a' w')→wpOps P ops.toArray Q (List.range' k (ops.length - k)) a w
theorem Ql {H:bI} (j:dF P ap) (x:gY P ap H) {ops:List Oper} {k:Nat} (f:ops.all (uK nt)=true) {s:St} {r:RS} {c c':Cx} (h:og ap H ops (ops.drop k) (fB s.hp) {env:=s.env,hp:=s.hp,md:=s.md,dfs:=s.dfs,dec:= [],feet:= []} c= .ok (r,none) c') (y:c'.Ok):
  c.Ok∧KH P ap nt ops k s ⟨r.env,r.hp,r.md,r.dfs⟩:=by
 have C:∀ o ∈ ops,∀ d,o.dst=some d→d<nt:=by
  intro o q d l;have:=List.all_eq_true.1 f o q;simp only [uK,l] at this;exact dR this
 obtain ⟨u,A⟩:=ku j x C (ops.drop k) k (fB s.hp) {env:=s.env,hp:=s.hp,md:=s.md,dfs:=s.dfs,dec:= [],feet:= []} r none c c' h y;refine ⟨u,fun i=> ?_⟩;obtain ⟨p,n⟩:=A i (fun t b e=>by cases e) rfl (fun b B e=>lG e);refine ⟨p,fun m S w a z Q v=> ?_⟩;have:=n m S w a z Q v;rwa [List.length_drop] at this
theorem JS {w w':World} {r k z:Nat} {cur:Array Value} {e:TypeId} {i:Option Nat} {l d:Nat} {f:Array Nat} (n:w.heap[r]? =some (.mapIter i l f d)) (c:∀ k,k ≠ r→w'.heap[k]? =w.heap[k]?) (h:gy w k z cur e):k ≠ r∧gy w' k z cur e:=by
 have a:k ≠ r:=by
  rintro rfl
  rcases h with ⟨_,h⟩|⟨_,es,clk,h,_⟩<;>(rw [n] at h;cases h)
 refine ⟨a, ?_⟩;rcases h with ⟨b,h⟩|⟨b,es,clk,h,j⟩
 ·exact .inl ⟨b,by rw [c k a];exact h⟩
 ·exact .inr ⟨b,es,clk,by rw [c k a];exact h,j⟩
theorem bi.iter {g:bP} {m:aI} {S:aB} {w w':World} {r:Nat} {x f:Option Nat} {z n c d:Nat} {s i:Array Nat} (h:bi ap g m S w) (j:w.heap[r]? =some (.mapIter x z s n)) (y:w'.heap[r]? =some (.mapIter f c i d)) (l:∀ k,k ≠ r→w'.heap[k]? =w.heap[k]?):bi ap g m S w':=by
 refine ⟨h.inj,fun b B p=> ?_,fun k o v u=> ?_,h.own,h.glob⟩
 ·obtain ⟨⟨cur,e,vs,rest,a,A⟩,t,q⟩:=h.blk b B p;exact ⟨⟨cur,e,vs,rest,(JS j l a).2,A⟩,t,q⟩
 ·have a:=h.sealed k o v u;by_cases e:k=r
  ·subst e;exfalso;unfold bZ at a;rw [j] at a;simp [World.cell?,j] at a
  ·unfold bZ at a ⊢;simp only [World.cell?] at a ⊢;rw [l k e];exact a
theorem FR.iter {env:dE} {hp:Hp} {dfs:List (Nat × List AV)} {m:aI} {S:aB} {w w':World} {a:Act} {r:Nat} {l d:Option Nat} {o i e b:Nat} {j f:Array Nat} (h:FR ap env hp dfs nt m S w a) (p:w.heap[r]? =some (.mapIter l o j i)) (c:w'.heap[r]? =some (.mapIter d e f b)) (n:∀ k,k ≠ r→w'.heap[k]? =w.heap[k]?):FR ap env hp dfs nt m S w' a:=
 ⟨h.srel.iter p c n,h.env,h.dfs,h.size⟩
theorem FR.dead {env:dE} {hp:Hp} {dfs:List (Nat × List AV)} {m:aI} {S:aB} {w:World} {a:Act} {d:Nat} (h:FR ap env hp dfs nt m S w a) (b:env.get d= .dead) (v:Value):FR ap env hp dfs nt m S w (a.put (some d) v):=by
 refine ⟨h.srel,fun t=> ?_, ?_,by rw [aG];exact h.size⟩
 ·by_cases e:t=d
  ·subst e;rw [b];simp [VR]
  ·rw [jZ a (some d) v (by simpa using fun h=>e h.symm)];exact h.env t
 ·rw [l_];exact h.dfs
theorem Fr.iter {n g:bP} {m0 m:aI} {S0 S:aB} {w0 w w':World} {r:Nat} {y f:Option Nat} {z p i c:Nat} {u l:Array Nat} (h:Fr n m0 S0 w0 g m S w) (h0:w0.heap.size≤r) (A:w.heap[r]? =some (.mapIter y z u p)) (d:w'.heap[r]? =some (.mapIter f i l c)) (o:∀ k,k ≠ r→w'.heap[k]? =w.heap[k]?) (hs:w'.heap.size=w.heap.size) (q:w'.os=w.os) (s:w'.tape=w.tape) (v:w'.output=w.output):Fr n m0 S0 w0 g m S w':=
 ⟨h.ge,h.sle,q.trans h.os,s.trans h.tape,v.trans h.output,by rw [hs];exact h.size,fun k j x=>by rw [o k (by omega)];exact h.rest k j x,h.img,h.sealN,fun b B t es clk a=>by
  by_cases e:(m b).1=r
  ·rw [e,d] at a;cases a
  ·rw [o _ e] at a;exact h.mw b B t es clk a⟩
def xJ (es:Array MapEntry) (i:Nat):Nat:=(es.toList.map (·.born)).getD i 0
def dD (es:Array MapEntry) (done:List Nat):Array Nat:=(done.reverse.map (xJ es)).toArray
theorem zL (es:Array MapEntry) (done:List Nat) (i:Nat):(dD es done).push (xJ es i)=dD es (i::done):=by
 apply Array.toList_inj.1;simp [dD]
theorem sQ {es:Array MapEntry} {i:Nat} {e:MapEntry} (h:es.toList[i]? =some e):xJ es i=e.born:=by
 unfold xJ;rw [π,Ψ,h];rfl
theorem Ji {es:Array MapEntry} {done:List Nat} {e:MapEntry} (h:e ∈ (leftOf es (dD es done)).toList):∃ i,es.toList[i]? =some e∧i ∉ done:=by
 unfold leftOf at h;rw [Array.toList_filter,Xxa] at h;obtain ⟨b,c⟩:=h;obtain ⟨i,a⟩:=Xxm b;refine ⟨i,a,fun d=> ?_⟩;have:e.born ∈ dD es done:=by
  simp only [dD,Xv6,Xw3,Xv7];exact ⟨i,d,sQ a⟩
 simp [this] at c
theorem Fh {es:Array MapEntry} {clk:Nat} {done:List Nat} (d:uH es clk) (n:∀ j ∈ done,j<es.size) (h:(leftOf es (dD es done)).size=0):∀ i,i<es.size→i ∈ done:=by
 intro i k;refine Classical.byContradiction fun l=> ?_
 have a:i<es.toList.length:=by simpa using k
 have o:es.toList[i]? =some es.toList[i]:=ζ a;have hm:es.toList[i] ∈ (leftOf es (dD es done)).toList:=by
  unfold leftOf;rw [Array.toList_filter,Xxa];refine ⟨Xx1 a, ?_⟩;have hs:es.toList[i].born ∉ dD es done:=by
   simp only [dD,Xv6,Xw3,Xv7]
   rintro ⟨j,hj,e⟩
   have b:j<es.toList.length:=by simpa using n j hj
   rw [sQ (ζ b)] at e;have c:=List.pairwise_iff_getElem.1 d.1;have:j=i:=by
    rcases Xx9 j i with hlt|heq|hlt
    ·exact (c j i (by simpa using b) (by simpa using a) hlt (by rw [Xzb,Xzb];exact e)).elim
    ·exact heq
    ·exact (c i j (by simpa using a) (by simpa using b) hlt (by rw [Xzb,Xzb];exact e.symm)).elim
   exact l (this ▸ hj)
  rw [Xqk,Bool.eq_false_iff];intro f;exact hs (by simpa using f)
 rw [Array.eq_empty_of_size_eq_zero h] at hm;simp at hm
def pg (P:Program) (ap:AP) (nt:Nat) (REST:Code) (pt:Value) (env:dE) (hp:Hp) (k v:AV) (PostI:aV→St→Prop):Prop:=
 ∀ m S w a,FR ap env hp [] nt m S w a→(∃ kv vv,(Instr.entry pt).run P w= .ok (.tuple #[kv,vv]) w∧PR S k kv∧PR S v vv)→
  ∀ Q,(∀ e s',PostI e s'→∀ m' S' w' a',Fr (ag hp) m S w (ag s'.hp) m' S' w'→FR ap s'.env s'.hp s'.dfs nt m' S' w' a'→lH s'.hp m' S' Q a' w' e)→REST.wp P Q a w
def gq (it tn ok:Nat) (pt:Value) (env:dE):dE:=(it,.raw pt)::(ok,.dead)::(tn,.dead)::env
def qw (n:Nat) (done:List Nat):Nat:=((Xqf n).filter fun j=> !done.contains j).length
theorem ul {n i:Nat} {done:List Nat} (a:i<n) (b:i ∉ done):qw n (i::done)<qw n done:=by
 unfold qw;have e:(Xqf n).filter (fun j=> !(i::done).contains j)=((Xqf n).filter fun j=> !done.contains j).filter fun j=> !(j==i):=by
  rw [List.filter_filter];congr 1;funext j;simp only [List.contains_cons,Bool.not_or]
 rw [e];refine (List.length_filter_lt_length_iff_exists).2 ⟨i, ?_,by simp⟩;rw [Xxa];exact ⟨List.mem_range.2 a,by simpa using b⟩
theorem AL {S:aB}:∀ {l:List AV} {us:List Value} {i:Nat} {u:Value},bu S l us→us[i]? =some u→∃ x,l[i]? =some x∧PR S x u
 | [],[],_,_,_,h=>by simp at h
 |x::l,y::us,0,u,h,hu=>by simp only [bu] at h;simp at hu;subst hu;exact ⟨x,rfl,h.1⟩
 |x::l,y::us,i+1,u,h,hu=>by
  simp only [bu] at h;obtain ⟨z,a,b⟩:=AL (i:=i) h.2 (by simpa using hu);exact ⟨z,by simpa using a,b⟩
 | [],_::_,_,_,h,_=>by simp [bu] at h
 |_::_,[],_,_,h,_=>by simp [bu] at h
theorem gG {a b:Nat} (h:a ≠ b):Δ a b=false:=by
 cases e:Δ a b with
 |false=>rfl
 |true=>exact absurd (Xqq e) h
theorem Hu {σ:Type} {l c ok id j n r bm clk:Nat} {W o2:Oper} {REST:Code} {st:σ→St} {Inv:List Nat→σ→Prop} {ks vs:List AV} {es:Array MapEntry} {PostX:aV→St→Prop} {m0:aI} {S0:aB} {w0:World}
  (ho1:W.op= .next (.tmp l) false) (hd1:W.dst=some c) (hg1:W.guard=none) (ho2:o2.op= .extract (.tmp c) 0) (hd2:o2.dst=some ok) (hg2:o2.guard=none)
  (htn:c<nt) (hok:ok<nt) (hit:l ≠ c∧l ≠ ok) (htk:c ≠ ok)
  (hrest:∀ done s i k v,Inv done s→i<n→i ∉ done→ks[i]? =some k→vs[i]? =some v→
   pg P ap nt REST (.pointer (some ⟨r,0,none⟩)) (gq l c ok (.pointer (some ⟨r,0,none⟩)) (st s).env) (st s).hp k v fun e s'=>(e= .normal∧∃ s1,Inv (i::done) s1∧s'=⟨gq l c ok (.pointer (some ⟨r,0,none⟩)) (st s1).env,(st s1).hp,.dead,[]⟩)∨(e ≠ .normal∧PostX e s'))
  (hr0:w0.heap.size≤r) (hn:es.size=n) (hw:uH es clk) {Q:Exit→Act→World→Prop}
  (hend:∀ done s,Inv done s→(∀ i,i<n→i ∈ done)→XA ap h0 m0 S0 w0 nt ⟨gq l c ok (.pointer (some ⟨r,0,none⟩)) (st s).env,(st s).hp,.dead,[]⟩ (.exit id) Q)
  (hX:∀ e s',e ≠ .normal→PostX e s'→XA ap h0 m0 S0 w0 nt s' e Q):
  ∀ (f:Nat) (done:List Nat) (s:σ),Inv done s→(∀ i ∈ done,i<n)→qw n done≤f→∀ (m:aI) (S:aB) (w:World) (a:Act) (D:Nat),
   Fr (aC h0) m0 S0 w0 (ag (st s).hp) m S w→FR ap (gq l c ok (.pointer (some ⟨r,0,none⟩)) (st s).env) (st s).hp [] nt m S w a→
   w.heap[r]? =some (.mapIter (some bm) clk (dD es done) D)→clk≤D→w.heap[bm]? =some (.map es clk)→(∀ b B,ag (st s).hp b=some B→(m b).1 ≠ bm)→bu S ks (es.toList.map (·.key))→bu S vs (es.toList.map (·.val))→
   Code.rounds P (.seq (.region j #[W,o2] false) (.seq (.cond (.tmp ok) .skip (.exit id)) REST)) Q (f+1) a w:=by
 have key:∀ (K:Act→World→Prop) (done:List Nat) (s:σ),Inv done s→(∀ i ∈ done,i<n)→∀ (m:aI) (S:aB) (w:World) (a:Act) (D:Nat),
   Fr (aC h0) m0 S0 w0 (ag (st s).hp) m S w→FR ap (gq l c ok (.pointer (some ⟨r,0,none⟩)) (st s).env) (st s).hp [] nt m S w a→
   w.heap[r]? =some (.mapIter (some bm) clk (dD es done) D)→clk≤D→w.heap[bm]? =some (.map es clk)→(∀ b B,ag (st s).hp b=some B→(m b).1 ≠ bm)→bu S ks (es.toList.map (·.key))→bu S vs (es.toList.map (·.val))→
   (∀ i s1,i<n→i ∉ done→Inv (i::done) s1→∀ O S' w' a',Fr (aC h0) m0 S0 w0 (ag (st s1).hp) O S' w'→FR ap (gq l c ok (.pointer (some ⟨r,0,none⟩)) (st s1).env) (st s1).hp [] nt O S' w' a'→
    w'.heap[r]? =some (.mapIter (some bm) clk (dD es (i::done)) clk)→w'.heap[bm]? =some (.map es clk)→(∀ b B,ag (st s1).hp b=some B→(O b).1 ≠ bm)→bu S' ks (es.toList.map (·.key))→bu S' vs (es.toList.map (·.val))→K a' w')→
   (Code.seq (.region j #[W,o2] false) (.seq (.cond (.tmp ok) .skip (.exit id)) REST)).wp P (Exit.then K Q) a w:=by
  intro K done s X Z m S w a D y z L hc M hs hk Y hK;have hpt:a.eval (.tmp l)= .pointer (some ⟨r,0,none⟩):=by
   have:=z.env l;simp only [gq,dE.get,ag,Xxi,Xq9,VR,PR] at this;exact this
  have hold:∀ x ∈ es.toList,x.born<clk:=hw.2;refine wp_seq (wp_region_list ?_);refine wpList_plain hg1 fun K1 hK1=> ?_
  unfold Oper.wp;have o:∀ d,d=c∨d=ok→(gq l c ok (.pointer (some ⟨r,0,none⟩)) (st s).env).get d= .dead:=by
   rintro d (rfl|rfl)
   ·have R:Δ l d=false:=gG hit.1;have e2:Δ ok d=false:=gG fun e=>htk e.symm
    simp [gq,dE.get,ag,R,e2]
   ·have R:Δ l d=false:=gG hit.2;simp [gq,dE.get,ag,R]
  rcases run_next_at (P:=P) w W.type r bm clk D (dD es done) es clk L M hold hc with ⟨hz,A⟩|⟨e,he,w1,hw1,A⟩
  ·simp [execOp,ho1,hpt,A,Result.andThen];refine hK1 _ _ ?_;rw [hd1];refine wpList_plain hg2 fun K2 T=> ?_
   unfold Oper.wp;have hx:(a.put (some c) (.tuple #[.bool false])).eval (.tmp c)= .tuple #[.bool false]:=dh a c _ (by rw [z.size];exact htn);simp [execOp,ho2,hx,Instr.extract,Result.andThen];refine T _ _ ?_;rw [hd2];have F:=(z.dead (o c (.inl rfl)) (.tuple #[.bool false])).dead (o ok (.inr rfl)) (.bool false);have J:((a.put (some c) (.tuple #[.bool false])).put (some ok) (.bool false)).eval (.tmp ok)= .bool false:=dh _ ok _ (by rw [aG,z.size];exact hok);refine wp_seq (wp_cond_false J (wp_exit ?_));exact hend done s X (fun i G=>Fh hw (fun q hq=>by rw [hn];exact Z q hq) hz i (by rw [hn];exact G)) m S w _ y F
  ·simp [execOp,ho1,hpt,A,Result.andThen];refine hK1 _ _ ?_;rw [hd1];refine wpList_plain hg2 fun K2 T=> ?_
   unfold Oper.wp;have hx:(a.put (some c) (.tuple #[.bool true,e.key,e.val])).eval (.tmp c)= .tuple #[.bool true,e.key,e.val]:=dh a c _ (by rw [z.size];exact htn);simp [execOp,ho2,hx,Instr.extract,Result.andThen];refine T _ _ ?_;rw [hd2];have F:=(z.dead (o c (.inl rfl)) (.tuple #[.bool true,e.key,e.val])).dead (o ok (.inr rfl)) (.bool true);have J:((a.put (some c) (.tuple #[.bool true,e.key,e.val])).put (some ok) (.bool true)).eval (.tmp ok)= .bool true:=dh _ ok _ (by rw [aG,z.size];exact hok);refine wp_seq (wp_cond_true J (wp_skip ?_));generalize (a.put (some c) (.tuple #[.bool true,e.key,e.val])).put (some ok) (.bool true)=a2 at F J;obtain ⟨i,E,t⟩:=Ji he;have G:i<n:=by
    have:=(List.getElem?_eq_some_iff.1 E).1;rw [← hn];simpa using this
   have hborn:xJ es i=e.born:=sQ E;have p:w1.heap=w.heap∧w1.os=w.os∧w1.tape=w.tape∧w1.output=w.output:=by rcases hw1 with rfl|rfl<;>exact ⟨rfl,rfl,rfl,rfl⟩
   have hrlt:r<w.heap.size:=(Array.getElem?_eq_some_iff.1 L).1;have C:(setBlock w1 r (Obj.mapIter (some bm) clk ((dD es done).push e.born) clk)).heap[r]? =some (.mapIter (some bm) clk ((dD es done).push e.born) clk):=by simp [setBlock,p.1,hrlt]
   have V:∀ k,k ≠ r→(setBlock w1 r (Obj.mapIter (some bm) clk ((dD es done).push e.born) clk)).heap[k]? =w.heap[k]? :=fun k hk0=>by
    simp only [setBlock,p.1];rw [Array.getElem?_setIfInBounds_ne (fun h=>hk0 h.symm)]
   have hsz:(setBlock w1 r (Obj.mapIter (some bm) clk ((dD es done).push e.born) clk)).heap.size=w.heap.size:=by simp [setBlock,p.1]
   have hF3:=F.iter L C V;have hfr3:=y.iter hr0 L C V hsz p.2.1 p.2.2.1 p.2.2.2;have hbr:bm ≠ r:=by rintro rfl;rw [L] at M;cases M
   have I:=(V bm hbr).trans M;generalize setBlock w1 r (Obj.mapIter (some bm) clk ((dD es done).push e.born) clk)=w2 at*
   have hent:=run_entry_at (P:=P) w2 r bm clk (dD es done) es clk e C I (Γ E) hw.1;obtain ⟨k,hk1,hk2⟩:=AL (i:=i) hk (u:=e.key) (by rw [Ψ,E];rfl);obtain ⟨v,hv1,hv2⟩:=AL (i:=i) Y (u:=e.val) (by rw [Ψ,E];rfl);refine hrest done s i k v X G t hk1 hv1 m S w2 a2 hF3 ⟨_,_,hent,hk2,hv2⟩ _ ?_;intro ex s' hp O S' w' a' hl hF4;have N:=hfr3.trans hl;rcases hp with ⟨rfl,s1,U,rfl⟩|⟨hne,hp⟩
   ·have hkeep:∀ q,q<w2.heap.size→(∀ b B,ag (st s).hp b=some B→(m b).1 ≠ q)→w'.heap[q]? =w2.heap[q]? :=hl.rest;have hrr:w'.heap[r]? =w2.heap[r]? :=hkeep r (by omega) fun b B hB R=>by
     obtain ⟨⟨cur,ty,us,rs,h1,_⟩,_,_⟩:=hF3.srel.blk b B hB;rw [R] at h1;exact (JS C (fun _ _=>rfl) h1).1 rfl
    have hbb:w'.heap[bm]? =w2.heap[bm]? :=hkeep bm (Array.getElem?_eq_some_iff.1 I).1 hs;refine hK i s1 G t U O S' w' a' N hF4 ?_ (hbb.trans I) ?_ (a_ hl.sle _ hk) (a_ hl.sle _ Y)
    ·rw [hrr,C,← hborn,zL]
    ·intro b B hB R;rcases hl.img b B hB with h9|⟨B0,h9,h10⟩
     ·have:=(Array.getElem?_eq_some_iff.1 I).1;omega
     ·exact hs b B0 h9 (by rw [← h10];exact R)
   ·have:=hX ex s' hne hp O S' w' a' N hF4;cases ex with
    |normal=>exact absurd rfl hne
    |exit q=>exact this
    |ret=>exact this
    |panic q=>exact this
 intro f
 induction f with
 | zero=>
  intro done s X Z hu m S w a D y z L hc M hs hk Y;exact key _ done s X Z m S w a D y z L hc M hs hk Y fun i s1 G t _ _ _ _ _ _ _ _ _ _ _ _=>by
   have:=ul G t;omega
 | succ f ih=>
  intro done s X Z hu m S w a D y z L hc M hs hk Y;exact key _ done s X Z m S w a D y z L hc M hs hk Y fun i s1 G t U O S' w' a' h1 h2 h3 h4 h5 h6 h7=>
   ih (i::done) s1 U (fun q hq=>by
    rcases List.mem_cons.1 hq with rfl|hq
    ·exact G
    ·exact Z q hq) (by have:=ul G t;omega) O S' w' a' clk h1 h2 h3 (ε _) h4 h5 h6 h7
theorem FR.set {env:dE} {hp:Hp} {dfs:List (Nat × List AV)} {m:aI} {S:aB} {w:World} {a:Act} {d:Nat} {x:AV} {v:Value} (h:FR ap env hp dfs nt m S w a) (c:d<nt) (b:VR (ag hp) m S x v):FR ap ((d,x)::env) hp dfs nt m S w (a.put (some d) v):=by
 refine ⟨h.srel,fun t=> ?_, ?_,by rw [aG];exact h.size⟩
 ·by_cases e:t=d
  ·subst e;rw [dh a t v (by rw [h.size];exact c)];simpa [dE.get,ag] using b
  ·rw [jZ a (some d) v (by simpa using fun h=>e h.symm)];simpa [dE.get,ag,gG (fun h=>e h.symm:d ≠ t)] using h.env t
 ·rw [l_];exact h.dfs
theorem Yn {g:bP} {m:aI} {S:aB} {x:AV} {v:Value} (h:PR S x v):VR g m S x v:=d_ x h
theorem pg.of {hs:List aK} {u c f:Nat} {b:Oper} {h:List Oper} {TAIL:Code} {p:Value} {env:dE} {hp:Hp} {k v:AV} {s2:St} {A:aV→St→Prop}
  (hoe:b.op= .entry (.tmp c)) (hde:b.dst=some f) (hge:b.guard=none) (hte:f<nt) (hhp:aC hs=ag hp) (hpt:env.get c= .raw p)
  (h1:KH P ap nt (b::h) 1 ⟨(f,.tup [k,v])::env,hp,.dead,[]⟩ s2) (h2:iH P ap hs nt TAIL s2 A):pg P ap nt (.seq (.region u (b::h).toArray false) TAIL) p env hp k v A:=by
 intro m S w a s ⟨kv,vv,hrun,hk,hv⟩ Q hQ;have hp':a.eval (.tmp c)=p:=by
  have:=s.env c;rw [hpt] at this;simp only [VR,PR] at this;exact this
 refine wp_seq (wp_region_list ?_);rw [Xxw];refine wpList_plain hge fun K y=> ?_
 unfold Oper.wp;simp [execOp,hoe,hp',hrun,Result.andThen];refine y _ _ ?_;rw [hde];have o:=s.set (d:=f) (x:= .tup [k,v]) (v:= .tuple #[kv,vv]) hte (by
  simp only [VR];exact ⟨[kv,vv],rfl,by simp only [aX];exact ⟨Yn hk,Yn hv,trivial⟩⟩)
 obtain ⟨D,B⟩:=h1 rfl;obtain ⟨_,G⟩:=h2 D;have n:=B m S w _ o (Exit.then (TAIL.wp P Q) Q) fun z S' w' a' E C=>G m S w z S' w' a' (by rw [hhp];exact E) C Q fun e s' F q S'' i r t l=>hQ e s' F q S'' i r (by rw [hhp] at t;exact t) l
 have e:=wpOps_eq_wpList (P:=P) (ops:=(b::h).toArray) (Q:=Exit.then (TAIL.wp P Q) Q) h 1 (fun j=>by simp [Nat.add_comm 1 j]);simp only [Θ,Nat.add_sub_cancel] at n;rw [e] at n;exact n
theorem pg.block {id:Nat} {REST:Code} {l:Value} {env:dE} {hp:Hp} {k v:AV} {A B:aV→St→Prop} (h:pg P ap nt REST l env hp k v A) (o:∀ s',A (.exit id) s'→B .normal s') (j:∀ e s',A e s'→e ≠ .exit id→B e s'):pg P ap nt (.block id REST) l env hp k v B:=by
 intro m S w a p n Q c;refine wp_block (h m S w a p n _ fun e s' d f S' w' a' b i=> ?_);cases e with
 |normal=>exact c _ _ (j _ _ d (by simp)) f S' w' a' b i
 | exit q=>
  by_cases hk:q=id
  ·subst hk;have:=c _ _ (o _ d) f S' w' a' b i;simpa [lH,Exit.inBlock] using this
  ·have:=c _ _ (j _ _ d (by simpa using hk)) f S' w' a' b i;simpa [lH,Exit.inBlock,hk] using this
 |ret=>exact c _ _ (j _ _ d (by simp)) f S' w' a' b i
 |panic q=>
  have:=c _ _ (j _ _ d (by simp)) f S' w' a' b i;exact this
theorem bi.push {g:bP} {m:aI} {S:aB} {w:World} (h:bi ap g m S w) (o:Obj):bi ap g m S (w.alloc o):=by
 have d:∀ k,k<w.heap.size→(w.alloc o).heap[k]? =w.heap[k]? :=fun k d=>by
  simp only [World.alloc,Array.getElem?_push];rw [if_neg (Xz8 d)]
 refine ⟨h.inj,fun b B i=> ?_,fun k p v j=> ?_,h.own,h.glob⟩
 ·have c:=h.lt i;obtain ⟨⟨cur,e,vs,rest,a,r⟩,n,l⟩:=h.blk b B i;refine ⟨⟨cur,e,vs,rest, ?_,r⟩,n,l⟩;rcases a with ⟨f,a⟩|⟨f,es,clk,a,q⟩
  ·exact .inl ⟨f,by rw [d _ c];exact a⟩
  ·exact .inr ⟨f,es,clk,by rw [d _ c];exact a,q⟩
 ·have a:=h.sealed k p v j;have c:=h.seal_lt j;unfold bZ at a ⊢;simp only [World.cell?] at a ⊢;rw [d k c];exact a
theorem FR.push {env:dE} {hp:Hp} {dfs:List (Nat × List AV)} {m:aI} {S:aB} {w:World} {a:Act} (h:FR ap env hp dfs nt m S w a) (o:Obj):FR ap env hp dfs nt m S (w.alloc o) a:=⟨h.srel.push o,h.env,h.dfs,h.size⟩
theorem Fr.push {i g:bP} {m0 m:aI} {S0 S:aB} {w0 w:World} (h:Fr i m0 S0 w0 g m S w) {o:Obj} (j:∀ es clk,o ≠ .map es clk):Fr i m0 S0 w0 g m S (w.alloc o):=by
 have d:∀ k,k<w.heap.size→(w.alloc o).heap[k]? =w.heap[k]? :=fun k d=>by
  simp only [World.alloc,Array.getElem?_push];rw [if_neg (Xz8 d)]
 have hs:(w.alloc o).heap.size=w.heap.size+1:=Array.size_push ..;refine ⟨h.ge,h.sle,h.os,h.tape,h.output,by rw [hs];exact Nat.le_succ_of_le h.size,fun k c l=>by rw [d k (Xqd c h.size)];exact h.rest k c l,h.img,h.sealN,fun b B f es clk a=> ?_⟩;by_cases e:(m b).1<w.heap.size
 ·rw [d _ e] at a;exact h.mw b B f es clk a
 ·simp only [World.alloc,Array.getElem?_push] at a;split at a
  ·cases a;exact absurd rfl (j es clk)
  ·exact h.mw b B f es clk a
theorem FR.drop {env env':dE} {hp hp':Hp} {m:aI} {S:aB} {w:World} {a:Act} (h:FR ap env hp [] nt m S w a) (c:∀ x B,ag hp' x=some B→ag hp x=some B) (l:∀ x B,ag hp' x=some B→∀ y ∈ bG B.cells,ag hp' y=ag hp y) (d:∀ t,env'.get t= .dead∨(env'.get t=env.get t∧∀ y ∈ cZ (env'.get t),ag hp' y=ag hp y)):FR ap env' hp' [] nt m S w a:=by
 refine ⟨⟨fun b u B B' j k e=>h.srel.inj b u B B' (c _ _ j) (c _ _ k) e,fun b B f=> ?_,h.srel.sealed,fun b B f=>h.srel.own b B (c _ _ f),h.srel.glob⟩,fun t=> ?_, ?_,h.size⟩
 ·obtain ⟨⟨cur,e,vs,rest,j,k,p,o,z⟩,v,s⟩:=h.srel.blk b B (c _ _ f);exact ⟨⟨cur,e,vs,rest,j,k,p,jl (gZ.refl S) _ (fun y i=> ⟨l b B f y i,rfl⟩) o,z⟩,v,s⟩
 ·rcases d t with e|⟨e,n⟩
  ·rw [e];simp [VR]
  ·rw [e] at n ⊢;exact oI (gZ.refl S) _ (fun y i=> ⟨n y i,rfl⟩) (h.env t)
 ·have:=h.dfs;cases q:a.defers with
  |nil=>simp [dW]
  |cons x r=>rw [q] at this;simp [dW] at this
theorem Fr.drop {d:bP} {hp hp':Hp} {m0 m:aI} {S0 S:aB} {w0 w:World} (h:Fr d m0 S0 w0 (ag hp) m S w) (a:∀ x B,ag hp' x=some B→ag hp x=some B) (hbase:∀ x B0 B,d x=some B0→ag hp x=some B→ag hp' x=some B):Fr d m0 S0 w0 (ag hp') m S w:=by
 refine ⟨fun b B0 e=> ?_,h.sle,h.os,h.tape,h.output,h.size,h.rest,fun b B c=>h.img b B (a _ _ c),h.sealN,fun b B c=>h.mw b B (a _ _ c)⟩;obtain ⟨B,i,f⟩:=h.ge b B0 e;exact ⟨B,hbase b B0 B e i,f⟩
theorem QF {σ:Type} {d p ok id j i0 n b ver tm l:Nat} {ty kt et:TypeId} {U W V X:Oper} {REST:Code} {st:σ→St} {Inv:List Nat→σ→Prop} {ks vs:List AV} {PostX Post:aV→St→Prop} {B:aK} {s:St} {s0:σ}
  (ho3:V.op= .move (.tmp tm)) (hd3:V.dst=some l) (hg3:V.guard=none) (ho4:X.op= .range ty (.tmp l)) (hd4:X.dst=some d) (hg4:X.guard=none)
  (ho1:U.op= .next (.tmp d) false) (hd1:U.dst=some p) (hg1:U.guard=none) (ho2:W.op= .extract (.tmp p) 0) (hd2:W.dst=some ok) (hg2:W.guard=none)
  (hit:d<nt) (htn:p<nt) (hok:ok<nt) (ht1:l<nt) (hne:d ≠ p∧d ≠ ok) (htk:p ≠ ok)
  (hund:P.underlying ty=some (.map kt et)) (hm:s.env.get tm= .mr b ver) (hB:ag s.hp b=some B) (hver:B.ver=ver) (hz:B.esz=dP) (hcells:B.cells= [.agg ks,.agg vs]) (hpr:B.pr=true) (hbase:aC h0 b=none) (hdfs:s.dfs= []) (hlen:ks.length=n)
  (hI0:Inv [] s0) (hsub:∀ x C,ag (st s0).hp x=some C→ag s.hp x=some C∧x ≠ b) (hcl:∀ x C,ag (st s0).hp x=some C→∀ y ∈ bG C.cells,ag (st s0).hp y=ag s.hp y)
  (henv:∀ t,(st s0).env.get t= .dead∨(t ≠ l∧t ≠ d∧(st s0).env.get t=s.env.get t∧∀ y ∈ cZ ((st s0).env.get t),ag (st s0).hp y=ag s.hp y))
  (hb2:∀ x B0 C,aC h0 x=some B0→ag s.hp x=some C→ag (st s0).hp x=some C)
  (hrest:∀ pt done s i k v,Inv done s→i<n→i ∉ done→ks[i]? =some k→vs[i]? =some v→
   pg P ap nt REST pt (gq d p ok pt (st s).env) (st s).hp k v fun e s'=>(e= .normal∧∃ s1,Inv (i::done) s1∧s'=⟨gq d p ok pt (st s1).env,(st s1).hp,.dead,[]⟩)∨(e ≠ .normal∧PostX e s'))
  (hend:∀ pt done s,Inv done s→(∀ i,i<n→i ∈ done)→Post .normal ⟨gq d p ok pt (st s).env,(st s).hp,.dead,[]⟩)
  (hX:∀ e s',e ≠ .normal→PostX e s'→e ≠ .exit id∧Post e s') (hmd:∀ e s',Post e s'→s'.md= .dead):
  iH P ap h0 nt (.seq (.region i0 #[V,X] false) (.block id (.loop (.seq (.region j #[U,W] false) (.seq (.cond (.tmp ok) .skip (.exit id)) REST))))) s Post:=by
 intro _;refine ⟨hmd,fun m0 S0 w0 m S w a A F Q hQ=>wp_seq (wp_region_list ?_)⟩;rw [hdfs] at F;have G:=F.env tm;rw [hm] at G;simp only [VR] at G;obtain ⟨B',L,_,_,hv⟩:=G;rw [hB] at L;cases L;have hv:=hv hver;obtain ⟨⟨cur,e,us,rest,M,f,hp,_⟩,_,_⟩:=F.srel.blk b B hB;have hp:=hp hpr;rw [hcells] at hp;have J:∃ es clk,w.heap[(m b).1]? =some (.map es clk)∧cur=jF es:=by
  rcases M with ⟨c,_⟩|⟨_,es,clk,c,u⟩
  ·exact absurd hz c
  ·exact ⟨es,clk,c,u⟩
 obtain ⟨es,clk,T,rfl⟩:=J;have hu:bu S ks (es.toList.map (·.key))∧bu S vs (es.toList.map (·.val)):=by
  match us,hp,f with
  | [u1,u2],hp,f=>
   simp only [bu,PR] at hp;obtain ⟨⟨kk,rfl,c⟩,⟨vv,rfl,u⟩,_⟩:=hp;simp only [jF,Xqw,μ,List.cons.injEq,Value.agg.injEq] at f;obtain ⟨D,I,_⟩:=f;have D:es.toList.map (·.key)=kk:=by rw [← Array.toList_map,D]
   have I:es.toList.map (·.val)=vv:=by rw [← Array.toList_map,I]
   rw [D,I];exact ⟨c,u⟩
  | [],hp,_=>simp [bu] at hp
  | [_],hp,_=>simp [bu] at hp
  |_::_::_::_,hp,_=>simp [bu] at hp
 have hsz:es.size=n:=by
  have:=jU hu.1;rw [← hlen,this];simp
 have hge:w0.heap.size≤(m b).1:=by
  rcases A.img b B hB with c|⟨B0,c,_⟩
  ·exact c
  ·rw [hbase] at c;cases c
 have hwf:uH es clk:=by
  rcases A.mw b B hB _ _ T with ⟨es0,clk0,c,_⟩|⟨_,c⟩
  ·have:=(Array.getElem?_eq_some_iff.1 c).1;omega
  ·exact c
 refine wpList_plain hg3 fun K hK=> ?_
 unfold Oper.wp;simp [execOp,ho3,Result.andThen];refine hK _ _ ?_;rw [hd3];have hvt:a.eval (.tmp tm)= .map (some (m b).1):=hv;rw [hvt];refine wpList_plain hg4 fun K2 hK2=> ?_
 unfold Oper.wp;have E:(a.put (some l) (.map (some (m b).1))).eval (.tmp l)= .map (some (m b).1):=dh a l _ (by rw [F.size];exact ht1);simp [execOp,ho4,E,run_range_map w ty kt et (m b).1 es clk hund T,Result.andThen];refine hK2 _ _ ?_;rw [hd4];show (Code.block _ _).wp P Q _ _;have z:FR ap (st s0).env (st s0).hp [] nt m S w ((a.put (some l) (.map (some (m b).1))).put (some d) (.pointer (some ⟨w.heap.size,0,none⟩))):=by
  have c:=F.drop (env':=(st s0).env) (hp':=(st s0).hp) (fun x C E=>(hsub x C E).1) hcl fun t=>(henv t).imp (fun h=>h) fun h=> ⟨h.2.2.1,h.2.2.2⟩
  have g1:(st s0).env.get l= .dead:=(henv l).elim (fun h=>h) fun h=>absurd rfl h.1
  have g2:(st s0).env.get d= .dead:=(henv d).elim (fun h=>h) fun h=>absurd rfl h.2.1
  exact (c.dead g1 _).dead g2 _
 have Z:FR ap (gq d p ok (.pointer (some ⟨w.heap.size,0,none⟩)) (st s0).env) (st s0).hp [] nt m S w ((a.put (some l) (.map (some (m b).1))).put (some d) (.pointer (some ⟨w.heap.size,0,none⟩))):=by
  refine ⟨z.srel,fun t=> ?_,z.dfs,z.size⟩;simp only [gq,dE.get,ag];by_cases D:d=t
  ·subst D;rw [Xxi];simp only [Xq9,VR,PR];exact dh _ d _ (by rw [aG,F.size];exact hit)
  ·rw [gG D];by_cases I:ok=t
   ·subst I;rw [Xxi];simp [VR]
   ·rw [gG I];by_cases e3:p=t
    ·subst e3;rw [Xxi];simp [VR]
    ·rw [gG e3];exact z.env t
 have O:=(A.drop (hp':=(st s0).hp) (fun x C E=>(hsub x C E).1) hb2).push (o:= .mapIter (some (m b).1) clk #[] clk) (fun _ _ h=>by cases h);have hF2:=Z.push (.mapIter (some (m b).1) clk #[] clk);have hbl:(m b).1<w.heap.size:=(Array.getElem?_eq_some_iff.1 T).1;have hk:∀ k,k<w.heap.size→(w.alloc (.mapIter (some (m b).1) clk #[] clk)).heap[k]? =w.heap[k]? :=fun k hk=>by
  simp only [World.alloc,Array.getElem?_push];rw [if_neg (Xz8 hk)]
 refine wp_block (wp_loop_rounds (qw n []+1) ?_);refine Hu (h0:=h0) (m0:=m0) (S0:=S0) (w0:=w0) (r:=w.heap.size) (bm:=(m b).1) (clk:=clk) (es:=es) (st:=st) (Inv:=Inv) (ks:=ks) (vs:=vs) (PostX:=PostX) ho1 hd1 hg1 ho2 hd2 hg2 htn hok hne htk (fun done s i k v=>hrest _ done s i k v) A.size hsz hwf ?_ ?_ (qw n []) [] s0 hI0 (fun i hi=>by cases hi) (ε _) m S _ _ clk O hF2 ?_ (ε _) ?_ ?_ hu.1 hu.2
 ·intro done s1 hI1 R Y S' w' a' c u;have:=hQ _ _ (hend _ done s1 hI1 R) Y S' w' a' c u;simpa [lH,Exit.inBlock] using this
 ·intro e s' N hp';obtain ⟨c,u⟩:=hX e s' N hp';intro Y S' w' a' h3 h4;have:=hQ _ _ u Y S' w' a' h3 h4;cases e with
  |normal=>exact absurd rfl N
  |exit q=>simpa [lH,Exit.inBlock,show q ≠ id from fun e=>c (by rw [e])] using this
  |ret=>exact this
  |panic q=>exact this
 ·simp only [World.alloc,Array.getElem?_push,if_true];rfl
 ·rw [hk _ hbl];exact T
 ·intro x C E D;obtain ⟨c,u⟩:=hsub x C E;exact u (F.srel.inj x b C B c hB D)
end
end AM
namespace AM
open Go
section
variable {P:Program} {ap:AP} {nt:Nat}
structure ww (g:bP) (m:aI) (S:aB) (w:World) (k:Nat):Prop where
 lt:k<w.heap.size
 blk:∀ b B,g b=some B→(m b).1 ≠ k
 clr:∀ o,S k o=none
theorem ww.keeps {g g':bP} {m f:aI} {S S':aB} {w w':World} {k:Nat} (h:ww g m S w k) (c:Fr g m S w g' f S' w'):ww g' f S' w' k∧w'.heap[k]? =w.heap[k]? :=by
 refine ⟨⟨Xqd h.lt c.size,fun b B i e=> ?_,fun o=> ?_⟩,c.rest k h.lt h.blk⟩
 ·rcases c.img b B i with a|⟨B0,a,d⟩
  ·have:=h.lt;omega
  ·exact h.blk b B0 a (d ▸ e)
 ·cases hs:S' k o with
  |none=>rfl
  |some v=>
   rcases c.sealN k o v hs with a|a|⟨b,B,a,d⟩
   ·rw [h.clr o] at a;cases a
   ·have:=h.lt;omega
   ·exact absurd d (h.blk b B a)
theorem ww.new {g:bP} {m:aI} {S:aB} {w w':World} {k:Nat} (h:bi ap g m S w) (d:w.heap.size≤k) (c:k<w'.heap.size):ww g m S w' k:=
 ⟨c,fun b B a e=>by have:=h.lt a;omega,fun o=>by
  cases hs:S k o with
  |none=>rfl
  |some v=>have:=h.seal_lt hs;omega⟩
theorem bi.other {g:bP} {m:aI} {S:aB} {w w':World} (h:bi ap g m S w) (j:∀ k,k<w.heap.size→w'.heap[k]? =w.heap[k]? ∨ww g m S w k):bi ap g m S w':=by
 refine ⟨h.inj,fun b B f=> ?_,fun k o v d=> ?_,h.own,h.glob⟩
 ·have c:=h.lt f;obtain ⟨⟨cur,e,vs,rest,a,q⟩,n,l⟩:=h.blk b B f;refine ⟨⟨cur,e,vs,rest, ?_,q⟩,n,l⟩;rcases j _ c with hs|hs
  ·rcases a with ⟨i,a⟩|⟨i,es,clk,a,p⟩
   ·exact .inl ⟨i,by rw [hs];exact a⟩
   ·exact .inr ⟨i,es,clk,by rw [hs];exact a,p⟩
  ·exact absurd rfl (hs.blk b B f)
 ·have a:=h.sealed k o v d;have c:=h.seal_lt d;rcases j k c with hs|hs
  ·unfold bZ at a ⊢;simp only [World.cell?] at a ⊢;rw [hs];exact a
  ·rw [hs.clr o] at d;cases d
theorem FR.other {env:dE} {hp:Hp} {dfs:List (Nat × List AV)} {m:aI} {S:aB} {w w':World} {a:Act} (h:FR ap env hp dfs nt m S w a) (b:∀ k,k<w.heap.size→w'.heap[k]? =w.heap[k]? ∨ww (ag hp) m S w k):FR ap env hp dfs nt m S w' a:=⟨h.srel.other b,h.env,h.dfs,h.size⟩
theorem Fr.other {d g:bP} {m0 m:aI} {S0 S:aB} {w0 w w':World} (h:Fr d m0 S0 w0 g m S w) (hs:w.heap.size≤w'.heap.size) (f:w'.os=w.os) (l:w'.tape=w.tape) (i:w'.output=w.output) (n:∀ k,k<w0.heap.size→w'.heap[k]? =w.heap[k]?) (hm:∀ b B,g b=some B→w'.heap[(m b).1]? =w.heap[(m b).1]?):Fr d m0 S0 w0 g m S w':=
 ⟨h.ge,h.sle,f.trans h.os,l.trans h.tape,i.trans h.output,Xqh h.size hs,fun k a j=>(n k a).trans (h.rest k a j),h.img,h.sealN,fun b B c es clk e=>by rw [hm b B c] at e;exact h.mw b B c es clk e⟩
end
end AM
namespace AM
open Go
open Go.ChangeMaps (setBlock)
section
variable {P:Program} {ap:AP} {h0:List aK} {nt:Nat}
def nK (S:aB) (k:Nat) (us:List Value):aB:=fun k' o=>if k'=k then us[o]? else S k' o
theorem J6 {env:dE} {hp:Hp} {m0 m:aI} {S0 S:aB} {w0 w:World} {a:Act} {k:Nat} {cur:Array Value} {e:TypeId} {us:List Value} (c:Fr (aC h0) m0 S0 w0 (ag hp) m S w) (h:FR ap env hp [] nt m S w a)
  (ho:ww (ag hp) m S w k) (hk0:w0.heap.size≤k) (hk:w.heap[k]? =some (.cells cur e (0,0))) (hc:cur.toList.take us.length=us) (h1:∀ u ∈ us,u.oneCell'=true):
  gZ S (nK S k us)∧Fr (aC h0) m0 S0 w0 (ag hp) m (nK S k us) w∧FR ap env hp [] nt m (nK S k us) w a∧iq (nK S k us) k 0 us:=by
 have f:gZ S (nK S k us):=fun n o v d=>by
  unfold nK;split
  ·rename_i i;subst i;rw [ho.clr] at d;cases d
  ·exact d
 have p:bi ap (ag hp) m (nK S k us) w:=by
  refine ⟨h.srel.inj,fun b B l=>(h.srel.blk b B l).mono f (Ge.refl _ _) rfl,fun n o v d=> ?_,fun b B l o v d=> ?_,fun q z A=> ?_⟩
  ·unfold nK at d;split at d
   ·rename_i i;subst i;refine pG ?_ (h1 v (Γ d));rw [jD hk];rw [← hc,Xxn] at d;split at d
    ·exact d
    ·cases d
   ·exact h.srel.sealed n o v d
  ·unfold nK at d;split at d
   ·rename_i i;exact absurd i (ho.blk b B l)
   ·exact h.srel.own b B l o v d
  ·obtain ⟨vs,k1,k2⟩:=h.srel.glob q z A;exact ⟨vs,a_ f _ k1,k2.mono f⟩
 refine ⟨f,⟨c.ge,c.sle.trans f,c.os,c.tape,c.output,c.size,c.rest,c.img,fun n o v d=> ?_,c.mw⟩,⟨p,fun t=>kE f (Ge.refl _ _) _ (h.env t), ?_,h.size⟩,fun j u s=> ⟨by simpa [nK] using s,h1 u (Γ s)⟩⟩
 ·unfold nK at d;split at d
  ·rename_i i;subst i;exact .inr (.inl hk0)
  ·exact c.sealN n o v d
 ·have:=h.dfs;cases y:a.defers with
  |nil=>simp [dW]
  |cons x r=>rw [y] at this;simp [dW] at this
theorem Yo {env:dE} {hp:Hp} {m0 m:aI} {S0 S:aB} {w0 w:World} {a:Act} (b:Nat) (B:aK) {k c:Nat} (i:Fr (aC h0) m0 S0 w0 (ag hp) m S w) (l:FR ap env hp [] nt m S w a)
  (hb:ag hp b=none) (ho:ww (ag hp) m S w k) (hk0:w0.heap.size≤k) (hfro:B.fro=false) (hfz:B.fz=0) (hwf:∀ es clk,w.heap[k]? =some (Obj.map es clk)→uH es clk)
  (hrow:∃ cur e vs rest,gy w k B.esz cur e∧cur.toList=vs++rest∧(B.pr=true→bu S B.cells vs)∧aX (ag hp) m S B.cells vs∧(B.esz ≠ dP→∀ u ∈ vs,u.oneCell'=true)∧(0<B.esz→B.esz ≠ dP→cur.size=c*B.esz∧c≤maxLen)):
  ∃ m',(∀ x,x ≠ b→m' x=m x)∧m' b=(k,c)∧Fr (aC h0) m0 S0 w0 (ag ((b,B)::hp)) m' S w∧FR ap env ((b,B)::hp) [] nt m' S w a:=by
 refine ⟨fun x=>if x=b then (k,c) else m x,fun x d=>by simp [d],by simp, ?_⟩;have p:∀ x C,ag ((b,B)::hp) x=some C→(x=b∧C=B)∨(x ≠ b∧ag hp x=some C):=fun x C h=>by
  by_cases e:x=b
  ·subst e;simp [ag] at h;exact .inl ⟨rfl,h.symm⟩
  ·simp [ag,gG (fun h=>e h.symm:b ≠ x)] at h;exact .inr ⟨e,h⟩
 have j:Ge (ag hp) m (ag ((b,B)::hp)) (fun x=>if x=b then (k,c) else m x):=fun x C d=>by
  have e:x ≠ b:=fun e=>by subst e;rw [hb] at d;cases d
  exact ⟨C,by simp [ag,gG (fun h=>e h.symm:b ≠ x),d],rfl,.inl ⟨rfl,by simp [e]⟩⟩
 have I:bi ap (ag ((b,B)::hp)) (fun x=>if x=b then (k,c) else m x) S w:=by
  refine ⟨fun x y C D d J n=> ?_,fun x C d=> ?_,l.srel.sealed,fun x C d o v z=> ?_,l.srel.glob⟩
  ·rcases p x C d with ⟨F,_⟩|⟨f,E⟩<;>rcases p y D J with ⟨A,_⟩|⟨s,q⟩
   ·rw [F,A]
   ·simp [F,s] at n;exact absurd n.symm (ho.blk y D q)
   ·simp [A,f] at n;exact absurd n (ho.blk x C E)
   ·simp [f,s] at n;exact l.srel.inj x y C D E q n
  ·rcases p x C d with ⟨rfl,rfl⟩|⟨f,d⟩
   ·simp only [if_true];obtain ⟨cur,e,vs,rest,k1,k2,k3,k4,k5,k6⟩:=hrow;exact ⟨⟨cur,e,vs,rest,k1,k2,k3,iQ (gZ.refl S) j _ k4,k5,k6⟩,fun _=>hfz,by rw [hfz];exact Xqp _⟩
   ·simp only [if_neg f];exact (l.srel.blk x C d).mono (gZ.refl S) j rfl
  ·rcases p x C d with ⟨rfl,rfl⟩|⟨f,d⟩
   ·simp only [if_true] at z;rw [ho.clr] at z;cases z
   ·simp only [if_neg f] at z;exact l.srel.own x C d o v z
 refine ⟨⟨i.ge.trans j,i.sle,i.os,i.tape,i.output,i.size,i.rest,fun x C d=> ?_,i.sealN,fun x C d es clk G=> ?_⟩,⟨I,fun t=>kE (gZ.refl S) j _ (l.env t), ?_,l.size⟩⟩
 ·rcases p x C d with ⟨rfl,rfl⟩|⟨f,d⟩
  ·exact .inl (by simpa using hk0)
  ·simp only [if_neg f];exact i.img x C d
 ·rcases p x C d with ⟨rfl,rfl⟩|⟨f,d⟩
  ·simp only [if_true] at G ⊢;exact .inr ⟨hk0,hwf es clk G⟩
  ·simp only [if_neg f] at G ⊢;exact i.mw x C d es clk G
 ·have:=l.dfs;cases K:a.defers with
  |nil=>simp [dW]
  |cons x r=>rw [K] at this;simp [dW] at this
theorem FR.say {env:dE} {hp:Hp} {dfs:List (Nat × List AV)} {m:aI} {S:aB} {w:World} {a:Act} {t:Nat} {x:AV} (h:FR ap env hp dfs nt m S w a) (b:VR (ag hp) m S x (a.tmps.getD t undef)):FR ap ((t,x)::env) hp dfs nt m S w a:=by
 refine ⟨h.srel,fun u=> ?_,h.dfs,h.size⟩;by_cases e:u=t
 ·subst e;simpa [dE.get,ag] using b
 ·simpa [dE.get,ag,gG (fun h=>e h.symm:t ≠ u)] using h.env u
theorem JG {f c ok id j i0 n b ver tm R:Nat} {ty kt et:TypeId} {o1 o2 o3 o4:Oper} {REST:Code} {ks vs:List AV} {B:aK} {env:dE} {hp hp0:Hp} {env0:dE} {J:List Nat→World→Prop}
  (ho3:o3.op= .move (.tmp tm)) (hd3:o3.dst=some R) (hg3:o3.guard=none) (ho4:o4.op= .range ty (.tmp R)) (hd4:o4.dst=some f) (hg4:o4.guard=none)
  (ho1:o1.op= .next (.tmp f) false) (hd1:o1.dst=some c) (hg1:o1.guard=none) (ho2:o2.op= .extract (.tmp c) 0) (hd2:o2.dst=some ok) (hg2:o2.guard=none)
  (hit:f<nt) (htn:c<nt) (hok:ok<nt) (ht1:R<nt) (hne:f ≠ c∧f ≠ ok) (htk:c ≠ ok)
  (hund:P.underlying ty=some (.map kt et)) (hm:env.get tm= .mr b ver) (hB:ag hp b=some B) (hver:B.ver=ver) (hz:B.esz=dP) (hcells:B.cells= [.agg ks,.agg vs]) (hpr:B.pr=true) (hbase:aC h0 b=none) (hlen:ks.length=n)
  (hsub:∀ x C,ag hp0 x=some C→ag hp x=some C∧x ≠ b) (hcl:∀ x C,ag hp0 x=some C→∀ y ∈ bG C.cells,ag hp0 y=ag hp y)
  (henv:∀ t,env0.get t= .dead∨(t ≠ R∧t ≠ f∧env0.get t=env.get t∧∀ y ∈ cZ (env0.get t),ag hp0 y=ag hp y))
  (M:∀ x B0 C,aC h0 x=some B0→ag hp x=some C→ag hp0 x=some C)
  {m0 m:aI} {S0 S:aB} {w0 w:World} {a:Act} (l:Fr (aC h0) m0 S0 w0 (ag hp) m S w) (z:FR ap env hp [] nt m S w a)
  (hJ0:∀ w',(∀ k,k<w.heap.size→w'.heap[k]? =w.heap[k]?)→w'.heap.size=w.heap.size+1→w'.os=w.os→w'.tape=w.tape→w'.output=w.output→J [] w') (hJi:∀ done (w1 w':World) (r:Nat) mm si se ci,J done w1→w1.heap[r]? =some (Obj.mapIter mm si se ci)→r=w.heap.size→(∀ k,k ≠ r→w'.heap[k]? =w1.heap[k]?)→w'.heap.size=w1.heap.size→w'.os=w1.os→w'.tape=w1.tape→w'.output=w1.output→J done w')
  (Q:Exit→Act→World→Prop)
  (hrest:∀ (r bm:Nat) done i k v (w1:World) a es clk (it0:Obj),r=w.heap.size→J done w1→i<n→i ∉ done→ks[i]? =some k→vs[i]? =some v→Fr (aC h0) m0 S0 w0 (ag hp0) m S w1→FR ap (gq f c ok (.pointer (some ⟨r,0,none⟩)) env0) hp0 [] nt m S w1 a→
   w1.heap[r]? =some it0→(∀ cs e fr,it0 ≠ .cells cs e fr)→(∀ es clk,it0 ≠ .map es clk)→w1.heap[bm]? =some (.map es clk)→bm=(m b).1→
   (∃ kv vv,(Instr.entry (.pointer (some ⟨r,0,none⟩))).run P w1= .ok (.tuple #[kv,vv]) w1∧PR S k kv∧PR S v vv)→
   ∀ K:Exit→Act→World→Prop,(∀ w' a',J (i::done) w'→Fr (aC h0) m0 S0 w0 (ag hp0) m S w'→FR ap (gq f c ok (.pointer (some ⟨r,0,none⟩)) env0) hp0 [] nt m S w' a'→w'.heap[r]? =w1.heap[r]? →w'.heap[bm]? =w1.heap[bm]? →K .normal a' w')→REST.wp P K a w1)
  (hend:∀ (r:Nat) done (w:World) a,J done w→(∀ i,i<n→i ∈ done)→Fr (aC h0) m0 S0 w0 (ag hp0) m S w→FR ap (gq f c ok (.pointer (some ⟨r,0,none⟩)) env0) hp0 [] nt m S w a→Q .normal a w):
  (Code.seq (.region i0 #[o3,o4] false) (.block id (.loop (.seq (.region j #[o1,o2] false) (.seq (.cond (.tmp ok) .skip (.exit id)) REST))))).wp P Q a w:=by
 refine wp_seq (wp_region_list ?_);have hmv:=z.env tm;rw [hm] at hmv;simp only [VR] at hmv;obtain ⟨B',hB',_,_,hv⟩:=hmv;rw [hB] at hB';cases hB';have hv:=hv hver;obtain ⟨⟨cur,e,us,rest,hrow,F,hp',_⟩,_,_⟩:=z.srel.blk b B hB;have hp':=hp' hpr;rw [hcells] at hp';have hmap:∃ es clk,w.heap[(m b).1]? =some (.map es clk)∧cur=jF es:=by
  rcases hrow with ⟨p,_⟩|⟨_,es,clk,p,h2⟩
  ·exact absurd hz p
  ·exact ⟨es,clk,p,h2⟩
 obtain ⟨es,clk,G,rfl⟩:=hmap;have hu:bu S ks (es.toList.map (·.key))∧bu S vs (es.toList.map (·.val)):=by
  match us,hp',F with
  | [u1,u2],hp,F=>
   simp only [bu,PR] at hp;obtain ⟨⟨kk,rfl,p⟩,⟨vv,rfl,h2⟩,_⟩:=hp;simp only [jF,Xqw,μ,List.cons.injEq,Value.agg.injEq] at F;obtain ⟨D,e2,_⟩:=F;have D:es.toList.map (·.key)=kk:=by rw [← Array.toList_map,D]
   have e2:es.toList.map (·.val)=vv:=by rw [← Array.toList_map,e2]
   rw [D,e2];exact ⟨p,h2⟩
  | [],hp,_=>simp [bu] at hp
  | [_],hp,_=>simp [bu] at hp
  |_::_::_::_,hp,_=>simp [bu] at hp
 have hsz:es.size=n:=by
  have:=jU hu.1;rw [← hlen,this];simp
 have hge:w0.heap.size≤(m b).1:=by
  rcases l.img b B hB with p|⟨B0,p,_⟩
  ·exact p
  ·rw [hbase] at p;cases p
 have hwf:uH es clk:=by
  rcases l.mw b B hB _ _ G with ⟨es0,clk0,p,_⟩|⟨_,p⟩
  ·have:=(Array.getElem?_eq_some_iff.1 p).1;omega
  ·exact p
 refine wpList_plain hg3 fun K hK=> ?_
 unfold Oper.wp;simp [execOp,ho3,Result.andThen];refine hK _ _ ?_;rw [hd3];have hvt:a.eval (.tmp tm)= .map (some (m b).1):=hv;rw [hvt];refine wpList_plain hg4 fun K2 T=> ?_
 unfold Oper.wp;have O:(a.put (some R) (.map (some (m b).1))).eval (.tmp R)= .map (some (m b).1):=dh a R _ (by rw [z.size];exact ht1);simp [execOp,ho4,O,run_range_map w ty kt et (m b).1 es clk hund G,Result.andThen];refine T _ _ ?_;rw [hd4];show (Code.block _ _).wp P Q _ _;have W:FR ap env0 hp0 [] nt m S w ((a.put (some R) (.map (some (m b).1))).put (some f) (.pointer (some ⟨w.heap.size,0,none⟩))):=by
  have p:=z.drop (env':=env0) (hp':=hp0) (fun x C O=>(hsub x C O).1) hcl fun t=>(henv t).imp (fun h=>h) fun h=> ⟨h.2.2.1,h.2.2.2⟩
  have g1:env0.get R= .dead:=(henv R).elim (fun h=>h) fun h=>absurd rfl h.1
  have g2:env0.get f= .dead:=(henv f).elim (fun h=>h) fun h=>absurd rfl h.2.1
  exact (p.dead g1 _).dead g2 _
 have hFe:FR ap (gq f c ok (.pointer (some ⟨w.heap.size,0,none⟩)) env0) hp0 [] nt m S w ((a.put (some R) (.map (some (m b).1))).put (some f) (.pointer (some ⟨w.heap.size,0,none⟩))):=by
  refine ⟨W.srel,fun t=> ?_,W.dfs,W.size⟩;simp only [gq,dE.get,ag];by_cases D:f=t
  ·subst D;rw [Xxi];simp only [Xq9,VR,PR];exact dh _ f _ (by rw [aG,z.size];exact hit)
  ·rw [gG D];by_cases e2:ok=t
   ·subst e2;rw [Xxi];simp [VR]
   ·rw [gG e2];by_cases e3:c=t
    ·subst e3;rw [Xxi];simp [VR]
    ·rw [gG e3];exact W.env t
 have hfr2:=(l.drop (hp':=hp0) (fun x C O=>(hsub x C O).1) M).push (o:= .mapIter (some (m b).1) clk #[] clk) (fun _ _ h=>by cases h);have I:=hFe.push (.mapIter (some (m b).1) clk #[] clk);have hbl:(m b).1<w.heap.size:=(Array.getElem?_eq_some_iff.1 G).1;have hk:∀ k,k<w.heap.size→(w.alloc (.mapIter (some (m b).1) clk #[] clk)).heap[k]? =w.heap[k]? :=fun k hk=>by
  simp only [World.alloc,Array.getElem?_push];rw [if_neg (Xz8 hk)]
 have hnew:(w.alloc (.mapIter (some (m b).1) clk #[] clk)).heap[w.heap.size]? =some (.mapIter (some (m b).1) clk (dD es []) clk):=by
  simp only [World.alloc,Array.getElem?_push,if_true];rfl
 have hJ1:=hJ0 (w.alloc (.mapIter (some (m b).1) clk #[] clk)) hk (by simp) rfl rfl rfl;have hb1:=(hk _ hbl).trans G;have hoff:∀ x C,ag hp0 x=some C→(m x).1 ≠ (m b).1:=fun x C O D=>by
  obtain ⟨p,h2⟩:=hsub x C O;exact h2 (z.srel.inj x b C B p hB D)
 refine wp_block (wp_loop_rounds (qw n []+1) ?_);generalize N:w.heap.size=r at*
 have hr0:w0.heap.size≤r:=by rw [← N];exact l.size
 generalize w.alloc (.mapIter (some (m b).1) clk #[] clk)=w1 at*
 generalize (a.put (some R) (.map (some (m b).1))).put (some f) (.pointer (some ⟨r,0,none⟩))=a1 at*
 clear l z hJ0 W hFe hv hvt O hk N;have key:∀ (K:Act→World→Prop) (done:List Nat),(∀ i ∈ done,i<n)→∀ (w:World) (a:Act) (Y:Nat),J done w→
   Fr (aC h0) m0 S0 w0 (ag hp0) m S w→FR ap (gq f c ok (.pointer (some ⟨r,0,none⟩)) env0) hp0 [] nt m S w a→
   w.heap[r]? =some (.mapIter (some (m b).1) clk (dD es done) Y)→clk≤Y→w.heap[(m b).1]? =some (.map es clk)→
   (∀ i,i<n→i ∉ done→∀ w' a',J (i::done) w'→Fr (aC h0) m0 S0 w0 (ag hp0) m S w'→FR ap (gq f c ok (.pointer (some ⟨r,0,none⟩)) env0) hp0 [] nt m S w' a'→
    w'.heap[r]? =some (.mapIter (some (m b).1) clk (dD es (i::done)) clk)→w'.heap[(m b).1]? =some (.map es clk)→K a' w')→
   (Code.seq (.region j #[o1,o2] false) (.seq (.cond (.tmp ok) .skip (.exit id)) REST)).wp P (Exit.then K (Exit.inBlock id Q)) a w:=by
  intro K done hd w a Y hJ l z N hc G hK;have hpt:a.eval (.tmp f)= .pointer (some ⟨r,0,none⟩):=by
   have:=z.env f;simp only [gq,dE.get,ag,Xxi,Xq9,VR,PR] at this;exact this
  have hold:∀ x ∈ es.toList,x.born<clk:=hwf.2;refine wp_seq (wp_region_list ?_);refine wpList_plain hg1 fun K1 hK1=> ?_
  unfold Oper.wp;have E:∀ d,d=c∨d=ok→(gq f c ok (.pointer (some ⟨r,0,none⟩)) env0).get d= .dead:=by
   rintro d (rfl|rfl)
   ·have D:Δ f d=false:=gG hne.1;have e2:Δ ok d=false:=gG fun e=>htk e.symm
    simp [gq,dE.get,ag,D,e2]
   ·have D:Δ f d=false:=gG hne.2;simp [gq,dE.get,ag,D]
  rcases run_next_at (P:=P) w o1.type r (m b).1 clk Y (dD es done) es clk N G hold hc with ⟨hz,U⟩|⟨e,he,w1,hw1,U⟩
  ·simp [execOp,ho1,hpt,U,Result.andThen];refine hK1 _ _ ?_;rw [hd1];refine wpList_plain hg2 fun K2 T=> ?_
   unfold Oper.wp;have O:(a.put (some c) (.tuple #[.bool false])).eval (.tmp c)= .tuple #[.bool false]:=dh a c _ (by rw [z.size];exact htn);simp [execOp,ho2,O,Instr.extract,Result.andThen];refine T _ _ ?_;rw [hd2];have I:=(z.dead (E c (.inl rfl)) (.tuple #[.bool false])).dead (E ok (.inr rfl)) (.bool false);have M:((a.put (some c) (.tuple #[.bool false])).put (some ok) (.bool false)).eval (.tmp ok)= .bool false:=dh _ ok _ (by rw [aG,z.size];exact hok);refine wp_seq (wp_cond_false M (wp_exit ?_));have:=hend r done w _ hJ (fun i X=>Fh hwf (fun q hq=>by rw [hsz];exact hd q hq) hz i (by rw [hsz];exact X)) l I;simpa [Exit.then,Exit.inBlock] using this
  ·simp [execOp,ho1,hpt,U,Result.andThen];refine hK1 _ _ ?_;rw [hd1];refine wpList_plain hg2 fun K2 T=> ?_
   unfold Oper.wp;have O:(a.put (some c) (.tuple #[.bool true,e.key,e.val])).eval (.tmp c)= .tuple #[.bool true,e.key,e.val]:=dh a c _ (by rw [z.size];exact htn);simp [execOp,ho2,O,Instr.extract,Result.andThen];refine T _ _ ?_;rw [hd2];have I:=(z.dead (E c (.inl rfl)) (.tuple #[.bool true,e.key,e.val])).dead (E ok (.inr rfl)) (.bool true);have M:((a.put (some c) (.tuple #[.bool true,e.key,e.val])).put (some ok) (.bool true)).eval (.tmp ok)= .bool true:=dh _ ok _ (by rw [aG,z.size];exact hok);refine wp_seq (wp_cond_true M (wp_skip ?_));generalize (a.put (some c) (.tuple #[.bool true,e.key,e.val])).put (some ok) (.bool true)=a2 at I M;obtain ⟨i,Z,L⟩:=Ji he;have X:i<n:=by
    have:=(List.getElem?_eq_some_iff.1 Z).1;rw [← hsz];simpa using this
   have hborn:xJ es i=e.born:=sQ Z;have s:w1.heap=w.heap∧w1.os=w.os∧w1.tape=w.tape∧w1.output=w.output:=by rcases hw1 with rfl|rfl<;>exact ⟨rfl,rfl,rfl,rfl⟩
   have hrlt:r<w.heap.size:=(Array.getElem?_eq_some_iff.1 N).1;have V:(setBlock w1 r (Obj.mapIter (some (m b).1) clk ((dD es done).push e.born) clk)).heap[r]? =some (.mapIter (some (m b).1) clk ((dD es done).push e.born) clk):=by simp [setBlock,s.1,hrlt]
   have hk':∀ k,k ≠ r→(setBlock w1 r (Obj.mapIter (some (m b).1) clk ((dD es done).push e.born) clk)).heap[k]? =w.heap[k]? :=fun k hk0=>by
    simp only [setBlock,s.1];rw [Array.getElem?_setIfInBounds_ne (fun h=>hk0 h.symm)]
   have hsz':(setBlock w1 r (Obj.mapIter (some (m b).1) clk ((dD es done).push e.born) clk)).heap.size=w.heap.size:=by simp [setBlock,s.1]
   have hF3:=I.iter N V hk';have hfr3:=l.iter hr0 N V hk' hsz' s.2.1 s.2.2.1 s.2.2.2;have hJ3:=hJi done w _ r _ _ _ _ hJ N rfl hk' hsz' s.2.1 s.2.2.1 s.2.2.2;have hbr:(m b).1 ≠ r:=by intro D;rw [D,N] at G;cases G
   have hb3:=(hk' _ hbr).trans G;generalize setBlock w1 r (Obj.mapIter (some (m b).1) clk ((dD es done).push e.born) clk)=w2 at*
   have hent:=run_entry_at (P:=P) w2 r (m b).1 clk (dD es done) es clk e V hb3 (Γ Z) hwf.1;obtain ⟨k,hk1,hk2⟩:=AL (i:=i) hu.1 (u:=e.key) (by rw [Ψ,Z];rfl);obtain ⟨v,hv1,hv2⟩:=AL (i:=i) hu.2 (u:=e.val) (by rw [Ψ,Z];rfl);refine hrest r (m b).1 done i k v w2 a2 es clk _ rfl hJ3 X L hk1 hv1 hfr3 hF3 V (fun _ _ _ h=>by cases h) (fun _ _ h=>by cases h) hb3 rfl ⟨_,_,hent,hk2,hv2⟩ _ ?_;intro w' a' hJ' hfr' hF' p h2;refine hK i X L w' a' hJ' hfr' hF' ?_ (h2.trans hb3);rw [p,V,← hborn,zL]
 have main:∀ (A:Nat) (done:List Nat),(∀ i ∈ done,i<n)→qw n done≤A→∀ (w:World) (a:Act) (Y:Nat),J done w→
   Fr (aC h0) m0 S0 w0 (ag hp0) m S w→FR ap (gq f c ok (.pointer (some ⟨r,0,none⟩)) env0) hp0 [] nt m S w a→
   w.heap[r]? =some (.mapIter (some (m b).1) clk (dD es done) Y)→clk≤Y→w.heap[(m b).1]? =some (.map es clk)→
   Code.rounds P (.seq (.region j #[o1,o2] false) (.seq (.cond (.tmp ok) .skip (.exit id)) REST)) (Exit.inBlock id Q) (A+1) a w:=by
  intro A
  induction A with
  | zero=>
   intro done hd hu w a Y hJ l z N hc G;exact key _ done hd w a Y hJ l z N hc G fun i X L _ _ _ _ _ _ _=>by
    have:=ul X L;omega
  | succ A ih=>
   intro done hd hu w a Y hJ l z N hc G;exact key _ done hd w a Y hJ l z N hc G fun i X L w' a' p h2 h3 h4 h5=>
    ih (i::done) (fun q hq=>by
     rcases List.mem_cons.1 hq with rfl|hq
     ·exact X
     ·exact hd q hq) (by have:=ul X L;omega) w' a' clk p h2 h3 h4 (ε _) h5
 exact main (qw n []) [] (fun i X=>by cases X) (ε _) w1 a1 clk hJ1 hfr2 I hnew (ε _) hb1
end
end AM
namespace AM
open Go
open Go.ChangeMaps (setBlock)
section
variable {P:Program} {ap:AP} {g:bP} {m:aI} {S:aB} {w:World}
theorem IA:∀ l:List Value,aX g m S (l.map fun _=>AV.dead) l
 | []=>by simp [aX]
 |_::r=>by simp only [χ,aX,VR,true_and];exact IA r
theorem vw (es:Array MapEntry) (j:Nat) (f:MapEntry→MapEntry):(es.modify j f).toList=es.toList.modify j f:=by simp [Array.toList_modify]
theorem Jw (l:List MapEntry) (j:Nat) (f:MapEntry→MapEntry) (a:∀ e,(f e).born=e.born):(l.modify j f).map (·.born)=l.map (·.born):=by
 apply Xxx;intro n;simp only [Ψ,Xj8];cases l[n]? with
 |none=>rfl
 |some e=>simp;split<;>simp [a]
theorem LX (l:List MapEntry) (j:Nat) (v:Value):(l.modify j fun e=> {e with val:=v}).map (·.key)=l.map (·.key):=by
 apply Xxx;intro n;simp only [Ψ,Xj8];cases l[n]? with
 |none=>rfl
 |some e=>simp;split<;>simp
theorem Qi (r:dF P ap) {t K J:Nat} {M B N:TI} {i Q:TypeInfo} {z h:Value} {L:TypeDesc} (I:v_ P t M i (.map K J) z) (p:ap.tyAt K=some B) (q:v_ P J N Q L h) {k:AV} {ck:Value} (E:g_ B k=true) (R:VR g m S k ck)
  {b:Nat} {es:Array MapEntry} {clk:Nat} (hb:w.heap[b]? =some (.map es clk)) (hw:uH es clk) {ks:List AV} (hks:aX g m S ks (es.toList.map (·.key))) (hka:ks.all (g_ B)=true):
  ∃ v0 st c a j,(Instr.mapEntry t (.map (some b)) ck).run P w= .ok (.tuple #[v0,goInt st]) (setBlock w b (.map c a))∧
   ((∃ e,es.toList[j]? =some e∧e.key=ck∧v0=e.val∧c=es∧a=clk)∨(ks.any (BH k)=false∧c=es.push ⟨ck,h,clk⟩∧a=clk+1∧j=es.size∧v0=h))∧uH c a∧
   ∀ (w2:World) (val:Value),w2.heap[b]? =some (.map c a)→∃ es',(Instr.entryStore t (.map (some b)) (goInt st) val).run P w2= .ok () (setBlock w2 b (.map es' a))∧es'.toList=(c.toList.modify j fun e=> {e with val:=val})∧uH es' a:=by
 obtain ⟨V,Z,W,d⟩:=bW r p;have f:=x_ (w:=w) r p d E R;have store:∀ (c:Array MapEntry) (a j:Nat) (A:MapEntry),uH c a→c.toList[j]? =some A→∀ (w2:World) (val:Value),w2.heap[b]? =some (.map c a)→
   ∃ es',(Instr.entryStore t (.map (some b)) (goInt A.born) val).run P w2= .ok () (setBlock w2 b (.map es' a))∧es'.toList=(c.toList.modify j fun e=> {e with val:=val})∧uH es' a:=by
  intro c a j A u T w2 val s;have y:c.findIdx? (fun e=>(e.born:Int)==(A.born:Int))=some j:=by
   rw [WideElems.findIdx_arr];exact WideElems.findIdx_born u.1 T
  refine ⟨c.modify j fun e=> {e with val:=val}, ?_,vw _ _ _, ?_⟩
  ·simp [Instr.entryStore,MapKept.run_getObj_map s,asInt,asIntOf,goInt,y,MapKept.run_setObj_map _ s,Result.andThen,setBlock]
  ·exact u.same (by rw [vw];exact Jw _ _ _ fun _=>rfl)
 rcases nC f (v:= .dead) (cv:= .nilFunc) (by simp only [VR]) es.toList ks (es.toList.map fun _=>AV.dead) 0 hks (by have:=IA (g:=g) (m:=m) (S:=S) (es.toList.map (·.val));rwa [List.map_map] at this) hka with ⟨G,Y,O,_⟩|⟨j,e,x,G,o,C,X,_,U,_⟩
 ·have l:uH (es.push ⟨ck,h,clk⟩) (clk+1):=uH.push ck h hw;refine ⟨h,clk,es.push ⟨ck,h,clk⟩,clk+1,es.size, ?_,.inr ⟨O,rfl,rfl,rfl,rfl⟩,l, ?_⟩
  ·simp [Instr.mapEntry,run_underlying I.und,MapKept.run_getObj_map hb,f.chk,G.run d,zeroValue,typeInfo,q.info,q.zero,MapKept.run_setObj_map _ hb,Result.andThen,setBlock]
  ·exact store _ _ _ ⟨ck,h,clk⟩ l (by simp)
 ·have D:es[j]? =some e:=by simpa using o
  have hsame:es.modify j (fun e'=> {e' with key:=ck})=es:=by
   apply Array.ext';rw [vw];apply Xxx;intro n;rw [Xj8];by_cases hn:j=n
   ·subst hn;rw [o];simp only [Xqr,if_true];rw [← C];rfl
   ·simp [hn]
  refine ⟨e.val,e.born,es,clk,j, ?_,.inl ⟨e,o,C,rfl,rfl,rfl⟩,hw,store _ _ _ e hw o⟩;have hg:es.toList[j]? =some e:=o;have F:(Instr.keyThatStays e.key ck).run P w= .ok ck w:=by rw [C];exact f.stay
  simp [Instr.mapEntry,run_underlying I.und,MapKept.run_getObj_map hb,f.chk,G.run d,D,F,hsame,MapKept.run_setObj_map _ hb,Result.andThen,setBlock]
end
end AM
namespace AM
open Go
open Go.ChangeMaps (setBlock)
abbrev Cl:=Int × Int
def cC (c:Cl):List AV:= [.int .i64 c.1,.int .i64 c.2]
def cA (c:Cl):AV:= .agg (cC c)
def cU (c:Cl):List Value:= [.int .i64 c.1,.int .i64 c.2]
def cV (c:Cl):Value:= .agg (cU c).toArray
def cL (l:List Cl):List AV:=l.flatMap cC
def Gp (l:List Cl):List Value:=l.flatMap cU
theorem aaT {c d:Cl} (h:cV c=cV d):c=d:=by
 have h:=Value.agg.inj h;have h:=congrArg Array.toList h;simp only [cU,Xxw,List.cons.injEq,Value.int.injEq,true_and,and_true] at h;exact Prod.ext h.1 h.2
theorem KX (c:Cl):∀ u ∈ cU c,u.oneCell'=true:=by
 intro u a;simp only [cU,Xqu,List.not_mem_nil,or_false] at a;rcases a with rfl|rfl<;>rfl
theorem Wj (l:List Cl):∀ u ∈ Gp l,u.oneCell'=true:=by
 intro u a;obtain ⟨c,_,h⟩:=List.mem_flatMap.1 a;exact KX c u h
theorem Wi (l:List Cl):(Gp l).length=l.length*2:=by
 unfold Gp
 induction l with
 |nil=>rfl
 |cons c l ih=>simp only [List.flatMap_cons,ο,ih,Θ];simp [cU];omega
theorem KJ {S:aB} (c:Cl):bu S (cC c) (cU c):=by simp [cC,cU,bu,PR]
theorem Ri {S:aB}:∀ l:List Cl,bu S (cL l) (Gp l)
 | []=>by simp [cL,Gp,bu]
 |c::l=>jb (KJ c) (Ri l)
theorem Rj {S:aB} (c:Cl):PR S (cA c) (cV c):=by simp only [cA,cV,PR];exact ⟨cU c,rfl,KJ c⟩
theorem EO {S:aB} {c:Cl} {v:Value} (h:PR S (cA c) v):v=cV c:=by
 simp only [cA,cC,PR] at h;obtain ⟨vs,rfl,h⟩:=h
 match vs,h with
 | [a,b],h=>simp only [bu,PR] at h;obtain ⟨rfl,rfl,_⟩:=h;rfl
 | [],h=>simp [bu] at h
 | [_],h=>simp [bu] at h
 |_::_::_::_,h=>simp [bu] at h
theorem AO {S:aB}:∀ {l:List Cl} {us:List Value},bu S (cL l) us→us=Gp l
 | [],us,h=>by cases us with|nil=>rfl|cons _ _=>simp [cL,bu] at h
 | c::l,us,h=>by
  have e:cL (c::l)= .int .i64 c.1::.int .i64 c.2::cL l:=rfl;rw [e] at h
  match us,h with
  |a::b::us,h=>
   simp only [bu,PR] at h;obtain ⟨rfl,rfl,h⟩:=h;rw [AO h];rfl
  | [],h=>simp [bu] at h
  | [_],h=>simp [bu] at h
abbrev Ut:=List (Cl × List Cl)
def dn:Ut→Cl→List Cl
 | [],_=> []
 |(x,l)::r,d=>if x=d then l else dn r d
def jM:Ut→Cl→Cl→Ut
 | [],d,c=> [(d,[c])]
 |(x,l)::r,d,c=>if x=d then (x,l++ [c])::r else (x,l)::jM r d c
theorem FP:∀ {U:Ut} {d:Cl},d ∉ U.map (·.1)→dn U d= []∧∀ c,jM U d c=U++ [(d,[c])]
 | [],_,_=> ⟨rfl,fun _=>rfl⟩
 |(x,l)::r,d,h=>by
  simp only [χ,Xqu,not_or] at h;obtain ⟨b,f⟩:=FP h.2;have a:x ≠ d:=fun e=>h.1 e.symm
  exact ⟨by rw [dn,if_neg a,b],fun c=>by rw [jM,if_neg a,f];rfl⟩
theorem O1:∀ {U:Ut} {j:Nat} {x:Cl × List Cl},(U.map (·.1)).Nodup→U[j]? =some x→dn U x.1=x.2∧∀ c,jM U x.1 c=U.set j (x.1,x.2++ [c])
 | [],_,_,_,h=>by simp at h
 |(y,l)::r,0,x,_,h=>by simp at h;subst h;exact ⟨by rw [dn,if_pos rfl],fun c=>by rw [jM,if_pos rfl];rfl⟩
 |(y,l)::r,j+1,x,hn,h=>by
  simp only [χ,List.nodup_cons] at hn;simp only [List.getElem?_cons_succ] at h;have a:y ≠ x.1:=fun e=>hn.1 (List.mem_map.2 ⟨x,Γ h,e.symm⟩)
  obtain ⟨b,d⟩:=O1 hn.2 h;exact ⟨by rw [dn,if_neg a,b],fun c=>by rw [jM,if_neg a,d];rfl⟩
theorem EQ:∀ (U:Ut) (d c:Cl),(jM U d c).map (·.1)=if d ∈ U.map (·.1) then U.map (·.1) else U.map (·.1)++ [d]
 | [],d,c=>by simp [jM]
 | (x,l)::r,d,c=>by
  by_cases hx:x=d
  ·subst hx;simp [jM]
  ·have a:=EQ r d c;rw [jM,if_neg hx,χ,a];have:d ≠ x:=fun e=>hx e.symm
   by_cases hd:d ∈ r.map (·.1)<;>simp [hd,this]
theorem KN {U:Ut} {d c:Cl} (h:(U.map (·.1)).Nodup):((jM U d c).map (·.1)).Nodup:=by
 rw [EQ];split
 ·exact h
 ·rename_i j;rw [List.nodup_append];exact ⟨h,by simp,fun a i b f e=>by simp at f;subst f;subst e;exact j i⟩
theorem xx:∀ (U:Ut) (d c y:Cl),dn (jM U d c) y=if y=d then dn U d++ [c] else dn U y
 | [],d,c,y=>by
  by_cases h:y=d
  ·subst h;simp [jM,dn]
  ·have a:d ≠ y:=fun e=>h e.symm
   simp [jM,dn,h,a]
 | (x,l)::r,d,c,y=>by
  by_cases hx:x=d
  ·subst hx;by_cases h:y=x
   ·subst h;simp [jM,dn]
   ·have a:x ≠ y:=fun e=>h e.symm
    simp [jM,dn,h,a]
  ·have b:=xx r d c y;rw [jM,if_neg hx];by_cases h:x=y
   ·subst h;simp [dn,hx]
   ·rw [dn,if_neg h,b];by_cases h2:y=d
    ·subst h2;simp [dn,h]
    ·simp [dn,h2,h]
section
variable {P:Program} {ap:AP}
structure Ad (w:World) (base:Nat) (e:TypeId) (um x:Nat) (U:Ut) (bnd:Nat):Prop where
 ex:∃ es clk,w.heap[um]? =some (.map es clk)∧uH es clk∧es.toList.map (·.key)=U.map (fun x=>cV x.1)∧
  (∀ (i:Nat) (x:Cl × List Cl) (en:MapEntry),U[i]? =some x→es.toList[i]? =some en→x.2.length≤bnd∧w.ownsRow base e 2 en.val x.2.length (Gp x.2))∧
  (∀ (i j:Nat) (en en':MapEntry),es.toList[i]? =some en→es.toList[j]? =some en'→i ≠ j→en.val.ownBlock=none∨en.val.ownBlock ≠ en'.val.ownBlock)∧∀ en ∈ es.toList,en.val.ownBlock ≠ some x
 lt:um<base
 nd:(U.map (·.1)).Nodup
theorem Ad.new {w:World} {base a clk x:Nat} {e:TypeId} (h:w.heap[a]? =some (.map #[] clk)) (d:a<base):Ad w base e a x [] 0:=
 ⟨⟨#[],clk,h,⟨by simp,by simp⟩,rfl,fun i x b h=>by simp at h,fun i j b c h=>by simp at h,fun b h=>by simp at h⟩,d,by simp⟩
theorem Ad.kept {w w':World} {base b x:Nat} {e:TypeId} {U:Ut} {a:Nat} (h:Ad w base e b x U a) (f:w.grownBy w' none):Ad w' base e b x U a:=by
 obtain ⟨⟨es,clk,c,s,n,k,t,r⟩,u,o⟩:=h;refine ⟨⟨es,clk,(f.block b (Array.getElem?_eq_some_iff.1 c).1 (by simp)).trans c,s,n,fun i x d l j=> ?_,t,r⟩,u,o⟩;obtain ⟨q,p⟩:=k i x d l j;exact ⟨q,p.kept f (by cases d.val.ownBlock<;>simp)⟩
theorem Ad.apart {w w':World} {base b x r:Nat} {e:TypeId} {U:Ut} {a:Nat} (h:Ad w base e b x U a) (G:r<base) (c:b ≠ r) (j:∀ k,k ≠ r→w'.heap[k]? =w.heap[k]?):Ad w' base e b x U a:=by
 obtain ⟨⟨es,clk,q,D,p,n,s,C⟩,F,u⟩:=h;refine ⟨⟨es,clk,(j b c).trans q,D,p,fun i x t o l=> ?_,s,C⟩,F,u⟩;obtain ⟨A,y,f⟩:=n i x t o l;refine ⟨A,y, ?_⟩;rcases f with f|⟨g,d,cur,E,z,B,v⟩
 ·exact .inl f
 ·exact .inr ⟨g,d,cur,E,z,(j g (by omega)).trans B,v⟩
theorem Ad.new_x {w:World} {base l x y:Nat} {e:TypeId} {U:Ut} {b:Nat} (h:Ad w base e l x U b) (u:w.heap.size≤y):Ad w base e l y U b:=by
 obtain ⟨⟨es,clk,n,s,k,f,t,_⟩,q,p⟩:=h;refine ⟨⟨es,clk,n,s,k,f,t,fun o d r=> ?_⟩,q,p⟩;obtain ⟨i,j⟩:=Xxm d;have a:es.toList.length=U.length:=by have:=congrArg ν k;simpa using this
 have c:i<U.length:=by rw [← a];exact (List.getElem?_eq_some_iff.1 j).1
 have:=(f i U[i] o (ζ c) j).2.lt _ r;omega
theorem Ad.mono {w:World} {base j x:Nat} {e:TypeId} {U:Ut} {a bnd':Nat} (h:Ad w base e j x U a) (k:a≤bnd'):Ad w base e j x U bnd':=by
 obtain ⟨⟨es,clk,n,r,l,c,o,q⟩,s,p⟩:=h;exact ⟨⟨es,clk,n,r,l,fun i x f d b=> ⟨Xqh (c i x f d b).1 k,(c i x f d b).2⟩,o,q⟩,s,p⟩
theorem xU {w:World} {b:Nat} (o:Obj):w.grownBy (setBlock w b o) (some b):=
 ⟨rfl,rfl,rfl,by simp [setBlock],fun k _ a=>by
  simp only [setBlock];exact Array.getElem?_setIfInBounds_ne fun e=>a (by rw [e])⟩
theorem H8 {w:World} {b:Nat} (o:Obj) (h:b<w.heap.size):(setBlock w b o).heap[b]? =some o:=by simp [setBlock,h]
theorem Ad.entry (hap:dF P ap) {t kt et:Nat} {ti tk te:TI} {i ie:TypeInfo} {z ze:Value} {de:TypeDesc} (ht:v_ P t ti i (.map kt et) z) (htk:ap.tyAt kt=some tk) (hte:v_ P et te ie de ze) (V:ze= .slice none 0 0) (hok:∀ c,g_ tk (cA c)=true)
  {w:World} {base um x:Nat} {e:TypeId} {U:Ut} {bnd:Nat} (h:Ad w base e um x U bnd) (hbw:base≤w.heap.size) (hxw:x<w.heap.size) (d:Cl):
  ∃ v0 st w1,(Instr.mapEntry t (.map (some um)) (cV d)).run P w= .ok (.tuple #[v0,goInt st]) w1∧w.grownBy w1 (some um)∧w1.ownsRow base e 2 v0 (dn U d).length (Gp (dn U d))∧(dn U d).length≤bnd∧v0.ownBlock ≠ some x∧
   ∀ (w2:World) (F:Value) (c:Cl),w1.grownBy w2 v0.ownBlock→w2.ownsRow base e 2 F ((dn U d).length+1) (Gp (dn U d++ [c]))→(F.ownBlock=v0.ownBlock∨∃ k,F.ownBlock=some k∧w1.heap.size≤k)→
    ∃ w3,(Instr.entryStore t (.map (some um)) (goInt st) F).run P w2= .ok () w3∧w2.grownBy w3 (some um)∧Ad w3 base e um x (jM U d c) (bnd+1):=by
 obtain ⟨⟨es,clk,hb,hwf,hkeys,hrows,M,hxx⟩,hlt,O⟩:=h;have u:es.toList.length=U.length:=by have:=congrArg ν hkeys;simpa using this
 have hks:aX (fun _=>none) (fun _=>(0,0)) (fun _ _=>none) (U.map fun x=>cA x.1) (es.toList.map (·.key)):=by
  rw [hkeys];clear hkeys hrows u O
  induction U with
  |nil=>simp [aX]
  |cons x U ih=>simp only [χ,aX];exact ⟨d_ _ (Rj x.1),ih⟩
 have hka:(U.map fun x=>cA x.1).all (g_ tk)=true:=by
  rw [List.all_eq_true];intro a ha;obtain ⟨x,_,rfl⟩:=List.mem_map.1 ha;exact hok x.1
 have hum:um<w.heap.size:=(Array.getElem?_eq_some_iff.1 hb).1;obtain ⟨v0,st,s,p,j,hrun,hcase,hwf1,hstore⟩:=Qi (g:=fun _=>none) (m:=fun _=>(0,0)) (S:=fun _ _=>none) hap ht htk hte (hok d) (d_ _ (Rj d)) hb hwf hks hka;have T:w.grownBy (setBlock w um (.map s p)) (some um):=xU _;have keep:∀ {w':World} {v:Value} {n:Nat} {xs:List Value},w'.ownsRow base e 2 v n xs→∀ {w'':World},w'.grownBy w'' (some um)→w''.ownsRow base e 2 v n xs:=fun {w' v n xs} ho {w''} hg=>ho.kept hg (by
  cases I:v.ownBlock with
  |none=>exact .inl rfl
  |some k=>exact .inr fun B=>by have:=(ho.lt k I).1;cases B;omega)
 have found:∃ l,dn U d=l∧l.length≤bnd∧(setBlock w um (.map s p)).ownsRow base e 2 v0 l.length (Gp l)∧(∀ (i:Nat) (b:MapEntry),es.toList[i]? =some b→i ≠ j→b.val.ownBlock=none∨b.val.ownBlock ≠ v0.ownBlock)∧
   (∀ (i:Nat) (b:MapEntry),s.toList[i]? =some b→i ≠ j→es.toList[i]? =some b)∧j<s.toList.length∧(∀ c,(jM U d c).map (fun x=>cV x.1)=s.toList.map (·.key))∧
   (∀ (c:Cl) (i:Nat) (x:Cl × List Cl),(jM U d c)[i]? =some x→(i=j∧x.2=l++ [c])∨(i ≠ j∧U[i]? =some x)):=by
  rcases hcase with ⟨b,r,hek,rfl,rfl,rfl⟩|⟨hno,rfl,rfl,rfl,rfl⟩
  ·have G:j<U.length:=by rw [← u];exact (List.getElem?_eq_some_iff.1 r).1
   have E:U[j]? =some U[j]:=ζ G;have hd:U[j].1=d:=by
    have:=congrArg (fun l=>l[j]?) hkeys;simp only [Ψ,r,E,Xqr,Option.some.injEq] at this;exact aaT (this.symm.trans hek)
   obtain ⟨r1,Y⟩:=O1 O E;rw [hd] at r1 Y;obtain ⟨q1,q2⟩:=hrows j _ b E r;refine ⟨U[j].2,r1,q1,keep q2 T,fun i A f o=>M i j A b f r o,fun i A h _=>h,by rw [u];exact G,fun c=> ?_,fun c i x y=> ?_⟩
   ·rw [Y,hkeys];apply Xxx;intro n;simp only [Ψ,Xxv];by_cases hn:j=n
    ·subst hn;simp [G,hd,E]
    ·simp [hn]
   ·rw [Y,Xxv] at y;by_cases f:j=i
    ·subst f;simp [G] at y;subst y;exact .inl ⟨rfl,rfl⟩
    ·rw [if_neg f] at y;exact .inr ⟨fun e=>f e.symm,y⟩
  ·have hd:d ∉ U.map (·.1):=by
    intro hm;obtain ⟨x,y,rfl⟩:=List.mem_map.1 hm;have:(U.map fun x=>cA x.1).any (BH (cA x.1))=true:=List.any_eq_true.2 ⟨cA x.1,List.mem_map.2 ⟨x,y,rfl⟩,by simp [cA,cC,BH,GL,BI]⟩;rw [hno] at this;cases this
   obtain ⟨r1,Y⟩:=FP hd;refine ⟨[],r1,Xqp _,by rw [V];exact World.ownsRow_nil _ _ _ _,fun i b _ _=>by rw [V];cases b.val.ownBlock<;>simp [Value.ownBlock],fun i A h f=> ?_,by simp,fun c=> ?_,fun c i x y=> ?_⟩
   ·rw [Array.toList_push] at h;have:=(List.getElem?_eq_some_iff.1 h).1;simp at this;rwa [Xqa (by simp;omega)] at h
   ·rw [Y,Xxc,← hkeys,Array.toList_push,Xxc];rfl
   ·rw [Y] at y;have hl2:es.size=U.length:=by rw [← u];simp
    by_cases f:i<U.length
    ·rw [Xqa f] at y;exact .inr ⟨by omega,y⟩
    ·have:=(List.getElem?_eq_some_iff.1 y).1;simp at this;have N:i=U.length:=by omega
     subst N;simp at y;subst y;exact .inl ⟨hl2.symm,rfl⟩
 obtain ⟨l,hl,hlb,K,hapart,hold,hjlt,hk1,hr1⟩:=found;have L:v0.ownBlock ≠ some x:=by
  rcases hcase with ⟨b,r,_,rfl,_,_⟩|⟨_,_,_,_,rfl⟩
  ·exact hxx b (Γ r)
  ·rw [V];simp [Value.ownBlock]
 refine ⟨v0,st,_,hrun,T,by rw [hl];exact K,by rw [hl];exact hlb,L, ?_⟩;rw [hl];intro w2 F c hg2 hown' hwhere;have hum1:(setBlock w um (.map s p)).heap[um]? =some (.map s p):=H8 _ hum;have hv0:v0.ownBlock ≠ some um:=fun B=>by have:=(K.lt um B).1;omega
 have hw2:w2.heap[um]? =some (.map s p):=(hg2.block um (by simpa [setBlock] using hum) fun B=>hv0 B.symm).trans hum1;obtain ⟨Q,hrun',J,hwf'⟩:=hstore w2 F hw2;have hum2:um<w2.heap.size:=(Array.getElem?_eq_some_iff.1 hw2).1;have R:w2.grownBy (setBlock w2 um (.map Q p)) (some um):=xU _;have C:∀ (i:Nat) (b:MapEntry),Q.toList[i]? =some b→(i=j∧b.val=F)∨(i ≠ j∧es.toList[i]? =some b):=by
  intro i b f;rw [J,Xj8] at f;by_cases o:j=i
  ·subst o;left;refine ⟨rfl, ?_⟩;cases hq:s.toList[j]? with
   |none=>rw [hq] at f;cases f
   |some q=>rw [hq] at f;simp at f;subst f;rfl
  ·right;simp [o] at f;exact ⟨fun e=>o e.symm,hold i b (by simpa using f) fun e=>o e.symm⟩
 refine ⟨_,hrun',R,⟨Q,p,H8 _ hum2,hwf',by rw [J,LX,hk1],fun i x b y r=> ?_,fun i i' b A f N hne=> ?_,fun b r=> ?_⟩,hlt,KN O⟩
 ·rcases hr1 c i x y with ⟨rfl,W⟩|⟨o,W⟩
  ·rcases C i b r with ⟨_,I⟩|⟨D,_⟩
   ·rw [W,I];exact ⟨by simp;omega,keep (by simpa using hown') R⟩
   ·exact absurd rfl D
  ·rcases C i b r with ⟨D,_⟩|⟨_,he⟩
   ·exact absurd D o
   ·obtain ⟨q1,q2⟩:=hrows i x b W he;exact ⟨by omega,keep ((keep q2 T).kept hg2 (hapart i b he o)) R⟩
 ·have Z:∀ (i:Nat) (b:MapEntry),es.toList[i]? =some b→i ≠ j→b.val.ownBlock=none∨b.val.ownBlock ≠ F.ownBlock:=by
   intro i b f o;rcases hwhere with D|⟨k,D,X⟩
   ·rw [D];exact hapart i b f o
   ·cases I:b.val.ownBlock with
    |none=>exact .inl rfl
    |some q=>
     right;rw [D];intro B;cases B;have hiU:i<U.length:=by rw [← u];exact (List.getElem?_eq_some_iff.1 f).1
     have:=(hrows i U[i] b (ζ hiU) f).2.lt _ I;simp [setBlock] at X;omega
  rcases C i b f with ⟨D,I⟩|⟨D,X⟩<;>rcases C i' A N with ⟨h1',hv'⟩|⟨h1',h2'⟩
  ·omega
  ·rw [I];rcases Z i' A h2' h1' with B|B
   ·cases hvv:F.ownBlock with
    |none=>exact .inl rfl
    |some q=>exact .inr (by rw [B];simp)
   ·exact .inr fun e2=>B e2.symm
  ·rw [hv'];exact Z i b X D
  ·exact M i i' b A X h2' hne
 ·obtain ⟨i,f⟩:=Xxm r;rcases C i b f with ⟨_,I⟩|⟨_,X⟩
  ·rw [I];rcases hwhere with h3|⟨k,h3,h4⟩
   ·rw [h3];exact L
   ·rw [h3];intro B;cases B;simp [setBlock] at h4;omega
  ·exact hxx b (Γ X)
end
end AM
namespace AM
open Go
section
variable {P:Program} {ap:AP} {h0:List aK} {nt:Nat}
def EH (U:Ut):aK:=⟨[.agg (U.map fun x=>cA x.1),.agg (U.map fun x=> .sl (cL x.2) x.2.length false)],0,false,0,dP,true⟩
theorem Ad.shut {env:dE} {hp:Hp} {m0 m:aI} {S0 S:aB} {w0 w:World} {a:Act} {base v x0:Nat} {e:TypeId} {U:Ut} {bnd:Nat} (hfr:Fr (aC h0) m0 S0 w0 (ag hp) m S w) (hF:FR ap env hp [] nt m S w a)
  (h:Ad w base e v x0 U bnd) (hw0:w0.heap.size≤v) (hoff:ww (ag hp) m S w v) (hclr:∀ k,base≤k→(∀ b B,ag hp b=some B→(m b).1 ≠ k)∧∀ o,S k o=none) (b:Nat) (hb:ag hp b=none):
  ∃ z S',gZ S S'∧(∀ x,x ≠ b→z x=m x)∧z b=(v,0)∧(∀ k o,k<base→S' k o=S k o)∧Fr (aC h0) m0 S0 w0 (ag ((b,EH U)::hp)) z S' w∧FR ap env ((b,EH U)::hp) [] nt z S' w a:=by
 obtain ⟨⟨es,clk,G,hwf,hkeys,hrows,J,_⟩,hlt,hnd⟩:=h;have s:es.toList.length=U.length:=by have:=congrArg ν hkeys;simpa using this
 have K:∀ n,n≤U.length→∃ S',gZ S S'∧(∀ k o,k<base→S' k o=S k o)∧Fr (aC h0) m0 S0 w0 (ag hp) m S' w∧FR ap env hp [] nt m S' w a∧
   (∀ (i:Nat) (x:Cl × List Cl) (j:MapEntry),i<n→U[i]? =some x→es.toList[i]? =some j→PR S' (.sl (cL x.2) x.2.length false) j.val)∧
   (∀ (i:Nat) (j:MapEntry),n≤i→es.toList[i]? =some j→∀ k,j.val.ownBlock=some k→∀ o,S' k o=none):=by
  intro n
  induction n with
  |zero=>
   intro _;refine ⟨S,gZ.refl S,fun _ _ _=>rfl,hfr,hF,fun i x j h=>absurd h (by omega),fun i j _ A k t o=> ?_⟩;have W:i<U.length:=by rw [← s];exact (List.getElem?_eq_some_iff.1 A).1
   exact (hclr k ((hrows i U[i] j (ζ W) A).2.lt k t).1).2 o
  | succ n ih=>
   intro hn;obtain ⟨S1,Q,E,M,O,R,h6⟩:=ih (by omega);have r:U[n]? =some U[n]:=ζ (by omega);have p:es.toList[n]? =some (es.toList[n]'(by omega)):=ζ (by omega);generalize es.toList[n]'(by omega)=j at p;generalize U[n]=x at r;obtain ⟨q1,q2⟩:=hrows n x j r p;rcases q2.2 with ⟨I,D⟩|⟨g,cap,cur,I,hg1,C,Z,hg4,hg5,hg6⟩
   ·have L:x.2= []:=Xxd D;refine ⟨S1,Q,E,M,O,fun i y f A u d=> ?_,fun i f A=>h6 i f (by omega)⟩;by_cases hin:i=n
    ·subst hin;rw [r] at u;cases u;rw [p] at d;cases d;rw [L,I];simp only [PR];exact ⟨none,0,rfl,ε _,.inl ⟨fun _=>by simp,rfl,by simp,rfl⟩⟩
    ·exact R i y f (by omega) u d
   ·have T:ww (ag hp) m S1 w g:=⟨(Array.getElem?_eq_some_iff.1 C).1,(hclr g hg1).1,h6 n j (ε _) p g (by rw [I];rfl)⟩
    have Y:(Gp x.2).length=x.2.length*2:=Wi _;obtain ⟨r1,r2,r3,r4⟩:=J6 M O T (by omega) C (us:=Gp x.2) (by rw [Y];exact hg6) (Wj _);refine ⟨_,Q.trans r1,fun k o t=>by rw [← E k o t];unfold nK;rw [if_neg (by omega)],r2,r3,fun i y f A u d=> ?_,fun i f A d k t o=> ?_⟩
    ·by_cases hin:i=n
     ·subst hin;rw [r] at u;cases u;rw [p] at d;cases d;rw [I];simp only [PR];exact ⟨_,cap,rfl,Z,.inr ⟨g,0,Gp x.2,rfl,Ri _,r4⟩⟩
     ·exact bK r1 _ (R i y f (by omega) u d)
    ·have V:k ≠ g:=by
      rcases J i n f j d p (by omega) with e1|e1
      ·rw [e1] at t;cases t
      ·intro e2;subst e2;rw [t,I] at e1;exact e1 rfl
     unfold nK;rw [if_neg V];exact h6 i f (by omega) d k t o
 obtain ⟨S',Q,E,M,O,R,_⟩:=K U.length (ε _);have hoff':ww (ag hp) m S' w v:=⟨hoff.lt,hoff.blk,fun o=>by rw [E v o hlt];exact hoff.clr o⟩
 have X:bu S' (U.map fun x=>cA x.1) (es.toList.map (·.key)):=by
  rw [hkeys];have key:∀ l:Ut,bu S' (l.map fun x=>cA x.1) (l.map fun x=>cV x.1):=by
   intro l
   induction l with
   |nil=>simp [bu]
   |cons x l ih=>simp only [χ,bu];exact ⟨Rj x.1,ih⟩
  exact key U
 have hvs:bu S' (U.map fun x=> .sl (cL x.2) x.2.length false) (es.toList.map (·.val)):=by
  have key:∀ (l:Ut) (q:List MapEntry),l.length=q.length→(∀ (i:Nat) (x:Cl × List Cl) (j:MapEntry),l[i]? =some x→q[i]? =some j→PR S' (.sl (cL x.2) x.2.length false) j.val)→bu S' (l.map fun x=> .sl (cL x.2) x.2.length false) (q.map (·.val)):=by
   intro l
   induction l with
   |nil=>intro q N _;cases q with|nil=>simp [bu]|cons _ _=>simp at N
   | cons x l ih=>
    intro q N hr;cases q with
    |nil=>simp at N
    |cons j q=>
     simp only [χ,bu];exact ⟨hr 0 x j rfl rfl,ih q (by simpa using N) fun i y f h h'=>hr (i+1) y f (by simpa using h) (by simpa using h')⟩
  exact key U es.toList s.symm fun i x j L hen=>R i x j (List.getElem?_eq_some_iff.1 L).1 L hen
 have F:bu S' (EH U).cells [.agg (es.map (·.key)),.agg (es.map (·.val))]:=by
  simp only [EH,bu,PR,and_true];exact ⟨⟨es.toList.map (·.key),by rw [← Array.toList_map],X⟩,⟨es.toList.map (·.val),by rw [← Array.toList_map],hvs⟩⟩
 obtain ⟨z,k1,k2,k3,k4⟩:=Yo (h0:=h0) b (EH U) (k:=v) (c:=0) M O hb hoff' hw0 rfl rfl (fun es' clk' he=>by rw [G] at he;cases he;exact hwf)
  ⟨jF es,0,_,[],.inr ⟨rfl,es,clk,G,rfl⟩,by simp [jF],fun _=>F,aZ _ F,fun D=>absurd rfl D,fun _ D=>absurd rfl D⟩
 exact ⟨z,S',Q,k1,k2,E,k3,k4⟩
end
end AM
namespace AM
open Go
inductive HpS (b:Nat) (B:aK):Hp→Hp→Prop
 |nil:HpS b B [] []
 |cons {c:Nat} {C D:aK} {r l:Hp}:EJ b B D C→c ≠ b→HpS b B r l→HpS b B ((c,C)::r) ((c,D)::l)
section
variable {P:Program} {ap:AP}
theorem af.tidy {h0:List aK} {nt:Nat} {b:Code} {e:aV} {s s1 s2:St} (keep:List Nat) (h:af P ap h0 nt b s1 e s2) (k:AM.norm h0.length keep s=s1) (p:s1.md= .dead):af P ap h0 nt b s e s2:=by
 intro hs;obtain ⟨j,i⟩:=h p;refine ⟨j,fun m0 S0 w0 m S w a c o Q l=> ?_⟩;obtain ⟨n,f,d⟩:=jd (keep:=keep) c o;rw [k] at f d;exact i m0 S0 w0 n S w a f d Q l
end
end AM
namespace AM
open Go
def bare:AV→Bool
 | .int _ _=>true
 | .bool _=>true
 | .str _=>true
 | .nilS=>true
 | .nilP=>true
 | .nilI=>true
 | .nilF=>true
 |_=>false
def Rn:h_→Bool
 | .ret (.own xs _ e)=>xs.all bare && !(Δ e dP)
 | .ret (.tup l)=>l.all bare
 | .ret x=>bare x
 |_=>false
section
variable {P:Program} {ap:AP}
theorem V5 {S S':aB}:∀ {x:AV} {v:Value},bare x=true→PR S x v→PR S' x v
 | .int _ _,_,_,h=>by simpa only [PR] using h
 | .bool _,_,_,h=>by simpa only [PR] using h
 | .str _,_,_,h=>by simpa only [PR] using h
 | .nilS,_,_,h=>by simpa only [PR] using h
 | .nilP,_,_,h=>by simpa only [PR] using h
 | .nilI,_,_,h=>by simpa only [PR] using h
 | .nilF,_,_,h=>by simpa only [PR] using h
theorem mX {g g':bP} {m a:aI} {S S':aB}:∀ {x:AV} {v:Value},bare x=true→VR g m S x v→VR g' a S' x v
 | .int _ _,_,_,h=>by simpa only [VR,PR] using h
 | .bool _,_,_,h=>by simpa only [VR,PR] using h
 | .str _,_,_,h=>by simpa only [VR,PR] using h
 | .nilS,_,_,h=>by simpa only [VR,PR] using h
 | .nilP,_,_,h=>by simpa only [VR,PR] using h
 | .nilI,_,_,h=>by simpa only [VR,PR] using h
 | .nilF,_,_,h=>by simpa only [VR,PR] using h
theorem Iw {S S':aB}:∀ {l:List AV} {vs:List Value},l.all bare=true→bu S l vs→bu S' l vs
 | [],[],_,_=>by simp [bu]
 |x::l,v::vs,h,hv=>by
  simp only [Xx5,η] at h;simp only [bu] at hv ⊢;exact ⟨V5 h.1 hv.1,Iw h.2 hv.2⟩
 | [],_::_,_,hv=>by simp [bu] at hv
 |_::_,[],_,hv=>by simp [bu] at hv
theorem Dx:∀ {l:List AV},l.all bare=true→∀ n,fC n l=(l,[])
 | [],_,n=>rfl
 |x::l,h,n=>by
  simp only [Xx5,η] at h;have a:=Dx h.2 n;cases x<;>simp [bare] at h<;>simp [fC,a]
theorem EN {gh gf a b:bP} {m c:aI} {S S':aB} {n d:Nat}:∀ {l:List AV} {vs:List Value},l.all bare=true→ig gh gf m S n l vs→ig a b c S' d l vs
 | [],[],_,_=>by simp [ig]
 | x::l,v::vs,h,hv=>by
  simp only [Xx5,η] at h;have key:VR gh m S x v∧ig gh gf m S n l vs:=by
   cases x<;>simp [bare] at h<;>simpa only [ig] using hv
  have k2:=(⟨mX h.1 key.1,EN h.2 key.2⟩:VR a c S' x v∧ig a b c S' d l vs)
  cases x<;>simp [bare] at h<;>simpa only [ig] using k2
 | [],_::_,_,hv=>by simp [ig] at hv
 |_::_,[],_,hv=>by simp [ig] at hv
theorem I4 {g:bP} {m:aI} {S:aB} {w:World} (c:bi ap g m S w) (n:Nat):∀ {l l':List AV} {vs:List Value},f_ (frz g n) l=some l'→aX g m S l vs→bu (bY S m g w) l' vs
 | [],l',vs,h,hv=>by
  simp only [f_,Option.some.injEq] at h;subst h;cases vs with
  |nil=>simp [bu]
  |cons _ _=>simp [aX] at hv
 | x ::l,l',vs,h,hv=>by
  cases vs with
  |nil=>simp [aX] at hv
  | cons v vs=>
   simp only [aX] at hv;simp only [f_] at h;cases a:frz g n x with
   |none=>rw [a] at h;simp at h
   | some y=>
    cases b:f_ (frz g n) l with
    |none=>rw [a,b] at h;simp at h
    |some r=>
     rw [a,b] at h;simp at h;subst h;simp only [bu];exact ⟨jr c (fun _ _ h=>h) n x v y a hv.1,I4 c n b hv.2⟩
theorem oN {h:List aK} {B:aK} {b:Nat} {C:aK} (a:aC (h++ [B]) b=some C):(b<h.length∧aC h b=some C)∨(b=h.length∧C=B):=by
 unfold aC at a ⊢;by_cases hl:b<h.length
 ·rw [Xqa hl] at a;exact .inl ⟨hl,a⟩
 ·have e:b=h.length:=by
   have:=(List.getElem?_eq_some_iff.1 a).1;simp at this;omega
  subst e;simp at a;exact .inr ⟨rfl,a.symm⟩
theorem ah.lend {f:Nat} {args args':List AV} {h:List aK} {out:h_} (hz:f_ (frz (aC h) 6) args=some args') (E:Rn out=true) (hc:ah P ap f args' [] out []):ah P ap f args h out h:=by
 refine ⟨ε _,hc.ent,fun m S w cargs r t=> ?_⟩;have J:=j_ S m (aC h) w;have Y:bi ap (aC []) m (bY S m (aC h) w) w:=by
  refine ⟨fun b _ B _ p=>by simp [aC] at p,fun b B p=>by simp [aC] at p,fun k o v t=>kP r t,fun b B p=>by simp [aC] at p, ?_⟩;intro k F D;obtain ⟨vs,y,x⟩:=r.glob k F D;exact ⟨vs,a_ J _ y,fun j u hj=> ⟨J _ _ _ (x j u hj).1,(x j u hj).2⟩⟩
 have W:aX (aC []) m (bY S m (aC h) w) args' cargs:=aZ _ (I4 r 6 hz t);refine (hc.calls m _ w cargs Y W).mono fun e w' ⟨m',S',hF⟩=> ?_
 have hrest:∀ k,k<w.heap.size→w'.heap[k]? =w.heap[k]? :=fun k D=>hF.fr.rest k D fun b B p=>by simp [aC] at p
 have I:bi ap (aC h) m S w':=by
  refine ⟨r.inj,fun b B p=> ?_,fun k o v t=>hF.srel.sealed k o v (hF.fr.sle _ _ _ (J _ _ _ t)),r.own,r.glob⟩;obtain ⟨⟨cur,U,vs,rest,y,x⟩,M,h4⟩:=r.blk b B p;exact ⟨⟨cur,U,vs,rest,y.same (hrest _ (r.lt p)),x⟩,M,h4⟩
 have plain:(iW 0 out= [])→(∀ n,iW n out= [])→(V4 h m S out e)→∃ m' S',zO ap h m S w out h m' S' w' e:=fun _ x M=>by
  refine ⟨m,S, ?_, ?_,M⟩
  ·rw [x,υ];exact I
  ·rw [x,υ];exact ⟨Ge.refl _ _,gZ.refl _,hF.fr.os,hF.fr.tape,hF.fr.output,hF.fr.size,fun k D _=>hrest k D,fun b B p=> .inr ⟨B,p,rfl⟩,fun k o v t=> .inl t,
    fun b B p es clk d=> .inl ⟨es,clk,by rw [← hrest _ (r.lt p)];exact d,id⟩⟩
 have c:=hF.out
 match out,E with
 | .ret (.own F n e0),E=>
  simp only [Rn,η,Xqk] at E;obtain ⟨T,K⟩:=E;have K:e0 ≠ dP:=fun e=>by subst e;simp at K
  obtain ⟨cv,d,a⟩:=c;subst d;have G:aC ([]++iW ([]:List aK).length (.ret (.own F n e0))) 0=some (yA F e0):=rfl;have D:w.heap.size≤(m' 0).1:=by
   rcases hF.fr.img 0 _ G with y|⟨B1,y,_⟩
   ·exact y
   ·simp [aC] at y
  obtain ⟨⟨cur,U,vs,rest,k1,k2,k3,k4,k5,k6⟩,k7,k8⟩:=hF.srel.blk 0 _ G;have Q:bu S F vs:=Iw T (k3 rfl);have N:Ge (aC h) m (aC (h++ [yA F e0])) (fun i=>if i<h.length then m i else m' 0):=fun b B p=>by
   have hl:b<h.length:=(List.getElem?_eq_some_iff.1 p).1;refine ⟨B, ?_,rfl,.inl ⟨rfl,by simp [hl]⟩⟩;unfold aC at p ⊢;rw [Xqa hl];exact p
  have hmw:∀ b B,aC h b=some B→(m b).1<w.heap.size:=fun b B p=>r.lt p
  refine ⟨fun i=>if i<h.length then m i else m' 0,S,⟨fun b b' B B' C X d=> ?_,fun b B C=> ?_,I.sealed,fun b B C o v t=> ?_,r.glob⟩,
   ⟨N,gZ.refl _,hF.fr.os,hF.fr.tape,hF.fr.output,hF.fr.size,fun k D _=>hrest k D,fun b B C=> ?_,fun k o v t=> .inl t,fun b B C es clk R=> ?_⟩,⟨cv,rfl, ?_⟩⟩
  ·rcases oN C with ⟨A,q⟩|⟨z,q⟩<;>rcases oN X with ⟨Z,V⟩|⟨e2,V⟩
   ·simp [A,Z] at d;exact r.inj b b' B B' q V d
   ·subst e2;simp [A] at d;have:=hmw b B q;omega
   ·subst z;simp [Z] at d;have:=hmw b' B' V;omega
   ·rw [z,e2]
  ·rcases oN C with ⟨A,q⟩|⟨z,q⟩
   ·simp only [if_pos A];exact (I.blk b B q).mono (gZ.refl S) N rfl
   ·subst z q;simp only [Xjg,if_false];exact ⟨⟨cur,U,vs,rest,k1,k2,fun _=>Q,aZ _ Q,k5,k6⟩,k7,k8⟩
  ·rcases oN C with ⟨A,q⟩|⟨z,q⟩
   ·simp only [if_pos A] at t;exact r.own b B q o v t
   ·subst z q;simp only [Xjg,if_false] at t;have:=r.seal_lt t;omega
  ·rcases oN C with ⟨A,q⟩|⟨z,q⟩
   ·simp only [if_pos A];exact .inr ⟨B,q,trivial⟩
   ·subst z;simp only [Xjg,if_false];exact .inl D
  ·rcases oN C with ⟨A,q⟩|⟨z,q⟩
   ·simp only [if_pos A] at R ⊢;exact .inl ⟨es,clk,by rw [← hrest _ (hmw b B q)];exact R,id⟩
   ·subst z q;simp only [Xjg,if_false] at R ⊢;obtain ⟨es',clk',O,_⟩:∃ es clk,w'.heap[(m' 0).1]? =some (Obj.map es clk)∧True:=⟨es,clk,R,trivial⟩
    have:=k1.cells (show e0 ≠ dP from K);rw [this] at O;cases O
  ·simp only [u_,VR] at a ⊢;obtain ⟨B,p,y,x,M⟩:=a;have p:B=yA F e0:=by
    have:=p.symm.trans G;simpa using this
   subst p;refine ⟨yA F e0,by simp [aC,jf],y,x,fun e=> ?_⟩;simpa using M e
 | .ret (.tup l),E=>
  simp only [Rn] at E;obtain ⟨cv,d,a⟩:=c;have L:∀ n,(jf n (.tup l)).2= []:=fun n=>by
   simp only [jf,Dx E n]
  refine plain (L 0) L ⟨cv,d, ?_⟩;simp only [u_] at a ⊢;obtain ⟨vs,y,x⟩:=a;exact ⟨vs,y,EN E x⟩
 | .ret (.int k n),_=>
  obtain ⟨cv,d,a⟩:=c;exact plain rfl (fun _=>rfl) ⟨cv,d,mX (g:=aC []) (m:=m') rfl a⟩
 | .ret (.bool b),_=>
  obtain ⟨cv,d,a⟩:=c;exact plain rfl (fun _=>rfl) ⟨cv,d,mX (g:=aC []) (m:=m') rfl a⟩
 | .ret (.str s),_=>
  obtain ⟨cv,d,a⟩:=c;exact plain rfl (fun _=>rfl) ⟨cv,d,mX (g:=aC []) (m:=m') rfl a⟩
 | .ret .nilS,_=>
  obtain ⟨cv,d,a⟩:=c;exact plain rfl (fun _=>rfl) ⟨cv,d,mX (g:=aC []) (m:=m') rfl a⟩
 | .ret .nilP,_=>
  obtain ⟨cv,d,a⟩:=c;exact plain rfl (fun _=>rfl) ⟨cv,d,mX (g:=aC []) (m:=m') rfl a⟩
 | .ret .nilI,_=>
  obtain ⟨cv,d,a⟩:=c;exact plain rfl (fun _=>rfl) ⟨cv,d,mX (g:=aC []) (m:=m') rfl a⟩
 | .ret .nilF,_=>
  obtain ⟨cv,d,a⟩:=c;exact plain rfl (fun _=>rfl) ⟨cv,d,mX (g:=aC []) (m:=m') rfl a⟩
end
end AM
namespace AM
open Go
open Go.ChangeMaps (setBlock)
def iV (k:Nat):Value:= .int .i64 (k:Int)
def iL (l:List Nat):List Value:=l.map iV
end AM
namespace AM
open Go
abbrev WJ:Type:=Nat→bP→aI→aB→World→Prop
def aaI (J:WJ):Prop:=∀ B g m S w g' m' S' w',Fr g m S w g' m' S' w'→J B g m S w→J B g' m' S' w'
section
variable {P:Program} {ap:AP} {h0:List aK} {nt:Nat}
def qU (P:Program) (ap:AP) (h0:List aK) (nt:Nat) (code:Code) (s:St) (J:WJ) (e:aV) (s':St) (J':WJ):Prop:=
 s.md= .dead→s'.md= .dead∧∀ m0 S0 w0 m S w a,Fr (aC h0) m0 S0 w0 (ag s.hp) m S w→FR ap s.env s.hp s.dfs nt m S w a→J w0.heap.size (ag s.hp) m S w→∀ Q,
  (∀ m' S' w' a',Fr (aC h0) m0 S0 w0 (ag s'.hp) m' S' w'→FR ap s'.env s'.hp s'.dfs nt m' S' w' a'→J' w0.heap.size (ag s'.hp) m' S' w'→lH s'.hp m' S' Q a' w' e)→code.wp P Q a w
theorem af.w {i:List aK} {b:Code} {s s':St} {e:aV} {J:WJ} (q:aaI J) (j:ag s.hp=aC i) (h:af P ap i nt b s e s'):qU P ap h0 nt b s J e s' J:=by
 intro c;obtain ⟨l,k⟩:=h c;refine ⟨l,fun m0 S0 w0 m S w a d p r Q n=>k m S w m S w a (j ▸ Fr.refl _ _ _ _) p Q fun o S' w' a' f t=> ?_⟩;rw [← j] at f;exact n o S' w' a' (d.trans f) t (q _ _ _ _ _ _ _ _ _ f r)
theorem qU.block {id:Nat} {b:Code} {s s':St} {e:aV} {J J':WJ} (h:qU P ap h0 nt b s J e s' J'):qU P ap h0 nt (.block id b) s J (lq id e) s' J':=by
 intro f;obtain ⟨l,k⟩:=h f;refine ⟨l,fun m0 S0 w0 m S w a j r t Q o=>wp_block (k m0 S0 w0 m S w a j r t _ ?_)⟩;intro p S' w' a' x u n;have c:=o p S' w' a' x u n;cases e with
 |normal=>exact c
 |ret=>exact c
 |panic v=>exact c
 | exit id'=>
  simp only [lq] at c;split at c
  ·rename_i d;show Exit.inBlock id Q (.exit id') a' w';have:=Xqq d;subst this;simpa [lH,Exit.inBlock] using c
  ·rename_i d;have i:id' ≠ id:=fun q=>by subst q;simp at d
   simpa [lH,Exit.inBlock,i] using c
inductive Rf (P:Program) (ap:AP) (h0:List aK) (nt:Nat) (b:Code) (e:aV):St→WJ→St→WJ→Prop where
 |done {s s':St} {J J':WJ}:qU P ap h0 nt b s J e s' J'→Rf P ap h0 nt b e s J s' J'
 |next {s s1 s':St} {J J1 J':WJ}:qU P ap h0 nt b s J .normal s1 J1→Rf P ap h0 nt b e s1 J1 s' J'→Rf P ap h0 nt b e s J s' J'
end
end AM
namespace AM
open Go
section
variable {P:Program} {ap:AP}
theorem Ud {h0:List aK} {keep:List Nat} {s:St} {nt:Nat} {m m0:aI} {S S0:aB} {w w0:World} {a:Act} (f:Fr (aC h0) m0 S0 w0 (ag s.hp) m S w) (C:FR ap s.env s.hp s.dfs nt m S w a):
  ∃ m',Fr (aC h0) m0 S0 w0 (ag (norm h0.length keep s).hp) m' S w∧FR ap (norm h0.length keep s).env (norm h0.length keep s).hp (norm h0.length keep s).dfs nt m' S w a∧∀ p B2,ag (norm h0.length keep s).hp p=some B2→∃ b B,ag s.hp b=some B∧(m' p).1=(m b).1:=by
 obtain ⟨_,t0,Q⟩:=lN (ag s.hp) 20 (Xqf h0.length) List.nodup_range;generalize hroots:t0++(rF keep s.env++s.dfs.flatMap (fun d=>bG d.2))=roots;have hroots':lM (ag s.hp) 20 (Xqf h0.length)++rF keep s.env++s.dfs.flatMap (fun d=>bG d.2)=Xqf h0.length++roots:=by rw [← hroots,Q];simp only [Ξ]
 obtain ⟨T,t1,K⟩:=Dc h0.length roots;obtain ⟨W,t2,I⟩:=lN (ag s.hp) 20 _ T;rw [K,Ξ] at I;have hsome:∀ b,b<h0.length→∃ B0 B,aC h0 b=some B0∧ag s.hp b=some B∧B.esz=B0.esz∧((B.ver=B0.ver∧m b=m0 b)∨B0.ver<B.ver):=by
  intro b z;obtain ⟨B,j,k⟩:=f.ge b h0[b] (by simp [aC,z]);exact ⟨h0[b],B,by simp [aC,z],j,k⟩
 generalize n:(lM (ag s.hp) 20 (fO (Xqf h0.length++roots))).filter (fun b=>(ag s.hp b).isSome)=ids;have O:ids.Nodup:=by rw [← n];exact W.filter _
 have D:=yx O;have x:∃ t,ids=Xqf h0.length++t:=by
  rw [← n,K,I,List.filter_append];refine ⟨_,congrArg (· ++_) ?_⟩;rw [List.filter_eq_self];intro b z;obtain ⟨_,B,_,k,_⟩:=hsome b (by simpa using z);simp [k]
 obtain ⟨t,x⟩:=x;have u:∀ b,b<h0.length→ids[b]? =some b:=by
  intro b z;rw [x,Xqa (by simpa using z)];simp [z]
 have J:∀ (p b:Nat),ids[p]? =some b→∃ B,ag s.hp b=some B:=by
  intro p b hp;have:=Γ hp;rw [← n,Xxa] at this;exact Option.isSome_iff_exists.1 this.2
 let ρ:Nat→Nat→Option (Nat × Nat):=fun b v=>match ag s.hp b with
  |some B=>match Δ B.ver v with
   |true=>(mO ids b).map fun p=>(p,match Xq5 p h0.length with|true=>v|false=>0)
   |false=>none
  |none=>none
 let mk:Nat→aK→aK:=fun p B=> {B with cells:=(match B.pr with|true=>B.cells|false=>jO ρ B.cells),ver:=match Xq5 p h0.length with|true=>B.ver|false=>0}
 have hnorm:norm h0.length keep s=⟨keep.map fun t=>(t,ren ρ (s.env.get t)),ids.zipIdx.filterMap fun (b,p)=>(ag s.hp b).map fun B=>(p,mk p B),s.md,s.dfs.map fun d=>(d.1,jO ρ d.2)⟩:=by
  unfold norm;simp only [hroots',n];rfl
 rw [hnorm];dsimp only;have A:∀ p,ag (ids.zipIdx.filterMap fun (b,p)=>(ag s.hp b).map fun B=>(p,mk p B)) p=(ids[p]?).bind fun b=>(ag s.hp b).map (mk p):=by
  intro p;rw [rP (rd:=ag s.hp) (mk:=mk) ids 0 p,if_pos (Xqp _),Nat.sub_zero]
 generalize (ids.zipIdx.filterMap fun (b,p)=>(ag s.hp b).map fun B=>(p,mk p B))=hp2 at A;have c:∀ (p:Nat) (B2:aK),ag hp2 p=some B2→∃ b B,ids[p]? =some b∧ag s.hp b=some B∧B2=mk p B:=by
  intro p B2 h;rw [A] at h;cases hp:ids[p]? with
  |none=>rw [hp] at h;cases h
  |some b=>
   rw [hp] at h;obtain ⟨B,L⟩:=J p b hp;simp only [Option.bind_some,L,Xqr,Option.some.injEq] at h;exact ⟨b,B,rfl,L,h.symm⟩
 let m2:aI:=fun p=>m (ids.getD p 0)
 have i:∀ (p b:Nat),ids[p]? =some b→m2 p=m b:=by
  intro p b hp;show m (ids.getD p 0)=_;rw [π,hp];rfl
 have y:mV (ag s.hp) m (ag hp2) m2 ρ:=by
  intro b ver p Z h B L hver;simp only [ρ,L] at h;split at h
  ·rename_i G;have G:=aF G;simp only [Option.map_eq_some_iff,Prod.mk.injEq] at h;obtain ⟨q,F,rfl,rfl⟩:=h;have F:=lF F;refine ⟨mk q B, ?_, ?_,fun _=> ⟨G,i q b F,rfl⟩⟩
   ·rw [A,F];simp [L]
   ·simp only [mk];split
    ·omega
    ·exact ε _
  ·cases h
 have E:∀ (p q b:Nat),ids[p]? =some b→ids[q]? =some b→p=q:=by
  intro p q b hp F;have Y:=kF D hp;rw [kF D F] at Y;cases Y;rfl
 refine ⟨m2, ?_,⟨?_, ?_, ?_,C.size⟩,fun p B2 hp=>by
  obtain ⟨b,B,j,k,rfl⟩:=c p B2 hp;exact ⟨b,B,k,by rw [i p b j]⟩⟩
 ·refine ⟨?_,f.sle,f.os,f.tape,f.output,f.size,f.rest, ?_,f.sealN,fun p B2 hp=>by
   obtain ⟨b,B,j,k,rfl⟩:=c p B2 hp;rw [i p b j];exact f.mw b B k⟩
  ·intro b B0 z;have r:b<h0.length:=(List.getElem?_eq_some_iff.1 z).1;obtain ⟨B0',B,j,k,N,V⟩:=hsome b r;rw [z] at j;cases j;have U:Xq5 b h0.length=true:=Nat.ble_eq_true_of_le r;refine ⟨mk b B,by rw [A,u b r];simp [k],N, ?_⟩;simp only [mk,U];rw [i b b (u b r)];exact V
  ·intro p B2 hp;obtain ⟨b,B,j,k,rfl⟩:=c p B2 hp;rw [i p b j];rcases f.img b B k with h|⟨B0,N,V⟩
   ·exact .inl h
   ·have r:b<h0.length:=(List.getElem?_eq_some_iff.1 N).1;have:=E p b b j (u b r);subst this;exact .inr ⟨B0,N,V⟩
 ·refine ⟨?_, ?_,C.srel.sealed, ?_,C.srel.glob⟩
  ·intro p q B2 B2' hp F e;obtain ⟨b,B,j,k,rfl⟩:=c p B2 hp;obtain ⟨b',B',M,R,rfl⟩:=c q B2' F;rw [i p b j,i q b' M] at e;have:=C.srel.inj b b' B B' k R e;subst this;exact E p q b j M
  ·intro p B2 hp;obtain ⟨b,B,j,k,rfl⟩:=c p B2 hp;rw [i p b j];obtain ⟨⟨cur,e,vs,rest,k1,k2,k3,k4,k5,k6⟩,k7,k8⟩:=C.srel.blk b B k;cases l:B.pr with
   |true=>exact ⟨⟨cur,e,vs,rest,k1,k2,fun _=>by simpa [mk,l] using k3 l,by simpa [mk,l] using aZ _ (k3 l),k5,k6⟩,k7,by simpa [mk,l] using k8⟩
   | false=>
    have G:=iI (gZ.refl S) y _ k4;exact ⟨⟨cur,e,vs,rest,k1,k2,fun h=>by simp [mk,l] at h,by simpa [mk,l] using G,k5,k6⟩,k7,by
     have:(mk p B).cells.length=B.cells.length:=by simp only [mk,l];rw [aY k4,aY G]
     rw [this];exact k8⟩
  ·intro p B2 hp o v X;obtain ⟨b,B,j,k,rfl⟩:=c p B2 hp;rw [i p b j] at X;exact C.srel.own b B k o v X
 ·intro t;simp only [dE.get,yc];by_cases ht:t ∈ keep
  ·rw [if_pos ht];exact qX (gZ.refl S) y _ (C.env t)
  ·rw [if_neg ht];simp [VR]
 ·exact wo (gZ.refl S) y C.dfs
def Sub (J:WJ):Prop:=∀ n g m S w g' m',(∀ b B,g' b=some B→∃ b0 B0,g b0=some B0∧(m' b).1=(m b0).1)→J n g m S w→J n g' m' S w
end
end AM
namespace AM
open Go
open Go.ChangeMaps (setBlock)
theorem xk {w w':World} {base:Nat} {e:TypeId} {z:Nat} {v:Value} {n:Nat} {c:List Value} (h:w.ownsRow base e z v n c) (i:∀ b,v.ownBlock=some b→w'.heap[b]? =w.heap[b]?):w'.ownsRow base e z v n c:=by
 refine ⟨h.1, ?_⟩;rcases h.2 with hn|⟨g,a,cur,rfl,d,f,rest⟩
 ·exact .inl hn
 ·exact .inr ⟨g,a,cur,rfl,d,(i g rfl).trans f,rest⟩
theorem ww.sub {g g':bP} {m c:aI} {S:aB} {w:World} {k:Nat} (h:ww g m S w k) (d:∀ b B,g' b=some B→∃ a B0,g a=some B0∧(c b).1=(m a).1):ww g' c S w k:=
 ⟨h.lt,fun b B f e=>by
  obtain ⟨a,B0,i,j⟩:=d b B f;exact h.blk a B0 i (j ▸ e),h.clr⟩
end AM
namespace AM
open Go
open Go.ChangeMaps (setBlock)
def WT:WJ:=fun _ _ _ _ _=>True
section
variable {P:Program} {ap:AP} {h0:List aK} {nt:Nat}
theorem af.ofW {b:Code} {s s':St} {e:aV} (h:qU P ap h0 nt b s WT e s' WT):af P ap h0 nt b s e s':=by
 intro c;obtain ⟨i,f⟩:=h c;exact ⟨i,fun m0 S0 w0 m S w a d l Q j=>f m0 S0 w0 m S w a d l trivial Q fun k S' w' a' o n _=>j k S' w' a' o n⟩
theorem af.toW {b:Code} {s s':St} {e:aV} (h:af P ap h0 nt b s e s'):qU P ap h0 nt b s WT e s' WT:=by
 intro c;obtain ⟨i,f⟩:=h c;exact ⟨i,fun m0 S0 w0 m S w a d l _ Q j=>f m0 S0 w0 m S w a d l Q fun k S' w' a' o n=>j k S' w' a' o n trivial⟩
theorem Fv {α:Type} {k x:Nat} {B C:α} {r:List (Nat × α)} (h:ag ((k,B)::r) x=some C):(x=k∧C=B)∨(x ≠ k∧ag r x=some C):=by
 by_cases e:k=x
 ·subst e;simp [ag] at h;exact .inl ⟨rfl,h.symm⟩
 ·simp [ag,gG e] at h;exact .inr ⟨fun a=>e a.symm,h⟩
theorem FR.dropP {env env':dE} {hp hp':Hp} {m:aI} {S:aB} {w:World} {a:Act} (h:FR ap env hp [] nt m S w a) (c:∀ x B,ag hp' x=some B→ag hp x=some B) (l:∀ x B,ag hp' x=some B→B.pr=false→∀ y ∈ bG B.cells,ag hp' y=ag hp y) (d:∀ t,env'.get t= .dead∨(env'.get t=env.get t∧∀ y ∈ cZ (env'.get t),ag hp' y=ag hp y)):FR ap env' hp' [] nt m S w a:=by
 refine ⟨⟨fun b u B B' j k e=>h.srel.inj b u B B' (c _ _ j) (c _ _ k) e,fun b B f=> ?_,h.srel.sealed,fun b B f=>h.srel.own b B (c _ _ f),h.srel.glob⟩,fun t=> ?_, ?_,h.size⟩
 ·obtain ⟨⟨cur,e,vs,rest,j,k,o,p,z⟩,v,s⟩:=h.srel.blk b B (c _ _ f);refine ⟨⟨cur,e,vs,rest,j,k,o, ?_,z⟩,v,s⟩;cases hp:B.pr with
  |true=>exact aZ _ (o hp)
  |false=>exact jl (gZ.refl S) _ (fun y i=> ⟨l b B f hp y i,rfl⟩) p
 ·rcases d t with e|⟨e,n⟩
  ·rw [e];simp [VR]
  ·rw [e] at n ⊢;exact oI (gZ.refl S) _ (fun y i=> ⟨n y i,rfl⟩) (h.env t)
 ·have:=h.dfs;cases q:a.defers with
  |nil=>simp [dW]
  |cons x r=>rw [q] at this;simp [dW] at this
end
end AM
namespace AM
open Go
section
variable {P:Program} {ap:AP} {h0:List aK} {nt:Nat}
def aA (P:Program) (ap:AP) (h0:List aK) (nt:Nat) (code:Code) (s:St) (J:WJ) (e:aV) {ι:Type} (F:ι→St) (K:ι→WJ):Prop:=
 s.md= .dead→∀ m0 S0 w0 m S w a,Fr (aC h0) m0 S0 w0 (ag s.hp) m S w→FR ap s.env s.hp s.dfs nt m S w a→J w0.heap.size (ag s.hp) m S w→∀ Q,
  (∀ i m' S' w' a',(F i).md= .dead→Fr (aC h0) m0 S0 w0 (ag (F i).hp) m' S' w'→FR ap (F i).env (F i).hp (F i).dfs nt m' S' w' a'→K i w0.heap.size (ag (F i).hp) m' S' w'→lH (F i).hp m' S' Q a' w' e)→code.wp P Q a w
variable {ι κ:Type}
theorem aA.ofW {b:Code} {s:St} {J:WJ} {e:aV} {F:ι→St} {K:ι→WJ} (i:ι) (h:qU P ap h0 nt b s J e (F i) (K i)):aA P ap h0 nt b s J e F K:=by
 intro c m0 S0 w0 m S w a d o p Q l;obtain ⟨j,f⟩:=h c;exact f m0 S0 w0 m S w a d o p Q fun n S' w' a' r q k=>l i n S' w' a' j r q k
theorem aA.toW {b:Code} {s s':St} {J J':WJ} {e:aV} (h:aA P ap h0 nt b s J e (fun _:Unit=>s') (fun _=>J')) (p:s'.md= .dead):qU P ap h0 nt b s J e s' J':=fun c=>
 ⟨p,fun m0 S0 w0 m S w a d l n Q j=>h c m0 S0 w0 m S w a d l n Q fun _ k S' w' a' _ i o f=>j k S' w' a' i o f⟩
theorem aA.seq {x y:Code} {s:St} {J:WJ} {e:aV} {F:ι→St} {K:ι→WJ} {G:κ→St} {L:κ→WJ} (f:aA P ap h0 nt x s J .normal F K) (d:∀ i,aA P ap h0 nt y (F i) (K i) e G L):aA P ap h0 nt (.seq x y) s J e G L:=by
 intro b m0 S0 w0 m S w a c n o Q k;refine wp_seq (f b m0 S0 w0 m S w a c n o _ ?_);intro i l S' w' a' hm j h p;exact d i hm m0 S0 w0 l S' w' a' j h p Q k
theorem aA.seqW {x y:Code} {s s1:St} {J J1:WJ} {e:aV} {G:κ→St} {L:κ→WJ} (b:qU P ap h0 nt x s J .normal s1 J1) (a:aA P ap h0 nt y s1 J1 e G L):aA P ap h0 nt (.seq x y) s J e G L:=
 aA.seq (ι:=Unit) (F:=fun _=>s1) (K:=fun _=>J1) (aA.ofW () b) fun _=>a
theorem aA.seq_out {x y:Code} {s:St} {J:WJ} {e:aV} {F:ι→St} {K:ι→WJ} (c:e ≠ .normal) (f:aA P ap h0 nt x s J e F K):aA P ap h0 nt (.seq x y) s J e F K:=by
 intro b m0 S0 w0 m S w a d l n Q j;refine wp_seq (f b m0 S0 w0 m S w a d l n _ ?_);intro i k S' w' a' hm p o h;have:=j i k S' w' a' hm p o h;cases e with
 |normal=>exact absurd rfl c
 |exit id=>exact this
 |ret=>exact this
 |panic v=>exact this
theorem aA.block {id:Nat} {b:Code} {s:St} {J:WJ} {e:aV} {F:ι→St} {K:ι→WJ} (h:aA P ap h0 nt b s J e F K):aA P ap h0 nt (.block id b) s J (lq id e) F K:=by
 intro f m0 S0 w0 m S w a k q r Q n;refine wp_block (h f m0 S0 w0 m S w a k q r _ ?_);intro i o S' w' a' hm u t l;have c:=n i o S' w' a' hm u t l;cases e with
 |normal=>exact c
 |ret=>exact c
 |panic v=>exact c
 | exit id'=>
  simp only [lq] at c;split at c
  ·rename_i d;show Exit.inBlock id Q (.exit id') a' w';have:=Xqq d;subst this;simpa [lH,Exit.inBlock] using c
  ·rename_i d;have j:id' ≠ id:=fun p=>by subst p;simp at d
   simpa [lH,Exit.inBlock,j] using c
theorem aA.loop {b:Code} {e:aV} (F:Nat→ι→St) (K:Nat→ι→WJ) (n:Nat) {G:κ→St} {L:κ→WJ} (p:e ≠ .normal) (B:∀ k,k<n→∀ i,aA P ap h0 nt b (F k i) (K k i) .normal (F (k+1)) (K (k+1)))
  (he:∀ i,aA P ap h0 nt b (F n i) (K n i) e G L) (i:ι):aA P ap h0 nt (.loop b) (F 0 i) (K 0 i) e G L:=by
 have key:∀ d k,k+d=n→∀ i,(F k i).md= .dead→∀ m0 S0 w0 m S w c,Fr (aC h0) m0 S0 w0 (ag (F k i).hp) m S w→FR ap (F k i).env (F k i).hp (F k i).dfs nt m S w c→K k i w0.heap.size (ag (F k i).hp) m S w→∀ Q,
   (∀ i o S' w' a',(G i).md= .dead→Fr (aC h0) m0 S0 w0 (ag (G i).hp) o S' w'→FR ap (G i).env (G i).hp (G i).dfs nt o S' w' a'→L i w0.heap.size (ag (G i).hp) o S' w'→lH (G i).hp o S' Q a' w' e)→Code.rounds P b Q (d+1) c w:=by
  intro d
  induction d with
  |zero=>
   intro k u i f m0 S0 w0 m S w c l q s Q r;have u:k=n:=by omega
   subst u;refine he i f m0 S0 w0 m S w c l q s _ ?_;intro j o S' w' a' hm A y t;have:=r j o S' w' a' hm A y t
   revert p this
   cases e with
   |normal=>intro p _;exact absurd rfl p
   |exit id=>intro _ h;exact h
   |ret=>intro _ h;exact h
   |panic v=>intro _ h;exact h
  |succ d ih=>
   intro k u i f m0 S0 w0 m S w c l q s Q r;refine B k (by omega) i f m0 S0 w0 m S w c l q s _ ?_;intro j o S' w' a' hm t z x;exact ih (k+1) (by omega) j hm m0 S0 w0 o S' w' a' t z x Q r
 intro f m0 S0 w0 m S w a l q s Q r;exact wp_loop_rounds (n+1) (key n 0 (by omega) i f m0 S0 w0 m S w a l q s Q r)
theorem aA.tidy {b:Code} {e:aV} {s s1:St} {J:WJ} {F:ι→St} {K:ι→WJ} (o:Sub J) (keep:List Nat) (h:aA P ap h0 nt b s1 J e F K) (j:AM.norm h0.length keep s=s1) (q:s1.md= .dead):aA P ap h0 nt b s J e F K:=by
 intro hs m0 S0 w0 m S w a c n p Q k;obtain ⟨l,f,d,i⟩:=Ud (keep:=keep) c n;rw [j] at f d i;exact h q m0 S0 w0 l S w a f d (o _ _ _ _ _ _ _ i p) Q k
end
def P8 (l:List Bool):List Value:=l.map Value.bool
theorem Gm (l:List Bool):(P8 l).length=l.length:=by simp [P8]
theorem Wh (l:List Bool):∀ u ∈ P8 l,u.oneCell'=true:=by
 intro u a;obtain ⟨k,_,rfl⟩:=List.mem_map.1 a;rfl
def eH (l:List Bool):AV:= .sl (l.map .bool) l.length false
theorem MX {S:aB}:∀ l:List Bool,bu S (l.map .bool) (P8 l)
 | []=>by simp [P8,bu]
 |k::l=>by
  have:=MX (S:=S) l;simp only [P8,χ,bu,PR] at this ⊢;exact ⟨trivial,this⟩
structure JBh (et:TypeId) (ov:Value) (U:List (List Bool)) (hs:List Value) (n:Nat) (g:bP) (m:aI) (S:aB) (w:World):Prop where
 top:w.ownsRow n et 1 ov U.length hs
 off:∀ b,ov.ownBlock=some b→ww g m S w b
 row:∀ (i:Nat) (l:List Bool) (v:Value),U[i]? =some l→hs[i]? =some v→∃ rt,w.ownsRow n rt 1 v l.length (P8 l)
 offR:∀ (i:Nat) (v:Value) (b:Nat),hs[i]? =some v→v.ownBlock=some b→ww g m S w b∧ov.ownBlock ≠ some b
 dis:∀ (i j:Nat) (v v':Value),hs[i]? =some v→hs[j]? =some v'→i ≠ j→v.ownBlock=none∨v.ownBlock ≠ v'.ownBlock
def JB (et:TypeId) (ov:Value) (U:List (List Bool)):WJ:=fun n g m S w=> ∃ hs,JBh et ov U hs n g m S w
theorem JBh.len {b:TypeId} {a:Value} {U:List (List Bool)} {hs:List Value} {n:Nat} {g:bP} {m:aI} {S:aB} {w:World} (h:JBh b a U hs n g m S w):hs.length=U.length:=by
 have:=h.top.1;omega
theorem JB.nil {a:TypeId} {n:Nat} {g:bP} {m:aI} {S:aB} {w:World}:JB a (.slice none 0 0) [] n g m S w:=
 ⟨[],⟨World.ownsRow_nil _ _ _ _,fun b h=>by simp [Value.ownBlock] at h,fun i l v h=>by simp at h,fun i v b h=>by simp at h,fun i j v c h=>by simp at h⟩⟩
theorem JB.stab {f:TypeId} {j:Value} {U:List (List Bool)}:aaI (JB f j U):=by
 intro o g m S w g' n S' w' d ⟨hs,h⟩;refine ⟨hs,⟨xk h.top fun b a=>((h.off b a).keeps d).2,fun b a=>((h.off b a).keeps d).1,fun i l v k c=>(h.row i l v k c).imp fun rt e=>xk e fun b a=>((h.offR i v b c a).1.keeps d).2,
  fun i v b c a=> ⟨((h.offR i v b c a).1.keeps d).1,(h.offR i v b c a).2⟩,h.dis⟩⟩
theorem JB.sub {e:TypeId} {d:Value} {U:List (List Bool)}:Sub (JB e d U):=fun n0 g m S w g' m' hb ⟨hs,h⟩=>
 ⟨hs,⟨h.top,fun b a=>(h.off b a).sub hb,h.row,fun i v b c a=> ⟨(h.offR i v b c a).1.sub hb,(h.offR i v b c a).2⟩,h.dis⟩⟩
end AM
namespace AM
open Go
section
variable {P:Program} {ap:AP} {h0:List aK} {nt:Nat} {κ:Type}
theorem aA.fits {b:Code} {s s2:St} {e:aV} {J:WJ} {G:κ→St} {L:κ→WJ} (c:s2.hp=s.hp) (i:s2.md=s.md) (n:s2.dfs=s.dfs) (d:∀ q,bF (s.env.get q) (s2.env.get q)) (h:aA P ap h0 nt b s2 J e G L):aA P ap h0 nt b s J e G L:=by
 intro hm m0 S0 w0 m S w a j f l Q k;refine h (i.trans hm) m0 S0 w0 m S w a (by rw [c];exact j) ?_ (by rw [c];exact l) Q k;rw [c,n];exact ⟨f.srel,fun q=>d q _ _ _ _ (f.env q),f.dfs,f.size⟩
theorem aA.say {b:Code} {s:St} {e:aV} {J J2:WJ} {G:κ→St} {L:κ→WJ} (c:∀ n g m S w,J n g m S w→J2 n g m S w) (h:aA P ap h0 nt b s J2 e G L):aA P ap h0 nt b s J e G L:=by
 intro hm m0 S0 w0 m S w a d i j Q f;exact h hm m0 S0 w0 m S w a d i (c _ _ _ _ _ j) Q f
theorem M_ {α:Type} {S:aB} {f:α→AV}:∀ (l:List α) (q:List Value),l.length=q.length→(∀ (i:Nat) (x:α) (v:Value),l[i]? =some x→q[i]? =some v→PR S (f x) v)→bu S (l.map f) q
 | [],q,hq,_=>by cases q with|nil=>simp [bu]|cons _ _=>simp at hq
 | x::l,q,hq,hr=>by
  cases q with
  |nil=>simp at hq
  |cons v q=>
   simp only [χ,bu];exact ⟨hr 0 x v rfl rfl,M_ l q (by simpa using hq) fun i y a h b=>hr (i+1) y a (by simpa using h) (by simpa using b)⟩
theorem Ug {S:aB} {w:World} {d:Nat} {rt:TypeId} {v:Value} {n:Nat} {us:List Value} {cs:List AV} (h:w.ownsRow d rt 1 v n us) (hs:∀ k,v.ownBlock=some k→iq S k 0 us) (hp:bu S cs us):PR S (.sl cs n false) v∧v.oneCell'=true:=by
 rcases h.2 with ⟨rfl,rfl⟩|⟨g,a,cur,rfl,_,_,c,_⟩
 ·have:us= []:=Xxd (by simpa using h.1);subst this;have b:cs= []:=by cases cs with|nil=>rfl|cons _ _=>simp [bu] at hp
  subst b;refine ⟨?_,rfl⟩;simp only [PR];exact ⟨none,0,rfl,ε _,.inl ⟨by simp,by simp,by simp,by simp⟩⟩
 ·refine ⟨?_,rfl⟩;simp only [PR];exact ⟨_,a,rfl,c,.inr ⟨g,0,us,rfl,hp,hs g rfl⟩⟩
theorem JA {env:dE} {hp:Hp} {m0 m:aI} {S0 S:aB} {w0 w:World} {a:Act} {n:Nat} {rt:TypeId} {v:Value} {us:List Value} (b:Fr (aC h0) m0 S0 w0 (ag hp) m S w) (d:FR ap env hp [] nt m S w a)
  (h:w.ownsRow w0.heap.size rt 1 v n us) (hoff:∀ k,v.ownBlock=some k→ww (ag hp) m S w k) (h1:∀ u ∈ us,u.oneCell'=true):
  ∃ S',gZ S S'∧(∀ k o,v.ownBlock ≠ some k→S' k o=S k o)∧Fr (aC h0) m0 S0 w0 (ag hp) m S' w∧FR ap env hp [] nt m S' w a∧∀ k,v.ownBlock=some k→iq S' k 0 us:=by
 rcases h.2 with ⟨rfl,rfl⟩|⟨g,l,cur,rfl,r,f,x,_,y,q⟩
 ·exact ⟨S,gZ.refl S,fun _ _ _=>rfl,b,d,fun k c=>by cases c⟩
 ·have t:us.length=n*1:=h.1;obtain ⟨p,j,s,i⟩:=J6 b d (hoff g rfl) r f (us:=us) (by rw [t];exact q) h1;refine ⟨_,p,fun k o c=> ?_,j,s,fun k c=> ?_⟩
  ·unfold nK;rw [if_neg fun e=>c (by subst e;rfl)]
  ·cases c;exact i
theorem aA.rowsB {f:Code} {s s2:St} {e:aV} {G:κ→St} {L:κ→WJ} {et:TypeId} {N:Value} {U:List (List Bool)} (t:Nat) (ht:s.env.get t= .raw N) (hd:s.dfs= []) (D:s2.hp=s.hp) (z:s2.md=s.md) (Z:s2.dfs= [])
  (h13:s2.env.get t= .sl (U.map eH) U.length false) (henv:∀ q,q ≠ t→s2.env.get q= .dead∨s2.env.get q=s.env.get q)
  (h:aA P ap h0 nt f s2 WT e G L):aA P ap h0 nt f s (JB et N U) e G L:=by
 intro W m0 S0 w0 m S w a Y hF ⟨hs,hj⟩ Q hQ;have V:FR ap s.env s.hp [] nt m S w a:=hd ▸ hF;have C:=hj.len;have F:∀ n,n≤U.length→∃ S',gZ S S'∧(∀ k o,N.ownBlock=some k→S' k o=S k o)∧Fr (aC h0) m0 S0 w0 (ag s.hp) m S' w∧FR ap s.env s.hp [] nt m S' w a∧
   (∀ (i:Nat) (l:List Bool) (v:Value),i<n→U[i]? =some l→hs[i]? =some v→PR S' (eH l) v∧v.oneCell'=true)∧
   (∀ (i:Nat) (v:Value),n≤i→hs[i]? =some v→∀ k,v.ownBlock=some k→∀ o,S' k o=none):=by
  intro n
  induction n with
  |zero=>
   intro _;exact ⟨S,gZ.refl S,fun _ _ _=>rfl,Y,V,fun i l v h=>absurd h (by omega),fun i v _ A k b o=>(hj.offR i v k A b).1.clr o⟩
  | succ n ih=>
   intro hn;obtain ⟨S1,h1,h2,h3,h4,h5,K⟩:=ih (by omega);have p:U[n]? =some U[n]:=ζ (by omega);have c:hs[n]? =some (hs[n]'(by omega)):=ζ (by omega);generalize hs[n]'(by omega)=v at c;generalize U[n]=l at p;obtain ⟨rt,r2⟩:=hj.row n l v p c;obtain ⟨S2,J,X,T,u,O⟩:=JA h3 h4 r2 (fun k b=> ⟨(hj.offR n v k c b).1.lt,(hj.offR n v k c b).1.blk,K n v (ε _) c k b⟩) (Wh l);refine ⟨S2,h1.trans J,fun k o b=>(X k o fun j=>(hj.offR n v k c j).2 b).trans (h2 k o b),T,u,fun i l' I M r d=> ?_,fun i I M d k b o=> ?_⟩
   ·by_cases hin:i=n
    ·subst hin;rw [p] at r;cases r;rw [c] at d;cases d;exact Ug r2 O (MX l)
    ·have:=h5 i l' I (by omega) r d;exact ⟨bK J _ this.1,this.2⟩
   ·rw [X k o fun j=>by
     rcases hj.dis i n I v d c (by omega) with e2|e2
     ·rw [e2] at b;cases b
     ·rw [b,j] at e2;exact e2 rfl]
    exact K i I (by omega) d k b o
 obtain ⟨S',h5,K,h7,h8,h9,_⟩:=F U.length (ε _);have E:∀ v ∈ hs,v.oneCell'=true:=fun v A=>by
  obtain ⟨i,M⟩:=Xxm A;have y:i<U.length:=by have:=(List.getElem?_eq_some_iff.1 M).1;omega
  exact (h9 i U[i] v y (ζ y) M).2
 obtain ⟨S2,J,X,T,u,O⟩:=JA h7 h8 hj.top (fun k b=> ⟨(hj.off k b).lt,(hj.off k b).blk,fun o=>by rw [K k o b];exact (hj.off k b).clr o⟩) E;have hp:bu S2 (U.map eH) hs:=M_ U hs C.symm fun i x v hx A=>bK J _ (h9 i x v (List.getElem?_eq_some_iff.1 hx).1 hx A).1
 have B:a.tmps.getD t undef=N:=by
  have:=hF.env t;rw [ht] at this;simpa only [VR,PR] using this
 have R:FR ap s2.env s2.hp s2.dfs nt m S2 w a:=by
  rw [D,Z];refine ⟨u.srel,fun q=> ?_,u.dfs,u.size⟩;by_cases hq:q=t
  ·subst hq;rw [h13,B];simp only [VR];exact (Ug hj.top O hp).1
  ·rcases henv q hq with j|j
   ·rw [j];simp [VR]
   ·rw [j];exact u.env q
 exact h (z.trans W) m0 S0 w0 m _ w a (D ▸ T) R trivial Q hQ
end
end AM
namespace AM
open Go
section
variable {P:Program} {ap:AP} {H:bI}
def nX (r:jk):jk:={r with rb:= []}
theorem BG {D:Nat→Bool}:∀ (rs:List jk) (i j:Nat) (e:dE) (r:jk),rs[i]? =some r→kS D j e (rs.set i (nX r))=kS D j e rs
 | [],i,j,e,r,h=>by simp at h
 |x::rs,0,j,e,r,h=>by
  have h:x=r:=by simpa using h
  subst h;rfl
 |x::rs,i+1,j,e,r,h=>by
  simp only [Xz7,kS];exact BG rs i (j+1) _ r (by simpa using h)
theorem GU {D:Nat→Bool}:∀ (rs:List jk) (i j:Nat) (e:Hp) (r:jk),rs[i]? =some r→mM D j e (rs.set i (nX r))=mM D j e rs
 | [],i,j,e,r,h=>by simp at h
 |x::rs,0,j,e,r,h=>by
  have h:x=r:=by simpa using h
  subst h;rfl
 |x::rs,i+1,j,e,r,h=>by
  simp only [Xz7,mM];exact GU rs i (j+1) _ r (by simpa using h)
theorem FW (a:List jk) (i k:Nat) (r:jk) (h:a[i]? =some r):(a.set i (nX r)).take k=a.take k∨((a.take k)[i]? =some r∧(a.set i (nX r)).take k=(a.take k).set i (nX r)):=by
 by_cases hk:i<k
 ·right;refine ⟨by rw [Xxn,if_pos hk];exact h, ?_⟩;rw [Xvm]
 ·left;rw [Xvm,List.set_eq_of_length_le];rw [List.length_take];omega
theorem EY (a:List jk) (i k:Nat) (e:dE) (r:jk) (h:a[i]? =some r):mJ e ((a.set i (nX r)).take k)=mJ e (a.take k):=by
 rcases FW a i k r h with b|⟨b,c⟩
 ·rw [b]
 ·rw [c];exact BG _ _ _ _ _ b
theorem Td (a:List jk) (i k:Nat) (e:Hp) (r:jk) (h:a[i]? =some r):BZ e ((a.set i (nX r)).take k)=BZ e (a.take k):=by
 rcases FW a i k r h with b|⟨b,c⟩
 ·rw [b]
 ·rw [c];exact GU _ _ _ _ _ b
def F7:Hp→Nat→List aK
 | [],_=> []
 |(b,B)::r,t=>match Δ b t with|true=>B::F7 r t|false=>F7 r t
theorem F8 {b:Nat} {B:aK}:∀ {hp:Hp},(b,B) ∈ hp→B ∈ F7 hp b
 | (c,C)::r,h=>by
  simp only [F7];rcases List.mem_cons.1 h with h|h
  ·cases h;rw [Xxi];exact List.mem_cons_self
  ·have a:=F8 h;split
   ·exact List.mem_cons_of_mem _ a
   ·exact a
theorem NU {D D':Nat→Bool} (c:∀ j,D j=true→D' j=true):∀ (rs:List jk) (j:Nat) (h h':Hp),(∀ x ∈ h,x ∈ h')→∀ x ∈ mM D j h rs,x ∈ mM D' j h' rs
 | [],_,_,_,hs=>hs
 | r::rs,j,h,h',hs=>by
  simp only [mM];refine NU c rs (j+1) _ _ ?_;intro x a;cases b:D j with
  |true=>
   rw [b] at a;rw [c j b];rcases List.mem_append.1 a with a|a
   ·exact List.mem_append.2 (.inl a)
   ·exact List.mem_append.2 (.inr (hs x a))
  |false=>
   rw [b] at a;cases D' j with
   |true=>exact List.mem_append.2 (.inr (hs x a))
   |false=>exact hs x a
def uh (D:Nat→Bool):List uZ→Hp→Hp
 | [],hp=>hp
 |F::r,hp=>match D r.length with
  |true=>hp.take F.wb.length++uh D r (hp.drop F.wb.length)
  |false=>uh D r (hp.drop F.wb.length)
theorem BX {D:Nat→Bool}:∀ (rs:List jk) (j:Nat) (h:Hp) (r:jk),mM D j h (rs++ [r])=match D (j+rs.length) with|true=>r.ups++mM D j h rs|false=>mM D j h rs
 | [],j,h,r=>by
  simp only [μ,mM,List.length_nil,Xqt];cases D j<;>rfl
 |x::rs,j,h,r=>by
  simp only [Xqw,mM];rw [BX rs (j+1) _ r];rw [show j+1+rs.length=j+(x::rs).length by simp;omega]
theorem D5 {D:Nat→Bool} (h:Hp):∀ (l:List jk),uh D (l.map jk.foot) (BZ h l.reverse)=mM D 0 h l.reverse
 | []=>rfl
 | r::l=>by
  have e:BZ h (r::l).reverse=r.ups++BZ h l.reverse:=by
   unfold BZ;rw [Xj4,BX]
  have a:(jk.foot r).wb.length=r.ups.length:=by simp [jk.foot]
  rw [e,Xj4,BX];simp only [χ,uh,a,List.length_map,List.take_left,List.drop_left,List.length_reverse,Φ];rw [D5 h l]
theorem Jc {D:Nat→Bool} {b:Nat}:∀ (rs:List jk) (j:Nat) (h:Hp),(∃ B,ag h b=some B)→∃ B,ag (mM D j h rs) b=some B
 | [],_,_,hs=>hs
 | r ::rs,j,h,hs=>by
  simp only [mM];refine Jc rs (j+1) _ ?_;cases D j with
  |false=>exact hs
  | true=>
   by_cases hm:b ∈ r.ups.map (·.1)
   ·obtain ⟨B,a⟩:=rO hm;exact ⟨B,by
     rw [fJ,a]⟩
   ·rw [pW hm];exact hs
inductive AX (P:Program) (ap:AP) (H:bI) (n:Nat) (ops:List Oper) (o:Oper) (b d:Nat) (rt:List Nat) (env:dE) (v:AV):List aK→Prop where
 |nil:AX P ap H n ops o b d rt env v []
 | cons {B:aK} {r:List aK} {c2 c3:Cx} {t:RS}:Ky ap H n ops o {env,hp:= [(b,B)],md:= .dead,dfs:= [],dec:= [],feet:= []} c2= .ok (t,none) c3→c3.Ok→t.feet= [{rt:=rt,wt:= [d],rb:= [b],wb:= []}]→t.dfs= []→t.env.get d=v→
   AX P ap H n ops o b d rt env v r→AX P ap H n ops o b d rt env v (B::r)
theorem AX.sem (j:dF P ap) (y:gY P ap H) {n:Nat} {ops:List Oper} {o:Oper} {b d:Nat} {rt:List Nat} {env:dE} {v:AV} {l:List aK} (z:o.dst=some d) (h:AX P ap H n ops o b d rt env v l):∀ B ∈ l,Gg P ap ops.toArray o n env [(b,B)] rt [b] v [] [] none:=by
 induction h with
 |nil=>intro B s;simp at s
 | @cons B r c2 c3 t he hc hft hdf0 hvd _ ih=>
  intro B' a;rcases List.mem_cons.1 a with rfl|a
  ·obtain ⟨_,hs⟩:=qp j y he hc;obtain ⟨v2,rb,ups,x,hs⟩:=hs rfl (fun t b q=>by cases q);have p:=hs.feet rfl;rw [hft] at p;simp only [List.cons.injEq,uZ.mk.injEq,and_true] at p;obtain ⟨k,_,f,e⟩:=p;have c:ups= []:=by
    cases ups with
    |nil=>rfl
    |cons _ _=>simp at e
   have i:x= []:=by
    have:=hs.dfs;rw [hdf0] at this;simpa using this.symm
   have u:v2=v:=by
    have:=hs.env rfl;rw [this,z,iw] at hvd;exact hvd
   have:=hs.sem;rw [← k,← f,c,i,u] at this;exact this
  ·exact ih B' a
theorem Qh (hap:dF P ap) (Y:P.follows .mixedOrders=true) (hH:gY P ap H) {ops:List Oper} {nt:Nat} {h0:List aK} (keep:List Nat) {id:Nat} (hnt:∀ o ∈ ops,∀ d,o.dst=some d→d<nt) {s:St} {s1:RS} {c c':Cx} (i b d:Nat) (o:Oper) (rt:List Nat) (v:AV) (L:List aK)
  (e1:og ap H ops ops (fB s.hp) {env:=s.env,hp:=s.hp,md:=s.md,dfs:=s.dfs,dec:= [],feet:= []} c= .ok (s1,none) c') (hc:c'.Ok)
  (hoi:ops[i]? =some o) (hod:o.dst=some d) (hft:s1.feet.reverse[i]? =some {rt:=rt,wt:= [d],rb:= [b],wb:= []})
  (hord:rW (fB s.hp) (Region.before ops.toArray).toList (s1.feet.reverse.set i {rt:=rt,wt:= [d],rb:= [],wb:= []}).reverse=true) (hback:pO ops=true) (hdl:s1.dfs.length=s.dfs.length)
  (hlate:∀ k A,i<k→ops[k]? =some A→∀ x,A.dst=some x→x ≠ d∧x ∉ rt) (hdr:d ∉ rt)
  (hv:s1.env.get d=v) (U:∃ B,ag s.hp b=some B) (hL:F7 (uh (fun k=> !(((Region.before ops.toArray).toList.getD k 0).testBit i)) s1.feet s1.hp) b=L) (hst:AX P ap H (fB s.hp+4*i) ops o b d rt s1.env v L):
  af P ap h0 nt (.region id ops.toArray true) s .normal (norm h0.length keep ⟨s1.env,s1.hp,s1.md,s1.dfs⟩):=by
 intro hmd;have hn0:∀ b B,ag s.hp b=some B→b<fB s.hp:=fun b B U=>lG U
 obtain ⟨_,hs⟩:=VA hap hH ops 0 _ _ _ _ _ e1 hc;obtain ⟨h1,recs,O,e⟩:=hs hmd (fun t b U=>by cases U) rfl;refine ⟨h1,fun m0 S0 w0 m S w a hfr M Q hQ=>wp_region_any Y ?_⟩;have E:s1.dfs.length=s.dfs.length:=hdl;have hdf:=(e.sem E).1;have hil:i<recs.length:=by rw [O];exact (List.getElem?_eq_some_iff.1 hoi).1
 have n:recs[i]? =some recs[i]:=ζ hil;have hfeet:s1.feet.reverse=recs.map jk.foot:=by rw [e.feet,υ,Xj6]
 rw [hfeet] at hft hord;rw [Ψ,n,Xqr,Option.some.injEq] at hft;generalize recs[i]=r at n hft;have R:=hft;simp only [jk.foot,uZ.mk.injEq] at R;obtain ⟨hrt,hwt,hrb,p⟩:=R;have p:r.ups= []:=by
  cases hu:r.ups with
  |nil=>rfl
  |cons _ _=>rw [hu] at p;simp at p
 have hset:(recs.map jk.foot).set i {rt:=rt,wt:= [d],rb:= [],wb:= []}=(recs.set i (nX r)).map jk.foot:=by
  rw [List.map_set];congr 1;simp only [jk.foot,nX,uZ.mk.injEq];exact ⟨hrt.symm,hwt.symm,trivial,by rw [p];rfl⟩
 rw [hset] at hord;have W:ng (Array.replicate ops.length false)=fun _=>false:=by
  funext k;simp only [ng,Array.getD_eq_getD_getElem?];by_cases l:k<ops.length<;>simp [l]
 have hsz:ops.toArray.size=ops.length:=by simp
 rw [hsz];have X:∀ D,mM D 0 s.hp (recs.set i (nX r))=mM D 0 s.hp recs:=fun D=>GU recs i 0 s.hp r n
 have enE:∀ D,kS D 0 s.env (recs.set i (nX r))=kS D 0 s.env recs:=fun D=>BG recs i 0 s.env r n
 have J:∀ k,k ≠ i→(recs.set i (nX r))[k]? =recs[k]? :=fun k l=>List.getElem?_set_ne (Ne.symm l)
 have hgeti:(recs.set i (nX r))[i]? =some (nX r):=List.getElem?_set_self hil;have hdsto:∀ (k:Nat) (q:jk),recs[k]? =some q→∃ A:Oper,ops[k]? =some A∧q.dst=A.dst:=by
  intro k q l;obtain ⟨A,y,z,_⟩:=(e.sem E).2 k q l;exact ⟨A,by rw [← y,Φ],z⟩
 have F:r.dst=some d:=by
  obtain ⟨A,y,z⟩:=hdsto i r n;rw [hoi] at y;cases y;rw [z,hod]
 have hrv:r.v=v:=by
  have e2:(mJ s.env recs).get d=(mJ s.env (recs.take (i+1))).get d:=by
   rw [← wO];refine lQ recs 0 _ _ rfl fun k q l T=> ?_
   rw [Φ];by_cases hki:i<k
   ·obtain ⟨A,y,z⟩:=hdsto k q l;exact absurd rfl (hlate k A hki y d (z ▸ T)).1
   ·simp;omega
  have e3:s1.env.get d=v:=hv;rw [e.env] at e3;rw [show (mJ s.env recs).get d=(mJ s.env recs).get d from rfl,e2,EZ _ _ _ _ n,F,iw] at e3;exact e3
 have hrte:∀ t ∈ rt,(mJ s.env (recs.take i)).get t=s1.env.get t:=by
  intro t Z;rw [e.env,← wO];refine lQ recs 0 _ _ rfl fun k q l T=> ?_
  rw [Φ];rcases Xx9 k i with h|h|h
  ·simp [h]
  ·subst h;rw [n] at l;cases l;rw [F] at T;cases T;exact absurd Z hdr
  ·obtain ⟨A,y,z⟩:=hdsto k q l;exact absurd Z (hlate k A h y t (z ▸ T)).2
 refine IU (P:=P) (ap:=ap) (s:={env:=s.env,hp:=s.hp,md:=s.md,dfs:=s.dfs,dec:= [],feet:= []}) (recs:=recs.set i (nX r)) hnt (by rw [List.length_set];exact O) ?_ ?_ (Dk hord) hback hn0 (m0:=m) (S0:=S) (w0:=w) (Q:=Q) ?_ ops.length _ m S _ a ⟨by simp, ?_, ?_, ?_⟩ ?_
 ·intro k q l x I;by_cases hki:k=i
  ·subst hki;rw [hgeti] at l;cases l;rw [show (nX r).ups=r.ups from rfl,p] at I;simp at I
  ·rw [J k hki] at l;have:=e.bound k q l x I;omega
 ·intro k q l;by_cases hki:k=i
  ·subst hki;rw [hgeti] at l;cases l;refine ⟨o,hoi,by rw [← hod] at F;exact F, ?_⟩;intro D m2 S2 w2 a2 V u _ f hnb Q2 K N;dsimp only at V u f N;rw [X] at V u f N;obtain ⟨B,hB⟩:=Jc (D:=D) recs 0 s.hp U;have hBm:B ∈ L:=by
    have e4:=D5 (D:=fun j=> !(((Region.before ops.toArray).toList.getD j 0).testBit k)) s.hp recs.reverse;rw [Xj6,List.map_reverse] at e4;rw [← hL,e.hp,e.feet,υ];rw [e4];refine F8 (NU (D:=D) (fun j hj=> ?_) recs 0 s.hp s.hp (fun _ h=>h) _ (yh hB));cases hb2:((Region.before ops.toArray).toList.getD j 0).testBit k with
    |false=>rfl
    |true=>rw [hnb j hb2] at hj;cases hj
   have C:=hst.sem hap hH hod B hBm;rw [show (nX r).v=r.v from rfl,hrv,show (nX r).ups=r.ups from rfl,p] at N;refine C _ m2 S2 w2 a2 V (fun t Z=> ?_) (fun x I B2 hB2=> ?_) f Q2 K N
   ·have y:=u t (by rw [show (nX r).rt=r.rt from rfl,hrt];exact Z);rw [EY recs k k s.env r n,hrte t Z] at y;exact y
   ·rw [List.mem_singleton] at I;subst I;simp only [ag,Xxi,Option.some.injEq] at hB2;subst hB2;exact hB
  ·rw [J k hki] at l;obtain ⟨A,y,z,C⟩:=(e.sem E).2 k q l;rw [Φ] at y;refine ⟨A,y,z, ?_⟩;intro D m2 S2 w2 a2 V u G f _ Q2 K N;dsimp only at V u G f N;rw [X] at V u G f N;rw [EY recs i k s.env r n] at u;rw [Td recs i k s.hp r n] at G;exact C _ m2 S2 w2 a2 V u (fun x I B hB=>by rw [← G x I];exact hB) f Q2 K N
 ·intro m' S' w' a' z h4;dsimp only at z h4;have e5:BZ s.hp (recs.set i (nX r))=BZ s.hp recs:=X _;have e6:mJ s.env (recs.set i (nX r))=mJ s.env recs:=enE _;rw [e5] at z h4;rw [e6] at h4;have h5:Fr (aC h0) m0 S0 w0 (ag s1.hp) m' S' w':=by
   rw [e.hp];exact hfr.trans z
  have h6:FR ap s1.env s1.hp s1.dfs nt m' S' w' a':=by
   rw [e.hp,e.env,hdf];exact h4
  obtain ⟨m2,h7,h8⟩:=jd (keep:=keep) (s:=⟨s1.env,s1.hp,s1.md,s1.dfs⟩) h5 h6;exact hQ m2 S' w' a' h7 h8
 ·intro k o l T;rw [W] at T;cases T
 ·dsimp only;rw [W,lV _ 0 _ (fun _ _=>rfl)];exact ⟨Ge.refl _ _,gZ.refl _,rfl,rfl,rfl,ε _,fun _ _ _=>rfl,fun _ B h=> .inr ⟨B,h,rfl⟩,fun _ _ _ h=> .inl h,(MW.refl _).mb _ _⟩
 ·dsimp only;rw [W,lV _ 0 _ (fun _ _=>rfl),tq _ 0 _ (fun _ _=>rfl)];exact ⟨⟨M.srel.inj,fun b B U=>M.srel.blk b B U|>fun ⟨h1,y,z⟩=> ⟨h1,y,z⟩,M.srel.sealed,M.srel.own,M.srel.glob⟩,M.env,M.dfs,M.size⟩
 ·simp only [Aq];exact Xqh (List.length_filter_le _ _) (by simp)
def zW:List Nat→List Nat→Bool
 | [],[]=>true
 |a::r,b::q=>Δ a b && zW r q
 |_,_=>false
theorem ni:∀ {l r:List Nat},zW l r=true→l=r
 | [],[],_=>rfl
 |a::r,b::q,h=>by
  simp only [zW,η] at h;rw [aF h.1,ni h.2]
 | [],_::_,h=>by simp [zW] at h
 |_::_,[],h=>by simp [zW] at h
def PL (ap:AP) (H:bI) (n:Nat) (ops:List Oper) (o:Oper) (b d:Nat) (rt:List Nat) (env:dE) (v:AV):List aK→Option (List Prop)
 | []=>some []
 | B ::r=>match Ky ap H n ops o {env,hp:= [(b,B)],md:= .dead,dfs:= [],dec:= [],feet:= []} ⟨true,[],[],[],[],[]⟩ with
  | .ok (t,none) c3=>match t.feet,t.dfs,c3.bs,c3.ps with
   | [F],[],[],[]=>match zW F.rt rt && zW F.wt [d] && zW F.rb [b] && zW F.wb [] with
    |true=>match PL ap H n ops o b d rt env v r with
     |some l=>some ((t.env.get d=v)::l)
     |none=>none
    |false=>none
   |_,_,_,_=>none
  |_=>none
theorem Kw {n:Nat} {ops:List Oper} {o:Oper} {b d:Nat} {rt:List Nat} {env:dE} {v:AV}:∀ {L:List aK} {l:List Prop},PL ap H n ops o b d rt env v L=some l→(∀ p ∈ l,p)→AX P ap H n ops o b d rt env v L
 | [],_,_,_=> .nil
 | B ::r,l,h,hl=>by
  simp only [PL] at h;split at h
  ·rename_i t q c;split at h
   ·rename_i F i j f e;split at h
    ·rename_i a;simp only [η] at a;split at h
     ·rename_i s k;cases h;refine .cons c ⟨by rw [f];simp,by rw [e];simp⟩ ?_ j (hl _ (by simp)) (Kw k fun p hp=>hl p (by simp [hp]));rw [i,← ni a.1.1.1,← ni a.1.1.2,← ni a.1.2,← ni a.2]
     ·cases h
    ·cases h
   ·cases h
  ·cases h
def Ie (ap:AP) (H:bI) (base:Nat) (keep:List Nat) (nt0 i b d:Nat) (code:Code) (s:St) (c:Cx):R St:=
 match code with
 | .region _ opsA true=>
  (og ap H opsA.toList opsA.toList (fB s.hp) {env:=s.env,hp:=s.hp,md:=s.md,dfs:=s.dfs,dec:= [],feet:= []} c).bind fun (s1,p) c=>
  match p with
  |some _=> .bad 1
  |none=>
  match opsA.toList[i]?,s1.feet.reverse[i]? with
  | some o,some F=>
   match (match o.dst with|some d'=>Δ d' d|none=>false) && zW F.wt [d] && zW F.rb [b] && zW F.wb [] && rW (fB s.hp) (Region.before opsA).toList (s1.feet.reverse.set i {rt:=F.rt,wt:= [d],rb:= [],wb:= []}).reverse && pO opsA.toList && Δ s1.dfs.length s.dfs.length
    && (opsA.toList.drop (i+1)).all (fun o'=>match o'.dst with|some x=> !(Δ x d) && !(lw F.rt x)|none=>true) && !(lw F.rt d) && (ag s.hp b).isSome && opsA.toList.all (uK nt0) with
   |true=>match PL ap H (fB s.hp+4*i) opsA.toList o b d F.rt s1.env (s1.env.get d) (F7 (uh (fun k=> !(((Region.before opsA).toList.getD k 0).testBit i)) s1.feet s1.hp) b) with
    |some l=> .ok (norm base keep ⟨s1.env,s1.hp,s1.md,s1.dfs⟩) {c with ps:=l++c.ps}
    |none=> .bad 3
   |false=> .bad 2
  |_,_=> .bad 4
 |_=> .bad 5
theorem MQ (B:dF P ap) (q:P.follows .mixedOrders=true) (J:gY P ap H) {h0:List aK} {keep:List Nat} {nt nt0 i b d:Nat} {j:Code} {s s':St} {c c':Cx} (Q:nt0≤nt) (h:Ie ap H h0.length keep nt0 i b d j s c= .ok s' c') (y:c'.Ok):af P ap h0 nt j s .normal s':=by
 unfold Ie at h;split at h
 ·rename_i id a;obtain ⟨⟨s1,p⟩,X,K,h⟩:=R.bind_ok h;dsimp only at h;split at h
  ·cases h
  ·split at h
   ·rename_i o F G L;split at h
    ·rename_i hcond;split at h
     ·rename_i l W;cases h;simp only [η] at hcond;obtain ⟨⟨⟨⟨⟨⟨⟨⟨⟨⟨v,T⟩,N⟩,M⟩,I⟩,U⟩,V⟩,O⟩,E⟩,A⟩,D⟩:=hcond;have u:o.dst=some d:=by
       split at v
       ·rename_i Y C;rw [C,aF v]
       ·cases v
      have z:F={rt:=F.rt,wt:= [d],rb:= [b],wb:= []}:=by
       rw [← ni T,← ni N,← ni M]
      have f:a.toList.toArray=a:=by simp
      have key:=Qh (nt:=nt) (h0:=h0) B q J keep (id:=id) (ops:=a.toList) (fun r n x t=>by
        have:=List.all_eq_true.1 D r n;simp only [uK,t] at this;exact Xqd (dR this) Q) i b d o F.rt (s1.env.get d) _ K ⟨y.bs,fun p hp=>y.ps p (by simp [hp])⟩ G u (by rw [L,← z]) (by rw [f];exact I) U (aF V) ?_ ?_ rfl (by simpa [Option.isSome_iff_exists] using A) (by rw [f]) (Kw W fun p hp=>y.ps p (by simp [hp]))
      ·rw [f] at key;exact key
      ·intro k r Z n x t;have hm:r ∈ a.toList.drop (i+1):=by
        refine Γ (i:=k - (i+1)) ?_;rw [Xx0,show i+1+(k - (i+1))=k by omega];exact n
       have:=List.all_eq_true.1 O r hm;simp only [t,η,Xqk] at this;refine ⟨fun e=> ?_,fun e=> ?_⟩
       ·subst e;rw [Xxi] at this;cases this.1
       ·rw [gp.2 e] at this;cases this.2
      ·intro e;rw [gp.2 e] at E;cases E
     ·cases h
    ·cases h
   ·cases h
 ·cases h
end
theorem XX {P:Program} {ap:AP} (g:yO P ap) {h0:List aK} {keep:List Nat} {nt nt0 i b d:Nat} {a:Code} {s s':St} {ans:List (h_ × List aK)} {ps:List Prop} (hp:Ir ps) (e:nt0≤nt)
  (h:Ie ap (vW P ap 3000 4) h0.length keep nt0 i b d a s ⟨true,[],[],[],ans,[]⟩= .ok s' ⟨true,[],[],ps,[],[]⟩):af P ap h0 nt a s .normal s':=by
 obtain ⟨c,_⟩:=iD g.apok g.mixed g.fnok 3000 4;exact MQ g.apok g.mixed c e h ⟨by simp,hp.mem⟩
abbrev ω (x:Int):AV:= .int .i64 x
abbrev Ω (b:Bool) (n d:List UInt8):AV:= .agg [.bool b,.str n,.str d]
theorem Yq0 {p:Prop} [Decidable p]:p→decide p=true:=decide_eq_true
theorem Yq1 {p:Prop} [Decidable p]:¬p→decide p=false:=decide_eq_false
theorem Yq2 {α:Type} [BEq α] [LawfulBEq α] {a b:α}:(a==b)=false↔a≠b:=beq_eq_false_iff_ne
end AM
