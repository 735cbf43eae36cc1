/- The abstract machine over the code of the model, and the proof that it is sound. No conditions. -/
import Derived.Test.YtokiomlellclkaaGreatDoorM4
import Derived.ChangeArms
import Derived.WideShapes
import Derived.Deep.Strs
import Derived.Maps.RangeRun
import Derived.Laws.IdiomRangeMap
import Derived.WideKeyEntry
import Derived.Maps.AppendAt
set_option linter.unusedSimpArgs false
set_option linter.unusedVariables false
namespace AM
open Go
structure aG (s s':St):Prop where
 env:∀ t,s.env.get t=s'.env.get t∨s.env.get t= .dead
 hp:s.hp=s'.hp
 md:s.md=s'.md
 dfs:s.dfs=s'.dfs
theorem aG.refl (s:St):aG s s:=⟨fun _=> .inl rfl,rfl,rfl,rfl⟩
def GX:dF→(Nat→AV)→Prop
 | [],_=>True
 |(t,v)::r,f=>(f t=v)∧GX r f
theorem sH {f:Nat→AV}:∀ {e:dF},GX e f→∀ t,e.get t=f t∨e.get t= .dead
 | [],_,t=> .inr rfl
 | (u,v)::r,h,t=>by
  simp only [GX] at h
  simp only [dF.get,ai]
  cases a:Nat.beq u t with
  |true=>
   have:=az a
   subst this
   exact .inl h.1.symm
  |false=>exact sH h.2 t
theorem aG.of {e e':dF} {hp:Hp} {md:AV} {dfs:List (Nat × List AV)} (h:GX e e'.get):aG {env:=e,hp,md,dfs} {env:=e',hp,md,dfs}:=⟨sH h,rfl,rfl,rfl⟩
section
variable {P:Program} {ap:AP} {H:bg}
theorem FR.less {s s':St} (h:aG s s') {nt:Nat} {m:aF} {S:ay} {w:World} {a:Act} (b:FR ap s'.env s'.hp s'.dfs nt m S w a):FR ap s.env s.hp s.dfs nt m S w a:=by
 refine ⟨h.hp ▸ b.srel,fun t=> ?_, ?_,b.size⟩
 ·rcases h.env t with e|e
  ·rw [e,h.hp];exact b.env t
  ·rw [e];simp [VR]
 ·rw [h.hp,h.dfs];exact b.dfs
theorem ah.weak {h0:List aJ} {nt:Nat} {b:Code} {s s' r r':St} {e:bf} (h:ah P ap h0 nt b s e r) (hs:aG s s') (c:aG r' r):ah P ap h0 nt b s' e r':=by
 intro d
 obtain ⟨q,l⟩:=h (hs.md ▸ d)
 refine ⟨c.md ▸ q,fun m0 S0 w0 m S w a i k Q n=>l m0 S0 w0 m S w a (by rw [hs.hp];exact i) (k.less hs) Q ?_⟩
 intro j S' w' a' o p
 have:=n j S' w' a' (by rw [c.hp];exact o) (p.less c)
 cases e with
 |normal=>exact this
 |exit id=>exact this
 |ret=>exact this
 |panic v=>intro cv f;exact this cv (by rw [c.hp];exact f)
inductive aQ (P:Program) (ap:AP) (h0:List aJ) (nt:Nat) (b:Code) {α β:Type} (e:β→bf) (st:α→St) (out:β→St):α→β→Prop where
 |done {a:α} {r:β}:ah P ap h0 nt b (st a) (e r) (out r)→aQ P ap h0 nt b e st out a r
 |next {a a':α} {r:β}:ah P ap h0 nt b (st a) .normal (st a')→aQ P ap h0 nt b e st out a' r→aQ P ap h0 nt b e st out a r
theorem aQ.rounds {h0:List aJ} {nt:Nat} {b:Code} {α β:Type} {e:β→bf} {st:α→St} {out:β→St} {a:α} {r:β} (d:e r ≠ .normal) (h:aQ P ap h0 nt b e st out a r):(st a).md= .dead→(out r).md= .dead∧∃ n,∀ m0 S0 w0 m S w c,Fr (aC h0) m0 S0 w0 (ai (st a).hp) m S w→FR ap (st a).env (st a).hp (st a).dfs nt m S w c→∀ Q,XA ap h0 m0 S0 w0 nt (out r) (e r) Q→Code.rounds P b Q n c w:=by
 induction h with
 |@done a r hx=>
  intro f
  obtain ⟨s,j⟩:=hx f
  refine ⟨s,1,fun m0 S0 w0 m S w c i p Q q=>j m0 S0 w0 m S w c i p _ ?_⟩
  intro o S' w' a' k l
  have:=q o S' w' a' k l
  revert d this
  cases e r with
  |normal=>intro d _;exact absurd rfl d
  |exit id=>intro _ h;exact h
  |ret=>intro _ h;exact h
  |panic v=>intro _ h;exact h
 |next hx _ ih=>
  intro f
  obtain ⟨s,j⟩:=hx f
  obtain ⟨k,n,l⟩:=ih d s
  refine ⟨k,n+1,fun m0 S0 w0 m S w c i p Q q=>j m0 S0 w0 m S w c i p _ ?_⟩
  intro o S' w' a' u t
  exact l m0 S0 w0 o S' w' a' u t Q q
theorem aQ.ok {h0:List aJ} {nt:Nat} {b:Code} {α β:Type} {e:β→bf} {st:α→St} {out:β→St} {a:α} {r:β} (i:e r ≠ .normal) (h:aQ P ap h0 nt b e st out a r):ah P ap h0 nt (.loop b) (st a) (e r) (out r):=by
 intro d
 obtain ⟨o,n,k⟩:=h.rounds i d
 exact ⟨o,fun m0 S0 w0 m S w c f j Q l=>wp_loop_rounds n (k m0 S0 w0 m S w c f j Q l)⟩
theorem aQ.blk {h0:List aJ} {n id:Nat} {b:Code} {α β:Type} {e:β→bf} {st:α→St} {out:β→St} {a:α} {r:β} {s s':St} {e':bf} (h:∀ nt,n≤nt→aQ P ap h0 nt b e st out a r) (c:e r ≠ .normal) (j:rO id (e r)=e') (hs:aG (st a) s) (f:aG s' (out r)):aK P ap h0 n (.block id (.loop b)) s e' s':=by
 intro nt i
 have d:=((h nt i).ok c).block (id:=id)
 rw [j] at d
 exact d.weak hs f
def kG (id:Nat):Code→Option Code
 | .seq a b=>match kG id a with|some c=>some c|none=>kG id b
 | .cond _ a b=>match kG id a with|some c=>some c|none=>kG id b
 | .block i b=>match Nat.beq i id with|true=>some b|false=>kG id b
 | .loop b=>kG id b
 | .scope b=>kG id b
 |_=>none
def af (id:Nat) (c:Code):Code:=match kG id c with|some (.loop b)=>b|_=> .skip
def EE (id:Nat):Code→Code
 | .seq a b=>match EE id a with| .region i o d=> .region i o d|_=>EE id b
 | .cond _ a b=>match EE id a with| .region i o d=> .region i o d|_=>EE id b
 | .block _ b=>EE id b
 | .loop b=>EE id b
 | .scope b=>EE id b
 | .region i o d=>match Nat.beq i id with|true=> .region i o d|false=> .skip
 |_=> .skip
end
end AM
namespace AM
open Go
def qj (x y:List AV):Prop:=∀ g m S v,aO g m S x v→aO g m S y v
def pM:AV→Bool
 | .own _ _ _=>false
 | .tup _=>false
 |_=>true
theorem qj.refl (x:List AV):qj x x:=fun _ _ _ _ h=>h
theorem qj.nil:qj [] []:=qj.refl []
theorem qj.cons {x y:AV} {l r:List AV} (h:bC x y) (b:qj l r):qj (x::l) (y::r):=by
 intro g m S v a
 cases v with
 |nil=>simp [aO] at a
 |cons u vs=>simp only [aO] at a ⊢;exact ⟨h g m S u a.1,b g m S vs a.2⟩
theorem bC.nilS (b:Bool) (h:b=false):bC .nilS (.sl [] 0 b):=by
 subst h
 intro g m S v a
 simp only [VR,PR] at a ⊢
 exact ⟨none,0,a,Nat.le_refl _,.inl (by simp)⟩
theorem bC.sl (d:List AV) (n:Nat) (a:Bool):bC (.sl d n a) (.sl d n false):=by
 intro g m S v f
 simp only [VR,PR] at f ⊢
 obtain ⟨a,b,e,c,q⟩:=f
 refine ⟨a,b,e,c, ?_⟩
 rcases q with ⟨_,h,i⟩|q
 ·exact .inl ⟨fun _=>trivial,h,i⟩
 ·exact .inr q
theorem bC.dead (x:AV):bC x .dead:=fun _ _ _ _ _=>by simp only [VR]
theorem bC.agg {l r:List AV} (h:qj l r):bC (.agg l) (.agg r):=by
 intro g m S v a
 simp only [VR] at a ⊢
 obtain ⟨vs,e,q⟩:=a
 exact ⟨vs,e,h _ _ _ _ q⟩
section
variable {P:Program} {ap:AP}
theorem ae.args {f:Nat} {args args':List AV} {h b:List aJ} {out:fP} (d:qj args' args) (a:ae P ap f args h out b):ae P ap f args' h out b:=
 ⟨a.len,a.ent,fun m S w cargs c e=>a.calls m S w cargs c (d _ _ _ _ e)⟩
def jE (out out':fP):Prop:=(∀ n,f_ n out=f_ n out')∧∀ h' m' S' e,NL h' m' S' out e→NL h' m' S' out' e
theorem ae.out {f:Nat} {args:List AV} {h d:List aJ} {out a:fP} (c:jE out a) (b:ae P ap f args h out d):ae P ap f args h a d:=
 ⟨b.len,b.ent,fun m S w cargs i j=>(b.calls m S w cargs i j).mono fun e w' ⟨m',S',hF⟩=> ⟨m',S',c.1 _ ▸ hF.srel,c.1 _ ▸ hF.fr,c.2 _ _ _ _ hF.out⟩⟩
theorem pO {x:AV} (h:pM x=true):∀ a k e,x ≠ .own a k e:=by intro a k e b;subst b;cases h
theorem pR {x:AV} (h:pM x=true):∀ l,x ≠ .tup l:=by intro l a;subst a;cases h
theorem jE.ret {x y:AV} (b:pM x=true) (a:pM y=true) (h:bC x y):jE (.ret x) (.ret y):=by
 refine ⟨fun n=> ?_,fun j i S' e f=> ?_⟩
 ·simp only [f_,fJ n (pO b) (pR b),fJ n (pO a) (pR a)]
 ·obtain ⟨cv,d,c⟩:=f
  refine ⟨cv,d, ?_⟩
  rw [iO (pO b) (pR b)] at c
  rw [iO (pO a) (pR a)]
  exact h _ _ _ _ c
inductive JH:List AV→List AV→Prop where
 |nil:JH [] []
 |same {x:AV} {l r:List AV}:JH l r→JH (x::l) (x::r)
 |fit {x y:AV} {l r:List AV}:pM x=true→pM y=true→bC x y→JH l r→JH (x::l) (y::r)
end
end AM
namespace AM
open Go
def thaw:AV→AV
 | .own xs n e=> .sl (xs.take (n*e)) n true
 |x=>x
def wF:fP→fP
 | .ret (.tup l)=> .ret (.tup (l.map thaw))
 | .ret x=> .ret (thaw x)
 | .pan v=> .pan v
theorem zI {x:AV} (h:∀ xs k e,x ≠ .own xs k e):thaw x=x:=by
 cases x<;>first|rfl|exact absurd rfl (h _ _ _)
theorem lW (x:AV):∀ a k e,thaw x ≠ .own a k e:=by
 intro a k e h
 cases x<;>simp [thaw] at h
theorem ru:∀ (l:List AV) (n:Nat),(dS n (l.map thaw)).2= []
 | [],_=>rfl
 |x::r,n=>by rw [List.map_cons,bG n (lW x)];exact ru r n
section
variable {P:Program} {ap:AP}
theorem uO {gh gf g':bD} {m:aF} {S S':ay} {w:World} (o:aV ap gf m S w) {rd:bD} (d:∀ b B,rd b=some B→gf b=some B) (c:S'=bI S m rd w) (hother:∀ x v,VR gh m S x v→VR g' m S' x v):
  ∀ (l:List AV) (n:Nat) (vs:List Value),(∀ i B,(dS n l).2[i]? =some B→rd (n+i)=some B)→fF gh gf m S n l vs→fF g' g' m S' n (l.map thaw) vs
 | [],n,vs,_,h=>by cases vs with|nil=>trivial|cons _ _=>simp [fF] at h
 |x::r,n,[],_,h=>by
  exfalso
  rcases iD x with ⟨j,k,e,rfl⟩|f
  ·simp [fF] at h
  ·cases x<;>simp [fF] at h
 | x ::r,n,v::vs,hb,h=>by
  rcases iD x with ⟨j,k,e,rfl⟩|f
  ·simp only [fF] at h
   simp only [dS] at hb
   have h0:=hb 0 _ rfl
   rw [Nat.add_zero] at h0
   have C:frz rd 6 (.ref n 0 0 k)=some (.sl (j.take (k*e)) k true):=by
    simp [frz,h0,uP]
   have t:=gW o d 6 _ _ _ C h.1
   rw [List.map_cons,bV (lW _)]
   refine ⟨dG _ (c ▸ t), ?_⟩
   have A:=uO o d c hother r (n+1) vs (fun i B D=>by rw [show n+1+i=n+(i+1) by omega];exact hb (i+1) B (by simpa using D)) h.2
   have key:∀ (l:List AV) (a b:Nat) (vs:List Value),(∀ x ∈ l,∀ j k e,x ≠ .own j k e)→fF g' g' m S' a l vs→fF g' g' m S' b l vs:=by
    intro l
    induction l with
    |nil=>intro a b vs _ h;cases vs with|nil=>trivial|cons _ _=>simp [fF] at h
    | cons y q ih=>
     intro a b vs s h
     cases vs with
     |nil=>cases y<;>simp [fF] at h
     |cons u us=>
      have p:=s y (by simp)
      rw [bV p] at h ⊢
      exact ⟨h.1,ih a b us (fun x f=>s x (by simp [f])) h.2⟩
   refine key _ (n+1) n vs ?_ A
   intro y p
   obtain ⟨z,_,rfl⟩:=List.mem_map.1 p
   exact lW z
  ·rw [bV f] at h
   rw [bG n f] at hb
   rw [List.map_cons,bV (lW x),zI f]
   exact ⟨hother _ _ h.1,uO o d c hother r n vs hb h.2⟩
theorem ae.thaw {f:Nat} {args:List AV} {h a:List aJ} {out:fP} (hp:∀ B ∈ a,B.pr=true) (L:ae P ap f args h out a):ae P ap f args h (wF out) a:=by
 refine ⟨L.len,L.ent,fun m S w cargs X D=>(L.calls m S w cargs X D).mono ?_⟩
 rintro e w' ⟨m',S',hF⟩
 obtain ⟨r,j,z⟩:=hF
 have u:∀ n,f_ n (wF out)= []:=by
  intro n
  cases out with
  |pan v=>rfl
  | ret x=>
   rcases uZ x with ⟨l,rfl⟩|ht
   ·simp only [wF,f_,gG];exact ru l n
   ·have:wF (.ret x)= .ret (AM.thaw x):=by cases x<;>first|rfl|exact absurd rfl (ht _)
    rw [this]
    simp only [f_]
    have C:∀ l,AM.thaw x ≠ .tup l:=by intro l J;cases x<;>simp [AM.thaw] at J;exact ht _ rfl
    rw [fJ n (lW x) C]
 let rd:bD:=fun b=>if a.length≤b then aC (a++f_ a.length out) b else none
 have y:∀ b B,rd b=some B→aC (a++f_ a.length out) b=some B:=by
  intro b B c
  simp only [rd] at c
  split at c
  ·exact c
  ·cases c
 have s:=iW S' m' rd w'
 have d:∀ b B,aC a b=some B→aC (a++f_ a.length out) b=some B:=by
  intro b B c
  have:b<a.length:=(List.getElem?_eq_some_iff.1 c).1
  rw [dD this];exact c
 have hother:∀ x v,VR (aC a) m' S' x v→VR (aC (a++f_ a.length (wF out))) m' (bI S' m' rd w') x v:=by
  intro x v G
  rw [u,List.append_nil]
  exact jb s (Ge.refl _ _) x G
 refine ⟨m',bI S' m' rd w', ?_, ?_, ?_⟩
 ·rw [u,List.append_nil]
  refine ⟨fun b E B B' c Q=>r.inj b E B B' (d b B c) (d E B' Q), ?_,fun k o v D=>jg r D, ?_, ?_⟩
  ·intro b B c
   obtain ⟨⟨cur,e,vs,rest,p,t,F,T,K,W⟩,hz,R⟩:=r.blk b B (d b B c)
   have I:=hp B (List.mem_of_getElem? c)
   refine ⟨⟨cur,e,vs,rest,p,t,fun _=>aP s _ (F I),aX _ (aP s _ (F I)),K,W⟩,hz,R⟩
  ·intro b B c o v D
   rcases dM D with p|⟨p,E,B',t,F,T⟩
   ·exact r.own b B (d b B c) o v p
   ·have:=r.inj b E B B' (d b B c) (y _ _ t) F.symm
    subst this
    have A:b<a.length:=(List.getElem?_eq_some_iff.1 c).1
    simp only [rd] at t
    rw [if_neg (by omega)] at t
    cases t
  ·intro k N Y
   obtain ⟨vs,p,t⟩:=r.glob k N Y
   exact ⟨vs,aP s _ p,t.mono s⟩
 ·rw [u,List.append_nil]
  refine ⟨?_,gy.trans j.sle s,j.os,j.tape,j.output,j.size,j.rest,fun b B c=>j.img b B (d b B c), ?_,fun b B c=>j.mw b B (d b B c)⟩
  ·intro b B c
   obtain ⟨B',p,t⟩:=j.ge b B c
   have A:b<a.length:=Nat.lt_of_lt_of_le (List.getElem?_eq_some_iff.1 c).1 L.len
   rw [dD A] at p
   exact ⟨B',p,t⟩
  ·intro k o v D
   rcases dM D with p|⟨p,E,B',t,F,T⟩
   ·exact j.sealN k o v p
   ·rcases j.img E B' (y _ _ t) with K|⟨B0,K,_⟩
    ·exact .inr (.inl (F ▸ K))
    ·exfalso
     have A:E<h.length:=(List.getElem?_eq_some_iff.1 K).1
     simp only [rd] at t
     rw [if_neg (by have:=L.len;omega)] at t
     cases t
 ·have M:∀ l,out= .ret (.tup l)→∀ i B,(dS a.length l).2[i]? =some B→rd (a.length+i)=some B:=by
   intro l J i B hi
   subst J
   simp only [rd]
   rw [if_pos (by omega),fH (by omega),show a.length+i - a.length=i by omega]
   exact hi
  cases out with
  |pan v=>
   obtain ⟨cv,O,p⟩:=z
   refine ⟨cv,O, ?_⟩
   have:=hother v cv p
   rwa [u,List.append_nil] at this
  | ret x=>
   obtain ⟨cv,O,p⟩:=z
   rcases uZ x with ⟨l,rfl⟩|ht
   ·simp only [qL] at p
    obtain ⟨vs,U,q⟩:=p
    refine ⟨cv,O, ?_⟩
    simp only [qL]
    refine ⟨vs,U, ?_⟩
    have c:(gG a.length (.tup (l.map AM.thaw))).2= []:=by simp only [gG];exact ru l _
    rw [c,List.append_nil]
    have:=uO (gh:=aC a) (g':=aC a) r y rfl (fun x v G=>jb s (Ge.refl _ _) x G) l a.length vs (M l rfl) q
    exact this
   ·have V:wF (.ret x)= .ret (AM.thaw x):=by cases x<;>first|rfl|exact absurd rfl (ht _)
    have C:∀ l,AM.thaw x ≠ .tup l:=by intro l J;cases x<;>simp [AM.thaw] at J;exact ht _ rfl
    rw [V]
    refine ⟨cv,O, ?_⟩
    rw [iO (lW x) C]
    rcases iD x with ⟨N,k,e,rfl⟩|G
    ·simp only [qL] at p
     have h0:rd a.length=some (uP N e):=by
      simp only [rd]
      rw [if_pos (Nat.le_refl _),fH (Nat.le_refl _),Nat.sub_self]
      rfl
     have Z:frz rd 6 (.ref a.length 0 0 k)=some (.sl (N.take (k*e)) k true):=by
      simp [frz,h0,uP]
     have:=gW r y 6 _ _ _ Z p
     exact dG _ this
    ·rw [iO G ht] at p
     rw [zI G]
     exact jb s (Ge.refl _ _) x p
end
end AM
namespace AM
open Go
def vJ (b:Nat) (c v:Nat):Option (Nat × Nat):=match Nat.beq c b with|true=>none|false=>some (c,v)
inductive Fz (b:Nat) (B:aJ):AV→AV→Prop
 |ren {x:AV}:Fz b B x (ren (vJ b) x)
 |ref {i n:Nat}:Fz b B (.ref b B.ver i n) (.sl ((B.cells.drop (i*B.esz)).take (n*B.esz)) n true)
 |fit {x y z:AV}:Fz b B x y→bC y z→Fz b B x z
inductive Pn (b:Nat) (B:aJ):List AV→List AV→Prop
 |nil:Pn b B [] []
 |cons {x y:AV} {l r:List AV}:Fz b B x y→Pn b B l r→Pn b B (x::l) (y::r)
theorem Fz.same {b:Nat} {B:aJ} {x:AV} (h:AM.ren (vJ b) x=x):Fz b B x x:=by
 have:=Fz.ren (b:=b) (B:=B) (x:=x)
 rwa [h] at this
theorem Fz.dead {b:Nat} {B:aJ} (x:AV):Fz b B x .dead:= .fit .ren (bC.dead _)
theorem Pn.length {b:Nat} {B:aJ} {l r:List AV} (h:Pn b B l r):l.length=r.length:=by
 induction h with
 |nil=>rfl
 |cons _ _ ih=>simp [ih]
structure zT (b:Nat) (B:aJ) (C C':aJ):Prop where
 ver:C'.ver=C.ver
 fro:C'.fro=C.fro
 fz:C'.fz=C.fz
 esz:C'.esz=C.esz
 body:(C.pr=true∧C'.cells=C.cells∧C'.pr=true)∨(Pn b B C.cells C'.cells∧(C'.pr=true→(a_ C'.cells).isEmpty=true))
theorem zT.same {b:Nat} {B C:aJ} (hp:C.pr=true):zT b B C C:=⟨rfl,rfl,rfl,rfl,.inl ⟨hp,rfl,hp⟩⟩
theorem zT.length {b:Nat} {B C C':aJ} (h:zT b B C C'):C.cells.length=C'.cells.length:=by
 rcases h.body with ⟨_,e,_⟩|⟨e,_⟩
 ·rw [e]
 ·exact e.length
section
variable {P:Program} {ap:AP} {g:bD} {m:aF} {S:ay} {w:World}
def jm (b:Nat) (B:aJ):bD:=fun c=>match Nat.beq c b with|true=>some B|false=>none
theorem mQ {b c:Nat} {B C:aJ} (h:jm b B c=some C):c=b∧C=B:=by
 unfold jm at h
 split at h
 ·rename_i a;cases h;exact ⟨az a,rfl⟩
 ·cases h
theorem Gh (b:Nat) (B:aJ):jm b B b=some B:=by unfold jm;rw [Nat.beq_refl]
theorem Fz.sound {b:Nat} {B:aJ} (k:aV ap g m S w) (o:g b=some B) (d:B.pr=true) {g':bD} (l:nH g m g' m (vJ b)) {x y:AV} (h:Fz b B x y):∀ {v:Value},VR g m S x v→VR g' m (bI S m (jm b B) w) y v:=by
 have f:∀ c C,jm b B c=some C→g c=some C:=by
  intro c C j
  obtain ⟨rfl,rfl⟩:=mQ j
  exact o
 induction h with
 |ren=>intro v a;exact uf (iW S m (jm b B) w) l _ a
 | @ref i n=>
  intro v a
  have e:frz (jm b B) 6 (.ref b B.ver i n)=some (.sl ((B.cells.drop (i*B.esz)).take (n*B.esz)) n true):=by
   simp [frz,Gh,d]
  exact dG _ (gW k f 6 _ _ _ e a)
 |fit _ e ih=>intro v a;exact e _ _ _ _ (ih a)
theorem Pn.sound {b:Nat} {B:aJ} (d:aV ap g m S w) (f:g b=some B) (c:B.pr=true) {g':bD} (e:nH g m g' m (vJ b)) {l r:List AV} (h:Pn b B l r):∀ {vs:List Value},aO g m S l vs→aO g' m (bI S m (jm b B) w) r vs:=by
 induction h with
 |nil=>intro vs a;cases vs with|nil=>simp [aO]|cons _ _=>simp [aO] at a
 | cons hx _ ih=>
  intro vs a
  cases vs with
  |nil=>simp [aO] at a
  |cons v vs=>
   simp only [aO] at a ⊢
   exact ⟨hx.sound d f c e a.1,ih a.2⟩
theorem qm:∀ {l:List AV} {vs:List Value},(a_ l).isEmpty=true→aO g m S l vs→aZ S l vs
 | [],[],_,_=>by simp [aZ]
 |x::l,v::vs,h,hv=>by
  simp only [a_,List.isEmpty_iff,List.append_eq_nil_iff] at h
  rw [← List.isEmpty_iff,← List.isEmpty_iff] at h
  simp only [aO] at hv
  simp only [aZ]
  exact ⟨jr h.1 hv.1,qm h.2 hv.2⟩
 | [],_::_,_,hv=>by simp [aO] at hv
 |_::_,[],_,hv=>by simp [aO] at hv
theorem Af {g g':bD} {m b:aF} {S S':ay} {ρ:Nat→Nat→Option (Nat × Nat)} (c:gy S S') (e:nH g m g' b ρ):∀ {l:List (Nat × List AV)} {ds:List Deferred},dJ g m S l ds→dJ g' b S' (l.map fun d=>(d.1,jA ρ d.2)) ds
 | [],[],_=>by simp only [List.map_nil,dJ]
 |d::r,cd::cr,h=>by
  simp only [dJ] at h
  simp only [List.map_cons,dJ]
  obtain ⟨⟨a,j,f⟩,i⟩:=h
  exact ⟨⟨a,j,ig c e _ f⟩,Af c e i⟩
 | [],_::_,h=>by simp [dJ] at h
 |_::_,[],h=>by simp [dJ] at h
theorem D5 {h0:List aJ} {nt:Nat} {r r':St} {m0 h:aF} {S0 S':ay} {w0 w':World} {a':Act} (b:Nat) (B:aJ) (hb0:h0.length≤b) (A:ai r.hp b=some B) (x:B.pr=true)
  (hd:r'.dfs=r.dfs.map fun d=>(d.1,jA (vJ b) d.2))
  (henv:∀ t,Fz b B (r.env.get t) (r'.env.get t))
  (hdom:∀ c C',ai r'.hp c=some C'→c ≠ b∧∃ C,ai r.hp c=some C∧zT b B C C')
  (hall:∀ c C,c ≠ b→ai r.hp c=some C→∃ C',ai r'.hp c=some C')
  (h5:Fr (aC h0) m0 S0 w0 (ai r.hp) h S' w') (h6:FR ap r.env r.hp r.dfs nt h S' w' a'):
  ∃ S2,Fr (aC h0) m0 S0 w0 (ai r'.hp) h S2 w'∧FR ap r'.env r'.hp r'.dfs nt h S2 w' a':=by
 have f:=h6.srel
 have n:=iW S' h (jm b B) w'
 have hrd:∀ c C,jm b B c=some C→ai r.hp c=some C:=by
  intro c C i
  obtain ⟨rfl,rfl⟩:=mQ i
  exact A
 have p:nH (ai r.hp) h (ai r'.hp) h (vJ b):=by
  intro c ver c' V hρ C q s
  unfold vJ at hρ
  split at hρ
  ·cases hρ
  ·rename_i I
   cases hρ
   have u:c ≠ b:=by intro e;subst e;simp at I
   obtain ⟨C',j⟩:=hall c C u q
   obtain ⟨_,C2,l,a⟩:=hdom c C' j
   rw [q] at l;cases l
   exact ⟨C',j,by rw [a.ver];exact s,fun e=> ⟨by rw [← a.ver];exact e,rfl,a.esz⟩⟩
 have R:aV ap (ai r'.hp) h (bI S' h (jm b B) w') w':=by
  refine ⟨?_, ?_,fun k o v s=>jg f s, ?_, ?_⟩
  ·intro c c' C C' i O hm
   obtain ⟨_,D,hD,_⟩:=hdom c C i
   obtain ⟨_,D',U,_⟩:=hdom c' C' O
   exact f.inj c c' D D' hD U hm
  ·intro c C' i
   obtain ⟨_,C,q,a⟩:=hdom c C' i
   obtain ⟨⟨cur,Z,vs,rest,k1,k2,k3,k4,k5,k6⟩,hz,K⟩:=f.blk c C q
   have F:(C'.pr=true→aZ (bI S' h (jm b B) w') C'.cells vs)∧aO (ai r'.hp) h (bI S' h (jm b B) w') C'.cells vs:=by
    rcases a.body with ⟨Q,J,q3⟩|⟨Q,J⟩
    ·have:=aP n _ (k3 Q)
     rw [J]
     exact ⟨fun _=>this,aX _ this⟩
    ·have s:=Q.sound f A x p k4
     exact ⟨fun hp=>qm (J hp) s,s⟩
   exact ⟨⟨cur,Z,vs,rest,by rw [a.esz];exact k1,k2,F.1,F.2,by rw [a.esz];exact k5,fun hp=>by rw [a.esz] at hp ⊢;exact k6 hp⟩,fun hp=>by rw [a.fz];exact hz (by rw [← a.fro];exact hp),by rw [a.fz,← a.length];exact K⟩
  ·intro c C' i o v s
   obtain ⟨u,C,q,a⟩:=hdom c C' i
   rw [a.fro,a.fz]
   rcases dM s with y|⟨y,G,B',T,M,h4⟩
   ·exact f.own c C q o v y
   ·obtain ⟨rfl,rfl⟩:=mQ T
    exact absurd (f.inj c G C B' q A M.symm) u
  ·intro k W Y
   obtain ⟨vs,k1,k2⟩:=f.glob k W Y
   exact ⟨vs,aP n _ k1,k2.mono n⟩
 have E:Fr (aC h0) m0 S0 w0 (ai r'.hp) h (bI S' h (jm b B) w') w':=by
  refine ⟨?_,gy.trans h5.sle n,h5.os,h5.tape,h5.output,h5.size,h5.rest, ?_, ?_,fun c C' i=>by
   obtain ⟨_,C,q,_⟩:=hdom c C' i
   exact h5.mw c C q⟩
  ·intro c C i
   have X:c<h0.length:=(List.getElem?_eq_some_iff.1 i).1
   obtain ⟨C1,z,e1,e2⟩:=h5.ge c C i
   obtain ⟨C',j⟩:=hall c C1 (by omega) z
   obtain ⟨_,C2,l,a⟩:=hdom c C' j
   rw [z] at l;cases l
   exact ⟨C',j,by rw [a.esz];exact e1,by rw [a.ver];exact e2⟩
  ·intro c C' i
   obtain ⟨_,C,q,_⟩:=hdom c C' i
   exact h5.img c C q
  ·intro k o v s
   rcases dM s with y|⟨y,G,B',T,M,h4⟩
   ·exact h5.sealN k o v y
   ·obtain ⟨rfl,rfl⟩:=mQ T
    rcases h5.img G B' A with L|⟨B0,L,_⟩
    ·exact .inr (.inl (M ▸ L))
    ·have:G<h0.length:=(List.getElem?_eq_some_iff.1 L).1
     omega
 have N:FR ap r'.env r'.hp r'.dfs nt h (bI S' h (jm b B) w') w' a':=by
  refine ⟨R,fun t=>(henv t).sound f A x p (h6.env t), ?_,h6.size⟩
  rw [hd]
  exact Af n p h6.dfs
 exact ⟨_,E,N⟩
theorem ah.freeze {h0:List aJ} {nt:Nat} {f:Code} {s r r':St} {e:bf} (b:Nat) (B:aJ) (h:ah P ap h0 nt f s e r) (D:∀ v,e ≠ .panic v) (l:h0.length≤b) (p:ai r.hp b=some B) (j:B.pr=true)
  (hmd:r'.md=r.md) (hd:r'.dfs=r.dfs.map fun d=>(d.1,jA (vJ b) d.2))
  (henv:∀ t,Fz b B (r.env.get t) (r'.env.get t))
  (hdom:∀ c C',ai r'.hp c=some C'→c ≠ b∧∃ C,ai r.hp c=some C∧zT b B C C')
  (hall:∀ c C,c ≠ b→ai r.hp c=some C→∃ C',ai r'.hp c=some C'):ah P ap h0 nt f s e r':=by
 intro hs
 obtain ⟨A,o⟩:=h hs
 refine ⟨hmd ▸ A,fun m0 S0 w0 m S w a n y Q z=>o m0 S0 w0 m S w a n y Q ?_⟩
 intro x S' w' a' q u
 obtain ⟨S2,i,k⟩:=D5 b B l p j hd henv hdom hall q u
 have:=z x S2 w' a' i k
 cases e with
 |normal=>exact this
 |exit id=>exact this
 |ret=>exact this
 |panic v=>exact absurd rfl (D v)
def JY (b:Nat) (B:aJ):dF→(Nat→AV)→Prop
 | [],_=>True
 |(t,v)::r,f=>Fz b B (f t) v∧JY b B r f
theorem ou {b:Nat} {B:aJ} {f:Nat→AV}:∀ {e:dF},JY b B e f→∀ t,Fz b B (f t) (e.get t)
 | [],_,t=>Fz.dead _
 | (u,v)::r,h,t=>by
  simp only [JY] at h
  simp only [dF.get,ai]
  cases a:Nat.beq u t with
  |true=>
   have:=az a
   subst this
   exact h.1
  |false=>exact ou h.2 t
def Hl (b:Nat) (B:aJ):Hp→Hp→Prop
 | [],l=>l= [(b,B)]
 |(c,C)::r,(d,D)::l=>c=d∧zT b B D C∧c ≠ b∧Hl b B r l
 |_::_,[]=>False
theorem Cm {b:Nat} {B:aJ}:∀ {r l:Hp},Hl b B r l→∀ c C',ai r c=some C'→c ≠ b∧∃ C,ai l c=some C∧zT b B C C'
 | [],l,_,c,C',hc=>by simp [ai] at hc
 | (d,D)::r,(d',D')::l,h,c,C',hc=>by
  simp only [Hl] at h
  obtain ⟨rfl,e,i,f⟩:=h
  simp only [ai] at hc ⊢
  cases a:Nat.beq d c with
  |true=>
   rw [a] at hc
   have:=az a
   subst this
   cases hc
   exact ⟨i,D',rfl,e⟩
  |false=>
   rw [a] at hc
   exact Cm f c C' hc
 |_::_,[],h,_,_,_=>by simp [Hl] at h
theorem Cj {b:Nat} {B:aJ}:∀ {r l:Hp},Hl b B r l→∀ c C,c ≠ b→ai l c=some C→∃ C',ai r c=some C'
 | [],l,h,c,C,hcb,hc=>by
  simp only [Hl] at h
  subst h
  simp only [ai] at hc
  split at hc
  ·rename_i a;exact absurd (az a).symm hcb
  ·cases hc
 |(d,D)::r,(d',D')::l,h,c,C,hcb,hc=>by
  simp only [Hl] at h
  obtain ⟨rfl,f,i,e⟩:=h
  simp only [ai] at hc ⊢
  cases a:Nat.beq d c with
  |true=>exact ⟨D,rfl⟩
  |false=>rw [a] at hc;exact Cj e c C hcb hc
 |_::_,[],h,_,_,_,_=>by simp [Hl] at h
theorem yC {b:Nat} {B:aJ}:∀ {r l:Hp},Hl b B r l→ai l b=some B
 | [],l,h=>by
  simp only [Hl] at h
  subst h
  simp [ai]
 |(d,D)::r,(d',D')::l,h=>by
  simp only [Hl] at h
  obtain ⟨rfl,f,e,a⟩:=h
  simp only [ai]
  cases c:Nat.beq d b with
  |true=>exact absurd (az c) e
  |false=>exact yC a
 |_::_,[],h=>by simp [Hl] at h
theorem ah.forget {h0:List aJ} {nt:Nat} {a:Code} {s:St} {e:bf} (b:Nat) (B:aJ) {en c:dF} {hp hp':Hp} {md:AV} (h:ah P ap h0 nt a s e {env:=en,hp,md,dfs:= []}) (i:∀ v,e ≠ .panic v) (d:h0.length≤b) (f:B.pr=true)
  (henv:JY b B c (dF.get en)) (hhp:Hl b B hp' hp):ah P ap h0 nt a s e {env:=c,hp:=hp',md,dfs:= []}:=
 h.freeze b B i d (yC hhp) f rfl rfl (ou henv) (Cm hhp) (Cj hhp)
end
end AM
namespace AM
open Go
def cZ:List Nat→Code→Code
 | [],c=>c
 |0::p,.seq a _=>cZ p a
 |_::p,.seq _ b=>cZ p b
 |0::p,.cond _ a _=>cZ p a
 |_::p,.cond _ _ b=>cZ p b
 |_::p,.block _ b=>cZ p b
 |_::p,.loop b=>cZ p b
 |_::p,.scope b=>cZ p b
 |_,c=>c
section
variable {P:Program} {ap:AP}
end
end AM
namespace AM
open Go
inductive xq:List LK→List Value→Prop
 |nil:xq [] []
 |int {k:IntKind} {n:Int} {r:List LK} {l:List Value}:xq r l→xq (.int k::r) (.int k n::l)
 |bool {b:Bool} {r:List LK} {l:List Value}:xq r l→xq (.bool::r) (.bool b::l)
 |str {s:ByteArray} {r:List LK} {l:List Value}:xq r l→xq (.str::r) (.string s::l)
section
variable {H:Type} {enc:TypeId × Value→H} {P:Program} {w:World} {base:Nat} {spare:Nat→Bool} {held:Bool}
end
end AM
namespace AM
open Go
def Ar:Nat→Nat→List Bool
 |0,_=> []
 |n+1,k=>Nat.beq (k % 2) 1::Ar n (k / 2)
def Nw:Nat→List Bool→List Bool
 |0,l=>l
 |n+1,l=>true::Nw n l
theorem jq.n (k:Nat) {l:List Bool} (h:jq l):jq (Nw k l):=by
 induction k with
 |zero=>exact h
 |succ k ih=>exact .t ih
theorem jq.k (k:Nat) {b:Bool} {l:List Bool} (a:b=true) (h:jq l):jq (Nw k (b::l)):= .n k (.c a h)
theorem tf (b:Bool):b=true∨b=false:=by cases b<;>simp
theorem aN {b:Bool} (h:b=true):lit true b=true:=h
theorem aT {b:Bool} (h:b=false):lit false b=true:=by subst h;rfl
theorem oz {b:Bool} (h:b=false):lit true (!b)=true:=by subst h;rfl
theorem gY {b:Bool} (h:b=true):lit false (!b)=true:=by subst h;rfl
inductive PS (P:Program) (ap:AP):List Prop→List (fP × List aJ)→wR→List qK→Prop where
 |nil:PS P ap [] [] [] []
 |c {f:Nat} {args:List AV} {h h':List aJ} {out:fP} {ps:List Prop} {ans:List (fP × List aJ)} {lps:wR} {hs:List qK}:ae P ap f args h out h'→PS P ap ps ans lps hs→PS P ap (ae P ap f args h out h'::ps) (ans++ [(out,h')]) lps hs
 |l {h0:List aJ} {n:Nat} {code:Code} {s s':St} {e:bf} {ps:List Prop} {ans:List (fP × List aJ)} {lps:wR} {hs:List qK}:aK P ap h0 n code s e s'→PS P ap ps ans lps hs→PS P ap (aK P ap h0 n code s e s'::ps) ans (lps++ [(e,s')]) hs
 |v (d:Nat) {x y:AV} {ps:List Prop} {ans:List (fP × List aJ)} {lps:wR} {hs:List qK}:bC x y→PS P ap ps ans lps hs→PS P ap (bC x y::ps) ans lps (hs++ [.v d y])
 |b (d:Nat) {x y:List AV} {ps:List Prop} {ans:List (fP × List aJ)} {lps:wR} {hs:List qK}:x=y→PS P ap ps ans lps hs→PS P ap ((x=y)::ps) ans lps (hs++ [.b d y])
 |u (d:Nat) {x y:List (Option aJ)} {ps:List Prop} {ans:List (fP × List aJ)} {lps:wR} {hs:List qK}:x=y→PS P ap ps ans lps hs→PS P ap ((x=y)::ps) ans lps (hs++ [.u d])
 |f (d:Nat) {ps:List Prop} {ans:List (fP × List aJ)} {lps:wR} {hs:List qK}:PS P ap ps ans lps hs→PS P ap ps ans lps (hs++ [.f d])
theorem PS.all {P:Program} {ap:AP} {ps:List Prop} {ans:List (fP × List aJ)} {a:wR} {hs:List qK} (h:PS P ap ps ans a hs):Dv ps:=by
 induction h with
 |nil=>exact .nil
 |c h _ ih=>exact .cons h ih
 |l h _ ih=>exact .cons h ih
 |v _ h _ ih=>exact .cons h ih
 |b _ h _ ih=>exact .cons h ih
 |u _ h _ ih=>exact .cons h ih
 |f _ _ ih=>exact ih
theorem ck {P:Program} {ap:AP} (g:xu P ap) {ans:List (fP × List aJ)} {ps:List Prop} {f:Nat} {args:List AV} {h a:List aJ} {out:fP} (hp:PS P ap ps ans [] [])
  (he:jH ap (uY P ap 3000 4) 3000 .dead f args h ⟨true,[],[],[],ans,[]⟩= .ok (out,a,.dead) ⟨true,[],[],ps,[],[]⟩):ae P ap f args h out a:=Az g hp.all he
theorem pk {P:Program} {ap:AP} (g:xu P ap) (d:List Nat) (n k:Nat) {ans:List (fP × List aJ)} {a:wR} {hs:List qK} {bs:List Bool} {ps:List Prop} {f:Nat} {args:List AV} {h b:List aJ} {out:fP}
  (hb:jq bs) (hp:PS P ap ps ans a hs) (he:GL P ap (uY P ap 3000 4) 3000 d f args h a ⟨false,Ar n k,[],[],ans,hs⟩= .ok (out,b,.dead) ⟨false,[],bs,ps,[],[]⟩):ae P ap f args h out b:=by
 obtain ⟨e,c⟩:=gI g.apok g.mixed g.fnok 3000 4
 exact JO g.apok g.mixed g.fnok e c he ⟨hb.mem,hp.all.mem⟩
def FU (ap:AP) (f:Nat):List Nat:=match ap.fnAt f with|some F=>F.keep|none=> []
theorem bC.pp {d f:List AV} {a:Nat} (h:List.drop a d=f):bC (.pp d a) (.pp f 0):=by
 subst h
 intro g m S v e
 simp only [VR,PR] at e ⊢
 obtain ⟨b,o,vs,rfl,hp,hs⟩:=e
 refine ⟨b,o+a,vs.drop a,rfl,lC a hp,fun j u c=> ?_⟩
 rw [List.getElem?_drop] at c
 have:=hs (a+j) u c
 rwa [← Nat.add_assoc] at this
theorem bC.ppt {e c f:List AV} {a:Nat} (h:List.drop a e=c++f):bC (.pp e a) (.pp c 0):=by
 intro g m S v i
 have:=bC.pp h g m S v i
 simp only [VR,PR] at this ⊢
 obtain ⟨b,o,vs,rfl,hp,hs⟩:=this
 refine ⟨b,o,vs.take c.length,rfl, ?_,fun j u d=> ?_⟩
 ·have:=h_ c.length hp
  rwa [List.take_left'] at this
  rfl
 ·rw [List.getElem?_take] at d
  split at d
  ·exact hs j u d
  ·cases d
theorem bC.eq {x y:AV} (h:x=y):bC x y:=h ▸ fun _ _ _ _ a=>a
theorem bC.rd (ks:List LK) {d b c:List AV} {a:Nat} (h:List.drop a d=b++c) (e:EC true ks (b++c)=b):bC (.agg (oI true ks d a)) (.agg b):= .eq (by unfold oI;rw [h,e])
theorem bC.rd1 (k:LK) {b c:List AV} {y:AV} {a:Nat} (h:List.drop a b= [y]++c) (d:eta k y=y):bC (eta k ((List.drop a b).headD .dead)) y:= .eq (by rw [h];exact d)
theorem jq.a {l r:List Bool} (h:jq l) (a:jq r):jq (l++r):=by
 induction h with
 |nil=>exact a
 |t _ ih=>exact .t ih
 |c hb _ ih=>exact .c hb ih
theorem jq.of {l:List Bool} (h:l.all id=true):jq l:=by
 induction l with
 |nil=>exact .nil
 |cons b r ih=>
  simp only [List.all_cons,id,Bool.and_eq_true] at h
  exact .c h.1 (ih h.2)
theorem eU (ks:List LK) {c d b:List AV} {a:Nat} (h:List.drop a c=d++b) (e:(JQ true ks (d++b)).all id=true):jq (BR true ks c a):=by
 unfold BR;rw [h];exact .of e
inductive JF:List AV→List AV→Prop where
 |nil:JF [] []
 |same {x:AV} {l r:List AV}:JF l r→JF (x::l) (x::r)
 |nilS {l r:List AV}:JF l r→JF (.nilS::l) (.sl [] 0 false::r)
 |sl {xs:List AV} {n:Nat} {a:Bool} {l r:List AV}:JF l r→JF (.sl xs n a::l) (.sl xs n false::r)
theorem JF.prl {S:ay} {l r:List AV} (h:JF l r):∀ {vs:List Value},aZ S l vs→aZ S r vs:=by
 induction h with
 |nil=>exact fun h=>h
 |same _ ih=>intro vs b;cases vs with|nil=>simp [aZ] at b|cons v vs=>simp only [aZ] at b ⊢;exact ⟨b.1,ih b.2⟩
 | nilS _ ih=>
  intro vs b
  cases vs with
  |nil=>simp [aZ] at b
  |cons v vs=>
   simp only [aZ,PR] at b ⊢
   exact ⟨⟨none,0,b.1,Nat.le_refl _,.inl (by simp)⟩,ih b.2⟩
 | @sl xs n a _ _ _ ih=>
  intro vs b
  cases vs with
  |nil=>simp [aZ] at b
  |cons v vs=>
   have c:=b
   simp only [aZ] at c ⊢
   refine ⟨?_,ih c.2⟩
   have d:=bC.sl xs n a (fun _=>none) (fun _=>(0,0)) S v (by simp only [VR];exact c.1)
   simpa only [VR] using d
theorem bC.slP {i j:List AV} {n:Nat} {k:Bool} (f:JF i j):bC (.sl i n k) (.sl j n k):=by
 intro g m S v l
 simp only [VR,PR] at l ⊢
 obtain ⟨a,d,rfl,p,h⟩:=l
 refine ⟨a,d,rfl,p, ?_⟩
 rcases h with ⟨c,e,r,s⟩|⟨b,o,vs,q,c,e⟩
 ·subst e
  cases f
  exact .inl ⟨c,rfl,r,s⟩
 ·exact .inr ⟨b,o,vs,q,f.prl c,e⟩
end AM
namespace AM
open Go
variable {P:Program} {ap:AP}
theorem ah.norm {h0:List aJ} {nt:Nat} {b:Code} {s d:St} {e:bf} (keep:List Nat) (t:∀ v,e= .panic v→(bU v).isEmpty=true) (h:ah P ap h0 nt b s e d):ah P ap h0 nt b s e (AM.norm h0.length keep d):=by
 intro hs
 obtain ⟨r,j⟩:=h hs
 refine ⟨r,fun m0 S0 w0 m S w a f n Q k=>j m0 S0 w0 m S w a f n Q ?_⟩
 intro u S' w' a' o q
 obtain ⟨p,l,i⟩:=iU (keep:=keep) o q
 have:=k p S' w' a' l i
 clear k l i j
 generalize AM.norm h0.length keep d=s2 at*
 cases e with
 |normal=>exact this
 |exit id=>exact this
 |ret=>exact this
 |panic v=>intro cv c;exact this cv (dG _ (jr (t v rfl) c))
def Wj:bf→Bool
 | .panic v=>(bU v).isEmpty
 |_=>true
def H7 (base:Nat) (env:dF):R ((bf × St) × wR)→R ((bf × St) × wR)
 | .ok ((e,s),l) c=>match Wj e with
  |true=> .ok ((e,norm base (env.map fun q=>q.1) s),l) c
  |false=> .bad 1
 |r=>r
def Gf (P:Program) (ap:AP) (h0:List aJ) (f nt0:Nat) (ls:List Nat) (code:Code) (s:St) (lps:wR) (orc:List Bool) (ans:List (fP × List aJ)) (hs:List qK) (env:dF):R ((bf × St) × wR):=
 match bW nt0 code with
 |true=>H7 h0.length env (jK P ap (uY P ap 3000 4) h0 (FU ap f) 3000 nt0 ls code s lps ⟨false,orc,[],[],ans,hs⟩)
 |false=> .bad 0
theorem pn (g:xu P ap) (f:Nat) (i:List Nat) (n k:Nat) {nt nt0:Nat} {ans:List (fP × List aJ)} {b:wR} {hs:List qK} {bs:List Bool} {ps:List Prop} {a:Code} {s s':St} {h0:List aJ} {e:bf}
  (hb:jq bs) (hp:PS P ap ps ans b hs) (hn:nt0≤nt) (he:Gf P ap h0 f nt0 i a s b (Ar n k) ans hs s'.env= .ok ((e,s'),[]) ⟨false,[],bs,ps,[],[]⟩):ah P ap h0 nt a s e s':=by
 unfold Gf at he
 split at he
 ·rename_i x
  generalize p:jK P ap (uY P ap 3000 4) h0 (FU ap f) 3000 nt0 i a s b ⟨false,Ar n k,[],[],ans,hs⟩=r at he
  cases r with
  | ok q c=>
   obtain ⟨⟨o,l⟩,z⟩:=q
   simp only [H7] at he
   split at he
   ·rename_i d
    simp only [R.ok.injEq,Prod.mk.injEq] at he
    obtain ⟨⟨⟨rfl,h⟩,rfl⟩,rfl⟩:=he
    obtain ⟨j,y⟩:=gI g.apok g.mixed g.fnok 3000 4
    have t:ah P ap h0 nt a s o l:=(vK g.apok g.mixed j hn a (dC hn a x) _ _ _ _ _ p ⟨hb.mem,hp.all.mem⟩).2
    have:=t.norm (s'.env.map fun q=>q.1) (fun v u=>by subst u;exact d)
    rwa [h] at this
   ·cases he
  |need=>simp [H7] at he
  |bad n=>simp [H7] at he
 ·cases he
end AM
namespace AM
open Go
variable {P:Program} {ap:AP}
def goL {α σ β:Type} (F:σ→α→σ ⊕ β) (fin:σ→β):List α→σ→β
 | [],s=>fin s
 |x::r,s=>match F s x with
  | .inl s'=>goL F fin r s'
  | .inr b=>b
theorem aQ.goL {α σ β:Type} {h0:List aJ} {nt:Nat} {b:Code} {e:β→bf} {st:Nat × σ→St} {out:β→St} (F:σ→α→σ ⊕ β) (a:σ→β) (L:List α) (Inv:List α→σ→Prop)
  (hstep:∀ p x r s,L=p++x::r→Inv p s→match F s x with
   | .inl s'=>ah P ap h0 nt b (st (p.length,s)) .normal (st (p.length+1,s'))∧Inv (p++ [x]) s'
   | .inr q=>ah P ap h0 nt b (st (p.length,s)) (e q) (out q))
  (hend:∀ s,Inv L s→ah P ap h0 nt b (st (L.length,s)) (e (a s)) (out (a s))):
  ∀ (r p:List α) (s:σ),L=p++r→Inv p s→aQ P ap h0 nt b e st out (p.length,s) (AM.goL F a r s):=by
 intro r
 induction r with
 |nil=>
  intro p s h d
  rw [List.append_nil] at h
  subst h
  exact .done (hend s d)
 | cons x r ih=>
  intro p s h d
  have c:=hstep p x r s h d
  simp only [AM.goL]
  cases i:F s x with
  |inl s'=>
   rw [i] at c
   have f:=ih (p++ [x]) s' (by rw [h];simp) c.2
   rw [List.length_append,List.length_singleton] at f
   exact .next c.1 f
  |inr q=>
   rw [i] at c
   exact .done c
end AM
namespace AM
open Go Go.WideShapes Go.ChangeShapes
theorem Aq {a:Addr} (h:a.spot=none) (n:Nat):a.add n=⟨a.block,a.off+n,none⟩:=by
 unfold Addr.add
 obtain ⟨b,o,s⟩:=a
 simp only at h
 subst h
 split
 ·rename_i c;subst c;rfl
 ·rfl
section
variable {H:Type} {enc:TypeId × Value→H} {P:Program} {w:World} {base:Nat} {spare:Nat→Bool} {held:Bool}
end
end AM
namespace AM
open Go Go.WideShapes Go.ChangeShapes
section
variable {H:Type} {enc:TypeId × Value→H} {P:Program} {w:World} {base:Nat} {spare:Nat→Bool} {held:Bool}
theorem EX {u e:TypeId} (b:P.underlying u=some (.slice e)) {base':Nat} {v:Value} (h:Value.okWide P w .any base' u v):v.cells.toList= [v]:=by
 obtain ⟨a,l,c,rfl⟩:=okWide_slice b h
 rfl
end
end AM
namespace AM
open Go Go.WideShapes Go.ChangeShapes
inductive DK where
 |int (k:IntKind)
 |bool
 |str
 |slc (l:List DK)
def xU (P:Program) (f:TypeId→Option (List DK)):List Field→Nat→Option (List DK)
 | [],_=>some []
 | x::r,off=>match f x.type with
  | some l=>match Nat.beq x.offset off && Nat.beq (P.cellsOf x.type) l.length with
   |true=>match xU P f r (off+l.length) with
    |some q=>some (l++q)
    |none=>none
   |false=>none
  |none=>none
def AA (P:Program):Nat→TypeId→Option (List DK)
 |0,_=>none
 | n+1,t=>match P.underlying t with
  |some (.int k)=>some [.int k]
  |some .bool=>some [.bool]
  |some .string=>some [.str]
  |some (.struct fs)=>match xU P (AA P n) fs.toList 0 with
   |some l=>match Nat.beq (P.cellsOf t) l.length with|true=>some l|false=>none
   |none=>none
  |some (.slice e)=>match AA P n e with
   |some l=>match Nat.beq (P.cellsOf e) l.length && Nat.ble 1 l.length with|true=>some [.slc l]|false=>none
   |none=>none
  |_=>none
inductive dW (b:Nat):List DK→List AV→Prop
 |nil:dW b [] []
 |int {k:IntKind} {n:Int} {r:List DK} {l:List AV}:dW b r l→dW b (.int k::r) (.int k n::l)
 |bool {x:Bool} {r:List DK} {l:List AV}:dW b r l→dW b (.bool::r) (.bool x::l)
 |str {s:List UInt8} {r:List DK} {l:List AV}:s.length≤b→dW b r l→dW b (.str::r) (.str s::l)
 |slc {ks:List DK} {L:List (List AV)} {r:List DK} {l:List AV}:(∀ x ∈ L,dW b ks x)→L.length≤b→dW b r l→dW b (.slc ks::r) (.sl L.flatten L.length false::l)
theorem dW.mono {b c:Nat} (h:b≤c) {ks:List DK} {a:List AV} (d:dW b ks a):dW c ks a:=by
 induction d with
 |nil=>exact .nil
 |int _ ih=>exact .int ih
 |bool _ ih=>exact .bool ih
 |str hs _ ih=>exact .str (Nat.le_trans hs h) ih
 |slc _ hl _ ihx ih=>exact .slc ihx (Nat.le_trans hl h) ih
theorem dW.app {b:Nat} {k1 k2:List DK} {c a:List AV} (h:dW b k1 c) (d:dW b k2 a):dW b (k1++k2) (c++a):=by
 induction h with
 |nil=>exact d
 |int _ ih=>exact .int ih
 |bool _ ih=>exact .bool ih
 |str hs _ ih=>exact .str hs ih
 |slc hx hl _ _ ih=>exact .slc hx hl ih
structure Ul {H:Type} (bk:DataW H→Nat):Prop where
 str:∀ s:List UInt8,s.length≤bk (.lit (.string s))
 agg:∀ l:List (DataW H),∀ d ∈ l,bk d≤bk (.agg l)
 slc:∀ l r:List (DataW H),(∀ d ∈ l,bk d≤bk (.slice l r))∧l.length≤bk (.slice l r)
section
variable {H:Type} {enc:TypeId × Value→H} {P:Program} {w:World} {base:Nat} {spare:Nat→Bool} {held:Bool} {bk:DataW H→Nat}
theorem vI {n B:Nat} {f:TypeId→Option (List DK)} (e:∀ t ks,f t=some ks→∀ (fuel:Nat) (cs:List Value) (x:DataW H × List MemPlace),DataW.trod enc P w base spare held fuel t cs=some x→∃ xs,dW (bk x.1) ks xs∧aZ (fQ w) xs cs∧∀ u ∈ cs,u.oneCell'=true) {cs:List Value}:∀ (r:List Field) (off:Nat) (ks:List DK),xU P f r off=some ks→
  (∀ (i:Nat) (x:Field),r[i]? =some x→∃ y,DataW.trod enc P w base spare held n x.type ((cs.drop x.offset).take (P.cellsOf x.type))=some y∧bk y.1≤B)→∃ xs,dW B ks xs∧aZ (fQ w) xs ((cs.drop off).take ks.length)∧∀ u ∈ (cs.drop off).take ks.length,u.oneCell'=true
 | [],off,ks,h,_=>by
  simp only [xU] at h
  cases h
  exact ⟨[],.nil,by simp [aZ],by simp⟩
 | x ::r,off,ks,h,hx=>by
  simp only [xU] at h
  split at h
  ·rename_i l s
   split at h
   ·rename_i b
    simp only [Bool.and_eq_true] at b
    have A:=Nat.eq_of_beq_eq_true b.1
    have p:=Nat.eq_of_beq_eq_true b.2
    split at h
    ·rename_i q C
     cases h
     obtain ⟨y,o,v⟩:=hx 0 x rfl
     obtain ⟨G,j,d,c⟩:=e _ _ s _ _ _ o
     rw [A,p] at d c
     obtain ⟨z,k,E,F⟩:=vI e r (off+l.length) q C (fun i f D=>hx (i+1) f (by simpa using D))
     refine ⟨G++z,(j.mono v).app k, ?_, ?_⟩
     ·rw [List.length_append,List.take_add,List.drop_drop]
      exact gu d E
     ·rw [List.length_append,List.take_add,List.drop_drop]
      intro u a
      rcases List.mem_append.1 a with a|a
      ·exact c u a
      ·exact F u a
    ·cases h
   ·cases h
  ·cases h
theorem vw {S:ay}:∀ {L:List (List AV)} {M:List (List Value)},L.length=M.length→(∀ (i:Nat) (x:List AV) (m:List Value),L[i]? =some x→M[i]? =some m→aZ S x m)→aZ S L.flatten M.flatten
 | [],[],_,_=>by simp [aZ]
 |x::L,m::M,h,hp=>by
  rw [List.flatten_cons,List.flatten_cons]
  exact gu (hp 0 x m rfl rfl) (vw (by simpa using h) fun i c a d b=>hp (i+1) c a (by simpa using d) (by simpa using b))
 | [],_::_,h,_=>by simp at h
 |_::_,[],h,_=>by simp at h
theorem IP (hk:Ul bk) (hsp:∀ b,spare b=true):∀ (n:Nat) (t:TypeId) (ks:List DK),AA P n t=some ks→∀ (E:Nat) (cs:List Value) (x:DataW H × List MemPlace),DataW.trod enc P w base spare held E t cs=some x→
  ∃ T,dW (bk x.1) ks T∧aZ (fQ w) T cs∧∀ u ∈ cs,u.oneCell'=true:=by
 intro n
 induction n with
 |zero=>intro t ks h;simp [AA] at h
 | succ n ih=>
  intro t ks h E cs x v
  simp only [AA] at h
  split at h
  ·rename_i k A
   cases h
   obtain ⟨m,rfl,_⟩:=DataW.trod_int A v
   exact ⟨[.int k m],.int .nil,by simp [aZ,PR],by simp [Value.oneCell']⟩
  ·rename_i A
   cases h
   obtain ⟨b,rfl,_⟩:=DataW.trod_bool A v
   exact ⟨[.bool b],.bool .nil,by simp [aZ,PR],by simp [Value.oneCell']⟩
  ·rename_i A
   cases h
   obtain ⟨s,rfl,rfl,_⟩:=DataW.trod_string A v
   exact ⟨[.str s.data.toList],.str (hk.str _) .nil,by simp [aZ,PR],by simp [Value.oneCell']⟩
  ·rename_i fs A
   split at h
   ·rename_i l hl
    split at h
    ·rename_i U
     cases h
     obtain ⟨T,m,rfl,rfl,D,hxl,C⟩:=DataW.trod_struct A v
     have e:=Nat.eq_of_beq_eq_true U
     obtain ⟨Z,d1,Y,X⟩:=vI (n:=m) (B:=bk (.agg (T.map (·.1)))) ih (cs:=cs) fs.toList 0 ks hl (fun i f hf=>by
      have Q:fs[i]? =some f:=by simpa using hf
      have O:=C i f Q
      have p:i<T.length:=by rw [hxl];exact (Array.getElem?_eq_some_iff.1 Q).1
      rw [List.getElem?_eq_getElem p] at O
      exact ⟨_,O,hk.agg _ _ (List.mem_map.2 ⟨_,List.getElem_mem p,rfl⟩)⟩)
     rw [List.drop_zero,List.take_of_length_le (by omega)] at Y X
     exact ⟨Z,d1,Y,X⟩
    ·cases h
   ·cases h
  ·rename_i e A
   split at h
   ·rename_i l hl
    split at h
    ·rename_i U
     cases h
     simp only [Bool.and_eq_true] at U
     have hce:=Nat.eq_of_beq_eq_true U.1
     have hpos:=Nat.le_of_ble_eq_true U.2
     rcases DataW.trod_slice A v with ⟨rfl,rfl⟩|⟨a,y,I,elems,rest,m,_,rfl,rfl,_,hlc,hm,D,V,hre,_⟩
     ·refine ⟨[.sl [] 0 false],.slc (L:= []) (by simp) (by simp) .nil, ?_,by simp [Value.oneCell']⟩
      simp only [aZ,PR,and_true]
      exact ⟨none,0,rfl,Nat.le_refl _,.inl ⟨fun _=>trivial,trivial,trivial,rfl⟩⟩
     ·obtain ⟨b1,b2⟩:=hk.slc (elems.map (·.1)) (rest.map (·.1))
      generalize hB:bk (.slice (elems.map (·.1)) (rest.map (·.1)))=B at b1 b2
      have hspot:0<I→a.spot=none:=by
       intro hc
       have key:∃ c,w.cells? base (a.add 0) (P.cellsOf e)=some c:=by
        rcases Nat.eq_zero_or_pos y with h0|h0
        ·obtain ⟨r1,r2⟩:=hre (hsp _)
         have F:=r2 0 (by omega)
         rw [List.getElem?_eq_getElem (by omega)] at F
         obtain ⟨c,z,_⟩:=Option.bind_eq_some_iff.1 F
         rw [h0,Nat.add_zero,Nat.zero_mul] at z
         exact ⟨c,z⟩
        ·have F:=V 0 h0
         rw [List.getElem?_eq_getElem (by omega)] at F
         obtain ⟨c,z,_⟩:=Option.bind_eq_some_iff.1 F
         rw [Nat.zero_mul] at z
         exact ⟨c,z⟩
       obtain ⟨c,z⟩:=key
       obtain ⟨_,h9,G⟩:=World.cells?_some z
       have r:=G 0 (by omega)
       have ez:(a.add 0).add 0=a:=by simp [Addr.add]
       rw [ez] at r
       have p:0<c.length:=by omega
       rw [List.getElem?_eq_getElem p] at r
       exact World.cell?_spot r
      have key:∀ q,q≤y→∃ (L:List (List AV)) (M:List (List Value)),L.length=q∧M.length=q∧(∀ x ∈ L,dW B l x)∧(∀ (i:Nat) (x:List AV) (m:List Value),L[i]? =some x→M[i]? =some m→aZ (fQ w) x m)∧M.flatten.length=q*l.length∧(∀ u ∈ M.flatten,u.oneCell'=true)∧∀ j u,M.flatten[j]? =some u→fQ w a.block (a.off+j)=some u:=by
       intro q
       induction q with
       |zero=>intro _;exact ⟨[],[],rfl,rfl,by simp,by simp,by simp,by simp,by simp⟩
       | succ q ihq=>
        intro hq
        obtain ⟨L,M,R,W,O,K,h3,J,h4⟩:=ihq (by omega)
        have F:=V q (by omega)
        rw [List.getElem?_eq_getElem (by omega)] at F
        obtain ⟨c,z,h7⟩:=Option.bind_eq_some_iff.1 F
        obtain ⟨Z,d1,Y,X⟩:=ih e l hl _ _ _ h7
        obtain ⟨_,h9,G⟩:=World.cells?_some z
        have hs:=hspot (by omega)
        have d2:dW B l Z:=d1.mono (b1 _ (List.mem_map.2 ⟨_,List.getElem_mem _,rfl⟩))
        refine ⟨L++ [Z],M++ [c],by simp [R],by simp [W], ?_, ?_, ?_, ?_, ?_⟩
        ·intro x v
         rcases List.mem_append.1 v with v|v
         ·exact O x v
         ·simp at v;subst v;exact d2
        ·intro i x m C d
         rw [List.getElem?_append] at C d
         split at C
         ·rename_i p
          rw [if_pos (by omega)] at d
          exact K i x m C d
         ·rename_i p
          rw [if_neg (by omega)] at d
          have e0:i - L.length=0:=by
           have:=(List.getElem?_eq_some_iff.1 C).1
           simp at this
           omega
          have e1:i - M.length=0:=by omega
          rw [e0] at C
          rw [e1] at d
          cases C
          cases d
          exact Y
        ·rw [List.flatten_append,List.length_append,h3]
         simp only [List.flatten_cons,List.flatten_nil,List.append_nil]
         rw [Nat.succ_mul]
         omega
        ·intro u N
         rw [List.flatten_append] at N
         rcases List.mem_append.1 N with N|N
         ·exact J u N
         ·exact X u (by simpa using N)
        ·intro j u d
         rw [List.flatten_append,List.getElem?_append] at d
         split at d
         ·exact h4 j u d
         ·rename_i hjl
          simp only [List.flatten_cons,List.flatten_nil,List.append_nil] at d
          have h11:=(List.getElem?_eq_some_iff.1 d).1
          have r:=G (j - M.flatten.length) (by omega)
          rw [d,Aq hs,Aq rfl] at r
          refine BH ?_ (X u (List.mem_of_getElem? d))
          rw [← r,h3,hce]
          congr 2
          have:q*l.length≤j:=by rw [← h3];omega
          simp only
          omega
      obtain ⟨L,M,R,W,O,K,h3,J,h4⟩:=key y (Nat.le_refl _)
      have hlB:L.length≤B:=by rw [R,← D];simpa using b2
      refine ⟨[.sl L.flatten L.length false],.slc O hlB .nil, ?_,by simp [Value.oneCell']⟩
      simp only [aZ,PR,and_true]
      refine ⟨some a,I,by rw [R],by rw [R];exact hlc, ?_⟩
      rcases Nat.eq_zero_or_pos I with hc|hc
      ·have h0:y=0:=by omega
       have:L= []:=List.eq_nil_of_length_eq_zero (by omega)
       subst this
       exact .inl ⟨fun _=>trivial,rfl,rfl,hc⟩
      ·refine .inr ⟨a.block,a.off,M.flatten, ?_,vw (by omega) K,fun j u d=> ⟨h4 j u d,J u (List.mem_of_getElem? d)⟩⟩
       have hs:=hspot hc
       obtain ⟨b,o,s⟩:=a
       simp only at hs
       subst hs
       rfl
    ·cases h
   ·cases h
  ·cases h
end
end AM
namespace AM
open Go
variable {P:Program} {ap:AP} {H:bg}
def LP (ap:AP) (n:Nat) (F:Func) (env:dF) (hp:Hp):Option (fP × List aJ):=
 let rd:=ai hp
 match eH (pV ap env hp) F.results.toList,eH rd (List.range n) with
 | some vs,some h'=>
  match h'.all (fun B=>B.pr||(a_ B.cells).all fun b=>Nat.blt b n) && (vs.flatMap fun (q:AV × List Bool)=>q.2).all id with
  |false=>none
  |true=>
   let all:=vs.flatMap fun (q:AV × List Bool)=>kV rd 6 (eF (bU q.1))
   match eH (kP n rd all) (vs.map fun (q:AV × List Bool)=>q.1) with
   |some [v]=>some (.ret v,h')
   |some l=>some (.ret (.tup l),h')
   |none=>none
 |_,_=>none
theorem vY (x:dn P ap) {n:Nat} {h0 o:List aJ} (A:h0.length≤n) {J:Func} {env:dF} {hp:Hp} {out:fP} (h:LP ap n J env hp=some (out,o)) {m m0:aF} {S S0:ay} {w w0:World} {tmps:Array Value}:
  h0.length≤o.length∧(aV ap (ai hp) m S w→Fr (aC h0) m0 S0 w0 (ai hp) m S w→(∀ t,VR (ai hp) m S (env.get t) (tmps.getD t undef))→
   ∃ cv,(results J tmps).run P w= .ok cv w∧∃ p S',wG ap h0 m0 S0 w0 out o p S' w (.returned cv)):=by
 unfold LP at h
 dsimp only at h
 split at h
 ·rename_i vs K u c
  split at h
  ·cases h
  ·rename_i G
   rw [Bool.and_eq_true] at G
   obtain ⟨hbase,d⟩:=G
   have d:∀ b ∈ vs.flatMap (·.2),b=true:=fun b hm=>List.all_eq_true.1 d b hm
   split at h
   ·rename_i v e
    cases h
    have hlen':h0.length≤o.length:=by rw [(dQ c).1];simpa using A
    refine ⟨hlen',fun s j F=> ?_⟩
    obtain ⟨cvs,B,r,E⟩:=gm x s F u d
    have a:(vs.flatMap fun q=>kV (ai hp) 6 (eF (bU q.1)))=(vs.map (·.1)).flatMap (cl (ai hp)):=by rw [List.flatMap_map];rfl
    rw [a] at e
    obtain ⟨p,S',y,z,C⟩:=jM s j r A e c hbase
    have D:cvs.length=1:=by
     have:=aW r
     have i:=(dQ e).1
     simp at i this
     omega
    match cvs,D with
    | [cv],_=>
     obtain ⟨i,I⟩:=Dx C
     refine ⟨cv,jf B E,p,S', ?_⟩
     rw [← I] at y z
     refine ⟨y,z,cv,rfl, ?_⟩
     rw [I]
     exact i
   ·rename_i l f e
    cases h
    have hlen':h0.length≤o.length:=by rw [(dQ c).1];simpa using A
    refine ⟨hlen',fun s j F=> ?_⟩
    obtain ⟨cvs,B,r,E⟩:=gm x s F u d
    have a:(vs.flatMap fun q=>kV (ai hp) 6 (eF (bU q.1)))=(vs.map (·.1)).flatMap (cl (ai hp)):=by rw [List.flatMap_map];rfl
    rw [a] at e
    obtain ⟨p,S',y,z,C⟩:=jM s j r A e c hbase
    have k:H8 cvs= .tuple cvs.toArray:=by
     match cvs with
     | []=>rfl
     | [cv]=>
      exfalso
      have:=aW r
      have i:=(dQ e).1
      simp at i this
      match l,f with
      | [],_=>simp at i;omega
      | [v],f=>exact f v rfl
      |_::_::_,_=>simp at i;omega
     |_::_::_=>rfl
    refine ⟨_,jf B E,p,S',y,z, ?_⟩
    rw [k]
    exact ⟨_,rfl,cvs,rfl,C⟩
   ·cases h
 ·cases h
theorem jB (g:xu P ap) (n:Nat) {f:Nat} {F:AF} (o:ap.fnAt f=some F) {args:List AV} {h0 r:List aJ} {out:fP} {s:St} {nt0:Nat} (k:F.fn.ntmps=nt0) (i:∀ nt,nt0≤nt→ah P ap h0 nt (ag F.fn) (dO .dead args h0) .ret s) (N:s.dfs= []) (v:h0.length≤n) (t:LP ap n F.fn s.env s.hp=some (out,r)):ae P ap f args h0 out r:=by
 obtain ⟨d,_⟩:=vY (P:=P) (m:=fun _=>(0,0)) (m0:=fun _=>(0,0)) (S:=fun _ _=>none) (S0:=fun _ _=>none) (w:=default) (w0:=default) (tmps:=#[]) g.apok v t
 subst k
 refine ⟨d,oV g.fnok o,fun m S w cargs J D=> ?_⟩
 obtain ⟨body,u,x⟩:=g.fnok.body f F o
 have hbody:ag F.fn=body:=by simp [ag,u]
 rw [hbody] at i
 obtain ⟨K,a⟩:=wZ (md:= .dead) J D F.fn.ntmps
 have a:FR ap (dO .dead args h0).env (dO .dead args h0).hp (dO .dead args h0).dfs _ m S w _:=a
 have l:F.fn.ntmps≤(cargs.toArray++Array.replicate (F.fn.ntmps - cargs.toArray.size) undef).size:=by simp;omega
 obtain ⟨_,i⟩:=i _ l rfl
 refine calls_of_wp_defers (g.fnok.fn f F o) u ?_
 refine i m S w m S w _ (by rw [K];exact Fr.refl _ _ _ _) a _ ?_
 intro G S' w' a' y c
 obtain ⟨_,z⟩:=kR g.apok (gI g.apok g.mixed g.fnok 3000 4).2 [] .nilI .nilI s.hp s.hp ⟨false,[],[],[],[],[]⟩ _ rfl ⟨fun b h=>(by cases h),fun p h=>(by cases h)⟩
 have e:=c.dfs
 rw [N] at e
 refine z h0 F.fn a'.tmps s.env _ m S w G S' w' a'.defers .returning c.srel y c.env e rfl ?_
 intro B S2 E O I M A q
 simp only [lw] at q
 subst q
 obtain ⟨_,j⟩:=vY (P:=P) (m:=B) (m0:=m) (S:=S2) (S0:=S) (w:=E) (w0:=w) (tmps:=a'.tmps) g.apok v t
 obtain ⟨cv,C,L⟩:=j I M A
 exact ⟨cv,C,L⟩
end AM
namespace AM
open Go
open Go.ChangeMaps (setBlock)
section
variable {P:Program} {ap:AP} {h0:List aJ} {nt:Nat}
def fM (P:Program) (ap:AP) (h0:List aJ) (nt:Nat) (code:Code) (s:St) (Post:bf→St→Prop):Prop:=
 s.md= .dead→(∀ e s',Post e s'→s'.md= .dead)∧∀ m0 S0 w0 m S w a,Fr (aC h0) m0 S0 w0 (ai s.hp) m S w→FR ap s.env s.hp s.dfs nt m S w a→∀ Q,(∀ e s',Post e s'→XA ap h0 m0 S0 w0 nt s' e Q)→code.wp P Q a w
theorem ah.any {b:Code} {s s':St} {e:bf} {Post:bf→St→Prop} (h:ah P ap h0 nt b s e s') (hp:Post e s') (hm:∀ e s',Post e s'→s'.md= .dead):fM P ap h0 nt b s Post:=
 fun c=> ⟨hm,fun m0 S0 w0 m S w a d f Q i=>(h c).2 m0 S0 w0 m S w a d f Q (i _ _ hp)⟩
theorem fM.one {b:Code} {s s':St} {e:bf} (h:fM P ap h0 nt b s fun e1 s1=>e1=e∧s1=s'):ah P ap h0 nt b s e s':=fun c=>
 ⟨(h c).1 _ _ ⟨rfl,rfl⟩,fun m0 S0 w0 m S w a d f Q i=>(h c).2 m0 S0 w0 m S w a d f Q fun e1 s1 ⟨h1,h2⟩=>by subst h1;subst h2;exact i⟩
theorem fM.seq {x y:Code} {s:St} {A Post:bf→St→Prop} (q:fM P ap h0 nt x s A) (r:∀ c,A .normal c→fM P ap h0 nt y c Post) (k:∀ e c,A e c→e ≠ .normal→Post e c) (hm:∀ e s',Post e s'→s'.md= .dead):fM P ap h0 nt (.seq x y) s Post:=by
 intro j
 obtain ⟨o,n⟩:=q j
 refine ⟨hm,fun m0 S0 w0 m S w a l p Q i=>wp_seq (n m0 S0 w0 m S w a l p _ fun e c h=> ?_)⟩
 cases e with
 |normal=>intro b S' w' a' f d;exact (r c h (o _ _ h)).2 m0 S0 w0 b S' w' a' f d Q i
 |exit id=>intro b S' w' a' f d;exact i _ _ (k _ _ h (by simp)) b S' w' a' f d
 |ret=>intro b S' w' a' f d;exact i _ _ (k _ _ h (by simp)) b S' w' a' f d
 |panic v=>intro b S' w' a' f d;exact i _ _ (k _ _ h (by simp)) b S' w' a' f d
def Fb (P:Program) (ap:AP) (nt:Nat) (ops:List Oper) (k:Nat) (s s':St):Prop:=
 s.md= .dead→s'.md= .dead∧∀ m S w a,FR ap s.env s.hp s.dfs nt m S w a→∀ Q,(∀ m' S' w' a',Fr (ai s.hp) m S w (ai s'.hp) m' S' w'→FR ap s'.env s'.hp s'.dfs nt m' S' w' a'→Q .normal a' w')→wpOps P ops.toArray Q (List.range' k (ops.length - k)) a w
theorem IV {H:bg} (j:dn P ap) (v:fC P ap H) {ops:List Oper} {k:Nat} (i:ops.all (qx nt)=true) {s:St} {r:RS} {c c':Cx} (h:lu ap H ops (ops.drop k) (dR s.hp) {env:=s.env,hp:=s.hp,md:=s.md,dfs:=s.dfs,dec:= [],feet:= []} c= .ok (r,none) c') (n:c'.Ok):
  c.Ok∧Fb P ap nt ops k s ⟨r.env,r.hp,r.md,r.dfs⟩:=by
 have C:∀ o ∈ ops,∀ d,o.dst=some d→d<nt:=by
  intro o z d f
  have:=List.all_eq_true.1 i o z
  simp only [qx,f] at this
  exact dL this
 obtain ⟨q,p⟩:=iY j v C (ops.drop k) k (dR s.hp) {env:=s.env,hp:=s.hp,md:=s.md,dfs:=s.dfs,dec:= [],feet:= []} r none c c' h n
 refine ⟨q,fun e=> ?_⟩
 obtain ⟨A,y⟩:=p e (fun t b l=>by cases l) rfl (fun b B l=>jC l)
 refine ⟨A,fun m S w a u Q x=> ?_⟩
 have:=y m S w a u Q x
 rwa [List.length_drop] at this
theorem EJ {w w':World} {r k z:Nat} {cur:Array Value} {e:TypeId} {n:Option Nat} {i l:Nat} {f:Array Nat} (j:w.heap[r]? =some (.mapIter n i f l)) (c:∀ k,k ≠ r→w'.heap[k]? =w.heap[k]?) (h:eP w k z cur e):k ≠ r∧eP w' k z cur e:=by
 have a:k ≠ r:=by
  rintro rfl
  rcases h with ⟨_,h⟩|⟨_,es,clk,h,_⟩<;>(rw [j] at h;cases h)
 refine ⟨a, ?_⟩
 rcases h with ⟨b,h⟩|⟨b,es,clk,h,d⟩
 ·exact .inl ⟨b,by rw [c k a];exact h⟩
 ·exact .inr ⟨b,es,clk,by rw [c k a];exact h,d⟩
theorem aV.iter {g:bD} {m:aF} {S:ay} {w w':World} {r:Nat} {A c:Option Nat} {x y j d:Nat} {p i:Array Nat} (h:aV ap g m S w) (f:w.heap[r]? =some (.mapIter A x p y)) (q:w'.heap[r]? =some (.mapIter c j i d)) (l:∀ k,k ≠ r→w'.heap[k]? =w.heap[k]?):aV ap g m S w':=by
 refine ⟨h.inj,fun b B t=> ?_,fun k o v z=> ?_,h.own,h.glob⟩
 ·obtain ⟨⟨cur,e,vs,rest,a,n⟩,u,s⟩:=h.blk b B t
  exact ⟨⟨cur,e,vs,rest,(EJ f l a).2,n⟩,u,s⟩
 ·have a:=h.sealed k o v z
  by_cases e:k=r
  ·subst e
   exfalso
   unfold bK at a
   rw [f] at a
   simp [World.cell?,f] at a
  ·unfold bK at a ⊢
   simp only [World.cell?] at a ⊢
   rw [l k e]
   exact a
theorem FR.iter {env:dF} {hp:Hp} {dfs:List (Nat × List AV)} {m:aF} {S:ay} {w w':World} {a:Act} {r:Nat} {l d:Option Nat} {i p f e:Nat} {n c:Array Nat} (h:FR ap env hp dfs nt m S w a) (j:w.heap[r]? =some (.mapIter l i n p)) (b:w'.heap[r]? =some (.mapIter d f c e)) (o:∀ k,k ≠ r→w'.heap[k]? =w.heap[k]?):FR ap env hp dfs nt m S w' a:=
 ⟨h.srel.iter j b o,h.env,h.dfs,h.size⟩
theorem FR.dead {env:dF} {hp:Hp} {dfs:List (Nat × List AV)} {m:aF} {S:ay} {w:World} {a:Act} {d:Nat} (h:FR ap env hp dfs nt m S w a) (b:env.get d= .dead) (v:Value):FR ap env hp dfs nt m S w (a.put (some d) v):=by
 refine ⟨h.srel,fun t=> ?_, ?_,by rw [aA];exact h.size⟩
 ·by_cases e:t=d
  ·subst e;rw [b];simp [VR]
  ·rw [iV a (some d) v (by simpa using fun h=>e h.symm)];exact h.env t
 ·rw [jU];exact h.dfs
theorem Fr.iter {n g:bD} {m0 m:aF} {S0 S:ay} {w0 w w':World} {r:Nat} {u i:Option Nat} {s z l j:Nat} {v f:Array Nat} (h:Fr n m0 S0 w0 g m S w) (h0:w0.heap.size≤r) (A:w.heap[r]? =some (.mapIter u s v z)) (c:w'.heap[r]? =some (.mapIter i l f j)) (o:∀ k,k ≠ r→w'.heap[k]? =w.heap[k]?) (hs:w'.heap.size=w.heap.size) (y:w'.os=w.os) (q:w'.tape=w.tape) (t:w'.output=w.output):Fr n m0 S0 w0 g m S w':=
 ⟨h.ge,h.sle,y.trans h.os,q.trans h.tape,t.trans h.output,by rw [hs];exact h.size,fun k d x=>by rw [o k (by omega)];exact h.rest k d x,h.img,h.sealN,fun b B p es clk a=>by
  by_cases e:(m b).1=r
  ·rw [e,c] at a;cases a
  ·rw [o _ e] at a;exact h.mw b B p es clk a⟩
def uh (es:Array MapEntry) (i:Nat):Nat:=(es.toList.map (·.born)).getD i 0
def bZ (es:Array MapEntry) (done:List Nat):Array Nat:=(done.reverse.map (uh es)).toArray
theorem wE (es:Array MapEntry) (done:List Nat) (i:Nat):(bZ es done).push (uh es i)=bZ es (i::done):=by
 apply Array.toList_inj.1
 simp [bZ]
theorem oW {es:Array MapEntry} {i:Nat} {e:MapEntry} (h:es.toList[i]? =some e):uh es i=e.born:=by
 unfold uh
 rw [List.getD_eq_getElem?_getD,List.getElem?_map,h]
 rfl
theorem Eh {es:Array MapEntry} {done:List Nat} {e:MapEntry} (h:e ∈ (leftOf es (bZ es done)).toList):∃ i,es.toList[i]? =some e∧i ∉ done:=by
 unfold leftOf at h
 rw [Array.toList_filter,List.mem_filter] at h
 obtain ⟨c,b⟩:=h
 obtain ⟨i,a⟩:=List.getElem?_of_mem c
 refine ⟨i,a,fun d=> ?_⟩
 have:e.born ∈ bZ es done:=by
  simp only [bZ,List.mem_toArray,List.mem_map,List.mem_reverse]
  exact ⟨i,d,oW a⟩
 simp [this] at b
theorem A7 {es:Array MapEntry} {clk:Nat} {done:List Nat} (f:qo es clk) (n:∀ j ∈ done,j<es.size) (h:(leftOf es (bZ es done)).size=0):∀ i,i<es.size→i ∈ done:=by
 intro i k
 refine Classical.byContradiction fun l=> ?_
 have a:i<es.toList.length:=by simpa using k
 have o:es.toList[i]? =some es.toList[i]:=List.getElem?_eq_getElem a
 have hm:es.toList[i] ∈ (leftOf es (bZ es done)).toList:=by
  unfold leftOf
  rw [Array.toList_filter,List.mem_filter]
  refine ⟨List.getElem_mem a, ?_⟩
  have hs:es.toList[i].born ∉ bZ es done:=by
   simp only [bZ,List.mem_toArray,List.mem_map,List.mem_reverse]
   rintro ⟨j,hj,e⟩
   have b:j<es.toList.length:=by simpa using n j hj
   rw [oW (List.getElem?_eq_getElem b)] at e
   have c:=List.pairwise_iff_getElem.1 f.1
   have:j=i:=by
    rcases Nat.lt_trichotomy j i with hlt|heq|hlt
    ·exact (c j i (by simpa using b) (by simpa using a) hlt (by rw [List.getElem_map,List.getElem_map];exact e)).elim
    ·exact heq
    ·exact (c i j (by simpa using a) (by simpa using b) hlt (by rw [List.getElem_map,List.getElem_map];exact e.symm)).elim
   exact l (this ▸ hj)
  rw [Bool.not_eq_true',Bool.eq_false_iff]
  intro d
  exact hs (by simpa using d)
 rw [Array.eq_empty_of_size_eq_zero h] at hm
 simp at hm
def l_ (P:Program) (ap:AP) (nt:Nat) (REST:Code) (pt:Value) (env:dF) (hp:Hp) (k v:AV) (PostI:bf→St→Prop):Prop:=
 ∀ m S w a,FR ap env hp [] nt m S w a→(∃ kv vv,(Instr.entry pt).run P w= .ok (.tuple #[kv,vv]) w∧PR S k kv∧PR S v vv)→
  ∀ Q,(∀ e s',PostI e s'→∀ m' S' w' a',Fr (ai hp) m S w (ai s'.hp) m' S' w'→FR ap s'.env s'.hp s'.dfs nt m' S' w' a'→vk s'.hp m' S' Q a' w' e)→REST.wp P Q a w
def eG (it tn ok:Nat) (pt:Value) (env:dF):dF:=(it,.raw pt)::(ok,.dead)::(tn,.dead)::env
def ni (n:Nat) (done:List Nat):Nat:=((List.range n).filter fun j=> !done.contains j).length
theorem p_ {n i:Nat} {done:List Nat} (b:i<n) (a:i ∉ done):ni n (i::done)<ni n done:=by
 unfold ni
 have e:(List.range n).filter (fun j=> !(i::done).contains j)=((List.range n).filter fun j=> !done.contains j).filter fun j=> !(j==i):=by
  rw [List.filter_filter]
  congr 1
  funext j
  simp only [List.contains_cons,Bool.not_or]
 rw [e]
 refine (List.length_filter_lt_length_iff_exists).2 ⟨i, ?_,by simp⟩
 rw [List.mem_filter]
 exact ⟨List.mem_range.2 b,by simpa using a⟩
theorem xx {S:ay}:∀ {l:List AV} {us:List Value} {i:Nat} {u:Value},aZ S l us→us[i]? =some u→∃ x,l[i]? =some x∧PR S x u
 | [],[],_,_,_,h=>by simp at h
 |x::l,y::us,0,u,h,hu=>by simp only [aZ] at h;simp at hu;subst hu;exact ⟨x,rfl,h.1⟩
 |x::l,y::us,i+1,u,h,hu=>by
  simp only [aZ] at h
  obtain ⟨z,a,b⟩:=xx (i:=i) h.2 (by simpa using hu)
  exact ⟨z,by simpa using a,b⟩
 | [],_::_,_,_,h,_=>by simp [aZ] at h
 |_::_,[],_,_,h,_=>by simp [aZ] at h
theorem jS {a b:Nat} (h:a ≠ b):Nat.beq a b=false:=by
 cases e:Nat.beq a b with
 |false=>rfl
 |true=>exact absurd (Nat.eq_of_beq_eq_true e) h
theorem C9 {σ:Type} {l c ok id j n r bm clk:Nat} {o1 o2:Oper} {REST:Code} {st:σ→St} {Inv:List Nat→σ→Prop} {ks vs:List AV} {es:Array MapEntry} {PostX:bf→St→Prop} {m0:aF} {S0:ay} {w0:World}
  (ho1:o1.op= .next (.tmp l) false) (hd1:o1.dst=some c) (hg1:o1.guard=none) (ho2:o2.op= .extract (.tmp c) 0) (hd2:o2.dst=some ok) (hg2:o2.guard=none)
  (htn:c<nt) (hok:ok<nt) (hit:l ≠ c∧l ≠ ok) (htk:c ≠ ok)
  (hrest:∀ done s i k v,Inv done s→i<n→i ∉ done→ks[i]? =some k→vs[i]? =some v→
   l_ P ap nt REST (.pointer (some ⟨r,0,none⟩)) (eG l c ok (.pointer (some ⟨r,0,none⟩)) (st s).env) (st s).hp k v fun e s'=>(e= .normal∧∃ o,Inv (i::done) o∧s'=⟨eG l c ok (.pointer (some ⟨r,0,none⟩)) (st o).env,(st o).hp,.dead,[]⟩)∨(e ≠ .normal∧PostX e s'))
  (hr0:w0.heap.size≤r) (hn:es.size=n) (hw:qo es clk) {Q:Exit→Act→World→Prop}
  (hend:∀ done s,Inv done s→(∀ i,i<n→i ∈ done)→XA ap h0 m0 S0 w0 nt ⟨eG l c ok (.pointer (some ⟨r,0,none⟩)) (st s).env,(st s).hp,.dead,[]⟩ (.exit id) Q)
  (hX:∀ e s',e ≠ .normal→PostX e s'→XA ap h0 m0 S0 w0 nt s' e Q):
  ∀ (f:Nat) (done:List Nat) (s:σ),Inv done s→(∀ i ∈ done,i<n)→ni n done≤f→∀ (m:aF) (S:ay) (w:World) (a:Act) (C:Nat),
   Fr (aC h0) m0 S0 w0 (ai (st s).hp) m S w→FR ap (eG l c ok (.pointer (some ⟨r,0,none⟩)) (st s).env) (st s).hp [] nt m S w a→
   w.heap[r]? =some (.mapIter (some bm) clk (bZ es done) C)→clk≤C→w.heap[bm]? =some (.map es clk)→(∀ b B,ai (st s).hp b=some B→(m b).1 ≠ bm)→aZ S ks (es.toList.map (·.key))→aZ S vs (es.toList.map (·.val))→
   Code.rounds P (.seq (.region j #[o1,o2] false) (.seq (.cond (.tmp ok) .skip (.exit id)) REST)) Q (f+1) a w:=by
 have key:∀ (K:Act→World→Prop) (done:List Nat) (s:σ),Inv done s→(∀ i ∈ done,i<n)→∀ (m:aF) (S:ay) (w:World) (a:Act) (C:Nat),
   Fr (aC h0) m0 S0 w0 (ai (st s).hp) m S w→FR ap (eG l c ok (.pointer (some ⟨r,0,none⟩)) (st s).env) (st s).hp [] nt m S w a→
   w.heap[r]? =some (.mapIter (some bm) clk (bZ es done) C)→clk≤C→w.heap[bm]? =some (.map es clk)→(∀ b B,ai (st s).hp b=some B→(m b).1 ≠ bm)→aZ S ks (es.toList.map (·.key))→aZ S vs (es.toList.map (·.val))→
   (∀ i o,i<n→i ∉ done→Inv (i::done) o→∀ T S' w' a',Fr (aC h0) m0 S0 w0 (ai (st o).hp) T S' w'→FR ap (eG l c ok (.pointer (some ⟨r,0,none⟩)) (st o).env) (st o).hp [] nt T S' w' a'→
    w'.heap[r]? =some (.mapIter (some bm) clk (bZ es (i::done)) clk)→w'.heap[bm]? =some (.map es clk)→(∀ b B,ai (st o).hp b=some B→(T b).1 ≠ bm)→aZ S' ks (es.toList.map (·.key))→aZ S' vs (es.toList.map (·.val))→K a' w')→
   (Code.seq (.region j #[o1,o2] false) (.seq (.cond (.tmp ok) .skip (.exit id)) REST)).wp P (Exit.then K Q) a w:=by
  intro K done s Y hd m S w a C z E L hc N hs hk Z hK
  have hpt:a.eval (.tmp l)= .pointer (some ⟨r,0,none⟩):=by
   have:=E.env l
   simp only [eG,dF.get,ai,Nat.beq_refl,Option.getD_some,VR,PR] at this
   exact this
  have hold:∀ x ∈ es.toList,x.born<clk:=hw.2
  refine wp_seq (wp_region_list ?_)
  refine wpList_plain hg1 fun K1 hK1=> ?_
  unfold Oper.wp
  have p:∀ d,d=c∨d=ok→(eG l c ok (.pointer (some ⟨r,0,none⟩)) (st s).env).get d= .dead:=by
   rintro d (rfl|rfl)
   ·have X:Nat.beq l d=false:=jS hit.1
    have e2:Nat.beq ok d=false:=jS fun e=>htk e.symm
    simp [eG,dF.get,ai,X,e2]
   ·have X:Nat.beq l d=false:=jS hit.2
    simp [eG,dF.get,ai,X]
  rcases run_next_at (P:=P) w o1.type r bm clk C (bZ es done) es clk L N hold hc with ⟨hz,F⟩|⟨e,he,R,hw1,F⟩
  ·simp [execOp,ho1,hpt,F,Result.andThen]
   refine hK1 _ _ ?_
   rw [hd1]
   refine wpList_plain hg2 fun K2 V=> ?_
   unfold Oper.wp
   have hx:(a.put (some c) (.tuple #[.bool false])).eval (.tmp c)= .tuple #[.bool false]:=bT a c _ (by rw [E.size];exact htn)
   simp [execOp,ho2,hx,Instr.extract,Result.andThen]
   refine V _ _ ?_
   rw [hd2]
   have M:=(E.dead (p c (.inl rfl)) (.tuple #[.bool false])).dead (p ok (.inr rfl)) (.bool false)
   have G:((a.put (some c) (.tuple #[.bool false])).put (some ok) (.bool false)).eval (.tmp ok)= .bool false:=bT _ ok _ (by rw [aA,E.size];exact hok)
   refine wp_seq (wp_cond_false G (wp_exit ?_))
   exact hend done s Y (fun i J=>A7 hw (fun q hq=>by rw [hn];exact hd q hq) hz i (by rw [hn];exact J)) m S w _ z M
  ·simp [execOp,ho1,hpt,F,Result.andThen]
   refine hK1 _ _ ?_
   rw [hd1]
   refine wpList_plain hg2 fun K2 V=> ?_
   unfold Oper.wp
   have hx:(a.put (some c) (.tuple #[.bool true,e.key,e.val])).eval (.tmp c)= .tuple #[.bool true,e.key,e.val]:=bT a c _ (by rw [E.size];exact htn)
   simp [execOp,ho2,hx,Instr.extract,Result.andThen]
   refine V _ _ ?_
   rw [hd2]
   have M:=(E.dead (p c (.inl rfl)) (.tuple #[.bool true,e.key,e.val])).dead (p ok (.inr rfl)) (.bool true)
   have G:((a.put (some c) (.tuple #[.bool true,e.key,e.val])).put (some ok) (.bool true)).eval (.tmp ok)= .bool true:=bT _ ok _ (by rw [aA,E.size];exact hok)
   refine wp_seq (wp_cond_true G (wp_skip ?_))
   generalize (a.put (some c) (.tuple #[.bool true,e.key,e.val])).put (some ok) (.bool true)=a2 at M G
   obtain ⟨i,D,y⟩:=Eh he
   have J:i<n:=by
    have:=(List.getElem?_eq_some_iff.1 D).1
    rw [← hn];simpa using this
   have hborn:uh es i=e.born:=oW D
   have t:R.heap=w.heap∧R.os=w.os∧R.tape=w.tape∧R.output=w.output:=by rcases hw1 with rfl|rfl<;>exact ⟨rfl,rfl,rfl,rfl⟩
   have hrlt:r<w.heap.size:=(Array.getElem?_eq_some_iff.1 L).1
   have A:(setBlock R r (Obj.mapIter (some bm) clk ((bZ es done).push e.born) clk)).heap[r]? =some (.mapIter (some bm) clk ((bZ es done).push e.born) clk):=by simp [setBlock,t.1,hrlt]
   have W:∀ k,k ≠ r→(setBlock R r (Obj.mapIter (some bm) clk ((bZ es done).push e.born) clk)).heap[k]? =w.heap[k]? :=fun k hk0=>by
    simp only [setBlock,t.1]
    rw [Array.getElem?_setIfInBounds_ne (fun h=>hk0 h.symm)]
   have hsz:(setBlock R r (Obj.mapIter (some bm) clk ((bZ es done).push e.born) clk)).heap.size=w.heap.size:=by simp [setBlock,t.1]
   have hF3:=M.iter L A W
   have hfr3:=z.iter hr0 L A W hsz t.2.1 t.2.2.1 t.2.2.2
   have hbr:bm ≠ r:=by rintro rfl;rw [L] at N;cases N
   have I:=(W bm hbr).trans N
   generalize setBlock R r (Obj.mapIter (some bm) clk ((bZ es done).push e.born) clk)=w2 at*
   have hent:=run_entry_at (P:=P) w2 r bm clk (bZ es done) es clk e A I (List.mem_of_getElem? D) hw.1
   obtain ⟨k,hk1,hk2⟩:=xx (i:=i) hk (u:=e.key) (by rw [List.getElem?_map,D];rfl)
   obtain ⟨v,hv1,hv2⟩:=xx (i:=i) Z (u:=e.val) (by rw [List.getElem?_map,D];rfl)
   refine hrest done s i k v Y J y hk1 hv1 m S w2 a2 hF3 ⟨_,_,hent,hk2,hv2⟩ _ ?_
   intro ex s' hp T S' w' a' hl hF4
   have O:=hfr3.trans hl
   rcases hp with ⟨rfl,o,U,rfl⟩|⟨hne,hp⟩
   ·have hkeep:∀ q,q<w2.heap.size→(∀ b B,ai (st s).hp b=some B→(m b).1 ≠ q)→w'.heap[q]? =w2.heap[q]? :=hl.rest
    have hrr:w'.heap[r]? =w2.heap[r]? :=hkeep r (by omega) fun b B hB X=>by
     obtain ⟨⟨cur,ty,us,rs,h1,_⟩,_,_⟩:=hF3.srel.blk b B hB
     rw [X] at h1
     exact (EJ A (fun _ _=>rfl) h1).1 rfl
    have hbb:w'.heap[bm]? =w2.heap[bm]? :=hkeep bm (Array.getElem?_eq_some_iff.1 I).1 hs
    refine hK i o J y U T S' w' a' O hF4 ?_ (hbb.trans I) ?_ (aP hl.sle _ hk) (aP hl.sle _ Z)
    ·rw [hrr,A,← hborn,wE]
    ·intro b B hB X
     rcases hl.img b B hB with h9|⟨B0,h9,h10⟩
     ·have:=(Array.getElem?_eq_some_iff.1 I).1
      omega
     ·exact hs b B0 h9 (by rw [← h10];exact X)
   ·have:=hX ex s' hne hp T S' w' a' O hF4
    cases ex with
    |normal=>exact absurd rfl hne
    |exit q=>exact this
    |ret=>exact this
    |panic q=>exact this
 intro f
 induction f with
 | zero=>
  intro done s Y hd hu m S w a C z E L hc N hs hk Z
  exact key _ done s Y hd m S w a C z E L hc N hs hk Z fun i o J y _ _ _ _ _ _ _ _ _ _ _ _=>by
   have:=p_ J y
   omega
 | succ f ih=>
  intro done s Y hd hu m S w a C z E L hc N hs hk Z
  exact key _ done s Y hd m S w a C z E L hc N hs hk Z fun i o J y U T S' w' a' h1 h2 h3 h4 h5 h6 h7=>
   ih (i::done) o U (fun q hq=>by
    rcases List.mem_cons.1 hq with rfl|hq
    ·exact J
    ·exact hd q hq) (by have:=p_ J y;omega) T S' w' a' clk h1 h2 h3 (Nat.le_refl _) h4 h5 h6 h7
theorem FR.set {env:dF} {hp:Hp} {dfs:List (Nat × List AV)} {m:aF} {S:ay} {w:World} {a:Act} {d:Nat} {x:AV} {v:Value} (h:FR ap env hp dfs nt m S w a) (c:d<nt) (b:VR (ai hp) m S x v):FR ap ((d,x)::env) hp dfs nt m S w (a.put (some d) v):=by
 refine ⟨h.srel,fun t=> ?_, ?_,by rw [aA];exact h.size⟩
 ·by_cases e:t=d
  ·subst e
   rw [bT a t v (by rw [h.size];exact c)]
   simpa [dF.get,ai] using b
  ·rw [iV a (some d) v (by simpa using fun h=>e h.symm)]
   simpa [dF.get,ai,jS (fun h=>e h.symm:d ≠ t)] using h.env t
 ·rw [jU];exact h.dfs
theorem Px {g:bD} {m:aF} {S:ay} {x:AV} {v:Value} (h:PR S x v):VR g m S x v:=dG x h
theorem l_.of {hs:List aJ} {B f h:Nat} {b:Oper} {c:List Oper} {TAIL:Code} {q:Value} {env:dF} {hp:Hp} {k v:AV} {u:St} {A:bf→St→Prop}
  (hoe:b.op= .entry (.tmp f)) (hde:b.dst=some h) (hge:b.guard=none) (hte:h<nt) (hhp:aC hs=ai hp) (hpt:env.get f= .raw q)
  (h1:Fb P ap nt (b::c) 1 ⟨(h,.tup [k,v])::env,hp,.dead,[]⟩ u) (h2:fM P ap hs nt TAIL u A):l_ P ap nt (.seq (.region B (b::c).toArray false) TAIL) q env hp k v A:=by
 intro m S w a t ⟨kv,vv,hrun,hk,hv⟩ Q hQ
 have hp':a.eval (.tmp f)=q:=by
  have:=t.env f
  rw [hpt] at this
  simp only [VR,PR] at this
  exact this
 refine wp_seq (wp_region_list ?_)
 rw [List.toList_toArray]
 refine wpList_plain hge fun K D=> ?_
 unfold Oper.wp
 simp [execOp,hoe,hp',hrun,Result.andThen]
 refine D _ _ ?_
 rw [hde]
 have p:=t.set (d:=h) (x:= .tup [k,v]) (v:= .tuple #[kv,vv]) hte (by
  simp only [VR]
  exact ⟨[kv,vv],rfl,by simp only [aO];exact ⟨Px hk,Px hv,trivial⟩⟩)
 obtain ⟨I,y⟩:=h1 rfl
 obtain ⟨_,z⟩:=h2 I
 have n:=y m S w _ p (Exit.then (TAIL.wp P Q) Q) fun C S' w' a' F E=>z m S w C S' w' a' (by rw [hhp];exact F) E Q fun e s' G i S'' o r s l=>hQ e s' G i S'' o r (by rw [hhp] at s;exact s) l
 have e:=wpOps_eq_wpList (P:=P) (ops:=(b::c).toArray) (Q:=Exit.then (TAIL.wp P Q) Q) c 1 (fun j=>by simp [Nat.add_comm 1 j])
 simp only [List.length_cons,Nat.add_sub_cancel] at n
 rw [e] at n
 exact n
theorem l_.block {id:Nat} {REST:Code} {l:Value} {env:dF} {hp:Hp} {k v:AV} {A B:bf→St→Prop} (h:l_ P ap nt REST l env hp k v A) (n:∀ s',A (.exit id) s'→B .normal s') (j:∀ e s',A e s'→e ≠ .exit id→B e s'):l_ P ap nt (.block id REST) l env hp k v B:=by
 intro m S w a o p Q c
 refine wp_block (h m S w a o p _ fun e s' i b S' w' a' d f=> ?_)
 cases e with
 |normal=>exact c _ _ (j _ _ i (by simp)) b S' w' a' d f
 | exit q=>
  by_cases hk:q=id
  ·subst hk
   have:=c _ _ (n _ i) b S' w' a' d f
   simpa [vk,Exit.inBlock] using this
  ·have:=c _ _ (j _ _ i (by simpa using hk)) b S' w' a' d f
   simpa [vk,Exit.inBlock,hk] using this
 |ret=>exact c _ _ (j _ _ i (by simp)) b S' w' a' d f
 |panic q=>
  have:=c _ _ (j _ _ i (by simp)) b S' w' a' d f
  exact this
theorem aV.push {g:bD} {m:aF} {S:ay} {w:World} (h:aV ap g m S w) (o:Obj):aV ap g m S (w.alloc o):=by
 have d:∀ k,k<w.heap.size→(w.alloc o).heap[k]? =w.heap[k]? :=fun k d=>by
  simp only [World.alloc,Array.getElem?_push]
  rw [if_neg (Nat.ne_of_lt d)]
 refine ⟨h.inj,fun b B i=> ?_,fun k r v j=> ?_,h.own,h.glob⟩
 ·have c:=h.lt i
  obtain ⟨⟨cur,e,vs,rest,a,n⟩,q,p⟩:=h.blk b B i
  refine ⟨⟨cur,e,vs,rest, ?_,n⟩,q,p⟩
  rcases a with ⟨f,a⟩|⟨f,es,clk,a,l⟩
  ·exact .inl ⟨f,by rw [d _ c];exact a⟩
  ·exact .inr ⟨f,es,clk,by rw [d _ c];exact a,l⟩
 ·have a:=h.sealed k r v j
  have c:=h.seal_lt j
  unfold bK at a ⊢
  simp only [World.cell?] at a ⊢
  rw [d k c]
  exact a
theorem FR.push {env:dF} {hp:Hp} {dfs:List (Nat × List AV)} {m:aF} {S:ay} {w:World} {a:Act} (h:FR ap env hp dfs nt m S w a) (o:Obj):FR ap env hp dfs nt m S (w.alloc o) a:=⟨h.srel.push o,h.env,h.dfs,h.size⟩
theorem Fr.push {f g:bD} {m0 m:aF} {S0 S:ay} {w0 w:World} (h:Fr f m0 S0 w0 g m S w) {o:Obj} (l:∀ es clk,o ≠ .map es clk):Fr f m0 S0 w0 g m S (w.alloc o):=by
 have d:∀ k,k<w.heap.size→(w.alloc o).heap[k]? =w.heap[k]? :=fun k d=>by
  simp only [World.alloc,Array.getElem?_push]
  rw [if_neg (Nat.ne_of_lt d)]
 have hs:(w.alloc o).heap.size=w.heap.size+1:=Array.size_push ..
 refine ⟨h.ge,h.sle,h.os,h.tape,h.output,by rw [hs];exact Nat.le_succ_of_le h.size,fun k c j=>by rw [d k (Nat.lt_of_lt_of_le c h.size)];exact h.rest k c j,h.img,h.sealN,fun b B i es clk a=> ?_⟩
 by_cases e:(m b).1<w.heap.size
 ·rw [d _ e] at a;exact h.mw b B i es clk a
 ·simp only [World.alloc,Array.getElem?_push] at a
  split at a
  ·cases a;exact absurd rfl (l es clk)
  ·exact h.mw b B i es clk a
theorem FR.drop {env env':dF} {hp hp':Hp} {m:aF} {S:ay} {w:World} {a:Act} (h:FR ap env hp [] nt m S w a) (c:∀ x B,ai hp' x=some B→ai hp x=some B) (l:∀ x B,ai hp' x=some B→∀ y ∈ a_ B.cells,ai hp' y=ai hp y) (d:∀ t,env'.get t= .dead∨(env'.get t=env.get t∧∀ y ∈ bU (env'.get t),ai hp' y=ai hp y)):FR ap env' hp' [] nt m S w a:=by
 refine ⟨⟨fun b o B B' k i e=>h.srel.inj b o B B' (c _ _ k) (c _ _ i) e,fun b B f=> ?_,h.srel.sealed,fun b B f=>h.srel.own b B (c _ _ f),h.srel.glob⟩,fun t=> ?_, ?_,h.size⟩
 ·obtain ⟨⟨cur,e,vs,rest,k,i,v,p,s⟩,u,q⟩:=h.srel.blk b B (c _ _ f)
  exact ⟨⟨cur,e,vs,rest,k,i,v,iQ (gy.refl S) _ (fun y j=> ⟨l b B f y j,rfl⟩) p,s⟩,u,q⟩
 ·rcases d t with e|⟨e,n⟩
  ·rw [e];simp [VR]
  ·rw [e] at n ⊢
   exact nX (gy.refl S) _ (fun y j=> ⟨n y j,rfl⟩) (h.env t)
 ·have:=h.dfs
  cases z:a.defers with
  |nil=>simp [dJ]
  |cons x r=>rw [z] at this;simp [dJ] at this
theorem Fr.drop {c:bD} {hp hp':Hp} {m0 m:aF} {S0 S:ay} {w0 w:World} (h:Fr c m0 S0 w0 (ai hp) m S w) (a:∀ x B,ai hp' x=some B→ai hp x=some B) (hbase:∀ x B0 B,c x=some B0→ai hp x=some B→ai hp' x=some B):Fr c m0 S0 w0 (ai hp') m S w:=by
 refine ⟨fun b B0 e=> ?_,h.sle,h.os,h.tape,h.output,h.size,h.rest,fun b B d=>h.img b B (a _ _ d),h.sealN,fun b B d=>h.mw b B (a _ _ d)⟩
 obtain ⟨B,i,f⟩:=h.ge b B0 e
 exact ⟨B,hbase b B0 B e i,f⟩
theorem Jj {σ:Type} {d p ok id j i0 n b ver tm l:Nat} {ty kt et:TypeId} {Y X U W:Oper} {REST:Code} {st:σ→St} {Inv:List Nat→σ→Prop} {ks vs:List AV} {PostX Post:bf→St→Prop} {B:aJ} {s:St} {s0:σ}
  (ho3:U.op= .move (.tmp tm)) (hd3:U.dst=some l) (hg3:U.guard=none) (ho4:W.op= .range ty (.tmp l)) (hd4:W.dst=some d) (hg4:W.guard=none)
  (ho1:Y.op= .next (.tmp d) false) (hd1:Y.dst=some p) (hg1:Y.guard=none) (ho2:X.op= .extract (.tmp p) 0) (hd2:X.dst=some ok) (hg2:X.guard=none)
  (hit:d<nt) (htn:p<nt) (hok:ok<nt) (ht1:l<nt) (hne:d ≠ p∧d ≠ ok) (htk:p ≠ ok)
  (hund:P.underlying ty=some (.map kt et)) (hm:s.env.get tm= .mr b ver) (hB:ai s.hp b=some B) (hver:B.ver=ver) (hz:B.esz=dw) (hcells:B.cells= [.agg ks,.agg vs]) (hpr:B.pr=true) (hbase:aC h0 b=none) (hdfs:s.dfs= []) (hlen:ks.length=n)
  (hI0:Inv [] s0) (hsub:∀ x C,ai (st s0).hp x=some C→ai s.hp x=some C∧x ≠ b) (hcl:∀ x C,ai (st s0).hp x=some C→∀ y ∈ a_ C.cells,ai (st s0).hp y=ai s.hp y)
  (henv:∀ t,(st s0).env.get t= .dead∨(t ≠ l∧t ≠ d∧(st s0).env.get t=s.env.get t∧∀ y ∈ bU ((st s0).env.get t),ai (st s0).hp y=ai s.hp y))
  (hb2:∀ x B0 C,aC h0 x=some B0→ai s.hp x=some C→ai (st s0).hp x=some C)
  (hrest:∀ pt done s i k v,Inv done s→i<n→i ∉ done→ks[i]? =some k→vs[i]? =some v→
   l_ P ap nt REST pt (eG d p ok pt (st s).env) (st s).hp k v fun e s'=>(e= .normal∧∃ N,Inv (i::done) N∧s'=⟨eG d p ok pt (st N).env,(st N).hp,.dead,[]⟩)∨(e ≠ .normal∧PostX e s'))
  (hend:∀ pt done s,Inv done s→(∀ i,i<n→i ∈ done)→Post .normal ⟨eG d p ok pt (st s).env,(st s).hp,.dead,[]⟩)
  (hX:∀ e s',e ≠ .normal→PostX e s'→e ≠ .exit id∧Post e s') (hmd:∀ e s',Post e s'→s'.md= .dead):
  fM P ap h0 nt (.seq (.region i0 #[U,W] false) (.block id (.loop (.seq (.region j #[Y,X] false) (.seq (.cond (.tmp ok) .skip (.exit id)) REST))))) s Post:=by
 intro _
 refine ⟨hmd,fun m0 S0 w0 m S w a A G Q hQ=>wp_seq (wp_region_list ?_)⟩
 rw [hdfs] at G
 have E:=G.env tm
 rw [hm] at E
 simp only [VR] at E
 obtain ⟨B',L,_,_,hv⟩:=E
 rw [hB] at L;cases L
 have hv:=hv hver
 obtain ⟨⟨cur,e,us,rest,M,f,hp,_⟩,_,_⟩:=G.srel.blk b B hB
 have hp:=hp hpr
 rw [hcells] at hp
 have T:∃ es clk,w.heap[(m b).1]? =some (.map es clk)∧cur=iC es:=by
  rcases M with ⟨c,_⟩|⟨_,es,clk,c,u⟩
  ·exact absurd hz c
  ·exact ⟨es,clk,c,u⟩
 obtain ⟨es,clk,V,rfl⟩:=T
 have hu:aZ S ks (es.toList.map (·.key))∧aZ S vs (es.toList.map (·.val)):=by
  match us,hp,f with
  | [u1,u2],hp,f=>
   simp only [aZ,PR] at hp
   obtain ⟨⟨kk,rfl,c⟩,⟨vv,rfl,u⟩,_⟩:=hp
   simp only [iC,List.cons_append,List.nil_append,List.cons.injEq,Value.agg.injEq] at f
   obtain ⟨D,I,_⟩:=f
   have D:es.toList.map (·.key)=kk:=by rw [← Array.toList_map,D]
   have I:es.toList.map (·.val)=vv:=by rw [← Array.toList_map,I]
   rw [D,I];exact ⟨c,u⟩
  | [],hp,_=>simp [aZ] at hp
  | [_],hp,_=>simp [aZ] at hp
  |_::_::_::_,hp,_=>simp [aZ] at hp
 have hsz:es.size=n:=by
  have:=iP hu.1
  rw [← hlen,this];simp
 have hge:w0.heap.size≤(m b).1:=by
  rcases A.img b B hB with c|⟨B0,c,_⟩
  ·exact c
  ·rw [hbase] at c;cases c
 have hwf:qo es clk:=by
  rcases A.mw b B hB _ _ V with ⟨es0,clk0,c,_⟩|⟨_,c⟩
  ·have:=(Array.getElem?_eq_some_iff.1 c).1;omega
  ·exact c
 refine wpList_plain hg3 fun K hK=> ?_
 unfold Oper.wp
 simp [execOp,ho3,Result.andThen]
 refine hK _ _ ?_
 rw [hd3]
 have hvt:a.eval (.tmp tm)= .map (some (m b).1):=hv
 rw [hvt]
 refine wpList_plain hg4 fun K2 hK2=> ?_
 unfold Oper.wp
 have F:(a.put (some l) (.map (some (m b).1))).eval (.tmp l)= .map (some (m b).1):=bT a l _ (by rw [G.size];exact ht1)
 simp [execOp,ho4,F,run_range_map w ty kt et (m b).1 es clk hund V,Result.andThen]
 refine hK2 _ _ ?_
 rw [hd4]
 show (Code.block _ _).wp P Q _ _
 have z:FR ap (st s0).env (st s0).hp [] nt m S w ((a.put (some l) (.map (some (m b).1))).put (some d) (.pointer (some ⟨w.heap.size,0,none⟩))):=by
  have c:=G.drop (env':=(st s0).env) (hp':=(st s0).hp) (fun x C F=>(hsub x C F).1) hcl fun t=>(henv t).imp (fun h=>h) fun h=> ⟨h.2.2.1,h.2.2.2⟩
  have g1:(st s0).env.get l= .dead:=(henv l).elim (fun h=>h) fun h=>absurd rfl h.1
  have g2:(st s0).env.get d= .dead:=(henv d).elim (fun h=>h) fun h=>absurd rfl h.2.1
  exact (c.dead g1 _).dead g2 _
 have hFe:FR ap (eG d p ok (.pointer (some ⟨w.heap.size,0,none⟩)) (st s0).env) (st s0).hp [] nt m S w ((a.put (some l) (.map (some (m b).1))).put (some d) (.pointer (some ⟨w.heap.size,0,none⟩))):=by
  refine ⟨z.srel,fun t=> ?_,z.dfs,z.size⟩
  simp only [eG,dF.get,ai]
  by_cases D:d=t
  ·subst D
   rw [Nat.beq_refl]
   simp only [Option.getD_some,VR,PR]
   exact bT _ d _ (by rw [aA,G.size];exact hit)
  ·rw [jS D]
   by_cases I:ok=t
   ·subst I;rw [Nat.beq_refl];simp [VR]
   ·rw [jS I]
    by_cases e3:p=t
    ·subst e3;rw [Nat.beq_refl];simp [VR]
    ·rw [jS e3];exact z.env t
 have R:=(A.drop (hp':=(st s0).hp) (fun x C F=>(hsub x C F).1) hb2).push (o:= .mapIter (some (m b).1) clk #[] clk) (fun _ _ h=>by cases h)
 have hF2:=hFe.push (.mapIter (some (m b).1) clk #[] clk)
 have hbl:(m b).1<w.heap.size:=(Array.getElem?_eq_some_iff.1 V).1
 have hk:∀ k,k<w.heap.size→(w.alloc (.mapIter (some (m b).1) clk #[] clk)).heap[k]? =w.heap[k]? :=fun k hk=>by
  simp only [World.alloc,Array.getElem?_push]
  rw [if_neg (Nat.ne_of_lt hk)]
 refine wp_block (wp_loop_rounds (ni n []+1) ?_)
 refine C9 (h0:=h0) (m0:=m0) (S0:=S0) (w0:=w0) (r:=w.heap.size) (bm:=(m b).1) (clk:=clk) (es:=es) (st:=st) (Inv:=Inv) (ks:=ks) (vs:=vs) (PostX:=PostX) ho1 hd1 hg1 ho2 hd2 hg2 htn hok hne htk (fun done s i k v=>hrest _ done s i k v) A.size hsz hwf ?_ ?_ (ni n []) [] s0 hI0 (fun i hi=>by cases hi) (Nat.le_refl _) m S _ _ clk R hF2 ?_ (Nat.le_refl _) ?_ ?_ hu.1 hu.2
 ·intro done N Z O m' S' w' a' c u
  have:=hQ _ _ (hend _ done N Z O) m' S' w' a' c u
  simpa [vk,Exit.inBlock] using this
 ·intro e s' J hp'
  obtain ⟨c,u⟩:=hX e s' J hp'
  intro m' S' w' a' h3 h4
  have:=hQ _ _ u m' S' w' a' h3 h4
  cases e with
  |normal=>exact absurd rfl J
  |exit q=>simpa [vk,Exit.inBlock,show q ≠ id from fun e=>c (by rw [e])] using this
  |ret=>exact this
  |panic q=>exact this
 ·simp only [World.alloc,Array.getElem?_push,if_true]
  rfl
 ·rw [hk _ hbl];exact V
 ·intro x C F D
  obtain ⟨c,u⟩:=hsub x C F
  exact u (G.srel.inj x b C B c hB D)
end
end AM
namespace AM
open Go
section
variable {P:Program} {ap:AP} {nt:Nat}
structure Po (g:bD) (m:aF) (S:ay) (w:World) (k:Nat):Prop where
 lt:k<w.heap.size
 blk:∀ b B,g b=some B→(m b).1 ≠ k
 clr:∀ o,S k o=none
theorem aV.other {g:bD} {m:aF} {S:ay} {w w':World} (h:aV ap g m S w) (j:∀ k,k<w.heap.size→w'.heap[k]? =w.heap[k]? ∨Po g m S w k):aV ap g m S w':=by
 refine ⟨h.inj,fun b B f=> ?_,fun k o v d=> ?_,h.own,h.glob⟩
 ·have c:=h.lt f
  obtain ⟨⟨cur,e,vs,rest,a,n⟩,q,p⟩:=h.blk b B f
  refine ⟨⟨cur,e,vs,rest, ?_,n⟩,q,p⟩
  rcases j _ c with hs|hs
  ·rcases a with ⟨i,a⟩|⟨i,es,clk,a,l⟩
   ·exact .inl ⟨i,by rw [hs];exact a⟩
   ·exact .inr ⟨i,es,clk,by rw [hs];exact a,l⟩
  ·exact absurd rfl (hs.blk b B f)
 ·have a:=h.sealed k o v d
  have c:=h.seal_lt d
  rcases j k c with hs|hs
  ·unfold bK at a ⊢
   simp only [World.cell?] at a ⊢
   rw [hs]
   exact a
  ·rw [hs.clr o] at d;cases d
theorem FR.other {env:dF} {hp:Hp} {dfs:List (Nat × List AV)} {m:aF} {S:ay} {w w':World} {a:Act} (h:FR ap env hp dfs nt m S w a) (b:∀ k,k<w.heap.size→w'.heap[k]? =w.heap[k]? ∨Po (ai hp) m S w k):FR ap env hp dfs nt m S w' a:=⟨h.srel.other b,h.env,h.dfs,h.size⟩
theorem Fr.other {d g:bD} {m0 m:aF} {S0 S:ay} {w0 w w':World} (h:Fr d m0 S0 w0 g m S w) (hs:w.heap.size≤w'.heap.size) (j:w'.os=w.os) (l:w'.tape=w.tape) (n:w'.output=w.output) (i:∀ k,k<w0.heap.size→w'.heap[k]? =w.heap[k]?) (hm:∀ b B,g b=some B→w'.heap[(m b).1]? =w.heap[(m b).1]?):Fr d m0 S0 w0 g m S w':=
 ⟨h.ge,h.sle,j.trans h.os,l.trans h.tape,n.trans h.output,Nat.le_trans h.size hs,fun k a f=>(i k a).trans (h.rest k a f),h.img,h.sealN,fun b B e es clk c=>by rw [hm b B e] at c;exact h.mw b B e es clk c⟩
end
end AM
namespace AM
open Go
open Go.ChangeMaps (setBlock)
section
variable {P:Program} {ap:AP} {h0:List aJ} {nt:Nat}
def lV (S:ay) (k:Nat) (us:List Value):ay:=fun k' o=>if k'=k then us[o]? else S k' o
theorem MZ {env:dF} {hp:Hp} {m0 m:aF} {S0 S:ay} {w0 w:World} {a:Act} {k:Nat} {cur:Array Value} {e:TypeId} {us:List Value} (c:Fr (aC h0) m0 S0 w0 (ai hp) m S w) (h:FR ap env hp [] nt m S w a)
  (ho:Po (ai hp) m S w k) (hk0:w0.heap.size≤k) (hk:w.heap[k]? =some (.cells cur e (0,0))) (hc:cur.toList.take us.length=us) (h1:∀ u ∈ us,u.oneCell'=true):
  gy S (lV S k us)∧Fr (aC h0) m0 S0 w0 (ai hp) m (lV S k us) w∧FR ap env hp [] nt m (lV S k us) w a∧gz (lV S k us) k 0 us:=by
 have f:gy S (lV S k us):=fun l o v d=>by
  unfold lV
  split
  ·rename_i i;subst i;rw [ho.clr] at d;cases d
  ·exact d
 have p:aV ap (ai hp) m (lV S k us) w:=by
  refine ⟨h.srel.inj,fun b B n=>(h.srel.blk b B n).mono f (Ge.refl _ _) rfl,fun l o v d=> ?_,fun b B n o v d=> ?_,fun q y A=> ?_⟩
  ·unfold lV at d
   split at d
   ·rename_i i
    subst i
    refine mg ?_ (h1 v (List.mem_of_getElem? d))
    rw [iq hk]
    rw [← hc,List.getElem?_take] at d
    split at d
    ·exact d
    ·cases d
   ·exact h.srel.sealed l o v d
  ·unfold lV at d
   split at d
   ·rename_i i;exact absurd i (ho.blk b B n)
   ·exact h.srel.own b B n o v d
  ·obtain ⟨vs,k1,k2⟩:=h.srel.glob q y A
   exact ⟨vs,aP f _ k1,k2.mono f⟩
 refine ⟨f,⟨c.ge,c.sle.trans f,c.os,c.tape,c.output,c.size,c.rest,c.img,fun l o v d=> ?_,c.mw⟩,⟨p,fun t=>jb f (Ge.refl _ _) _ (h.env t), ?_,h.size⟩,fun j u s=> ⟨by simpa [lV] using s,h1 u (List.mem_of_getElem? s)⟩⟩
 ·unfold lV at d
  split at d
  ·rename_i i;subst i;exact .inr (.inl hk0)
  ·exact c.sealN l o v d
 ·have:=h.dfs
  cases z:a.defers with
  |nil=>simp [dJ]
  |cons x r=>rw [z] at this;simp [dJ] at this
theorem Py {env:dF} {hp:Hp} {m0 m:aF} {S0 S:ay} {w0 w:World} {a:Act} (b:Nat) (B:aJ) {k c:Nat} (i:Fr (aC h0) m0 S0 w0 (ai hp) m S w) (l:FR ap env hp [] nt m S w a)
  (hb:ai hp b=none) (ho:Po (ai hp) m S w k) (hk0:w0.heap.size≤k) (hfro:B.fro=false) (hfz:B.fz=0) (hwf:∀ es clk,w.heap[k]? =some (Obj.map es clk)→qo es clk)
  (hrow:∃ cur e vs rest,eP w k B.esz cur e∧cur.toList=vs++rest∧(B.pr=true→aZ S B.cells vs)∧aO (ai hp) m S B.cells vs∧(B.esz ≠ dw→∀ u ∈ vs,u.oneCell'=true)∧(0<B.esz→B.esz ≠ dw→cur.size=c*B.esz∧c≤maxLen)):
  ∃ m',(∀ x,x ≠ b→m' x=m x)∧m' b=(k,c)∧Fr (aC h0) m0 S0 w0 (ai ((b,B)::hp)) m' S w∧FR ap env ((b,B)::hp) [] nt m' S w a:=by
 refine ⟨fun x=>if x=b then (k,c) else m x,fun x d=>by simp [d],by simp, ?_⟩
 have n:∀ x C,ai ((b,B)::hp) x=some C→(x=b∧C=B)∨(x ≠ b∧ai hp x=some C):=fun x C h=>by
  by_cases e:x=b
  ·subst e;simp [ai] at h;exact .inl ⟨rfl,h.symm⟩
  ·simp [ai,jS (fun h=>e h.symm:b ≠ x)] at h;exact .inr ⟨e,h⟩
 have j:Ge (ai hp) m (ai ((b,B)::hp)) (fun x=>if x=b then (k,c) else m x):=fun x C d=>by
  have e:x ≠ b:=fun e=>by subst e;rw [hb] at d;cases d
  exact ⟨C,by simp [ai,jS (fun h=>e h.symm:b ≠ x),d],rfl,.inl ⟨rfl,by simp [e]⟩⟩
 have I:aV ap (ai ((b,B)::hp)) (fun x=>if x=b then (k,c) else m x) S w:=by
  refine ⟨fun x y C D d J p=> ?_,fun x C d=> ?_,l.srel.sealed,fun x C d o v A=> ?_,l.srel.glob⟩
  ·rcases n x C d with ⟨E,_⟩|⟨f,q⟩<;>rcases n y D J with ⟨F,_⟩|⟨z,s⟩
   ·rw [E,F]
   ·simp [E,z] at p;exact absurd p.symm (ho.blk y D s)
   ·simp [F,f] at p;exact absurd p (ho.blk x C q)
   ·simp [f,z] at p;exact l.srel.inj x y C D q s p
  ·rcases n x C d with ⟨rfl,rfl⟩|⟨f,d⟩
   ·simp only [if_true]
    obtain ⟨cur,e,vs,rest,k1,k2,k3,k4,k5,k6⟩:=hrow
    exact ⟨⟨cur,e,vs,rest,k1,k2,k3,fU (gy.refl S) j _ k4,k5,k6⟩,fun _=>hfz,by rw [hfz];exact Nat.zero_le _⟩
   ·simp only [if_neg f]
    exact (l.srel.blk x C d).mono (gy.refl S) j rfl
  ·rcases n x C d with ⟨rfl,rfl⟩|⟨f,d⟩
   ·simp only [if_true] at A
    rw [ho.clr] at A;cases A
   ·simp only [if_neg f] at A
    exact l.srel.own x C d o v A
 refine ⟨⟨i.ge.trans j,i.sle,i.os,i.tape,i.output,i.size,i.rest,fun x C d=> ?_,i.sealN,fun x C d es clk G=> ?_⟩,⟨I,fun t=>jb (gy.refl S) j _ (l.env t), ?_,l.size⟩⟩
 ·rcases n x C d with ⟨rfl,rfl⟩|⟨f,d⟩
  ·exact .inl (by simpa using hk0)
  ·simp only [if_neg f]
   exact i.img x C d
 ·rcases n x C d with ⟨rfl,rfl⟩|⟨f,d⟩
  ·simp only [if_true] at G ⊢
   exact .inr ⟨hk0,hwf es clk G⟩
  ·simp only [if_neg f] at G ⊢
   exact i.mw x C d es clk G
 ·have:=l.dfs
  cases K:a.defers with
  |nil=>simp [dJ]
  |cons x r=>rw [K] at this;simp [dJ] at this
theorem FR.say {env:dF} {hp:Hp} {dfs:List (Nat × List AV)} {m:aF} {S:ay} {w:World} {a:Act} {t:Nat} {x:AV} (h:FR ap env hp dfs nt m S w a) (b:VR (ai hp) m S x (a.tmps.getD t undef)):FR ap ((t,x)::env) hp dfs nt m S w a:=by
 refine ⟨h.srel,fun u=> ?_,h.dfs,h.size⟩
 by_cases e:u=t
 ·subst e;simpa [dF.get,ai] using b
 ·simpa [dF.get,ai,jS (fun h=>e h.symm:t ≠ u)] using h.env u
theorem Ew {l f ok id j i0 n b ver tm T:Nat} {ty kt et:TypeId} {o1 o2 o3 o4:Oper} {REST:Code} {ks vs:List AV} {B:aJ} {env:dF} {hp hp0:Hp} {env0:dF} {J:List Nat→World→Prop}
  (ho3:o3.op= .move (.tmp tm)) (hd3:o3.dst=some T) (hg3:o3.guard=none) (ho4:o4.op= .range ty (.tmp T)) (hd4:o4.dst=some l) (hg4:o4.guard=none)
  (ho1:o1.op= .next (.tmp l) false) (hd1:o1.dst=some f) (hg1:o1.guard=none) (ho2:o2.op= .extract (.tmp f) 0) (hd2:o2.dst=some ok) (hg2:o2.guard=none)
  (hit:l<nt) (htn:f<nt) (hok:ok<nt) (ht1:T<nt) (hne:l ≠ f∧l ≠ ok) (htk:f ≠ ok)
  (hund:P.underlying ty=some (.map kt et)) (hm:env.get tm= .mr b ver) (hB:ai hp b=some B) (hver:B.ver=ver) (hz:B.esz=dw) (hcells:B.cells= [.agg ks,.agg vs]) (hpr:B.pr=true) (hbase:aC h0 b=none) (hlen:ks.length=n)
  (hsub:∀ x C,ai hp0 x=some C→ai hp x=some C∧x ≠ b) (hcl:∀ x C,ai hp0 x=some C→∀ y ∈ a_ C.cells,ai hp0 y=ai hp y)
  (henv:∀ t,env0.get t= .dead∨(t ≠ T∧t ≠ l∧env0.get t=env.get t∧∀ y ∈ bU (env0.get t),ai hp0 y=ai hp y))
  (I:∀ x B0 C,aC h0 x=some B0→ai hp x=some C→ai hp0 x=some C)
  {m0 m:aF} {S0 S:ay} {w0 w:World} {a:Act} (p:Fr (aC h0) m0 S0 w0 (ai hp) m S w) (A:FR ap env hp [] nt m S w a)
  (hJ0:∀ w',(∀ k,k<w.heap.size→w'.heap[k]? =w.heap[k]?)→w'.heap.size=w.heap.size+1→w'.os=w.os→w'.tape=w.tape→w'.output=w.output→J [] w') (hJi:∀ done (c w':World) (r:Nat) mm si se ci,J done c→c.heap[r]? =some (Obj.mapIter mm si se ci)→r=w.heap.size→(∀ k,k ≠ r→w'.heap[k]? =c.heap[k]?)→w'.heap.size=c.heap.size→w'.os=c.os→w'.tape=c.tape→w'.output=c.output→J done w')
  (Q:Exit→Act→World→Prop)
  (hrest:∀ (r bm:Nat) done i k v (c:World) a es clk (it0:Obj),r=w.heap.size→J done c→i<n→i ∉ done→ks[i]? =some k→vs[i]? =some v→Fr (aC h0) m0 S0 w0 (ai hp0) m S c→FR ap (eG l f ok (.pointer (some ⟨r,0,none⟩)) env0) hp0 [] nt m S c a→
   c.heap[r]? =some it0→(∀ cs e fr,it0 ≠ .cells cs e fr)→(∀ es clk,it0 ≠ .map es clk)→c.heap[bm]? =some (.map es clk)→bm=(m b).1→
   (∃ kv vv,(Instr.entry (.pointer (some ⟨r,0,none⟩))).run P c= .ok (.tuple #[kv,vv]) c∧PR S k kv∧PR S v vv)→
   ∀ K:Exit→Act→World→Prop,(∀ w' a',J (i::done) w'→Fr (aC h0) m0 S0 w0 (ai hp0) m S w'→FR ap (eG l f ok (.pointer (some ⟨r,0,none⟩)) env0) hp0 [] nt m S w' a'→w'.heap[r]? =c.heap[r]? →w'.heap[bm]? =c.heap[bm]? →K .normal a' w')→REST.wp P K a c)
  (hend:∀ (r:Nat) done (w:World) a,J done w→(∀ i,i<n→i ∈ done)→Fr (aC h0) m0 S0 w0 (ai hp0) m S w→FR ap (eG l f ok (.pointer (some ⟨r,0,none⟩)) env0) hp0 [] nt m S w a→Q .normal a w):
  (Code.seq (.region i0 #[o3,o4] false) (.block id (.loop (.seq (.region j #[o1,o2] false) (.seq (.cond (.tmp ok) .skip (.exit id)) REST))))).wp P Q a w:=by
 refine wp_seq (wp_region_list ?_)
 have hmv:=A.env tm
 rw [hm] at hmv
 simp only [VR] at hmv
 obtain ⟨B',hB',_,_,hv⟩:=hmv
 rw [hB] at hB';cases hB'
 have hv:=hv hver
 obtain ⟨⟨cur,e,us,rest,hrow,E,hp',_⟩,_,_⟩:=A.srel.blk b B hB
 have hp':=hp' hpr
 rw [hcells] at hp'
 have hmap:∃ es clk,w.heap[(m b).1]? =some (.map es clk)∧cur=iC es:=by
  rcases hrow with ⟨s,_⟩|⟨_,es,clk,s,h2⟩
  ·exact absurd hz s
  ·exact ⟨es,clk,s,h2⟩
 obtain ⟨es,clk,L,rfl⟩:=hmap
 have hu:aZ S ks (es.toList.map (·.key))∧aZ S vs (es.toList.map (·.val)):=by
  match us,hp',E with
  | [u1,u2],hp,E=>
   simp only [aZ,PR] at hp
   obtain ⟨⟨kk,rfl,s⟩,⟨vv,rfl,h2⟩,_⟩:=hp
   simp only [iC,List.cons_append,List.nil_append,List.cons.injEq,Value.agg.injEq] at E
   obtain ⟨F,e2,_⟩:=E
   have F:es.toList.map (·.key)=kk:=by rw [← Array.toList_map,F]
   have e2:es.toList.map (·.val)=vv:=by rw [← Array.toList_map,e2]
   rw [F,e2];exact ⟨s,h2⟩
  | [],hp,_=>simp [aZ] at hp
  | [_],hp,_=>simp [aZ] at hp
  |_::_::_::_,hp,_=>simp [aZ] at hp
 have hsz:es.size=n:=by
  have:=iP hu.1
  rw [← hlen,this];simp
 have hge:w0.heap.size≤(m b).1:=by
  rcases p.img b B hB with s|⟨B0,s,_⟩
  ·exact s
  ·rw [hbase] at s;cases s
 have hwf:qo es clk:=by
  rcases p.mw b B hB _ _ L with ⟨es0,clk0,s,_⟩|⟨_,s⟩
  ·have:=(Array.getElem?_eq_some_iff.1 s).1;omega
  ·exact s
 refine wpList_plain hg3 fun K hK=> ?_
 unfold Oper.wp
 simp [execOp,ho3,Result.andThen]
 refine hK _ _ ?_
 rw [hd3]
 have hvt:a.eval (.tmp tm)= .map (some (m b).1):=hv
 rw [hvt]
 refine wpList_plain hg4 fun K2 U=> ?_
 unfold Oper.wp
 have R:(a.put (some T) (.map (some (m b).1))).eval (.tmp T)= .map (some (m b).1):=bT a T _ (by rw [A.size];exact ht1)
 simp [execOp,ho4,R,run_range_map w ty kt et (m b).1 es clk hund L,Result.andThen]
 refine U _ _ ?_
 rw [hd4]
 show (Code.block _ _).wp P Q _ _
 have hFd:FR ap env0 hp0 [] nt m S w ((a.put (some T) (.map (some (m b).1))).put (some l) (.pointer (some ⟨w.heap.size,0,none⟩))):=by
  have s:=A.drop (env':=env0) (hp':=hp0) (fun x C R=>(hsub x C R).1) hcl fun t=>(henv t).imp (fun h=>h) fun h=> ⟨h.2.2.1,h.2.2.2⟩
  have g1:env0.get T= .dead:=(henv T).elim (fun h=>h) fun h=>absurd rfl h.1
  have g2:env0.get l= .dead:=(henv l).elim (fun h=>h) fun h=>absurd rfl h.2.1
  exact (s.dead g1 _).dead g2 _
 have hFe:FR ap (eG l f ok (.pointer (some ⟨w.heap.size,0,none⟩)) env0) hp0 [] nt m S w ((a.put (some T) (.map (some (m b).1))).put (some l) (.pointer (some ⟨w.heap.size,0,none⟩))):=by
  refine ⟨hFd.srel,fun t=> ?_,hFd.dfs,hFd.size⟩
  simp only [eG,dF.get,ai]
  by_cases F:l=t
  ·subst F
   rw [Nat.beq_refl]
   simp only [Option.getD_some,VR,PR]
   exact bT _ l _ (by rw [aA,A.size];exact hit)
  ·rw [jS F]
   by_cases e2:ok=t
   ·subst e2;rw [Nat.beq_refl];simp [VR]
   ·rw [jS e2]
    by_cases e3:f=t
    ·subst e3;rw [Nat.beq_refl];simp [VR]
    ·rw [jS e3];exact hFd.env t
 have hfr2:=(p.drop (hp':=hp0) (fun x C R=>(hsub x C R).1) I).push (o:= .mapIter (some (m b).1) clk #[] clk) (fun _ _ h=>by cases h)
 have N:=hFe.push (.mapIter (some (m b).1) clk #[] clk)
 have hbl:(m b).1<w.heap.size:=(Array.getElem?_eq_some_iff.1 L).1
 have hk:∀ k,k<w.heap.size→(w.alloc (.mapIter (some (m b).1) clk #[] clk)).heap[k]? =w.heap[k]? :=fun k hk=>by
  simp only [World.alloc,Array.getElem?_push]
  rw [if_neg (Nat.ne_of_lt hk)]
 have hnew:(w.alloc (.mapIter (some (m b).1) clk #[] clk)).heap[w.heap.size]? =some (.mapIter (some (m b).1) clk (bZ es []) clk):=by
  simp only [World.alloc,Array.getElem?_push,if_true]
  rfl
 have hJ1:=hJ0 (w.alloc (.mapIter (some (m b).1) clk #[] clk)) hk (by simp) rfl rfl rfl
 have hb1:=(hk _ hbl).trans L
 have hoff:∀ x C,ai hp0 x=some C→(m x).1 ≠ (m b).1:=fun x C R F=>by
  obtain ⟨s,h2⟩:=hsub x C R
  exact h2 (A.srel.inj x b C B s hB F)
 refine wp_block (wp_loop_rounds (ni n []+1) ?_)
 generalize M:w.heap.size=r at*
 have hr0:w0.heap.size≤r:=by rw [← M];exact p.size
 generalize w.alloc (.mapIter (some (m b).1) clk #[] clk)=c at*
 generalize (a.put (some T) (.map (some (m b).1))).put (some l) (.pointer (some ⟨r,0,none⟩))=a1 at*
 clear p A hJ0 hFd hFe hv hvt R hk M
 have key:∀ (K:Act→World→Prop) (done:List Nat),(∀ i ∈ done,i<n)→∀ (w:World) (a:Act) (W:Nat),J done w→
   Fr (aC h0) m0 S0 w0 (ai hp0) m S w→FR ap (eG l f ok (.pointer (some ⟨r,0,none⟩)) env0) hp0 [] nt m S w a→
   w.heap[r]? =some (.mapIter (some (m b).1) clk (bZ es done) W)→clk≤W→w.heap[(m b).1]? =some (.map es clk)→
   (∀ i,i<n→i ∉ done→∀ w' a',J (i::done) w'→Fr (aC h0) m0 S0 w0 (ai hp0) m S w'→FR ap (eG l f ok (.pointer (some ⟨r,0,none⟩)) env0) hp0 [] nt m S w' a'→
    w'.heap[r]? =some (.mapIter (some (m b).1) clk (bZ es (i::done)) clk)→w'.heap[(m b).1]? =some (.map es clk)→K a' w')→
   (Code.seq (.region j #[o1,o2] false) (.seq (.cond (.tmp ok) .skip (.exit id)) REST)).wp P (Exit.then K (Exit.inBlock id Q)) a w:=by
  intro K done hd w a W hJ p A M hc L hK
  have hpt:a.eval (.tmp l)= .pointer (some ⟨r,0,none⟩):=by
   have:=A.env l
   simp only [eG,dF.get,ai,Nat.beq_refl,Option.getD_some,VR,PR] at this
   exact this
  have hold:∀ x ∈ es.toList,x.born<clk:=hwf.2
  refine wp_seq (wp_region_list ?_)
  refine wpList_plain hg1 fun K1 hK1=> ?_
  unfold Oper.wp
  have G:∀ d,d=f∨d=ok→(eG l f ok (.pointer (some ⟨r,0,none⟩)) env0).get d= .dead:=by
   rintro d (rfl|rfl)
   ·have F:Nat.beq l d=false:=jS hne.1
    have e2:Nat.beq ok d=false:=jS fun e=>htk e.symm
    simp [eG,dF.get,ai,F,e2]
   ·have F:Nat.beq l d=false:=jS hne.2
    simp [eG,dF.get,ai,F]
  rcases run_next_at (P:=P) w o1.type r (m b).1 clk W (bZ es done) es clk M L hold hc with ⟨hz,Z⟩|⟨e,he,c,hw1,Z⟩
  ·simp [execOp,ho1,hpt,Z,Result.andThen]
   refine hK1 _ _ ?_
   rw [hd1]
   refine wpList_plain hg2 fun K2 U=> ?_
   unfold Oper.wp
   have R:(a.put (some f) (.tuple #[.bool false])).eval (.tmp f)= .tuple #[.bool false]:=bT a f _ (by rw [A.size];exact htn)
   simp [execOp,ho2,R,Instr.extract,Result.andThen]
   refine U _ _ ?_
   rw [hd2]
   have N:=(A.dead (G f (.inl rfl)) (.tuple #[.bool false])).dead (G ok (.inr rfl)) (.bool false)
   have I:((a.put (some f) (.tuple #[.bool false])).put (some ok) (.bool false)).eval (.tmp ok)= .bool false:=bT _ ok _ (by rw [aA,A.size];exact hok)
   refine wp_seq (wp_cond_false I (wp_exit ?_))
   have:=hend r done w _ hJ (fun i X=>A7 hwf (fun q hq=>by rw [hsz];exact hd q hq) hz i (by rw [hsz];exact X)) p N
   simpa [Exit.then,Exit.inBlock] using this
  ·simp [execOp,ho1,hpt,Z,Result.andThen]
   refine hK1 _ _ ?_
   rw [hd1]
   refine wpList_plain hg2 fun K2 U=> ?_
   unfold Oper.wp
   have R:(a.put (some f) (.tuple #[.bool true,e.key,e.val])).eval (.tmp f)= .tuple #[.bool true,e.key,e.val]:=bT a f _ (by rw [A.size];exact htn)
   simp [execOp,ho2,R,Instr.extract,Result.andThen]
   refine U _ _ ?_
   rw [hd2]
   have N:=(A.dead (G f (.inl rfl)) (.tuple #[.bool true,e.key,e.val])).dead (G ok (.inr rfl)) (.bool true)
   have I:((a.put (some f) (.tuple #[.bool true,e.key,e.val])).put (some ok) (.bool true)).eval (.tmp ok)= .bool true:=bT _ ok _ (by rw [aA,A.size];exact hok)
   refine wp_seq (wp_cond_true I (wp_skip ?_))
   generalize (a.put (some f) (.tuple #[.bool true,e.key,e.val])).put (some ok) (.bool true)=a2 at N I
   obtain ⟨i,Y,O⟩:=Eh he
   have X:i<n:=by
    have:=(List.getElem?_eq_some_iff.1 Y).1
    rw [← hsz];simpa using this
   have hborn:uh es i=e.born:=oW Y
   have z:c.heap=w.heap∧c.os=w.os∧c.tape=w.tape∧c.output=w.output:=by rcases hw1 with rfl|rfl<;>exact ⟨rfl,rfl,rfl,rfl⟩
   have hrlt:r<w.heap.size:=(Array.getElem?_eq_some_iff.1 M).1
   have V:(setBlock c r (Obj.mapIter (some (m b).1) clk ((bZ es done).push e.born) clk)).heap[r]? =some (.mapIter (some (m b).1) clk ((bZ es done).push e.born) clk):=by simp [setBlock,z.1,hrlt]
   have hk':∀ k,k ≠ r→(setBlock c r (Obj.mapIter (some (m b).1) clk ((bZ es done).push e.born) clk)).heap[k]? =w.heap[k]? :=fun k hk0=>by
    simp only [setBlock,z.1]
    rw [Array.getElem?_setIfInBounds_ne (fun h=>hk0 h.symm)]
   have hsz':(setBlock c r (Obj.mapIter (some (m b).1) clk ((bZ es done).push e.born) clk)).heap.size=w.heap.size:=by simp [setBlock,z.1]
   have hF3:=N.iter M V hk'
   have hfr3:=p.iter hr0 M V hk' hsz' z.2.1 z.2.2.1 z.2.2.2
   have hJ3:=hJi done w _ r _ _ _ _ hJ M rfl hk' hsz' z.2.1 z.2.2.1 z.2.2.2
   have hbr:(m b).1 ≠ r:=by intro F;rw [F,M] at L;cases L
   have hb3:=(hk' _ hbr).trans L
   generalize setBlock c r (Obj.mapIter (some (m b).1) clk ((bZ es done).push e.born) clk)=w2 at*
   have hent:=run_entry_at (P:=P) w2 r (m b).1 clk (bZ es done) es clk e V hb3 (List.mem_of_getElem? Y) hwf.1
   obtain ⟨k,hk1,hk2⟩:=xx (i:=i) hu.1 (u:=e.key) (by rw [List.getElem?_map,Y];rfl)
   obtain ⟨v,hv1,hv2⟩:=xx (i:=i) hu.2 (u:=e.val) (by rw [List.getElem?_map,Y];rfl)
   refine hrest r (m b).1 done i k v w2 a2 es clk _ rfl hJ3 X O hk1 hv1 hfr3 hF3 V (fun _ _ _ h=>by cases h) (fun _ _ h=>by cases h) hb3 rfl ⟨_,_,hent,hk2,hv2⟩ _ ?_
   intro w' a' hJ' hfr' hF' s h2
   refine hK i X O w' a' hJ' hfr' hF' ?_ (h2.trans hb3)
   rw [s,V,← hborn,wE]
 have main:∀ (D:Nat) (done:List Nat),(∀ i ∈ done,i<n)→ni n done≤D→∀ (w:World) (a:Act) (W:Nat),J done w→
   Fr (aC h0) m0 S0 w0 (ai hp0) m S w→FR ap (eG l f ok (.pointer (some ⟨r,0,none⟩)) env0) hp0 [] nt m S w a→
   w.heap[r]? =some (.mapIter (some (m b).1) clk (bZ es done) W)→clk≤W→w.heap[(m b).1]? =some (.map es clk)→
   Code.rounds P (.seq (.region j #[o1,o2] false) (.seq (.cond (.tmp ok) .skip (.exit id)) REST)) (Exit.inBlock id Q) (D+1) a w:=by
  intro D
  induction D with
  | zero=>
   intro done hd hu w a W hJ p A M hc L
   exact key _ done hd w a W hJ p A M hc L fun i X O _ _ _ _ _ _ _=>by
    have:=p_ X O
    omega
  | succ D ih=>
   intro done hd hu w a W hJ p A M hc L
   exact key _ done hd w a W hJ p A M hc L fun i X O w' a' s h2 h3 h4 h5=>
    ih (i::done) (fun q hq=>by
     rcases List.mem_cons.1 hq with rfl|hq
     ·exact X
     ·exact hd q hq) (by have:=p_ X O;omega) w' a' clk s h2 h3 h4 (Nat.le_refl _) h5
 exact main (ni n []) [] (fun i X=>by cases X) (Nat.le_refl _) c a1 clk hJ1 hfr2 N hnew (Nat.le_refl _) hb1
end
end AM
namespace AM
open Go
open Go.ChangeMaps (setBlock)
section
variable {P:Program} {ap:AP} {g:bD} {m:aF} {S:ay} {w:World}
theorem DD:∀ l:List Value,aO g m S (l.map fun _=>AV.dead) l
 | []=>by simp [aO]
 |_::r=>by simp only [List.map_cons,aO,VR,true_and];exact DD r
theorem qN (es:Array MapEntry) (j:Nat) (f:MapEntry→MapEntry):(es.modify j f).toList=es.toList.modify j f:=by simp [Array.toList_modify]
theorem Ep (l:List MapEntry) (j:Nat) (f:MapEntry→MapEntry) (a:∀ e,(f e).born=e.born):(l.modify j f).map (·.born)=l.map (·.born):=by
 apply List.ext_getElem?
 intro n
 simp only [List.getElem?_map,List.getElem?_modify]
 cases l[n]? with
 |none=>rfl
 |some e=>simp;split<;>simp [a]
theorem F9 (l:List MapEntry) (j:Nat) (v:Value):(l.modify j fun e=> {e with val:=v}).map (·.key)=l.map (·.key):=by
 apply List.ext_getElem?
 intro n
 simp only [List.getElem?_map,List.getElem?_modify]
 cases l[n]? with
 |none=>rfl
 |some e=>simp;split<;>simp
theorem IU (y:dn P ap) {t J K:Nat} {U C R:TI} {i N:TypeInfo} {z l:Value} {M:TypeDesc} (L:rE P t U i (.map J K) z) (q:ap.tyAt J=some C) (r:rE P K R N M l) {k:AV} {ck:Value} (G:fE C k=true) (O:VR g m S k ck)
  {b:Nat} {es:Array MapEntry} {clk:Nat} (hb:w.heap[b]? =some (.map es clk)) (hw:qo es clk) {ks:List AV} (hks:aO g m S ks (es.toList.map (·.key))) (hka:ks.all (fE C)=true):
  ∃ v0 st c a j,(Instr.mapEntry t (.map (some b)) ck).run P w= .ok (.tuple #[v0,goInt st]) (setBlock w b (.map c a))∧
   ((∃ e,es.toList[j]? =some e∧e.key=ck∧v0=e.val∧c=es∧a=clk)∨(ks.any (xZ k)=false∧c=es.push ⟨ck,l,clk⟩∧a=clk+1∧j=es.size∧v0=l))∧qo c a∧
   ∀ (h:World) (val:Value),h.heap[b]? =some (.map c a)→∃ es',(Instr.entryStore t (.map (some b)) (goInt st) val).run P h= .ok () (setBlock h b (.map es' a))∧es'.toList=(c.toList.modify j fun e=> {e with val:=val})∧qo es' a:=by
 obtain ⟨Z,dk,Y,d⟩:=bJ y q
 have f:=uB (w:=w) y q d G O
 have store:∀ (c:Array MapEntry) (a j:Nat) (B:MapEntry),qo c a→c.toList[j]? =some B→∀ (h:World) (val:Value),h.heap[b]? =some (.map c a)→
   ∃ es',(Instr.entryStore t (.map (some b)) (goInt B.born) val).run P h= .ok () (setBlock h b (.map es' a))∧es'.toList=(c.toList.modify j fun e=> {e with val:=val})∧qo es' a:=by
  intro c a j B o T h val p
  have u:c.findIdx? (fun e=>(e.born:Int)==(B.born:Int))=some j:=by
   rw [WideElems.findIdx_arr]
   exact WideElems.findIdx_born o.1 T
  refine ⟨c.modify j fun e=> {e with val:=val}, ?_,qN _ _ _, ?_⟩
  ·simp [Instr.entryStore,MapKept.run_getObj_map p,asInt,asIntOf,goInt,u,MapKept.run_setObj_map _ p,Result.andThen,setBlock]
  ·exact o.same (by rw [qN];exact Ep _ _ _ fun _=>rfl)
 rcases kL f (v:= .dead) (cv:= .nilFunc) (by simp only [VR]) es.toList ks (es.toList.map fun _=>AV.dead) 0 hks (by have:=DD (g:=g) (m:=m) (S:=S) (es.toList.map (·.val));rwa [List.map_map] at this) hka with ⟨I,X,Q,_⟩|⟨j,e,x,I,s,D,r4,_,W,_⟩
 ·have A:qo (es.push ⟨ck,l,clk⟩) (clk+1):=qo.push ck l hw
  refine ⟨l,clk,es.push ⟨ck,l,clk⟩,clk+1,es.size, ?_,.inr ⟨Q,rfl,rfl,rfl,rfl⟩,A, ?_⟩
  ·simp [Instr.mapEntry,run_underlying L.und,MapKept.run_getObj_map hb,f.chk,I.run d,zeroValue,typeInfo,r.info,r.zero,MapKept.run_setObj_map _ hb,Result.andThen,setBlock]
  ·exact store _ _ _ ⟨ck,l,clk⟩ A (by simp)
 ·have F:es[j]? =some e:=by simpa using s
  have hsame:es.modify j (fun e'=> {e' with key:=ck})=es:=by
   apply Array.ext'
   rw [qN]
   apply List.ext_getElem?
   intro n
   rw [List.getElem?_modify]
   by_cases hn:j=n
   ·subst hn
    rw [s]
    simp only [Option.map_some,if_true]
    rw [← D]
    rfl
   ·simp [hn]
  refine ⟨e.val,e.born,es,clk,j, ?_,.inl ⟨e,s,D,rfl,rfl,rfl⟩,hw,store _ _ _ e hw s⟩
  have V:es.toList[j]? =some e:=s
  have E:(Instr.keyThatStays e.key ck).run P w= .ok ck w:=by rw [D];exact f.stay
  simp [Instr.mapEntry,run_underlying L.und,MapKept.run_getObj_map hb,f.chk,I.run d,F,E,hsame,MapKept.run_setObj_map _ hb,Result.andThen,setBlock]
end
end AM
namespace AM
open Go
open Go.ChangeMaps (setBlock)
abbrev Cl:=Int × Int
def cC (c:Cl):List AV:= [.int .i64 c.1,.int .i64 c.2]
def cA (c:Cl):AV:= .agg (cC c)
def cU (c:Cl):List Value:= [.int .i64 c.1,.int .i64 c.2]
def cV (c:Cl):Value:= .agg (cU c).toArray
def cL (l:List Cl):List AV:=l.flatMap cC
def BO (l:List Cl):List Value:=l.flatMap cU
theorem RJ {c d:Cl} (h:cV c=cV d):c=d:=by
 have h:=Value.agg.inj h
 have h:=congrArg Array.toList h
 simp only [cU,List.toList_toArray,List.cons.injEq,Value.int.injEq,true_and,and_true] at h
 exact Prod.ext h.1 h.2
theorem Fv (c:Cl):∀ u ∈ cU c,u.oneCell'=true:=by
 intro u a
 simp only [cU,List.mem_cons,List.not_mem_nil,or_false] at a
 rcases a with rfl|rfl<;>rfl
theorem NW (l:List Cl):∀ u ∈ BO l,u.oneCell'=true:=by
 intro u a
 obtain ⟨c,_,h⟩:=List.mem_flatMap.1 a
 exact Fv c u h
theorem NV (l:List Cl):(BO l).length=l.length*2:=by
 unfold BO
 induction l with
 |nil=>rfl
 |cons c l ih=>simp only [List.flatMap_cons,List.length_append,ih,List.length_cons];simp [cU];omega
theorem Ff {S:ay} (c:Cl):aZ S (cC c) (cU c):=by simp [cC,cU,aZ,PR]
theorem JI {S:ay}:∀ l:List Cl,aZ S (cL l) (BO l)
 | []=>by simp [cL,BO,aZ]
 |c::l=>gu (Ff c) (JI l)
theorem JJ {S:ay} (c:Cl):PR S (cA c) (cV c):=by simp only [cA,cV,PR];exact ⟨cU c,rfl,Ff c⟩
theorem Ak {S:ay} {c:Cl} {v:Value} (h:PR S (cA c) v):v=cV c:=by
 simp only [cA,cC,PR] at h
 obtain ⟨vs,rfl,h⟩:=h
 match vs,h with
 | [a,b],h=>simp only [aZ,PR] at h;obtain ⟨rfl,rfl,_⟩:=h;rfl
 | [],h=>simp [aZ] at h
 | [_],h=>simp [aZ] at h
 |_::_::_::_,h=>simp [aZ] at h
theorem xy {S:ay}:∀ {l:List Cl} {us:List Value},aZ S (cL l) us→us=BO l
 | [],us,h=>by cases us with|nil=>rfl|cons _ _=>simp [cL,aZ] at h
 | c::l,us,h=>by
  have e:cL (c::l)= .int .i64 c.1::.int .i64 c.2::cL l:=rfl
  rw [e] at h
  match us,h with
  |a::b::us,h=>
   simp only [aZ,PR] at h
   obtain ⟨rfl,rfl,h⟩:=h
   rw [xy h];rfl
  | [],h=>simp [aZ] at h
  | [_],h=>simp [aZ] at h
abbrev Ut:=List (Cl × List Cl)
def bP:Ut→Cl→List Cl
 | [],_=> []
 |(x,l)::r,d=>if x=d then l else bP r d
def iI:Ut→Cl→Cl→Ut
 | [],d,c=> [(d,[c])]
 |(x,l)::r,d,c=>if x=d then (x,l++ [c])::r else (x,l)::iI r d c
theorem BA:∀ {U:Ut} {d:Cl},d ∉ U.map (·.1)→bP U d= []∧∀ c,iI U d c=U++ [(d,[c])]
 | [],_,_=> ⟨rfl,fun _=>rfl⟩
 |(x,l)::r,d,h=>by
  simp only [List.map_cons,List.mem_cons,not_or] at h
  obtain ⟨f,b⟩:=BA h.2
  have a:x ≠ d:=fun e=>h.1 e.symm
  exact ⟨by rw [bP,if_neg a,f],fun c=>by rw [iI,if_neg a,b];rfl⟩
theorem Ic:∀ {U:Ut} {j:Nat} {x:Cl × List Cl},(U.map (·.1)).Nodup→U[j]? =some x→bP U x.1=x.2∧∀ c,iI U x.1 c=U.set j (x.1,x.2++ [c])
 | [],_,_,_,h=>by simp at h
 |(y,l)::r,0,x,_,h=>by simp at h;subst h;exact ⟨by rw [bP,if_pos rfl],fun c=>by rw [iI,if_pos rfl];rfl⟩
 |(y,l)::r,j+1,x,hn,h=>by
  simp only [List.map_cons,List.nodup_cons] at hn
  simp only [List.getElem?_cons_succ] at h
  have a:y ≠ x.1:=fun e=>hn.1 (List.mem_map.2 ⟨x,List.mem_of_getElem? h,e.symm⟩)
  obtain ⟨d,b⟩:=Ic hn.2 h
  exact ⟨by rw [bP,if_neg a,d],fun c=>by rw [iI,if_neg a,b];rfl⟩
theorem Ap:∀ (U:Ut) (d c:Cl),(iI U d c).map (·.1)=if d ∈ U.map (·.1) then U.map (·.1) else U.map (·.1)++ [d]
 | [],d,c=>by simp [iI]
 | (x,l)::r,d,c=>by
  by_cases hx:x=d
  ·subst hx;simp [iI]
  ·have a:=Ap r d c
   rw [iI,if_neg hx,List.map_cons,a]
   have:d ≠ x:=fun e=>hx e.symm
   by_cases hd:d ∈ r.map (·.1)<;>simp [hd,this]
theorem Fh {U:Ut} {d c:Cl} (h:(U.map (·.1)).Nodup):((iI U d c).map (·.1)).Nodup:=by
 rw [Ap]
 split
 ·exact h
 ·rename_i j
  rw [List.nodup_append]
  exact ⟨h,by simp,fun a i b f e=>by simp at f;subst f;subst e;exact j i⟩
theorem tH:∀ (U:Ut) (d c y:Cl),bP (iI U d c) y=if y=d then bP U d++ [c] else bP U y
 | [],d,c,y=>by
  by_cases h:y=d
  ·subst h;simp [iI,bP]
  ·have a:d ≠ y:=fun e=>h e.symm
   simp [iI,bP,h,a]
 | (x,l)::r,d,c,y=>by
  by_cases hx:x=d
  ·subst hx
   by_cases h:y=x
   ·subst h;simp [iI,bP]
   ·have a:x ≠ y:=fun e=>h e.symm
    simp [iI,bP,h,a]
  ·have b:=tH r d c y
   rw [iI,if_neg hx]
   by_cases h:x=y
   ·subst h
    simp [bP,hx]
   ·rw [bP,if_neg h,b]
    by_cases h2:y=d
    ·subst h2;simp [bP,h]
    ·simp [bP,h2,h]
section
variable {P:Program} {ap:AP}
structure wS (w:World) (base:Nat) (e:TypeId) (um x:Nat) (U:Ut) (bnd:Nat):Prop where
 ex:∃ es clk,w.heap[um]? =some (.map es clk)∧qo es clk∧es.toList.map (·.key)=U.map (fun x=>cV x.1)∧
  (∀ (i:Nat) (x:Cl × List Cl) (en:MapEntry),U[i]? =some x→es.toList[i]? =some en→x.2.length≤bnd∧w.ownsRow base e 2 en.val x.2.length (BO x.2))∧
  (∀ (i j:Nat) (en en':MapEntry),es.toList[i]? =some en→es.toList[j]? =some en'→i ≠ j→en.val.ownBlock=none∨en.val.ownBlock ≠ en'.val.ownBlock)∧∀ en ∈ es.toList,en.val.ownBlock ≠ some x
 lt:um<base
 nd:(U.map (·.1)).Nodup
theorem wS.new {w:World} {base a clk x:Nat} {e:TypeId} (h:w.heap[a]? =some (.map #[] clk)) (b:a<base):wS w base e a x [] 0:=
 ⟨⟨#[],clk,h,⟨by simp,by simp⟩,rfl,fun i x en h=>by simp at h,fun i j en c h=>by simp at h,fun en h=>by simp at h⟩,b,by simp⟩
theorem wS.kept {w w':World} {base b x:Nat} {e:TypeId} {U:Ut} {a:Nat} (h:wS w base e b x U a) (d:w.grownBy w' none):wS w' base e b x U a:=by
 obtain ⟨⟨es,clk,c,f,q,k,o,p⟩,j,l⟩:=h
 refine ⟨⟨es,clk,(d.block b (Array.getElem?_eq_some_iff.1 c).1 (by simp)).trans c,f,q,fun i x en t s=> ?_,o,p⟩,j,l⟩
 obtain ⟨n,r⟩:=k i x en t s
 exact ⟨n,r.kept d (by cases en.val.ownBlock<;>simp)⟩
theorem wS.apart {w w':World} {base b x r:Nat} {e:TypeId} {U:Ut} {a:Nat} (h:wS w base e b x U a) (F:r<base) (c:b ≠ r) (j:∀ k,k ≠ r→w'.heap[k]? =w.heap[k]?):wS w' base e b x U a:=by
 obtain ⟨⟨es,clk,o,l,z,s,v,y⟩,p,t⟩:=h
 refine ⟨⟨es,clk,(j b c).trans o,l,z,fun i x en D C=> ?_,v,y⟩,p,t⟩
 obtain ⟨u,B,f⟩:=s i x en D C
 refine ⟨u,B, ?_⟩
 rcases f with f|⟨g,d,cur,q,E,n,A⟩
 ·exact .inl f
 ·exact .inr ⟨g,d,cur,q,E,(j g (by omega)).trans n,A⟩
theorem wS.new_x {w:World} {base k x y:Nat} {e:TypeId} {U:Ut} {b:Nat} (h:wS w base e k x U b) (t:w.heap.size≤y):wS w base e k y U b:=by
 obtain ⟨⟨es,clk,o,n,j,f,r,_⟩,p,q⟩:=h
 refine ⟨⟨es,clk,o,n,j,f,r,fun en c s=> ?_⟩,p,q⟩
 obtain ⟨i,l⟩:=List.getElem?_of_mem c
 have a:es.toList.length=U.length:=by have:=congrArg List.length j;simpa using this
 have d:i<U.length:=by rw [← a];exact (List.getElem?_eq_some_iff.1 l).1
 have:=(f i U[i] en (List.getElem?_eq_getElem d) l).2.lt _ s
 omega
theorem wS.mono {w:World} {base c x:Nat} {e:TypeId} {U:Ut} {a bnd':Nat} (h:wS w base e c x U a) (r:a≤bnd'):wS w base e c x U bnd':=by
 obtain ⟨⟨es,clk,k,j,q,b,o,p⟩,l,n⟩:=h
 exact ⟨⟨es,clk,k,j,q,fun i x en f d=> ⟨Nat.le_trans (b i x en f d).1 r,(b i x en f d).2⟩,o,p⟩,l,n⟩
theorem AX {w:World} {b:Nat} (o:Obj):w.grownBy (setBlock w b o) (some b):=
 ⟨rfl,rfl,rfl,by simp [setBlock],fun k _ a=>by
  simp only [setBlock]
  exact Array.getElem?_setIfInBounds_ne fun e=>a (by rw [e])⟩
theorem Ik {w:World} {b:Nat} (o:Obj) (h:b<w.heap.size):(setBlock w b o).heap[b]? =some o:=by simp [setBlock,h]
theorem wS.entry (hap:dn P ap) {t kt et:Nat} {ti tk te:TI} {i ie:TypeInfo} {z ze:Value} {de:TypeDesc} (ht:rE P t ti i (.map kt et) z) (htk:ap.tyAt kt=some tk) (hte:rE P et te ie de ze) (T:ze= .slice none 0 0) (hok:∀ c,fE tk (cA c)=true)
  {w:World} {base um x:Nat} {e:TypeId} {U:Ut} {bnd:Nat} (h:wS w base e um x U bnd) (hbw:base≤w.heap.size) (hxw:x<w.heap.size) (d:Cl):
  ∃ C st w1,(Instr.mapEntry t (.map (some um)) (cV d)).run P w= .ok (.tuple #[C,goInt st]) w1∧w.grownBy w1 (some um)∧w1.ownsRow base e 2 C (bP U d).length (BO (bP U d))∧(bP U d).length≤bnd∧C.ownBlock ≠ some x∧
   ∀ (E:World) (G:Value) (c:Cl),w1.grownBy E C.ownBlock→E.ownsRow base e 2 G ((bP U d).length+1) (BO (bP U d++ [c]))→(G.ownBlock=C.ownBlock∨∃ k,G.ownBlock=some k∧w1.heap.size≤k)→
    ∃ w3,(Instr.entryStore t (.map (some um)) (goInt st) G).run P E= .ok () w3∧E.grownBy w3 (some um)∧wS w3 base e um x (iI U d c) (bnd+1):=by
 obtain ⟨⟨es,clk,hb,hwf,hkeys,hrows,L,hxx⟩,hlt,Q⟩:=h
 have s:es.toList.length=U.length:=by have:=congrArg List.length hkeys;simpa using this
 have hks:aO (fun _=>none) (fun _=>(0,0)) (fun _ _=>none) (U.map fun x=>cA x.1) (es.toList.map (·.key)):=by
  rw [hkeys]
  clear hkeys hrows s Q
  induction U with
  |nil=>simp [aO]
  |cons x U ih=>simp only [List.map_cons,aO];exact ⟨dG _ (JJ x.1),ih⟩
 have hka:(U.map fun x=>cA x.1).all (fE tk)=true:=by
  rw [List.all_eq_true]
  intro a ha
  obtain ⟨x,_,rfl⟩:=List.mem_map.1 ha
  exact hok x.1
 have hum:um<w.heap.size:=(Array.getElem?_eq_some_iff.1 hb).1
 obtain ⟨C,st,r,o,j,hrun,hcase,hwf1,hstore⟩:=IU (g:=fun _=>none) (m:=fun _=>(0,0)) (S:=fun _ _=>none) hap ht htk hte (hok d) (dG _ (JJ d)) hb hwf hks hka
 have W:w.grownBy (setBlock w um (.map r o)) (some um):=AX _
 have keep:∀ {w':World} {v:Value} {n:Nat} {xs:List Value},w'.ownsRow base e 2 v n xs→∀ {w'':World},w'.grownBy w'' (some um)→w''.ownsRow base e 2 v n xs:=fun {w' v n xs} ho {w''} hg=>ho.kept hg (by
  cases F:v.ownBlock with
  |none=>exact .inl rfl
  |some k=>exact .inr fun A=>by have:=(ho.lt k F).1;cases A;omega)
 have found:∃ l,bP U d=l∧l.length≤bnd∧(setBlock w um (.map r o)).ownsRow base e 2 C l.length (BO l)∧(∀ (i:Nat) (en:MapEntry),es.toList[i]? =some en→i ≠ j→en.val.ownBlock=none∨en.val.ownBlock ≠ C.ownBlock)∧
   (∀ (i:Nat) (en:MapEntry),r.toList[i]? =some en→i ≠ j→es.toList[i]? =some en)∧j<r.toList.length∧(∀ c,(iI U d c).map (fun x=>cV x.1)=r.toList.map (·.key))∧
   (∀ (c:Cl) (i:Nat) (x:Cl × List Cl),(iI U d c)[i]? =some x→(i=j∧x.2=l++ [c])∨(i ≠ j∧U[i]? =some x)):=by
  rcases hcase with ⟨en,f,hek,rfl,rfl,rfl⟩|⟨hno,rfl,rfl,rfl,rfl⟩
  ·have I:j<U.length:=by rw [← s];exact (List.getElem?_eq_some_iff.1 f).1
   have J:U[j]? =some U[j]:=List.getElem?_eq_getElem I
   have hd:U[j].1=d:=by
    have:=congrArg (fun l=>l[j]?) hkeys
    simp only [List.getElem?_map,f,J,Option.map_some,Option.some.injEq] at this
    exact RJ (this.symm.trans hek)
   obtain ⟨r1,Y⟩:=Ic Q J
   rw [hd] at r1 Y
   obtain ⟨q1,q2⟩:=hrows j _ en J f
   refine ⟨U[j].2,r1,q1,keep q2 W,fun i y b p=>L i j y en b f p,fun i y h _=>h,by rw [s];exact I,fun c=> ?_,fun c i x u=> ?_⟩
   ·rw [Y,hkeys]
    apply List.ext_getElem?
    intro n
    simp only [List.getElem?_map,List.getElem?_set]
    by_cases hn:j=n
    ·subst hn;simp [I,hd,J]
    ·simp [hn]
   ·rw [Y,List.getElem?_set] at u
    by_cases b:j=i
    ·subst b;simp [I] at u;subst u;exact .inl ⟨rfl,rfl⟩
    ·rw [if_neg b] at u;exact .inr ⟨fun e=>b e.symm,u⟩
  ·have hd:d ∉ U.map (·.1):=by
    intro hm
    obtain ⟨x,u,rfl⟩:=List.mem_map.1 hm
    have:(U.map fun x=>cA x.1).any (xZ (cA x.1))=true:=List.any_eq_true.2 ⟨cA x.1,List.mem_map.2 ⟨x,u,rfl⟩,by simp [cA,cC,xZ,Cb,x_]⟩
    rw [hno] at this;cases this
   obtain ⟨r1,Y⟩:=BA hd
   refine ⟨[],r1,Nat.zero_le _,by rw [T];exact World.ownsRow_nil _ _ _ _,fun i en _ _=>by rw [T];cases en.val.ownBlock<;>simp [Value.ownBlock],fun i y h b=> ?_,by simp,fun c=> ?_,fun c i x u=> ?_⟩
   ·rw [Array.toList_push] at h
    have:=(List.getElem?_eq_some_iff.1 h).1
    simp at this
    rwa [List.getElem?_append_left (by simp;omega)] at h
   ·rw [Y,List.map_append,← hkeys,Array.toList_push,List.map_append];rfl
   ·rw [Y] at u
    have hl2:es.size=U.length:=by rw [← s];simp
    by_cases b:i<U.length
    ·rw [List.getElem?_append_left b] at u;exact .inr ⟨by omega,u⟩
    ·have:=(List.getElem?_eq_some_iff.1 u).1
     simp at this
     have R:i=U.length:=by omega
     subst R
     simp at u;subst u;exact .inl ⟨hl2.symm,rfl⟩
 obtain ⟨l,hl,hlb,M,hapart,hold,hjlt,hk1,hr1⟩:=found
 have K:C.ownBlock ≠ some x:=by
  rcases hcase with ⟨en,f,_,rfl,_,_⟩|⟨_,_,_,_,rfl⟩
  ·exact hxx en (List.mem_of_getElem? f)
  ·rw [T];simp [Value.ownBlock]
 refine ⟨C,st,_,hrun,W,by rw [hl];exact M,by rw [hl];exact hlb,K, ?_⟩
 rw [hl]
 intro E G c hg2 hown' hwhere
 have hum1:(setBlock w um (.map r o)).heap[um]? =some (.map r o):=Ik _ hum
 have hv0:C.ownBlock ≠ some um:=fun A=>by have:=(M.lt um A).1;omega
 have hw2:E.heap[um]? =some (.map r o):=(hg2.block um (by simpa [setBlock] using hum) fun A=>hv0 A.symm).trans hum1
 obtain ⟨X,hrun',N,hwf'⟩:=hstore E G hw2
 have hum2:um<E.heap.size:=(Array.getElem?_eq_some_iff.1 hw2).1
 have O:E.grownBy (setBlock E um (.map X o)) (some um):=AX _
 have B:∀ (i:Nat) (en:MapEntry),X.toList[i]? =some en→(i=j∧en.val=G)∨(i ≠ j∧es.toList[i]? =some en):=by
  intro i en b
  rw [N,List.getElem?_modify] at b
  by_cases p:j=i
  ·subst p
   left
   refine ⟨rfl, ?_⟩
   cases hq:r.toList[j]? with
   |none=>rw [hq] at b;cases b
   |some q=>rw [hq] at b;simp at b;subst b;rfl
  ·right
   simp [p] at b
   exact ⟨fun e=>p e.symm,hold i en (by simpa using b) fun e=>p e.symm⟩
 refine ⟨_,hrun',O,⟨X,o,Ik _ hum2,hwf',by rw [N,F9,hk1],fun i x en u f=> ?_,fun i i' en y b R hne=> ?_,fun en f=> ?_⟩,hlt,Fh Q⟩
 ·rcases hr1 c i x u with ⟨rfl,V⟩|⟨p,V⟩
  ·rcases B i en f with ⟨_,F⟩|⟨D,_⟩
   ·rw [V,F]
    exact ⟨by simp;omega,keep (by simpa using hown') O⟩
   ·exact absurd rfl D
  ·rcases B i en f with ⟨D,_⟩|⟨_,he⟩
   ·exact absurd D p
   ·obtain ⟨q1,q2⟩:=hrows i x en V he
    exact ⟨by omega,keep ((keep q2 W).kept hg2 (hapart i en he p)) O⟩
 ·have old:∀ (i:Nat) (en:MapEntry),es.toList[i]? =some en→i ≠ j→en.val.ownBlock=none∨en.val.ownBlock ≠ G.ownBlock:=by
   intro i en b p
   rcases hwhere with D|⟨k,D,Z⟩
   ·rw [D];exact hapart i en b p
   ·cases F:en.val.ownBlock with
    |none=>exact .inl rfl
    |some q=>
     right
     rw [D]
     intro A
     cases A
     have hiU:i<U.length:=by rw [← s];exact (List.getElem?_eq_some_iff.1 b).1
     have:=(hrows i U[i] en (List.getElem?_eq_getElem hiU) b).2.lt _ F
     simp [setBlock] at Z
     omega
  rcases B i en b with ⟨D,F⟩|⟨D,Z⟩<;>rcases B i' y R with ⟨h1',hv'⟩|⟨h1',h2'⟩
  ·omega
  ·rw [F]
   rcases old i' y h2' h1' with A|A
   ·cases hvv:G.ownBlock with
    |none=>exact .inl rfl
    |some q=>exact .inr (by rw [A];simp)
   ·exact .inr fun e2=>A e2.symm
  ·rw [hv'];exact old i en Z D
  ·exact L i i' en y Z h2' hne
 ·obtain ⟨i,b⟩:=List.getElem?_of_mem f
  rcases B i en b with ⟨_,F⟩|⟨_,Z⟩
  ·rw [F]
   rcases hwhere with h3|⟨k,h3,h4⟩
   ·rw [h3];exact K
   ·rw [h3]
    intro A
    cases A
    simp [setBlock] at h4
    omega
  ·exact hxx en (List.mem_of_getElem? Z)
end
end AM
namespace AM
open Go
section
variable {P:Program} {ap:AP} {h0:List aJ} {nt:Nat}
def Ae (U:Ut):aJ:=⟨[.agg (U.map fun x=>cA x.1),.agg (U.map fun x=> .sl (cL x.2) x.2.length false)],0,false,0,dw,true⟩
theorem wS.shut {env:dF} {hp:Hp} {m0 m:aF} {S0 S:ay} {w0 w:World} {a:Act} {base u x0:Nat} {e:TypeId} {U:Ut} {T:Nat} (hfr:Fr (aC h0) m0 S0 w0 (ai hp) m S w) (hF:FR ap env hp [] nt m S w a)
  (h:wS w base e u x0 U T) (hw0:w0.heap.size≤u) (hoff:Po (ai hp) m S w u) (hclr:∀ k,base≤k→(∀ b B,ai hp b=some B→(m b).1 ≠ k)∧∀ o,S k o=none) (b:Nat) (hb:ai hp b=none):
  ∃ z S',gy S S'∧(∀ x,x ≠ b→z x=m x)∧z b=(u,0)∧(∀ k o,k<base→S' k o=S k o)∧Fr (aC h0) m0 S0 w0 (ai ((b,Ae U)::hp)) z S' w∧FR ap env ((b,Ae U)::hp) [] nt z S' w a:=by
 obtain ⟨⟨es,clk,F,hwf,hkeys,hrows,A,_⟩,W,hnd⟩:=h
 have s:es.toList.length=U.length:=by have:=congrArg List.length hkeys;simpa using this
 have G:∀ n,n≤U.length→∃ S',gy S S'∧(∀ k o,k<base→S' k o=S k o)∧Fr (aC h0) m0 S0 w0 (ai hp) m S' w∧FR ap env hp [] nt m S' w a∧
   (∀ (i:Nat) (x:Cl × List Cl) (en:MapEntry),i<n→U[i]? =some x→es.toList[i]? =some en→PR S' (.sl (cL x.2) x.2.length false) en.val)∧
   (∀ (i:Nat) (en:MapEntry),n≤i→es.toList[i]? =some en→∀ k,en.val.ownBlock=some k→∀ o,S' k o=none):=by
  intro n
  induction n with
  |zero=>
   intro _
   refine ⟨S,gy.refl S,fun _ _ _=>rfl,hfr,hF,fun i x en h=>absurd h (by omega),fun i en _ v k r o=> ?_⟩
   have hiU:i<U.length:=by rw [← s];exact (List.getElem?_eq_some_iff.1 v).1
   exact (hclr k ((hrows i U[i] en (List.getElem?_eq_getElem hiU) v).2.lt k r).1).2 o
  | succ n ih=>
   intro hn
   obtain ⟨S1,K,I,L,N,O,h6⟩:=ih (by omega)
   have p:U[n]? =some U[n]:=List.getElem?_eq_getElem (by omega)
   have j:es.toList[n]? =some (es.toList[n]'(by omega)):=List.getElem?_eq_getElem (by omega)
   generalize es.toList[n]'(by omega)=en at j
   generalize U[n]=x at p
   obtain ⟨q1,q2⟩:=hrows n x en p j
   rcases q2.2 with ⟨D,J⟩|⟨g,cap,cur,D,hg1,E,V,hg4,hg5,Y⟩
   ·have M:x.2= []:=List.eq_nil_of_length_eq_zero J
    refine ⟨S1,K,I,L,N,fun i y f v t d=> ?_,fun i f v=>h6 i f (by omega)⟩
    by_cases hin:i=n
    ·subst hin
     rw [p] at t;cases t
     rw [j] at d;cases d
     rw [M,D]
     simp only [PR]
     exact ⟨none,0,rfl,Nat.le_refl _,.inl ⟨fun _=>by simp,rfl,by simp,rfl⟩⟩
    ·exact O i y f (by omega) t d
   ·have X:Po (ai hp) m S1 w g:=⟨(Array.getElem?_eq_some_iff.1 E).1,(hclr g hg1).1,h6 n en (Nat.le_refl _) j g (by rw [D];rfl)⟩
    have hul:(BO x.2).length=x.2.length*2:=NV _
    obtain ⟨r1,r2,r3,r4⟩:=MZ L N X (by omega) E (us:=BO x.2) (by rw [hul];exact Y) (NW _)
    refine ⟨_,K.trans r1,fun k o r=>by rw [← I k o r];unfold lV;rw [if_neg (by omega)],r2,r3,fun i y f v t d=> ?_,fun i f v d k r o=> ?_⟩
    ·by_cases hin:i=n
     ·subst hin
      rw [p] at t;cases t
      rw [j] at d;cases d
      rw [D]
      simp only [PR]
      exact ⟨_,cap,rfl,V,.inr ⟨g,0,BO x.2,rfl,JI _,r4⟩⟩
     ·exact bn r1 _ (O i y f (by omega) t d)
    ·have hkg:k ≠ g:=by
      rcases A i n f en d j (by omega) with e1|e1
      ·rw [e1] at r;cases r
      ·intro e2;subst e2;rw [r,D] at e1;exact e1 rfl
     unfold lV
     rw [if_neg hkg]
     exact h6 i f (by omega) d k r o
 obtain ⟨S',K,I,L,N,O,_⟩:=G U.length (Nat.le_refl _)
 have hoff':Po (ai hp) m S' w u:=⟨hoff.lt,hoff.blk,fun o=>by rw [I u o W];exact hoff.clr o⟩
 have Z:aZ S' (U.map fun x=>cA x.1) (es.toList.map (·.key)):=by
  rw [hkeys]
  have key:∀ l:Ut,aZ S' (l.map fun x=>cA x.1) (l.map fun x=>cV x.1):=by
   intro l
   induction l with
   |nil=>simp [aZ]
   |cons x l ih=>simp only [List.map_cons,aZ];exact ⟨JJ x.1,ih⟩
  exact key U
 have hvs:aZ S' (U.map fun x=> .sl (cL x.2) x.2.length false) (es.toList.map (·.val)):=by
  have key:∀ (l:Ut) (q:List MapEntry),l.length=q.length→(∀ (i:Nat) (x:Cl × List Cl) (en:MapEntry),l[i]? =some x→q[i]? =some en→PR S' (.sl (cL x.2) x.2.length false) en.val)→aZ S' (l.map fun x=> .sl (cL x.2) x.2.length false) (q.map (·.val)):=by
   intro l
   induction l with
   |nil=>intro q Q _;cases q with|nil=>simp [aZ]|cons _ _=>simp at Q
   | cons x l ih=>
    intro q Q hr
    cases q with
    |nil=>simp at Q
    |cons en q=>
     simp only [List.map_cons,aZ]
     exact ⟨hr 0 x en rfl rfl,ih q (by simpa using Q) fun i y f h h'=>hr (i+1) y f (by simpa using h) (by simpa using h')⟩
  exact key U es.toList s.symm fun i x en M R=>O i x en (List.getElem?_eq_some_iff.1 M).1 M R
 have C:aZ S' (Ae U).cells [.agg (es.map (·.key)),.agg (es.map (·.val))]:=by
  simp only [Ae,aZ,PR,and_true]
  exact ⟨⟨es.toList.map (·.key),by rw [← Array.toList_map],Z⟩,⟨es.toList.map (·.val),by rw [← Array.toList_map],hvs⟩⟩
 obtain ⟨z,k1,k2,k3,k4⟩:=Py (h0:=h0) b (Ae U) (k:=u) (c:=0) L N hb hoff' hw0 rfl rfl (fun es' clk' he=>by rw [F] at he;cases he;exact hwf)
  ⟨iC es,0,_,[],.inr ⟨rfl,es,clk,F,rfl⟩,by simp [iC],fun _=>C,aX _ C,fun J=>absurd rfl J,fun _ J=>absurd rfl J⟩
 exact ⟨z,S',K,k1,k2,I,k3,k4⟩
end
end AM
namespace AM
open Go
section
variable {P:Program} {ap:AP}
theorem ah.ahead {h0:List aJ} {nt:Nat} {c:Code} {e:bf} {j:St} (b:Nat) (B:aJ) {en d:dF} {hp hp':Hp} (l:ah P ap h0 nt c ⟨d,hp',.dead,[]⟩ e j) (f:h0.length≤b) (h:B.pr=true)
  (henv:JY b B d (dF.get en)) (hhp:Hl b B hp' hp):ah P ap h0 nt c {env:=en,hp,md:= .dead,dfs:= []} e j:=by
 intro _
 obtain ⟨q,s⟩:=l rfl
 refine ⟨q,fun m0 S0 w0 m S w a i n Q o=> ?_⟩
 obtain ⟨S2,p,k⟩:=D5 (r:={env:=en,hp,md:= .dead,dfs:= []}) (r':=⟨d,hp',.dead,[]⟩) b B f (yC hhp) h rfl (ou henv) (Cm hhp) (Cj hhp) i n
 exact s m0 S0 w0 m S2 w a p k Q o
end
end AM
namespace AM
open Go
inductive ZH (b:Nat) (B:aJ):Hp→Hp→Prop
 |nil:ZH b B [] []
 |cons {c:Nat} {C D:aJ} {r l:Hp}:zT b B D C→c ≠ b→ZH b B r l→ZH b B ((c,C)::r) ((c,D)::l)
inductive ZQ (b:Nat) (B:aJ):Hp→Hp→Prop
 |here {r l:Hp}:ZH b B r l→ZQ b B r ((b,B)::l)
 |step {c:Nat} {C D:aJ} {r l:Hp}:zT b B D C→c ≠ b→ZQ b B r l→ZQ b B ((c,C)::r) ((c,D)::l)
section
variable {P:Program} {ap:AP}
theorem ah.tidy {h0:List aJ} {nt:Nat} {b:Code} {e:bf} {s c i:St} (keep:List Nat) (h:ah P ap h0 nt b c e i) (n:AM.norm h0.length keep s=c) (r:c.md= .dead):ah P ap h0 nt b s e i:=by
 intro hs
 obtain ⟨q,l⟩:=h r
 refine ⟨q,fun m0 S0 w0 m S w a d k Q o=> ?_⟩
 obtain ⟨p,j,f⟩:=iU (keep:=keep) d k
 rw [n] at j f
 exact l m0 S0 w0 p S w a j f Q o
end
end AM
namespace AM
open Go
def bare:AV→Bool
 | .int _ _=>true
 | .bool _=>true
 | .str _=>true
 | .nilS=>true
 | .nilP=>true
 | .nilI=>true
 | .nilF=>true
 |_=>false
def JL:fP→Bool
 | .ret (.own xs _ e)=>xs.all bare && !(Nat.beq e dw)
 | .ret (.tup l)=>l.all bare
 | .ret x=>bare x
 |_=>false
section
variable {P:Program} {ap:AP}
theorem NM {S S':ay}:∀ {x:AV} {v:Value},bare x=true→PR S x v→PR S' x v
 | .int _ _,_,_,h=>by simpa only [PR] using h
 | .bool _,_,_,h=>by simpa only [PR] using h
 | .str _,_,_,h=>by simpa only [PR] using h
 | .nilS,_,_,h=>by simpa only [PR] using h
 | .nilP,_,_,h=>by simpa only [PR] using h
 | .nilI,_,_,h=>by simpa only [PR] using h
 | .nilF,_,_,h=>by simpa only [PR] using h
theorem kD {g g':bD} {m a:aF} {S S':ay}:∀ {x:AV} {v:Value},bare x=true→VR g m S x v→VR g' a S' x v
 | .int _ _,_,_,h=>by simpa only [VR,PR] using h
 | .bool _,_,_,h=>by simpa only [VR,PR] using h
 | .str _,_,_,h=>by simpa only [VR,PR] using h
 | .nilS,_,_,h=>by simpa only [VR,PR] using h
 | .nilP,_,_,h=>by simpa only [VR,PR] using h
 | .nilI,_,_,h=>by simpa only [VR,PR] using h
 | .nilF,_,_,h=>by simpa only [VR,PR] using h
theorem Dy {S S':ay}:∀ {l:List AV} {vs:List Value},l.all bare=true→aZ S l vs→aZ S' l vs
 | [],[],_,_=>by simp [aZ]
 |x::l,v::vs,h,hv=>by
  simp only [List.all_cons,Bool.and_eq_true] at h
  simp only [aZ] at hv ⊢
  exact ⟨NM h.1 hv.1,Dy h.2 hv.2⟩
 | [],_::_,_,hv=>by simp [aZ] at hv
 |_::_,[],_,hv=>by simp [aZ] at hv
theorem zl:∀ {l:List AV},l.all bare=true→∀ n,dS n l=(l,[])
 | [],_,n=>rfl
 |x::l,h,n=>by
  simp only [List.all_cons,Bool.and_eq_true] at h
  have a:=zl h.2 n
  cases x<;>simp [bare] at h<;>simp [dS,a]
theorem Aj {gh gf a b:bD} {m c:aF} {S S':ay} {n d:Nat}:∀ {l:List AV} {vs:List Value},l.all bare=true→fF gh gf m S n l vs→fF a b c S' d l vs
 | [],[],_,_=>by simp [fF]
 | x::l,v::vs,h,hv=>by
  simp only [List.all_cons,Bool.and_eq_true] at h
  have key:VR gh m S x v∧fF gh gf m S n l vs:=by
   cases x<;>simp [bare] at h<;>simpa only [fF] using hv
  have k2:=(⟨kD h.1 key.1,Aj h.2 key.2⟩:VR a c S' x v∧fF a b c S' d l vs)
  cases x<;>simp [bare] at h<;>simpa only [fF] using k2
 | [],_::_,_,hv=>by simp [fF] at hv
 |_::_,[],_,hv=>by simp [fF] at hv
theorem DZ {g:bD} {m:aF} {S:ay} {w:World} (c:aV ap g m S w) (n:Nat):∀ {l l':List AV} {vs:List Value},eH (frz g n) l=some l'→aO g m S l vs→aZ (bI S m g w) l' vs
 | [],l',vs,h,hv=>by
  simp only [eH,Option.some.injEq] at h
  subst h
  cases vs with
  |nil=>simp [aZ]
  |cons _ _=>simp [aO] at hv
 | x ::l,l',vs,h,hv=>by
  cases vs with
  |nil=>simp [aO] at hv
  | cons v vs=>
   simp only [aO] at hv
   simp only [eH] at h
   cases a:frz g n x with
   |none=>rw [a] at h;simp at h
   | some y=>
    cases b:eH (frz g n) l with
    |none=>rw [a,b] at h;simp at h
    |some r=>
     rw [a,b] at h
     simp at h
     subst h
     simp only [aZ]
     exact ⟨gW c (fun _ _ h=>h) n x v y a hv.1,DZ c n b hv.2⟩
theorem lK {h:List aJ} {B:aJ} {b:Nat} {C:aJ} (a:aC (h++ [B]) b=some C):(b<h.length∧aC h b=some C)∨(b=h.length∧C=B):=by
 unfold aC at a ⊢
 by_cases hl:b<h.length
 ·rw [List.getElem?_append_left hl] at a
  exact .inl ⟨hl,a⟩
 ·have e:b=h.length:=by
   have:=(List.getElem?_eq_some_iff.1 a).1
   simp at this
   omega
  subst e
  simp at a
  exact .inr ⟨rfl,a.symm⟩
theorem ae.lend {f:Nat} {args args':List AV} {h:List aJ} {out:fP} (hz:eH (frz (aC h) 6) args=some args') (F:JL out=true) (hc:ae P ap f args' [] out []):ae P ap f args h out h:=by
 refine ⟨Nat.le_refl _,hc.ent,fun m S w cargs t r=> ?_⟩
 have G:=iW S m (aC h) w
 have X:aV ap (aC []) m (bI S m (aC h) w) w:=by
  refine ⟨fun b _ B _ p=>by simp [aC] at p,fun b B p=>by simp [aC] at p,fun k o v r=>jg t r,fun b B p=>by simp [aC] at p, ?_⟩
  intro k E D
  obtain ⟨vs,x,y⟩:=t.glob k E D
  exact ⟨vs,aP G _ x,fun j u hj=> ⟨G _ _ _ (y j u hj).1,(y j u hj).2⟩⟩
 have T:aO (aC []) m (bI S m (aC h) w) args' cargs:=aX _ (DZ t 6 hz r)
 refine (hc.calls m _ w cargs X T).mono fun e w' ⟨m',S',hF⟩=> ?_
 have hrest:∀ k,k<w.heap.size→w'.heap[k]? =w.heap[k]? :=fun k D=>hF.fr.rest k D fun b B p=>by simp [aC] at p
 have J:aV ap (aC h) m S w':=by
  refine ⟨t.inj,fun b B p=> ?_,fun k o v r=>hF.srel.sealed k o v (hF.fr.sle _ _ _ (G _ _ _ r)),t.own,t.glob⟩
  obtain ⟨⟨cur,V,vs,rest,x,y⟩,L,h4⟩:=t.blk b B p
  exact ⟨⟨cur,V,vs,rest,x.same (hrest _ (t.lt p)),y⟩,L,h4⟩
 have plain:(f_ 0 out= [])→(∀ n,f_ n out= [])→(NL h m S out e)→∃ m' S',wG ap h m S w out h m' S' w' e:=fun _ y L=>by
  refine ⟨m,S, ?_, ?_,L⟩
  ·rw [y,List.append_nil];exact J
  ·rw [y,List.append_nil]
   exact ⟨Ge.refl _ _,gy.refl _,hF.fr.os,hF.fr.tape,hF.fr.output,hF.fr.size,fun k D _=>hrest k D,fun b B p=> .inr ⟨B,p,rfl⟩,fun k o v r=> .inl r,
    fun b B p es clk d=> .inl ⟨es,clk,by rw [← hrest _ (t.lt p)];exact d,id⟩⟩
 have c:=hF.out
 match out,F with
 | .ret (.own E n e0),F=>
  simp only [JL,Bool.and_eq_true,Bool.not_eq_true'] at F
  obtain ⟨Y,K⟩:=F
  have K:e0 ≠ dw:=fun e=>by subst e;simp at K
  obtain ⟨cv,d,a⟩:=c
  subst d
  have I:aC ([]++f_ ([]:List aJ).length (.ret (.own E n e0))) 0=some (uP E e0):=rfl
  have D:w.heap.size≤(m' 0).1:=by
   rcases hF.fr.img 0 _ I with x|⟨B1,x,_⟩
   ·exact x
   ·simp [aC] at x
  obtain ⟨⟨cur,V,vs,rest,k1,k2,k3,k4,k5,k6⟩,k7,k8⟩:=hF.srel.blk 0 _ I
  have Q:aZ S E vs:=Dy Y (k3 rfl)
  have O:Ge (aC h) m (aC (h++ [uP E e0])) (fun i=>if i<h.length then m i else m' 0):=fun b B p=>by
   have Z:b<h.length:=(List.getElem?_eq_some_iff.1 p).1
   refine ⟨B, ?_,rfl,.inl ⟨rfl,by simp [Z]⟩⟩
   unfold aC at p ⊢
   rw [List.getElem?_append_left Z];exact p
  have hmw:∀ b B,aC h b=some B→(m b).1<w.heap.size:=fun b B p=>t.lt p
  refine ⟨fun i=>if i<h.length then m i else m' 0,S,⟨fun b b' B B' C U d=> ?_,fun b B C=> ?_,J.sealed,fun b B C o v r=> ?_,t.glob⟩,
   ⟨O,gy.refl _,hF.fr.os,hF.fr.tape,hF.fr.output,hF.fr.size,fun k D _=>hrest k D,fun b B C=> ?_,fun k o v r=> .inl r,fun b B C es clk R=> ?_⟩,⟨cv,rfl, ?_⟩⟩
  ·rcases lK C with ⟨A,q⟩|⟨z,q⟩<;>rcases lK U with ⟨l2,W⟩|⟨e2,W⟩
   ·simp [A,l2] at d;exact t.inj b b' B B' q W d
   ·subst e2;simp [A] at d;have:=hmw b B q;omega
   ·subst z;simp [l2] at d;have:=hmw b' B' W;omega
   ·rw [z,e2]
  ·rcases lK C with ⟨A,q⟩|⟨z,q⟩
   ·simp only [if_pos A]
    exact (J.blk b B q).mono (gy.refl S) O rfl
   ·subst z q
    simp only [Nat.lt_irrefl,if_false]
    exact ⟨⟨cur,V,vs,rest,k1,k2,fun _=>Q,aX _ Q,k5,k6⟩,k7,k8⟩
  ·rcases lK C with ⟨A,q⟩|⟨z,q⟩
   ·simp only [if_pos A] at r
    exact t.own b B q o v r
   ·subst z q
    simp only [Nat.lt_irrefl,if_false] at r
    have:=t.seal_lt r
    omega
  ·rcases lK C with ⟨A,q⟩|⟨z,q⟩
   ·simp only [if_pos A]
    exact .inr ⟨B,q,trivial⟩
   ·subst z
    simp only [Nat.lt_irrefl,if_false]
    exact .inl D
  ·rcases lK C with ⟨A,q⟩|⟨z,q⟩
   ·simp only [if_pos A] at R ⊢
    exact .inl ⟨es,clk,by rw [← hrest _ (hmw b B q)];exact R,id⟩
   ·subst z q
    simp only [Nat.lt_irrefl,if_false] at R ⊢
    obtain ⟨es',clk',M,_⟩:∃ es clk,w'.heap[(m' 0).1]? =some (Obj.map es clk)∧True:=⟨es,clk,R,trivial⟩
    have:=k1.cells (show e0 ≠ dw from K)
    rw [this] at M
    cases M
  ·simp only [qL,VR] at a ⊢
   obtain ⟨B,p,x,y,L⟩:=a
   have p:B=uP E e0:=by
    have:=p.symm.trans I
    simpa using this
   subst p
   refine ⟨uP E e0,by simp [aC,gG],x,y,fun e=> ?_⟩
   simpa using L e
 | .ret (.tup l),F=>
  simp only [JL] at F
  obtain ⟨cv,d,a⟩:=c
  have N:∀ n,(gG n (.tup l)).2= []:=fun n=>by
   simp only [gG,zl F n]
  refine plain (N 0) N ⟨cv,d, ?_⟩
  simp only [qL] at a ⊢
  obtain ⟨vs,x,y⟩:=a
  exact ⟨vs,x,Aj F y⟩
 | .ret (.int k n),_=>
  obtain ⟨cv,d,a⟩:=c
  exact plain rfl (fun _=>rfl) ⟨cv,d,kD (g:=aC []) (m:=m') rfl a⟩
 | .ret (.bool b),_=>
  obtain ⟨cv,d,a⟩:=c
  exact plain rfl (fun _=>rfl) ⟨cv,d,kD (g:=aC []) (m:=m') rfl a⟩
 | .ret (.str s),_=>
  obtain ⟨cv,d,a⟩:=c
  exact plain rfl (fun _=>rfl) ⟨cv,d,kD (g:=aC []) (m:=m') rfl a⟩
 | .ret .nilS,_=>
  obtain ⟨cv,d,a⟩:=c
  exact plain rfl (fun _=>rfl) ⟨cv,d,kD (g:=aC []) (m:=m') rfl a⟩
 | .ret .nilP,_=>
  obtain ⟨cv,d,a⟩:=c
  exact plain rfl (fun _=>rfl) ⟨cv,d,kD (g:=aC []) (m:=m') rfl a⟩
 | .ret .nilI,_=>
  obtain ⟨cv,d,a⟩:=c
  exact plain rfl (fun _=>rfl) ⟨cv,d,kD (g:=aC []) (m:=m') rfl a⟩
 | .ret .nilF,_=>
  obtain ⟨cv,d,a⟩:=c
  exact plain rfl (fun _=>rfl) ⟨cv,d,kD (g:=aC []) (m:=m') rfl a⟩
end
end AM
namespace AM
open Go
section
variable {P:Program} {ap:AP} {H:bg}
def lh (r:gU):gU:={r with rb:= []}
theorem xX {D:Nat→Bool}:∀ (rs:List gU) (i j:Nat) (e:dF) (r:gU),rs[i]? =some r→ji D j e (rs.set i (lh r))=ji D j e rs
 | [],i,j,e,r,h=>by simp at h
 |x::rs,0,j,e,r,h=>by
  have h:x=r:=by simpa using h
  subst h;rfl
 |x::rs,i+1,j,e,r,h=>by
  simp only [List.set_cons_succ,ji]
  exact xX rs i (j+1) _ r (by simpa using h)
theorem Ci {D:Nat→Bool}:∀ (rs:List gU) (i j:Nat) (e:Hp) (r:gU),rs[i]? =some r→jZ D j e (rs.set i (lh r))=jZ D j e rs
 | [],i,j,e,r,h=>by simp at h
 |x::rs,0,j,e,r,h=>by
  have h:x=r:=by simpa using h
  subst h;rfl
 |x::rs,i+1,j,e,r,h=>by
  simp only [List.set_cons_succ,jZ]
  exact Ci rs i (j+1) _ r (by simpa using h)
theorem BC (a:List gU) (i k:Nat) (r:gU) (h:a[i]? =some r):(a.set i (lh r)).take k=a.take k∨((a.take k)[i]? =some r∧(a.set i (lh r)).take k=(a.take k).set i (lh r)):=by
 by_cases hk:i<k
 ·right
  refine ⟨by rw [List.getElem?_take,if_pos hk];exact h, ?_⟩
  rw [List.take_set]
 ·left
  rw [List.take_set,List.set_eq_of_length_le]
  rw [List.length_take];omega
theorem AB (a:List gU) (i k:Nat) (e:dF) (r:gU) (h:a[i]? =some r):jX e ((a.set i (lh r)).take k)=jX e (a.take k):=by
 rcases BC a i k r h with b|⟨b,c⟩
 ·rw [b]
 ·rw [c];exact xX _ _ _ _ _ b
theorem KJ (a:List gU) (i k:Nat) (e:Hp) (r:gU) (h:a[i]? =some r):yB e ((a.set i (lh r)).take k)=yB e (a.take k):=by
 rcases BC a i k r h with b|⟨b,c⟩
 ·rw [b]
 ·rw [c];exact Ci _ _ _ _ _ b
def BF:Hp→Nat→List aJ
 | [],_=> []
 |(b,B)::r,t=>match Nat.beq b t with|true=>B::BF r t|false=>BF r t
theorem BG {b:Nat} {B:aJ}:∀ {hp:Hp},(b,B) ∈ hp→B ∈ BF hp b
 | (c,C)::r,h=>by
  simp only [BF]
  rcases List.mem_cons.1 h with h|h
  ·cases h
   rw [Nat.beq_refl];exact List.mem_cons_self
  ·have a:=BG h
   split
   ·exact List.mem_cons_of_mem _ a
   ·exact a
theorem Hg {D D':Nat→Bool} (c:∀ j,D j=true→D' j=true):∀ (rs:List gU) (j:Nat) (h h':Hp),(∀ x ∈ h,x ∈ h')→∀ x ∈ jZ D j h rs,x ∈ jZ D' j h' rs
 | [],_,_,_,hs=>hs
 | r::rs,j,h,h',hs=>by
  simp only [jZ]
  refine Hg c rs (j+1) _ _ ?_
  intro x a
  cases b:D j with
  |true=>
   rw [b] at a
   rw [c j b]
   rcases List.mem_append.1 a with a|a
   ·exact List.mem_append.2 (.inl a)
   ·exact List.mem_append.2 (.inr (hs x a))
  |false=>
   rw [b] at a
   cases D' j with
   |true=>exact List.mem_append.2 (.inr (hs x a))
   |false=>exact hs x a
def pW (D:Nat→Bool):List qJ→Hp→Hp
 | [],hp=>hp
 |F::r,hp=>match D r.length with
  |true=>hp.take F.wb.length++pW D r (hp.drop F.wb.length)
  |false=>pW D r (hp.drop F.wb.length)
theorem yA {D:Nat→Bool}:∀ (rs:List gU) (j:Nat) (h:Hp) (r:gU),jZ D j h (rs++ [r])=match D (j+rs.length) with|true=>r.ups++jZ D j h rs|false=>jZ D j h rs
 | [],j,h,r=>by
  simp only [List.nil_append,jZ,List.length_nil,Nat.add_zero]
  cases D j<;>rfl
 |x::rs,j,h,r=>by
  simp only [List.cons_append,jZ]
  rw [yA rs (j+1) _ r]
  rw [show j+1+rs.length=j+(x::rs).length by simp;omega]
theorem zG {D:Nat→Bool} (h:Hp):∀ (l:List gU),pW D (l.map gU.foot) (yB h l.reverse)=jZ D 0 h l.reverse
 | []=>rfl
 | r::l=>by
  have e:yB h (r::l).reverse=r.ups++yB h l.reverse:=by
   unfold yB
   rw [List.reverse_cons,yA]
  have a:(gU.foot r).wb.length=r.ups.length:=by simp [gU.foot]
  rw [e,List.reverse_cons,yA]
  simp only [List.map_cons,pW,a,List.length_map,List.take_left,List.drop_left,List.length_reverse,Nat.zero_add]
  rw [zG h l]
theorem Ed {D:Nat→Bool} {b:Nat}:∀ (rs:List gU) (j:Nat) (h:Hp),(∃ B,ai h b=some B)→∃ B,ai (jZ D j h rs) b=some B
 | [],_,_,hs=>hs
 | r ::rs,j,h,hs=>by
  simp only [jZ]
  refine Ed rs (j+1) _ ?_
  cases D j with
  |false=>exact hs
  | true=>
   by_cases hm:b ∈ r.ups.map (·.1)
   ·obtain ⟨B,a⟩:=oD hm
    exact ⟨B,by
     rw [dX,a]⟩
   ·rw [mM hm];exact hs
inductive xC (P:Program) (ap:AP) (H:bg) (n:Nat) (ops:List Oper) (o:Oper) (b d:Nat) (rt:List Nat) (env:dF) (v:AV):List aJ→Prop where
 |nil:xC P ap H n ops o b d rt env v []
 | cons {B:aJ} {r:List aJ} {c2 c3:Cx} {t:RS}:E5 ap H n ops o {env,hp:= [(b,B)],md:= .dead,dfs:= [],dec:= [],feet:= []} c2= .ok (t,none) c3→c3.Ok→t.feet= [{rt:=rt,wt:= [d],rb:= [b],wb:= []}]→t.dfs= []→t.env.get d=v→
   xC P ap H n ops o b d rt env v r→xC P ap H n ops o b d rt env v (B::r)
theorem xC.sem (p:dn P ap) (u:fC P ap H) {n:Nat} {ops:List Oper} {o:Oper} {b d:Nat} {rt:List Nat} {env:dF} {v:AV} {l:List aJ} (A:o.dst=some d) (h:xC P ap H n ops o b d rt env v l):∀ B ∈ l,BJ P ap ops.toArray o n env [(b,B)] rt [b] v [] [] none:=by
 induction h with
 |nil=>intro B x;simp at x
 | @cons B r c2 c3 t he hc hft hdf0 hvd _ ih=>
  intro B' a
  rcases List.mem_cons.1 a with rfl|a
  ·obtain ⟨_,hs⟩:=ng p u he hc
   obtain ⟨s,rb,ups,q,hs⟩:=hs rfl (fun t b z=>by cases z)
   have j:=hs.feet rfl
   rw [hft] at j
   simp only [List.cons.injEq,qJ.mk.injEq,and_true] at j
   obtain ⟨f,_,e,i⟩:=j
   have c:ups= []:=by
    cases ups with
    |nil=>rfl
    |cons _ _=>simp at i
   have k:q= []:=by
    have:=hs.dfs
    rw [hdf0] at this
    simpa using this.symm
   have y:s=v:=by
    have:=hs.env rfl
    rw [this,A,fG] at hvd
    exact hvd
   have:=hs.sem
   rw [← f,← e,c,k,y] at this
   exact this
  ·exact ih B' a
theorem IR (hap:dn P ap) (hmix:P.follows .mixedOrders=true) (hH:fC P ap H) {ops:List Oper} {nt:Nat} {h0:List aJ} (keep:List Nat) {id:Nat} (hnt:∀ o ∈ ops,∀ d,o.dst=some d→d<nt) {s:St} {f:RS} {c c':Cx} (i b d:Nat) (o:Oper) (rt:List Nat) (v:AV) (L:List aJ)
  (e1:lu ap H ops ops (dR s.hp) {env:=s.env,hp:=s.hp,md:=s.md,dfs:=s.dfs,dec:= [],feet:= []} c= .ok (f,none) c') (hc:c'.Ok)
  (hoi:ops[i]? =some o) (hod:o.dst=some d) (hft:f.feet.reverse[i]? =some {rt:=rt,wt:= [d],rb:= [b],wb:= []})
  (hord:oH (dR s.hp) (Region.before ops.toArray).toList (f.feet.reverse.set i {rt:=rt,wt:= [d],rb:= [],wb:= []}).reverse=true) (hback:mD ops=true) (hdl:f.dfs.length=s.dfs.length)
  (hlate:∀ k C,i<k→ops[k]? =some C→∀ x,C.dst=some x→x ≠ d∧x ∉ rt) (hdr:d ∉ rt)
  (hv:f.env.get d=v) (V:∃ B,ai s.hp b=some B) (hL:BF (pW (fun k=> !(((Region.before ops.toArray).toList.getD k 0).testBit i)) f.feet f.hp) b=L) (hst:xC P ap H (dR s.hp+4*i) ops o b d rt f.env v L):
  ah P ap h0 nt (.region id ops.toArray true) s .normal (norm h0.length keep ⟨f.env,f.hp,f.md,f.dfs⟩):=by
 intro hmd
 have hn0:∀ b B,ai s.hp b=some B→b<dR s.hp:=fun b B V=>jC V
 obtain ⟨_,hs⟩:=Nu hap hH ops 0 _ _ _ _ _ e1 hc
 obtain ⟨h1,recs,O,e⟩:=hs hmd (fun t b V=>by cases V) rfl
 refine ⟨h1,fun m0 S0 w0 m S w a hfr R Q hQ=>wp_region_any hmix ?_⟩
 have E:f.dfs.length=s.dfs.length:=hdl
 have hdf:=(e.sem E).1
 have hil:i<recs.length:=by rw [O];exact (List.getElem?_eq_some_iff.1 hoi).1
 have p:recs[i]? =some recs[i]:=List.getElem?_eq_getElem hil
 have hfeet:f.feet.reverse=recs.map gU.foot:=by rw [e.feet,List.append_nil,List.reverse_reverse]
 rw [hfeet] at hft hord
 rw [List.getElem?_map,p,Option.map_some,Option.some.injEq] at hft
 generalize recs[i]=r at p hft
 have J:=hft
 simp only [gU.foot,qJ.mk.injEq] at J
 obtain ⟨hrt,hwt,hrb,u⟩:=J
 have u:r.ups= []:=by
  cases hu:r.ups with
  |nil=>rfl
  |cons _ _=>rw [hu] at u;simp at u
 have hset:(recs.map gU.foot).set i {rt:=rt,wt:= [d],rb:= [],wb:= []}=(recs.set i (lh r)).map gU.foot:=by
  rw [List.map_set]
  congr 1
  simp only [gU.foot,lh,qJ.mk.injEq]
  exact ⟨hrt.symm,hwt.symm,trivial,by rw [u];rfl⟩
 rw [hset] at hord
 have Y:kH (Array.replicate ops.length false)=fun _=>false:=by
  funext k
  simp only [kH,Array.getD_eq_getD_getElem?]
  by_cases n:k<ops.length<;>simp [n]
 have hsz:ops.toArray.size=ops.length:=by simp
 rw [hsz]
 have W:∀ D,jZ D 0 s.hp (recs.set i (lh r))=jZ D 0 s.hp recs:=fun D=>Ci recs i 0 s.hp r p
 have enE:∀ D,ji D 0 s.env (recs.set i (lh r))=ji D 0 s.env recs:=fun D=>xX recs i 0 s.env r p
 have U:∀ k,k ≠ i→(recs.set i (lh r))[k]? =recs[k]? :=fun k n=>List.getElem?_set_ne (Ne.symm n)
 have hgeti:(recs.set i (lh r))[i]? =some (lh r):=List.getElem?_set_self hil
 have hdsto:∀ (k:Nat) (q:gU),recs[k]? =some q→∃ C:Oper,ops[k]? =some C∧q.dst=C.dst:=by
  intro k q n
  obtain ⟨C,z,A,_⟩:=(e.sem E).2 k q n
  exact ⟨C,by rw [← z,Nat.zero_add],A⟩
 have I:r.dst=some d:=by
  obtain ⟨C,z,A⟩:=hdsto i r p
  rw [hoi] at z;cases z
  rw [A,hod]
 have hrv:r.v=v:=by
  have e2:(jX s.env recs).get d=(jX s.env (recs.take (i+1))).get d:=by
   rw [← sD]
   refine jJ recs 0 _ _ rfl fun k q n T=> ?_
   rw [Nat.zero_add]
   by_cases hki:i<k
   ·obtain ⟨C,z,A⟩:=hdsto k q n
    exact absurd rfl (hlate k C hki z d (A ▸ T)).1
   ·simp;omega
  have e3:f.env.get d=v:=hv
  rw [e.env] at e3
  rw [show (jX s.env recs).get d=(jX s.env recs).get d from rfl,e2,AC _ _ _ _ p,I,fG] at e3
  exact e3
 have Z:∀ t ∈ rt,(jX s.env (recs.take i)).get t=f.env.get t:=by
  intro t ht
  rw [e.env,← sD]
  refine jJ recs 0 _ _ rfl fun k q n T=> ?_
  rw [Nat.zero_add]
  rcases Nat.lt_trichotomy k i with h|h|h
  ·simp [h]
  ·subst h
   rw [p] at n;cases n
   rw [I] at T;cases T
   exact absurd ht hdr
  ·obtain ⟨C,z,A⟩:=hdsto k q n
   exact absurd ht (hlate k C h z t (A ▸ T)).2
 refine DV (P:=P) (ap:=ap) (s:={env:=s.env,hp:=s.hp,md:=s.md,dfs:=s.dfs,dec:= [],feet:= []}) (recs:=recs.set i (lh r)) hnt (by rw [List.length_set];exact O) ?_ ?_ (yY hord) hback hn0 (m0:=m) (S0:=S) (w0:=w) (Q:=Q) ?_ ops.length _ m S _ a ⟨by simp, ?_, ?_, ?_⟩ ?_
 ·intro k q n x N
  by_cases hki:k=i
  ·subst hki
   rw [hgeti] at n;cases n
   rw [show (lh r).ups=r.ups from rfl,u] at N
   simp at N
  ·rw [U k hki] at n
   have:=e.bound k q n x N
   omega
 ·intro k q n
  by_cases hki:k=i
  ·subst hki
   rw [hgeti] at n;cases n
   refine ⟨o,hoi,by rw [← hod] at I;exact I, ?_⟩
   intro D m2 S2 w2 a2 X y _ l hnb Q2 K M
   dsimp only at X y l M
   rw [W] at X y l M
   obtain ⟨B,hB⟩:=Ed (D:=D) recs 0 s.hp V
   have hBm:B ∈ L:=by
    have e4:=zG (D:=fun j=> !(((Region.before ops.toArray).toList.getD j 0).testBit k)) s.hp recs.reverse
    rw [List.reverse_reverse,List.map_reverse] at e4
    rw [← hL,e.hp,e.feet,List.append_nil]
    rw [e4]
    refine BG (Hg (D:=D) (fun j hj=> ?_) recs 0 s.hp s.hp (fun _ h=>h) _ (uD hB))
    cases hb2:((Region.before ops.toArray).toList.getD j 0).testBit k with
    |false=>rfl
    |true=>rw [hnb j hb2] at hj;cases hj
   have F:=hst.sem hap hH hod B hBm
   rw [show (lh r).v=r.v from rfl,hrv,show (lh r).ups=r.ups from rfl,u] at M
   refine F _ m2 S2 w2 a2 X (fun t ht=> ?_) (fun x N B2 hB2=> ?_) l Q2 K M
   ·have z:=y t (by rw [show (lh r).rt=r.rt from rfl,hrt];exact ht)
    rw [AB recs k k s.env r p,Z t ht] at z
    exact z
   ·rw [List.mem_singleton] at N
    subst N
    simp only [ai,Nat.beq_refl,Option.some.injEq] at hB2
    subst hB2
    exact hB
  ·rw [U k hki] at n
   obtain ⟨C,z,A,F⟩:=(e.sem E).2 k q n
   rw [Nat.zero_add] at z
   refine ⟨C,z,A, ?_⟩
   intro D m2 S2 w2 a2 X y G l _ Q2 K M
   dsimp only at X y G l M
   rw [W] at X y G l M
   rw [AB recs i k s.env r p] at y
   rw [KJ recs i k s.hp r p] at G
   exact F _ m2 S2 w2 a2 X y (fun x N B hB=>by rw [← G x N];exact hB) l Q2 K M
 ·intro m' S' w' a' A h4
  dsimp only at A h4
  have e5:yB s.hp (recs.set i (lh r))=yB s.hp recs:=W _
  have e6:jX s.env (recs.set i (lh r))=jX s.env recs:=enE _
  rw [e5] at A h4
  rw [e6] at h4
  have h5:Fr (aC h0) m0 S0 w0 (ai f.hp) m' S' w':=by
   rw [e.hp];exact hfr.trans A
  have h6:FR ap f.env f.hp f.dfs nt m' S' w' a':=by
   rw [e.hp,e.env,hdf];exact h4
  obtain ⟨m2,h7,h8⟩:=iU (keep:=keep) (s:=⟨f.env,f.hp,f.md,f.dfs⟩) h5 h6
  exact hQ m2 S' w' a' h7 h8
 ·intro k o n T
  rw [Y] at T;cases T
 ·dsimp only
  rw [Y,jO _ 0 _ (fun _ _=>rfl)]
  exact ⟨Ge.refl _ _,gy.refl _,rfl,rfl,rfl,Nat.le_refl _,fun _ _ _=>rfl,fun _ B h=> .inr ⟨B,h,rfl⟩,fun _ _ _ h=> .inl h,(MW.refl _).mb _ _⟩
 ·dsimp only
  rw [Y,jO _ 0 _ (fun _ _=>rfl),pF _ 0 _ (fun _ _=>rfl)]
  exact ⟨⟨R.srel.inj,fun b B V=>R.srel.blk b B V|>fun ⟨h1,z,A⟩=> ⟨h1,z,A⟩,R.srel.sealed,R.srel.own,R.srel.glob⟩,R.env,R.dfs,R.size⟩
 ·simp only [xe]
  exact Nat.le_trans (List.length_filter_le _ _) (by simp)
def wK:List Nat→List Nat→Bool
 | [],[]=>true
 |a::r,b::q=>Nat.beq a b && wK r q
 |_,_=>false
theorem kJ:∀ {l r:List Nat},wK l r=true→l=r
 | [],[],_=>rfl
 |a::r,b::q,h=>by
  simp only [wK,Bool.and_eq_true] at h
  rw [az h.1,kJ h.2]
 | [],_::_,h=>by simp [wK] at h
 |_::_,[],h=>by simp [wK] at h
def Iq (ap:AP) (H:bg) (n:Nat) (ops:List Oper) (o:Oper) (b d:Nat) (rt:List Nat) (env:dF) (v:AV):List aJ→Option (List Prop)
 | []=>some []
 | B ::r=>match E5 ap H n ops o {env,hp:= [(b,B)],md:= .dead,dfs:= [],dec:= [],feet:= []} ⟨true,[],[],[],[],[]⟩ with
  | .ok (t,none) c3=>match t.feet,t.dfs,c3.bs,c3.ps with
   | [F],[],[],[]=>match wK F.rt rt && wK F.wt [d] && wK F.rb [b] && wK F.wb [] with
    |true=>match Iq ap H n ops o b d rt env v r with
     |some l=>some ((t.env.get d=v)::l)
     |none=>none
    |false=>none
   |_,_,_,_=>none
  |_=>none
theorem EZ {n:Nat} {ops:List Oper} {o:Oper} {b d:Nat} {rt:List Nat} {env:dF} {v:AV}:∀ {L:List aJ} {l:List Prop},Iq ap H n ops o b d rt env v L=some l→(∀ p ∈ l,p)→xC P ap H n ops o b d rt env v L
 | [],_,_,_=> .nil
 | B ::r,l,h,hl=>by
  simp only [Iq] at h
  split at h
  ·rename_i t s j
   split at h
   ·rename_i F e c i f
    split at h
    ·rename_i a
     simp only [Bool.and_eq_true] at a
     split at h
     ·rename_i q k
      cases h
      refine .cons j ⟨by rw [i];simp,by rw [f];simp⟩ ?_ c (hl _ (by simp)) (EZ k fun p hp=>hl p (by simp [hp]))
      rw [e,← kJ a.1.1.1,← kJ a.1.1.2,← kJ a.1.2,← kJ a.2]
     ·cases h
    ·cases h
   ·cases h
  ·cases h
def Dl (ap:AP) (H:bg) (base:Nat) (keep:List Nat) (nt0 i b d:Nat) (code:Code) (s:St) (c:Cx):R St:=
 match code with
 | .region _ opsA true=>
  (lu ap H opsA.toList opsA.toList (dR s.hp) {env:=s.env,hp:=s.hp,md:=s.md,dfs:=s.dfs,dec:= [],feet:= []} c).bind fun (s1,p) c=>
  match p with
  |some _=> .bad 1
  |none=>
  match opsA.toList[i]?,s1.feet.reverse[i]? with
  | some o,some F=>
   match (match o.dst with|some d'=>Nat.beq d' d|none=>false) && wK F.wt [d] && wK F.rb [b] && wK F.wb [] && oH (dR s.hp) (Region.before opsA).toList (s1.feet.reverse.set i {rt:=F.rt,wt:= [d],rb:= [],wb:= []}).reverse && mD opsA.toList && Nat.beq s1.dfs.length s.dfs.length
    && (opsA.toList.drop (i+1)).all (fun o'=>match o'.dst with|some x=> !(Nat.beq x d) && !(j_ F.rt x)|none=>true) && !(j_ F.rt d) && (ai s.hp b).isSome && opsA.toList.all (qx nt0) with
   |true=>match Iq ap H (dR s.hp+4*i) opsA.toList o b d F.rt s1.env (s1.env.get d) (BF (pW (fun k=> !(((Region.before opsA).toList.getD k 0).testBit i)) s1.feet s1.hp) b) with
    |some l=> .ok (norm base keep ⟨s1.env,s1.hp,s1.md,s1.dfs⟩) {c with ps:=l++c.ps}
    |none=> .bad 3
   |false=> .bad 2
  |_,_=> .bad 4
 |_=> .bad 5
theorem Gu (D:dn P ap) (q:P.follows .mixedOrders=true) (L:fC P ap H) {h0:List aJ} {keep:List Nat} {nt nt0 i b d:Nat} {j:Code} {s s':St} {c c':Cx} (U:nt0≤nt) (h:Dl ap H h0.length keep nt0 i b d j s c= .ok s' c') (y:c'.Ok):ah P ap h0 nt j s .normal s':=by
 unfold Dl at h
 split at h
 ·rename_i id a
  obtain ⟨⟨J,p⟩,Z,M,h⟩:=R.bind_ok h
  dsimp only at h
  split at h
  ·cases h
  ·split at h
   ·rename_i o F V T
    split at h
    ·rename_i hcond
     split at h
     ·rename_i l I
      cases h
      simp only [Bool.and_eq_true] at hcond
      obtain ⟨⟨⟨⟨⟨⟨⟨⟨⟨⟨v,N⟩,X⟩,W⟩,O⟩,Q⟩,G⟩,K⟩,E⟩,t⟩,A⟩:=hcond
      have u:o.dst=some d:=by
       split at v
       ·rename_i d' z;rw [z,az v]
       ·cases v
      have B:F={rt:=F.rt,wt:= [d],rb:= [b],wb:= []}:=by
       rw [← kJ N,← kJ X,← kJ W]
      have f:a.toList.toArray=a:=by simp
      have key:=IR (nt:=nt) (h0:=h0) D q L keep (id:=id) (ops:=a.toList) (fun r n x C=>by
        have:=List.all_eq_true.1 A r n
        simp only [qx,C] at this
        exact Nat.lt_of_lt_of_le (dL this) U) i b d o F.rt (J.env.get d) _ M ⟨y.bs,fun p hp=>y.ps p (by simp [hp])⟩ V u (by rw [T,← B]) (by rw [f];exact O) Q (az G) ?_ ?_ rfl (by simpa [Option.isSome_iff_exists] using t) (by rw [f]) (EZ I fun p hp=>y.ps p (by simp [hp]))
      ·rw [f] at key
       exact key
      ·intro k r Y n x C
       have hm:r ∈ a.toList.drop (i+1):=by
        refine List.mem_of_getElem? (i:=k - (i+1)) ?_
        rw [List.getElem?_drop,show i+1+(k - (i+1))=k by omega]
        exact n
       have:=List.all_eq_true.1 K r hm
       simp only [C,Bool.and_eq_true,Bool.not_eq_true'] at this
       refine ⟨fun e=> ?_,fun e=> ?_⟩
       ·subst e;rw [Nat.beq_refl] at this;cases this.1
       ·rw [eX.2 e] at this;cases this.2
      ·intro e
       rw [eX.2 e] at E
       cases E
     ·cases h
    ·cases h
   ·cases h
 ·cases h
end
theorem O1 {P:Program} {ap:AP} (g:xu P ap) {h0:List aJ} {keep:List Nat} {nt nt0 i b d:Nat} {a:Code} {s s':St} {ans:List (fP × List aJ)} {ps:List Prop} (hp:Dv ps) (e:nt0≤nt)
  (h:Dl ap (uY P ap 3000 4) h0.length keep nt0 i b d a s ⟨true,[],[],[],ans,[]⟩= .ok s' ⟨true,[],[],ps,[],[]⟩):ah P ap h0 nt a s .normal s':=by
 obtain ⟨c,_⟩:=gI g.apok g.mixed g.fnok 3000 4
 exact Gu g.apok g.mixed c e h ⟨by simp,hp.mem⟩
end AM
