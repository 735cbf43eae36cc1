/- The abstract machine over the code of the model, and the proof that it is sound. No conditions. -/
import Derived.Test.YtdmfgmmooalfnaaGreatDoorM4
import Derived.ChangeArms
import Derived.WideShapes
import Derived.Deep.Strs
set_option linter.unusedSimpArgs false
set_option linter.unusedVariables false
namespace AM
open Go
structure aQ (s s':St):Prop where
 env:∀ t,s.env.get t=s'.env.get t∨s.env.get t= .dead
 hp:s.hp=s'.hp
 md:s.md=s'.md
 dfs:s.dfs=s'.dfs
theorem aQ.refl (s:St):aQ s s:=⟨fun _=> .inl rfl,rfl,rfl,rfl⟩
def Qp:iP→(Nat→AV)→Prop
 | [],_=>True
 |(t,v)::r,f=>(f t=v)∧Qp r f
theorem yO {f:Nat→AV}:∀ {e:iP},Qp e f→∀ t,e.get t=f t∨e.get t= .dead
 | [],_,t=> .inr rfl
 | (u,v)::r,h,t=>by
  simp only [Qp] at h
  simp only [iP.get,aA]
  cases a:Nat.beq u t with
  |true=>
   have:=aP a
   subst this
   exact .inl h.1.symm
  |false=>exact yO h.2 t
theorem aQ.of {e e':iP} {hp:Hp} {md:AV} {dfs:List (Nat × List AV)} (h:Qp e e'.get):aQ {env:=e,hp,md,dfs} {env:=e',hp,md,dfs}:=⟨yO h,rfl,rfl,rfl⟩
section
variable {P:Program} {ap:AP} {H:di}
theorem FR.less {s s':St} (h:aQ s s') {nt:Nat} {m:aX} {S:aU} {w:World} {a:Act} (b:FR ap s'.env s'.hp s'.dfs nt m S w a):FR ap s.env s.hp s.dfs nt m S w a:=by
 refine ⟨h.hp ▸ b.srel,fun t=> ?_, ?_,b.size⟩
 ·rcases h.env t with e|e
  ·rw [e,h.hp];exact b.env t
  ·rw [e];simp [VR]
 ·rw [h.hp,h.dfs];exact b.dfs
theorem ax.weak {k:List bi} {nt:Nat} {b:Code} {s s' r j:St} {e:bJ} (h:ax P ap k nt b s e r) (hs:aQ s s') (c:aQ j r):ax P ap k nt b s' e j:=by
 intro f
 obtain ⟨p,n⟩:=h (hs.md ▸ f)
 refine ⟨c.md ▸ p,fun m0 S0 w0 m S w a i t Q x=>n m0 S0 w0 m S w a (by rw [hs.hp];exact i) (t.less hs) Q ?_⟩
 intro q S' w' l u o
 have:=x q S' w' l (by rw [c.hp];exact u) (o.less c)
 cases e with
 |normal=>exact this
 |exit id=>exact this
 |ret=>exact this
 |panic v=>intro cv d;exact this cv (by rw [c.hp];exact d)
inductive aI (P:Program) (ap:AP) (h0:List bi) (nt:Nat) (b:Code) {α β:Type} (e:β→bJ) (st:α→St) (out:β→St):α→β→Prop where
 |done {a:α} {r:β}:ax P ap h0 nt b (st a) (e r) (out r)→aI P ap h0 nt b e st out a r
 |next {a a':α} {r:β}:ax P ap h0 nt b (st a) .normal (st a')→aI P ap h0 nt b e st out a' r→aI P ap h0 nt b e st out a r
theorem aI.rounds {t:List bi} {nt:Nat} {b:Code} {α β:Type} {e:β→bJ} {st:α→St} {out:β→St} {a:α} {r:β} (d:e r ≠ .normal) (h:aI P ap t nt b e st out a r):(st a).md= .dead→(out r).md= .dead∧∃ n,∀ m0 S0 w0 m S w c,Fr (bH t) m0 S0 w0 (aA (st a).hp) m S w→FR ap (st a).env (st a).hp (st a).dfs nt m S w c→∀ Q,XA ap t m0 S0 w0 nt (out r) (e r) Q→Code.rounds P b Q n c w:=by
 induction h with
 |@done a r hx=>
  intro f
  obtain ⟨q,p⟩:=hx f
  refine ⟨q,1,fun m0 S0 w0 m S w c i u Q o=>p m0 S0 w0 m S w c i u _ ?_⟩
  intro s S' w' j l k
  have:=o s S' w' j l k
  revert d this
  cases e r with
  |normal=>intro d _;exact absurd rfl d
  |exit id=>intro _ h;exact h
  |ret=>intro _ h;exact h
  |panic v=>intro _ h;exact h
 |next hx _ ih=>
  intro f
  obtain ⟨q,p⟩:=hx f
  obtain ⟨l,n,k⟩:=ih d q
  refine ⟨l,n+1,fun m0 S0 w0 m S w c i u Q o=>p m0 S0 w0 m S w c i u _ ?_⟩
  intro s S' w' j x y
  exact k m0 S0 w0 s S' w' j x y Q o
theorem aI.ok {j:List bi} {nt:Nat} {b:Code} {α β:Type} {e:β→bJ} {st:α→St} {out:β→St} {a:α} {r:β} (d:e r ≠ .normal) (h:aI P ap j nt b e st out a r):ax P ap j nt (.loop b) (st a) (e r) (out r):=by
 intro f
 obtain ⟨l,n,k⟩:=h.rounds d f
 exact ⟨l,fun m0 S0 w0 m S w c i o Q p=>wp_loop_rounds n (k m0 S0 w0 m S w c i o Q p)⟩
theorem aI.blk {f:List bi} {n id:Nat} {b:Code} {α β:Type} {e:β→bJ} {st:α→St} {out:β→St} {a:α} {r:β} {s s':St} {e':bJ} (h:∀ nt,n≤nt→aI P ap f nt b e st out a r) (c:e r ≠ .normal) (k:pY id (e r)=e') (hs:aQ (st a) s) (j:aQ s' (out r)):aO P ap f n (.block id (.loop b)) s e' s':=by
 intro nt i
 have d:=((h nt i).ok c).block (id:=id)
 rw [k] at d
 exact d.weak hs j
def pX (id:Nat):Code→Option Code
 | .seq a b=>match pX id a with|some c=>some c|none=>pX id b
 | .cond _ a b=>match pX id a with|some c=>some c|none=>pX id b
 | .block i b=>match Nat.beq i id with|true=>some b|false=>pX id b
 | .loop b=>pX id b
 | .scope b=>pX id b
 |_=>none
def ag (id:Nat) (c:Code):Code:=match pX id c with|some (.loop b)=>b|_=> .skip
end
end AM
namespace AM
open Go
def gX (x y:List AV):Prop:=∀ g m S v,aY g m S x v→aY g m S y v
def ww:AV→Bool
 | .own _ _ _=>false
 | .tup _=>false
 |_=>true
theorem aW.refl (x:AV):aW x x:=fun _ _ _ _ h=>h
theorem gX.refl (x:List AV):gX x x:=fun _ _ _ _ h=>h
theorem gX.nil:gX [] []:=gX.refl []
theorem gX.cons {x y:AV} {l r:List AV} (h:aW x y) (b:gX l r):gX (x::l) (y::r):=by
 intro g m S v a
 cases v with
 |nil=>simp [aY] at a
 |cons u vs=>simp only [aY] at a ⊢;exact ⟨h g m S u a.1,b g m S vs a.2⟩
theorem aW.nilS (nn:Bool) (h:nn=false):aW .nilS (.sl [] 0 nn):=by
 subst h
 intro g m S v a
 simp only [VR,PR] at a ⊢
 exact ⟨none,0,a,Nat.le_refl _,.inl (by simp)⟩
theorem aW.sl (xs:List AV) (n:Nat) (a:Bool):aW (.sl xs n a) (.sl xs n false):=by
 intro g m S v d
 simp only [VR,PR] at d ⊢
 obtain ⟨a,b,e,c,q⟩:=d
 refine ⟨a,b,e,c, ?_⟩
 rcases q with ⟨_,f,h⟩|q
 ·exact .inl ⟨fun _=>trivial,f,h⟩
 ·exact .inr q
theorem aW.dead (x:AV):aW x .dead:=fun _ _ _ _ _=>by simp only [VR]
theorem aW.agg {l r:List AV} (h:gX l r):aW (.agg l) (.agg r):=by
 intro g m S v a
 simp only [VR] at a ⊢
 obtain ⟨vs,e,q⟩:=a
 exact ⟨vs,e,h _ _ _ _ q⟩
section
variable {P:Program} {ap:AP}
theorem aC.args {f:Nat} {args args':List AV} {h b:List bi} {out:jT} (e:gX args' args) (a:aC P ap f args h out b):aC P ap f args' h out b:=
 ⟨a.len,a.ent,fun m S w cargs d c=>a.calls m S w cargs d (e _ _ _ _ c)⟩
def jq (out out':jT):Prop:=(∀ n,mg n out=mg n out')∧∀ h' m' S' e,adP h' m' S' out e→adP h' m' S' out' e
theorem aC.out {f:Nat} {args:List AV} {h d:List bi} {out a:jT} (c:jq out a) (b:aC P ap f args h out d):aC P ap f args h a d:=
 ⟨b.len,b.ent,fun m S w cargs j i=>(b.calls m S w cargs j i).mono fun e w' ⟨m',S',hF⟩=> ⟨m',S',c.1 _ ▸ hF.srel,c.1 _ ▸ hF.fr,c.2 _ _ _ _ hF.out⟩⟩
theorem jZ {x:AV} (h:ww x=true):∀ xs k e,x ≠ .own xs k e:=by intro xs k e a;subst a;cases h
theorem wz {x:AV} (h:ww x=true):∀ l,x ≠ .tup l:=by intro l a;subst a;cases h
theorem jq.ret {x y:AV} (b:ww x=true) (a:ww y=true) (h:aW x y):jq (.ret x) (.ret y):=by
 refine ⟨fun n=> ?_,fun j i S' e d=> ?_⟩
 ·simp only [mg,ja n (jZ b) (wz b),ja n (jZ a) (wz a)]
 ·obtain ⟨cv,f,c⟩:=d
  refine ⟨cv,f, ?_⟩
  rw [lh (jZ b) (wz b)] at c
  rw [lh (jZ a) (wz a)]
  exact h _ _ _ _ c
inductive Gw:List AV→List AV→Prop where
 |nil:Gw [] []
 |same {x:AV} {l r:List AV}:Gw l r→Gw (x::l) (x::r)
 |fit {x y:AV} {l r:List AV}:ww x=true→ww y=true→aW x y→Gw l r→Gw (x::l) (y::r)
theorem Gw.blocks {l r:List AV} (h:Gw l r):∀ n,(dU n l).2=(dU n r).2:=by
 induction h with
 |nil=>intro n;rfl
 |@same x l r _ ih=>
  intro n
  rcases jm x with ⟨xs,k,e,rfl⟩|hx
  ·simp only [dU];rw [ih]
  ·rw [bD n hx,bD n hx];exact ih n
 |fit hx hy _ _ ih=>
  intro n
  rw [bD n (jZ hx),bD n (jZ hy)]
  exact ih n
theorem Gw.outR {gh b:dF} {m:aX} {S:aU} {l r:List AV} (h:Gw l r):∀ (n:Nat) (vs:List Value),jl gh b m S n l vs→jl gh b m S n r vs:=by
 induction h with
 |nil=>intro n vs a;exact a
 | @same x l r _ ih=>
  intro n vs a
  cases vs with
  |nil=>simp [jl] at a
  |cons v vs=>
   rcases jm x with ⟨xs,k,e,rfl⟩|hx
   ·simp only [jl] at a ⊢;exact ⟨a.1,ih _ _ a.2⟩
   ·rw [bU hx] at a ⊢;exact ⟨a.1,ih _ _ a.2⟩
 | fit hx hy hf _ ih=>
  intro n vs a
  cases vs with
  |nil=>simp [jl] at a
  |cons v vs=>
   rw [bU (jZ hx)] at a
   rw [bU (jZ hy)]
   exact ⟨hf _ _ _ _ a.1,ih _ _ a.2⟩
theorem jq.tup {l r:List AV} (h:Gw l r):jq (.ret (.tup l)) (.ret (.tup r)):=by
 refine ⟨fun n=> ?_,fun b j S' e d=> ?_⟩
 ·simp only [mg,lJ];exact h.blocks n
 ·obtain ⟨cv,f,a⟩:=d
  refine ⟨cv,f, ?_⟩
  simp only [Cb] at a ⊢
  obtain ⟨vs,c,q⟩:=a
  have i:(lJ b.length (.tup l)).2=(lJ b.length (.tup r)).2:=by simp only [lJ];exact h.blocks _
  refine ⟨vs,c, ?_⟩
  rw [i] at q
  exact h.outR _ _ q
end
end AM
namespace AM
open Go
def thaw:AV→AV
 | .own xs n e=> .sl (xs.take (n*e)) n true
 |x=>x
def zD:jT→jT
 | .ret (.tup l)=> .ret (.tup (l.map thaw))
 | .ret x=> .ret (thaw x)
 | .pan v=> .pan v
 | .retS one sh l=> .retS one sh l
theorem F5 {x:AV} (h:∀ xs k e,x ≠ .own xs k e):thaw x=x:=by
 cases x<;>first|rfl|exact absurd rfl (h _ _ _)
theorem rV (x:AV):∀ xs k e,thaw x ≠ .own xs k e:=by
 intro xs k e h
 cases x<;>simp [thaw] at h
theorem xN:∀ (l:List AV) (n:Nat),(dU n (l.map thaw)).2= []
 | [],_=>rfl
 |x::r,n=>by rw [List.map_cons,bD n (rV x)];exact xN r n
section
variable {P:Program} {ap:AP}
theorem Az {gh o g':dF} {m:aX} {S S':aU} {w:World} (p:bV ap o m S w) {rd:dF} (d:∀ b B,rd b=some B→o b=some B) (c:S'=dH S m rd w) (hother:∀ x v,VR gh m S x v→VR g' m S' x v):
  ∀ (l:List AV) (n:Nat) (vs:List Value),(∀ i B,(dU n l).2[i]? =some B→rd (n+i)=some B)→jl gh o m S n l vs→jl g' g' m S' n (l.map thaw) vs
 | [],n,vs,_,h=>by cases vs with|nil=>trivial|cons _ _=>simp [jl] at h
 |x::r,n,[],_,h=>by
  exfalso
  rcases jm x with ⟨xs,k,e,rfl⟩|f
  ·simp [jl] at h
  ·cases x<;>simp [jl] at h
 | x ::r,n,v::vs,hb,h=>by
  rcases jm x with ⟨xs,k,e,rfl⟩|f
  ·simp only [jl] at h
   simp only [dU] at hb
   have t:=hb 0 _ rfl
   rw [Nat.add_zero] at t
   have A:frz rd 6 (.ref n 0 0 k)=some (.sl (xs.take (k*e)) k true):=by
    simp [frz,t,JE]
   have D:=lG p d 6 _ _ _ A h.1
   rw [List.map_cons,bU (rV _)]
   refine ⟨gG _ (c ▸ D), ?_⟩
   have E:=Az p d c hother r (n+1) vs (fun i B C=>by rw [show n+1+i=n+(i+1) by omega];exact hb (i+1) B (by simpa using C)) h.2
   have key:∀ (l:List AV) (a b:Nat) (vs:List Value),(∀ x ∈ l,∀ xs k e,x ≠ .own xs k e)→jl g' g' m S' a l vs→jl g' g' m S' b l vs:=by
    intro l
    induction l with
    |nil=>intro a b vs _ h;cases vs with|nil=>trivial|cons _ _=>simp [jl] at h
    | cons y q ih=>
     intro a b vs s h
     cases vs with
     |nil=>cases y<;>simp [jl] at h
     |cons u us=>
      have j:=s y (by simp)
      rw [bU j] at h ⊢
      exact ⟨h.1,ih a b us (fun x f=>s x (by simp [f])) h.2⟩
   refine key _ (n+1) n vs ?_ E
   intro y j
   obtain ⟨z,_,rfl⟩:=List.mem_map.1 j
   exact rV z
  ·rw [bU f] at h
   rw [bD n f] at hb
   rw [List.map_cons,bU (rV x),F5 f]
   exact ⟨hother _ _ h.1,Az p d c hother r n vs hb h.2⟩
theorem aC.thaw {f:Nat} {args:List AV} {h a:List bi} {out:jT} (hp:∀ B ∈ a,B.pr=true) (G:aC P ap f args h out a):aC P ap f args h (zD out) a:=by
 by_cases hrs:∃ one O l,out= .retS one O l
 ·obtain ⟨one,O,l,rfl⟩:=hrs
  exact G
 refine ⟨G.len,G.ent,fun m S w cargs hS C=>(G.calls m S w cargs hS C).mono ?_⟩
 rintro e w' ⟨m',S',hF⟩
 obtain ⟨r,j,z⟩:=hF
 have u:∀ n,mg n (zD out)= []:=by
  intro n
  cases out with
  |retS one O l=>exact absurd ⟨_,_,_,rfl⟩ hrs
  |pan v=>rfl
  | ret x=>
   rcases A_ x with ⟨l,rfl⟩|ht
   ·simp only [zD,mg,lJ];exact xN l n
   ·have:zD (.ret x)= .ret (AM.thaw x):=by cases x<;>first|rfl|exact absurd rfl (ht _)
    rw [this]
    simp only [mg]
    have A:∀ l,AM.thaw x ≠ .tup l:=by intro l J;cases x<;>simp [AM.thaw] at J;exact ht _ rfl
    rw [ja n (rV x) A]
 let rd:dF:=fun b=>if a.length≤b then bH (a++mg a.length out) b else none
 have y:∀ b B,rd b=some B→bH (a++mg a.length out) b=some B:=by
  intro b B c
  simp only [rd] at c
  split at c
  ·exact c
  ·cases c
 have s:=nT S' m' rd w'
 have p:∀ b B,bH a b=some B→bH (a++mg a.length out) b=some B:=by
  intro b B c
  have:b<a.length:=(List.getElem?_eq_some_iff.1 c).1
  rw [eQ this];exact c
 have hother:∀ x v,VR (bH a) m' S' x v→VR (bH (a++mg a.length (zD out))) m' (dH S' m' rd w') x v:=by
  intro x v F
  rw [u,List.append_nil]
  exact pR s (Ge.refl _ _) x F
 refine ⟨m',dH S' m' rd w', ?_, ?_, ?_⟩
 ·rw [u,List.append_nil]
  refine ⟨fun b D B B' c R=>r.inj b D B B' (p b B c) (p D B' R), ?_,fun k o v C=>qi r C, ?_, ?_⟩
  ·intro b B c
   obtain ⟨⟨cur,e,vs,rest,d,t,I,T,L,X⟩,U,Q⟩:=r.blk b B (p b B c)
   have K:=hp B (List.mem_of_getElem? c)
   refine ⟨⟨cur,e,vs,rest,d,t,fun _=>dm s _ (I K),bW _ (dm s _ (I K)),L,X⟩,U,Q⟩
  ·intro b B c o v C
   rcases fJ C with d|⟨d,D,B',t,I,T⟩
   ·exact r.own b B (p b B c) o v d
   ·have:=r.inj b D B B' (p b B c) (y _ _ t) I.symm
    subst this
    have E:b<a.length:=(List.getElem?_eq_some_iff.1 c).1
    simp only [rd] at t
    rw [if_neg (by omega)] at t
    cases t
  ·intro k xs Z
   obtain ⟨vs,d,t⟩:=r.glob k xs Z
   exact ⟨vs,dm s _ d,t.mono s⟩
 ·rw [u,List.append_nil]
  refine ⟨?_,oW.trans j.sle s,j.os,j.tape,j.output,j.size,j.rest,fun b B c=>j.img b B (p b B c), ?_⟩
  ·intro b B c
   obtain ⟨B',d,t⟩:=j.ge b B c
   have E:b<a.length:=Nat.lt_of_lt_of_le (List.getElem?_eq_some_iff.1 c).1 G.len
   rw [eQ E] at d
   exact ⟨B',d,t⟩
  ·intro k o v C
   rcases fJ C with d|⟨d,D,B',t,I,T⟩
   ·exact j.sealN k o v d
   ·rcases j.img D B' (y _ _ t) with L|⟨B0,L,_⟩
    ·exact .inr (.inl (I ▸ L))
    ·exfalso
     have E:D<h.length:=(List.getElem?_eq_some_iff.1 L).1
     simp only [rd] at t
     rw [if_neg (by have:=G.len;omega)] at t
     cases t
 ·have M:∀ l,out= .ret (.tup l)→∀ i B,(dU a.length l).2[i]? =some B→rd (a.length+i)=some B:=by
   intro l J i B W
   subst J
   simp only [rd]
   rw [if_pos (by omega),iW (by omega),show a.length+i - a.length=i by omega]
   exact W
  cases out with
  |retS one O l=>exact absurd ⟨_,_,_,rfl⟩ hrs
  |pan v=>
   obtain ⟨cv,N,d⟩:=z
   refine ⟨cv,N, ?_⟩
   have:=hother v cv d
   rwa [u,List.append_nil] at this
  | ret x=>
   obtain ⟨cv,N,d⟩:=z
   rcases A_ x with ⟨l,rfl⟩|ht
   ·simp only [Cb] at d
    obtain ⟨vs,e2,q⟩:=d
    refine ⟨cv,N, ?_⟩
    simp only [Cb]
    refine ⟨vs,e2, ?_⟩
    have c:(lJ a.length (.tup (l.map AM.thaw))).2= []:=by simp only [lJ];exact xN l _
    rw [c,List.append_nil]
    have:=Az (gh:=bH a) (g':=bH a) r y rfl (fun x v F=>pR s (Ge.refl _ _) x F) l a.length vs (M l rfl) q
    exact this
   ·have Y:zD (.ret x)= .ret (AM.thaw x):=by cases x<;>first|rfl|exact absurd rfl (ht _)
    have A:∀ l,AM.thaw x ≠ .tup l:=by intro l J;cases x<;>simp [AM.thaw] at J;exact ht _ rfl
    rw [Y]
    refine ⟨cv,N, ?_⟩
    rw [lh (rV x) A]
    rcases jm x with ⟨xs,k,e,rfl⟩|F
    ·simp only [Cb] at d
     have h0:rd a.length=some (JE xs e):=by
      simp only [rd]
      rw [if_pos (Nat.le_refl _),iW (Nat.le_refl _),Nat.sub_self]
      rfl
     have V:frz rd 6 (.ref a.length 0 0 k)=some (.sl (xs.take (k*e)) k true):=by
      simp [frz,h0,JE]
     have:=lG r y 6 _ _ _ V d
     exact gG _ this
    ·rw [lh F ht] at d
     rw [F5 F]
     exact pR s (Ge.refl _ _) x d
end
end AM
namespace AM
open Go
structure qI (s s':St):Prop where
 env:∀ t,aW (s'.env.get t) (s.env.get t)
 hp:s.hp=s'.hp
 md:s.md=s'.md
 dfs:s.dfs=s'.dfs
theorem qI.refl (s:St):qI s s:=⟨fun _=>aW.refl _,rfl,rfl,rfl⟩
def I_:iP→(Nat→AV)→Prop
 | [],_=>True
 |(t,v)::r,f=>aW (f t) v∧I_ r f
theorem wW {f:Nat→AV}:∀ {e:iP},I_ e f→∀ t,aW (f t) (e.get t)
 | [],_,t=>aW.dead _
 | (u,v)::r,h,t=>by
  simp only [I_] at h
  simp only [iP.get,aA]
  cases a:Nat.beq u t with
  |true=>
   have:=aP a
   subst this
   exact h.1
  |false=>exact wW h.2 t
theorem qI.of {e e':iP} {hp:Hp} {md:AV} {dfs:List (Nat × List AV)} (h:I_ e e'.get):qI {env:=e,hp,md,dfs} {env:=e',hp,md,dfs}:=⟨wW h,rfl,rfl,rfl⟩
section
variable {P:Program} {ap:AP}
theorem FR.lessF {s s':St} (h:qI s s') {nt:Nat} {m:aX} {S:aU} {w:World} {a:Act} (b:FR ap s'.env s'.hp s'.dfs nt m S w a):FR ap s.env s.hp s.dfs nt m S w a:=by
 refine ⟨h.hp ▸ b.srel,fun t=> ?_, ?_,b.size⟩
 ·have:=h.env t _ _ _ _ (b.env t)
  rw [h.hp];exact this
 ·rw [h.hp,h.dfs];exact b.dfs
theorem ax.weakF {k:List bi} {nt:Nat} {b:Code} {s s' r j:St} {e:bJ} (h:ax P ap k nt b s e r) (hs:qI s s') (c:qI j r):ax P ap k nt b s' e j:=by
 intro f
 obtain ⟨p,n⟩:=h (hs.md ▸ f)
 refine ⟨c.md ▸ p,fun m0 S0 w0 m S w a i t Q x=>n m0 S0 w0 m S w a (by rw [hs.hp];exact i) (t.lessF hs) Q ?_⟩
 intro q S' w' l u o
 have:=x q S' w' l (by rw [c.hp];exact u) (o.lessF c)
 cases e with
 |normal=>exact this
 |exit id=>exact this
 |ret=>exact this
 |panic v=>intro cv d;exact this cv (by rw [c.hp];exact d)
theorem aI.blkF {f:List bi} {n id:Nat} {b:Code} {α β:Type} {e:β→bJ} {st:α→St} {out:β→St} {a:α} {r:β} {s s':St} {e':bJ} (h:∀ nt,n≤nt→aI P ap f nt b e st out a r) (c:e r ≠ .normal) (k:pY id (e r)=e') (hs:qI (st a) s) (j:qI s' (out r)):aO P ap f n (.block id (.loop b)) s e' s':=by
 intro nt i
 have d:=((h nt i).ok c).block (id:=id)
 rw [k] at d
 exact d.weakF hs j
end
end AM
namespace AM
open Go
def yG (b:Nat) (c v:Nat):Option (Nat × Nat):=match Nat.beq c b with|true=>none|false=>some (c,v)
inductive Fz (b:Nat) (B:bi):AV→AV→Prop
 |ren {x:AV}:Fz b B x (ren (yG b) x)
 |ref {i n:Nat}:Fz b B (.ref b B.ver i n) (.sl ((B.cells.drop (i*B.esz)).take (n*B.esz)) n true)
 |fit {x y z:AV}:Fz b B x y→aW y z→Fz b B x z
inductive FzL (b:Nat) (B:bi):List AV→List AV→Prop
 |nil:FzL b B [] []
 |cons {x y:AV} {l r:List AV}:Fz b B x y→FzL b B l r→FzL b B (x::l) (y::r)
theorem Fz.same {b:Nat} {B:bi} {x:AV} (h:AM.ren (yG b) x=x):Fz b B x x:=by
 have:=Fz.ren (b:=b) (B:=B) (x:=x)
 rwa [h] at this
theorem Fz.dead {b:Nat} {B:bi} (x:AV):Fz b B x .dead:= .fit .ren (aW.dead _)
theorem FzL.length {b:Nat} {B:bi} {l r:List AV} (h:FzL b B l r):l.length=r.length:=by
 induction h with
 |nil=>rfl
 |cons _ _ ih=>simp [ih]
structure NE (b:Nat) (B:bi) (C C':bi):Prop where
 ver:C'.ver=C.ver
 fro:C'.fro=C.fro
 fz:C'.fz=C.fz
 esz:C'.esz=C.esz
 body:(C.pr=true∧C'.cells=C.cells∧C'.pr=true)∨(FzL b B C.cells C'.cells∧(C'.pr=true→(bT C'.cells).isEmpty=true))
theorem NE.same {b:Nat} {B C:bi} (hp:C.pr=true):NE b B C C:=⟨rfl,rfl,rfl,rfl,.inl ⟨hp,rfl,hp⟩⟩
theorem NE.length {b:Nat} {B C C':bi} (h:NE b B C C'):C.cells.length=C'.cells.length:=by
 rcases h.body with ⟨_,e,_⟩|⟨e,_⟩
 ·rw [e]
 ·exact e.length
section
variable {P:Program} {ap:AP} {g:dF} {m:aX} {S:aU} {w:World}
def mY (b:Nat) (B:bi):dF:=fun c=>match Nat.beq c b with|true=>some B|false=>none
theorem tq {b c:Nat} {B C:bi} (h:mY b B c=some C):c=b∧C=B:=by
 unfold mY at h
 split at h
 ·rename_i a;cases h;exact ⟨aP a,rfl⟩
 ·cases h
theorem O9 (b:Nat) (B:bi):mY b B b=some B:=by unfold mY;rw [Nat.beq_refl]
theorem Fz.sound {b:Nat} {B:bi} (o:bV ap g m S w) (k:g b=some B) (f:B.pr=true) {g':dF} (j:tX g m g' m (yG b)) {x y:AV} (h:Fz b B x y):∀ {v:Value},VR g m S x v→VR g' m (dH S m (mY b B) w) y v:=by
 have e:∀ c C,mY b B c=some C→g c=some C:=by
  intro c C l
  obtain ⟨rfl,rfl⟩:=tq l
  exact k
 induction h with
 |ren=>intro v a;exact xm (nT S m (mY b B) w) j _ a
 | @ref i n=>
  intro v a
  have d:frz (mY b B) 6 (.ref b B.ver i n)=some (.sl ((B.cells.drop (i*B.esz)).take (n*B.esz)) n true):=by
   simp [frz,O9,f]
  exact gG _ (lG o e 6 _ _ _ d a)
 |fit _ d ih=>intro v a;exact d _ _ _ _ (ih a)
theorem FzL.sound {b:Nat} {B:bi} (d:bV ap g m S w) (f:g b=some B) (c:B.pr=true) {g':dF} (e:tX g m g' m (yG b)) {l r:List AV} (h:FzL b B l r):∀ {vs:List Value},aY g m S l vs→aY g' m (dH S m (mY b B) w) r vs:=by
 induction h with
 |nil=>intro vs a;cases vs with|nil=>simp [aY]|cons _ _=>simp [aY] at a
 | cons hx _ ih=>
  intro vs a
  cases vs with
  |nil=>simp [aY] at a
  |cons v vs=>
   simp only [aY] at a ⊢
   exact ⟨hx.sound d f c e a.1,ih a.2⟩
theorem wQ:∀ {l:List AV} {vs:List Value},(bT l).isEmpty=true→aY g m S l vs→dV S l vs
 | [],[],_,_=>by simp [dV]
 |x::l,v::vs,h,hv=>by
  simp only [bT,List.isEmpty_iff,List.append_eq_nil_iff] at h
  rw [← List.isEmpty_iff,← List.isEmpty_iff] at h
  simp only [aY] at hv
  simp only [dV]
  exact ⟨m_ h.1 hv.1,wQ h.2 hv.2⟩
 | [],_::_,_,hv=>by simp [aY] at hv
 |_::_,[],_,hv=>by simp [aY] at hv
theorem GZ {g g':dF} {m e:aX} {S S':aU} {ρ:Nat→Nat→Option (Nat × Nat)} (b:oW S S') (c:tX g m g' e ρ):∀ {l:List (Nat × List AV)} {ds:List Deferred},gW g m S l ds→gW g' e S' (l.map fun d=>(d.1,mP ρ d.2)) ds
 | [],[],_=>by simp only [List.map_nil,gW]
 |d::r,cd::cr,h=>by
  simp only [gW] at h
  simp only [List.map_cons,gW]
  obtain ⟨⟨a,j,i⟩,f⟩:=h
  exact ⟨⟨a,j,kF b c _ i⟩,GZ b c f⟩
 | [],_::_,h=>by simp [gW] at h
 |_::_,[],h=>by simp [gW] at h
theorem Wy {y:List bi} {nt:Nat} {r i:St} {m0 h:aX} {S0 S':aU} {w0 w':World} {K:Act} (b:Nat) (B:bi) (hb0:y.length≤b) (I:aA r.hp b=some B) (z:B.pr=true)
  (hd:i.dfs=r.dfs.map fun d=>(d.1,mP (yG b) d.2))
  (henv:∀ t,Fz b B (r.env.get t) (i.env.get t))
  (hdom:∀ c C',aA i.hp c=some C'→c ≠ b∧∃ C,aA r.hp c=some C∧NE b B C C')
  (hall:∀ c C,c ≠ b→aA r.hp c=some C→∃ C',aA i.hp c=some C')
  (h5:Fr (bH y) m0 S0 w0 (aA r.hp) h S' w') (h6:FR ap r.env r.hp r.dfs nt h S' w' K):
  ∃ S2,Fr (bH y) m0 S0 w0 (aA i.hp) h S2 w'∧FR ap i.env i.hp i.dfs nt h S2 w' K:=by
 have f:=h6.srel
 have q:=nT S' h (mY b B) w'
 have hrd:∀ c C,mY b B c=some C→aA r.hp c=some C:=by
  intro c C j
  obtain ⟨rfl,rfl⟩:=tq j
  exact I
 have n:tX (aA r.hp) h (aA i.hp) h (yG b):=by
  intro c ver V Z hρ C u s
  unfold yG at hρ
  split at hρ
  ·cases hρ
  ·rename_i O
   cases hρ
   have x:c ≠ b:=by intro e;subst e;simp at O
   obtain ⟨C',l⟩:=hall c C x u
   obtain ⟨_,C2,p,a⟩:=hdom c C' l
   rw [u] at p;cases p
   exact ⟨C',l,by rw [a.ver];exact s,fun e=> ⟨by rw [← a.ver];exact e,rfl,a.esz⟩⟩
 have R:bV ap (aA i.hp) h (dH S' h (mY b B) w') w':=by
  refine ⟨?_, ?_,fun k o v s=>qi f s, ?_, ?_⟩
  ·intro c V C C' j T hm
   obtain ⟨_,D,hD,_⟩:=hdom c C j
   obtain ⟨_,D',L,_⟩:=hdom V C' T
   exact f.inj c V D D' hD L hm
  ·intro c C' j
   obtain ⟨_,C,u,a⟩:=hdom c C' j
   obtain ⟨⟨cur,ee,vs,rest,k1,k2,k3,k4,k5,k6⟩,hz,N⟩:=f.blk c C u
   have A:(C'.pr=true→dV (dH S' h (mY b B) w') C'.cells vs)∧aY (aA i.hp) h (dH S' h (mY b B) w') C'.cells vs:=by
    rcases a.body with ⟨W,U,q3⟩|⟨W,U⟩
    ·have:=dm q _ (k3 W)
     rw [U]
     exact ⟨fun _=>this,bW _ this⟩
    ·have s:=W.sound f I z n k4
     exact ⟨fun hp=>wQ (U hp) s,s⟩
   exact ⟨⟨cur,ee,vs,rest,by rw [a.esz];exact k1,k2,A.1,A.2,by rw [a.esz];exact k5,fun hp=>by rw [a.esz] at hp ⊢;exact k6 hp⟩,fun hp=>by rw [a.fz];exact hz (by rw [← a.fro];exact hp),by rw [a.fz,← a.length];exact N⟩
  ·intro c C' j o v s
   obtain ⟨x,C,u,a⟩:=hdom c C' j
   rw [a.fro,a.fz]
   rcases fJ s with G|⟨G,J,B',X,Y,h4⟩
   ·exact f.own c C u o v G
   ·obtain ⟨rfl,rfl⟩:=tq X
    exact absurd (f.inj c J C B' u I Y.symm) x
  ·intro k xs hk
   obtain ⟨vs,k1,k2⟩:=f.glob k xs hk
   exact ⟨vs,dm q _ k1,k2.mono q⟩
 have F:Fr (bH y) m0 S0 w0 (aA i.hp) h (dH S' h (mY b B) w') w':=by
  refine ⟨?_,oW.trans h5.sle q,h5.os,h5.tape,h5.output,h5.size,h5.rest, ?_, ?_⟩
  ·intro c C j
   have hlt:c<y.length:=(List.getElem?_eq_some_iff.1 j).1
   obtain ⟨C1,E,e1,e2⟩:=h5.ge c C j
   obtain ⟨C',l⟩:=hall c C1 (by omega) E
   obtain ⟨_,C2,p,a⟩:=hdom c C' l
   rw [E] at p;cases p
   exact ⟨C',l,by rw [a.esz];exact e1,by rw [a.ver];exact e2⟩
  ·intro c C' j
   obtain ⟨_,C,u,_⟩:=hdom c C' j
   exact h5.img c C u
  ·intro k o v s
   rcases fJ s with G|⟨G,J,B',X,Y,h4⟩
   ·exact h5.sealN k o v G
   ·obtain ⟨rfl,rfl⟩:=tq X
    rcases h5.img J B' I with Q|⟨B0,Q,_⟩
    ·exact .inr (.inl (Y ▸ Q))
    ·have:J<y.length:=(List.getElem?_eq_some_iff.1 Q).1
     omega
 have M:FR ap i.env i.hp i.dfs nt h (dH S' h (mY b B) w') w' K:=by
  refine ⟨R,fun t=>(henv t).sound f I z n (h6.env t), ?_,h6.size⟩
  rw [hd]
  exact GZ q n h6.dfs
 exact ⟨_,F,M⟩
theorem ax.freeze {p:List bi} {nt:Nat} {f:Code} {s r i:St} {e:bJ} (b:Nat) (B:bi) (h:ax P ap p nt f s e r) (A:∀ v,e ≠ .panic v) (k:p.length≤b) (D:aA r.hp b=some B) (n:B.pr=true)
  (hmd:i.md=r.md) (hd:i.dfs=r.dfs.map fun d=>(d.1,mP (yG b) d.2))
  (henv:∀ t,Fz b B (r.env.get t) (i.env.get t))
  (hdom:∀ c C',aA i.hp c=some C'→c ≠ b∧∃ C,aA r.hp c=some C∧NE b B C C')
  (hall:∀ c C,c ≠ b→aA r.hp c=some C→∃ C',aA i.hp c=some C'):ax P ap p nt f s e i:=by
 intro hs
 obtain ⟨E,z⟩:=h hs
 refine ⟨hmd ▸ E,fun m0 S0 w0 m S w a o G Q y=>z m0 S0 w0 m S w a o G Q ?_⟩
 intro F S' w' q x u
 obtain ⟨S2,j,l⟩:=Wy b B k D n hd henv hdom hall x u
 have:=y F S2 w' q j l
 cases e with
 |normal=>exact this
 |exit id=>exact this
 |ret=>exact this
 |panic v=>exact absurd rfl (A v)
def VV (b:Nat) (B:bi):iP→(Nat→AV)→Prop
 | [],_=>True
 |(t,v)::r,f=>Fz b B (f t) v∧VV b B r f
theorem uM {b:Nat} {B:bi} {f:Nat→AV}:∀ {e:iP},VV b B e f→∀ t,Fz b B (f t) (e.get t)
 | [],_,t=>Fz.dead _
 | (u,v)::r,h,t=>by
  simp only [VV] at h
  simp only [iP.get,aA]
  cases a:Nat.beq u t with
  |true=>
   have:=aP a
   subst this
   exact h.1
  |false=>exact uM h.2 t
def Qx (b:Nat) (B:bi):Hp→Hp→Prop
 | [],l=>l= [(b,B)]
 |(c,C)::r,(d,D)::l=>c=d∧NE b B D C∧c ≠ b∧Qx b B r l
 |_::_,[]=>False
theorem Jh {b:Nat} {B:bi}:∀ {r l:Hp},Qx b B r l→∀ c C',aA r c=some C'→c ≠ b∧∃ C,aA l c=some C∧NE b B C C'
 | [],l,_,c,C',hc=>by simp [aA] at hc
 | (d,D)::r,(d',D')::l,h,c,C',hc=>by
  simp only [Qx] at h
  obtain ⟨rfl,e,f,i⟩:=h
  simp only [aA] at hc ⊢
  cases a:Nat.beq d c with
  |true=>
   rw [a] at hc
   have:=aP a
   subst this
   cases hc
   exact ⟨f,D',rfl,e⟩
  |false=>
   rw [a] at hc
   exact Jh i c C' hc
 |_::_,[],h,_,_,_=>by simp [Qx] at h
theorem Jg {b:Nat} {B:bi}:∀ {r l:Hp},Qx b B r l→∀ c C,c ≠ b→aA l c=some C→∃ C',aA r c=some C'
 | [],l,h,c,C,hcb,hc=>by
  simp only [Qx] at h
  subst h
  simp only [aA] at hc
  split at hc
  ·rename_i a;exact absurd (aP a).symm hcb
  ·cases hc
 |(d,D)::r,(d',D')::l,h,c,C,hcb,hc=>by
  simp only [Qx] at h
  obtain ⟨rfl,f,i,e⟩:=h
  simp only [aA] at hc ⊢
  cases a:Nat.beq d c with
  |true=>exact ⟨D,rfl⟩
  |false=>rw [a] at hc;exact Jg e c C hcb hc
 |_::_,[],h,_,_,_,_=>by simp [Qx] at h
theorem Ew {b:Nat} {B:bi}:∀ {r l:Hp},Qx b B r l→aA l b=some B
 | [],l,h=>by
  simp only [Qx] at h
  subst h
  simp [aA]
 |(d,D)::r,(d',D')::l,h=>by
  simp only [Qx] at h
  obtain ⟨rfl,f,a,c⟩:=h
  simp only [aA]
  cases e:Nat.beq d b with
  |true=>exact absurd (aP e) a
  |false=>exact Ew c
 |_::_,[],h=>by simp [Qx] at h
theorem ax.forget {j:List bi} {nt:Nat} {a:Code} {s:St} {e:bJ} (b:Nat) (B:bi) {k d:iP} {hp c:Hp} {md:AV} (h:ax P ap j nt a s e {env:=k,hp,md,dfs:= []}) (l:∀ v,e ≠ .panic v) (i:j.length≤b) (f:B.pr=true)
  (henv:VV b B d (iP.get k)) (hhp:Qx b B c hp):ax P ap j nt a s e {env:=d,hp:=c,md,dfs:= []}:=
 h.freeze b B l i (Ew hhp) f rfl rfl (uM henv) (Jh hhp) (Jg hhp)
theorem ax.forgetD {k:List bi} {nt:Nat} {a:Code} {s:St} {e:bJ} (b:Nat) (B:bi) {l f:iP} {hp c:Hp} {md:AV} {dfs:List (Nat × List AV)} (h:ax P ap k nt a s e {env:=l,hp,md,dfs}) (n:∀ v,e ≠ .panic v) (j:k.length≤b) (i:B.pr=true)
  (henv:VV b B f (iP.get l)) (hhp:Qx b B c hp) (hd:dfs.map (fun d=>(d.1,mP (yG b) d.2))=dfs):ax P ap k nt a s e {env:=f,hp:=c,md,dfs}:=
 h.freeze b B n j (Ew hhp) i rfl hd.symm (uM henv) (Jh hhp) (Jg hhp)
end
end AM
namespace AM
open Go
def Em (P:Program) (f:TypeId→Option (List LK)):List Field→Nat→Option (List LK)
 | [],_=>some []
 | x::r,off=>match f x.type with
  |some l=>match Nat.beq x.offset off && Nat.beq (P.cellsOf x.type) l.length with
   |true=>match Em P f r (off+l.length) with|some q=>some (l++q)|none=>none
   |false=>none
  |none=>none
def Hy (P:Program):Nat→TypeId→Option (List LK)
 |0,_=>none
 | n+1,t=>match P.underlying t with
  |some (.int k)=>some [.int k]
  |some .bool=>some [.bool]
  |some .string=>some [.str]
  |some (.struct fs)=>match Em P (Hy P n) fs.toList 0 with
   |some l=>match Nat.beq (P.cellsOf t) l.length with|true=>some l|false=>none
   |none=>none
  |some (.array m e)=>match Hy P n e with
   |some l=>match Nat.beq (P.cellsOf e) l.length && Nat.beq (P.cellsOf t) (m*l.length) with|true=>some (List.replicate m l).flatten|false=>none
   |none=>none
  |_=>none
inductive fO:List LK→List Value→Prop
 |nil:fO [] []
 |int {k:IntKind} {n:Int} {r:List LK} {l:List Value}:fO r l→fO (.int k::r) (.int k n::l)
 |bool {b:Bool} {r:List LK} {l:List Value}:fO r l→fO (.bool::r) (.bool b::l)
 |str {s:ByteArray} {r:List LK} {l:List Value}:fO r l→fO (.str::r) (.string s::l)
theorem fO.app {a b:List LK} {x y:List Value} (h:fO a x) (c:fO b y):fO (a++b) (x++y):=by
 induction h with
 |nil=>exact c
 |int _ ih=>exact .int ih
 |bool _ ih=>exact .bool ih
 |str _ ih=>exact .str ih
theorem fO.length {a:List LK} {x:List Value} (h:fO a x):a.length=x.length:=by
 induction h with
 |nil=>rfl
 |int _ ih=>simp [ih]
 |bool _ ih=>simp [ih]
 |str _ ih=>simp [ih]
def rZ:Value→AV
 | .int k n=> .int k n
 | .bool b=> .bool b
 | .string s=> .str s.data.toList
 |_=> .dead
theorem fO.pr {S:aU} {a:List LK} {x:List Value} (h:fO a x):dV S (x.map rZ) x:=by
 induction h with
 |nil=>simp [dV]
 |int _ ih=>simp only [List.map_cons,dV];exact ⟨by simp [rZ,PR],ih⟩
 |bool _ ih=>simp only [List.map_cons,dV];exact ⟨by simp [rZ,PR],ih⟩
 |@str s _ _ _ ih=>simp only [List.map_cons,dV];exact ⟨by simp [rZ,PR],ih⟩
theorem fO.one {a:List LK} {x:List Value} (h:fO a x):∀ u ∈ x,u.oneCell'=true:=by
 induction h with
 |nil=>intro u b;cases b
 |int _ ih=>
  intro u b
  rcases List.mem_cons.1 b with rfl|b
  ·rfl
  ·exact ih u b
 |bool _ ih=>
  intro u b
  rcases List.mem_cons.1 b with rfl|b
  ·rfl
  ·exact ih u b
 |str _ ih=>
  intro u b
  rcases List.mem_cons.1 b with rfl|b
  ·rfl
  ·exact ih u b
section
variable {H:Type} {enc:TypeId × Value→H} {P:Program} {w:World} {base:Nat} {spare:Nat→Bool} {held:Bool}
theorem Bv {n:Nat} {f:TypeId→Option (List LK)} (c:∀ t ks,f t=some ks→∀ (fuel:Nat) (a:List Value) (x:DataW H × List MemPlace),DataW.trod enc P w base spare held fuel t a=some x→fO ks a) {a:List Value}:∀ (r:List Field) (off:Nat) (ks:List LK),Em P f r off=some ks→
  (∀ (i:Nat) (x:Field),r[i]? =some x→∃ y,DataW.trod enc P w base spare held n x.type ((a.drop x.offset).take (P.cellsOf x.type))=some y)→fO ks ((a.drop off).take ks.length)
 | [],off,ks,h,_=>by
  simp only [Em] at h
  cases h
  simpa using fO.nil
 | x ::r,off,ks,h,hx=>by
  simp only [Em] at h
  split at h
  ·rename_i l j
   split at h
   ·rename_i b
    simp only [Bool.and_eq_true] at b
    have u:=Nat.eq_of_beq_eq_true b.1
    have k:=Nat.eq_of_beq_eq_true b.2
    split at h
    ·rename_i q o
     cases h
     obtain ⟨y,e⟩:=hx 0 x rfl
     have d:=c _ _ j _ _ _ e
     rw [u,k] at d
     have s:=Bv c r (off+l.length) q o (fun i f p=>hx (i+1) f (by simpa using p))
     rw [List.length_append,List.take_add,List.drop_drop]
     exact d.app s
    ·cases h
   ·cases h
  ·cases h
theorem TL:∀ (n:Nat) (t:TypeId) (ks:List LK),Hy P n t=some ks→∀ (d:Nat) (y:List Value) (x:DataW H × List MemPlace),DataW.trod enc P w base spare held d t y=some x→fO ks y:=by
 intro n
 induction n with
 |zero=>intro t ks h;simp [Hy] at h
 | succ n ih=>
  intro t ks h d y x p
  simp only [Hy] at h
  split at h
  ·rename_i k c
   cases h
   obtain ⟨m,rfl,_⟩:=DataW.trod_int c p
   exact .int .nil
  ·rename_i c
   cases h
   obtain ⟨b,rfl,_⟩:=DataW.trod_bool c p
   exact .bool .nil
  ·rename_i c
   cases h
   obtain ⟨s,rfl,_⟩:=DataW.trod_string c p
   exact .str .nil
  ·rename_i F c
   split at h
   ·rename_i l A
    split at h
    ·rename_i r
     cases h
     obtain ⟨xs,m,rfl,_,a,o,z⟩:=DataW.trod_struct c p
     have e:=Nat.eq_of_beq_eq_true r
     have D:=Bv (n:=m) ih F.toList 0 ks A (fun i f G=>by
      have u:F[i]? =some f:=by simpa using G
      have v:=z i f u
      have B:i<xs.length:=by rw [o];exact (Array.getElem?_eq_some_iff.1 u).1
      rw [List.getElem?_eq_getElem B] at v
      exact ⟨_,v⟩)
     rw [List.drop_zero,← e,← a,List.take_length] at D
     exact D
    ·cases h
   ·cases h
  ·rename_i m e c
   split at h
   ·rename_i l A
    split at h
    ·rename_i r
     cases h
     simp only [Bool.and_eq_true] at r
     have L:=Nat.eq_of_beq_eq_true r.1
     have J:=Nat.eq_of_beq_eq_true r.2
     obtain ⟨xs,q,rfl,_,a,o,z⟩:=DataW.trod_array c p
     have key:∀ j,j≤m→fO (List.replicate j l).flatten ((y.drop ((m - j)*l.length)).take (j*l.length)):=by
      intro j
      induction j with
      |zero=>intro _;simpa using fO.nil
      | succ j ihj=>
       intro M
       have v:=z (m - (j+1)) (by omega)
       rw [List.getElem?_eq_getElem (by omega)] at v
       have E:=ih _ _ A _ _ _ v
       rw [L] at E
       have K:=ihj (by omega)
       rw [List.replicate_succ,List.flatten_cons,Nat.add_mul,Nat.one_mul,Nat.add_comm (j*l.length),List.take_add,List.drop_drop]
       have I:(m - (j+1))*l.length+l.length=(m - j)*l.length:=by
        rw [← Nat.succ_mul];congr 1;omega
       rw [I]
       exact E.app K
     have C:=key m (Nat.le_refl _)
     rw [Nat.sub_self,Nat.zero_mul,List.drop_zero,← J,← a,List.take_length] at C
     exact C
    ·cases h
   ·cases h
  ·cases h
end
end AM
namespace AM
open Go
def yl:Nat→Nat→List Bool
 |0,_=> []
 |n+1,k=>Nat.beq (k % 2) 1::yl n (k / 2)
def YH:Nat→List Bool→List Bool
 |0,l=>l
 |n+1,l=>true::YH n l
theorem jd.n (k:Nat) {l:List Bool} (h:jd l):jd (YH k l):=by
 induction k with
 |zero=>exact h
 |succ k ih=>exact .t ih
theorem jd.k (k:Nat) {b:Bool} {l:List Bool} (a:b=true) (h:jd l):jd (YH k (b::l)):= .n k (.c a h)
theorem tf (b:Bool):b=true∨b=false:=by cases b<;>simp
theorem aG {b:Bool} (h:b=true):lit true b=true:=h
theorem aF {b:Bool} (h:b=false):lit false b=true:=by subst h;rfl
theorem eF {b:Bool} (h:b=false):lit true (!b)=true:=by subst h;rfl
theorem a_ {b:Bool} (h:b=true):lit false (!b)=true:=by subst h;rfl
inductive PS (P:Program) (ap:AP):List Prop→List (jT × List bi)→xZ→List wJ→Prop where
 |nil:PS P ap [] [] [] []
 |c {f:Nat} {args:List AV} {h h':List bi} {out:jT} {ps:List Prop} {ans:List (jT × List bi)} {lps:xZ} {hs:List wJ}:aC P ap f args h out h'→PS P ap ps ans lps hs→PS P ap (aC P ap f args h out h'::ps) (ans++ [(out,h')]) lps hs
 |l {h0:List bi} {n:Nat} {code:Code} {s s':St} {e:bJ} {ps:List Prop} {ans:List (jT × List bi)} {lps:xZ} {hs:List wJ}:aO P ap h0 n code s e s'→PS P ap ps ans lps hs→PS P ap (aO P ap h0 n code s e s'::ps) ans (lps++ [(e,s')]) hs
 |v (d:Nat) {x y:AV} {ps:List Prop} {ans:List (jT × List bi)} {lps:xZ} {hs:List wJ}:aW x y→PS P ap ps ans lps hs→PS P ap (aW x y::ps) ans lps (hs++ [.v d y])
 |b (d:Nat) {x y:List AV} {ps:List Prop} {ans:List (jT × List bi)} {lps:xZ} {hs:List wJ}:x=y→PS P ap ps ans lps hs→PS P ap ((x=y)::ps) ans lps (hs++ [.b d y])
 |u (d:Nat) {x y:List (Option bi)} {ps:List Prop} {ans:List (jT × List bi)} {lps:xZ} {hs:List wJ}:x=y→PS P ap ps ans lps hs→PS P ap ((x=y)::ps) ans lps (hs++ [.u d])
theorem PS.all {P:Program} {ap:AP} {ps:List Prop} {ans:List (jT × List bi)} {lps:xZ} {hs:List wJ} (h:PS P ap ps ans lps hs):qH ps:=by
 induction h with
 |nil=>exact .nil
 |c h _ ih=>exact .cons h ih
 |l h _ ih=>exact .cons h ih
 |v _ h _ ih=>exact .cons h ih
 |b _ h _ ih=>exact .cons h ih
 |u _ h _ ih=>exact .cons h ih
theorem ck {P:Program} {ap:AP} (g:DJ P ap) {ans:List (jT × List bi)} {ps:List Prop} {f:Nat} {args:List AV} {h a:List bi} {out:jT} (hp:PS P ap ps ans [] [])
  (he:uw ap (xO P ap 3000 4) 3000 .dead f args h ⟨true,[],[],[],ans,[]⟩= .ok (out,a,.dead) ⟨true,[],[],ps,[],[]⟩):aC P ap f args h out a:=lC g hp.all he
theorem pk {P:Program} {ap:AP} (g:DJ P ap) (ls:List Nat) (n k:Nat) {ans:List (jT × List bi)} {lps:xZ} {hs:List wJ} {bs:List Bool} {ps:List Prop} {f:Nat} {args:List AV} {h a:List bi} {out:jT}
  (hb:jd bs) (hp:PS P ap ps ans lps hs) (he:KA P ap (xO P ap 3000 4) 3000 ls f args h lps ⟨false,yl n k,[],[],ans,hs⟩= .ok (out,a,.dead) ⟨false,[],bs,ps,[],[]⟩):aC P ap f args h out a:=by
 obtain ⟨c,b⟩:=lK g.apok g.mixed g.fnok 3000 4
 exact KC g.apok g.mixed g.fnok c b he ⟨hb.mem,hp.all.mem⟩
def Jm (ap:AP) (f:Nat):List Nat:=match ap.fnAt f with|some F=>F.keep|none=> []
def Q4 (env:iP):R ((bJ × St) × xZ)→R ((bJ × St) × xZ)
 | .ok ((e,s),l) c=> .ok ((e,⟨env.map fun q=>(q.1,s.env.get q.1),s.hp,s.md,s.dfs⟩),l) c
 |r=>r
def O6 (P:Program) (ap:AP) (h0:List bi) (f nt0:Nat) (ls:List Nat) (code:Code) (s:St) (lps:xZ) (orc:List Bool) (ans:List (jT × List bi)) (hs:List wJ) (env:iP):R ((bJ × St) × xZ):=
 match dJ nt0 code with
 |true=>Q4 env (lZ P ap (xO P ap 3000 4) h0 (Jm ap f) 3000 nt0 ls code s lps ⟨false,orc,[],[],ans,hs⟩)
 |false=> .bad 0
theorem WF (env a:iP):∀ t,iP.get (env.map fun q=>(q.1,a.get q.1)) t=a.get t∨iP.get (env.map fun q=>(q.1,a.get q.1)) t= .dead:=by
 intro t
 induction env with
 |nil=>exact .inr rfl
 | cons q r ih=>
  cases b:Nat.beq q.1 t with
  |true=>
   left
   have:=Nat.eq_of_beq_eq_true b
   subst this
   simp only [iP.get,List.map_cons,aA,b,Option.getD_some]
  | false=>
   have e:iP.get (List.map (fun q=>(q.1,a.get q.1)) (q::r)) t=iP.get (List.map (fun q=>(q.1,a.get q.1)) r) t:=by
    simp only [iP.get,List.map_cons,aA,b]
   rw [e];exact ih
theorem pj {P:Program} {ap:AP} (g:DJ P ap) (f:Nat) (ls:List Nat) (n k:Nat) {nt b:Nat} {ans:List (jT × List bi)} {lps:xZ} {hs:List wJ} {bs:List Bool} {ps:List Prop} {a:Code} {s s':St} {d:List bi} {e:bJ}
  (hb:jd bs) (hp:PS P ap ps ans lps hs) (hn:b≤nt) (he:O6 P ap d f b ls a s lps (yl n k) ans hs s'.env= .ok ((e,s'),[]) ⟨false,[],bs,ps,[],[]⟩):ax P ap d nt a s e s':=by
 unfold O6 at he
 split at he
 ·rename_i hd
  generalize l:lZ P ap (xO P ap 3000 4) d (Jm ap f) 3000 b ls a s lps ⟨false,yl n k,[],[],ans,hs⟩=r at he
  cases r with
  |ok q c=>
   obtain ⟨⟨p,o⟩,t⟩:=q
   simp only [Q4,R.ok.injEq,Prod.mk.injEq] at he
   obtain ⟨⟨⟨rfl,h⟩,rfl⟩,rfl⟩:=he
   obtain ⟨j,u⟩:=lK g.apok g.mixed g.fnok 3000 4
   have i:ax P ap d nt a s p o:=(uH g.apok g.mixed j hn a (dW hn a hd) _ _ _ _ _ l ⟨hb.mem,hp.all.mem⟩).2
   refine i.weak (aQ.refl _) ?_
   rw [← h]
   exact ⟨WF _ _,rfl,rfl,rfl⟩
  |need=>simp [Q4] at he
  |bad n=>simp [Q4] at he
 ·cases he
theorem aW.pp {xs d:List AV} {a:Nat} (h:List.drop a xs=d):aW (.pp xs a) (.pp d 0):=by
 subst h
 intro g m S v c
 simp only [VR,PR] at c ⊢
 obtain ⟨b,o,vs,rfl,hp,hs⟩:=c
 refine ⟨b,o+a,vs.drop a,rfl,qJ a hp,fun j u e=> ?_⟩
 rw [List.getElem?_drop] at e
 have:=hs (a+j) u e
 rwa [← Nat.add_assoc] at this
theorem aW.ppt {xs c f:List AV} {a:Nat} (h:List.drop a xs=c++f):aW (.pp xs a) (.pp c 0):=by
 intro g m S v e
 have:=aW.pp h g m S v e
 simp only [VR,PR] at this ⊢
 obtain ⟨b,o,vs,rfl,hp,hs⟩:=this
 refine ⟨b,o,vs.take c.length,rfl, ?_,fun j u d=> ?_⟩
 ·have:=kD c.length hp
  rwa [List.take_left'] at this
  rfl
 ·rw [List.getElem?_take] at d
  split at d
  ·exact hs j u d
  ·cases d
theorem aW.eq {x y:AV} (h:x=y):aW x y:=h ▸ fun _ _ _ _ a=>a
theorem aW.rd (ks:List LK) {xs b c:List AV} {a:Nat} (h:List.drop a xs=b++c) (d:MF true ks (b++c)=b):aW (.agg (vk true ks xs a)) (.agg b):= .eq (by unfold vk;rw [h,d])
theorem jd.a {l r:List Bool} (h:jd l) (a:jd r):jd (l++r):=by
 induction h with
 |nil=>exact a
 |t _ ih=>exact .t ih
 |c hb _ ih=>exact .c hb ih
theorem jd.of {l:List Bool} (h:l.all id=true):jd l:=by
 induction l with
 |nil=>exact .nil
 |cons b r ih=>
  simp only [List.all_cons,id,Bool.and_eq_true] at h
  exact .c h.1 (ih h.2)
theorem sF (ks:List LK) {xs b c:List AV} {a:Nat} (h:List.drop a xs=b++c) (d:(Vs true ks (b++c)).all id=true):jd (IX true ks xs a):=by
 unfold IX;rw [h];exact .of d
inductive YO:List AV→List AV→Prop where
 |nil:YO [] []
 |same {x:AV} {l r:List AV}:YO l r→YO (x::l) (x::r)
 |nilS {l r:List AV}:YO l r→YO (.nilS::l) (.sl [] 0 false::r)
 |sl {xs:List AV} {n:Nat} {a:Bool} {l r:List AV}:YO l r→YO (.sl xs n a::l) (.sl xs n false::r)
theorem YO.prl {S:aU} {l r:List AV} (h:YO l r):∀ {vs:List Value},dV S l vs→dV S r vs:=by
 induction h with
 |nil=>exact fun h=>h
 |same _ ih=>intro vs b;cases vs with|nil=>simp [dV] at b|cons v vs=>simp only [dV] at b ⊢;exact ⟨b.1,ih b.2⟩
 | nilS _ ih=>
  intro vs b
  cases vs with
  |nil=>simp [dV] at b
  |cons v vs=>
   simp only [dV,PR] at b ⊢
   exact ⟨⟨none,0,b.1,Nat.le_refl _,.inl (by simp)⟩,ih b.2⟩
 | @sl xs n a _ _ _ ih=>
  intro vs b
  cases vs with
  |nil=>simp [dV] at b
  |cons v vs=>
   have c:=b
   simp only [dV] at c ⊢
   refine ⟨?_,ih c.2⟩
   have d:=aW.sl xs n a (fun _=>none) (fun _=>(0,0)) S v (by simp only [VR];exact c.1)
   simpa only [VR] using d
theorem aW.slP {xs f:List AV} {n:Nat} {nn:Bool} (j:YO xs f):aW (.sl xs n nn) (.sl f n nn):=by
 intro g m S v i
 simp only [VR,PR] at i ⊢
 obtain ⟨a,c,rfl,p,h⟩:=i
 refine ⟨a,c,rfl,p, ?_⟩
 rcases h with ⟨d,e,k,q⟩|⟨b,o,vs,l,d,e⟩
 ·subst e
  cases j
  exact .inl ⟨d,rfl,k,q⟩
 ·exact .inr ⟨b,o,vs,l,j.prl d,e⟩
end AM
namespace AM
open Go
variable {P:Program} {ap:AP}
theorem ax.norm {c:List bi} {nt:Nat} {b:Code} {s f:St} {e:bJ} (keep:List Nat) (r:∀ v,e= .panic v→(dO v).isEmpty=true) (h:ax P ap c nt b s e f):ax P ap c nt b s e (AM.norm c.length keep f):=by
 intro hs
 obtain ⟨t,j⟩:=h hs
 refine ⟨t,fun m0 S0 w0 m S w a i u Q n=>j m0 S0 w0 m S w a i u Q ?_⟩
 intro y S' w' o x p
 obtain ⟨q,k,l⟩:=sV (keep:=keep) x p
 have:=n q S' w' o k l
 clear n k l j
 generalize AM.norm c.length keep f=s2 at*
 cases e with
 |normal=>exact this
 |exit id=>exact this
 |ret=>exact this
 |panic v=>intro cv d;exact this cv (gG _ (m_ (r v rfl) d))
def ajM:bJ→Bool
 | .panic v=>(dO v).isEmpty
 |_=>true
def QV (base:Nat) (env:iP):R ((bJ × St) × xZ)→R ((bJ × St) × xZ)
 | .ok ((e,s),l) c=>match ajM e with
  |true=> .ok ((e,norm base (env.map fun q=>q.1) s),l) c
  |false=> .bad 1
 |r=>r
def O5 (P:Program) (ap:AP) (h0:List bi) (f nt0:Nat) (ls:List Nat) (code:Code) (s:St) (lps:xZ) (orc:List Bool) (ans:List (jT × List bi)) (hs:List wJ) (env:iP):R ((bJ × St) × xZ):=
 match dJ nt0 code with
 |true=>QV h0.length env (lZ P ap (xO P ap 3000 4) h0 (Jm ap f) 3000 nt0 ls code s lps ⟨false,orc,[],[],ans,hs⟩)
 |false=> .bad 0
theorem pn (g:DJ P ap) (f:Nat) (ls:List Nat) (n k:Nat) {nt b:Nat} {ans:List (jT × List bi)} {lps:xZ} {hs:List wJ} {bs:List Bool} {ps:List Prop} {a:Code} {s s':St} {h:List bi} {e:bJ}
  (hb:jd bs) (hp:PS P ap ps ans lps hs) (hn:b≤nt) (he:O5 P ap h f b ls a s lps (yl n k) ans hs s'.env= .ok ((e,s'),[]) ⟨false,[],bs,ps,[],[]⟩):ax P ap h nt a s e s':=by
 unfold O5 at he
 split at he
 ·rename_i hd
  generalize l:lZ P ap (xO P ap 3000 4) h (Jm ap f) 3000 b ls a s lps ⟨false,yl n k,[],[],ans,hs⟩=r at he
  cases r with
  | ok q c=>
   obtain ⟨⟨t,o⟩,x⟩:=q
   simp only [QV] at he
   split at he
   ·rename_i d
    simp only [R.ok.injEq,Prod.mk.injEq] at he
    obtain ⟨⟨⟨rfl,i⟩,rfl⟩,rfl⟩:=he
    obtain ⟨j,y⟩:=lK g.apok g.mixed g.fnok 3000 4
    have u:ax P ap h nt a s t o:=(uH g.apok g.mixed j hn a (dW hn a hd) _ _ _ _ _ l ⟨hb.mem,hp.all.mem⟩).2
    have:=u.norm (s'.env.map fun q=>q.1) (fun v p=>by subst p;exact d)
    rwa [i] at this
   ·cases he
  |need=>simp [QV] at he
  |bad n=>simp [QV] at he
 ·cases he
end AM
namespace AM
open Go
variable {P:Program} {ap:AP}
def goL {α σ β:Type} (F:σ→α→σ ⊕ β) (fin:σ→β):List α→σ→β
 | [],s=>fin s
 |x::r,s=>match F s x with
  | .inl s'=>goL F fin r s'
  | .inr b=>b
theorem aI.goL {α σ β:Type} {d:List bi} {nt:Nat} {b:Code} {e:β→bJ} {st:Nat × σ→St} {out:β→St} (F:σ→α→σ ⊕ β) (a:σ→β) (L:List α) (Inv:List α→σ→Prop)
  (hstep:∀ p x r s,L=p++x::r→Inv p s→match F s x with
   | .inl s'=>ax P ap d nt b (st (p.length,s)) .normal (st (p.length+1,s'))∧Inv (p++ [x]) s'
   | .inr q=>ax P ap d nt b (st (p.length,s)) (e q) (out q))
  (hend:∀ s,Inv L s→ax P ap d nt b (st (L.length,s)) (e (a s)) (out (a s))):
  ∀ (r p:List α) (s:σ),L=p++r→Inv p s→aI P ap d nt b e st out (p.length,s) (AM.goL F a r s):=by
 intro r
 induction r with
 |nil=>
  intro p s h f
  rw [List.append_nil] at h
  subst h
  exact .done (hend s f)
 | cons x r ih=>
  intro p s h f
  have c:=hstep p x r s h f
  simp only [AM.goL]
  cases j:F s x with
  |inl s'=>
   rw [j] at c
   have i:=ih (p++ [x]) s' (by rw [h];simp) c.2
   rw [List.length_append,List.length_singleton] at i
   exact .next c.1 i
  |inr q=>
   rw [j] at c
   exact .done c
end AM
namespace AM
open Go Go.WideShapes Go.ChangeShapes
theorem G9 {a:Addr} (h:a.spot=none) (n:Nat):a.add n=⟨a.block,a.off+n,none⟩:=by
 unfold Addr.add
 obtain ⟨b,o,s⟩:=a
 simp only at h
 subst h
 split
 ·rename_i c;subst c;rfl
 ·rfl
section
variable {H:Type} {enc:TypeId × Value→H} {P:Program} {w:World} {base:Nat} {spare:Nat→Bool} {held:Bool}
theorem J6 {S:aU} {ks:List LK}:∀ (L:List (List Value)),(∀ x ∈ L,fO ks x)→dV S (L.flatMap fun x=>x.map rZ) L.flatten
 | [],_=>by simp [dV]
 |x::r,h=>by
  rw [List.flatMap_cons,List.flatten_cons]
  exact nY (fO.pr (h x (by simp))) (J6 r fun y a=>h y (by simp [a]))
theorem XC {ks:List LK}:∀ (L:List (List Value)),(∀ x ∈ L,fO ks x)→∀ u ∈ L.flatten,u.oneCell'=true:=by
 intro L h u a
 obtain ⟨x,b,a⟩:=List.mem_flatten.1 a
 exact fO.one (h x b) u a
theorem XE {t e:TypeId} {n base':Nat} {ks:List LK} (E:P.underlying t=some (.slice e)) (T:Hy P n e=some ks) (W:P.cellsOf e=ks.length) {v:Value} {d:DataW H} {p:List MemPlace}
  (hv:Value.okWide P w .any base' t v) (h:DataW.Trod enc P w base spare held t v d p):∃ L:List (List Value),(∀ x ∈ L,fO ks x)∧PR (lL w) (.sl (L.flatMap fun x=>x.map rZ) L.length false) v:=by
 obtain ⟨N,len,f,rfl⟩:=okWide_slice E hv
 obtain ⟨M,h⟩:=h
 rcases DataW.trod_slice E h with ⟨i,_⟩|⟨a,r,z,elems,rest,m,_,i,_,_,Q,Y,J,C,_,_⟩
 ·have:N=none∧len=0∧f=0:=by simpa [Value.cells] using i
  obtain ⟨rfl,rfl,rfl⟩:=this
  refine ⟨[],by simp, ?_⟩
  simp only [PR]
  exact ⟨none,0,rfl,Nat.le_refl _,.inl (by simp)⟩
 ·have:N=some a∧len=r∧f=z:=by simpa [Value.cells] using i
  obtain ⟨rfl,rfl,rfl⟩:=this
  have hspot:a.spot=none:=by
   simp only [Value.okWide,E,Cell.okWide,Cell.ok] at hv
   exact hv.2.2.2.1
  have key:∀ q,q≤len→∃ L:List (List Value),L.length=q∧(∀ x ∈ L,fO ks x)∧L.flatten.length=q*ks.length∧∀ j u,L.flatten[j]? =some u→lL w a.block (a.off+j)=some u:=by
   intro q
   induction q with
   |zero=>intro _;exact ⟨[],rfl,by simp,by simp,by simp⟩
   | succ q ih=>
    intro Z
    obtain ⟨L,A,y,B,D⟩:=ih (by omega)
    have K:=C q (by omega)
    rw [List.getElem?_eq_getElem (by omega)] at K
    obtain ⟨F,O,U⟩:=Option.bind_eq_some_iff.1 K
    have I:=TL n e ks T _ _ _ U
    obtain ⟨_,X,G⟩:=World.cells?_some O
    refine ⟨L++ [F],by simp [A], ?_, ?_, ?_⟩
    ·intro x k
     rcases List.mem_append.1 k with k|k
     ·exact y x k
     ·simp at k;subst k;exact I
    ·rw [List.flatten_append,List.length_append,B]
     have:=I.length
     simp only [List.flatten_cons,List.flatten_nil,List.append_nil]
     rw [← this,Nat.succ_mul]
    ·intro j u c
     rw [List.flatten_append,List.getElem?_append] at c
     split at c
     ·exact D j u c
     ·rename_i R
      simp only [List.flatten_cons,List.flatten_nil,List.append_nil] at c
      have V:=(List.getElem?_eq_some_iff.1 c).1
      have l:=G (j - L.flatten.length) (by omega)
      rw [c,G9 hspot,G9 rfl] at l
      refine IE ?_ (fO.one I u (List.mem_of_getElem? c))
      rw [← l,B,W]
      congr 2
      have:q*ks.length≤j:=by rw [← B];omega
      simp only
      omega
  obtain ⟨L,A,y,B,D⟩:=key len (Nat.le_refl _)
  refine ⟨L,y, ?_⟩
  simp only [PR]
  refine ⟨some a,f,by rw [A],by rw [A];exact Q,.inr ⟨a.block,a.off,L.flatten, ?_,J6 L y,fun j u c=> ⟨D j u c,XC L y u (List.mem_of_getElem? c)⟩⟩⟩
  obtain ⟨b,o,s⟩:=a
  simp only at hspot
  subst hspot
  rfl
theorem TK {α:Type} (f:α→List AV) {L:List (List Value)} (h:∀ x ∈ L,∃ a,x.map rZ=f a):∃ l:List α,(L.flatMap fun x=>x.map rZ)=l.flatMap f∧L.length=l.length:=by
 induction L with
 |nil=>exact ⟨[],rfl,rfl⟩
 |cons x r ih=>
  obtain ⟨a,e⟩:=h x (by simp)
  obtain ⟨l,d,c⟩:=ih fun y b=>h y (by simp [b])
  exact ⟨a::l,by rw [List.flatMap_cons,List.flatMap_cons,e,d],by simp [c]⟩
end
end AM
namespace AM
open Go
inductive HpS (b:Nat) (B:bi):Hp→Hp→Prop
 |nil:HpS b B [] []
 |cons {c:Nat} {C D:bi} {r l:Hp}:NE b B D C→c ≠ b→HpS b B r l→HpS b B ((c,C)::r) ((c,D)::l)
inductive HpY (b:Nat) (B:bi):Hp→Hp→Prop
 |here {r l:Hp}:HpS b B r l→HpY b B r ((b,B)::l)
 |step {c:Nat} {C D:bi} {r l:Hp}:NE b B D C→c ≠ b→HpY b B r l→HpY b B ((c,C)::r) ((c,D)::l)
section
variable {P:Program} {ap:AP}
end
end AM
namespace AM
open Go
section
variable {P:Program} {ap:AP} {H:di}
inductive U9 (P:Program) (ap:AP) (H:di) (n:Nat) (ops:List Oper) (o:Oper) (b d:Nat) (rt:List Nat) (env:iP) (v:AV):List bi→Prop where
 |nil:U9 P ap H n ops o b d rt env v []
 | cons {B:bi} {r:List bi} {c2 c3:Cx} {t:RS}:RN ap H n ops o {env,hp:= [(b,B)],md:= .dead,dfs:= [],dec:= [],feet:= []} c2= .ok (t,none) c3→c3.Ok→t.feet= [{rt:=rt,wt:= [d],rb:= [b],wb:= []}]→t.dfs= []→t.env.get d=v→
   U9 P ap H n ops o b d rt env v r→U9 P ap H n ops o b d rt env v (B::r)
end
end AM
namespace AM
open Go Go.WideShapes Go.ChangeShapes
section
variable {H:Type} {enc:TypeId × Value→H} {P:Program} {w:World} {base:Nat} {spare:Nat→Bool} {held:Bool}
theorem L6 {t u:TypeId} {ts:List TypeId} (c:(∃ l,P.underlying t=some (.struct l))∨∃ n e,P.underlying t=some (.array n e)) (d:P.cellTypes P.depth t=some ts) {j:Array Value} {base':Nat} (h:Value.okWide P w .any base' t (.agg j)) {i:Nat} {v:Value} (o:j[i]? =some v) (q:ts[i % ts.length]? =some u):Cell.okWide P w .any base' u v:=by
 have key:Row.okWide P w .any base' t j:=by
  rcases c with ⟨l,c⟩|⟨n,e,c⟩
  ·simp only [Value.okWide,c] at h
   obtain ⟨f,a,k,b⟩:=h
   cases a;exact b
  ·simp only [Value.okWide,c] at h
   obtain ⟨f,a,k,b⟩:=h
   cases a;exact b
 obtain ⟨r,a,_,k⟩:=key
 rw [d] at a;cases a
 obtain ⟨s,b,p⟩:=k i v o
 rw [q] at b;cases b
 exact p
theorem Uh {u e:TypeId} (a:P.underlying u=some (.slice e)) {base':Nat} {v:Value} (h:Cell.okWide P w .any base' u v):Value.okWide P w .any base' u v:=by
 simp only [Value.okWide,a];exact h
theorem MV {u e:TypeId} (b:P.underlying u=some (.slice e)) {base':Nat} {v:Value} (h:Value.okWide P w .any base' u v):v.cells.toList= [v]:=by
 obtain ⟨a,l,c,rfl⟩:=okWide_slice b h
 rfl
end
end AM
