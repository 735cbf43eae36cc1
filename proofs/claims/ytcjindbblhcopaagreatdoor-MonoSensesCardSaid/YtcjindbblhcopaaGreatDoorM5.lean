/- The abstract machine over the code of the model, and the proof that it is sound. No conditions. -/
import Derived.Test.YtcjindbblhcopaaGreatDoorM4
import Derived.ChangeArms
import Derived.WideShapes
set_option linter.unusedSimpArgs false
set_option linter.unusedVariables false
namespace AM
open Go
structure aK (s s':St):Prop where
 env:∀ t,s.env.get t=s'.env.get t∨s.env.get t= .dead
 hp:s.hp=s'.hp
 md:s.md=s'.md
 dfs:s.dfs=s'.dfs
theorem aK.refl (s:St):aK s s:=⟨fun _=> .inl rfl,rfl,rfl,rfl⟩
def OU:iV→(Nat→AV)→Prop
 | [],_=>True
 |(t,v)::r,f=>(f t=v)∧OU r f
theorem xW {f:Nat→AV}:∀ {e:iV},OU e f→∀ t,e.get t=f t∨e.get t= .dead
 | [],_,t=> .inr rfl
 | (u,v)::r,h,t=>by
  simp only [OU] at h
  simp only [iV.get,aG]
  cases a:Nat.beq u t with
  |true=>
   have:=aO a
   subst this
   exact .inl h.1.symm
  |false=>exact xW h.2 t
theorem aK.of {e a:iV} {hp:Hp} {md:AV} {dfs:List (Nat × List AV)} (h:OU e a.get):aK {env:=e,hp,md,dfs} {env:=a,hp,md,dfs}:=⟨xW h,rfl,rfl,rfl⟩
section
variable {P:Program} {ap:AP} {H:di}
theorem FR.less {s s':St} (h:aK s s') {nt:Nat} {m:bf} {S:aW} {w:World} {a:Act} (b:FR ap s'.env s'.hp s'.dfs nt m S w a):FR ap s.env s.hp s.dfs nt m S w a:=by
 refine ⟨h.hp ▸ b.srel,fun t=> ?_, ?_,b.size⟩
 ·rcases h.env t with e|e
  ·rw [e,h.hp];exact b.env t
  ·rw [e];simp [VR]
 ·rw [h.hp,h.dfs];exact b.dfs
theorem aj.weak {h0:List bi} {nt:Nat} {b:Code} {s s' r r':St} {e:bM} (h:aj P ap h0 nt b s e r) (hs:aK s s') (c:aK r' r):aj P ap h0 nt b s' e r':=by
 intro i
 obtain ⟨j,o⟩:=h (hs.md ▸ i)
 refine ⟨c.md ▸ j,fun m0 S0 w0 m S w a f p Q n=>o m0 S0 w0 m S w a (by rw [hs.hp];exact f) (p.less hs) Q ?_⟩
 intro q S' w' k t l
 have:=n q S' w' k (by rw [c.hp];exact t) (l.less c)
 cases e with
 |normal=>exact this
 |exit id=>exact this
 |ret=>exact this
 |panic v=>intro cv d;exact this cv (by rw [c.hp];exact d)
inductive aF (P:Program) (ap:AP) (h0:List bi) (nt:Nat) (b:Code) {α β:Type} (e:β→bM) (st:α→St) (out:β→St):α→β→Prop where
 |done {a:α} {r:β}:aj P ap h0 nt b (st a) (e r) (out r)→aF P ap h0 nt b e st out a r
 |next {a a':α} {r:β}:aj P ap h0 nt b (st a) .normal (st a')→aF P ap h0 nt b e st out a' r→aF P ap h0 nt b e st out a r
theorem aF.rounds {h0:List bi} {nt:Nat} {b:Code} {α β:Type} {e:β→bM} {j:α→St} {out:β→St} {a:α} {r:β} (d:e r ≠ .normal) (h:aF P ap h0 nt b e j out a r):(j a).md= .dead→(out r).md= .dead∧∃ n,∀ m0 S0 w0 m S w c,Fr (bI h0) m0 S0 w0 (aG (j a).hp) m S w→FR ap (j a).env (j a).hp (j a).dfs nt m S w c→∀ Q,XA ap h0 m0 S0 w0 nt (out r) (e r) Q→Code.rounds P b Q n c w:=by
 induction h with
 |@done a r hx=>
  intro i
  obtain ⟨k,s⟩:=hx i
  refine ⟨k,1,fun m0 S0 w0 m S w c f u Q t=>s m0 S0 w0 m S w c f u _ ?_⟩
  intro p S' w' l q o
  have:=t p S' w' l q o
  revert d this
  cases e r with
  |normal=>intro d _;exact absurd rfl d
  |exit id=>intro _ h;exact h
  |ret=>intro _ h;exact h
  |panic v=>intro _ h;exact h
 |next hx _ ih=>
  intro i
  obtain ⟨k,s⟩:=hx i
  obtain ⟨q,n,o⟩:=ih d k
  refine ⟨q,n+1,fun m0 S0 w0 m S w c f u Q t=>s m0 S0 w0 m S w c f u _ ?_⟩
  intro p S' w' l y x
  exact o m0 S0 w0 p S' w' l y x Q t
theorem aF.ok {h0:List bi} {nt:Nat} {b:Code} {α β:Type} {e:β→bM} {j:α→St} {out:β→St} {a:α} {r:β} (d:e r ≠ .normal) (h:aF P ap h0 nt b e j out a r):aj P ap h0 nt (.loop b) (j a) (e r) (out r):=by
 intro i
 obtain ⟨k,n,o⟩:=h.rounds d i
 exact ⟨k,fun m0 S0 w0 m S w c f p Q l=>wp_loop_rounds n (o m0 S0 w0 m S w c f p Q l)⟩
theorem aF.blk {h0:List bi} {n id:Nat} {b:Code} {α β:Type} {e:β→bM} {d:α→St} {out:β→St} {a:α} {r:β} {s s':St} {i:bM} (h:∀ nt,n≤nt→aF P ap h0 nt b e d out a r) (c:e r ≠ .normal) (l:oJ id (e r)=i) (hs:aK (d a) s) (j:aK s' (out r)):aH P ap h0 n (.block id (.loop b)) s i s':=by
 intro nt k
 have f:=((h nt k).ok c).block (id:=id)
 rw [l] at f
 exact f.weak hs j
def oI (id:Nat):Code→Option Code
 | .seq a b=>match oI id a with|some c=>some c|none=>oI id b
 | .cond _ a b=>match oI id a with|some c=>some c|none=>oI id b
 | .block i b=>match Nat.beq i id with|true=>some b|false=>oI id b
 | .loop b=>oI id b
 | .scope b=>oI id b
 |_=>none
def ae (id:Nat) (c:Code):Code:=match oI id c with|some (.loop b)=>b|_=> .skip
def uu (id:Nat):Code→Code
 | .seq a b=>match uu id a with| .region i o d=> .region i o d|_=>uu id b
 | .cond _ a b=>match uu id a with| .region i o d=> .region i o d|_=>uu id b
 | .block _ b=>uu id b
 | .loop b=>uu id b
 | .scope b=>uu id b
 | .region i o d=>match Nat.beq i id with|true=> .region i o d|false=> .skip
 |_=> .skip
end
end AM
namespace AM
open Go
def sU (x y:List AV):Prop:=∀ g m S v,bF g m S x v→bF g m S y v
def uU:AV→Bool
 | .own _ _ _=>false
 | .tup _=>false
 |_=>true
theorem aZ.refl (x:AV):aZ x x:=fun _ _ _ _ h=>h
theorem sU.refl (x:List AV):sU x x:=fun _ _ _ _ h=>h
theorem sU.nil:sU [] []:=sU.refl []
theorem sU.cons {x y:AV} {l r:List AV} (h:aZ x y) (b:sU l r):sU (x::l) (y::r):=by
 intro g m S v a
 cases v with
 |nil=>simp [bF] at a
 |cons u vs=>simp only [bF] at a ⊢;exact ⟨h g m S u a.1,b g m S vs a.2⟩
theorem aZ.nilS (a:Bool) (h:a=false):aZ .nilS (.sl [] 0 a):=by
 subst h
 intro g m S v b
 simp only [VR,PR] at b ⊢
 exact ⟨none,0,b,Nat.le_refl _,.inl (by simp)⟩
theorem aZ.sl (d:List AV) (n:Nat) (a:Bool):aZ (.sl d n a) (.sl d n false):=by
 intro g m S v f
 simp only [VR,PR] at f ⊢
 obtain ⟨a,b,e,c,q⟩:=f
 refine ⟨a,b,e,c, ?_⟩
 rcases q with ⟨i,_,h⟩|q
 ·exact .inl (by simp [i,h])
 ·exact .inr q
theorem aZ.dead (x:AV):aZ x .dead:=fun _ _ _ _ _=>by simp only [VR]
section
variable {P:Program} {ap:AP}
theorem au.args {f:Nat} {args args':List AV} {h b:List bi} {out:kM} (d:sU args' args) (a:au P ap f args h out b):au P ap f args' h out b:=
 ⟨a.len,a.ent,fun m S w cargs e c=>a.calls m S w cargs e (d _ _ _ _ c)⟩
def ku (out out':kM):Prop:=(∀ n,kT n out=kT n out')∧∀ h' m' S' e,aar h' m' S' out e→aar h' m' S' out' e
theorem au.out {f:Nat} {args:List AV} {h d:List bi} {out a:kM} (c:ku out a) (b:au P ap f args h out d):au P ap f args h a d:=
 ⟨b.len,b.ent,fun m S w cargs j i=>(b.calls m S w cargs j i).mono fun e w' ⟨m',S',hF⟩=> ⟨m',S',c.1 _ ▸ hF.srel,c.1 _ ▸ hF.fr,c.2 _ _ _ _ hF.out⟩⟩
theorem kG {x:AV} (h:uU x=true):∀ a k e,x ≠ .own a k e:=by intro a k e b;subst b;cases h
theorem uV {x:AV} (h:uU x=true):∀ l,x ≠ .tup l:=by intro l a;subst a;cases h
theorem ku.ret {x y:AV} (a:uU x=true) (b:uU y=true) (h:aZ x y):ku (.ret x) (.ret y):=by
 refine ⟨fun n=> ?_,fun i j S' e d=> ?_⟩
 ·simp only [kT,jB n (kG a) (uV a),jB n (kG b) (uV b)]
 ·obtain ⟨cv,f,c⟩:=d
  refine ⟨cv,f, ?_⟩
  rw [kY (kG a) (uV a)] at c
  rw [kY (kG b) (uV b)]
  exact h _ _ _ _ c
inductive E9:List AV→List AV→Prop where
 |nil:E9 [] []
 |same {x:AV} {l r:List AV}:E9 l r→E9 (x::l) (x::r)
 |fit {x y:AV} {l r:List AV}:uU x=true→uU y=true→aZ x y→E9 l r→E9 (x::l) (y::r)
theorem E9.blocks {l r:List AV} (h:E9 l r):∀ n,(gy n l).2=(gy n r).2:=by
 induction h with
 |nil=>intro n;rfl
 |@same x l r _ ih=>
  intro n
  rcases jL x with ⟨a,k,e,rfl⟩|hx
  ·simp only [gy];rw [ih]
  ·rw [bJ n hx,bJ n hx];exact ih n
 |fit hx hy _ _ ih=>
  intro n
  rw [bJ n (kG hx),bJ n (kG hy)]
  exact ih n
theorem E9.outR {gh gf:dR} {m:bf} {S:aW} {l r:List AV} (h:E9 l r):∀ (n:Nat) (vs:List Value),jO gh gf m S n l vs→jO gh gf m S n r vs:=by
 induction h with
 |nil=>intro n vs a;exact a
 | @same x l r _ ih=>
  intro n vs a
  cases vs with
  |nil=>simp [jO] at a
  |cons v vs=>
   rcases jL x with ⟨b,k,e,rfl⟩|hx
   ·simp only [jO] at a ⊢;exact ⟨a.1,ih _ _ a.2⟩
   ·rw [b_ hx] at a ⊢;exact ⟨a.1,ih _ _ a.2⟩
 | fit hx hy hf _ ih=>
  intro n vs a
  cases vs with
  |nil=>simp [jO] at a
  |cons v vs=>
   rw [b_ (kG hx)] at a
   rw [b_ (kG hy)]
   exact ⟨hf _ _ _ _ a.1,ih _ _ a.2⟩
theorem ku.tup {l r:List AV} (h:E9 l r):ku (.ret (.tup l)) (.ret (.tup r)):=by
 refine ⟨fun n=> ?_,fun b j S' e c=> ?_⟩
 ·simp only [kT,jZ];exact h.blocks n
 ·obtain ⟨cv,f,a⟩:=c
  refine ⟨cv,f, ?_⟩
  simp only [xk] at a ⊢
  obtain ⟨vs,i,q⟩:=a
  have d:(jZ b.length (.tup l)).2=(jZ b.length (.tup r)).2:=by simp only [jZ];exact h.blocks _
  refine ⟨vs,i, ?_⟩
  rw [d] at q
  exact h.outR _ _ q
end
end AM
namespace AM
open Go
def thaw:AV→AV
 | .own xs n e=> .sl (xs.take (n*e)) n true
 |x=>x
def wu:kM→kM
 | .ret (.tup l)=> .ret (.tup (l.map thaw))
 | .ret x=> .ret (thaw x)
 | .pan v=> .pan v
theorem EE {x:AV} (h:∀ xs k e,x ≠ .own xs k e):thaw x=x:=by
 cases x<;>first|rfl|exact absurd rfl (h _ _ _)
theorem qI (x:AV):∀ a k e,thaw x ≠ .own a k e:=by
 intro a k e h
 cases x<;>simp [thaw] at h
theorem wX:∀ (l:List AV) (n:Nat),(gy n (l.map thaw)).2= []
 | [],_=>rfl
 |x::r,n=>by rw [List.map_cons,bJ n (qI x)];exact wX r n
section
variable {P:Program} {ap:AP}
theorem zh {gh gf g':dR} {m:bf} {S S':aW} {w:World} (o:bY ap gf m S w) {rd:dR} (c:∀ b B,rd b=some B→gf b=some B) (d:S'=dU S m rd w) (hother:∀ x v,VR gh m S x v→VR g' m S' x v):
  ∀ (l:List AV) (n:Nat) (vs:List Value),(∀ i B,(gy n l).2[i]? =some B→rd (n+i)=some B)→jO gh gf m S n l vs→jO g' g' m S' n (l.map thaw) vs
 | [],n,vs,_,h=>by cases vs with|nil=>trivial|cons _ _=>simp [jO] at h
 |x::r,n,[],_,h=>by
  exfalso
  rcases jL x with ⟨j,k,e,rfl⟩|f
  ·simp [jO] at h
  ·cases x<;>simp [jO] at h
 | x ::r,n,v::vs,hb,h=>by
  rcases jL x with ⟨j,k,e,rfl⟩|f
  ·simp only [jO] at h
   simp only [gy] at hb
   have h0:=hb 0 _ rfl
   rw [Nat.add_zero] at h0
   have A:frz rd 6 (.ref n 0 0 k)=some (.sl (j.take (k*e)) k true):=by
    simp [frz,h0,IR]
   have D:=lh o c 6 _ _ _ A h.1
   rw [List.map_cons,b_ (qI _)]
   refine ⟨iP _ (d ▸ D), ?_⟩
   have t:=zh o c d hother r (n+1) vs (fun i B C=>by rw [show n+1+i=n+(i+1) by omega];exact hb (i+1) B (by simpa using C)) h.2
   have key:∀ (l:List AV) (a b:Nat) (vs:List Value),(∀ x ∈ l,∀ j k e,x ≠ .own j k e)→jO g' g' m S' a l vs→jO g' g' m S' b l vs:=by
    intro l
    induction l with
    |nil=>intro a b vs _ h;cases vs with|nil=>trivial|cons _ _=>simp [jO] at h
    | cons y q ih=>
     intro a b vs s h
     cases vs with
     |nil=>cases y<;>simp [jO] at h
     |cons u us=>
      have p:=s y (by simp)
      rw [b_ p] at h ⊢
      exact ⟨h.1,ih a b us (fun x f=>s x (by simp [f])) h.2⟩
   refine key _ (n+1) n vs ?_ t
   intro y p
   obtain ⟨z,_,rfl⟩:=List.mem_map.1 p
   exact qI z
  ·rw [b_ f] at h
   rw [bJ n f] at hb
   rw [List.map_cons,b_ (qI x),EE f]
   exact ⟨hother _ _ h.1,zh o c d hother r n vs hb h.2⟩
theorem au.thaw {f:Nat} {args:List AV} {h a:List bi} {out:kM} (hp:∀ B ∈ a,B.pr=true) (J:au P ap f args h out a):au P ap f args h (wu out) a:=by
 refine ⟨J.len,J.ent,fun m S w cargs V C=>(J.calls m S w cargs V C).mono ?_⟩
 rintro e w' ⟨m',S',hF⟩
 obtain ⟨r,d,z⟩:=hF
 have y:∀ n,kT n (wu out)= []:=by
  intro n
  cases out with
  |pan v=>rfl
  | ret x=>
   rcases zA x with ⟨l,rfl⟩|ht
   ·simp only [wu,kT,jZ];exact wX l n
   ·have:wu (.ret x)= .ret (AM.thaw x):=by cases x<;>first|rfl|exact absurd rfl (ht _)
    rw [this]
    simp only [kT]
    have E:∀ l,AM.thaw x ≠ .tup l:=by intro l M;cases x<;>simp [AM.thaw] at M;exact ht _ rfl
    rw [jB n (qI x) E]
 let rd:dR:=fun b=>if a.length≤b then bI (a++kT a.length out) b else none
 have u:∀ b B,rd b=some B→bI (a++kT a.length out) b=some B:=by
  intro b B c
  simp only [rd] at c
  split at c
  ·exact c
  ·cases c
 have s:=mO S' m' rd w'
 have p:∀ b B,bI a b=some B→bI (a++kT a.length out) b=some B:=by
  intro b B c
  have:b<a.length:=(List.getElem?_eq_some_iff.1 c).1
  rw [fO this];exact c
 have hother:∀ x v,VR (bI a) m' S' x v→VR (bI (a++kT a.length (wu out))) m' (dU S' m' rd w') x v:=by
  intro x v G
  rw [y,List.append_nil]
  exact oq s (Ge.refl _ _) x G
 refine ⟨m',dU S' m' rd w', ?_, ?_, ?_⟩
 ·rw [y,List.append_nil]
  refine ⟨fun b D B B' c Q=>r.inj b D B B' (p b B c) (p D B' Q), ?_,fun k o v C=>oV r C, ?_, ?_⟩
  ·intro b B c
   obtain ⟨⟨cur,e,vs,rest,j,t,F,T,K,U⟩,hz,R⟩:=r.blk b B (p b B c)
   have I:=hp B (List.mem_of_getElem? c)
   refine ⟨⟨cur,e,vs,rest,j,t,fun _=>bP s _ (F I),bV _ (bP s _ (F I)),K,U⟩,hz,R⟩
  ·intro b B c o v C
   rcases gz C with j|⟨j,D,B',t,F,T⟩
   ·exact r.own b B (p b B c) o v j
   ·have:=r.inj b D B B' (p b B c) (u _ _ t) F.symm
    subst this
    have A:b<a.length:=(List.getElem?_eq_some_iff.1 c).1
    simp only [rd] at t
    rw [if_neg (by omega)] at t
    cases t
  ·intro k O X
   obtain ⟨vs,j,t⟩:=r.glob k O X
   exact ⟨vs,bP s _ j,t.mono s⟩
 ·rw [y,List.append_nil]
  refine ⟨?_,mi.trans d.sle s,d.os,d.tape,d.output,d.size,d.rest,fun b B c=>d.img b B (p b B c), ?_⟩
  ·intro b B c
   obtain ⟨B',j,t⟩:=d.ge b B c
   have A:b<a.length:=Nat.lt_of_lt_of_le (List.getElem?_eq_some_iff.1 c).1 J.len
   rw [fO A] at j
   exact ⟨B',j,t⟩
  ·intro k o v C
   rcases gz C with j|⟨j,D,B',t,F,T⟩
   ·exact d.sealN k o v j
   ·rcases d.img D B' (u _ _ t) with K|⟨B0,K,_⟩
    ·exact .inr (.inl (F ▸ K))
    ·exfalso
     have A:D<h.length:=(List.getElem?_eq_some_iff.1 K).1
     simp only [rd] at t
     rw [if_neg (by have:=J.len;omega)] at t
     cases t
 ·have L:∀ l,out= .ret (.tup l)→∀ i B,(gy a.length l).2[i]? =some B→rd (a.length+i)=some B:=by
   intro l M i B Z
   subst M
   simp only [rd]
   rw [if_pos (by omega),jq (by omega),show a.length+i - a.length=i by omega]
   exact Z
  cases out with
  |pan v=>
   obtain ⟨cv,N,j⟩:=z
   refine ⟨cv,N, ?_⟩
   have:=hother v cv j
   rwa [y,List.append_nil] at this
  | ret x=>
   obtain ⟨cv,N,j⟩:=z
   rcases zA x with ⟨l,rfl⟩|ht
   ·simp only [xk] at j
    obtain ⟨vs,e2,q⟩:=j
    refine ⟨cv,N, ?_⟩
    simp only [xk]
    refine ⟨vs,e2, ?_⟩
    have c:(jZ a.length (.tup (l.map AM.thaw))).2= []:=by simp only [jZ];exact wX l _
    rw [c,List.append_nil]
    have:=zh (gh:=bI a) (g':=bI a) r u rfl (fun x v G=>oq s (Ge.refl _ _) x G) l a.length vs (L l rfl) q
    exact this
   ·have W:wu (.ret x)= .ret (AM.thaw x):=by cases x<;>first|rfl|exact absurd rfl (ht _)
    have E:∀ l,AM.thaw x ≠ .tup l:=by intro l M;cases x<;>simp [AM.thaw] at M;exact ht _ rfl
    rw [W]
    refine ⟨cv,N, ?_⟩
    rw [kY (qI x) E]
    rcases jL x with ⟨O,k,e,rfl⟩|G
    ·simp only [xk] at j
     have h0:rd a.length=some (IR O e):=by
      simp only [rd]
      rw [if_pos (Nat.le_refl _),jq (Nat.le_refl _),Nat.sub_self]
      rfl
     have Y:frz rd 6 (.ref a.length 0 0 k)=some (.sl (O.take (k*e)) k true):=by
      simp [frz,h0,IR]
     have:=lh r u 6 _ _ _ Y j
     exact iP _ this
    ·rw [kY G ht] at j
     rw [EE G]
     exact oq s (Ge.refl _ _) x j
end
end AM
namespace AM
open Go
structure pW (s s':St):Prop where
 env:∀ t,aZ (s'.env.get t) (s.env.get t)
 hp:s.hp=s'.hp
 md:s.md=s'.md
 dfs:s.dfs=s'.dfs
theorem pW.refl (s:St):pW s s:=⟨fun _=>aZ.refl _,rfl,rfl,rfl⟩
def Ij:iV→(Nat→AV)→Prop
 | [],_=>True
 |(t,v)::r,f=>aZ (f t) v∧Ij r f
theorem vW {f:Nat→AV}:∀ {e:iV},Ij e f→∀ t,aZ (f t) (e.get t)
 | [],_,t=>aZ.dead _
 | (u,v)::r,h,t=>by
  simp only [Ij] at h
  simp only [iV.get,aG]
  cases a:Nat.beq u t with
  |true=>
   have:=aO a
   subst this
   exact h.1
  |false=>exact vW h.2 t
theorem pW.of {e a:iV} {hp:Hp} {md:AV} {dfs:List (Nat × List AV)} (h:Ij e a.get):pW {env:=e,hp,md,dfs} {env:=a,hp,md,dfs}:=⟨vW h,rfl,rfl,rfl⟩
section
variable {P:Program} {ap:AP}
theorem FR.lessF {s s':St} (h:pW s s') {nt:Nat} {m:bf} {S:aW} {w:World} {a:Act} (b:FR ap s'.env s'.hp s'.dfs nt m S w a):FR ap s.env s.hp s.dfs nt m S w a:=by
 refine ⟨h.hp ▸ b.srel,fun t=> ?_, ?_,b.size⟩
 ·have:=h.env t _ _ _ _ (b.env t)
  rw [h.hp];exact this
 ·rw [h.hp,h.dfs];exact b.dfs
theorem aj.weakF {h0:List bi} {nt:Nat} {b:Code} {s s' r r':St} {e:bM} (h:aj P ap h0 nt b s e r) (hs:pW s s') (c:pW r' r):aj P ap h0 nt b s' e r':=by
 intro i
 obtain ⟨j,o⟩:=h (hs.md ▸ i)
 refine ⟨c.md ▸ j,fun m0 S0 w0 m S w a f p Q n=>o m0 S0 w0 m S w a (by rw [hs.hp];exact f) (p.lessF hs) Q ?_⟩
 intro q S' w' k t l
 have:=n q S' w' k (by rw [c.hp];exact t) (l.lessF c)
 cases e with
 |normal=>exact this
 |exit id=>exact this
 |ret=>exact this
 |panic v=>intro cv d;exact this cv (by rw [c.hp];exact d)
theorem aF.blkF {h0:List bi} {n id:Nat} {b:Code} {α β:Type} {e:β→bM} {d:α→St} {out:β→St} {a:α} {r:β} {s s':St} {i:bM} (h:∀ nt,n≤nt→aF P ap h0 nt b e d out a r) (c:e r ≠ .normal) (l:oJ id (e r)=i) (hs:pW (d a) s) (j:pW s' (out r)):aH P ap h0 n (.block id (.loop b)) s i s':=by
 intro nt k
 have f:=((h nt k).ok c).block (id:=id)
 rw [l] at f
 exact f.weakF hs j
end
end AM
namespace AM
open Go
def xM (b:Nat) (c v:Nat):Option (Nat × Nat):=match Nat.beq c b with|true=>none|false=>some (c,v)
inductive Fz (b:Nat) (B:bi):AV→AV→Prop
 |ren {x:AV}:Fz b B x (ren (xM b) x)
 |ref {i n:Nat}:Fz b B (.ref b B.ver i n) (.sl ((B.cells.drop (i*B.esz)).take (n*B.esz)) n true)
 |fit {x y z:AV}:Fz b B x y→aZ y z→Fz b B x z
inductive ZF (b:Nat) (B:bi):List AV→List AV→Prop
 |nil:ZF b B [] []
 |cons {x y:AV} {l r:List AV}:Fz b B x y→ZF b B l r→ZF b B (x::l) (y::r)
theorem Fz.same {b:Nat} {B:bi} {x:AV} (h:AM.ren (xM b) x=x):Fz b B x x:=by
 have:=Fz.ren (b:=b) (B:=B) (x:=x)
 rwa [h] at this
theorem Fz.dead {b:Nat} {B:bi} (x:AV):Fz b B x .dead:= .fit .ren (aZ.dead _)
theorem ZF.length {b:Nat} {B:bi} {l r:List AV} (h:ZF b B l r):l.length=r.length:=by
 induction h with
 |nil=>rfl
 |cons _ _ ih=>simp [ih]
structure Ji (b:Nat) (B:bi) (C C':bi):Prop where
 ver:C'.ver=C.ver
 fro:C'.fro=C.fro
 fz:C'.fz=C.fz
 esz:C'.esz=C.esz
 body:(C.pr=true∧C'.cells=C.cells∧C'.pr=true)∨(ZF b B C.cells C'.cells∧(C'.pr=true→(dn C'.cells).isEmpty=true))
theorem Ji.same {b:Nat} {B C:bi} (hp:C.pr=true):Ji b B C C:=⟨rfl,rfl,rfl,rfl,.inl ⟨hp,rfl,hp⟩⟩
theorem Ji.length {b:Nat} {B C C':bi} (h:Ji b B C C'):C.cells.length=C'.cells.length:=by
 rcases h.body with ⟨_,e,_⟩|⟨e,_⟩
 ·rw [e]
 ·exact e.length
section
variable {P:Program} {ap:AP} {g:dR} {m:bf} {S:aW} {w:World}
def lX (b:Nat) (B:bi):dR:=fun c=>match Nat.beq c b with|true=>some B|false=>none
theorem ry {b c:Nat} {B C:bi} (h:lX b B c=some C):c=b∧C=B:=by
 unfold lX at h
 split at h
 ·rename_i a;cases h;exact ⟨aO a,rfl⟩
 ·cases h
theorem NV (b:Nat) (B:bi):lX b B b=some B:=by unfold lX;rw [Nat.beq_refl]
theorem Fz.sound {b:Nat} {B:bi} (o:bY ap g m S w) (k:g b=some B) (f:B.pr=true) {g':dR} (j:r_ g m g' m (xM b)) {x y:AV} (h:Fz b B x y):∀ {v:Value},VR g m S x v→VR g' m (dU S m (lX b B) w) y v:=by
 have d:∀ c C,lX b B c=some C→g c=some C:=by
  intro c C l
  obtain ⟨rfl,rfl⟩:=ry l
  exact k
 induction h with
 |ren=>intro v a;exact yJ (mO S m (lX b B) w) j _ a
 | @ref i n=>
  intro v a
  have e:frz (lX b B) 6 (.ref b B.ver i n)=some (.sl ((B.cells.drop (i*B.esz)).take (n*B.esz)) n true):=by
   simp [frz,NV,f]
  exact iP _ (lh o d 6 _ _ _ e a)
 |fit _ e ih=>intro v a;exact e _ _ _ _ (ih a)
theorem ZF.sound {b:Nat} {B:bi} (f:bY ap g m S w) (d:g b=some B) (c:B.pr=true) {g':dR} (e:r_ g m g' m (xM b)) {l r:List AV} (h:ZF b B l r):∀ {vs:List Value},bF g m S l vs→bF g' m (dU S m (lX b B) w) r vs:=by
 induction h with
 |nil=>intro vs a;cases vs with|nil=>simp [bF]|cons _ _=>simp [bF] at a
 | cons hx _ ih=>
  intro vs a
  cases vs with
  |nil=>simp [bF] at a
  |cons v vs=>
   simp only [bF] at a ⊢
   exact ⟨hx.sound f d c e a.1,ih a.2⟩
theorem vN:∀ {l:List AV} {vs:List Value},(dn l).isEmpty=true→bF g m S l vs→dK S l vs
 | [],[],_,_=>by simp [dK]
 |x::l,v::vs,h,hv=>by
  simp only [dn,List.isEmpty_iff,List.append_eq_nil_iff] at h
  rw [← List.isEmpty_iff,← List.isEmpty_iff] at h
  simp only [bF] at hv
  simp only [dK]
  exact ⟨mg h.1 hv.1,vN h.2 hv.2⟩
 | [],_::_,_,hv=>by simp [bF] at hv
 |_::_,[],_,hv=>by simp [bF] at hv
theorem Fv {g g':dR} {m e:bf} {S S':aW} {ρ:Nat→Nat→Option (Nat × Nat)} (c:mi S S') (b:r_ g m g' e ρ):∀ {l:List (Nat × List AV)} {ds:List Deferred},iG g m S l ds→iG g' e S' (l.map fun d=>(d.1,lU ρ d.2)) ds
 | [],[],_=>by simp only [List.map_nil,iG]
 |d::r,cd::cr,h=>by
  simp only [iG] at h
  simp only [List.map_cons,iG]
  obtain ⟨⟨a,f,i⟩,j⟩:=h
  exact ⟨⟨a,f,kQ c b _ i⟩,Fv c b j⟩
 | [],_::_,h=>by simp [iG] at h
 |_::_,[],h=>by simp [iG] at h
theorem J4 {h0:List bi} {nt:Nat} {r r':St} {m0 h:bf} {S0 S':aW} {w0 w':World} {L:Act} (b:Nat) (B:bi) (Y:h0.length≤b) (E:aG r.hp b=some B) (x:B.pr=true)
  (hd:r'.dfs=r.dfs.map fun d=>(d.1,lU (xM b) d.2))
  (henv:∀ t,Fz b B (r.env.get t) (r'.env.get t))
  (hdom:∀ c C',aG r'.hp c=some C'→c ≠ b∧∃ C,aG r.hp c=some C∧Ji b B C C')
  (hall:∀ c C,c ≠ b→aG r.hp c=some C→∃ C',aG r'.hp c=some C')
  (h5:Fr (bI h0) m0 S0 w0 (aG r.hp) h S' w') (h6:FR ap r.env r.hp r.dfs nt h S' w' L):
  ∃ S2,Fr (bI h0) m0 S0 w0 (aG r'.hp) h S2 w'∧FR ap r'.env r'.hp r'.dfs nt h S2 w' L:=by
 have f:=h6.srel
 have n:=mO S' h (lX b B) w'
 have Z:∀ c C,lX b B c=some C→aG r.hp c=some C:=by
  intro c C i
  obtain ⟨rfl,rfl⟩:=ry i
  exact E
 have j:r_ (aG r.hp) h (aG r'.hp) h (xM b):=by
  intro c ver N X hρ C s q
  unfold xM at hρ
  split at hρ
  ·cases hρ
  ·rename_i I
   cases hρ
   have u:c ≠ b:=by intro e;subst e;simp at I
   obtain ⟨C',l⟩:=hall c C u s
   obtain ⟨_,C2,p,a⟩:=hdom c C' l
   rw [s] at p;cases p
   exact ⟨C',l,by rw [a.ver];exact q,fun e=> ⟨by rw [← a.ver];exact e,rfl,a.esz⟩⟩
 have O:bY ap (aG r'.hp) h (dU S' h (lX b B) w') w':=by
  refine ⟨?_, ?_,fun k o v q=>oV f q, ?_, ?_⟩
  ·intro c N C C' i T hm
   obtain ⟨_,D,hD,_⟩:=hdom c C i
   obtain ⟨_,D',M,_⟩:=hdom N C' T
   exact f.inj c N D D' hD M hm
  ·intro c C' i
   obtain ⟨_,C,s,a⟩:=hdom c C' i
   obtain ⟨⟨cur,ee,vs,rest,k1,k2,k3,k4,k5,k6⟩,hz,U⟩:=f.blk c C s
   have A:(C'.pr=true→dK (dU S' h (lX b B) w') C'.cells vs)∧bF (aG r'.hp) h (dU S' h (lX b B) w') C'.cells vs:=by
    rcases a.body with ⟨R,W,q3⟩|⟨R,W⟩
    ·have:=bP n _ (k3 R)
     rw [W]
     exact ⟨fun _=>this,bV _ this⟩
    ·have q:=R.sound f E x j k4
     exact ⟨fun hp=>vN (W hp) q,q⟩
   exact ⟨⟨cur,ee,vs,rest,by rw [a.esz];exact k1,k2,A.1,A.2,by rw [a.esz];exact k5,fun hp=>by rw [a.esz] at hp ⊢;exact k6 hp⟩,fun hp=>by rw [a.fz];exact hz (by rw [← a.fro];exact hp),by rw [a.fz,← a.length];exact U⟩
  ·intro c C' i o v q
   obtain ⟨u,C,s,a⟩:=hdom c C' i
   rw [a.fro,a.fz]
   rcases gz q with F|⟨F,G,B',J,K,h4⟩
   ·exact f.own c C s o v F
   ·obtain ⟨rfl,rfl⟩:=ry J
    exact absurd (f.inj c G C B' s E K.symm) u
  ·intro k xs hk
   obtain ⟨vs,k1,k2⟩:=f.glob k xs hk
   exact ⟨vs,bP n _ k1,k2.mono n⟩
 have y:Fr (bI h0) m0 S0 w0 (aG r'.hp) h (dU S' h (lX b B) w') w':=by
  refine ⟨?_,mi.trans h5.sle n,h5.os,h5.tape,h5.output,h5.size,h5.rest, ?_, ?_⟩
  ·intro c C i
   have hlt:c<h0.length:=(List.getElem?_eq_some_iff.1 i).1
   obtain ⟨C1,z,e1,e2⟩:=h5.ge c C i
   obtain ⟨C',l⟩:=hall c C1 (by omega) z
   obtain ⟨_,C2,p,a⟩:=hdom c C' l
   rw [z] at p;cases p
   exact ⟨C',l,by rw [a.esz];exact e1,by rw [a.ver];exact e2⟩
  ·intro c C' i
   obtain ⟨_,C,s,_⟩:=hdom c C' i
   exact h5.img c C s
  ·intro k o v q
   rcases gz q with F|⟨F,G,B',J,K,h4⟩
   ·exact h5.sealN k o v F
   ·obtain ⟨rfl,rfl⟩:=ry J
    rcases h5.img G B' E with Q|⟨B0,Q,_⟩
    ·exact .inr (.inl (K ▸ Q))
    ·have:G<h0.length:=(List.getElem?_eq_some_iff.1 Q).1
     omega
 have V:FR ap r'.env r'.hp r'.dfs nt h (dU S' h (lX b B) w') w' L:=by
  refine ⟨O,fun t=>(henv t).sound f E x j (h6.env t), ?_,h6.size⟩
  rw [hd]
  exact Fv n j h6.dfs
 exact ⟨_,y,V⟩
theorem aj.freeze {h0:List bi} {nt:Nat} {f:Code} {s r r':St} {e:bM} (b:Nat) (B:bi) (h:aj P ap h0 nt f s e r) (D:∀ v,e ≠ .panic v) (j:h0.length≤b) (A:aG r.hp b=some B) (k:B.pr=true)
  (hmd:r'.md=r.md) (hd:r'.dfs=r.dfs.map fun d=>(d.1,lU (xM b) d.2))
  (henv:∀ t,Fz b B (r.env.get t) (r'.env.get t))
  (hdom:∀ c C',aG r'.hp c=some C'→c ≠ b∧∃ C,aG r.hp c=some C∧Ji b B C C')
  (hall:∀ c C,c ≠ b→aG r.hp c=some C→∃ C',aG r'.hp c=some C'):aj P ap h0 nt f s e r':=by
 intro hs
 obtain ⟨o,x⟩:=h hs
 refine ⟨hmd ▸ o,fun m0 S0 w0 m S w a l E Q z=>x m0 S0 w0 m S w a l E Q ?_⟩
 intro u S' w' p y q
 obtain ⟨S2,i,n⟩:=J4 b B j A k hd henv hdom hall y q
 have:=z u S2 w' p i n
 cases e with
 |normal=>exact this
 |exit id=>exact this
 |ret=>exact this
 |panic v=>exact absurd rfl (D v)
def Qs (b:Nat) (B:bi):iV→(Nat→AV)→Prop
 | [],_=>True
 |(t,v)::r,f=>Fz b B (f t) v∧Qs b B r f
theorem oN {b:Nat} {B:bi} {f:Nat→AV}:∀ {e:iV},Qs b B e f→∀ t,Fz b B (f t) (e.get t)
 | [],_,t=>Fz.dead _
 | (u,v)::r,h,t=>by
  simp only [Qs] at h
  simp only [iV.get,aG]
  cases a:Nat.beq u t with
  |true=>
   have:=aO a
   subst this
   exact h.1
  |false=>exact oN h.2 t
def Nj (b:Nat) (B:bi):Hp→Hp→Prop
 | [],l=>l= [(b,B)]
 |(c,C)::r,(d,D)::l=>c=d∧Ji b B D C∧c ≠ b∧Nj b B r l
 |_::_,[]=>False
theorem AZ {b:Nat} {B:bi}:∀ {r l:Hp},Nj b B r l→∀ c C',aG r c=some C'→c ≠ b∧∃ C,aG l c=some C∧Ji b B C C'
 | [],l,_,c,C',hc=>by simp [aG] at hc
 | (d,D)::r,(d',D')::l,h,c,C',hc=>by
  simp only [Nj] at h
  obtain ⟨rfl,e,f,i⟩:=h
  simp only [aG] at hc ⊢
  cases a:Nat.beq d c with
  |true=>
   rw [a] at hc
   have:=aO a
   subst this
   cases hc
   exact ⟨f,D',rfl,e⟩
  |false=>
   rw [a] at hc
   exact AZ i c C' hc
 |_::_,[],h,_,_,_=>by simp [Nj] at h
theorem AY {b:Nat} {B:bi}:∀ {r l:Hp},Nj b B r l→∀ c C,c ≠ b→aG l c=some C→∃ C',aG r c=some C'
 | [],l,h,c,C,hcb,hc=>by
  simp only [Nj] at h
  subst h
  simp only [aG] at hc
  split at hc
  ·rename_i a;exact absurd (aO a).symm hcb
  ·cases hc
 |(d,D)::r,(d',D')::l,h,c,C,hcb,hc=>by
  simp only [Nj] at h
  obtain ⟨rfl,f,i,e⟩:=h
  simp only [aG] at hc ⊢
  cases a:Nat.beq d c with
  |true=>exact ⟨D,rfl⟩
  |false=>rw [a] at hc;exact AY e c C hcb hc
 |_::_,[],h,_,_,_,_=>by simp [Nj] at h
theorem xZ {b:Nat} {B:bi}:∀ {r l:Hp},Nj b B r l→aG l b=some B
 | [],l,h=>by
  simp only [Nj] at h
  subst h
  simp [aG]
 |(d,D)::r,(d',D')::l,h=>by
  simp only [Nj] at h
  obtain ⟨rfl,f,a,e⟩:=h
  simp only [aG]
  cases c:Nat.beq d b with
  |true=>exact absurd (aO c) a
  |false=>exact xZ e
 |_::_,[],h=>by simp [Nj] at h
theorem aj.forget {h0:List bi} {nt:Nat} {a:Code} {s:St} {e:bM} (b:Nat) (B:bi) {f en':iV} {hp hp':Hp} {md:AV} (h:aj P ap h0 nt a s e {env:=f,hp,md,dfs:= []}) (i:∀ v,e ≠ .panic v) (c:h0.length≤b) (d:B.pr=true)
  (henv:Qs b B en' (iV.get f)) (hhp:Nj b B hp' hp):aj P ap h0 nt a s e {env:=en',hp:=hp',md,dfs:= []}:=
 h.freeze b B i c (xZ hhp) d rfl rfl (oN henv) (AZ hhp) (AY hhp)
theorem aj.forgetD {h0:List bi} {nt:Nat} {a:Code} {s:St} {e:bM} (b:Nat) (B:bi) {i en':iV} {hp hp':Hp} {md:AV} {dfs:List (Nat × List AV)} (h:aj P ap h0 nt a s e {env:=i,hp,md,dfs}) (j:∀ v,e ≠ .panic v) (c:h0.length≤b) (f:B.pr=true)
  (henv:Qs b B en' (iV.get i)) (hhp:Nj b B hp' hp) (hd:dfs.map (fun d=>(d.1,lU (xM b) d.2))=dfs):aj P ap h0 nt a s e {env:=en',hp:=hp',md,dfs}:=
 h.freeze b B j c (xZ hhp) f rfl hd.symm (oN henv) (AZ hhp) (AY hhp)
end
end AM
namespace AM
open Go
def CP (P:Program) (f:TypeId→Option (List LK)):List Field→Nat→Option (List LK)
 | [],_=>some []
 | x::r,off=>match f x.type with
  |some l=>match Nat.beq x.offset off && Nat.beq (P.cellsOf x.type) l.length with
   |true=>match CP P f r (off+l.length) with|some q=>some (l++q)|none=>none
   |false=>none
  |none=>none
def Gi (P:Program):Nat→TypeId→Option (List LK)
 |0,_=>none
 | n+1,t=>match P.underlying t with
  |some (.int k)=>some [.int k]
  |some .bool=>some [.bool]
  |some .string=>some [.str]
  |some (.struct fs)=>match CP P (Gi P n) fs.toList 0 with
   |some l=>match Nat.beq (P.cellsOf t) l.length with|true=>some l|false=>none
   |none=>none
  |some (.array m e)=>match Gi P n e with
   |some l=>match Nat.beq (P.cellsOf e) l.length && Nat.beq (P.cellsOf t) (m*l.length) with|true=>some (List.replicate m l).flatten|false=>none
   |none=>none
  |_=>none
inductive gu:List LK→List Value→Prop
 |nil:gu [] []
 |int {k:IntKind} {n:Int} {r:List LK} {l:List Value}:gu r l→gu (.int k::r) (.int k n::l)
 |bool {b:Bool} {r:List LK} {l:List Value}:gu r l→gu (.bool::r) (.bool b::l)
 |str {s:ByteArray} {r:List LK} {l:List Value}:gu r l→gu (.str::r) (.string s::l)
theorem gu.app {a b:List LK} {x y:List Value} (h:gu a x) (c:gu b y):gu (a++b) (x++y):=by
 induction h with
 |nil=>exact c
 |int _ ih=>exact .int ih
 |bool _ ih=>exact .bool ih
 |str _ ih=>exact .str ih
theorem gu.length {a:List LK} {x:List Value} (h:gu a x):a.length=x.length:=by
 induction h with
 |nil=>rfl
 |int _ ih=>simp [ih]
 |bool _ ih=>simp [ih]
 |str _ ih=>simp [ih]
def oZ:Value→AV
 | .int k n=> .int k n
 | .bool b=> .bool b
 | .string s=> .str s.data.toList
 |_=> .dead
theorem gu.pr {S:aW} {a:List LK} {x:List Value} (h:gu a x):dK S (x.map oZ) x:=by
 induction h with
 |nil=>simp [dK]
 |int _ ih=>simp only [List.map_cons,dK];exact ⟨by simp [oZ,PR],ih⟩
 |bool _ ih=>simp only [List.map_cons,dK];exact ⟨by simp [oZ,PR],ih⟩
 |@str s _ _ _ ih=>simp only [List.map_cons,dK];exact ⟨by simp [oZ,PR],ih⟩
theorem gu.one {a:List LK} {x:List Value} (h:gu a x):∀ u ∈ x,u.oneCell'=true:=by
 induction h with
 |nil=>intro u b;cases b
 |int _ ih=>
  intro u b
  rcases List.mem_cons.1 b with rfl|b
  ·rfl
  ·exact ih u b
 |bool _ ih=>
  intro u b
  rcases List.mem_cons.1 b with rfl|b
  ·rfl
  ·exact ih u b
 |str _ ih=>
  intro u b
  rcases List.mem_cons.1 b with rfl|b
  ·rfl
  ·exact ih u b
section
variable {H:Type} {enc:TypeId × Value→H} {P:Program} {w:World} {base:Nat} {spare:Nat→Bool} {held:Bool}
theorem zN {n:Nat} {f:TypeId→Option (List LK)} (c:∀ t ks,f t=some ks→∀ (fuel:Nat) (a:List Value) (x:DataW H × List MemPlace),DataW.trod enc P w base spare held fuel t a=some x→gu ks a) {a:List Value}:∀ (r:List Field) (off:Nat) (ks:List LK),CP P f r off=some ks→
  (∀ (i:Nat) (x:Field),r[i]? =some x→∃ y,DataW.trod enc P w base spare held n x.type ((a.drop x.offset).take (P.cellsOf x.type))=some y)→gu ks ((a.drop off).take ks.length)
 | [],off,ks,h,_=>by
  simp only [CP] at h
  cases h
  simpa using gu.nil
 | x ::r,off,ks,h,hx=>by
  simp only [CP] at h
  split at h
  ·rename_i l k
   split at h
   ·rename_i b
    simp only [Bool.and_eq_true] at b
    have o:=Nat.eq_of_beq_eq_true b.1
    have u:=Nat.eq_of_beq_eq_true b.2
    split at h
    ·rename_i q j
     cases h
     obtain ⟨y,p⟩:=hx 0 x rfl
     have d:=c _ _ k _ _ _ p
     rw [o,u] at d
     have e:=zN c r (off+l.length) q j (fun i f s=>hx (i+1) f (by simpa using s))
     rw [List.length_append,List.take_add,List.drop_drop]
     exact d.app e
    ·cases h
   ·cases h
  ·cases h
theorem Qu:∀ (n:Nat) (t:TypeId) (ks:List LK),Gi P n t=some ks→∀ (d:Nat) (y:List Value) (x:DataW H × List MemPlace),DataW.trod enc P w base spare held d t y=some x→gu ks y:=by
 intro n
 induction n with
 |zero=>intro t ks h;simp [Gi] at h
 | succ n ih=>
  intro t ks h d y x p
  simp only [Gi] at h
  split at h
  ·rename_i k c
   cases h
   obtain ⟨m,rfl,_⟩:=DataW.trod_int c p
   exact .int .nil
  ·rename_i c
   cases h
   obtain ⟨b,rfl,_⟩:=DataW.trod_bool c p
   exact .bool .nil
  ·rename_i c
   cases h
   obtain ⟨s,rfl,_⟩:=DataW.trod_string c p
   exact .str .nil
  ·rename_i D c
   split at h
   ·rename_i l B
    split at h
    ·rename_i u
     cases h
     obtain ⟨F,m,rfl,_,a,r,A⟩:=DataW.trod_struct c p
     have e:=Nat.eq_of_beq_eq_true u
     have G:=zN (n:=m) ih D.toList 0 ks B (fun i f L=>by
      have v:D[i]? =some f:=by simpa using L
      have o:=A i f v
      have z:i<F.length:=by rw [r];exact (Array.getElem?_eq_some_iff.1 v).1
      rw [List.getElem?_eq_getElem z] at o
      exact ⟨_,o⟩)
     rw [List.drop_zero,← e,← a,List.take_length] at G
     exact G
    ·cases h
   ·cases h
  ·rename_i m e c
   split at h
   ·rename_i l B
    split at h
    ·rename_i u
     cases h
     simp only [Bool.and_eq_true] at u
     have I:=Nat.eq_of_beq_eq_true u.1
     have M:=Nat.eq_of_beq_eq_true u.2
     obtain ⟨F,q,rfl,_,a,r,A⟩:=DataW.trod_array c p
     have key:∀ j,j≤m→gu (List.replicate j l).flatten ((y.drop ((m - j)*l.length)).take (j*l.length)):=by
      intro j
      induction j with
      |zero=>intro _;simpa using gu.nil
      | succ j ihj=>
       intro N
       have o:=A (m - (j+1)) (by omega)
       rw [List.getElem?_eq_getElem (by omega)] at o
       have C:=ih _ _ B _ _ _ o
       rw [I] at C
       have J:=ihj (by omega)
       rw [List.replicate_succ,List.flatten_cons,Nat.add_mul,Nat.one_mul,Nat.add_comm (j*l.length),List.take_add,List.drop_drop]
       have K:(m - (j+1))*l.length+l.length=(m - j)*l.length:=by
        rw [← Nat.succ_mul];congr 1;omega
       rw [K]
       exact C.app J
     have E:=key m (Nat.le_refl _)
     rw [Nat.sub_self,Nat.zero_mul,List.drop_zero,← M,← a,List.take_length] at E
     exact E
    ·cases h
   ·cases h
  ·cases h
end
end AM
namespace AM
open Go
def xx:Nat→Nat→List Bool
 |0,_=> []
 |n+1,k=>Nat.beq (k % 2) 1::xx n (k / 2)
def V5:Nat→List Bool→List Bool
 |0,l=>l
 |n+1,l=>true::V5 n l
theorem lI.n (k:Nat) {l:List Bool} (h:lI l):lI (V5 k l):=by
 induction k with
 |zero=>exact h
 |succ k ih=>exact .t ih
theorem lI.k (k:Nat) {b:Bool} {l:List Bool} (a:b=true) (h:lI l):lI (V5 k (b::l)):= .n k (.c a h)
theorem tf (b:Bool):b=true∨b=false:=by cases b<;>simp
theorem aC {b:Bool} (h:b=true):lit true b=true:=h
theorem aB {b:Bool} (h:b=false):lit false b=true:=by subst h;rfl
theorem dJ {b:Bool} (h:b=false):lit true (!b)=true:=by subst h;rfl
theorem aS {b:Bool} (h:b=true):lit false (!b)=true:=by subst h;rfl
inductive PS (P:Program) (ap:AP):List Prop→List (kM × List bi)→xg→List vz→Prop where
 |nil:PS P ap [] [] [] []
 |c {f:Nat} {args:List AV} {h h':List bi} {out:kM} {ps:List Prop} {ans:List (kM × List bi)} {lps:xg} {hs:List vz}:au P ap f args h out h'→PS P ap ps ans lps hs→PS P ap (au P ap f args h out h'::ps) (ans++ [(out,h')]) lps hs
 |l {h0:List bi} {n:Nat} {code:Code} {s s':St} {e:bM} {ps:List Prop} {ans:List (kM × List bi)} {lps:xg} {hs:List vz}:aH P ap h0 n code s e s'→PS P ap ps ans lps hs→PS P ap (aH P ap h0 n code s e s'::ps) ans (lps++ [(e,s')]) hs
 |v (d:Nat) {x y:AV} {ps:List Prop} {ans:List (kM × List bi)} {lps:xg} {hs:List vz}:aZ x y→PS P ap ps ans lps hs→PS P ap (aZ x y::ps) ans lps (hs++ [.v d y])
 |b (d:Nat) {x y:List AV} {ps:List Prop} {ans:List (kM × List bi)} {lps:xg} {hs:List vz}:x=y→PS P ap ps ans lps hs→PS P ap ((x=y)::ps) ans lps (hs++ [.b d y])
 |u (d:Nat) {x y:List (Option bi)} {ps:List Prop} {ans:List (kM × List bi)} {lps:xg} {hs:List vz}:x=y→PS P ap ps ans lps hs→PS P ap ((x=y)::ps) ans lps (hs++ [.u d])
theorem PS.all {P:Program} {ap:AP} {ps:List Prop} {ans:List (kM × List bi)} {a:xg} {hs:List vz} (h:PS P ap ps ans a hs):Jn ps:=by
 induction h with
 |nil=>exact .nil
 |c h _ ih=>exact .cons h ih
 |l h _ ih=>exact .cons h ih
 |v _ h _ ih=>exact .cons h ih
 |b _ h _ ih=>exact .cons h ih
 |u _ h _ ih=>exact .cons h ih
theorem ck {P:Program} {ap:AP} (g:BF P ap) {ans:List (kM × List bi)} {ps:List Prop} {f:Nat} {args:List AV} {h a:List bi} {out:kM} (hp:PS P ap ps ans [] [])
  (he:tu ap (wZ P ap 3000 4) 3000 .dead f args h ⟨true,[],[],[],ans,[]⟩= .ok (out,a,.dead) ⟨true,[],[],ps,[],[]⟩):au P ap f args h out a:=FX g hp.all he
theorem pk {P:Program} {ap:AP} (g:BF P ap) (d:List Nat) (n k:Nat) {ans:List (kM × List bi)} {a:xg} {hs:List vz} {bs:List Bool} {ps:List Prop} {f:Nat} {args:List AV} {h b:List bi} {out:kM}
  (hb:lI bs) (hp:PS P ap ps ans a hs) (he:OJ P ap (wZ P ap 3000 4) 3000 d f args h a ⟨false,xx n k,[],[],ans,hs⟩= .ok (out,b,.dead) ⟨false,[],bs,ps,[],[]⟩):au P ap f args h out b:=by
 obtain ⟨e,c⟩:=lm g.apok g.mixed g.fnok 3000 4
 exact SX g.apok g.mixed g.fnok e c he ⟨hb.mem,hp.all.mem⟩
def uf (ap:AP) (f:Nat):List Nat:=match ap.fnAt f with|some F=>F.keep|none=> []
def Pj (env:iV):R ((bM × St) × xg)→R ((bM × St) × xg)
 | .ok ((e,s),l) c=> .ok ((e,⟨env.map fun q=>(q.1,s.env.get q.1),s.hp,s.md,s.dfs⟩),l) c
 |r=>r
def NS (P:Program) (ap:AP) (h0:List bi) (f nt0:Nat) (ls:List Nat) (code:Code) (s:St) (lps:xg) (orc:List Bool) (ans:List (kM × List bi)) (hs:List vz) (env:iV):R ((bM × St) × xg):=
 match dX nt0 code with
 |true=>Pj env (lK P ap (wZ P ap 3000 4) h0 (uf ap f) 3000 nt0 ls code s lps ⟨false,orc,[],[],ans,hs⟩)
 |false=> .bad 0
theorem Ub (env a:iV):∀ t,iV.get (env.map fun q=>(q.1,a.get q.1)) t=a.get t∨iV.get (env.map fun q=>(q.1,a.get q.1)) t= .dead:=by
 intro t
 induction env with
 |nil=>exact .inr rfl
 | cons q r ih=>
  cases b:Nat.beq q.1 t with
  |true=>
   left
   have:=Nat.eq_of_beq_eq_true b
   subst this
   simp only [iV.get,List.map_cons,aG,b,Option.getD_some]
  | false=>
   have e:iV.get (List.map (fun q=>(q.1,a.get q.1)) (q::r)) t=iV.get (List.map (fun q=>(q.1,a.get q.1)) r) t:=by
    simp only [iV.get,List.map_cons,aG,b]
   rw [e];exact ih
theorem pj {P:Program} {ap:AP} (g:BF P ap) (f:Nat) (h:List Nat) (n k:Nat) {nt nt0:Nat} {ans:List (kM × List bi)} {b:xg} {hs:List vz} {bs:List Bool} {ps:List Prop} {a:Code} {s s':St} {h0:List bi} {e:bM}
  (hb:lI bs) (hp:PS P ap ps ans b hs) (hn:nt0≤nt) (he:NS P ap h0 f nt0 h a s b (xx n k) ans hs s'.env= .ok ((e,s'),[]) ⟨false,[],bs,ps,[],[]⟩):aj P ap h0 nt a s e s':=by
 unfold NS at he
 split at he
 ·rename_i o
  generalize l:lK P ap (wZ P ap 3000 4) h0 (uf ap f) 3000 nt0 h a s b ⟨false,xx n k,[],[],ans,hs⟩=r at he
  cases r with
  |ok q c=>
   obtain ⟨⟨j,p⟩,v⟩:=q
   simp only [Pj,R.ok.injEq,Prod.mk.injEq] at he
   obtain ⟨⟨⟨rfl,d⟩,rfl⟩,rfl⟩:=he
   obtain ⟨t,u⟩:=lm g.apok g.mixed g.fnok 3000 4
   have i:aj P ap h0 nt a s j p:=(tN g.apok g.mixed t hn a (fC hn a o) _ _ _ _ _ l ⟨hb.mem,hp.all.mem⟩).2
   refine i.weak (aK.refl _) ?_
   rw [← d]
   exact ⟨Ub _ _,rfl,rfl,rfl⟩
  |need=>simp [Pj] at he
  |bad n=>simp [Pj] at he
 ·cases he
theorem aZ.pp {c f:List AV} {a:Nat} (h:List.drop a c=f):aZ (.pp c a) (.pp f 0):=by
 subst h
 intro g m S v d
 simp only [VR,PR] at d ⊢
 obtain ⟨b,o,vs,rfl,hp,hs⟩:=d
 refine ⟨b,o+a,vs.drop a,rfl,pX a hp,fun j u e=> ?_⟩
 rw [List.getElem?_drop] at e
 have:=hs (a+j) u e
 rwa [← Nat.add_assoc] at this
theorem aZ.ppt {e d f:List AV} {a:Nat} (h:List.drop a e=d++f):aZ (.pp e a) (.pp d 0):=by
 intro g m S v i
 have:=aZ.pp h g m S v i
 simp only [VR,PR] at this ⊢
 obtain ⟨b,o,vs,rfl,hp,hs⟩:=this
 refine ⟨b,o,vs.take d.length,rfl, ?_,fun j u c=> ?_⟩
 ·have:=kN d.length hp
  rwa [List.take_left'] at this
  rfl
 ·rw [List.getElem?_take] at c
  split at c
  ·exact hs j u c
  ·cases c
theorem aZ.eq {x y:AV} (h:x=y):aZ x y:=h ▸ fun _ _ _ _ a=>a
theorem aZ.rd1 (k:LK) {b c:List AV} {y:AV} {a:Nat} (h:List.drop a b= [y]++c) (d:eta k y=y):aZ (eta k ((List.drop a b).headD .dead)) y:= .eq (by rw [h];exact d)
theorem lI.a {l r:List Bool} (h:lI l) (a:lI r):lI (l++r):=by
 induction h with
 |nil=>exact a
 |t _ ih=>exact .t ih
 |c hb _ ih=>exact .c hb ih
theorem lI.of {l:List Bool} (h:l.all id=true):lI l:=by
 induction l with
 |nil=>exact .nil
 |cons b r ih=>
  simp only [List.all_cons,id,Bool.and_eq_true] at h
  exact .c h.1 (ih h.2)
theorem gZ (ks:List LK) {b d c:List AV} {a:Nat} (h:List.drop a b=d++c) (e:(S9 true ks (d++c)).all id=true):lI (H8 true ks b a):=by
 unfold H8;rw [h];exact .of e
inductive Wj:List AV→List AV→Prop where
 |nil:Wj [] []
 |same {x:AV} {l r:List AV}:Wj l r→Wj (x::l) (x::r)
 |nilS {l r:List AV}:Wj l r→Wj (.nilS::l) (.sl [] 0 false::r)
 |sl {xs:List AV} {n:Nat} {a:Bool} {l r:List AV}:Wj l r→Wj (.sl xs n a::l) (.sl xs n false::r)
theorem Wj.prl {S:aW} {l r:List AV} (h:Wj l r):∀ {vs:List Value},dK S l vs→dK S r vs:=by
 induction h with
 |nil=>exact fun h=>h
 |same _ ih=>intro vs b;cases vs with|nil=>simp [dK] at b|cons v vs=>simp only [dK] at b ⊢;exact ⟨b.1,ih b.2⟩
 | nilS _ ih=>
  intro vs b
  cases vs with
  |nil=>simp [dK] at b
  |cons v vs=>
   simp only [dK,PR] at b ⊢
   exact ⟨⟨none,0,b.1,Nat.le_refl _,.inl (by simp)⟩,ih b.2⟩
 | @sl xs n a _ _ _ ih=>
  intro vs b
  cases vs with
  |nil=>simp [dK] at b
  |cons v vs=>
   have c:=b
   simp only [dK] at c ⊢
   refine ⟨?_,ih c.2⟩
   have d:=aZ.sl xs n a (fun _=>none) (fun _=>(0,0)) S v (by simp only [VR];exact c.1)
   simpa only [VR] using d
theorem aZ.slP {i p:List AV} {n:Nat} {j:Bool} (k:Wj i p):aZ (.sl i n j) (.sl p n j):=by
 intro g m S v l
 simp only [VR,PR] at l ⊢
 obtain ⟨a,e,rfl,q,h⟩:=l
 refine ⟨a,e,rfl,q, ?_⟩
 rcases h with ⟨f,c,d,r,s⟩|⟨b,o,vs,f,c,d⟩
 ·subst d
  cases k
  exact .inl ⟨f,c,rfl,r,s⟩
 ·exact .inr ⟨b,o,vs,f,k.prl c,d⟩
end AM
namespace AM
open Go
variable {P:Program} {ap:AP}
theorem aj.norm {h0:List bi} {nt:Nat} {b:Code} {s d:St} {e:bM} (keep:List Nat) (q:∀ v,e= .panic v→(fD v).isEmpty=true) (h:aj P ap h0 nt b s e d):aj P ap h0 nt b s e (AM.norm h0.length keep d):=by
 intro hs
 obtain ⟨n,k⟩:=h hs
 refine ⟨n,fun m0 S0 w0 m S w a f t Q j=>k m0 S0 w0 m S w a f t Q ?_⟩
 intro x S' w' o u p
 obtain ⟨r,l,i⟩:=nM (keep:=keep) u p
 have:=j r S' w' o l i
 clear j l i k
 generalize AM.norm h0.length keep d=s2 at*
 cases e with
 |normal=>exact this
 |exit id=>exact this
 |ret=>exact this
 |panic v=>intro cv c;exact this cv (iP _ (mg (q v rfl) c))
def akW:bM→Bool
 | .panic v=>(fD v).isEmpty
 |_=>true
def Pg (base:Nat) (env:iV):R ((bM × St) × xg)→R ((bM × St) × xg)
 | .ok ((e,s),l) c=>match akW e with
  |true=> .ok ((e,norm base (env.map fun q=>q.1) s),l) c
  |false=> .bad 1
 |r=>r
def NR (P:Program) (ap:AP) (h0:List bi) (f nt0:Nat) (ls:List Nat) (code:Code) (s:St) (lps:xg) (orc:List Bool) (ans:List (kM × List bi)) (hs:List vz) (env:iV):R ((bM × St) × xg):=
 match dX nt0 code with
 |true=>Pg h0.length env (lK P ap (wZ P ap 3000 4) h0 (uf ap f) 3000 nt0 ls code s lps ⟨false,orc,[],[],ans,hs⟩)
 |false=> .bad 0
theorem pn (g:BF P ap) (f:Nat) (i:List Nat) (n k:Nat) {nt nt0:Nat} {ans:List (kM × List bi)} {b:xg} {hs:List vz} {bs:List Bool} {ps:List Prop} {a:Code} {s s':St} {h0:List bi} {e:bM}
  (hb:lI bs) (hp:PS P ap ps ans b hs) (hn:nt0≤nt) (he:NR P ap h0 f nt0 i a s b (xx n k) ans hs s'.env= .ok ((e,s'),[]) ⟨false,[],bs,ps,[],[]⟩):aj P ap h0 nt a s e s':=by
 unfold NR at he
 split at he
 ·rename_i l
  generalize t:lK P ap (wZ P ap 3000 4) h0 (uf ap f) 3000 nt0 i a s b ⟨false,xx n k,[],[],ans,hs⟩=r at he
  cases r with
  | ok q c=>
   obtain ⟨⟨o,p⟩,z⟩:=q
   simp only [Pg] at he
   split at he
   ·rename_i d
    simp only [R.ok.injEq,Prod.mk.injEq] at he
    obtain ⟨⟨⟨rfl,h⟩,rfl⟩,rfl⟩:=he
    obtain ⟨x,y⟩:=lm g.apok g.mixed g.fnok 3000 4
    have j:aj P ap h0 nt a s o p:=(tN g.apok g.mixed x hn a (fC hn a l) _ _ _ _ _ t ⟨hb.mem,hp.all.mem⟩).2
    have:=j.norm (s'.env.map fun q=>q.1) (fun v u=>by subst u;exact d)
    rwa [h] at this
   ·cases he
  |need=>simp [Pg] at he
  |bad n=>simp [Pg] at he
 ·cases he
end AM
namespace AM
open Go Go.WideShapes Go.ChangeShapes
theorem FI {a:Addr} (h:a.spot=none) (n:Nat):a.add n=⟨a.block,a.off+n,none⟩:=by
 unfold Addr.add
 obtain ⟨b,o,s⟩:=a
 simp only at h
 subst h
 split
 ·rename_i c;subst c;rfl
 ·rfl
section
variable {H:Type} {enc:TypeId × Value→H} {P:Program} {w:World} {base:Nat} {spare:Nat→Bool} {held:Bool}
theorem Jq {S:aW} {ks:List LK}:∀ (L:List (List Value)),(∀ x ∈ L,gu ks x)→dK S (L.flatMap fun x=>x.map oZ) L.flatten
 | [],_=>by simp [dK]
 |x::r,h=>by
  rw [List.flatMap_cons,List.flatten_cons]
  exact mX (gu.pr (h x (by simp))) (Jq r fun y a=>h y (by simp [a]))
theorem U9 {ks:List LK}:∀ (L:List (List Value)),(∀ x ∈ L,gu ks x)→∀ u ∈ L.flatten,u.oneCell'=true:=by
 intro L h u a
 obtain ⟨x,b,a⟩:=List.mem_flatten.1 a
 exact gu.one (h x b) u a
theorem akY {t e:TypeId} {n base':Nat} {ks:List LK} (G:P.underlying t=some (.slice e)) (W:Gi P n e=some ks) (U:P.cellsOf e=ks.length) {v:Value} {d:DataW H} {p:List MemPlace}
  (hv:Value.okWide P w .any base' t v) (h:DataW.Trod enc P w base spare held t v d p):∃ L:List (List Value),(∀ x ∈ L,gu ks x)∧PR (pV w) (.sl (L.flatMap fun x=>x.map oZ) L.length false) v:=by
 obtain ⟨N,f,k,rfl⟩:=okWide_slice G hv
 obtain ⟨M,h⟩:=h
 rcases DataW.trod_slice G h with ⟨i,_⟩|⟨a,A,y,elems,rest,m,_,i,_,_,X,hm,K,F,_,_⟩
 ·have:N=none∧f=0∧k=0:=by simpa [Value.cells] using i
  obtain ⟨rfl,rfl,rfl⟩:=this
  refine ⟨[],by simp, ?_⟩
  simp only [PR]
  exact ⟨none,0,rfl,Nat.le_refl _,.inl (by simp)⟩
 ·have:N=some a∧f=A∧k=y:=by simpa [Value.cells] using i
  obtain ⟨rfl,rfl,rfl⟩:=this
  have hspot:a.spot=none:=by
   simp only [Value.okWide,G,Cell.okWide,Cell.ok] at hv
   exact hv.2.2.2.1
  have key:∀ q,q≤f→∃ L:List (List Value),L.length=q∧(∀ x ∈ L,gu ks x)∧L.flatten.length=q*ks.length∧∀ j u,L.flatten[j]? =some u→pV w a.block (a.off+j)=some u:=by
   intro q
   induction q with
   |zero=>intro _;exact ⟨[],rfl,by simp,by simp,by simp⟩
   | succ q ih=>
    intro Y
    obtain ⟨L,C,r,B,I⟩:=ih (by omega)
    have O:=F q (by omega)
    rw [List.getElem?_eq_getElem (by omega)] at O
    obtain ⟨E,Q,V⟩:=Option.bind_eq_some_iff.1 O
    have D:=Qu n e ks W _ _ _ V
    obtain ⟨_,Z,J⟩:=World.cells?_some Q
    refine ⟨L++ [E],by simp [C], ?_, ?_, ?_⟩
    ·intro x l
     rcases List.mem_append.1 l with l|l
     ·exact r x l
     ·simp at l;subst l;exact D
    ·rw [List.flatten_append,List.length_append,B]
     have:=D.length
     simp only [List.flatten_cons,List.flatten_nil,List.append_nil]
     rw [← this,Nat.succ_mul]
    ·intro j u c
     rw [List.flatten_append,List.getElem?_append] at c
     split at c
     ·exact I j u c
     ·rename_i R
      simp only [List.flatten_cons,List.flatten_nil,List.append_nil] at c
      have T:=(List.getElem?_eq_some_iff.1 c).1
      have z:=J (j - L.flatten.length) (by omega)
      rw [c,FI hspot,FI rfl] at z
      refine He ?_ (gu.one D u (List.mem_of_getElem? c))
      rw [← z,B,U]
      congr 2
      have:q*ks.length≤j:=by rw [← B];omega
      simp only
      omega
  obtain ⟨L,C,r,B,I⟩:=key f (Nat.le_refl _)
  refine ⟨L,r, ?_⟩
  simp only [PR]
  refine ⟨some a,k,by rw [C],by rw [C];exact X,.inr ⟨a.block,a.off,L.flatten, ?_,Jq L r,fun j u c=> ⟨I j u c,U9 L r u (List.mem_of_getElem? c)⟩⟩⟩
  obtain ⟨b,o,s⟩:=a
  simp only at hspot
  subst hspot
  rfl
theorem adH {α:Type} (f:α→List AV) {L:List (List Value)} (h:∀ x ∈ L,∃ a,x.map oZ=f a):∃ l:List α,(L.flatMap fun x=>x.map oZ)=l.flatMap f∧L.length=l.length:=by
 induction L with
 |nil=>exact ⟨[],rfl,rfl⟩
 |cons x r ih=>
  obtain ⟨a,e⟩:=h x (by simp)
  obtain ⟨l,d,b⟩:=ih fun y c=>h y (by simp [c])
  exact ⟨a::l,by rw [List.flatMap_cons,List.flatMap_cons,e,d],by simp [b]⟩
end
end AM
namespace AM
open Go
section
variable {P:Program} {ap:AP}
theorem aj.ahead {h0:List bi} {nt:Nat} {c:Code} {e:bM} {j:St} (b:Nat) (B:bi) {f en':iV} {hp hp':Hp} (l:aj P ap h0 nt c ⟨en',hp',.dead,[]⟩ e j) (d:h0.length≤b) (h:B.pr=true)
  (henv:Qs b B en' (iV.get f)) (hhp:Nj b B hp' hp):aj P ap h0 nt c {env:=f,hp,md:= .dead,dfs:= []} e j:=by
 intro _
 obtain ⟨s,n⟩:=l rfl
 refine ⟨s,fun m0 S0 w0 m S w a i p Q o=> ?_⟩
 obtain ⟨S2,q,k⟩:=J4 (r:={env:=f,hp,md:= .dead,dfs:= []}) (r':=⟨en',hp',.dead,[]⟩) b B d (xZ hhp) h rfl (oN henv) (AZ hhp) (AY hhp) i p
 exact n m0 S0 w0 m S2 w a q k Q o
end
end AM
namespace AM
open Go
section
variable {P:Program} {ap:AP} {H:di}
def pI (r:kz):kz:={r with rb:= []}
theorem CE {D:Nat→Bool}:∀ (rs:List kz) (i j:Nat) (e:iV) (r:kz),rs[i]? =some r→lS D j e (rs.set i (pI r))=lS D j e rs
 | [],i,j,e,r,h=>by simp at h
 |x::rs,0,j,e,r,h=>by
  have h:x=r:=by simpa using h
  subst h;rfl
 |x::rs,i+1,j,e,r,h=>by
  simp only [List.set_cons_succ,lS]
  exact CE rs i (j+1) _ r (by simpa using h)
theorem Iq {D:Nat→Bool}:∀ (rs:List kz) (i j:Nat) (e:Hp) (r:kz),rs[i]? =some r→n_ D j e (rs.set i (pI r))=n_ D j e rs
 | [],i,j,e,r,h=>by simp at h
 |x::rs,0,j,e,r,h=>by
  have h:x=r:=by simpa using h
  subst h;rfl
 |x::rs,i+1,j,e,r,h=>by
  simp only [List.set_cons_succ,n_]
  exact Iq rs i (j+1) _ r (by simpa using h)
theorem G6 (a:List kz) (i k:Nat) (r:kz) (h:a[i]? =some r):(a.set i (pI r)).take k=a.take k∨((a.take k)[i]? =some r∧(a.set i (pI r)).take k=(a.take k).set i (pI r)):=by
 by_cases hk:i<k
 ·right
  refine ⟨by rw [List.getElem?_take,if_pos hk];exact h, ?_⟩
  rw [List.take_set]
 ·left
  rw [List.take_set,List.set_eq_of_length_le]
  rw [List.length_take];omega
theorem F_ (a:List kz) (i k:Nat) (e:iV) (r:kz) (h:a[i]? =some r):nZ e ((a.set i (pI r)).take k)=nZ e (a.take k):=by
 rcases G6 a i k r h with b|⟨b,c⟩
 ·rw [b]
 ·rw [c];exact CE _ _ _ _ _ b
theorem Uf (a:List kz) (i k:Nat) (e:Hp) (r:kz) (h:a[i]? =some r):C9 e ((a.set i (pI r)).take k)=C9 e (a.take k):=by
 rcases G6 a i k r h with b|⟨b,c⟩
 ·rw [b]
 ·rw [c];exact Iq _ _ _ _ _ b
def G9:Hp→Nat→List bi
 | [],_=> []
 |(b,B)::r,t=>match Nat.beq b t with|true=>B::G9 r t|false=>G9 r t
theorem G_ {b:Nat} {B:bi}:∀ {hp:Hp},(b,B) ∈ hp→B ∈ G9 hp b
 | (c,C)::r,h=>by
  simp only [G9]
  rcases List.mem_cons.1 h with h|h
  ·cases h
   rw [Nat.beq_refl];exact List.mem_cons_self
  ·have a:=G_ h
   split
   ·exact List.mem_cons_of_mem _ a
   ·exact a
theorem OX {D D':Nat→Bool} (c:∀ j,D j=true→D' j=true):∀ (rs:List kz) (j:Nat) (h h':Hp),(∀ x ∈ h,x ∈ h')→∀ x ∈ n_ D j h rs,x ∈ n_ D' j h' rs
 | [],_,_,_,hs=>hs
 | r::rs,j,h,h',hs=>by
  simp only [n_]
  refine OX c rs (j+1) _ _ ?_
  intro x a
  cases b:D j with
  |true=>
   rw [b] at a
   rw [c j b]
   rcases List.mem_append.1 a with a|a
   ·exact List.mem_append.2 (.inl a)
   ·exact List.mem_append.2 (.inr (hs x a))
  |false=>
   rw [b] at a
   cases D' j with
   |true=>exact List.mem_append.2 (.inr (hs x a))
   |false=>exact hs x a
def u_ (D:Nat→Bool):List wC→Hp→Hp
 | [],hp=>hp
 |F::r,hp=>match D r.length with
  |true=>hp.take F.wb.length++u_ D r (hp.drop F.wb.length)
  |false=>u_ D r (hp.drop F.wb.length)
theorem CZ {D:Nat→Bool}:∀ (rs:List kz) (j:Nat) (h:Hp) (r:kz),n_ D j h (rs++ [r])=match D (j+rs.length) with|true=>r.ups++n_ D j h rs|false=>n_ D j h rs
 | [],j,h,r=>by
  simp only [List.nil_append,n_,List.length_nil,Nat.add_zero]
  cases D j<;>rfl
 |x::rs,j,h,r=>by
  simp only [List.cons_append,n_]
  rw [CZ rs (j+1) _ r]
  rw [show j+1+rs.length=j+(x::rs).length by simp;omega]
theorem Ez {D:Nat→Bool} (h:Hp):∀ (l:List kz),u_ D (l.map kz.foot) (C9 h l.reverse)=n_ D 0 h l.reverse
 | []=>rfl
 | r::l=>by
  have e:C9 h (r::l).reverse=r.ups++C9 h l.reverse:=by
   unfold C9
   rw [List.reverse_cons,CZ]
  have a:(kz.foot r).wb.length=r.ups.length:=by simp [kz.foot]
  rw [e,List.reverse_cons,CZ]
  simp only [List.map_cons,u_,a,List.length_map,List.take_left,List.drop_left,List.length_reverse,Nat.zero_add]
  rw [Ez h l]
theorem J6 {D:Nat→Bool} {b:Nat}:∀ (rs:List kz) (j:Nat) (h:Hp),(∃ B,aG h b=some B)→∃ B,aG (n_ D j h rs) b=some B
 | [],_,_,hs=>hs
 | r ::rs,j,h,hs=>by
  simp only [n_]
  refine J6 rs (j+1) _ ?_
  cases D j with
  |false=>exact hs
  | true=>
   by_cases hm:b ∈ r.ups.map (·.1)
   ·obtain ⟨B,a⟩:=uj hm
    exact ⟨B,by
     rw [iw,a]⟩
   ·rw [qX hm];exact hs
inductive BI (P:Program) (ap:AP) (H:di) (n:Nat) (ops:List Oper) (o:Oper) (b d:Nat) (rt:List Nat) (env:iV) (v:AV):List bi→Prop where
 |nil:BI P ap H n ops o b d rt env v []
 | cons {B:bi} {r:List bi} {c2 c3:Cx} {t:RS}:Lj ap H n ops o {env,hp:= [(b,B)],md:= .dead,dfs:= [],dec:= [],feet:= []} c2= .ok (t,none) c3→c3.Ok→t.feet= [{rt:=rt,wt:= [d],rb:= [b],wb:= []}]→t.dfs= []→t.env.get d=v→
   BI P ap H n ops o b d rt env v r→BI P ap H n ops o b d rt env v (B::r)
theorem BI.sem (f:jd P ap) (A:jX P ap H) {n:Nat} {ops:List Oper} {o:Oper} {b d:Nat} {rt:List Nat} {env:iV} {v:AV} {l:List bi} (q:o.dst=some d) (h:BI P ap H n ops o b d rt env v l):∀ B ∈ l,Ho P ap ops.toArray o n env [(b,B)] rt [b] v [] [] none:=by
 induction h with
 |nil=>intro B x;simp at x
 | @cons B r c2 c3 t he hc hft hdf0 hvd _ ih=>
  intro B' a
  rcases List.mem_cons.1 a with rfl|a
  ·obtain ⟨_,hs⟩:=rP f A he hc
   obtain ⟨u,rb,ups,s,hs⟩:=hs rfl (fun t b z=>by cases z)
   have j:=hs.feet rfl
   rw [hft] at j
   simp only [List.cons.injEq,wC.mk.injEq,and_true] at j
   obtain ⟨e,_,k,p⟩:=j
   have c:ups= []:=by
    cases ups with
    |nil=>rfl
    |cons _ _=>simp at p
   have i:s= []:=by
    have:=hs.dfs
    rw [hdf0] at this
    simpa using this.symm
   have y:u=v:=by
    have:=hs.env rfl
    rw [this,q,jo] at hvd
    exact hvd
   have:=hs.sem
   rw [← e,← k,c,i,y] at this
   exact this
  ·exact ih B' a
theorem Qo (hap:jd P ap) (hmix:P.follows .mixedOrders=true) (hH:jX P ap H) {ops:List Oper} {nt:Nat} {h0:List bi} (keep:List Nat) {id:Nat} (hnt:∀ o ∈ ops,∀ d,o.dst=some d→d<nt) {s:St} {f:RS} {c c':Cx} (i b d:Nat) (o:Oper) (rt:List Nat) (v:AV) (L:List bi)
  (e1:rQ ap H ops ops (iI s.hp) {env:=s.env,hp:=s.hp,md:=s.md,dfs:=s.dfs,dec:= [],feet:= []} c= .ok (f,none) c') (hc:c'.Ok)
  (hoi:ops[i]? =some o) (hod:o.dst=some d) (hft:f.feet.reverse[i]? =some {rt:=rt,wt:= [d],rb:= [b],wb:= []})
  (hord:um (iI s.hp) (Region.before ops.toArray).toList (f.feet.reverse.set i {rt:=rt,wt:= [d],rb:= [],wb:= []}).reverse=true) (hback:qU ops=true) (hdl:f.dfs.length=s.dfs.length)
  (hlate:∀ k C,i<k→ops[k]? =some C→∀ x,C.dst=some x→x ≠ d∧x ∉ rt) (hdr:d ∉ rt)
  (hv:f.env.get d=v) (Y:∃ B,aG s.hp b=some B) (hL:G9 (u_ (fun k=> !(((Region.before ops.toArray).toList.getD k 0).testBit i)) f.feet f.hp) b=L) (hst:BI P ap H (iI s.hp+4*i) ops o b d rt f.env v L):
  aj P ap h0 nt (.region id ops.toArray true) s .normal (norm h0.length keep ⟨f.env,f.hp,f.md,f.dfs⟩):=by
 intro hmd
 have hn0:∀ b B,aG s.hp b=some B→b<iI s.hp:=fun b B Y=>qF Y
 obtain ⟨_,hs⟩:=VX hap hH ops 0 _ _ _ _ _ e1 hc
 obtain ⟨h1,recs,R,e⟩:=hs hmd (fun t b Y=>by cases Y) rfl
 refine ⟨h1,fun m0 S0 w0 m S w a hfr O Q hQ=>wp_region_any hmix ?_⟩
 have F:f.dfs.length=s.dfs.length:=hdl
 have hdf:=(e.sem F).1
 have hil:i<recs.length:=by rw [R];exact (List.getElem?_eq_some_iff.1 hoi).1
 have p:recs[i]? =some recs[i]:=List.getElem?_eq_getElem hil
 have hfeet:f.feet.reverse=recs.map kz.foot:=by rw [e.feet,List.append_nil,List.reverse_reverse]
 rw [hfeet] at hft hord
 rw [List.getElem?_map,p,Option.map_some,Option.some.injEq] at hft
 generalize recs[i]=r at p hft
 have J:=hft
 simp only [kz.foot,wC.mk.injEq] at J
 obtain ⟨hrt,hwt,hrb,u⟩:=J
 have u:r.ups= []:=by
  cases hu:r.ups with
  |nil=>rfl
  |cons _ _=>rw [hu] at u;simp at u
 have Z:(recs.map kz.foot).set i {rt:=rt,wt:= [d],rb:= [],wb:= []}=(recs.set i (pI r)).map kz.foot:=by
  rw [List.map_set]
  congr 1
  simp only [kz.foot,pI,wC.mk.injEq]
  exact ⟨hrt.symm,hwt.symm,trivial,by rw [u];rfl⟩
 rw [Z] at hord
 have X:oK (Array.replicate ops.length false)=fun _=>false:=by
  funext k
  simp only [oK,Array.getD_eq_getD_getElem?]
  by_cases n:k<ops.length<;>simp [n]
 have hsz:ops.toArray.size=ops.length:=by simp
 rw [hsz]
 have V:∀ D,n_ D 0 s.hp (recs.set i (pI r))=n_ D 0 s.hp recs:=fun D=>Iq recs i 0 s.hp r p
 have enE:∀ D,lS D 0 s.env (recs.set i (pI r))=lS D 0 s.env recs:=fun D=>CE recs i 0 s.env r p
 have N:∀ k,k ≠ i→(recs.set i (pI r))[k]? =recs[k]? :=fun k n=>List.getElem?_set_ne (Ne.symm n)
 have hgeti:(recs.set i (pI r))[i]? =some (pI r):=List.getElem?_set_self hil
 have hdsto:∀ (k:Nat) (q:kz),recs[k]? =some q→∃ C:Oper,ops[k]? =some C∧q.dst=C.dst:=by
  intro k q n
  obtain ⟨C,z,A,_⟩:=(e.sem F).2 k q n
  exact ⟨C,by rw [← z,Nat.zero_add],A⟩
 have G:r.dst=some d:=by
  obtain ⟨C,z,A⟩:=hdsto i r p
  rw [hoi] at z;cases z
  rw [A,hod]
 have hrv:r.v=v:=by
  have e2:(nZ s.env recs).get d=(nZ s.env (recs.take (i+1))).get d:=by
   rw [← xO]
   refine ny recs 0 _ _ rfl fun k q n T=> ?_
   rw [Nat.zero_add]
   by_cases hki:i<k
   ·obtain ⟨C,z,A⟩:=hdsto k q n
    exact absurd rfl (hlate k C hki z d (A ▸ T)).1
   ·simp;omega
  have e3:f.env.get d=v:=hv
  rw [e.env] at e3
  rw [show (nZ s.env recs).get d=(nZ s.env recs).get d from rfl,e2,Gf _ _ _ _ p,G,jo] at e3
  exact e3
 have hrte:∀ t ∈ rt,(nZ s.env (recs.take i)).get t=f.env.get t:=by
  intro t ht
  rw [e.env,← xO]
  refine ny recs 0 _ _ rfl fun k q n T=> ?_
  rw [Nat.zero_add]
  rcases Nat.lt_trichotomy k i with h|h|h
  ·simp [h]
  ·subst h
   rw [p] at n;cases n
   rw [G] at T;cases T
   exact absurd ht hdr
  ·obtain ⟨C,z,A⟩:=hdsto k q n
   exact absurd ht (hlate k C h z t (A ▸ T)).2
 refine JX (P:=P) (ap:=ap) (s:={env:=s.env,hp:=s.hp,md:=s.md,dfs:=s.dfs,dec:= [],feet:= []}) (recs:=recs.set i (pI r)) hnt (by rw [List.length_set];exact R) ?_ ?_ (DR hord) hback hn0 (m0:=m) (S0:=S) (w0:=w) (Q:=Q) ?_ ops.length _ m S _ a ⟨by simp, ?_, ?_, ?_⟩ ?_
 ·intro k q n x M
  by_cases hki:k=i
  ·subst hki
   rw [hgeti] at n;cases n
   rw [show (pI r).ups=r.ups from rfl,u] at M
   simp at M
  ·rw [N k hki] at n
   have:=e.bound k q n x M
   omega
 ·intro k q n
  by_cases hki:k=i
  ·subst hki
   rw [hgeti] at n;cases n
   refine ⟨o,hoi,by rw [← hod] at G;exact G, ?_⟩
   intro D m2 S2 w2 a2 W y _ l hnb Q2 K U
   dsimp only at W y l U
   rw [V] at W y l U
   obtain ⟨B,hB⟩:=J6 (D:=D) recs 0 s.hp Y
   have hBm:B ∈ L:=by
    have e4:=Ez (D:=fun j=> !(((Region.before ops.toArray).toList.getD j 0).testBit k)) s.hp recs.reverse
    rw [List.reverse_reverse,List.map_reverse] at e4
    rw [← hL,e.hp,e.feet,List.append_nil]
    rw [e4]
    refine G_ (OX (D:=D) (fun j hj=> ?_) recs 0 s.hp s.hp (fun _ h=>h) _ (yX hB))
    cases hb2:((Region.before ops.toArray).toList.getD j 0).testBit k with
    |false=>rfl
    |true=>rw [hnb j hb2] at hj;cases hj
   have E:=hst.sem hap hH hod B hBm
   rw [show (pI r).v=r.v from rfl,hrv,show (pI r).ups=r.ups from rfl,u] at U
   refine E _ m2 S2 w2 a2 W (fun t ht=> ?_) (fun x M B2 hB2=> ?_) l Q2 K U
   ·have z:=y t (by rw [show (pI r).rt=r.rt from rfl,hrt];exact ht)
    rw [F_ recs k k s.env r p,hrte t ht] at z
    exact z
   ·rw [List.mem_singleton] at M
    subst M
    simp only [aG,Nat.beq_refl,Option.some.injEq] at hB2
    subst hB2
    exact hB
  ·rw [N k hki] at n
   obtain ⟨C,z,A,E⟩:=(e.sem F).2 k q n
   rw [Nat.zero_add] at z
   refine ⟨C,z,A, ?_⟩
   intro D m2 S2 w2 a2 W y I l _ Q2 K U
   dsimp only at W y I l U
   rw [V] at W y I l U
   rw [F_ recs i k s.env r p] at y
   rw [Uf recs i k s.hp r p] at I
   exact E _ m2 S2 w2 a2 W y (fun x M B hB=>by rw [← I x M];exact hB) l Q2 K U
 ·intro m' S' w' a' A h4
  dsimp only at A h4
  have e5:C9 s.hp (recs.set i (pI r))=C9 s.hp recs:=V _
  have e6:nZ s.env (recs.set i (pI r))=nZ s.env recs:=enE _
  rw [e5] at A h4
  rw [e6] at h4
  have h5:Fr (bI h0) m0 S0 w0 (aG f.hp) m' S' w':=by
   rw [e.hp];exact hfr.trans A
  have h6:FR ap f.env f.hp f.dfs nt m' S' w' a':=by
   rw [e.hp,e.env,hdf];exact h4
  obtain ⟨m2,h7,h8⟩:=nM (keep:=keep) (s:=⟨f.env,f.hp,f.md,f.dfs⟩) h5 h6
  exact hQ m2 S' w' a' h7 h8
 ·intro k o n T
  rw [X] at T;cases T
 ·dsimp only
  rw [X,nG _ 0 _ (fun _ _=>rfl)]
  exact ⟨Ge.refl _ _,mi.refl _,rfl,rfl,rfl,Nat.le_refl _,fun _ _ _=>rfl,fun _ B h=> .inr ⟨B,h,rfl⟩,fun _ _ _ h=> .inl h⟩
 ·dsimp only
  rw [X,nG _ 0 _ (fun _ _=>rfl),uO _ 0 _ (fun _ _=>rfl)]
  exact ⟨⟨O.srel.inj,fun b B Y=>O.srel.blk b B Y|>fun ⟨h1,z,A⟩=> ⟨h1,z,A⟩,O.srel.sealed,O.srel.own,O.srel.glob⟩,O.env,O.dfs,O.size⟩
 ·simp only [A_]
  exact Nat.le_trans (List.length_filter_le _ _) (by simp)
def Ak:List Nat→List Nat→Bool
 | [],[]=>true
 |a::r,b::q=>Nat.beq a b && Ak r q
 |_,_=>false
theorem oL:∀ {l r:List Nat},Ak l r=true→l=r
 | [],[],_=>rfl
 |a::r,b::q,h=>by
  simp only [Ak,Bool.and_eq_true] at h
  rw [aO h.1,oL h.2]
 | [],_::_,h=>by simp [Ak] at h
 |_::_,[],h=>by simp [Ak] at h
def PH (ap:AP) (H:di) (n:Nat) (ops:List Oper) (o:Oper) (b d:Nat) (rt:List Nat) (env:iV) (v:AV):List bi→Option (List Prop)
 | []=>some []
 | B ::r=>match Lj ap H n ops o {env,hp:= [(b,B)],md:= .dead,dfs:= [],dec:= [],feet:= []} ⟨true,[],[],[],[],[]⟩ with
  | .ok (t,none) c3=>match t.feet,t.dfs,c3.bs,c3.ps with
   | [F],[],[],[]=>match Ak F.rt rt && Ak F.wt [d] && Ak F.rb [b] && Ak F.wb [] with
    |true=>match PH ap H n ops o b d rt env v r with
     |some l=>some ((t.env.get d=v)::l)
     |none=>none
    |false=>none
   |_,_,_,_=>none
  |_=>none
theorem Lh {n:Nat} {ops:List Oper} {o:Oper} {b d:Nat} {rt:List Nat} {env:iV} {v:AV}:∀ {L:List bi} {l:List Prop},PH ap H n ops o b d rt env v L=some l→(∀ p ∈ l,p)→BI P ap H n ops o b d rt env v L
 | [],_,_,_=> .nil
 | B ::r,l,h,hl=>by
  simp only [PH] at h
  split at h
  ·rename_i t s i
   split at h
   ·rename_i F j c e k
    split at h
    ·rename_i a
     simp only [Bool.and_eq_true] at a
     split at h
     ·rename_i q f
      cases h
      refine .cons i ⟨by rw [e];simp,by rw [k];simp⟩ ?_ c (hl _ (by simp)) (Lh f fun p hp=>hl p (by simp [hp]))
      rw [j,← oL a.1.1.1,← oL a.1.1.2,← oL a.1.2,← oL a.2]
     ·cases h
    ·cases h
   ·cases h
  ·cases h
def Ja (ap:AP) (H:di) (base:Nat) (keep:List Nat) (nt0 i b d:Nat) (code:Code) (s:St) (c:Cx):R St:=
 match code with
 | .region _ opsA true=>
  (rQ ap H opsA.toList opsA.toList (iI s.hp) {env:=s.env,hp:=s.hp,md:=s.md,dfs:=s.dfs,dec:= [],feet:= []} c).bind fun (s1,p) c=>
  match p with
  |some _=> .bad 1
  |none=>
  match opsA.toList[i]?,s1.feet.reverse[i]? with
  | some o,some F=>
   match (match o.dst with|some d'=>Nat.beq d' d|none=>false) && Ak F.wt [d] && Ak F.rb [b] && Ak F.wb [] && um (iI s.hp) (Region.before opsA).toList (s1.feet.reverse.set i {rt:=F.rt,wt:= [d],rb:= [],wb:= []}).reverse && qU opsA.toList && Nat.beq s1.dfs.length s.dfs.length
    && (opsA.toList.drop (i+1)).all (fun o'=>match o'.dst with|some x=> !(Nat.beq x d) && !(pG F.rt x)|none=>true) && !(pG F.rt d) && (aG s.hp b).isSome && opsA.toList.all (F9 nt0) with
   |true=>match PH ap H (iI s.hp+4*i) opsA.toList o b d F.rt s1.env (s1.env.get d) (G9 (u_ (fun k=> !(((Region.before opsA).toList.getD k 0).testBit i)) s1.feet s1.hp) b) with
    |some l=> .ok (norm base keep ⟨s1.env,s1.hp,s1.md,s1.dfs⟩) {c with ps:=l++c.ps}
    |none=> .bad 3
   |false=> .bad 2
  |_,_=> .bad 4
 |_=> .bad 5
theorem Og (v:jd P ap) (q:P.follows .mixedOrders=true) (Y:jX P ap H) {h0:List bi} {keep:List Nat} {nt nt0 i b d:Nat} {j:Code} {s s':St} {c G:Cx} (L:nt0≤nt) (h:Ja ap H h0.length keep nt0 i b d j s c= .ok s' G) (y:G.Ok):aj P ap h0 nt j s .normal s':=by
 unfold Ja at h
 split at h
 ·rename_i id a
  obtain ⟨⟨T,p⟩,c1,I,h⟩:=R.bind_ok h
  dsimp only at h
  split at h
  ·cases h
  ·split at h
   ·rename_i o F Q X
    split at h
    ·rename_i hcond
     split at h
     ·rename_i l V
      cases h
      simp only [Bool.and_eq_true] at hcond
      obtain ⟨⟨⟨⟨⟨⟨⟨⟨⟨⟨z,W⟩,M⟩,U⟩,N⟩,O⟩,K⟩,J⟩,E⟩,C⟩,B⟩:=hcond
      have t:o.dst=some d:=by
       split at z
       ·rename_i d' A;rw [A,aO z]
       ·cases z
      have D:F={rt:=F.rt,wt:= [d],rb:= [b],wb:= []}:=by
       rw [← oL W,← oL M,← oL U]
      have f:a.toList.toArray=a:=by simp
      have key:=Qo (nt:=nt) (h0:=h0) v q Y keep (id:=id) (ops:=a.toList) (fun r n x u=>by
        have:=List.all_eq_true.1 B r n
        simp only [F9,u] at this
        exact Nat.lt_of_lt_of_le (gm this) L) i b d o F.rt (T.env.get d) _ I ⟨y.bs,fun p hp=>y.ps p (by simp [hp])⟩ Q t (by rw [X,← D]) (by rw [f];exact N) O (aO K) ?_ ?_ rfl (by simpa [Option.isSome_iff_exists] using C) (by rw [f]) (Lh V fun p hp=>y.ps p (by simp [hp]))
      ·rw [f] at key
       exact key
      ·intro k r hk n x u
       have Z:r ∈ a.toList.drop (i+1):=by
        refine List.mem_of_getElem? (i:=k - (i+1)) ?_
        rw [List.getElem?_drop,show i+1+(k - (i+1))=k by omega]
        exact n
       have:=List.all_eq_true.1 J r Z
       simp only [u,Bool.and_eq_true,Bool.not_eq_true'] at this
       refine ⟨fun e=> ?_,fun e=> ?_⟩
       ·subst e;rw [Nat.beq_refl] at this;cases this.1
       ·rw [jf.2 e] at this;cases this.2
      ·intro e
       rw [jf.2 e] at E
       cases E
     ·cases h
    ·cases h
   ·cases h
 ·cases h
end
theorem Bf {P:Program} {ap:AP} (g:BF P ap) {h0:List bi} {keep:List Nat} {nt nt0 i b d:Nat} {a:Code} {s s':St} {ans:List (kM × List bi)} {ps:List Prop} (hp:Jn ps) (c:nt0≤nt)
  (h:Ja ap (wZ P ap 3000 4) h0.length keep nt0 i b d a s ⟨true,[],[],[],ans,[]⟩= .ok s' ⟨true,[],[],ps,[],[]⟩):aj P ap h0 nt a s .normal s':=by
 obtain ⟨e,_⟩:=lm g.apok g.mixed g.fnok 3000 4
 exact Og g.apok g.mixed e c h ⟨by simp,hp.mem⟩
end AM
