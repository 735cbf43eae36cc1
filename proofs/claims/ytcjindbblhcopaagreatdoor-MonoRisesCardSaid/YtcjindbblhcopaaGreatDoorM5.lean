/- The abstract machine over the code of the model, and the proof that it is sound. No conditions. -/
import Derived.Test.YtcjindbblhcopaaGreatDoorM4
import Derived.ChangeArms
import Derived.WideShapes
set_option linter.unusedSimpArgs false
set_option linter.unusedVariables false
namespace AM
open Go
structure aK (s s':St):Prop where
 env:∀ t,s.env.get t=s'.env.get t∨s.env.get t= .dead
 hp:s.hp=s'.hp
 md:s.md=s'.md
 dfs:s.dfs=s'.dfs
theorem aK.refl (s:St):aK s s:=⟨fun _=> .inl rfl,rfl,rfl,rfl⟩
def O3:iW→(Nat→AV)→Prop
 | [],_=>True
 |(t,v)::r,f=>(f t=v)∧O3 r f
theorem yf {f:Nat→AV}:∀ {e:iW},O3 e f→∀ t,e.get t=f t∨e.get t= .dead
 | [],_,t=> .inr rfl
 | (u,v)::r,h,t=>by
  simp only [O3] at h
  simp only [iW.get,aG]
  cases a:Nat.beq u t with
  |true=>
   have:=aO a
   subst this
   exact .inl h.1.symm
  |false=>exact yf h.2 t
theorem aK.of {e a:iW} {hp:Hp} {md:AV} {dfs:List (Nat × List AV)} (h:O3 e a.get):aK {env:=e,hp,md,dfs} {env:=a,hp,md,dfs}:=⟨yf h,rfl,rfl,rfl⟩
section
variable {P:Program} {ap:AP} {H:dm}
theorem FR.less {s s':St} (h:aK s s') {nt:Nat} {m:bf} {S:aX} {w:World} {a:Act} (b:FR ap s'.env s'.hp s'.dfs nt m S w a):FR ap s.env s.hp s.dfs nt m S w a:=by
 refine ⟨h.hp ▸ b.srel,fun t=> ?_, ?_,b.size⟩
 ·rcases h.env t with e|e
  ·rw [e,h.hp];exact b.env t
  ·rw [e];simp [VR]
 ·rw [h.hp,h.dfs];exact b.dfs
theorem ah.weak {h0:List bi} {nt:Nat} {b:Code} {s s' r r':St} {e:bM} (h:ah P ap h0 nt b s e r) (hs:aK s s') (c:aK r' r):ah P ap h0 nt b s' e r':=by
 intro d
 obtain ⟨t,p⟩:=h (hs.md ▸ d)
 refine ⟨c.md ▸ t,fun m0 S0 w0 m S w a f q Q j=>p m0 S0 w0 m S w a (by rw [hs.hp];exact f) (q.less hs) Q ?_⟩
 intro l S' w' n o k
 have:=j l S' w' n (by rw [c.hp];exact o) (k.less c)
 cases e with
 |normal=>exact this
 |exit id=>exact this
 |ret=>exact this
 |panic v=>intro cv i;exact this cv (by rw [c.hp];exact i)
inductive aF (P:Program) (ap:AP) (h0:List bi) (nt:Nat) (b:Code) {α β:Type} (e:β→bM) (st:α→St) (out:β→St):α→β→Prop where
 |done {a:α} {r:β}:ah P ap h0 nt b (st a) (e r) (out r)→aF P ap h0 nt b e st out a r
 |next {a a':α} {r:β}:ah P ap h0 nt b (st a) .normal (st a')→aF P ap h0 nt b e st out a' r→aF P ap h0 nt b e st out a r
theorem aF.rounds {h0:List bi} {nt:Nat} {b:Code} {α β:Type} {e:β→bM} {j:α→St} {out:β→St} {a:α} {r:β} (d:e r ≠ .normal) (h:aF P ap h0 nt b e j out a r):(j a).md= .dead→(out r).md= .dead∧∃ n,∀ m0 S0 w0 m S w c,Fr (bI h0) m0 S0 w0 (aG (j a).hp) m S w→FR ap (j a).env (j a).hp (j a).dfs nt m S w c→∀ Q,XA ap h0 m0 S0 w0 nt (out r) (e r) Q→Code.rounds P b Q n c w:=by
 induction h with
 |@done a r hx=>
  intro i
  obtain ⟨s,p⟩:=hx i
  refine ⟨s,1,fun m0 S0 w0 m S w c f q Q k=>p m0 S0 w0 m S w c f q _ ?_⟩
  intro u S' w' l o t
  have:=k u S' w' l o t
  revert d this
  cases e r with
  |normal=>intro d _;exact absurd rfl d
  |exit id=>intro _ h;exact h
  |ret=>intro _ h;exact h
  |panic v=>intro _ h;exact h
 |next hx _ ih=>
  intro i
  obtain ⟨s,p⟩:=hx i
  obtain ⟨o,n,t⟩:=ih d s
  refine ⟨o,n+1,fun m0 S0 w0 m S w c f q Q k=>p m0 S0 w0 m S w c f q _ ?_⟩
  intro u S' w' l y x
  exact t m0 S0 w0 u S' w' l y x Q k
theorem aF.ok {h0:List bi} {nt:Nat} {b:Code} {α β:Type} {e:β→bM} {j:α→St} {out:β→St} {a:α} {r:β} (f:e r ≠ .normal) (h:aF P ap h0 nt b e j out a r):ah P ap h0 nt (.loop b) (j a) (e r) (out r):=by
 intro d
 obtain ⟨p,n,l⟩:=h.rounds f d
 exact ⟨p,fun m0 S0 w0 m S w c i o Q k=>wp_loop_rounds n (l m0 S0 w0 m S w c i o Q k)⟩
theorem aF.blk {h0:List bi} {n id:Nat} {b:Code} {α β:Type} {e:β→bM} {f:α→St} {out:β→St} {a:α} {r:β} {s s':St} {i:bM} (h:∀ nt,n≤nt→aF P ap h0 nt b e f out a r) (c:e r ≠ .normal) (k:oL id (e r)=i) (hs:aK (f a) s) (l:aK s' (out r)):aI P ap h0 n (.block id (.loop b)) s i s':=by
 intro nt j
 have d:=((h nt j).ok c).block (id:=id)
 rw [k] at d
 exact d.weak hs l
def oK (id:Nat):Code→Option Code
 | .seq a b=>match oK id a with|some c=>some c|none=>oK id b
 | .cond _ a b=>match oK id a with|some c=>some c|none=>oK id b
 | .block i b=>match Nat.beq i id with|true=>some b|false=>oK id b
 | .loop b=>oK id b
 | .scope b=>oK id b
 |_=>none
def ae (id:Nat) (c:Code):Code:=match oK id c with|some (.loop b)=>b|_=> .skip
def uB (id:Nat):Code→Code
 | .seq a b=>match uB id a with| .region i o d=> .region i o d|_=>uB id b
 | .cond _ a b=>match uB id a with| .region i o d=> .region i o d|_=>uB id b
 | .block _ b=>uB id b
 | .loop b=>uB id b
 | .scope b=>uB id b
 | .region i o d=>match Nat.beq i id with|true=> .region i o d|false=> .skip
 |_=> .skip
end
end AM
namespace AM
open Go
def tq (x y:List AV):Prop:=∀ g m S v,bF g m S x v→bF g m S y v
def u_:AV→Bool
 | .own _ _ _=>false
 | .tup _=>false
 |_=>true
theorem aT.refl (x:AV):aT x x:=fun _ _ _ _ h=>h
theorem tq.refl (x:List AV):tq x x:=fun _ _ _ _ h=>h
theorem tq.nil:tq [] []:=tq.refl []
theorem tq.cons {x y:AV} {l r:List AV} (h:aT x y) (b:tq l r):tq (x::l) (y::r):=by
 intro g m S v a
 cases v with
 |nil=>simp [bF] at a
 |cons u vs=>simp only [bF] at a ⊢;exact ⟨h g m S u a.1,b g m S vs a.2⟩
theorem aT.nilS (b:Bool) (h:b=false):aT .nilS (.sl [] 0 b):=by
 subst h
 intro g m S v a
 simp only [VR,PR] at a ⊢
 exact ⟨none,0,a,Nat.le_refl _,.inl (by simp)⟩
theorem aT.sl (d:List AV) (n:Nat) (a:Bool):aT (.sl d n a) (.sl d n false):=by
 intro g m S v f
 simp only [VR,PR] at f ⊢
 obtain ⟨a,b,e,c,q⟩:=f
 refine ⟨a,b,e,c, ?_⟩
 rcases q with ⟨h,_,i⟩|q
 ·exact .inl (by simp [h,i])
 ·exact .inr q
theorem aT.dead (x:AV):aT x .dead:=fun _ _ _ _ _=>by simp only [VR]
section
variable {P:Program} {ap:AP}
theorem au.args {f:Nat} {args args':List AV} {h b:List bi} {out:kQ} (c:tq args' args) (a:au P ap f args h out b):au P ap f args' h out b:=
 ⟨a.len,a.ent,fun m S w cargs e d=>a.calls m S w cargs e (c _ _ _ _ d)⟩
def kz (out out':kQ):Prop:=(∀ n,kW n out=kW n out')∧∀ h' m' S' e,aaK h' m' S' out e→aaK h' m' S' out' e
theorem au.out {f:Nat} {args:List AV} {h d:List bi} {out a:kQ} (c:kz out a) (b:au P ap f args h out d):au P ap f args h a d:=
 ⟨b.len,b.ent,fun m S w cargs j i=>(b.calls m S w cargs j i).mono fun e w' ⟨m',S',hF⟩=> ⟨m',S',c.1 _ ▸ hF.srel,c.1 _ ▸ hF.fr,c.2 _ _ _ _ hF.out⟩⟩
theorem kJ {x:AV} (h:u_ x=true):∀ a k e,x ≠ .own a k e:=by intro a k e b;subst b;cases h
theorem vg {x:AV} (h:u_ x=true):∀ l,x ≠ .tup l:=by intro l a;subst a;cases h
theorem kz.ret {x y:AV} (b:u_ x=true) (a:u_ y=true) (h:aT x y):kz (.ret x) (.ret y):=by
 refine ⟨fun n=> ?_,fun i j S' e d=> ?_⟩
 ·simp only [kW,jD n (kJ b) (vg b),jD n (kJ a) (vg a)]
 ·obtain ⟨cv,f,c⟩:=d
  refine ⟨cv,f, ?_⟩
  rw [lg (kJ b) (vg b)] at c
  rw [lg (kJ a) (vg a)]
  exact h _ _ _ _ c
inductive Fv:List AV→List AV→Prop where
 |nil:Fv [] []
 |same {x:AV} {l r:List AV}:Fv l r→Fv (x::l) (x::r)
 |fit {x y:AV} {l r:List AV}:u_ x=true→u_ y=true→aT x y→Fv l r→Fv (x::l) (y::r)
theorem Fv.blocks {l r:List AV} (h:Fv l r):∀ n,(gz n l).2=(gz n r).2:=by
 induction h with
 |nil=>intro n;rfl
 |@same x l r _ ih=>
  intro n
  rcases jO x with ⟨a,k,e,rfl⟩|hx
  ·simp only [gz];rw [ih]
  ·rw [bJ n hx,bJ n hx];exact ih n
 |fit hx hy _ _ ih=>
  intro n
  rw [bJ n (kJ hx),bJ n (kJ hy)]
  exact ih n
theorem Fv.outR {gh gf:dU} {m:bf} {S:aX} {l r:List AV} (h:Fv l r):∀ (n:Nat) (vs:List Value),jQ gh gf m S n l vs→jQ gh gf m S n r vs:=by
 induction h with
 |nil=>intro n vs a;exact a
 | @same x l r _ ih=>
  intro n vs a
  cases vs with
  |nil=>simp [jQ] at a
  |cons v vs=>
   rcases jO x with ⟨b,k,e,rfl⟩|hx
   ·simp only [jQ] at a ⊢;exact ⟨a.1,ih _ _ a.2⟩
   ·rw [cO hx] at a ⊢;exact ⟨a.1,ih _ _ a.2⟩
 | fit hx hy hf _ ih=>
  intro n vs a
  cases vs with
  |nil=>simp [jQ] at a
  |cons v vs=>
   rw [cO (kJ hx)] at a
   rw [cO (kJ hy)]
   exact ⟨hf _ _ _ _ a.1,ih _ _ a.2⟩
theorem kz.tup {l r:List AV} (h:Fv l r):kz (.ret (.tup l)) (.ret (.tup r)):=by
 refine ⟨fun n=> ?_,fun a j S' e d=> ?_⟩
 ·simp only [kW,ku];exact h.blocks n
 ·obtain ⟨cv,f,b⟩:=d
  refine ⟨cv,f, ?_⟩
  simp only [xA] at b ⊢
  obtain ⟨vs,i,q⟩:=b
  have c:(ku a.length (.tup l)).2=(ku a.length (.tup r)).2:=by simp only [ku];exact h.blocks _
  refine ⟨vs,i, ?_⟩
  rw [c] at q
  exact h.outR _ _ q
end
end AM
namespace AM
open Go
def thaw:AV→AV
 | .own xs n e=> .sl (xs.take (n*e)) n true
 |x=>x
def wG:kQ→kQ
 | .ret (.tup l)=> .ret (.tup (l.map thaw))
 | .ret x=> .ret (thaw x)
 | .pan v=> .pan v
theorem EO {x:AV} (h:∀ xs k e,x ≠ .own xs k e):thaw x=x:=by
 cases x<;>first|rfl|exact absurd rfl (h _ _ _)
theorem qK (x:AV):∀ a k e,thaw x ≠ .own a k e:=by
 intro a k e h
 cases x<;>simp [thaw] at h
theorem xg:∀ (l:List AV) (n:Nat),(gz n (l.map thaw)).2= []
 | [],_=>rfl
 |x::r,n=>by rw [List.map_cons,bJ n (qK x)];exact xg r n
section
variable {P:Program} {ap:AP}
theorem zt {gh gf g':dU} {m:bf} {S S':aX} {w:World} (p:b_ ap gf m S w) {rd:dU} (c:∀ b B,rd b=some B→gf b=some B) (d:S'=dV S m rd w) (hother:∀ x v,VR gh m S x v→VR g' m S' x v):
  ∀ (l:List AV) (n:Nat) (vs:List Value),(∀ i B,(gz n l).2[i]? =some B→rd (n+i)=some B)→jQ gh gf m S n l vs→jQ g' g' m S' n (l.map thaw) vs
 | [],n,vs,_,h=>by cases vs with|nil=>trivial|cons _ _=>simp [jQ] at h
 |x::r,n,[],_,h=>by
  exfalso
  rcases jO x with ⟨j,k,e,rfl⟩|f
  ·simp [jQ] at h
  ·cases x<;>simp [jQ] at h
 | x ::r,n,v::vs,hb,h=>by
  rcases jO x with ⟨j,k,e,rfl⟩|f
  ·simp only [jQ] at h
   simp only [gz] at hb
   have h0:=hb 0 _ rfl
   rw [Nat.add_zero] at h0
   have C:frz rd 6 (.ref n 0 0 k)=some (.sl (j.take (k*e)) k true):=by
    simp [frz,h0,I7]
   have A:=lq p c 6 _ _ _ C h.1
   rw [List.map_cons,cO (qK _)]
   refine ⟨iQ _ (d ▸ A), ?_⟩
   have D:=zt p c d hother r (n+1) vs (fun i B t=>by rw [show n+1+i=n+(i+1) by omega];exact hb (i+1) B (by simpa using t)) h.2
   have key:∀ (l:List AV) (a b:Nat) (vs:List Value),(∀ x ∈ l,∀ j k e,x ≠ .own j k e)→jQ g' g' m S' a l vs→jQ g' g' m S' b l vs:=by
    intro l
    induction l with
    |nil=>intro a b vs _ h;cases vs with|nil=>trivial|cons _ _=>simp [jQ] at h
    | cons y q ih=>
     intro a b vs s h
     cases vs with
     |nil=>cases y<;>simp [jQ] at h
     |cons u us=>
      have o:=s y (by simp)
      rw [cO o] at h ⊢
      exact ⟨h.1,ih a b us (fun x f=>s x (by simp [f])) h.2⟩
   refine key _ (n+1) n vs ?_ D
   intro y o
   obtain ⟨z,_,rfl⟩:=List.mem_map.1 o
   exact qK z
  ·rw [cO f] at h
   rw [bJ n f] at hb
   rw [List.map_cons,cO (qK x),EO f]
   exact ⟨hother _ _ h.1,zt p c d hother r n vs hb h.2⟩
theorem au.thaw {f:Nat} {args:List AV} {h a:List bi} {out:kQ} (hp:∀ B ∈ a,B.pr=true) (M:au P ap f args h out a):au P ap f args h (wG out) a:=by
 refine ⟨M.len,M.ent,fun m S w cargs Z A=>(M.calls m S w cargs Z A).mono ?_⟩
 rintro e w' ⟨m',S',hF⟩
 obtain ⟨r,d,z⟩:=hF
 have y:∀ n,kW n (wG out)= []:=by
  intro n
  cases out with
  |pan v=>rfl
  | ret x=>
   rcases zI x with ⟨l,rfl⟩|ht
   ·simp only [wG,kW,ku];exact xg l n
   ·have:wG (.ret x)= .ret (AM.thaw x):=by cases x<;>first|rfl|exact absurd rfl (ht _)
    rw [this]
    simp only [kW]
    have D:∀ l,AM.thaw x ≠ .tup l:=by intro l L;cases x<;>simp [AM.thaw] at L;exact ht _ rfl
    rw [jD n (qK x) D]
 let rd:dU:=fun b=>if a.length≤b then bI (a++kW a.length out) b else none
 have u:∀ b B,rd b=some B→bI (a++kW a.length out) b=some B:=by
  intro b B c
  simp only [rd] at c
  split at c
  ·exact c
  ·cases c
 have s:=mQ S' m' rd w'
 have p:∀ b B,bI a b=some B→bI (a++kW a.length out) b=some B:=by
  intro b B c
  have:b<a.length:=(List.getElem?_eq_some_iff.1 c).1
  rw [fO this];exact c
 have hother:∀ x v,VR (bI a) m' S' x v→VR (bI (a++kW a.length (wG out))) m' (dV S' m' rd w') x v:=by
  intro x v G
  rw [y,List.append_nil]
  exact oz s (Ge.refl _ _) x G
 refine ⟨m',dV S' m' rd w', ?_, ?_, ?_⟩
 ·rw [y,List.append_nil]
  refine ⟨fun b E B B' c Q=>r.inj b E B B' (p b B c) (p E B' Q), ?_,fun k o v A=>oZ r A, ?_, ?_⟩
  ·intro b B c
   obtain ⟨⟨cur,e,vs,rest,j,t,F,T,J,Y⟩,U,R⟩:=r.blk b B (p b B c)
   have I:=hp B (List.mem_of_getElem? c)
   refine ⟨⟨cur,e,vs,rest,j,t,fun _=>bP s _ (F I),bW _ (bP s _ (F I)),J,Y⟩,U,R⟩
  ·intro b B c o v A
   rcases gB A with j|⟨j,E,B',t,F,T⟩
   ·exact r.own b B (p b B c) o v j
   ·have:=r.inj b E B B' (p b B c) (u _ _ t) F.symm
    subst this
    have C:b<a.length:=(List.getElem?_eq_some_iff.1 c).1
    simp only [rd] at t
    rw [if_neg (by omega)] at t
    cases t
  ·intro k O X
   obtain ⟨vs,j,t⟩:=r.glob k O X
   exact ⟨vs,bP s _ j,t.mono s⟩
 ·rw [y,List.append_nil]
  refine ⟨?_,mD.trans d.sle s,d.os,d.tape,d.output,d.size,d.rest,fun b B c=>d.img b B (p b B c), ?_⟩
  ·intro b B c
   obtain ⟨B',j,t⟩:=d.ge b B c
   have C:b<a.length:=Nat.lt_of_lt_of_le (List.getElem?_eq_some_iff.1 c).1 M.len
   rw [fO C] at j
   exact ⟨B',j,t⟩
  ·intro k o v A
   rcases gB A with j|⟨j,E,B',t,F,T⟩
   ·exact d.sealN k o v j
   ·rcases d.img E B' (u _ _ t) with J|⟨B0,J,_⟩
    ·exact .inr (.inl (F ▸ J))
    ·exfalso
     have C:E<h.length:=(List.getElem?_eq_some_iff.1 J).1
     simp only [rd] at t
     rw [if_neg (by have:=M.len;omega)] at t
     cases t
 ·have K:∀ l,out= .ret (.tup l)→∀ i B,(gz a.length l).2[i]? =some B→rd (a.length+i)=some B:=by
   intro l L i B V
   subst L
   simp only [rd]
   rw [if_pos (by omega),jv (by omega),show a.length+i - a.length=i by omega]
   exact V
  cases out with
  |pan v=>
   obtain ⟨cv,N,j⟩:=z
   refine ⟨cv,N, ?_⟩
   have:=hother v cv j
   rwa [y,List.append_nil] at this
  | ret x=>
   obtain ⟨cv,N,j⟩:=z
   rcases zI x with ⟨l,rfl⟩|ht
   ·simp only [xA] at j
    obtain ⟨vs,e2,q⟩:=j
    refine ⟨cv,N, ?_⟩
    simp only [xA]
    refine ⟨vs,e2, ?_⟩
    have c:(ku a.length (.tup (l.map AM.thaw))).2= []:=by simp only [ku];exact xg l _
    rw [c,List.append_nil]
    have:=zt (gh:=bI a) (g':=bI a) r u rfl (fun x v G=>oz s (Ge.refl _ _) x G) l a.length vs (K l rfl) q
    exact this
   ·have e3:wG (.ret x)= .ret (AM.thaw x):=by cases x<;>first|rfl|exact absurd rfl (ht _)
    have D:∀ l,AM.thaw x ≠ .tup l:=by intro l L;cases x<;>simp [AM.thaw] at L;exact ht _ rfl
    rw [e3]
    refine ⟨cv,N, ?_⟩
    rw [lg (qK x) D]
    rcases jO x with ⟨O,k,e,rfl⟩|G
    ·simp only [xA] at j
     have h0:rd a.length=some (I7 O e):=by
      simp only [rd]
      rw [if_pos (Nat.le_refl _),jv (Nat.le_refl _),Nat.sub_self]
      rfl
     have W:frz rd 6 (.ref a.length 0 0 k)=some (.sl (O.take (k*e)) k true):=by
      simp [frz,h0,I7]
     have:=lq r u 6 _ _ _ W j
     exact iQ _ this
    ·rw [lg G ht] at j
     rw [EO G]
     exact oz s (Ge.refl _ _) x j
end
end AM
namespace AM
open Go
structure pY (s s':St):Prop where
 env:∀ t,aT (s'.env.get t) (s.env.get t)
 hp:s.hp=s'.hp
 md:s.md=s'.md
 dfs:s.dfs=s'.dfs
theorem pY.refl (s:St):pY s s:=⟨fun _=>aT.refl _,rfl,rfl,rfl⟩
def Iz:iW→(Nat→AV)→Prop
 | [],_=>True
 |(t,v)::r,f=>aT (f t) v∧Iz r f
theorem wu {f:Nat→AV}:∀ {e:iW},Iz e f→∀ t,aT (f t) (e.get t)
 | [],_,t=>aT.dead _
 | (u,v)::r,h,t=>by
  simp only [Iz] at h
  simp only [iW.get,aG]
  cases a:Nat.beq u t with
  |true=>
   have:=aO a
   subst this
   exact h.1
  |false=>exact wu h.2 t
theorem pY.of {e a:iW} {hp:Hp} {md:AV} {dfs:List (Nat × List AV)} (h:Iz e a.get):pY {env:=e,hp,md,dfs} {env:=a,hp,md,dfs}:=⟨wu h,rfl,rfl,rfl⟩
section
variable {P:Program} {ap:AP}
theorem FR.lessF {s s':St} (h:pY s s') {nt:Nat} {m:bf} {S:aX} {w:World} {a:Act} (b:FR ap s'.env s'.hp s'.dfs nt m S w a):FR ap s.env s.hp s.dfs nt m S w a:=by
 refine ⟨h.hp ▸ b.srel,fun t=> ?_, ?_,b.size⟩
 ·have:=h.env t _ _ _ _ (b.env t)
  rw [h.hp];exact this
 ·rw [h.hp,h.dfs];exact b.dfs
theorem ah.weakF {h0:List bi} {nt:Nat} {b:Code} {s s' r r':St} {e:bM} (h:ah P ap h0 nt b s e r) (hs:pY s s') (c:pY r' r):ah P ap h0 nt b s' e r':=by
 intro d
 obtain ⟨t,p⟩:=h (hs.md ▸ d)
 refine ⟨c.md ▸ t,fun m0 S0 w0 m S w a f q Q j=>p m0 S0 w0 m S w a (by rw [hs.hp];exact f) (q.lessF hs) Q ?_⟩
 intro l S' w' n o k
 have:=j l S' w' n (by rw [c.hp];exact o) (k.lessF c)
 cases e with
 |normal=>exact this
 |exit id=>exact this
 |ret=>exact this
 |panic v=>intro cv i;exact this cv (by rw [c.hp];exact i)
theorem aF.blkF {h0:List bi} {n id:Nat} {b:Code} {α β:Type} {e:β→bM} {f:α→St} {out:β→St} {a:α} {r:β} {s s':St} {i:bM} (h:∀ nt,n≤nt→aF P ap h0 nt b e f out a r) (c:e r ≠ .normal) (k:oL id (e r)=i) (hs:pY (f a) s) (l:pY s' (out r)):aI P ap h0 n (.block id (.loop b)) s i s':=by
 intro nt j
 have d:=((h nt j).ok c).block (id:=id)
 rw [k] at d
 exact d.weakF hs l
end
end AM
namespace AM
open Go
def xU (b:Nat) (c v:Nat):Option (Nat × Nat):=match Nat.beq c b with|true=>none|false=>some (c,v)
inductive Fz (b:Nat) (B:bi):AV→AV→Prop
 |ren {x:AV}:Fz b B x (ren (xU b) x)
 |ref {i n:Nat}:Fz b B (.ref b B.ver i n) (.sl ((B.cells.drop (i*B.esz)).take (n*B.esz)) n true)
 |fit {x y z:AV}:Fz b B x y→aT y z→Fz b B x z
inductive ZY (b:Nat) (B:bi):List AV→List AV→Prop
 |nil:ZY b B [] []
 |cons {x y:AV} {l r:List AV}:Fz b B x y→ZY b B l r→ZY b B (x::l) (y::r)
theorem Fz.same {b:Nat} {B:bi} {x:AV} (h:AM.ren (xU b) x=x):Fz b B x x:=by
 have:=Fz.ren (b:=b) (B:=B) (x:=x)
 rwa [h] at this
theorem Fz.dead {b:Nat} {B:bi} (x:AV):Fz b B x .dead:= .fit .ren (aT.dead _)
theorem ZY.length {b:Nat} {B:bi} {l r:List AV} (h:ZY b B l r):l.length=r.length:=by
 induction h with
 |nil=>rfl
 |cons _ _ ih=>simp [ih]
structure E5 (b:Nat) (B:bi) (C C':bi):Prop where
 ver:C'.ver=C.ver
 fro:C'.fro=C.fro
 fz:C'.fz=C.fz
 esz:C'.esz=C.esz
 body:(C.pr=true∧C'.cells=C.cells∧C'.pr=true)∨(ZY b B C.cells C'.cells∧(C'.pr=true→(dw C'.cells).isEmpty=true))
theorem E5.same {b:Nat} {B C:bi} (hp:C.pr=true):E5 b B C C:=⟨rfl,rfl,rfl,rfl,.inl ⟨hp,rfl,hp⟩⟩
theorem E5.length {b:Nat} {B C C':bi} (h:E5 b B C C'):C.cells.length=C'.cells.length:=by
 rcases h.body with ⟨_,e,_⟩|⟨e,_⟩
 ·rw [e]
 ·exact e.length
section
variable {P:Program} {ap:AP} {g:dU} {m:bf} {S:aX} {w:World}
def lZ (b:Nat) (B:bi):dU:=fun c=>match Nat.beq c b with|true=>some B|false=>none
theorem rF {b c:Nat} {B C:bi} (h:lZ b B c=some C):c=b∧C=B:=by
 unfold lZ at h
 split at h
 ·rename_i a;cases h;exact ⟨aO a,rfl⟩
 ·cases h
theorem Oa (b:Nat) (B:bi):lZ b B b=some B:=by unfold lZ;rw [Nat.beq_refl]
theorem Fz.sound {b:Nat} {B:bi} (l:b_ ap g m S w) (j:g b=some B) (e:B.pr=true) {g':dU} (k:sH g m g' m (xU b)) {x y:AV} (h:Fz b B x y):∀ {v:Value},VR g m S x v→VR g' m (dV S m (lZ b B) w) y v:=by
 have f:∀ c C,lZ b B c=some C→g c=some C:=by
  intro c C o
  obtain ⟨rfl,rfl⟩:=rF o
  exact j
 induction h with
 |ren=>intro v a;exact yP (mQ S m (lZ b B) w) k _ a
 | @ref i n=>
  intro v a
  have d:frz (lZ b B) 6 (.ref b B.ver i n)=some (.sl ((B.cells.drop (i*B.esz)).take (n*B.esz)) n true):=by
   simp [frz,Oa,e]
  exact iQ _ (lq l f 6 _ _ _ d a)
 |fit _ d ih=>intro v a;exact d _ _ _ _ (ih a)
theorem ZY.sound {b:Nat} {B:bi} (f:b_ ap g m S w) (e:g b=some B) (c:B.pr=true) {g':dU} (d:sH g m g' m (xU b)) {l r:List AV} (h:ZY b B l r):∀ {vs:List Value},bF g m S l vs→bF g' m (dV S m (lZ b B) w) r vs:=by
 induction h with
 |nil=>intro vs a;cases vs with|nil=>simp [bF]|cons _ _=>simp [bF] at a
 | cons hx _ ih=>
  intro vs a
  cases vs with
  |nil=>simp [bF] at a
  |cons v vs=>
   simp only [bF] at a ⊢
   exact ⟨hx.sound f e c d a.1,ih a.2⟩
theorem vU:∀ {l:List AV} {vs:List Value},(dw l).isEmpty=true→bF g m S l vs→dL S l vs
 | [],[],_,_=>by simp [dL]
 |x::l,v::vs,h,hv=>by
  simp only [dw,List.isEmpty_iff,List.append_eq_nil_iff] at h
  rw [← List.isEmpty_iff,← List.isEmpty_iff] at h
  simp only [bF] at hv
  simp only [dL]
  exact ⟨mi h.1 hv.1,vU h.2 hv.2⟩
 | [],_::_,_,hv=>by simp [bF] at hv
 |_::_,[],_,hv=>by simp [bF] at hv
theorem FP {g g':dU} {m c:bf} {S S':aX} {ρ:Nat→Nat→Option (Nat × Nat)} (e:mD S S') (b:sH g m g' c ρ):∀ {l:List (Nat × List AV)} {ds:List Deferred},iH g m S l ds→iH g' c S' (l.map fun d=>(d.1,lV ρ d.2)) ds
 | [],[],_=>by simp only [List.map_nil,iH]
 |d::r,cd::cr,h=>by
  simp only [iH] at h
  simp only [List.map_cons,iH]
  obtain ⟨⟨a,i,f⟩,j⟩:=h
  exact ⟨⟨a,i,kT e b _ f⟩,FP e b j⟩
 | [],_::_,h=>by simp [iH] at h
 |_::_,[],h=>by simp [iH] at h
theorem Kq {h0:List bi} {nt:Nat} {r r':St} {m0 h:bf} {S0 S':aX} {w0 w':World} {I:Act} (b:Nat) (B:bi) (hb0:h0.length≤b) (A:aG r.hp b=some B) (z:B.pr=true)
  (hd:r'.dfs=r.dfs.map fun d=>(d.1,lV (xU b) d.2))
  (henv:∀ t,Fz b B (r.env.get t) (r'.env.get t))
  (hdom:∀ c C',aG r'.hp c=some C'→c ≠ b∧∃ C,aG r.hp c=some C∧E5 b B C C')
  (hall:∀ c C,c ≠ b→aG r.hp c=some C→∃ C',aG r'.hp c=some C')
  (h5:Fr (bI h0) m0 S0 w0 (aG r.hp) h S' w') (h6:FR ap r.env r.hp r.dfs nt h S' w' I):
  ∃ S2,Fr (bI h0) m0 S0 w0 (aG r'.hp) h S2 w'∧FR ap r'.env r'.hp r'.dfs nt h S2 w' I:=by
 have f:=h6.srel
 have p:=mQ S' h (lZ b B) w'
 have Z:∀ c C,lZ b B c=some C→aG r.hp c=some C:=by
  intro c C i
  obtain ⟨rfl,rfl⟩:=rF i
  exact A
 have n:sH (aG r.hp) h (aG r'.hp) h (xU b):=by
  intro c ver U X hρ C s q
  unfold xU at hρ
  split at hρ
  ·cases hρ
  ·rename_i O
   cases hρ
   have u:c ≠ b:=by intro e;subst e;simp at O
   obtain ⟨C',j⟩:=hall c C u s
   obtain ⟨_,C2,l,a⟩:=hdom c C' j
   rw [s] at l;cases l
   exact ⟨C',j,by rw [a.ver];exact q,fun e=> ⟨by rw [← a.ver];exact e,rfl,a.esz⟩⟩
 have T:b_ ap (aG r'.hp) h (dV S' h (lZ b B) w') w':=by
  refine ⟨?_, ?_,fun k o v q=>oZ f q, ?_, ?_⟩
  ·intro c U C C' i N hm
   obtain ⟨_,D,hD,_⟩:=hdom c C i
   obtain ⟨_,D',R,_⟩:=hdom U C' N
   exact f.inj c U D D' hD R hm
  ·intro c C' i
   obtain ⟨_,C,s,a⟩:=hdom c C' i
   obtain ⟨⟨cur,ee,vs,rest,k1,k2,k3,k4,k5,k6⟩,Y,M⟩:=f.blk c C s
   have F:(C'.pr=true→dL (dV S' h (lZ b B) w') C'.cells vs)∧bF (aG r'.hp) h (dV S' h (lZ b B) w') C'.cells vs:=by
    rcases a.body with ⟨L,K,q3⟩|⟨L,K⟩
    ·have:=bP p _ (k3 L)
     rw [K]
     exact ⟨fun _=>this,bW _ this⟩
    ·have q:=L.sound f A z n k4
     exact ⟨fun hp=>vU (K hp) q,q⟩
   exact ⟨⟨cur,ee,vs,rest,by rw [a.esz];exact k1,k2,F.1,F.2,by rw [a.esz];exact k5,fun hp=>by rw [a.esz] at hp ⊢;exact k6 hp⟩,fun hp=>by rw [a.fz];exact Y (by rw [← a.fro];exact hp),by rw [a.fz,← a.length];exact M⟩
  ·intro c C' i o v q
   obtain ⟨u,C,s,a⟩:=hdom c C' i
   rw [a.fro,a.fz]
   rcases gB q with x|⟨x,G,B',V,Q,h4⟩
   ·exact f.own c C s o v x
   ·obtain ⟨rfl,rfl⟩:=rF V
    exact absurd (f.inj c G C B' s A Q.symm) u
  ·intro k xs hk
   obtain ⟨vs,k1,k2⟩:=f.glob k xs hk
   exact ⟨vs,bP p _ k1,k2.mono p⟩
 have y:Fr (bI h0) m0 S0 w0 (aG r'.hp) h (dV S' h (lZ b B) w') w':=by
  refine ⟨?_,mD.trans h5.sle p,h5.os,h5.tape,h5.output,h5.size,h5.rest, ?_, ?_⟩
  ·intro c C i
   have hlt:c<h0.length:=(List.getElem?_eq_some_iff.1 i).1
   obtain ⟨C1,E,e1,e2⟩:=h5.ge c C i
   obtain ⟨C',j⟩:=hall c C1 (by omega) E
   obtain ⟨_,C2,l,a⟩:=hdom c C' j
   rw [E] at l;cases l
   exact ⟨C',j,by rw [a.esz];exact e1,by rw [a.ver];exact e2⟩
  ·intro c C' i
   obtain ⟨_,C,s,_⟩:=hdom c C' i
   exact h5.img c C s
  ·intro k o v q
   rcases gB q with x|⟨x,G,B',V,Q,h4⟩
   ·exact h5.sealN k o v x
   ·obtain ⟨rfl,rfl⟩:=rF V
    rcases h5.img G B' A with W|⟨B0,W,_⟩
    ·exact .inr (.inl (Q ▸ W))
    ·have:G<h0.length:=(List.getElem?_eq_some_iff.1 W).1
     omega
 have J:FR ap r'.env r'.hp r'.dfs nt h (dV S' h (lZ b B) w') w' I:=by
  refine ⟨T,fun t=>(henv t).sound f A z n (h6.env t), ?_,h6.size⟩
  rw [hd]
  exact FP p n h6.dfs
 exact ⟨_,y,J⟩
theorem ah.freeze {h0:List bi} {nt:Nat} {f:Code} {s r r':St} {e:bM} (b:Nat) (B:bi) (h:ah P ap h0 nt f s e r) (x:∀ v,e ≠ .panic v) (n:h0.length≤b) (y:aG r.hp b=some B) (j:B.pr=true)
  (hmd:r'.md=r.md) (hd:r'.dfs=r.dfs.map fun d=>(d.1,lV (xU b) d.2))
  (henv:∀ t,Fz b B (r.env.get t) (r'.env.get t))
  (hdom:∀ c C',aG r'.hp c=some C'→c ≠ b∧∃ C,aG r.hp c=some C∧E5 b B C C')
  (hall:∀ c C,c ≠ b→aG r.hp c=some C→∃ C',aG r'.hp c=some C'):ah P ap h0 nt f s e r':=by
 intro hs
 obtain ⟨A,u⟩:=h hs
 refine ⟨hmd ▸ A,fun m0 S0 w0 m S w a l z Q o=>u m0 S0 w0 m S w a l z Q ?_⟩
 intro E S' w' p q D
 obtain ⟨S2,i,k⟩:=Kq b B n y j hd henv hdom hall q D
 have:=o E S2 w' p i k
 cases e with
 |normal=>exact this
 |exit id=>exact this
 |ret=>exact this
 |panic v=>exact absurd rfl (x v)
def QE (b:Nat) (B:bi):iW→(Nat→AV)→Prop
 | [],_=>True
 |(t,v)::r,f=>Fz b B (f t) v∧QE b B r f
theorem oP {b:Nat} {B:bi} {f:Nat→AV}:∀ {e:iW},QE b B e f→∀ t,Fz b B (f t) (e.get t)
 | [],_,t=>Fz.dead _
 | (u,v)::r,h,t=>by
  simp only [QE] at h
  simp only [iW.get,aG]
  cases a:Nat.beq u t with
  |true=>
   have:=aO a
   subst this
   exact h.1
  |false=>exact oP h.2 t
def Ny (b:Nat) (B:bi):Hp→Hp→Prop
 | [],l=>l= [(b,B)]
 |(c,C)::r,(d,D)::l=>c=d∧E5 b B D C∧c ≠ b∧Ny b B r l
 |_::_,[]=>False
theorem Bg {b:Nat} {B:bi}:∀ {r l:Hp},Ny b B r l→∀ c C',aG r c=some C'→c ≠ b∧∃ C,aG l c=some C∧E5 b B C C'
 | [],l,_,c,C',hc=>by simp [aG] at hc
 | (d,D)::r,(d',D')::l,h,c,C',hc=>by
  simp only [Ny] at h
  obtain ⟨rfl,i,e,f⟩:=h
  simp only [aG] at hc ⊢
  cases a:Nat.beq d c with
  |true=>
   rw [a] at hc
   have:=aO a
   subst this
   cases hc
   exact ⟨e,D',rfl,i⟩
  |false=>
   rw [a] at hc
   exact Bg f c C' hc
 |_::_,[],h,_,_,_=>by simp [Ny] at h
theorem Bf {b:Nat} {B:bi}:∀ {r l:Hp},Ny b B r l→∀ c C,c ≠ b→aG l c=some C→∃ C',aG r c=some C'
 | [],l,h,c,C,hcb,hc=>by
  simp only [Ny] at h
  subst h
  simp only [aG] at hc
  split at hc
  ·rename_i a;exact absurd (aO a).symm hcb
  ·cases hc
 |(d,D)::r,(d',D')::l,h,c,C,hcb,hc=>by
  simp only [Ny] at h
  obtain ⟨rfl,i,f,e⟩:=h
  simp only [aG] at hc ⊢
  cases a:Nat.beq d c with
  |true=>exact ⟨D,rfl⟩
  |false=>rw [a] at hc;exact Bf e c C hcb hc
 |_::_,[],h,_,_,_,_=>by simp [Ny] at h
theorem yj {b:Nat} {B:bi}:∀ {r l:Hp},Ny b B r l→aG l b=some B
 | [],l,h=>by
  simp only [Ny] at h
  subst h
  simp [aG]
 |(d,D)::r,(d',D')::l,h=>by
  simp only [Ny] at h
  obtain ⟨rfl,f,a,e⟩:=h
  simp only [aG]
  cases c:Nat.beq d b with
  |true=>exact absurd (aO c) a
  |false=>exact yj e
 |_::_,[],h=>by simp [Ny] at h
theorem ah.forget {h0:List bi} {nt:Nat} {a:Code} {s:St} {e:bM} (b:Nat) (B:bi) {f en':iW} {hp hp':Hp} {md:AV} (h:ah P ap h0 nt a s e {env:=f,hp,md,dfs:= []}) (i:∀ v,e ≠ .panic v) (c:h0.length≤b) (d:B.pr=true)
  (henv:QE b B en' (iW.get f)) (hhp:Ny b B hp' hp):ah P ap h0 nt a s e {env:=en',hp:=hp',md,dfs:= []}:=
 h.freeze b B i c (yj hhp) d rfl rfl (oP henv) (Bg hhp) (Bf hhp)
theorem ah.forgetD {h0:List bi} {nt:Nat} {a:Code} {s:St} {e:bM} (b:Nat) (B:bi) {i en':iW} {hp hp':Hp} {md:AV} {dfs:List (Nat × List AV)} (h:ah P ap h0 nt a s e {env:=i,hp,md,dfs}) (j:∀ v,e ≠ .panic v) (c:h0.length≤b) (f:B.pr=true)
  (henv:QE b B en' (iW.get i)) (hhp:Ny b B hp' hp) (hd:dfs.map (fun d=>(d.1,lV (xU b) d.2))=dfs):ah P ap h0 nt a s e {env:=en',hp:=hp',md,dfs}:=
 h.freeze b B j c (yj hhp) f rfl hd.symm (oP henv) (Bg hhp) (Bf hhp)
end
end AM
namespace AM
open Go
def C_ (P:Program) (f:TypeId→Option (List LK)):List Field→Nat→Option (List LK)
 | [],_=>some []
 | x::r,off=>match f x.type with
  |some l=>match Nat.beq x.offset off && Nat.beq (P.cellsOf x.type) l.length with
   |true=>match C_ P f r (off+l.length) with|some q=>some (l++q)|none=>none
   |false=>none
  |none=>none
def Gv (P:Program):Nat→TypeId→Option (List LK)
 |0,_=>none
 | n+1,t=>match P.underlying t with
  |some (.int k)=>some [.int k]
  |some .bool=>some [.bool]
  |some .string=>some [.str]
  |some (.struct fs)=>match C_ P (Gv P n) fs.toList 0 with
   |some l=>match Nat.beq (P.cellsOf t) l.length with|true=>some l|false=>none
   |none=>none
  |some (.array m e)=>match Gv P n e with
   |some l=>match Nat.beq (P.cellsOf e) l.length && Nat.beq (P.cellsOf t) (m*l.length) with|true=>some (List.replicate m l).flatten|false=>none
   |none=>none
  |_=>none
inductive gy:List LK→List Value→Prop
 |nil:gy [] []
 |int {k:IntKind} {n:Int} {r:List LK} {l:List Value}:gy r l→gy (.int k::r) (.int k n::l)
 |bool {b:Bool} {r:List LK} {l:List Value}:gy r l→gy (.bool::r) (.bool b::l)
 |str {s:ByteArray} {r:List LK} {l:List Value}:gy r l→gy (.str::r) (.string s::l)
theorem gy.app {a b:List LK} {x y:List Value} (h:gy a x) (c:gy b y):gy (a++b) (x++y):=by
 induction h with
 |nil=>exact c
 |int _ ih=>exact .int ih
 |bool _ ih=>exact .bool ih
 |str _ ih=>exact .str ih
theorem gy.length {a:List LK} {x:List Value} (h:gy a x):a.length=x.length:=by
 induction h with
 |nil=>rfl
 |int _ ih=>simp [ih]
 |bool _ ih=>simp [ih]
 |str _ ih=>simp [ih]
def pg:Value→AV
 | .int k n=> .int k n
 | .bool b=> .bool b
 | .string s=> .str s.data.toList
 |_=> .dead
theorem gy.pr {S:aX} {a:List LK} {x:List Value} (h:gy a x):dL S (x.map pg) x:=by
 induction h with
 |nil=>simp [dL]
 |int _ ih=>simp only [List.map_cons,dL];exact ⟨by simp [pg,PR],ih⟩
 |bool _ ih=>simp only [List.map_cons,dL];exact ⟨by simp [pg,PR],ih⟩
 |@str s _ _ _ ih=>simp only [List.map_cons,dL];exact ⟨by simp [pg,PR],ih⟩
theorem gy.one {a:List LK} {x:List Value} (h:gy a x):∀ u ∈ x,u.oneCell'=true:=by
 induction h with
 |nil=>intro u b;cases b
 |int _ ih=>
  intro u b
  rcases List.mem_cons.1 b with rfl|b
  ·rfl
  ·exact ih u b
 |bool _ ih=>
  intro u b
  rcases List.mem_cons.1 b with rfl|b
  ·rfl
  ·exact ih u b
 |str _ ih=>
  intro u b
  rcases List.mem_cons.1 b with rfl|b
  ·rfl
  ·exact ih u b
section
variable {H:Type} {enc:TypeId × Value→H} {P:Program} {w:World} {base:Nat} {spare:Nat→Bool} {held:Bool}
theorem zW {n:Nat} {f:TypeId→Option (List LK)} (c:∀ t ks,f t=some ks→∀ (fuel:Nat) (a:List Value) (x:DataW H × List MemPlace),DataW.trod enc P w base spare held fuel t a=some x→gy ks a) {a:List Value}:∀ (r:List Field) (off:Nat) (ks:List LK),C_ P f r off=some ks→
  (∀ (i:Nat) (x:Field),r[i]? =some x→∃ y,DataW.trod enc P w base spare held n x.type ((a.drop x.offset).take (P.cellsOf x.type))=some y)→gy ks ((a.drop off).take ks.length)
 | [],off,ks,h,_=>by
  simp only [C_] at h
  cases h
  simpa using gy.nil
 | x ::r,off,ks,h,hx=>by
  simp only [C_] at h
  split at h
  ·rename_i l k
   split at h
   ·rename_i b
    simp only [Bool.and_eq_true] at b
    have s:=Nat.eq_of_beq_eq_true b.1
    have u:=Nat.eq_of_beq_eq_true b.2
    split at h
    ·rename_i q p
     cases h
     obtain ⟨y,j⟩:=hx 0 x rfl
     have d:=c _ _ k _ _ _ j
     rw [s,u] at d
     have o:=zW c r (off+l.length) q p (fun i f e=>hx (i+1) f (by simpa using e))
     rw [List.length_append,List.take_add,List.drop_drop]
     exact d.app o
    ·cases h
   ·cases h
  ·cases h
theorem QF:∀ (n:Nat) (t:TypeId) (ks:List LK),Gv P n t=some ks→∀ (d:Nat) (y:List Value) (x:DataW H × List MemPlace),DataW.trod enc P w base spare held d t y=some x→gy ks y:=by
 intro n
 induction n with
 |zero=>intro t ks h;simp [Gv] at h
 | succ n ih=>
  intro t ks h d y x r
  simp only [Gv] at h
  split at h
  ·rename_i k c
   cases h
   obtain ⟨m,rfl,_⟩:=DataW.trod_int c r
   exact .int .nil
  ·rename_i c
   cases h
   obtain ⟨b,rfl,_⟩:=DataW.trod_bool c r
   exact .bool .nil
  ·rename_i c
   cases h
   obtain ⟨s,rfl,_⟩:=DataW.trod_string c r
   exact .str .nil
  ·rename_i C c
   split at h
   ·rename_i l B
    split at h
    ·rename_i p
     cases h
     obtain ⟨F,m,rfl,_,a,o,z⟩:=DataW.trod_struct c r
     have e:=Nat.eq_of_beq_eq_true p
     have D:=zW (n:=m) ih C.toList 0 ks B (fun i f L=>by
      have u:C[i]? =some f:=by simpa using L
      have v:=z i f u
      have A:i<F.length:=by rw [o];exact (Array.getElem?_eq_some_iff.1 u).1
      rw [List.getElem?_eq_getElem A] at v
      exact ⟨_,v⟩)
     rw [List.drop_zero,← e,← a,List.take_length] at D
     exact D
    ·cases h
   ·cases h
  ·rename_i m e c
   split at h
   ·rename_i l B
    split at h
    ·rename_i p
     cases h
     simp only [Bool.and_eq_true] at p
     have K:=Nat.eq_of_beq_eq_true p.1
     have M:=Nat.eq_of_beq_eq_true p.2
     obtain ⟨F,q,rfl,_,a,o,z⟩:=DataW.trod_array c r
     have key:∀ j,j≤m→gy (List.replicate j l).flatten ((y.drop ((m - j)*l.length)).take (j*l.length)):=by
      intro j
      induction j with
      |zero=>intro _;simpa using gy.nil
      | succ j ihj=>
       intro N
       have v:=z (m - (j+1)) (by omega)
       rw [List.getElem?_eq_getElem (by omega)] at v
       have E:=ih _ _ B _ _ _ v
       rw [K] at E
       have J:=ihj (by omega)
       rw [List.replicate_succ,List.flatten_cons,Nat.add_mul,Nat.one_mul,Nat.add_comm (j*l.length),List.take_add,List.drop_drop]
       have I:(m - (j+1))*l.length+l.length=(m - j)*l.length:=by
        rw [← Nat.succ_mul];congr 1;omega
       rw [I]
       exact E.app J
     have G:=key m (Nat.le_refl _)
     rw [Nat.sub_self,Nat.zero_mul,List.drop_zero,← M,← a,List.take_length] at G
     exact G
    ·cases h
   ·cases h
  ·cases h
end
end AM
namespace AM
open Go
def xF:Nat→Nat→List Bool
 |0,_=> []
 |n+1,k=>Nat.beq (k % 2) 1::xF n (k / 2)
def Wy:Nat→List Bool→List Bool
 |0,l=>l
 |n+1,l=>true::Wy n l
theorem lJ.n (k:Nat) {l:List Bool} (h:lJ l):lJ (Wy k l):=by
 induction k with
 |zero=>exact h
 |succ k ih=>exact .t ih
theorem lJ.k (k:Nat) {b:Bool} {l:List Bool} (a:b=true) (h:lJ l):lJ (Wy k (b::l)):= .n k (.c a h)
theorem tf (b:Bool):b=true∨b=false:=by cases b<;>simp
theorem aC {b:Bool} (h:b=true):lit true b=true:=h
theorem aB {b:Bool} (h:b=false):lit false b=true:=by subst h;rfl
theorem dK {b:Bool} (h:b=false):lit true (!b)=true:=by subst h;rfl
theorem aS {b:Bool} (h:b=true):lit false (!b)=true:=by subst h;rfl
inductive PS (P:Program) (ap:AP):List Prop→List (kQ × List bi)→xx→List vI→Prop where
 |nil:PS P ap [] [] [] []
 |c {f:Nat} {args:List AV} {h h':List bi} {out:kQ} {ps:List Prop} {ans:List (kQ × List bi)} {lps:xx} {hs:List vI}:au P ap f args h out h'→PS P ap ps ans lps hs→PS P ap (au P ap f args h out h'::ps) (ans++ [(out,h')]) lps hs
 |l {h0:List bi} {n:Nat} {code:Code} {s s':St} {e:bM} {ps:List Prop} {ans:List (kQ × List bi)} {lps:xx} {hs:List vI}:aI P ap h0 n code s e s'→PS P ap ps ans lps hs→PS P ap (aI P ap h0 n code s e s'::ps) ans (lps++ [(e,s')]) hs
 |v (d:Nat) {x y:AV} {ps:List Prop} {ans:List (kQ × List bi)} {lps:xx} {hs:List vI}:aT x y→PS P ap ps ans lps hs→PS P ap (aT x y::ps) ans lps (hs++ [.v d y])
 |b (d:Nat) {x y:List AV} {ps:List Prop} {ans:List (kQ × List bi)} {lps:xx} {hs:List vI}:x=y→PS P ap ps ans lps hs→PS P ap ((x=y)::ps) ans lps (hs++ [.b d y])
 |u (d:Nat) {x y:List (Option bi)} {ps:List Prop} {ans:List (kQ × List bi)} {lps:xx} {hs:List vI}:x=y→PS P ap ps ans lps hs→PS P ap ((x=y)::ps) ans lps (hs++ [.u d])
theorem PS.all {P:Program} {ap:AP} {ps:List Prop} {ans:List (kQ × List bi)} {a:xx} {hs:List vI} (h:PS P ap ps ans a hs):Ju ps:=by
 induction h with
 |nil=>exact .nil
 |c h _ ih=>exact .cons h ih
 |l h _ ih=>exact .cons h ih
 |v _ h _ ih=>exact .cons h ih
 |b _ h _ ih=>exact .cons h ih
 |u _ h _ ih=>exact .cons h ih
theorem ck {P:Program} {ap:AP} (g:BN P ap) {ans:List (kQ × List bi)} {ps:List Prop} {f:Nat} {args:List AV} {h a:List bi} {out:kQ} (hp:PS P ap ps ans [] [])
  (he:tK ap (xk P ap 3000 4) 3000 .dead f args h ⟨true,[],[],[],ans,[]⟩= .ok (out,a,.dead) ⟨true,[],[],ps,[],[]⟩):au P ap f args h out a:=Gg g hp.all he
theorem pk {P:Program} {ap:AP} (g:BN P ap) (c:List Nat) (n k:Nat) {ans:List (kQ × List bi)} {a:xx} {hs:List vI} {bs:List Bool} {ps:List Prop} {f:Nat} {args:List AV} {h b:List bi} {out:kQ}
  (hb:lJ bs) (hp:PS P ap ps ans a hs) (he:OW P ap (xk P ap 3000 4) 3000 c f args h a ⟨false,xF n k,[],[],ans,hs⟩= .ok (out,b,.dead) ⟨false,[],bs,ps,[],[]⟩):au P ap f args h out b:=by
 obtain ⟨e,d⟩:=lu g.apok g.mixed g.fnok 3000 4
 exact Tq g.apok g.mixed g.fnok e d he ⟨hb.mem,hp.all.mem⟩
def uj (ap:AP) (f:Nat):List Nat:=match ap.fnAt f with|some F=>F.keep|none=> []
def Pz (env:iW):R ((bM × St) × xx)→R ((bM × St) × xx)
 | .ok ((e,s),l) c=> .ok ((e,⟨env.map fun q=>(q.1,s.env.get q.1),s.hp,s.md,s.dfs⟩),l) c
 |r=>r
def N8 (P:Program) (ap:AP) (h0:List bi) (f nt0:Nat) (ls:List Nat) (code:Code) (s:St) (lps:xx) (orc:List Bool) (ans:List (kQ × List bi)) (hs:List vI) (env:iW):R ((bM × St) × xx):=
 match dY nt0 code with
 |true=>Pz env (lL P ap (xk P ap 3000 4) h0 (uj ap f) 3000 nt0 ls code s lps ⟨false,orc,[],[],ans,hs⟩)
 |false=> .bad 0
theorem Un (env a:iW):∀ t,iW.get (env.map fun q=>(q.1,a.get q.1)) t=a.get t∨iW.get (env.map fun q=>(q.1,a.get q.1)) t= .dead:=by
 intro t
 induction env with
 |nil=>exact .inr rfl
 | cons q r ih=>
  cases b:Nat.beq q.1 t with
  |true=>
   left
   have:=Nat.eq_of_beq_eq_true b
   subst this
   simp only [iW.get,List.map_cons,aG,b,Option.getD_some]
  | false=>
   have e:iW.get (List.map (fun q=>(q.1,a.get q.1)) (q::r)) t=iW.get (List.map (fun q=>(q.1,a.get q.1)) r) t:=by
    simp only [iW.get,List.map_cons,aG,b]
   rw [e];exact ih
theorem pj {P:Program} {ap:AP} (g:BN P ap) (f:Nat) (h:List Nat) (n k:Nat) {nt nt0:Nat} {ans:List (kQ × List bi)} {b:xx} {hs:List vI} {bs:List Bool} {ps:List Prop} {a:Code} {s s':St} {h0:List bi} {e:bM}
  (hb:lJ bs) (hp:PS P ap ps ans b hs) (hn:nt0≤nt) (he:N8 P ap h0 f nt0 h a s b (xF n k) ans hs s'.env= .ok ((e,s'),[]) ⟨false,[],bs,ps,[],[]⟩):ah P ap h0 nt a s e s':=by
 unfold N8 at he
 split at he
 ·rename_i o
  generalize t:lL P ap (xk P ap 3000 4) h0 (uj ap f) 3000 nt0 h a s b ⟨false,xF n k,[],[],ans,hs⟩=r at he
  cases r with
  |ok q c=>
   obtain ⟨⟨l,i⟩,u⟩:=q
   simp only [Pz,R.ok.injEq,Prod.mk.injEq] at he
   obtain ⟨⟨⟨rfl,d⟩,rfl⟩,rfl⟩:=he
   obtain ⟨j,v⟩:=lu g.apok g.mixed g.fnok 3000 4
   have p:ah P ap h0 nt a s l i:=(t_ g.apok g.mixed j hn a (fC hn a o) _ _ _ _ _ t ⟨hb.mem,hp.all.mem⟩).2
   refine p.weak (aK.refl _) ?_
   rw [← d]
   exact ⟨Un _ _,rfl,rfl,rfl⟩
  |need=>simp [Pz] at he
  |bad n=>simp [Pz] at he
 ·cases he
theorem aT.pp {c f:List AV} {a:Nat} (h:List.drop a c=f):aT (.pp c a) (.pp f 0):=by
 subst h
 intro g m S v d
 simp only [VR,PR] at d ⊢
 obtain ⟨b,o,vs,rfl,hp,hs⟩:=d
 refine ⟨b,o+a,vs.drop a,rfl,p_ a hp,fun j u e=> ?_⟩
 rw [List.getElem?_drop] at e
 have:=hs (a+j) u e
 rwa [← Nat.add_assoc] at this
theorem aT.ppt {e d f:List AV} {a:Nat} (h:List.drop a e=d++f):aT (.pp e a) (.pp d 0):=by
 intro g m S v i
 have:=aT.pp h g m S v i
 simp only [VR,PR] at this ⊢
 obtain ⟨b,o,vs,rfl,hp,hs⟩:=this
 refine ⟨b,o,vs.take d.length,rfl, ?_,fun j u c=> ?_⟩
 ·have:=kR d.length hp
  rwa [List.take_left'] at this
  rfl
 ·rw [List.getElem?_take] at c
  split at c
  ·exact hs j u c
  ·cases c
theorem aT.eq {x y:AV} (h:x=y):aT x y:=h ▸ fun _ _ _ _ a=>a
theorem aT.rd1 (k:LK) {b c:List AV} {y:AV} {a:Nat} (h:List.drop a b= [y]++c) (d:eta k y=y):aT (eta k ((List.drop a b).headD .dead)) y:= .eq (by rw [h];exact d)
theorem lJ.a {l r:List Bool} (h:lJ l) (a:lJ r):lJ (l++r):=by
 induction h with
 |nil=>exact a
 |t _ ih=>exact .t ih
 |c hb _ ih=>exact .c hb ih
theorem lJ.of {l:List Bool} (h:l.all id=true):lJ l:=by
 induction l with
 |nil=>exact .nil
 |cons b r ih=>
  simp only [List.all_cons,id,Bool.and_eq_true] at h
  exact .c h.1 (ih h.2)
theorem g_ (ks:List LK) {b d c:List AV} {a:Nat} (h:List.drop a b=d++c) (e:(Tu true ks (d++c)).all id=true):lJ (Ij true ks b a):=by
 unfold Ij;rw [h];exact .of e
inductive WJ:List AV→List AV→Prop where
 |nil:WJ [] []
 |same {x:AV} {l r:List AV}:WJ l r→WJ (x::l) (x::r)
 |nilS {l r:List AV}:WJ l r→WJ (.nilS::l) (.sl [] 0 false::r)
 |sl {xs:List AV} {n:Nat} {a:Bool} {l r:List AV}:WJ l r→WJ (.sl xs n a::l) (.sl xs n false::r)
theorem WJ.prl {S:aX} {l r:List AV} (h:WJ l r):∀ {vs:List Value},dL S l vs→dL S r vs:=by
 induction h with
 |nil=>exact fun h=>h
 |same _ ih=>intro vs b;cases vs with|nil=>simp [dL] at b|cons v vs=>simp only [dL] at b ⊢;exact ⟨b.1,ih b.2⟩
 | nilS _ ih=>
  intro vs b
  cases vs with
  |nil=>simp [dL] at b
  |cons v vs=>
   simp only [dL,PR] at b ⊢
   exact ⟨⟨none,0,b.1,Nat.le_refl _,.inl (by simp)⟩,ih b.2⟩
 | @sl xs n a _ _ _ ih=>
  intro vs b
  cases vs with
  |nil=>simp [dL] at b
  |cons v vs=>
   have c:=b
   simp only [dL] at c ⊢
   refine ⟨?_,ih c.2⟩
   have d:=aT.sl xs n a (fun _=>none) (fun _=>(0,0)) S v (by simp only [VR];exact c.1)
   simpa only [VR] using d
theorem aT.slP {i k:List AV} {n:Nat} {p:Bool} (j:WJ i k):aT (.sl i n p) (.sl k n p):=by
 intro g m S v l
 simp only [VR,PR] at l ⊢
 obtain ⟨a,c,rfl,s,h⟩:=l
 refine ⟨a,c,rfl,s, ?_⟩
 rcases h with ⟨e,d,f,r,q⟩|⟨b,o,vs,e,d,f⟩
 ·subst f
  cases j
  exact .inl ⟨e,d,rfl,r,q⟩
 ·exact .inr ⟨b,o,vs,e,j.prl d,f⟩
end AM
namespace AM
open Go
variable {P:Program} {ap:AP}
theorem ah.norm {h0:List bi} {nt:Nat} {b:Code} {s c:St} {e:bM} (keep:List Nat) (q:∀ v,e= .panic v→(fD v).isEmpty=true) (h:ah P ap h0 nt b s e c):ah P ap h0 nt b s e (AM.norm h0.length keep c):=by
 intro hs
 obtain ⟨t,j⟩:=h hs
 refine ⟨t,fun m0 S0 w0 m S w a d r Q i=>j m0 S0 w0 m S w a d r Q ?_⟩
 intro x S' w' o p n
 obtain ⟨u,l,k⟩:=nO (keep:=keep) p n
 have:=i u S' w' o l k
 clear i l k j
 generalize AM.norm h0.length keep c=s2 at*
 cases e with
 |normal=>exact this
 |exit id=>exact this
 |ret=>exact this
 |panic v=>intro cv f;exact this cv (iQ _ (mi (q v rfl) f))
def ald:bM→Bool
 | .panic v=>(fD v).isEmpty
 |_=>true
def Pv (base:Nat) (env:iW):R ((bM × St) × xx)→R ((bM × St) × xx)
 | .ok ((e,s),l) c=>match ald e with
  |true=> .ok ((e,norm base (env.map fun q=>q.1) s),l) c
  |false=> .bad 1
 |r=>r
def N7 (P:Program) (ap:AP) (h0:List bi) (f nt0:Nat) (ls:List Nat) (code:Code) (s:St) (lps:xx) (orc:List Bool) (ans:List (kQ × List bi)) (hs:List vI) (env:iW):R ((bM × St) × xx):=
 match dY nt0 code with
 |true=>Pv h0.length env (lL P ap (xk P ap 3000 4) h0 (uj ap f) 3000 nt0 ls code s lps ⟨false,orc,[],[],ans,hs⟩)
 |false=> .bad 0
theorem pn (g:BN P ap) (f:Nat) (i:List Nat) (n k:Nat) {nt nt0:Nat} {ans:List (kQ × List bi)} {b:xx} {hs:List vI} {bs:List Bool} {ps:List Prop} {a:Code} {s s':St} {h0:List bi} {e:bM}
  (hb:lJ bs) (hp:PS P ap ps ans b hs) (hn:nt0≤nt) (he:N7 P ap h0 f nt0 i a s b (xF n k) ans hs s'.env= .ok ((e,s'),[]) ⟨false,[],bs,ps,[],[]⟩):ah P ap h0 nt a s e s':=by
 unfold N7 at he
 split at he
 ·rename_i j
  generalize o:lL P ap (xk P ap 3000 4) h0 (uj ap f) 3000 nt0 i a s b ⟨false,xF n k,[],[],ans,hs⟩=r at he
  cases r with
  | ok q c=>
   obtain ⟨⟨x,t⟩,y⟩:=q
   simp only [Pv] at he
   split at he
   ·rename_i d
    simp only [R.ok.injEq,Prod.mk.injEq] at he
    obtain ⟨⟨⟨rfl,h⟩,rfl⟩,rfl⟩:=he
    obtain ⟨u,z⟩:=lu g.apok g.mixed g.fnok 3000 4
    have l:ah P ap h0 nt a s x t:=(t_ g.apok g.mixed u hn a (fC hn a j) _ _ _ _ _ o ⟨hb.mem,hp.all.mem⟩).2
    have:=l.norm (s'.env.map fun q=>q.1) (fun v p=>by subst p;exact d)
    rwa [h] at this
   ·cases he
  |need=>simp [Pv] at he
  |bad n=>simp [Pv] at he
 ·cases he
end AM
namespace AM
open Go Go.WideShapes Go.ChangeShapes
theorem FW {a:Addr} (h:a.spot=none) (n:Nat):a.add n=⟨a.block,a.off+n,none⟩:=by
 unfold Addr.add
 obtain ⟨b,o,s⟩:=a
 simp only at h
 subst h
 split
 ·rename_i c;subst c;rfl
 ·rfl
section
variable {H:Type} {enc:TypeId × Value→H} {P:Program} {w:World} {base:Nat} {spare:Nat→Bool} {held:Bool}
theorem Jy {S:aX} {ks:List LK}:∀ (L:List (List Value)),(∀ x ∈ L,gy ks x)→dL S (L.flatMap fun x=>x.map pg) L.flatten
 | [],_=>by simp [dL]
 |x::r,h=>by
  rw [List.flatMap_cons,List.flatten_cons]
  exact mZ (gy.pr (h x (by simp))) (Jy r fun y a=>h y (by simp [a]))
theorem Vm {ks:List LK}:∀ (L:List (List Value)),(∀ x ∈ L,gy ks x)→∀ u ∈ L.flatten,u.oneCell'=true:=by
 intro L h u a
 obtain ⟨x,b,a⟩:=List.mem_flatten.1 a
 exact gy.one (h x b) u a
theorem alf {t e:TypeId} {n base':Nat} {ks:List LK} (F:P.underlying t=some (.slice e)) (U:Gv P n e=some ks) (V:P.cellsOf e=ks.length) {v:Value} {d:DataW H} {p:List MemPlace}
  (hv:Value.okWide P w .any base' t v) (h:DataW.Trod enc P w base spare held t v d p):∃ L:List (List Value),(∀ x ∈ L,gy ks x)∧PR (pX w) (.sl (L.flatMap fun x=>x.map pg) L.length false) v:=by
 obtain ⟨N,f,k,rfl⟩:=okWide_slice F hv
 obtain ⟨O,h⟩:=h
 rcases DataW.trod_slice F h with ⟨i,_⟩|⟨a,A,z,elems,rest,m,_,i,_,_,R,Z,M,I,_,_⟩
 ·have:N=none∧f=0∧k=0:=by simpa [Value.cells] using i
  obtain ⟨rfl,rfl,rfl⟩:=this
  refine ⟨[],by simp, ?_⟩
  simp only [PR]
  exact ⟨none,0,rfl,Nat.le_refl _,.inl (by simp)⟩
 ·have:N=some a∧f=A∧k=z:=by simpa [Value.cells] using i
  obtain ⟨rfl,rfl,rfl⟩:=this
  have hspot:a.spot=none:=by
   simp only [Value.okWide,F,Cell.okWide,Cell.ok] at hv
   exact hv.2.2.2.1
  have key:∀ q,q≤f→∃ L:List (List Value),L.length=q∧(∀ x ∈ L,gy ks x)∧L.flatten.length=q*ks.length∧∀ j u,L.flatten[j]? =some u→pX w a.block (a.off+j)=some u:=by
   intro q
   induction q with
   |zero=>intro _;exact ⟨[],rfl,by simp,by simp,by simp⟩
   | succ q ih=>
    intro Y
    obtain ⟨L,B,y,C,D⟩:=ih (by omega)
    have K:=I q (by omega)
    rw [List.getElem?_eq_getElem (by omega)] at K
    obtain ⟨G,T,X⟩:=Option.bind_eq_some_iff.1 K
    have J:=QF n e ks U _ _ _ X
    obtain ⟨_,h9,E⟩:=World.cells?_some T
    refine ⟨L++ [G],by simp [B], ?_, ?_, ?_⟩
    ·intro x l
     rcases List.mem_append.1 l with l|l
     ·exact y x l
     ·simp at l;subst l;exact J
    ·rw [List.flatten_append,List.length_append,C]
     have:=J.length
     simp only [List.flatten_cons,List.flatten_nil,List.append_nil]
     rw [← this,Nat.succ_mul]
    ·intro j u c
     rw [List.flatten_append,List.getElem?_append] at c
     split at c
     ·exact D j u c
     ·rename_i W
      simp only [List.flatten_cons,List.flatten_nil,List.append_nil] at c
      have Q:=(List.getElem?_eq_some_iff.1 c).1
      have r:=E (j - L.flatten.length) (by omega)
      rw [c,FW hspot,FW rfl] at r
      refine Hw ?_ (gy.one J u (List.mem_of_getElem? c))
      rw [← r,C,V]
      congr 2
      have:q*ks.length≤j:=by rw [← C];omega
      simp only
      omega
  obtain ⟨L,B,y,C,D⟩:=key f (Nat.le_refl _)
  refine ⟨L,y, ?_⟩
  simp only [PR]
  refine ⟨some a,k,by rw [B],by rw [B];exact R,.inr ⟨a.block,a.off,L.flatten, ?_,Jy L y,fun j u c=> ⟨D j u c,Vm L y u (List.mem_of_getElem? c)⟩⟩⟩
  obtain ⟨b,o,s⟩:=a
  simp only at hspot
  subst hspot
  rfl
theorem adZ {α:Type} (f:α→List AV) {L:List (List Value)} (h:∀ x ∈ L,∃ a,x.map pg=f a):∃ l:List α,(L.flatMap fun x=>x.map pg)=l.flatMap f∧L.length=l.length:=by
 induction L with
 |nil=>exact ⟨[],rfl,rfl⟩
 |cons x r ih=>
  obtain ⟨a,d⟩:=h x (by simp)
  obtain ⟨l,e,c⟩:=ih fun y b=>h y (by simp [b])
  exact ⟨a::l,by rw [List.flatMap_cons,List.flatMap_cons,d,e],by simp [c]⟩
end
end AM
namespace AM
open Go
section
variable {P:Program} {ap:AP}
theorem ah.ahead {h0:List bi} {nt:Nat} {c:Code} {e:bM} {j:St} (b:Nat) (B:bi) {i en':iW} {hp hp':Hp} (l:ah P ap h0 nt c ⟨en',hp',.dead,[]⟩ e j) (f:h0.length≤b) (d:B.pr=true)
  (henv:QE b B en' (iW.get i)) (hhp:Ny b B hp' hp):ah P ap h0 nt c {env:=i,hp,md:= .dead,dfs:= []} e j:=by
 intro _
 obtain ⟨o,n⟩:=l rfl
 refine ⟨o,fun m0 S0 w0 m S w a h q Q k=> ?_⟩
 obtain ⟨S2,s,p⟩:=Kq (r:={env:=i,hp,md:= .dead,dfs:= []}) (r':=⟨en',hp',.dead,[]⟩) b B f (yj hhp) d rfl (oP henv) (Bg hhp) (Bf hhp) h q
 exact n m0 S0 w0 m S2 w a s p Q k
end
end AM
namespace AM
open Go
section
variable {P:Program} {ap:AP} {H:dm}
def pO (r:kD):kD:={r with rb:= []}
theorem CY {D:Nat→Bool}:∀ (rs:List kD) (i j:Nat) (e:iW) (r:kD),rs[i]? =some r→lU D j e (rs.set i (pO r))=lU D j e rs
 | [],i,j,e,r,h=>by simp at h
 |x::rs,0,j,e,r,h=>by
  have h:x=r:=by simpa using h
  subst h;rfl
 |x::rs,i+1,j,e,r,h=>by
  simp only [List.set_cons_succ,lU]
  exact CY rs i (j+1) _ r (by simpa using h)
theorem IG {D:Nat→Bool}:∀ (rs:List kD) (i j:Nat) (e:Hp) (r:kD),rs[i]? =some r→oh D j e (rs.set i (pO r))=oh D j e rs
 | [],i,j,e,r,h=>by simp at h
 |x::rs,0,j,e,r,h=>by
  have h:x=r:=by simpa using h
  subst h;rfl
 |x::rs,i+1,j,e,r,h=>by
  simp only [List.set_cons_succ,oh]
  exact IG rs i (j+1) _ r (by simpa using h)
theorem Hm (a:List kD) (i k:Nat) (r:kD) (h:a[i]? =some r):(a.set i (pO r)).take k=a.take k∨((a.take k)[i]? =some r∧(a.set i (pO r)).take k=(a.take k).set i (pO r)):=by
 by_cases hk:i<k
 ·right
  refine ⟨by rw [List.getElem?_take,if_pos hk];exact h, ?_⟩
  rw [List.take_set]
 ·left
  rw [List.take_set,List.set_eq_of_length_le]
  rw [List.length_take];omega
theorem Gq (a:List kD) (i k:Nat) (e:iW) (r:kD) (h:a[i]? =some r):og e ((a.set i (pO r)).take k)=og e (a.take k):=by
 rcases Hm a i k r h with b|⟨b,c⟩
 ·rw [b]
 ·rw [c];exact CY _ _ _ _ _ b
theorem Ut (a:List kD) (i k:Nat) (e:Hp) (r:kD) (h:a[i]? =some r):Dp e ((a.set i (pO r)).take k)=Dp e (a.take k):=by
 rcases Hm a i k r h with b|⟨b,c⟩
 ·rw [b]
 ·rw [c];exact IG _ _ _ _ _ b
def Hr:Hp→Nat→List bi
 | [],_=> []
 |(b,B)::r,t=>match Nat.beq b t with|true=>B::Hr r t|false=>Hr r t
theorem Ht {b:Nat} {B:bi}:∀ {hp:Hp},(b,B) ∈ hp→B ∈ Hr hp b
 | (c,C)::r,h=>by
  simp only [Hr]
  rcases List.mem_cons.1 h with h|h
  ·cases h
   rw [Nat.beq_refl];exact List.mem_cons_self
  ·have a:=Ht h
   split
   ·exact List.mem_cons_of_mem _ a
   ·exact a
theorem O6 {D D':Nat→Bool} (c:∀ j,D j=true→D' j=true):∀ (rs:List kD) (j:Nat) (h h':Hp),(∀ x ∈ h,x ∈ h')→∀ x ∈ oh D j h rs,x ∈ oh D' j h' rs
 | [],_,_,_,hs=>hs
 | r::rs,j,h,h',hs=>by
  simp only [oh]
  refine O6 c rs (j+1) _ _ ?_
  intro x a
  cases b:D j with
  |true=>
   rw [b] at a
   rw [c j b]
   rcases List.mem_append.1 a with a|a
   ·exact List.mem_append.2 (.inl a)
   ·exact List.mem_append.2 (.inr (hs x a))
  |false=>
   rw [b] at a
   cases D' j with
   |true=>exact List.mem_append.2 (.inr (hs x a))
   |false=>exact hs x a
def vC (D:Nat→Bool):List wK→Hp→Hp
 | [],hp=>hp
 |F::r,hp=>match D r.length with
  |true=>hp.take F.wb.length++vC D r (hp.drop F.wb.length)
  |false=>vC D r (hp.drop F.wb.length)
theorem Dn {D:Nat→Bool}:∀ (rs:List kD) (j:Nat) (h:Hp) (r:kD),oh D j h (rs++ [r])=match D (j+rs.length) with|true=>r.ups++oh D j h rs|false=>oh D j h rs
 | [],j,h,r=>by
  simp only [List.nil_append,oh,List.length_nil,Nat.add_zero]
  cases D j<;>rfl
 |x::rs,j,h,r=>by
  simp only [List.cons_append,oh]
  rw [Dn rs (j+1) _ r]
  rw [show j+1+rs.length=j+(x::rs).length by simp;omega]
theorem EL {D:Nat→Bool} (h:Hp):∀ (l:List kD),vC D (l.map kD.foot) (Dp h l.reverse)=oh D 0 h l.reverse
 | []=>rfl
 | r::l=>by
  have e:Dp h (r::l).reverse=r.ups++Dp h l.reverse:=by
   unfold Dp
   rw [List.reverse_cons,Dn]
  have a:(kD.foot r).wb.length=r.ups.length:=by simp [kD.foot]
  rw [e,List.reverse_cons,Dn]
  simp only [List.map_cons,vC,a,List.length_map,List.take_left,List.drop_left,List.length_reverse,Nat.zero_add]
  rw [EL h l]
theorem Kt {D:Nat→Bool} {b:Nat}:∀ (rs:List kD) (j:Nat) (h:Hp),(∃ B,aG h b=some B)→∃ B,aG (oh D j h rs) b=some B
 | [],_,_,hs=>hs
 | r ::rs,j,h,hs=>by
  simp only [oh]
  refine Kt rs (j+1) _ ?_
  cases D j with
  |false=>exact hs
  | true=>
   by_cases hm:b ∈ r.ups.map (·.1)
   ·obtain ⟨B,a⟩:=uo hm
    exact ⟨B,by
     rw [iy,a]⟩
   ·rw [qZ hm];exact hs
inductive BQ (P:Program) (ap:AP) (H:dm) (n:Nat) (ops:List Oper) (o:Oper) (b d:Nat) (rt:List Nat) (env:iW) (v:AV):List bi→Prop where
 |nil:BQ P ap H n ops o b d rt env v []
 | cons {B:bi} {r:List bi} {c2 c3:Cx} {t:RS}:LC ap H n ops o {env,hp:= [(b,B)],md:= .dead,dfs:= [],dec:= [],feet:= []} c2= .ok (t,none) c3→c3.Ok→t.feet= [{rt:=rt,wt:= [d],rb:= [b],wb:= []}]→t.dfs= []→t.env.get d=v→
   BQ P ap H n ops o b d rt env v r→BQ P ap H n ops o b d rt env v (B::r)
theorem BQ.sem (j:je P ap) (q:jZ P ap H) {n:Nat} {ops:List Oper} {o:Oper} {b d:Nat} {rt:List Nat} {env:iW} {v:AV} {l:List bi} (u:o.dst=some d) (h:BQ P ap H n ops o b d rt env v l):∀ B ∈ l,H6 P ap ops.toArray o n env [(b,B)] rt [b] v [] [] none:=by
 induction h with
 |nil=>intro B A;simp at A
 | @cons B r c2 c3 t he hc hft hdf0 hvd _ ih=>
  intro B' a
  rcases List.mem_cons.1 a with rfl|a
  ·obtain ⟨_,hs⟩:=rV j q he hc
   obtain ⟨x,rb,ups,y,hs⟩:=hs rfl (fun t b s=>by cases s)
   have e:=hs.feet rfl
   rw [hft] at e
   simp only [List.cons.injEq,wK.mk.injEq,and_true] at e
   obtain ⟨f,_,p,k⟩:=e
   have c:ups= []:=by
    cases ups with
    |nil=>rfl
    |cons _ _=>simp at k
   have i:y= []:=by
    have:=hs.dfs
    rw [hdf0] at this
    simpa using this.symm
   have z:x=v:=by
    have:=hs.env rfl
    rw [this,u,jr] at hvd
    exact hvd
   have:=hs.sem
   rw [← f,← p,c,i,z] at this
   exact this
  ·exact ih B' a
theorem QA (hap:je P ap) (hmix:P.follows .mixedOrders=true) (hH:jZ P ap H) {ops:List Oper} {nt:Nat} {h0:List bi} (keep:List Nat) {id:Nat} (hnt:∀ o ∈ ops,∀ d,o.dst=some d→d<nt) {s:St} {f:RS} {c c':Cx} (i b d:Nat) (o:Oper) (rt:List Nat) (v:AV) (L:List bi)
  (e1:rW ap H ops ops (iK s.hp) {env:=s.env,hp:=s.hp,md:=s.md,dfs:=s.dfs,dec:= [],feet:= []} c= .ok (f,none) c') (hc:c'.Ok)
  (hoi:ops[i]? =some o) (hod:o.dst=some d) (hft:f.feet.reverse[i]? =some {rt:=rt,wt:= [d],rb:= [b],wb:= []})
  (hord:uw (iK s.hp) (Region.before ops.toArray).toList (f.feet.reverse.set i {rt:=rt,wt:= [d],rb:= [],wb:= []}).reverse=true) (hback:qW ops=true) (hdl:f.dfs.length=s.dfs.length)
  (hlate:∀ k C,i<k→ops[k]? =some C→∀ x,C.dst=some x→x ≠ d∧x ∉ rt) (hdr:d ∉ rt)
  (hv:f.env.get d=v) (W:∃ B,aG s.hp b=some B) (hL:Hr (vC (fun k=> !(((Region.before ops.toArray).toList.getD k 0).testBit i)) f.feet f.hp) b=L) (hst:BQ P ap H (iK s.hp+4*i) ops o b d rt f.env v L):
  ah P ap h0 nt (.region id ops.toArray true) s .normal (norm h0.length keep ⟨f.env,f.hp,f.md,f.dfs⟩):=by
 intro hmd
 have hn0:∀ b B,aG s.hp b=some B→b<iK s.hp:=fun b B W=>qH W
 obtain ⟨_,hs⟩:=Wq hap hH ops 0 _ _ _ _ _ e1 hc
 obtain ⟨h1,recs,M,e⟩:=hs hmd (fun t b W=>by cases W) rfl
 refine ⟨h1,fun m0 S0 w0 m S w a hfr J Q hQ=>wp_region_any hmix ?_⟩
 have F:f.dfs.length=s.dfs.length:=hdl
 have hdf:=(e.sem F).1
 have hil:i<recs.length:=by rw [M];exact (List.getElem?_eq_some_iff.1 hoi).1
 have p:recs[i]? =some recs[i]:=List.getElem?_eq_getElem hil
 have hfeet:f.feet.reverse=recs.map kD.foot:=by rw [e.feet,List.append_nil,List.reverse_reverse]
 rw [hfeet] at hft hord
 rw [List.getElem?_map,p,Option.map_some,Option.some.injEq] at hft
 generalize recs[i]=r at p hft
 have O:=hft
 simp only [kD.foot,wK.mk.injEq] at O
 obtain ⟨hrt,hwt,hrb,u⟩:=O
 have u:r.ups= []:=by
  cases hu:r.ups with
  |nil=>rfl
  |cons _ _=>rw [hu] at u;simp at u
 have hset:(recs.map kD.foot).set i {rt:=rt,wt:= [d],rb:= [],wb:= []}=(recs.set i (pO r)).map kD.foot:=by
  rw [List.map_set]
  congr 1
  simp only [kD.foot,pO,wK.mk.injEq]
  exact ⟨hrt.symm,hwt.symm,trivial,by rw [u];rfl⟩
 rw [hset] at hord
 have X:oM (Array.replicate ops.length false)=fun _=>false:=by
  funext k
  simp only [oM,Array.getD_eq_getD_getElem?]
  by_cases n:k<ops.length<;>simp [n]
 have hsz:ops.toArray.size=ops.length:=by simp
 rw [hsz]
 have V:∀ D,oh D 0 s.hp (recs.set i (pO r))=oh D 0 s.hp recs:=fun D=>IG recs i 0 s.hp r p
 have enE:∀ D,lU D 0 s.env (recs.set i (pO r))=lU D 0 s.env recs:=fun D=>CY recs i 0 s.env r p
 have R:∀ k,k ≠ i→(recs.set i (pO r))[k]? =recs[k]? :=fun k n=>List.getElem?_set_ne (Ne.symm n)
 have hgeti:(recs.set i (pO r))[i]? =some (pO r):=List.getElem?_set_self hil
 have hdsto:∀ (k:Nat) (q:kD),recs[k]? =some q→∃ C:Oper,ops[k]? =some C∧q.dst=C.dst:=by
  intro k q n
  obtain ⟨C,z,A,_⟩:=(e.sem F).2 k q n
  exact ⟨C,by rw [← z,Nat.zero_add],A⟩
 have G:r.dst=some d:=by
  obtain ⟨C,z,A⟩:=hdsto i r p
  rw [hoi] at z;cases z
  rw [A,hod]
 have hrv:r.v=v:=by
  have e2:(og s.env recs).get d=(og s.env (recs.take (i+1))).get d:=by
   rw [← xX]
   refine nD recs 0 _ _ rfl fun k q n N=> ?_
   rw [Nat.zero_add]
   by_cases hki:i<k
   ·obtain ⟨C,z,A⟩:=hdsto k q n
    exact absurd rfl (hlate k C hki z d (A ▸ N)).1
   ·simp;omega
  have e3:f.env.get d=v:=hv
  rw [e.env] at e3
  rw [show (og s.env recs).get d=(og s.env recs).get d from rfl,e2,Gs _ _ _ _ p,G,jr] at e3
  exact e3
 have hrte:∀ t ∈ rt,(og s.env (recs.take i)).get t=f.env.get t:=by
  intro t ht
  rw [e.env,← xX]
  refine nD recs 0 _ _ rfl fun k q n N=> ?_
  rw [Nat.zero_add]
  rcases Nat.lt_trichotomy k i with h|h|h
  ·simp [h]
  ·subst h
   rw [p] at n;cases n
   rw [G] at N;cases N
   exact absurd ht hdr
  ·obtain ⟨C,z,A⟩:=hdsto k q n
   exact absurd ht (hlate k C h z t (A ▸ N)).2
 refine J8 (P:=P) (ap:=ap) (s:={env:=s.env,hp:=s.hp,md:=s.md,dfs:=s.dfs,dec:= [],feet:= []}) (recs:=recs.set i (pO r)) hnt (by rw [List.length_set];exact M) ?_ ?_ (D7 hord) hback hn0 (m0:=m) (S0:=S) (w0:=w) (Q:=Q) ?_ ops.length _ m S _ a ⟨by simp, ?_, ?_, ?_⟩ ?_
 ·intro k q n x U
  by_cases hki:k=i
  ·subst hki
   rw [hgeti] at n;cases n
   rw [show (pO r).ups=r.ups from rfl,u] at U
   simp at U
  ·rw [R k hki] at n
   have:=e.bound k q n x U
   omega
 ·intro k q n
  by_cases hki:k=i
  ·subst hki
   rw [hgeti] at n;cases n
   refine ⟨o,hoi,by rw [← hod] at G;exact G, ?_⟩
   intro D m2 S2 w2 a2 Y y _ l hnb Q2 K T
   dsimp only at Y y l T
   rw [V] at Y y l T
   obtain ⟨B,hB⟩:=Kt (D:=D) recs 0 s.hp W
   have hBm:B ∈ L:=by
    have e4:=EL (D:=fun j=> !(((Region.before ops.toArray).toList.getD j 0).testBit k)) s.hp recs.reverse
    rw [List.reverse_reverse,List.map_reverse] at e4
    rw [← hL,e.hp,e.feet,List.append_nil]
    rw [e4]
    refine Ht (O6 (D:=D) (fun j hj=> ?_) recs 0 s.hp s.hp (fun _ h=>h) _ (zh hB))
    cases hb2:((Region.before ops.toArray).toList.getD j 0).testBit k with
    |false=>rfl
    |true=>rw [hnb j hb2] at hj;cases hj
   have E:=hst.sem hap hH hod B hBm
   rw [show (pO r).v=r.v from rfl,hrv,show (pO r).ups=r.ups from rfl,u] at T
   refine E _ m2 S2 w2 a2 Y (fun t ht=> ?_) (fun x U B2 Z=> ?_) l Q2 K T
   ·have z:=y t (by rw [show (pO r).rt=r.rt from rfl,hrt];exact ht)
    rw [Gq recs k k s.env r p,hrte t ht] at z
    exact z
   ·rw [List.mem_singleton] at U
    subst U
    simp only [aG,Nat.beq_refl,Option.some.injEq] at Z
    subst Z
    exact hB
  ·rw [R k hki] at n
   obtain ⟨C,z,A,E⟩:=(e.sem F).2 k q n
   rw [Nat.zero_add] at z
   refine ⟨C,z,A, ?_⟩
   intro D m2 S2 w2 a2 Y y I l _ Q2 K T
   dsimp only at Y y I l T
   rw [V] at Y y I l T
   rw [Gq recs i k s.env r p] at y
   rw [Ut recs i k s.hp r p] at I
   exact E _ m2 S2 w2 a2 Y y (fun x U B hB=>by rw [← I x U];exact hB) l Q2 K T
 ·intro m' S' w' a' A h4
  dsimp only at A h4
  have e5:Dp s.hp (recs.set i (pO r))=Dp s.hp recs:=V _
  have e6:og s.env (recs.set i (pO r))=og s.env recs:=enE _
  rw [e5] at A h4
  rw [e6] at h4
  have h5:Fr (bI h0) m0 S0 w0 (aG f.hp) m' S' w':=by
   rw [e.hp];exact hfr.trans A
  have h6:FR ap f.env f.hp f.dfs nt m' S' w' a':=by
   rw [e.hp,e.env,hdf];exact h4
  obtain ⟨m2,h7,h8⟩:=nO (keep:=keep) (s:=⟨f.env,f.hp,f.md,f.dfs⟩) h5 h6
  exact hQ m2 S' w' a' h7 h8
 ·intro k o n N
  rw [X] at N;cases N
 ·dsimp only
  rw [X,nI _ 0 _ (fun _ _=>rfl)]
  exact ⟨Ge.refl _ _,mD.refl _,rfl,rfl,rfl,Nat.le_refl _,fun _ _ _=>rfl,fun _ B h=> .inr ⟨B,h,rfl⟩,fun _ _ _ h=> .inl h⟩
 ·dsimp only
  rw [X,nI _ 0 _ (fun _ _=>rfl),uU _ 0 _ (fun _ _=>rfl)]
  exact ⟨⟨J.srel.inj,fun b B W=>J.srel.blk b B W|>fun ⟨h1,z,A⟩=> ⟨h1,z,A⟩,J.srel.sealed,J.srel.own,J.srel.glob⟩,J.env,J.dfs,J.size⟩
 ·simp only [Bv]
  exact Nat.le_trans (List.length_filter_le _ _) (by simp)
def AA:List Nat→List Nat→Bool
 | [],[]=>true
 |a::r,b::q=>Nat.beq a b && AA r q
 |_,_=>false
theorem oN:∀ {l r:List Nat},AA l r=true→l=r
 | [],[],_=>rfl
 |a::r,b::q,h=>by
  simp only [AA,Bool.and_eq_true] at h
  rw [aO h.1,oN h.2]
 | [],_::_,h=>by simp [AA] at h
 |_::_,[],h=>by simp [AA] at h
def PV (ap:AP) (H:dm) (n:Nat) (ops:List Oper) (o:Oper) (b d:Nat) (rt:List Nat) (env:iW) (v:AV):List bi→Option (List Prop)
 | []=>some []
 | B ::r=>match LC ap H n ops o {env,hp:= [(b,B)],md:= .dead,dfs:= [],dec:= [],feet:= []} ⟨true,[],[],[],[],[]⟩ with
  | .ok (t,none) c3=>match t.feet,t.dfs,c3.bs,c3.ps with
   | [F],[],[],[]=>match AA F.rt rt && AA F.wt [d] && AA F.rb [b] && AA F.wb [] with
    |true=>match PV ap H n ops o b d rt env v r with
     |some l=>some ((t.env.get d=v)::l)
     |none=>none
    |false=>none
   |_,_,_,_=>none
  |_=>none
theorem Lu {n:Nat} {ops:List Oper} {o:Oper} {b d:Nat} {rt:List Nat} {env:iW} {v:AV}:∀ {L:List bi} {l:List Prop},PV ap H n ops o b d rt env v L=some l→(∀ p ∈ l,p)→BQ P ap H n ops o b d rt env v L
 | [],_,_,_=> .nil
 | B ::r,l,h,hl=>by
  simp only [PV] at h
  split at h
  ·rename_i t q f
   split at h
   ·rename_i F j i k c
    split at h
    ·rename_i a
     simp only [Bool.and_eq_true] at a
     split at h
     ·rename_i s e
      cases h
      refine .cons f ⟨by rw [k];simp,by rw [c];simp⟩ ?_ i (hl _ (by simp)) (Lu e fun p hp=>hl p (by simp [hp]))
      rw [j,← oN a.1.1.1,← oN a.1.1.2,← oN a.1.2,← oN a.2]
     ·cases h
    ·cases h
   ·cases h
  ·cases h
def Ji (ap:AP) (H:dm) (base:Nat) (keep:List Nat) (nt0 i b d:Nat) (code:Code) (s:St) (c:Cx):R St:=
 match code with
 | .region _ opsA true=>
  (rW ap H opsA.toList opsA.toList (iK s.hp) {env:=s.env,hp:=s.hp,md:=s.md,dfs:=s.dfs,dec:= [],feet:= []} c).bind fun (s1,p) c=>
  match p with
  |some _=> .bad 1
  |none=>
  match opsA.toList[i]?,s1.feet.reverse[i]? with
  | some o,some F=>
   match (match o.dst with|some d'=>Nat.beq d' d|none=>false) && AA F.wt [d] && AA F.rb [b] && AA F.wb [] && uw (iK s.hp) (Region.before opsA).toList (s1.feet.reverse.set i {rt:=F.rt,wt:= [d],rb:= [],wb:= []}).reverse && qW opsA.toList && Nat.beq s1.dfs.length s.dfs.length
    && (opsA.toList.drop (i+1)).all (fun o'=>match o'.dst with|some x=> !(Nat.beq x d) && !(pM F.rt x)|none=>true) && !(pM F.rt d) && (aG s.hp b).isSome && opsA.toList.all (Gp nt0) with
   |true=>match PV ap H (iK s.hp+4*i) opsA.toList o b d F.rt s1.env (s1.env.get d) (Hr (vC (fun k=> !(((Region.before opsA).toList.getD k 0).testBit i)) s1.feet s1.hp) b) with
    |some l=> .ok (norm base keep ⟨s1.env,s1.hp,s1.md,s1.dfs⟩) {c with ps:=l++c.ps}
    |none=> .bad 3
   |false=> .bad 2
  |_,_=> .bad 4
 |_=> .bad 5
theorem Ot (v:je P ap) (q:P.follows .mixedOrders=true) (I:jZ P ap H) {h0:List bi} {keep:List Nat} {nt nt0 i b d:Nat} {j:Code} {s s':St} {c G:Cx} (K:nt0≤nt) (h:Ji ap H h0.length keep nt0 i b d j s c= .ok s' G) (B:G.Ok):ah P ap h0 nt j s .normal s':=by
 unfold Ji at h
 split at h
 ·rename_i id a
  obtain ⟨⟨N,p⟩,c1,Q,h⟩:=R.bind_ok h
  dsimp only at h
  split at h
  ·cases h
  ·split at h
   ·rename_i o F M O
    split at h
    ·rename_i hcond
     split at h
     ·rename_i l V
      cases h
      simp only [Bool.and_eq_true] at hcond
      obtain ⟨⟨⟨⟨⟨⟨⟨⟨⟨⟨y,X⟩,Y⟩,T⟩,L⟩,J⟩,U⟩,W⟩,E⟩,t⟩,C⟩:=hcond
      have D:o.dst=some d:=by
       split at y
       ·rename_i d' u;rw [u,aO y]
       ·cases y
      have A:F={rt:=F.rt,wt:= [d],rb:= [b],wb:= []}:=by
       rw [← oN X,← oN Y,← oN T]
      have f:a.toList.toArray=a:=by simp
      have key:=QA (nt:=nt) (h0:=h0) v q I keep (id:=id) (ops:=a.toList) (fun r n x z=>by
        have:=List.all_eq_true.1 C r n
        simp only [Gp,z] at this
        exact Nat.lt_of_lt_of_le (gp this) K) i b d o F.rt (N.env.get d) _ Q ⟨B.bs,fun p hp=>B.ps p (by simp [hp])⟩ M D (by rw [O,← A]) (by rw [f];exact L) J (aO U) ?_ ?_ rfl (by simpa [Option.isSome_iff_exists] using t) (by rw [f]) (Lu V fun p hp=>B.ps p (by simp [hp]))
      ·rw [f] at key
       exact key
      ·intro k r hk n x z
       have Z:r ∈ a.toList.drop (i+1):=by
        refine List.mem_of_getElem? (i:=k - (i+1)) ?_
        rw [List.getElem?_drop,show i+1+(k - (i+1))=k by omega]
        exact n
       have:=List.all_eq_true.1 W r Z
       simp only [z,Bool.and_eq_true,Bool.not_eq_true'] at this
       refine ⟨fun e=> ?_,fun e=> ?_⟩
       ·subst e;rw [Nat.beq_refl] at this;cases this.1
       ·rw [jg.2 e] at this;cases this.2
      ·intro e
       rw [jg.2 e] at E
       cases E
     ·cases h
    ·cases h
   ·cases h
 ·cases h
end
theorem BC {P:Program} {ap:AP} (g:BN P ap) {h0:List bi} {keep:List Nat} {nt nt0 i b d:Nat} {a:Code} {s s':St} {ans:List (kQ × List bi)} {ps:List Prop} (hp:Ju ps) (c:nt0≤nt)
  (h:Ji ap (xk P ap 3000 4) h0.length keep nt0 i b d a s ⟨true,[],[],[],ans,[]⟩= .ok s' ⟨true,[],[],ps,[],[]⟩):ah P ap h0 nt a s .normal s':=by
 obtain ⟨e,_⟩:=lu g.apok g.mixed g.fnok 3000 4
 exact Ot g.apok g.mixed e c h ⟨by simp,hp.mem⟩
end AM
