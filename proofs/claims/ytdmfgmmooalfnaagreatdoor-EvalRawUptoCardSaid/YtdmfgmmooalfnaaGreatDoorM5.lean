/- The abstract machine over the code of the model, and the proof that it is sound. No conditions. -/
import Derived.Test.YtdmfgmmooalfnaaGreatDoorM4
import Derived.ChangeArms
import Derived.WideShapes
import Derived.Deep.Strs
set_option linter.unusedSimpArgs false
set_option linter.unusedVariables false
open Nat renaming beq→Xqq,le_refl→Δ,add_zero→Xq0,eq_of_beq_eq_true→Xjl,le_trans→Xq1,eq_zero_or_pos→Θ,zero_mul→Xwb
open List renaming map_cons→Xqh,append_nil→Γ,mem_of_getElem?→Xqj,isEmpty_iff→Xv5,map→Xw4,drop→ε,length_append→θ,take_add→Yq9,drop_drop→Xjm,flatten_cons→Xjx,getElem?_eq_getElem→ξ,getElem_mem→Xxb,getElem?_append→Xkh,flatten_append→Xzo,flatten_nil→Xk8
open Bool renaming and_eq_true→π
namespace AM
open Go
structure aH (s s':St):Prop where
 env:∀ t,s.env.get t=s'.env.get t∨s.env.get t= .dead
 hp:s.hp=s'.hp
 md:s.md=s'.md
 dfs:s.dfs=s'.dfs
theorem aH.refl (s:St):aH s s:=⟨fun _=> .inl rfl,rfl,rfl,rfl⟩
def PQ:ja→(Nat→AV)→Prop
 | [],_=>True
 |(t,v)::r,f=>(f t=v)∧PQ r f
theorem yC {f:Nat→AV}:∀ {e:ja},PQ e f→∀ t,e.get t=f t∨e.get t= .dead
 | [],_,t=> .inr rfl
 | (u,v)::r,h,t=>by
  simp only [PQ] at h;simp only [ja.get,aA];cases a:Xqq u t with
  |true=>
   have:=aJ a;subst this;exact .inl h.1.symm
  |false=>exact yC h.2 t
theorem aH.of {e e':ja} {hp:Hp} {md:AV} {dfs:List (Nat × List AV)} (h:PQ e e'.get):aH {env:=e,hp,md,dfs} {env:=e',hp,md,dfs}:=⟨yC h,rfl,rfl,rfl⟩
section
variable {P:Program} {ap:AP} {H:di}
theorem FR.less {s s':St} (h:aH s s') {nt:Nat} {m:aZ} {S:aT} {w:World} {a:Act} (b:FR ap s'.env s'.hp s'.dfs nt m S w a):FR ap s.env s.hp s.dfs nt m S w a:=by
 refine ⟨h.hp ▸ b.srel,fun t=> ?_, ?_,b.size⟩
 ·rcases h.env t with e|e
  ·rw [e,h.hp];exact b.env t
  ·rw [e];simp [VR]
 ·rw [h.hp,h.dfs];exact b.dfs
theorem ak.weak {k:List bg} {nt:Nat} {b:Code} {s s' r j:St} {e:bG} (h:ak P ap k nt b s e r) (hs:aH s s') (c:aH j r):ak P ap k nt b s' e j:=by
 intro i;obtain ⟨n,o⟩:=h (hs.md ▸ i);refine ⟨c.md ▸ n,fun m0 S0 w0 m S w a f p Q u=>o m0 S0 w0 m S w a (by rw [hs.hp];exact f) (p.less hs) Q ?_⟩;intro q S' w' x t l;have:=u q S' w' x (by rw [c.hp];exact t) (l.less c);cases e with
 |normal=>exact this
 |exit id=>exact this
 |ret=>exact this
 |panic v=>intro cv d;exact this cv (by rw [c.hp];exact d)
inductive az (P:Program) (ap:AP) (h0:List bg) (nt:Nat) (b:Code) {α β:Type} (e:β→bG) (st:α→St) (out:β→St):α→β→Prop where
 |done {a:α} {r:β}:ak P ap h0 nt b (st a) (e r) (out r)→az P ap h0 nt b e st out a r
 |next {a a':α} {r:β}:ak P ap h0 nt b (st a) .normal (st a')→az P ap h0 nt b e st out a' r→az P ap h0 nt b e st out a r
theorem az.rounds {t:List bg} {nt:Nat} {b:Code} {α β:Type} {e:β→bG} {j:α→St} {out:β→St} {a:α} {r:β} (d:e r ≠ .normal) (h:az P ap t nt b e j out a r):(j a).md= .dead→(out r).md= .dead∧∃ n,∀ m0 S0 w0 m S w c,Fr (bH t) m0 S0 w0 (aA (j a).hp) m S w→FR ap (j a).env (j a).hp (j a).dfs nt m S w c→∀ Q,XA ap t m0 S0 w0 nt (out r) (e r) Q→Code.rounds P b Q n c w:=by
 induction h with
 |@done a r hx=>
  intro i;obtain ⟨l,o⟩:=hx i;refine ⟨l,1,fun m0 S0 w0 m S w c f u Q s=>o m0 S0 w0 m S w c f u _ ?_⟩;intro x S' w' q p k;have:=s x S' w' q p k
  revert d this
  cases e r with
  |normal=>intro d _;exact absurd rfl d
  |exit id=>intro _ h;exact h
  |ret=>intro _ h;exact h
  |panic v=>intro _ h;exact h
 |next hx _ ih=>
  intro i;obtain ⟨l,o⟩:=hx i;obtain ⟨p,n,k⟩:=ih d l;refine ⟨p,n+1,fun m0 S0 w0 m S w c f u Q s=>o m0 S0 w0 m S w c f u _ ?_⟩;intro x S' w' q y z;exact k m0 S0 w0 x S' w' q y z Q s
theorem az.ok {k:List bg} {nt:Nat} {b:Code} {α β:Type} {e:β→bG} {j:α→St} {out:β→St} {a:α} {r:β} (f:e r ≠ .normal) (h:az P ap k nt b e j out a r):ak P ap k nt (.loop b) (j a) (e r) (out r):=by
 intro i;obtain ⟨l,n,o⟩:=h.rounds f i;exact ⟨l,fun m0 S0 w0 m S w c d p Q q=>wp_loop_rounds n (o m0 S0 w0 m S w c d p Q q)⟩
theorem az.blk {f:List bg} {n id:Nat} {b:Code} {α β:Type} {e:β→bG} {d:α→St} {out:β→St} {a:α} {r:β} {s s':St} {e':bG} (h:∀ nt,n≤nt→az P ap f nt b e d out a r) (c:e r ≠ .normal) (j:pI id (e r)=e') (hs:aH (d a) s) (k:aH s' (out r)):aG P ap f n (.block id (.loop b)) s e' s':=by
 intro nt l;have i:=((h nt l).ok c).block (id:=id);rw [j] at i;exact i.weak hs k
def pG (id:Nat):Code→Option Code
 | .seq a b=>match pG id a with|some c=>some c|none=>pG id b
 | .cond _ a b=>match pG id a with|some c=>some c|none=>pG id b
 | .block i b=>match Xqq i id with|true=>some b|false=>pG id b
 | .loop b=>pG id b
 | .scope b=>pG id b
 |_=>none
def af (id:Nat) (c:Code):Code:=match pG id c with|some (.loop b)=>b|_=> .skip
end
end AM
namespace AM
open Go
def fC (x y:List AV):Prop:=∀ g m S v,bi g m S x v→bi g m S y v
def vH:AV→Bool
 | .own _ _ _=>false
 | .tup _=>false
 |_=>true
theorem aS.refl (x:AV):aS x x:=fun _ _ _ _ h=>h
theorem fC.refl (x:List AV):fC x x:=fun _ _ _ _ h=>h
theorem fC.nil:fC [] []:=fC.refl []
theorem fC.cons {x y:AV} {l r:List AV} (h:aS x y) (b:fC l r):fC (x::l) (y::r):=by
 intro g m S v a;cases v with
 |nil=>simp [bi] at a
 |cons u vs=>simp only [bi] at a ⊢;exact ⟨h g m S u a.1,b g m S vs a.2⟩
theorem aS.nilS (a:Bool) (h:a=false):aS .nilS (.sl [] 0 a):=by
 subst h;intro g m S v b;simp only [VR,PR] at b ⊢;exact ⟨none,0,b,Δ _,.inl (by simp)⟩
theorem aS.sl (f:List AV) (n:Nat) (a:Bool):aS (.sl f n a) (.sl f n false):=by
 intro g m S v d;simp only [VR,PR] at d ⊢;obtain ⟨a,c,e,b,q⟩:=d;refine ⟨a,c,e,b, ?_⟩;rcases q with ⟨_,i,h⟩|q
 ·exact .inl ⟨fun _=>trivial,i,h⟩
 ·exact .inr q
theorem aS.dead (x:AV):aS x .dead:=fun _ _ _ _ _=>by simp only [VR]
theorem aS.agg {l r:List AV} (h:fC l r):aS (.agg l) (.agg r):=by
 intro g m S v a;simp only [VR] at a ⊢;obtain ⟨vs,e,q⟩:=a;exact ⟨vs,e,h _ _ _ _ q⟩
section
variable {P:Program} {ap:AP}
theorem bD.args {f:Nat} {args args':List AV} {h b:List bg} {out:kJ} (c:fC args' args) (a:bD P ap f args h out b):bD P ap f args' h out b:=
 ⟨a.len,a.ent,fun m S w cargs e d=>a.calls m S w cargs e (c _ _ _ _ d)⟩
def j_ (out out':kJ):Prop:=(∀ n,mY n out=mY n out')∧∀ h' m' S' e,acR h' m' S' out e→acR h' m' S' out' e
theorem bD.out {f:Nat} {args:List AV} {h d:List bg} {out a:kJ} (c:j_ out a) (b:bD P ap f args h out d):bD P ap f args h a d:=
 ⟨b.len,b.ent,fun m S w cargs j i=>(b.calls m S w cargs j i).mono fun e w' ⟨m',S',hF⟩=> ⟨m',S',c.1 _ ▸ hF.srel,c.1 _ ▸ hF.fr,c.2 _ _ _ _ hF.out⟩⟩
theorem kC {x:AV} (h:vH x=true):∀ a k e,x ≠ .own a k e:=by intro a k e b;subst b;cases h
theorem vI {x:AV} (h:vH x=true):∀ l,x ≠ .tup l:=by intro l a;subst a;cases h
theorem j_.ret {x y:AV} (b:vH x=true) (a:vH y=true) (h:aS x y):j_ (.ret x) (.ret y):=by
 refine ⟨fun n=> ?_,fun i j S' e d=> ?_⟩
 ·simp only [mY,jm n (kC b) (vI b),jm n (kC a) (vI a)]
 ·obtain ⟨cv,f,c⟩:=d;refine ⟨cv,f, ?_⟩;rw [lG (kC b) (vI b)] at c;rw [lG (kC a) (vI a)];exact h _ _ _ _ c
inductive F9:List AV→List AV→Prop where
 |nil:F9 [] []
 |same {x:AV} {l r:List AV}:F9 l r→F9 (x::l) (x::r)
 |fit {x y:AV} {l r:List AV}:vH x=true→vH y=true→aS x y→F9 l r→F9 (x::l) (y::r)
theorem F9.blocks {l r:List AV} (h:F9 l r):∀ n,(fM n l).2=(fM n r).2:=by
 induction h with
 |nil=>intro n;rfl
 |@same x l r _ ih=>
  intro n;rcases jB x with ⟨a,k,e,rfl⟩|hx
  ·simp only [fM];rw [ih]
  ·rw [bC n hx,bC n hx];exact ih n
 |fit hx hy _ _ ih=>
  intro n;rw [bC n (kC hx),bC n (kC hy)];exact ih n
theorem F9.outR {gh b:dG} {m:aZ} {S:aT} {l r:List AV} (h:F9 l r):∀ (n:Nat) (vs:List Value),jE gh b m S n l vs→jE gh b m S n r vs:=by
 induction h with
 |nil=>intro n vs a;exact a
 | @same x l r _ ih=>
  intro n vs a;cases vs with
  |nil=>simp [jE] at a
  |cons v vs=>
   rcases jB x with ⟨c,k,e,rfl⟩|hx
   ·simp only [jE] at a ⊢;exact ⟨a.1,ih _ _ a.2⟩
   ·rw [bT hx] at a ⊢;exact ⟨a.1,ih _ _ a.2⟩
 | fit hx hy hf _ ih=>
  intro n vs a;cases vs with
  |nil=>simp [jE] at a
  |cons v vs=>
   rw [bT (kC hx)] at a;rw [bT (kC hy)];exact ⟨hf _ _ _ _ a.1,ih _ _ a.2⟩
theorem j_.tup {l r:List AV} (h:F9 l r):j_ (.ret (.tup l)) (.ret (.tup r)):=by
 refine ⟨fun n=> ?_,fun b j S' e c=> ?_⟩
 ·simp only [mY,lM];exact h.blocks n
 ·obtain ⟨cv,f,a⟩:=c;refine ⟨cv,f, ?_⟩;simp only [BV] at a ⊢;obtain ⟨vs,d,q⟩:=a;have i:(lM b.length (.tup l)).2=(lM b.length (.tup r)).2:=by simp only [lM];exact h.blocks _
  refine ⟨vs,d, ?_⟩;rw [i] at q;exact h.outR _ _ q
end
end AM
namespace AM
open Go
def thaw:AV→AV
 | .own xs n e=> .sl (xs.take (n*e)) n true
 |x=>x
def wL:kJ→kJ
 | .ret (.tup l)=> .ret (.tup (l.map thaw))
 | .ret x=> .ret (thaw x)
 | .pan v=> .pan v
theorem FQ {x:AV} (h:∀ xs k e,x ≠ .own xs k e):thaw x=x:=by
 cases x<;>first|rfl|exact absurd rfl (h _ _ _)
theorem rf (x:AV):∀ a k e,thaw x ≠ .own a k e:=by
 intro a k e h;cases x<;>simp [thaw] at h
theorem xx:∀ (l:List AV) (n:Nat),(fM n (l.map thaw)).2= []
 | [],_=>rfl
 |x::r,n=>by rw [Xqh,bC n (rf x)];exact xx r n
section
variable {P:Program} {ap:AP}
theorem Ad {gh p g':dG} {m:aZ} {S S':aT} {w:World} (o:bU ap p m S w) {rd:dG} (d:∀ b B,rd b=some B→p b=some B) (c:S'=dL S m rd w) (hother:∀ x v,VR gh m S x v→VR g' m S' x v):
  ∀ (l:List AV) (n:Nat) (vs:List Value),(∀ i B,(fM n l).2[i]? =some B→rd (n+i)=some B)→jE gh p m S n l vs→jE g' g' m S' n (l.map thaw) vs
 | [],n,vs,_,h=>by cases vs with|nil=>trivial|cons _ _=>simp [jE] at h
 |x::r,n,[],_,h=>by
  exfalso;rcases jB x with ⟨j,k,e,rfl⟩|f
  ·simp [jE] at h
  ·cases x<;>simp [jE] at h
 | x ::r,n,v::vs,hb,h=>by
  rcases jB x with ⟨j,k,e,rfl⟩|f
  ·simp only [jE] at h;simp only [fM] at hb;have A:=hb 0 _ rfl;rw [Xq0] at A;have C:frz rd 6 (.ref n 0 0 k)=some (.sl (j.take (k*e)) k true):=by
    simp [frz,A,Ji]
   have F:=lK o d 6 _ _ _ C h.1;rw [Xqh,bT (rf _)];refine ⟨iD _ (c ▸ F), ?_⟩;have D:=Ad o d c hother r (n+1) vs (fun i B E=>by rw [show n+1+i=n+(i+1) by omega];exact hb (i+1) B (by simpa using E)) h.2;have key:∀ (l:List AV) (a b:Nat) (vs:List Value),(∀ x ∈ l,∀ j k e,x ≠ .own j k e)→jE g' g' m S' a l vs→jE g' g' m S' b l vs:=by
    intro l
    induction l with
    |nil=>intro a b vs _ h;cases vs with|nil=>trivial|cons _ _=>simp [jE] at h
    | cons y q ih=>
     intro a b vs t h;cases vs with
     |nil=>cases y<;>simp [jE] at h
     |cons u us=>
      have s:=t y (by simp);rw [bT s] at h ⊢;exact ⟨h.1,ih a b us (fun x f=>t x (by simp [f])) h.2⟩
   refine key _ (n+1) n vs ?_ D;intro y s;obtain ⟨z,_,rfl⟩:=List.mem_map.1 s;exact rf z
  ·rw [bT f] at h;rw [bC n f] at hb;rw [Xqh,bT (rf x),FQ f];exact ⟨hother _ _ h.1,Ad o d c hother r n vs hb h.2⟩
theorem bD.thaw {f:Nat} {args:List AV} {h a:List bg} {out:kJ} (hp:∀ B ∈ a,B.pr=true) (K:bD P ap f args h out a):bD P ap f args h (wL out) a:=by
 refine ⟨K.len,K.ent,fun m S w cargs W C=>(K.calls m S w cargs W C).mono ?_⟩
 rintro e w' ⟨m',S',hF⟩
 obtain ⟨s,d,z⟩:=hF;have u:∀ n,mY n (wL out)= []:=by
  intro n;cases out with
  |pan v=>rfl
  | ret x=>
   rcases AQ x with ⟨l,rfl⟩|ht
   ·simp only [wL,mY,lM];exact xx l n
   ·have:wL (.ret x)= .ret (AM.thaw x):=by cases x<;>first|rfl|exact absurd rfl (ht _)
    rw [this];simp only [mY];have A:∀ l,AM.thaw x ≠ .tup l:=by intro l J;cases x<;>simp [AM.thaw] at J;exact ht _ rfl
    rw [jm n (rf x) A]
 let rd:dG:=fun b=>if a.length≤b then bH (a++mY a.length out) b else none
 have y:∀ b B,rd b=some B→bH (a++mY a.length out) b=some B:=by
  intro b B c;simp only [rd] at c;split at c
  ·exact c
  ·cases c
 have r:=nP S' m' rd w';have p:∀ b B,bH a b=some B→bH (a++mY a.length out) b=some B:=by
  intro b B c;have:b<a.length:=(List.getElem?_eq_some_iff.1 c).1;rw [fD this];exact c
 have hother:∀ x v,VR (bH a) m' S' x v→VR (bH (a++mY a.length (wL out))) m' (dL S' m' rd w') x v:=by
  intro x v G;rw [u,Γ];exact o_ r (Ge.refl _ _) x G
 refine ⟨m',dL S' m' rd w', ?_, ?_, ?_⟩
 ·rw [u,Γ];refine ⟨fun b E B B' c R=>s.inj b E B B' (p b B c) (p E B' R), ?_,fun k o v C=>pY s C, ?_, ?_⟩
  ·intro b B c;obtain ⟨⟨cur,e,vs,rest,j,t,F,T,L,V⟩,Z,Q⟩:=s.blk b B (p b B c);have M:=hp B (Xqj c);refine ⟨⟨cur,e,vs,rest,j,t,fun _=>dm r _ (F M),bW _ (dm r _ (F M)),L,V⟩,Z,Q⟩
  ·intro b B c o v C;rcases fO C with j|⟨j,E,B',t,F,T⟩
   ·exact s.own b B (p b B c) o v j
   ·have:=s.inj b E B B' (p b B c) (y _ _ t) F.symm;subst this;have D:b<a.length:=(List.getElem?_eq_some_iff.1 c).1;simp only [rd] at t;rw [if_neg (by omega)] at t;cases t
  ·intro k N hk;obtain ⟨vs,j,t⟩:=s.glob k N hk;exact ⟨vs,dm r _ j,t.mono r⟩
 ·rw [u,Γ];refine ⟨?_,oQ.trans d.sle r,d.os,d.tape,d.output,d.size,d.rest,fun b B c=>d.img b B (p b B c), ?_⟩
  ·intro b B c;obtain ⟨B',j,t⟩:=d.ge b B c;have D:b<a.length:=Nat.lt_of_lt_of_le (List.getElem?_eq_some_iff.1 c).1 K.len;rw [fD D] at j;exact ⟨B',j,t⟩
  ·intro k o v C;rcases fO C with j|⟨j,E,B',t,F,T⟩
   ·exact d.sealN k o v j
   ·rcases d.img E B' (y _ _ t) with L|⟨B0,L,_⟩
    ·exact .inr (.inl (F ▸ L))
    ·exfalso;have D:E<h.length:=(List.getElem?_eq_some_iff.1 L).1;simp only [rd] at t;rw [if_neg (by have:=K.len;omega)] at t;cases t
 ·have I:∀ l,out= .ret (.tup l)→∀ i B,(fM a.length l).2[i]? =some B→rd (a.length+i)=some B:=by
   intro l J i B hi;subst J;simp only [rd];rw [if_pos (by omega),jg (by omega),show a.length+i - a.length=i by omega];exact hi
  cases out with
  |pan v=>
   obtain ⟨cv,O,j⟩:=z;refine ⟨cv,O, ?_⟩;have:=hother v cv j;rwa [u,Γ] at this
  | ret x=>
   obtain ⟨cv,O,j⟩:=z;rcases AQ x with ⟨l,rfl⟩|ht
   ·simp only [BV] at j;obtain ⟨vs,X,q⟩:=j;refine ⟨cv,O, ?_⟩;simp only [BV];refine ⟨vs,X, ?_⟩;have c:(lM a.length (.tup (l.map AM.thaw))).2= []:=by simp only [lM];exact xx l _
    rw [c,Γ];have:=Ad (gh:=bH a) (g':=bH a) s y rfl (fun x v G=>o_ r (Ge.refl _ _) x G) l a.length vs (I l rfl) q;exact this
   ·have e3:wL (.ret x)= .ret (AM.thaw x):=by cases x<;>first|rfl|exact absurd rfl (ht _)
    have A:∀ l,AM.thaw x ≠ .tup l:=by intro l J;cases x<;>simp [AM.thaw] at J;exact ht _ rfl
    rw [e3];refine ⟨cv,O, ?_⟩;rw [lG (rf x) A];rcases jB x with ⟨N,k,e,rfl⟩|G
    ·simp only [BV] at j;have Y:rd a.length=some (Ji N e):=by
      simp only [rd];rw [if_pos (Δ _),jg (Δ _),Nat.sub_self];rfl
     have U:frz rd 6 (.ref a.length 0 0 k)=some (.sl (N.take (k*e)) k true):=by
      simp [frz,Y,Ji]
     have:=lK s y 6 _ _ _ U j;exact iD _ this
    ·rw [lG G ht] at j;rw [FQ G];exact o_ r (Ge.refl _ _) x j
end
end AM
namespace AM
open Go
structure qx (s s':St):Prop where
 env:∀ t,aS (s'.env.get t) (s.env.get t)
 hp:s.hp=s'.hp
 md:s.md=s'.md
 dfs:s.dfs=s'.dfs
theorem qx.refl (s:St):qx s s:=⟨fun _=>aS.refl _,rfl,rfl,rfl⟩
def IG:ja→(Nat→AV)→Prop
 | [],_=>True
 |(t,v)::r,f=>aS (f t) v∧IG r f
theorem wH {f:Nat→AV}:∀ {e:ja},IG e f→∀ t,aS (f t) (e.get t)
 | [],_,t=>aS.dead _
 | (u,v)::r,h,t=>by
  simp only [IG] at h;simp only [ja.get,aA];cases a:Xqq u t with
  |true=>
   have:=aJ a;subst this;exact h.1
  |false=>exact wH h.2 t
theorem qx.of {e e':ja} {hp:Hp} {md:AV} {dfs:List (Nat × List AV)} (h:IG e e'.get):qx {env:=e,hp,md,dfs} {env:=e',hp,md,dfs}:=⟨wH h,rfl,rfl,rfl⟩
section
variable {P:Program} {ap:AP}
theorem FR.lessF {s s':St} (h:qx s s') {nt:Nat} {m:aZ} {S:aT} {w:World} {a:Act} (b:FR ap s'.env s'.hp s'.dfs nt m S w a):FR ap s.env s.hp s.dfs nt m S w a:=by
 refine ⟨h.hp ▸ b.srel,fun t=> ?_, ?_,b.size⟩
 ·have:=h.env t _ _ _ _ (b.env t);rw [h.hp];exact this
 ·rw [h.hp,h.dfs];exact b.dfs
theorem ak.weakF {k:List bg} {nt:Nat} {b:Code} {s s' r j:St} {e:bG} (h:ak P ap k nt b s e r) (hs:qx s s') (c:qx j r):ak P ap k nt b s' e j:=by
 intro i;obtain ⟨n,o⟩:=h (hs.md ▸ i);refine ⟨c.md ▸ n,fun m0 S0 w0 m S w a f p Q u=>o m0 S0 w0 m S w a (by rw [hs.hp];exact f) (p.lessF hs) Q ?_⟩;intro q S' w' x t l;have:=u q S' w' x (by rw [c.hp];exact t) (l.lessF c);cases e with
 |normal=>exact this
 |exit id=>exact this
 |ret=>exact this
 |panic v=>intro cv d;exact this cv (by rw [c.hp];exact d)
theorem az.blkF {f:List bg} {n id:Nat} {b:Code} {α β:Type} {e:β→bG} {d:α→St} {out:β→St} {a:α} {r:β} {s s':St} {e':bG} (h:∀ nt,n≤nt→az P ap f nt b e d out a r) (c:e r ≠ .normal) (j:pI id (e r)=e') (hs:qx (d a) s) (k:qx s' (out r)):aG P ap f n (.block id (.loop b)) s e' s':=by
 intro nt l;have i:=((h nt l).ok c).block (id:=id);rw [j] at i;exact i.weakF hs k
end
end AM
namespace AM
open Go
def yj (b:Nat) (c v:Nat):Option (Nat × Nat):=match Xqq c b with|true=>none|false=>some (c,v)
inductive Fz (b:Nat) (B:bg):AV→AV→Prop
 |ren {x:AV}:Fz b B x (ren (yj b) x)
 |ref {i n:Nat}:Fz b B (.ref b B.ver i n) (.sl ((B.cells.drop (i*B.esz)).take (n*B.esz)) n true)
 |fit {x y z:AV}:Fz b B x y→aS y z→Fz b B x z
inductive FzL (b:Nat) (B:bg):List AV→List AV→Prop
 |nil:FzL b B [] []
 |cons {x y:AV} {l r:List AV}:Fz b B x y→FzL b B l r→FzL b B (x::l) (y::r)
theorem Fz.same {b:Nat} {B:bg} {x:AV} (h:AM.ren (yj b) x=x):Fz b B x x:=by
 have:=Fz.ren (b:=b) (B:=B) (x:=x);rwa [h] at this
theorem Fz.dead {b:Nat} {B:bg} (x:AV):Fz b B x .dead:= .fit .ren (aS.dead _)
theorem FzL.length {b:Nat} {B:bg} {l r:List AV} (h:FzL b B l r):l.length=r.length:=by
 induction h with
 |nil=>rfl
 |cons _ _ ih=>simp [ih]
structure JK (b:Nat) (B:bg) (C C':bg):Prop where
 ver:C'.ver=C.ver
 fro:C'.fro=C.fro
 fz:C'.fz=C.fz
 esz:C'.esz=C.esz
 body:(C.pr=true∧C'.cells=C.cells∧C'.pr=true)∨(FzL b B C.cells C'.cells∧(C'.pr=true→(bQ C'.cells).isEmpty=true))
theorem JK.same {b:Nat} {B C:bg} (hp:C.pr=true):JK b B C C:=⟨rfl,rfl,rfl,rfl,.inl ⟨hp,rfl,hp⟩⟩
theorem JK.length {b:Nat} {B C C':bg} (h:JK b B C C'):C.cells.length=C'.cells.length:=by
 rcases h.body with ⟨_,e,_⟩|⟨e,_⟩
 ·rw [e]
 ·exact e.length
section
variable {P:Program} {ap:AP} {g:dG} {m:aZ} {S:aT} {w:World}
def ny (b:Nat) (B:bg):dG:=fun c=>match Xqq c b with|true=>some B|false=>none
theorem r_ {b c:Nat} {B C:bg} (h:ny b B c=some C):c=b∧C=B:=by
 unfold ny at h;split at h
 ·rename_i a;cases h;exact ⟨aJ a,rfl⟩
 ·cases h
theorem OH (b:Nat) (B:bg):ny b B b=some B:=by unfold ny;rw [Nat.beq_refl]
theorem Fz.sound {b:Nat} {B:bg} (j:bU ap g m S w) (o:g b=some B) (f:B.pr=true) {g':dG} (k:sO g m g' m (yj b)) {x y:AV} (h:Fz b B x y):∀ {v:Value},VR g m S x v→VR g' m (dL S m (ny b B) w) y v:=by
 have e:∀ c C,ny b B c=some C→g c=some C:=by
  intro c C l;obtain ⟨rfl,rfl⟩:=r_ l;exact o
 induction h with
 |ren=>intro v a;exact zt (nP S m (ny b B) w) k _ a
 | @ref i n=>
  intro v a;have d:frz (ny b B) 6 (.ref b B.ver i n)=some (.sl ((B.cells.drop (i*B.esz)).take (n*B.esz)) n true):=by
   simp [frz,OH,f]
  exact iD _ (lK j e 6 _ _ _ d a)
 |fit _ d ih=>intro v a;exact d _ _ _ _ (ih a)
theorem FzL.sound {b:Nat} {B:bg} (d:bU ap g m S w) (f:g b=some B) (c:B.pr=true) {g':dG} (e:sO g m g' m (yj b)) {l r:List AV} (h:FzL b B l r):∀ {vs:List Value},bi g m S l vs→bi g' m (dL S m (ny b B) w) r vs:=by
 induction h with
 |nil=>intro vs a;cases vs with|nil=>simp [bi]|cons _ _=>simp [bi] at a
 | cons hx _ ih=>
  intro vs a;cases vs with
  |nil=>simp [bi] at a
  |cons v vs=>
   simp only [bi] at a ⊢;exact ⟨hx.sound d f c e a.1,ih a.2⟩
theorem wB:∀ {l:List AV} {vs:List Value},(bQ l).isEmpty=true→bi g m S l vs→dY S l vs
 | [],[],_,_=>by simp [dY]
 |x::l,v::vs,h,hv=>by
  simp only [bQ,Xv5,List.append_eq_nil_iff] at h;rw [← Xv5,← Xv5] at h;simp only [bi] at hv;simp only [dY];exact ⟨nD h.1 hv.1,wB h.2 hv.2⟩
 | [],_::_,_,hv=>by simp [bi] at hv
 |_::_,[],_,hv=>by simp [bi] at hv
theorem Gt {g g':dG} {m e:aZ} {S S':aT} {ρ:Nat→Nat→Option (Nat × Nat)} (c:oQ S S') (b:sO g m g' e ρ):∀ {l:List (Nat × List AV)} {ds:List Deferred},h_ g m S l ds→h_ g' e S' (l.map fun d=>(d.1,mZ ρ d.2)) ds
 | [],[],_=>by simp only [List.map_nil,h_]
 |d::r,cd::cr,h=>by
  simp only [h_] at h;simp only [Xqh,h_];obtain ⟨⟨a,f,j⟩,i⟩:=h;exact ⟨⟨a,f,kP c b _ j⟩,Gt c b i⟩
 | [],_::_,h=>by simp [h_] at h
 |_::_,[],h=>by simp [h_] at h
theorem VI {y:List bg} {nt:Nat} {r i:St} {m0 h:aZ} {S0 S':aT} {w0 w':World} {Q:Act} (b:Nat) (B:bg) (hb0:y.length≤b) (E:aA r.hp b=some B) (G:B.pr=true)
  (hd:i.dfs=r.dfs.map fun d=>(d.1,mZ (yj b) d.2))
  (henv:∀ t,Fz b B (r.env.get t) (i.env.get t))
  (hdom:∀ c C',aA i.hp c=some C'→c ≠ b∧∃ C,aA r.hp c=some C∧JK b B C C')
  (hall:∀ c C,c ≠ b→aA r.hp c=some C→∃ C',aA i.hp c=some C')
  (h5:Fr (bH y) m0 S0 w0 (aA r.hp) h S' w') (h6:FR ap r.env r.hp r.dfs nt h S' w' Q):
  ∃ S2,Fr (bH y) m0 S0 w0 (aA i.hp) h S2 w'∧FR ap i.env i.hp i.dfs nt h S2 w' Q:=by
 have f:=h6.srel;have p:=nP S' h (ny b B) w';have hrd:∀ c C,ny b B c=some C→aA r.hp c=some C:=by
  intro c C j;obtain ⟨rfl,rfl⟩:=r_ j;exact E
 have l:sO (aA r.hp) h (aA i.hp) h (yj b):=by
  intro c ver M Z hρ C u s;unfold yj at hρ;split at hρ
  ·cases hρ
  ·rename_i N;cases hρ;have x:c ≠ b:=by intro e;subst e;simp at N
   obtain ⟨C',n⟩:=hall c C x u;obtain ⟨_,C2,q,a⟩:=hdom c C' n;rw [u] at q;cases q;exact ⟨C',n,by rw [a.ver];exact s,fun e=> ⟨by rw [← a.ver];exact e,rfl,a.esz⟩⟩
 have Y:bU ap (aA i.hp) h (dL S' h (ny b B) w') w':=by
  refine ⟨?_, ?_,fun k o v s=>pY f s, ?_, ?_⟩
  ·intro c M C C' j V hm;obtain ⟨_,D,hD,_⟩:=hdom c C j;obtain ⟨_,D',X,_⟩:=hdom M C' V;exact f.inj c M D D' hD X hm
  ·intro c C' j;obtain ⟨_,C,u,a⟩:=hdom c C' j;obtain ⟨⟨cur,ee,vs,rest,k1,k2,k3,k4,k5,k6⟩,hz,L⟩:=f.blk c C u;have A:(C'.pr=true→dY (dL S' h (ny b B) w') C'.cells vs)∧bi (aA i.hp) h (dL S' h (ny b B) w') C'.cells vs:=by
    rcases a.body with ⟨K,T,q3⟩|⟨K,T⟩
    ·have:=dm p _ (k3 K);rw [T];exact ⟨fun _=>this,bW _ this⟩
    ·have s:=K.sound f E G l k4;exact ⟨fun hp=>wB (T hp) s,s⟩
   exact ⟨⟨cur,ee,vs,rest,by rw [a.esz];exact k1,k2,A.1,A.2,by rw [a.esz];exact k5,fun hp=>by rw [a.esz] at hp ⊢;exact k6 hp⟩,fun hp=>by rw [a.fz];exact hz (by rw [← a.fro];exact hp),by rw [a.fz,← a.length];exact L⟩
  ·intro c C' j o v s;obtain ⟨x,C,u,a⟩:=hdom c C' j;rw [a.fro,a.fz];rcases fO s with F|⟨F,J,B',O,R,h4⟩
   ·exact f.own c C u o v F
   ·obtain ⟨rfl,rfl⟩:=r_ O;exact absurd (f.inj c J C B' u E R.symm) x
  ·intro k xs hk;obtain ⟨vs,k1,k2⟩:=f.glob k xs hk;exact ⟨vs,dm p _ k1,k2.mono p⟩
 have z:Fr (bH y) m0 S0 w0 (aA i.hp) h (dL S' h (ny b B) w') w':=by
  refine ⟨?_,oQ.trans h5.sle p,h5.os,h5.tape,h5.output,h5.size,h5.rest, ?_, ?_⟩
  ·intro c C j;have hlt:c<y.length:=(List.getElem?_eq_some_iff.1 j).1;obtain ⟨C1,I,e1,e2⟩:=h5.ge c C j;obtain ⟨C',n⟩:=hall c C1 (by omega) I;obtain ⟨_,C2,q,a⟩:=hdom c C' n;rw [I] at q;cases q;exact ⟨C',n,by rw [a.esz];exact e1,by rw [a.ver];exact e2⟩
  ·intro c C' j;obtain ⟨_,C,u,_⟩:=hdom c C' j;exact h5.img c C u
  ·intro k o v s;rcases fO s with F|⟨F,J,B',O,R,h4⟩
   ·exact h5.sealN k o v F
   ·obtain ⟨rfl,rfl⟩:=r_ O;rcases h5.img J B' E with U|⟨B0,U,_⟩
    ·exact .inr (.inl (R ▸ U))
    ·have:J<y.length:=(List.getElem?_eq_some_iff.1 U).1;omega
 have W:FR ap i.env i.hp i.dfs nt h (dL S' h (ny b B) w') w' Q:=by
  refine ⟨Y,fun t=>(henv t).sound f E G l (h6.env t), ?_,h6.size⟩;rw [hd];exact Gt p l h6.dfs
 exact ⟨_,z,W⟩
theorem ak.freeze {l:List bg} {nt:Nat} {f:Code} {s r i:St} {e:bG} (b:Nat) (B:bg) (h:ak P ap l nt f s e r) (D:∀ v,e ≠ .panic v) (o:l.length≤b) (E:aA r.hp b=some B) (p:B.pr=true)
  (hmd:i.md=r.md) (hd:i.dfs=r.dfs.map fun d=>(d.1,mZ (yj b) d.2))
  (henv:∀ t,Fz b B (r.env.get t) (i.env.get t))
  (hdom:∀ c C',aA i.hp c=some C'→c ≠ b∧∃ C,aA r.hp c=some C∧JK b B C C')
  (hall:∀ c C,c ≠ b→aA r.hp c=some C→∃ C',aA i.hp c=some C'):ak P ap l nt f s e i:=by
 intro hs;obtain ⟨u,x⟩:=h hs;refine ⟨hmd ▸ u,fun m0 S0 w0 m S w a k F Q A=>x m0 S0 w0 m S w a k F Q ?_⟩;intro G S' w' z y q;obtain ⟨S2,j,n⟩:=VI b B o E p hd henv hdom hall y q;have:=A G S2 w' z j n;cases e with
 |normal=>exact this
 |exit id=>exact this
 |ret=>exact this
 |panic v=>exact absurd rfl (D v)
def Vh (b:Nat) (B:bg):ja→(Nat→AV)→Prop
 | [],_=>True
 |(t,v)::r,f=>Fz b B (f t) v∧Vh b B r f
theorem uo {b:Nat} {B:bg} {f:Nat→AV}:∀ {e:ja},Vh b B e f→∀ t,Fz b B (f t) (e.get t)
 | [],_,t=>Fz.dead _
 | (u,v)::r,h,t=>by
  simp only [Vh] at h;simp only [ja.get,aA];cases a:Xqq u t with
  |true=>
   have:=aJ a;subst this;exact h.1
  |false=>exact uo h.2 t
def PY (b:Nat) (B:bg):Hp→Hp→Prop
 | [],l=>l= [(b,B)]
 |(c,C)::r,(d,D)::l=>c=d∧JK b B D C∧c ≠ b∧PY b B r l
 |_::_,[]=>False
theorem IU {b:Nat} {B:bg}:∀ {r l:Hp},PY b B r l→∀ c C',aA r c=some C'→c ≠ b∧∃ C,aA l c=some C∧JK b B C C'
 | [],l,_,c,C',hc=>by simp [aA] at hc
 | (d,D)::r,(d',D')::l,h,c,C',hc=>by
  simp only [PY] at h;obtain ⟨rfl,e,f,i⟩:=h;simp only [aA] at hc ⊢;cases a:Xqq d c with
  |true=>
   rw [a] at hc;have:=aJ a;subst this;cases hc;exact ⟨f,D',rfl,e⟩
  |false=>
   rw [a] at hc;exact IU i c C' hc
 |_::_,[],h,_,_,_=>by simp [PY] at h
theorem IR {b:Nat} {B:bg}:∀ {r l:Hp},PY b B r l→∀ c C,c ≠ b→aA l c=some C→∃ C',aA r c=some C'
 | [],l,h,c,C,hcb,hc=>by
  simp only [PY] at h;subst h;simp only [aA] at hc;split at hc
  ·rename_i a;exact absurd (aJ a).symm hcb
  ·cases hc
 |(d,D)::r,(d',D')::l,h,c,C,hcb,hc=>by
  simp only [PY] at h;obtain ⟨rfl,f,i,e⟩:=h;simp only [aA] at hc ⊢;cases a:Xqq d c with
  |true=>exact ⟨D,rfl⟩
  |false=>rw [a] at hc;exact IR e c C hcb hc
 |_::_,[],h,_,_,_,_=>by simp [PY] at h
theorem Ei {b:Nat} {B:bg}:∀ {r l:Hp},PY b B r l→aA l b=some B
 | [],l,h=>by
  simp only [PY] at h;subst h;simp [aA]
 |(d,D)::r,(d',D')::l,h=>by
  simp only [PY] at h;obtain ⟨rfl,f,c,e⟩:=h;simp only [aA];cases a:Xqq d b with
  |true=>exact absurd (aJ a) c
  |false=>exact Ei e
 |_::_,[],h=>by simp [PY] at h
theorem ak.forget {f:List bg} {nt:Nat} {a:Code} {s:St} {e:bG} (b:Nat) (B:bg) {i en':ja} {hp hp':Hp} {md:AV} (h:ak P ap f nt a s e {env:=i,hp,md,dfs:= []}) (j:∀ v,e ≠ .panic v) (c:f.length≤b) (d:B.pr=true)
  (henv:Vh b B en' (ja.get i)) (hhp:PY b B hp' hp):ak P ap f nt a s e {env:=en',hp:=hp',md,dfs:= []}:=
 h.freeze b B j c (Ei hhp) d rfl rfl (uo henv) (IU hhp) (IR hhp)
theorem ak.forgetD {i:List bg} {nt:Nat} {a:Code} {s:St} {e:bG} (b:Nat) (B:bg) {j en':ja} {hp hp':Hp} {md:AV} {dfs:List (Nat × List AV)} (h:ak P ap i nt a s e {env:=j,hp,md,dfs}) (k:∀ v,e ≠ .panic v) (c:i.length≤b) (f:B.pr=true)
  (henv:Vh b B en' (ja.get j)) (hhp:PY b B hp' hp) (hd:dfs.map (fun d=>(d.1,mZ (yj b) d.2))=dfs):ak P ap i nt a s e {env:=en',hp:=hp',md,dfs}:=
 h.freeze b B k c (Ei hhp) f rfl hd.symm (uo henv) (IU hhp) (IR hhp)
end
end AM
namespace AM
open Go
inductive Dk:List LK→List Value→Prop
 |nil:Dk [] []
 |int {k:IntKind} {n:Int} {r:List LK} {l:List Value}:Dk r l→Dk (.int k::r) (.int k n::l)
 |bool {b:Bool} {r:List LK} {l:List Value}:Dk r l→Dk (.bool::r) (.bool b::l)
 |str {s:ByteArray} {r:List LK} {l:List Value}:Dk r l→Dk (.str::r) (.string s::l)
section
variable {H:Type} {enc:TypeId × Value→H} {P:Program} {w:World} {base:Nat} {spare:Nat→Bool} {held:Bool}
end
end AM
namespace AM
open Go
def xQ:Nat→Nat→List Bool
 |0,_=> []
 |n+1,k=>Xqq (k % 2) 1::xQ n (k / 2)
def XY:Nat→List Bool→List Bool
 |0,l=>l
 |n+1,l=>true::XY n l
theorem l_.n (k:Nat) {l:List Bool} (h:l_ l):l_ (XY k l):=by
 induction k with
 |zero=>exact h
 |succ k ih=>exact .t ih
theorem l_.k (k:Nat) {b:Bool} {l:List Bool} (a:b=true) (h:l_ l):l_ (XY k (b::l)):= .n k (.c a h)
theorem tf (b:Bool):b=true∨b=false:=by cases b<;>simp
theorem aK {b:Bool} (h:b=true):lit true b=true:=h
theorem aN {b:Bool} (h:b=false):lit false b=true:=by subst h;rfl
theorem dW {b:Bool} (h:b=false):lit true (!b)=true:=by subst h;rfl
theorem aU {b:Bool} (h:b=true):lit false (!b)=true:=by subst h;rfl
inductive PS (P:Program) (ap:AP):List Prop→List (kJ × List bg)→xK→List vW→Prop where
 |nil:PS P ap [] [] [] []
 |c {f:Nat} {args:List AV} {h h':List bg} {out:kJ} {ps:List Prop} {ans:List (kJ × List bg)} {lps:xK} {hs:List vW}:bD P ap f args h out h'→PS P ap ps ans lps hs→PS P ap (bD P ap f args h out h'::ps) (ans++ [(out,h')]) lps hs
 |l {h0:List bg} {n:Nat} {code:Code} {s s':St} {e:bG} {ps:List Prop} {ans:List (kJ × List bg)} {lps:xK} {hs:List vW}:aG P ap h0 n code s e s'→PS P ap ps ans lps hs→PS P ap (aG P ap h0 n code s e s'::ps) ans (lps++ [(e,s')]) hs
 |v (d:Nat) {x y:AV} {ps:List Prop} {ans:List (kJ × List bg)} {lps:xK} {hs:List vW}:aS x y→PS P ap ps ans lps hs→PS P ap (aS x y::ps) ans lps (hs++ [.v d y])
 |b (d:Nat) {x y:List AV} {ps:List Prop} {ans:List (kJ × List bg)} {lps:xK} {hs:List vW}:x=y→PS P ap ps ans lps hs→PS P ap ((x=y)::ps) ans lps (hs++ [.b d y])
 |u (d:Nat) {x y:List (Option bg)} {ps:List Prop} {ans:List (kJ × List bg)} {lps:xK} {hs:List vW}:x=y→PS P ap ps ans lps hs→PS P ap ((x=y)::ps) ans lps (hs++ [.u d])
theorem PS.all {P:Program} {ap:AP} {ps:List Prop} {ans:List (kJ × List bg)} {a:xK} {hs:List vW} (h:PS P ap ps ans a hs):MZ ps:=by
 induction h with
 |nil=>exact .nil
 |c h _ ih=>exact .cons h ih
 |l h _ ih=>exact .cons h ih
 |v _ h _ ih=>exact .cons h ih
 |b _ h _ ih=>exact .cons h ih
 |u _ h _ ih=>exact .cons h ih
theorem ck {P:Program} {ap:AP} (g:Gu P ap) {ans:List (kJ × List bg)} {ps:List Prop} {f:Nat} {args:List AV} {h a:List bg} {out:kJ} (hp:PS P ap ps ans [] [])
  (he:tN ap (yP P ap 3000 4) 3000 .dead f args h ⟨true,[],[],[],ans,[]⟩= .ok (out,a,.dead) ⟨true,[],[],ps,[],[]⟩):bD P ap f args h out a:=GR g hp.all he
theorem pk {P:Program} {ap:AP} (g:Gu P ap) (ls:List Nat) (n k:Nat) {ans:List (kJ × List bg)} {a:xK} {hs:List vW} {bs:List Bool} {ps:List Prop} {f:Nat} {args:List AV} {h b:List bg} {out:kJ}
  (hb:l_ bs) (hp:PS P ap ps ans a hs) (he:Py P ap (yP P ap 3000 4) 3000 ls f args h a ⟨false,xQ n k,[],[],ans,hs⟩= .ok (out,b,.dead) ⟨false,[],bs,ps,[],[]⟩):bD P ap f args h out b:=by
 obtain ⟨c,d⟩:=oK g.apok g.mixed g.fnok 3000 4;exact UI g.apok g.mixed g.fnok c d he ⟨hb.mem,hp.all.mem⟩
def IZ (ap:AP) (f:Nat):List Nat:=match ap.fnAt f with|some F=>F.keep|none=> []
def Qs (env:ja):R ((bG × St) × xK)→R ((bG × St) × xK)
 | .ok ((e,s),l) c=> .ok ((e,⟨env.map fun q=>(q.1,s.env.get q.1),s.hp,s.md,s.dfs⟩),l) c
 |r=>r
def OC (P:Program) (ap:AP) (h0:List bg) (f nt0:Nat) (ls:List Nat) (code:Code) (s:St) (lps:xK) (orc:List Bool) (ans:List (kJ × List bg)) (hs:List vW) (env:ja):R ((bG × St) × xK):=
 match dM nt0 code with
 |true=>Qs env (mi P ap (yP P ap 3000 4) h0 (IZ ap f) 3000 nt0 ls code s lps ⟨false,orc,[],[],ans,hs⟩)
 |false=> .bad 0
theorem VM (env a:ja):∀ t,ja.get (env.map fun q=>(q.1,a.get q.1)) t=a.get t∨ja.get (env.map fun q=>(q.1,a.get q.1)) t= .dead:=by
 intro t
 induction env with
 |nil=>exact .inr rfl
 | cons q r ih=>
  cases b:Xqq q.1 t with
  |true=>
   left;have:=Xjl b;subst this;simp only [ja.get,Xqh,aA,b,Option.getD_some]
  | false=>
   have e:ja.get (Xw4 (fun q=>(q.1,a.get q.1)) (q::r)) t=ja.get (Xw4 (fun q=>(q.1,a.get q.1)) r) t:=by
    simp only [ja.get,Xqh,aA,b]
   rw [e];exact ih
theorem pj {P:Program} {ap:AP} (g:Gu P ap) (f:Nat) (ls:List Nat) (n k:Nat) {nt b:Nat} {ans:List (kJ × List bg)} {d:xK} {hs:List vW} {bs:List Bool} {ps:List Prop} {a:Code} {s s':St} {h:List bg} {e:bG}
  (hb:l_ bs) (hp:PS P ap ps ans d hs) (hn:b≤nt) (he:OC P ap h f b ls a s d (xQ n k) ans hs s'.env= .ok ((e,s'),[]) ⟨false,[],bs,ps,[],[]⟩):ak P ap h nt a s e s':=by
 unfold OC at he;split at he
 ·rename_i hd;generalize o:mi P ap (yP P ap 3000 4) h (IZ ap f) 3000 b ls a s d ⟨false,xQ n k,[],[],ans,hs⟩=r at he;cases r with
  |ok q c=>
   obtain ⟨⟨p,t⟩,v⟩:=q;simp only [Qs,R.ok.injEq,Prod.mk.injEq] at he;obtain ⟨⟨⟨rfl,i⟩,rfl⟩,rfl⟩:=he;obtain ⟨l,u⟩:=oK g.apok g.mixed g.fnok 3000 4;have j:ak P ap h nt a s p t:=(uj g.apok g.mixed l hn a (eH hn a hd) _ _ _ _ _ o ⟨hb.mem,hp.all.mem⟩).2;refine j.weak (aH.refl _) ?_;rw [← i];exact ⟨VM _ _,rfl,rfl,rfl⟩
  |need=>simp [Qs] at he
  |bad n=>simp [Qs] at he
 ·cases he
theorem aS.pp {f d:List AV} {a:Nat} (h:ε a f=d):aS (.pp f a) (.pp d 0):=by
 subst h;intro g m S v c;simp only [VR,PR] at c ⊢;obtain ⟨b,o,vs,rfl,hp,hs⟩:=c;refine ⟨b,o+a,vs.drop a,rfl,qy a hp,fun j u e=> ?_⟩;rw [List.getElem?_drop] at e;have:=hs (a+j) u e;rwa [← Nat.add_assoc] at this
theorem aS.ppt {e c f:List AV} {a:Nat} (h:ε a e=c++f):aS (.pp e a) (.pp c 0):=by
 intro g m S v i;have:=aS.pp h g m S v i;simp only [VR,PR] at this ⊢;obtain ⟨b,o,vs,rfl,hp,hs⟩:=this;refine ⟨b,o,vs.take c.length,rfl, ?_,fun j u d=> ?_⟩
 ·have:=kK c.length hp;rwa [List.take_left'] at this;rfl
 ·rw [List.getElem?_take] at d;split at d
  ·exact hs j u d
  ·cases d
theorem aS.eq {x y:AV} (h:x=y):aS x y:=h ▸ fun _ _ _ _ a=>a
theorem aS.rd (ks:List LK) {c b d:List AV} {a:Nat} (h:ε a c=b++d) (e:LQ true ks (b++d)=b):aS (.agg (uI true ks c a)) (.agg b):= .eq (by unfold uI;rw [h,e])
theorem l_.a {l r:List Bool} (h:l_ l) (a:l_ r):l_ (l++r):=by
 induction h with
 |nil=>exact a
 |t _ ih=>exact .t ih
 |c hb _ ih=>exact .c hb ih
theorem l_.of {l:List Bool} (h:l.all id=true):l_ l:=by
 induction l with
 |nil=>exact .nil
 |cons b r ih=>
  simp only [List.all_cons,id,π] at h;exact .c h.1 (ih h.2)
theorem jy (ks:List LK) {c b d:List AV} {a:Nat} (h:ε a c=b++d) (e:(UL true ks (b++d)).all id=true):l_ (Ir true ks c a):=by
 unfold Ir;rw [h];exact .of e
inductive X7:List AV→List AV→Prop where
 |nil:X7 [] []
 |same {x:AV} {l r:List AV}:X7 l r→X7 (x::l) (x::r)
 |nilS {l r:List AV}:X7 l r→X7 (.nilS::l) (.sl [] 0 false::r)
 |sl {xs:List AV} {n:Nat} {a:Bool} {l r:List AV}:X7 l r→X7 (.sl xs n a::l) (.sl xs n false::r)
theorem X7.prl {S:aT} {l r:List AV} (h:X7 l r):∀ {vs:List Value},dY S l vs→dY S r vs:=by
 induction h with
 |nil=>exact fun h=>h
 |same _ ih=>intro vs b;cases vs with|nil=>simp [dY] at b|cons v vs=>simp only [dY] at b ⊢;exact ⟨b.1,ih b.2⟩
 | nilS _ ih=>
  intro vs b;cases vs with
  |nil=>simp [dY] at b
  |cons v vs=>
   simp only [dY,PR] at b ⊢;exact ⟨⟨none,0,b.1,Δ _,.inl (by simp)⟩,ih b.2⟩
 | @sl xs n a _ _ _ ih=>
  intro vs b;cases vs with
  |nil=>simp [dY] at b
  |cons v vs=>
   have c:=b;simp only [dY] at c ⊢;refine ⟨?_,ih c.2⟩;have d:=aS.sl xs n a (fun _=>none) (fun _=>(0,0)) S v (by simp only [VR];exact c.1);simpa only [VR] using d
theorem aS.slP {i f:List AV} {n:Nat} {l:Bool} (j:X7 i f):aS (.sl i n l) (.sl f n l):=by
 intro g m S v k;simp only [VR,PR] at k ⊢;obtain ⟨a,d,rfl,q,h⟩:=k;refine ⟨a,d,rfl,q, ?_⟩;rcases h with ⟨e,c,p,r⟩|⟨b,o,vs,s,e,c⟩
 ·subst c;cases j;exact .inl ⟨e,rfl,p,r⟩
 ·exact .inr ⟨b,o,vs,s,j.prl e,c⟩
end AM
namespace AM
open Go
variable {P:Program} {ap:AP}
theorem ak.norm {c:List bg} {nt:Nat} {b:Code} {s i:St} {e:bG} (keep:List Nat) (o:∀ v,e= .panic v→(d_ v).isEmpty=true) (h:ak P ap c nt b s e i):ak P ap c nt b s e (AM.norm c.length keep i):=by
 intro hs;obtain ⟨q,j⟩:=h hs;refine ⟨q,fun m0 S0 w0 m S w a f t Q n=>j m0 S0 w0 m S w a f t Q ?_⟩;intro y S' w' x u p;obtain ⟨r,l,k⟩:=rX (keep:=keep) u p;have:=n r S' w' x l k;clear n l k j;generalize AM.norm c.length keep i=s2 at*
 cases e with
 |normal=>exact this
 |exit id=>exact this
 |ret=>exact this
 |panic v=>intro cv d;exact this cv (iD _ (nD (o v rfl) d))
def aiX:bG→Bool
 | .panic v=>(d_ v).isEmpty
 |_=>true
def Qn (base:Nat) (env:ja):R ((bG × St) × xK)→R ((bG × St) × xK)
 | .ok ((e,s),l) c=>match aiX e with
  |true=> .ok ((e,norm base (env.map fun q=>q.1) s),l) c
  |false=> .bad 1
 |r=>r
def OB (P:Program) (ap:AP) (h0:List bg) (f nt0:Nat) (ls:List Nat) (code:Code) (s:St) (lps:xK) (orc:List Bool) (ans:List (kJ × List bg)) (hs:List vW) (env:ja):R ((bG × St) × xK):=
 match dM nt0 code with
 |true=>Qn h0.length env (mi P ap (yP P ap 3000 4) h0 (IZ ap f) 3000 nt0 ls code s lps ⟨false,orc,[],[],ans,hs⟩)
 |false=> .bad 0
theorem pn (g:Gu P ap) (f:Nat) (ls:List Nat) (n k:Nat) {nt b:Nat} {ans:List (kJ × List bg)} {d:xK} {hs:List vW} {bs:List Bool} {ps:List Prop} {a:Code} {s s':St} {i:List bg} {e:bG}
  (hb:l_ bs) (hp:PS P ap ps ans d hs) (hn:b≤nt) (he:OB P ap i f b ls a s d (xQ n k) ans hs s'.env= .ok ((e,s'),[]) ⟨false,[],bs,ps,[],[]⟩):ak P ap i nt a s e s':=by
 unfold OB at he;split at he
 ·rename_i hd;generalize u:mi P ap (yP P ap 3000 4) i (IZ ap f) 3000 b ls a s d ⟨false,xQ n k,[],[],ans,hs⟩=r at he;cases r with
  | ok q c=>
   obtain ⟨⟨t,x⟩,z⟩:=q;simp only [Qn] at he;split at he
   ·rename_i h;simp only [R.ok.injEq,Prod.mk.injEq] at he;obtain ⟨⟨⟨rfl,j⟩,rfl⟩,rfl⟩:=he;obtain ⟨p,y⟩:=oK g.apok g.mixed g.fnok 3000 4;have l:ak P ap i nt a s t x:=(uj g.apok g.mixed p hn a (eH hn a hd) _ _ _ _ _ u ⟨hb.mem,hp.all.mem⟩).2;have:=l.norm (s'.env.map fun q=>q.1) (fun v o=>by subst o;exact h);rwa [j] at this
   ·cases he
  |need=>simp [Qn] at he
  |bad n=>simp [Qn] at he
 ·cases he
end AM
namespace AM
open Go Go.WideShapes Go.ChangeShapes
theorem Gy {a:Addr} (h:a.spot=none) (n:Nat):a.add n=⟨a.block,a.off+n,none⟩:=by
 unfold Addr.add;obtain ⟨b,o,s⟩:=a;simp only at h;subst h;split
 ·rename_i c;subst c;rfl
 ·rfl
section
variable {H:Type} {enc:TypeId × Value→H} {P:Program} {w:World} {base:Nat} {spare:Nat→Bool} {held:Bool}
end
end AM
namespace AM
open Go
inductive HpS (b:Nat) (B:bg):Hp→Hp→Prop
 |nil:HpS b B [] []
 |cons {c:Nat} {C D:bg} {r l:Hp}:JK b B D C→c ≠ b→HpS b B r l→HpS b B ((c,C)::r) ((c,D)::l)
inductive HpY (b:Nat) (B:bg):Hp→Hp→Prop
 |here {r l:Hp}:HpS b B r l→HpY b B r ((b,B)::l)
 |step {c:Nat} {C D:bg} {r l:Hp}:JK b B D C→c ≠ b→HpY b B r l→HpY b B ((c,C)::r) ((c,D)::l)
section
variable {P:Program} {ap:AP}
end
end AM
namespace AM
open Go
section
variable {P:Program} {ap:AP} {H:di}
inductive Uw (P:Program) (ap:AP) (H:di) (n:Nat) (ops:List Oper) (o:Oper) (b d:Nat) (rt:List Nat) (env:ja) (v:AV):List bg→Prop where
 |nil:Uw P ap H n ops o b d rt env v []
 | cons {B:bg} {r:List bg} {c2 c3:Cx} {t:RS}:QT ap H n ops o {env,hp:= [(b,B)],md:= .dead,dfs:= [],dec:= [],feet:= []} c2= .ok (t,none) c3→c3.Ok→t.feet= [{rt:=rt,wt:= [d],rb:= [b],wb:= []}]→t.dfs= []→t.env.get d=v→
   Uw P ap H n ops o b d rt env v r→Uw P ap H n ops o b d rt env v (B::r)
end
end AM
namespace AM
open Go Go.WideShapes Go.ChangeShapes
section
variable {H:Type} {enc:TypeId × Value→H} {P:Program} {w:World} {base:Nat} {spare:Nat→Bool} {held:Bool}
theorem MB {u e:TypeId} (b:P.underlying u=some (.slice e)) {base':Nat} {v:Value} (h:Value.okWide P w .any base' u v):v.cells.toList= [v]:=by
 obtain ⟨a,l,c,rfl⟩:=okWide_slice b h;rfl
end
end AM
namespace AM
open Go Go.WideShapes Go.ChangeShapes
inductive DK where
 |int (k:IntKind)
 |bool
 |str
 |slc (l:List DK)
def DV (P:Program) (f:TypeId→Option (List DK)):List Field→Nat→Option (List DK)
 | [],_=>some []
 | x::r,off=>match f x.type with
  | some l=>match Xqq x.offset off && Xqq (P.cellsOf x.type) l.length with
   |true=>match DV P f r (off+l.length) with
    |some q=>some (l++q)
    |none=>none
   |false=>none
  |none=>none
def DW (P:Program):Nat→TypeId→Option (List DK)
 |0,_=>none
 | n+1,t=>match P.underlying t with
  |some (.int k)=>some [.int k]
  |some .bool=>some [.bool]
  |some .string=>some [.str]
  |some (.struct fs)=>match DV P (DW P n) fs.toList 0 with
   |some l=>match Xqq (P.cellsOf t) l.length with|true=>some l|false=>none
   |none=>none
  |some (.slice e)=>match DW P n e with
   |some l=>match Xqq (P.cellsOf e) l.length && Nat.ble 1 l.length with|true=>some [.slc l]|false=>none
   |none=>none
  |_=>none
inductive fU (b:Nat):List DK→List AV→Prop
 |nil:fU b [] []
 |int {k:IntKind} {n:Int} {r:List DK} {l:List AV}:fU b r l→fU b (.int k::r) (.int k n::l)
 |bool {x:Bool} {r:List DK} {l:List AV}:fU b r l→fU b (.bool::r) (.bool x::l)
 |str {s:List UInt8} {r:List DK} {l:List AV}:s.length≤b→fU b r l→fU b (.str::r) (.str s::l)
 |slc {ks:List DK} {L:List (List AV)} {r:List DK} {l:List AV}:(∀ x ∈ L,fU b ks x)→L.length≤b→fU b r l→fU b (.slc ks::r) (.sl L.flatten L.length false::l)
theorem fU.mono {b c:Nat} (h:b≤c) {ks:List DK} {a:List AV} (hd:fU b ks a):fU c ks a:=by
 induction hd with
 |nil=>exact .nil
 |int _ ih=>exact .int ih
 |bool _ ih=>exact .bool ih
 |str hs _ ih=>exact .str (Xq1 hs h) ih
 |slc _ hl _ ihx ih=>exact .slc ihx (Xq1 hl h) ih
theorem fU.app {b:Nat} {k1 k2:List DK} {c a:List AV} (h:fU b k1 c) (d:fU b k2 a):fU b (k1++k2) (c++a):=by
 induction h with
 |nil=>exact d
 |int _ ih=>exact .int ih
 |bool _ ih=>exact .bool ih
 |str hs _ ih=>exact .str hs ih
 |slc hx hl _ _ ih=>exact .slc hx hl ih
structure agx {H:Type} (bk:DataW H→Nat):Prop where
 str:∀ s:List UInt8,s.length≤bk (.lit (.string s))
 agg:∀ l:List (DataW H),∀ d ∈ l,bk d≤bk (.agg l)
 slc:∀ l r:List (DataW H),(∀ d ∈ l,bk d≤bk (.slice l r))∧l.length≤bk (.slice l r)
section
variable {H:Type} {enc:TypeId × Value→H} {P:Program} {w:World} {base:Nat} {spare:Nat→Bool} {held:Bool} {bk:DataW H→Nat}
theorem Bf {n B:Nat} {f:TypeId→Option (List DK)} (c:∀ t ks,f t=some ks→∀ (fuel:Nat) (cs:List Value) (x:DataW H × List MemPlace),DataW.trod enc P w base spare held fuel t cs=some x→∃ xs,fU (bk x.1) ks xs∧dY (jq w) xs cs∧∀ u ∈ cs,u.oneCell'=true) {cs:List Value}:∀ (r:List Field) (off:Nat) (ks:List DK),DV P f r off=some ks→
  (∀ (i:Nat) (x:Field),r[i]? =some x→∃ y,DataW.trod enc P w base spare held n x.type ((cs.drop x.offset).take (P.cellsOf x.type))=some y∧bk y.1≤B)→∃ xs,fU B ks xs∧dY (jq w) xs ((cs.drop off).take ks.length)∧∀ u ∈ (cs.drop off).take ks.length,u.oneCell'=true
 | [],off,ks,h,_=>by
  simp only [DV] at h;cases h;exact ⟨[],.nil,by simp [dY],by simp⟩
 | x ::r,off,ks,h,hx=>by
  simp only [DV] at h;split at h
  ·rename_i l v;split at h
   ·rename_i b;simp only [π] at b;have F:=Xjl b.1;have D:=Xjl b.2;split at h
    ·rename_i q C;cases h;obtain ⟨y,p,j⟩:=hx 0 x rfl;obtain ⟨E,o,d,e⟩:=c _ _ v _ _ _ p;rw [F,D] at d e;obtain ⟨z,G,A,k⟩:=Bf c r (off+l.length) q C (fun i f s=>hx (i+1) f (by simpa using s));refine ⟨E++z,(o.mono j).app G, ?_, ?_⟩
     ·rw [θ,Yq9,Xjm];exact lH d A
     ·rw [θ,Yq9,Xjm];intro u a;rcases List.mem_append.1 a with a|a
      ·exact e u a
      ·exact k u a
    ·cases h
   ·cases h
  ·cases h
theorem AZ {S:aT}:∀ {L:List (List AV)} {M:List (List Value)},L.length=M.length→(∀ (i:Nat) (x:List AV) (m:List Value),L[i]? =some x→M[i]? =some m→dY S x m)→dY S L.flatten M.flatten
 | [],[],_,_=>by simp [dY]
 |x::L,m::M,h,hp=>by
  rw [Xjx,Xjx];exact lH (hp 0 x m rfl rfl) (AZ (by simpa using h) fun i a c b d=>hp (i+1) a c (by simpa using b) (by simpa using d))
 | [],_::_,h,_=>by simp at h
 |_::_,[],h,_=>by simp at h
theorem GV (hk:agx bk) (hsp:∀ b,spare b=true):∀ (n:Nat) (t:TypeId) (ks:List DK),DW P n t=some ks→∀ (C:Nat) (cs:List Value) (x:DataW H × List MemPlace),DataW.trod enc P w base spare held C t cs=some x→
  ∃ Q,fU (bk x.1) ks Q∧dY (jq w) Q cs∧∀ u ∈ cs,u.oneCell'=true:=by
 intro n
 induction n with
 |zero=>intro t ks h;simp [DW] at h
 | succ n ih=>
  intro t ks h C cs x v;simp only [DW] at h;split at h
  ·rename_i k A;cases h;obtain ⟨m,rfl,_⟩:=DataW.trod_int A v;exact ⟨[.int k m],.int .nil,by simp [dY,PR],by simp [Value.oneCell']⟩
  ·rename_i A;cases h;obtain ⟨b,rfl,_⟩:=DataW.trod_bool A v;exact ⟨[.bool b],.bool .nil,by simp [dY,PR],by simp [Value.oneCell']⟩
  ·rename_i A;cases h;obtain ⟨s,rfl,rfl,_⟩:=DataW.trod_string A v;exact ⟨[.str s.data.toList],.str (hk.str _) .nil,by simp [dY,PR],by simp [Value.oneCell']⟩
  ·rename_i fs A;split at h
   ·rename_i l hl;split at h
    ·rename_i X;cases h;obtain ⟨Q,m,rfl,rfl,D,hxl,F⟩:=DataW.trod_struct A v;have e:=Xjl X;obtain ⟨ys,d1,Z,V⟩:=Bf (n:=m) (B:=bk (.agg (Q.map (·.1)))) ih (cs:=cs) fs.toList 0 ks hl (fun i f hf=>by
      have W:fs[i]? =some f:=by simpa using hf
      have N:=F i f W;have p:i<Q.length:=by rw [hxl];exact (Array.getElem?_eq_some_iff.1 W).1
      rw [ξ p] at N;exact ⟨_,N,hk.agg _ _ (List.mem_map.2 ⟨_,Xxb p,rfl⟩)⟩)
     rw [List.drop_zero,List.take_of_length_le (by omega)] at Z V;exact ⟨ys,d1,Z,V⟩
    ·cases h
   ·cases h
  ·rename_i e A;split at h
   ·rename_i l hl;split at h
    ·rename_i X;cases h;simp only [π] at X;have hce:=Xjl X.1;have hpos:=Nat.le_of_ble_eq_true X.2;rcases DataW.trod_slice A v with ⟨rfl,rfl⟩|⟨a,y,J,elems,rest,m,_,rfl,rfl,_,hlc,hm,D,T,hre,_⟩
     ·refine ⟨[.sl [] 0 false],.slc (L:= []) (by simp) (by simp) .nil, ?_,by simp [Value.oneCell']⟩;simp only [dY,PR,and_true];exact ⟨none,0,rfl,Δ _,.inl ⟨fun _=>trivial,trivial,trivial,rfl⟩⟩
     ·obtain ⟨b1,b2⟩:=hk.slc (elems.map (·.1)) (rest.map (·.1));generalize hB:bk (.slice (elems.map (·.1)) (rest.map (·.1)))=B at b1 b2;have hspot:0<J→a.spot=none:=by
       intro hc;have key:∃ c,w.cells? base (a.add 0) (P.cellsOf e)=some c:=by
        rcases Θ y with Y|Y
        ·obtain ⟨r1,r2⟩:=hre (hsp _);have E:=r2 0 (by omega);rw [ξ (by omega)] at E;obtain ⟨c,z,_⟩:=Option.bind_eq_some_iff.1 E;rw [Y,Xq0,Xwb] at z;exact ⟨c,z⟩
        ·have E:=T 0 Y;rw [ξ (by omega)] at E;obtain ⟨c,z,_⟩:=Option.bind_eq_some_iff.1 E;rw [Xwb] at z;exact ⟨c,z⟩
       obtain ⟨c,z⟩:=key;obtain ⟨_,h9,G⟩:=World.cells?_some z;have r:=G 0 (by omega);have ez:(a.add 0).add 0=a:=by simp [Addr.add]
       rw [ez] at r;have p:0<c.length:=by omega
       rw [ξ p] at r;exact World.cell?_spot r
      have key:∀ q,q≤y→∃ (L:List (List AV)) (M:List (List Value)),L.length=q∧M.length=q∧(∀ x ∈ L,fU B l x)∧(∀ (i:Nat) (x:List AV) (m:List Value),L[i]? =some x→M[i]? =some m→dY (jq w) x m)∧M.flatten.length=q*l.length∧(∀ u ∈ M.flatten,u.oneCell'=true)∧∀ j u,M.flatten[j]? =some u→jq w a.block (a.off+j)=some u:=by
       intro q
       induction q with
       |zero=>intro _;exact ⟨[],[],rfl,rfl,by simp,by simp,by simp,by simp,by simp⟩
       | succ q ihq=>
        intro hq;obtain ⟨L,M,U,R,N,I,h3,K,h4⟩:=ihq (by omega);have E:=T q (by omega);rw [ξ (by omega)] at E;obtain ⟨c,z,h7⟩:=Option.bind_eq_some_iff.1 E;obtain ⟨ys,d1,Z,V⟩:=ih e l hl _ _ _ h7;obtain ⟨_,h9,G⟩:=World.cells?_some z;have hs:=hspot (by omega);have d2:fU B l ys:=d1.mono (b1 _ (List.mem_map.2 ⟨_,Xxb _,rfl⟩));refine ⟨L++ [ys],M++ [c],by simp [U],by simp [R], ?_, ?_, ?_, ?_, ?_⟩
        ·intro x v;rcases List.mem_append.1 v with v|v
         ·exact N x v
         ·simp at v;subst v;exact d2
        ·intro i x m F d;rw [Xkh] at F d;split at F
         ·rename_i p;rw [if_pos (by omega)] at d;exact I i x m F d
         ·rename_i p;rw [if_neg (by omega)] at d;have e0:i - L.length=0:=by
           have:=(List.getElem?_eq_some_iff.1 F).1;simp at this;omega
          have e1:i - M.length=0:=by omega
          rw [e0] at F;rw [e1] at d;cases F;cases d;exact Z
        ·rw [Xzo,θ,h3];simp only [Xjx,Xk8,Γ];rw [Nat.succ_mul];omega
        ·intro u O;rw [Xzo] at O;rcases List.mem_append.1 O with O|O
         ·exact K u O
         ·exact V u (by simpa using O)
        ·intro j u d;rw [Xzo,Xkh] at d;split at d
         ·exact h4 j u d
         ·rename_i hjl;simp only [Xjx,Xk8,Γ] at d;have h11:=(List.getElem?_eq_some_iff.1 d).1;have r:=G (j - M.flatten.length) (by omega);rw [d,Gy hs,Gy rfl] at r;refine Ic ?_ (V u (Xqj d));rw [← r,h3,hce];congr 2;have:q*l.length≤j:=by rw [← h3];omega
          simp only;omega
      obtain ⟨L,M,U,R,N,I,h3,K,h4⟩:=key y (Δ _);have hlB:L.length≤B:=by rw [U,← D];simpa using b2
      refine ⟨[.sl L.flatten L.length false],.slc N hlB .nil, ?_,by simp [Value.oneCell']⟩;simp only [dY,PR,and_true];refine ⟨some a,J,by rw [U],by rw [U];exact hlc, ?_⟩;rcases Θ J with hc|hc
      ·have Y:y=0:=by omega
       have:L= []:=List.eq_nil_of_length_eq_zero (by omega);subst this;exact .inl ⟨fun _=>trivial,rfl,rfl,hc⟩
      ·refine .inr ⟨a.block,a.off,M.flatten, ?_,AZ (by omega) I,fun j u d=> ⟨h4 j u d,K u (Xqj d)⟩⟩;have hs:=hspot hc;obtain ⟨b,o,s⟩:=a;simp only at hs;subst hs;rfl
    ·cases h
   ·cases h
  ·cases h
end
abbrev ω (x:Int):AV:= .int .i64 x
abbrev Ω (b:Bool) (n d:List UInt8):AV:= .agg [.bool b,.str n,.str d]
theorem Yq0 {p:Prop} [Decidable p]:p→decide p=true:=decide_eq_true
theorem Yq1 {p:Prop} [Decidable p]:¬p→decide p=false:=decide_eq_false
theorem Yq2 {α:Type} [BEq α] [LawfulBEq α] {a b:α}:(a==b)=false↔a≠b:=beq_eq_false_iff_ne
end AM
