/- The abstract machine over the code of the model, and the proof that it is sound. No conditions. -/
import Derived.Test.YtcjindbblhcopaaGreatDoorM4
import Derived.ChangeArms
import Derived.WideShapes
import Derived.Deep.Strs
set_option linter.unusedSimpArgs false
set_option linter.unusedVariables false
open Nat renaming beq→Xqo,le_refl→Θ,add_zero→Xq5,lt_of_lt_of_le→Xqg,beq_refl→Xzy,eq_of_beq_eq_true→Xjl,zero_add→χ,le_trans→Xxm,eq_zero_or_pos→Xqb,zero_mul→Xzl
open List renaming map_cons→Xqf,append_nil→Γ,mem_of_getElem?→Xqr,isEmpty_iff→Xvu,map→Xjh,drop→ε,getElem?_drop→Xj0,getElem?_take→Xjp,length_append→θ,set_cons_succ→Xvd,take_set→Yq8,reverse_cons→Xj3,getElem?_eq_getElem→π,reverse_reverse→Xz5,take_add→Yq9,drop_drop→Xjy,flatten_cons→Xjw,getElem_mem→Xjr,getElem?_append→Xv8,flatten_append→Xzm,flatten_nil→Xk6
open Bool renaming and_eq_true→σ
namespace AM
open Go
structure aJ (s s':St):Prop where
 env:∀ t,s.env.get t=s'.env.get t∨s.env.get t= .dead
 hp:s.hp=s'.hp
 md:s.md=s'.md
 dfs:s.dfs=s'.dfs
theorem aJ.refl (s:St):aJ s s:=⟨fun _=> .inl rfl,rfl,rfl,rfl⟩
def PM:iO→(Nat→AV)→Prop
 | [],_=>True
 |(t,v)::r,f=>(f t=v)∧PM r f
theorem yH {f:Nat→AV}:∀ {e:iO},PM e f→∀ t,e.get t=f t∨e.get t= .dead
 | [],_,t=> .inr rfl
 | (u,v)::r,h,t=>by
  simp only [PM] at h;simp only [iO.get,aG];cases a:Xqo u t with
  |true=>
   have:=aO a;subst this;exact .inl h.1.symm
  |false=>exact yH h.2 t
theorem aJ.of {e e':iO} {hp:Hp} {md:AV} {dfs:List (Nat × List AV)} (h:PM e e'.get):aJ {env:=e,hp,md,dfs} {env:=e',hp,md,dfs}:=⟨yH h,rfl,rfl,rfl⟩
section
variable {P:Program} {ap:AP} {H:dw}
theorem FR.less {s s':St} (h:aJ s s') {nt:Nat} {m:a_} {S:aU} {w:World} {a:Act} (b:FR ap s'.env s'.hp s'.dfs nt m S w a):FR ap s.env s.hp s.dfs nt m S w a:=by
 refine ⟨h.hp ▸ b.srel,fun t=> ?_, ?_,b.size⟩
 ·rcases h.env t with e|e
  ·rw [e,h.hp];exact b.env t
  ·rw [e];simp [VR]
 ·rw [h.hp,h.dfs];exact b.dfs
theorem aj.weak {h0:List bi} {nt:Nat} {b:Code} {s s' r j:St} {e:bK} (h:aj P ap h0 nt b s e r) (hs:aJ s s') (c:aJ j r):aj P ap h0 nt b s' e j:=by
 intro d;obtain ⟨u,k⟩:=h (hs.md ▸ d);refine ⟨c.md ▸ u,fun m0 S0 w0 m S w a f n Q l=>k m0 S0 w0 m S w a (by rw [hs.hp];exact f) (n.less hs) Q ?_⟩;intro t S' w' o q p;have:=l t S' w' o (by rw [c.hp];exact q) (p.less c);cases e with
 |normal=>exact this
 |exit id=>exact this
 |ret=>exact this
 |panic v=>intro cv i;exact this cv (by rw [c.hp];exact i)
inductive aF (P:Program) (ap:AP) (h0:List bi) (nt:Nat) (b:Code) {α β:Type} (e:β→bK) (st:α→St) (out:β→St):α→β→Prop where
 |done {a:α} {r:β}:aj P ap h0 nt b (st a) (e r) (out r)→aF P ap h0 nt b e st out a r
 |next {a a':α} {r:β}:aj P ap h0 nt b (st a) .normal (st a')→aF P ap h0 nt b e st out a' r→aF P ap h0 nt b e st out a r
theorem aF.rounds {h0:List bi} {nt:Nat} {b:Code} {α β:Type} {e:β→bK} {j:α→St} {out:β→St} {a:α} {r:β} (d:e r ≠ .normal) (h:aF P ap h0 nt b e j out a r):(j a).md= .dead→(out r).md= .dead∧∃ n,∀ m0 S0 w0 m S w c,Fr (bH h0) m0 S0 w0 (aG (j a).hp) m S w→FR ap (j a).env (j a).hp (j a).dfs nt m S w c→∀ Q,XA ap h0 m0 S0 w0 nt (out r) (e r) Q→Code.rounds P b Q n c w:=by
 induction h with
 |@done a r hx=>
  intro i;obtain ⟨o,p⟩:=hx i;refine ⟨o,1,fun m0 S0 w0 m S w c f q Q k=>p m0 S0 w0 m S w c f q _ ?_⟩;intro u S' w' s t l;have:=k u S' w' s t l
  revert d this
  cases e r with
  |normal=>intro d _;exact absurd rfl d
  |exit id=>intro _ h;exact h
  |ret=>intro _ h;exact h
  |panic v=>intro _ h;exact h
 |next hx _ ih=>
  intro i;obtain ⟨o,p⟩:=hx i;obtain ⟨t,n,l⟩:=ih d o;refine ⟨t,n+1,fun m0 S0 w0 m S w c f q Q k=>p m0 S0 w0 m S w c f q _ ?_⟩;intro u S' w' s y x;exact l m0 S0 w0 u S' w' s y x Q k
theorem aF.ok {h0:List bi} {nt:Nat} {b:Code} {α β:Type} {e:β→bK} {j:α→St} {out:β→St} {a:α} {r:β} (d:e r ≠ .normal) (h:aF P ap h0 nt b e j out a r):aj P ap h0 nt (.loop b) (j a) (e r) (out r):=by
 intro f;obtain ⟨p,n,k⟩:=h.rounds d f;exact ⟨p,fun m0 S0 w0 m S w c i o Q l=>wp_loop_rounds n (k m0 S0 w0 m S w c i o Q l)⟩
theorem aF.blk {h0:List bi} {n id:Nat} {b:Code} {α β:Type} {e:β→bK} {d:α→St} {out:β→St} {a:α} {r:β} {s s':St} {e':bK} (h:∀ nt,n≤nt→aF P ap h0 nt b e d out a r) (c:e r ≠ .normal) (j:oU id (e r)=e') (hs:aJ (d a) s) (k:aJ s' (out r)):aI P ap h0 n (.block id (.loop b)) s e' s':=by
 intro nt i;have f:=((h nt i).ok c).block (id:=id);rw [j] at f;exact f.weak hs k
def oQ (id:Nat):Code→Option Code
 | .seq a b=>match oQ id a with|some c=>some c|none=>oQ id b
 | .cond _ a b=>match oQ id a with|some c=>some c|none=>oQ id b
 | .block i b=>match Xqo i id with|true=>some b|false=>oQ id b
 | .loop b=>oQ id b
 | .scope b=>oQ id b
 |_=>none
def ae (id:Nat) (c:Code):Code:=match oQ id c with|some (.loop b)=>b|_=> .skip
def EW (id:Nat):Code→Code
 | .seq a b=>match EW id a with| .region i o d=> .region i o d|_=>EW id b
 | .cond _ a b=>match EW id a with| .region i o d=> .region i o d|_=>EW id b
 | .block _ b=>EW id b
 | .loop b=>EW id b
 | .scope b=>EW id b
 | .region i o d=>match Xqo i id with|true=> .region i o d|false=> .skip
 |_=> .skip
end
end AM
namespace AM
open Go
def tN (x y:List AV):Prop:=∀ g m S v,bD g m S x v→bD g m S y v
def vS:AV→Bool
 | .own _ _ _=>false
 | .tup _=>false
 |_=>true
theorem aZ.refl (x:AV):aZ x x:=fun _ _ _ _ h=>h
theorem tN.refl (x:List AV):tN x x:=fun _ _ _ _ h=>h
theorem tN.nil:tN [] []:=tN.refl []
theorem tN.cons {x y:AV} {l r:List AV} (h:aZ x y) (b:tN l r):tN (x::l) (y::r):=by
 intro g m S v a;cases v with
 |nil=>simp [bD] at a
 |cons u vs=>simp only [bD] at a ⊢;exact ⟨h g m S u a.1,b g m S vs a.2⟩
theorem aZ.nilS (a:Bool) (h:a=false):aZ .nilS (.sl [] 0 a):=by
 subst h;intro g m S v b;simp only [VR,PR] at b ⊢;exact ⟨none,0,b,Θ _,.inl (by simp)⟩
theorem aZ.sl (f:List AV) (n:Nat) (a:Bool):aZ (.sl f n a) (.sl f n false):=by
 intro g m S v d;simp only [VR,PR] at d ⊢;obtain ⟨a,c,e,b,q⟩:=d;refine ⟨a,c,e,b, ?_⟩;rcases q with ⟨_,h,i⟩|q
 ·exact .inl ⟨fun _=>trivial,h,i⟩
 ·exact .inr q
theorem aZ.dead (x:AV):aZ x .dead:=fun _ _ _ _ _=>by simp only [VR]
section
variable {P:Program} {ap:AP}
theorem ax.args {f:Nat} {args args':List AV} {h b:List bi} {out:kC} (e:tN args' args) (a:ax P ap f args h out b):ax P ap f args' h out b:=
 ⟨a.len,a.ent,fun m S w cargs c d=>a.calls m S w cargs c (e _ _ _ _ d)⟩
def jC (out out':kC):Prop:=(∀ n,kX n out=kX n out')∧∀ h' m' S' e,abL h' m' S' out e→abL h' m' S' out' e
theorem ax.out {f:Nat} {args:List AV} {h d:List bi} {out a:kC} (c:jC out a) (b:ax P ap f args h out d):ax P ap f args h a d:=
 ⟨b.len,b.ent,fun m S w cargs i j=>(b.calls m S w cargs i j).mono fun e w' ⟨m',S',hF⟩=> ⟨m',S',c.1 _ ▸ hF.srel,c.1 _ ▸ hF.fr,c.2 _ _ _ _ hF.out⟩⟩
theorem kJ {x:AV} (h:vS x=true):∀ a k e,x ≠ .own a k e:=by intro a k e b;subst b;cases h
theorem vT {x:AV} (h:vS x=true):∀ l,x ≠ .tup l:=by intro l a;subst a;cases h
theorem jC.ret {x y:AV} (b:vS x=true) (a:vS y=true) (h:aZ x y):jC (.ret x) (.ret y):=by
 refine ⟨fun n=> ?_,fun j i S' e d=> ?_⟩
 ·simp only [kX,jv n (kJ b) (vT b),jv n (kJ a) (vT a)]
 ·obtain ⟨cv,f,c⟩:=d;refine ⟨cv,f, ?_⟩;rw [lw (kJ b) (vT b)] at c;rw [lw (kJ a) (vT a)];exact h _ _ _ _ c
inductive F6:List AV→List AV→Prop where
 |nil:F6 [] []
 |same {x:AV} {l r:List AV}:F6 l r→F6 (x::l) (x::r)
 |fit {x y:AV} {l r:List AV}:vS x=true→vS y=true→aZ x y→F6 l r→F6 (x::l) (y::r)
theorem F6.blocks {l r:List AV} (h:F6 l r):∀ n,(fZ n l).2=(fZ n r).2:=by
 induction h with
 |nil=>intro n;rfl
 |@same x l r _ ih=>
  intro n;rcases jE x with ⟨a,k,e,rfl⟩|hx
  ·simp only [fZ];rw [ih]
  ·rw [bI n hx,bI n hx];exact ih n
 |fit hx hy _ _ ih=>
  intro n;rw [bI n (kJ hx),bI n (kJ hy)];exact ih n
theorem F6.outR {gh gf:dM} {m:a_} {S:aU} {l r:List AV} (h:F6 l r):∀ (n:Nat) (vs:List Value),jH gh gf m S n l vs→jH gh gf m S n r vs:=by
 induction h with
 |nil=>intro n vs a;exact a
 | @same x l r _ ih=>
  intro n vs a;cases vs with
  |nil=>simp [jH] at a
  |cons v vs=>
   rcases jE x with ⟨b,k,e,rfl⟩|hx
   ·simp only [jH] at a ⊢;exact ⟨a.1,ih _ _ a.2⟩
   ·rw [di hx] at a ⊢;exact ⟨a.1,ih _ _ a.2⟩
 | fit hx hy hf _ ih=>
  intro n vs a;cases vs with
  |nil=>simp [jH] at a
  |cons v vs=>
   rw [di (kJ hx)] at a;rw [di (kJ hy)];exact ⟨hf _ _ _ _ a.1,ih _ _ a.2⟩
theorem jC.tup {l r:List AV} (h:F6 l r):jC (.ret (.tup l)) (.ret (.tup r)):=by
 refine ⟨fun n=> ?_,fun b j S' e c=> ?_⟩
 ·simp only [kX,jZ];exact h.blocks n
 ·obtain ⟨cv,i,a⟩:=c;refine ⟨cv,i, ?_⟩;simp only [xY] at a ⊢;obtain ⟨vs,d,q⟩:=a;have f:(jZ b.length (.tup l)).2=(jZ b.length (.tup r)).2:=by simp only [jZ];exact h.blocks _
  refine ⟨vs,d, ?_⟩;rw [f] at q;exact h.outR _ _ q
end
end AM
namespace AM
open Go
def thaw:AV→AV
 | .own xs n e=> .sl (xs.take (n*e)) n true
 |x=>x
def uV:kC→kC
 | .ret (.tup l)=> .ret (.tup (l.map thaw))
 | .ret x=> .ret (thaw x)
 | .pan v=> .pan v
theorem Fq {x:AV} (h:∀ xs k e,x ≠ .own xs k e):thaw x=x:=by
 cases x<;>first|rfl|exact absurd rfl (h _ _ _)
theorem qO (x:AV):∀ a k e,thaw x ≠ .own a k e:=by
 intro a k e h;cases x<;>simp [thaw] at h
theorem xK:∀ (l:List AV) (n:Nat),(fZ n (l.map thaw)).2= []
 | [],_=>rfl
 |x::r,n=>by rw [Xqf,bI n (qO x)];exact xK r n
section
variable {P:Program} {ap:AP}
theorem zS {gh gf g':dM} {m:a_} {S S':aU} {w:World} (o:cZ ap gf m S w) {rd:dM} (d:∀ b B,rd b=some B→gf b=some B) (c:S'=dR S m rd w) (hother:∀ x v,VR gh m S x v→VR g' m S' x v):
  ∀ (l:List AV) (n:Nat) (vs:List Value),(∀ i B,(fZ n l).2[i]? =some B→rd (n+i)=some B)→jH gh gf m S n l vs→jH g' g' m S' n (l.map thaw) vs
 | [],n,vs,_,h=>by cases vs with|nil=>trivial|cons _ _=>simp [jH] at h
 |x::r,n,[],_,h=>by
  exfalso;rcases jE x with ⟨j,k,e,rfl⟩|f
  ·simp [jH] at h
  ·cases x<;>simp [jH] at h
 | x ::r,n,v::vs,hb,h=>by
  rcases jE x with ⟨j,k,e,rfl⟩|f
  ·simp only [jH] at h;simp only [fZ] at hb;have h0:=hb 0 _ rfl;rw [Xq5] at h0;have t:frz rd 6 (.ref n 0 0 k)=some (.sl (j.take (k*e)) k true):=by
    simp [frz,h0,Jn]
   have C:=lH o d 6 _ _ _ t h.1;rw [Xqf,di (qO _)];refine ⟨iH _ (c ▸ C), ?_⟩;have A:=zS o d c hother r (n+1) vs (fun i B D=>by rw [show n+1+i=n+(i+1) by omega];exact hb (i+1) B (by simpa using D)) h.2;have key:∀ (l:List AV) (a b:Nat) (vs:List Value),(∀ x ∈ l,∀ j k e,x ≠ .own j k e)→jH g' g' m S' a l vs→jH g' g' m S' b l vs:=by
    intro l
    induction l with
    |nil=>intro a b vs _ h;cases vs with|nil=>trivial|cons _ _=>simp [jH] at h
    | cons y q ih=>
     intro a b vs s h;cases vs with
     |nil=>cases y<;>simp [jH] at h
     |cons u us=>
      have p:=s y (by simp);rw [di p] at h ⊢;exact ⟨h.1,ih a b us (fun x f=>s x (by simp [f])) h.2⟩
   refine key _ (n+1) n vs ?_ A;intro y p;obtain ⟨z,_,rfl⟩:=List.mem_map.1 p;exact qO z
  ·rw [di f] at h;rw [bI n f] at hb;rw [Xqf,di (qO x),Fq f];exact ⟨hother _ _ h.1,zS o d c hother r n vs hb h.2⟩
theorem ax.thaw {f:Nat} {args:List AV} {h a:List bi} {out:kC} (hp:∀ B ∈ a,B.pr=true) (I:ax P ap f args h out a):ax P ap f args h (uV out) a:=by
 refine ⟨I.len,I.ent,fun m S w cargs U C=>(I.calls m S w cargs U C).mono ?_⟩
 rintro e w' ⟨m',S',hF⟩
 obtain ⟨r,j,z⟩:=hF;have y:∀ n,kX n (uV out)= []:=by
  intro n;cases out with
  |pan v=>rfl
  | ret x=>
   rcases Ac x with ⟨l,rfl⟩|ht
   ·simp only [uV,kX,jZ];exact xK l n
   ·have:uV (.ret x)= .ret (AM.thaw x):=by cases x<;>first|rfl|exact absurd rfl (ht _)
    rw [this];simp only [kX];have E:∀ l,AM.thaw x ≠ .tup l:=by intro l J;cases x<;>simp [AM.thaw] at J;exact ht _ rfl
    rw [jv n (qO x) E]
 let rd:dM:=fun b=>if a.length≤b then bH (a++kX a.length out) b else none
 have u:∀ b B,rd b=some B→bH (a++kX a.length out) b=some B:=by
  intro b B c;simp only [rd] at c;split at c
  ·exact c
  ·cases c
 have s:=nC S' m' rd w';have p:∀ b B,bH a b=some B→bH (a++kX a.length out) b=some B:=by
  intro b B c;have:b<a.length:=(List.getElem?_eq_some_iff.1 c).1;rw [fG this];exact c
 have hother:∀ x v,VR (bH a) m' S' x v→VR (bH (a++kX a.length (uV out))) m' (dR S' m' rd w') x v:=by
  intro x v G;rw [y,Γ];exact oM s (Ge.refl _ _) x G
 refine ⟨m',dR S' m' rd w', ?_, ?_, ?_⟩
 ·rw [y,Γ];refine ⟨fun b A B B' c Q=>r.inj b A B B' (p b B c) (p A B' Q), ?_,fun k o v C=>pF r C, ?_, ?_⟩
  ·intro b B c;obtain ⟨⟨cur,e,vs,rest,d,t,F,T,L,X⟩,Y,R⟩:=r.blk b B (p b B c);have M:=hp B (Xqr c);refine ⟨⟨cur,e,vs,rest,d,t,fun _=>bM s _ (F M),bY _ (bM s _ (F M)),L,X⟩,Y,R⟩
  ·intro b B c o v C;rcases f_ C with d|⟨d,A,B',t,F,T⟩
   ·exact r.own b B (p b B c) o v d
   ·have:=r.inj b A B B' (p b B c) (u _ _ t) F.symm;subst this;have D:b<a.length:=(List.getElem?_eq_some_iff.1 c).1;simp only [rd] at t;rw [if_neg (by omega)] at t;cases t
  ·intro k N hk;obtain ⟨vs,d,t⟩:=r.glob k N hk;exact ⟨vs,bM s _ d,t.mono s⟩
 ·rw [y,Γ];refine ⟨?_,mY.trans j.sle s,j.os,j.tape,j.output,j.size,j.rest,fun b B c=>j.img b B (p b B c), ?_⟩
  ·intro b B c;obtain ⟨B',d,t⟩:=j.ge b B c;have D:b<a.length:=Xqg (List.getElem?_eq_some_iff.1 c).1 I.len;rw [fG D] at d;exact ⟨B',d,t⟩
  ·intro k o v C;rcases f_ C with d|⟨d,A,B',t,F,T⟩
   ·exact j.sealN k o v d
   ·rcases j.img A B' (u _ _ t) with L|⟨B0,L,_⟩
    ·exact .inr (.inl (F ▸ L))
    ·exfalso;have D:A<h.length:=(List.getElem?_eq_some_iff.1 L).1;simp only [rd] at t;rw [if_neg (by have:=I.len;omega)] at t;cases t
 ·have K:∀ l,out= .ret (.tup l)→∀ i B,(fZ a.length l).2[i]? =some B→rd (a.length+i)=some B:=by
   intro l J i B Z;subst J;simp only [rd];rw [if_pos (by omega),jk (by omega),show a.length+i - a.length=i by omega];exact Z
  cases out with
  |pan v=>
   obtain ⟨cv,O,d⟩:=z;refine ⟨cv,O, ?_⟩;have:=hother v cv d;rwa [y,Γ] at this
  | ret x=>
   obtain ⟨cv,O,d⟩:=z;rcases Ac x with ⟨l,rfl⟩|ht
   ·simp only [xY] at d;obtain ⟨vs,V,q⟩:=d;refine ⟨cv,O, ?_⟩;simp only [xY];refine ⟨vs,V, ?_⟩;have c:(jZ a.length (.tup (l.map AM.thaw))).2= []:=by simp only [jZ];exact xK l _
    rw [c,Γ];have:=zS (gh:=bH a) (g':=bH a) r u rfl (fun x v G=>oM s (Ge.refl _ _) x G) l a.length vs (K l rfl) q;exact this
   ·have e3:uV (.ret x)= .ret (AM.thaw x):=by cases x<;>first|rfl|exact absurd rfl (ht _)
    have E:∀ l,AM.thaw x ≠ .tup l:=by intro l J;cases x<;>simp [AM.thaw] at J;exact ht _ rfl
    rw [e3];refine ⟨cv,O, ?_⟩;rw [lw (qO x) E];rcases jE x with ⟨N,k,e,rfl⟩|G
    ·simp only [xY] at d;have h0:rd a.length=some (Jn N e):=by
      simp only [rd];rw [if_pos (Θ _),jk (Θ _),Nat.sub_self];rfl
     have W:frz rd 6 (.ref a.length 0 0 k)=some (.sl (N.take (k*e)) k true):=by
      simp [frz,h0,Jn]
     have:=lH r u 6 _ _ _ W d;exact iH _ this
    ·rw [lw G ht] at d;rw [Fq G];exact oM s (Ge.refl _ _) x d
end
end AM
namespace AM
open Go
structure qh (s s':St):Prop where
 env:∀ t,aZ (s'.env.get t) (s.env.get t)
 hp:s.hp=s'.hp
 md:s.md=s'.md
 dfs:s.dfs=s'.dfs
theorem qh.refl (s:St):qh s s:=⟨fun _=>aZ.refl _,rfl,rfl,rfl⟩
def IL:iO→(Nat→AV)→Prop
 | [],_=>True
 |(t,v)::r,f=>aZ (f t) v∧IL r f
theorem wQ {f:Nat→AV}:∀ {e:iO},IL e f→∀ t,aZ (f t) (e.get t)
 | [],_,t=>aZ.dead _
 | (u,v)::r,h,t=>by
  simp only [IL] at h;simp only [iO.get,aG];cases a:Xqo u t with
  |true=>
   have:=aO a;subst this;exact h.1
  |false=>exact wQ h.2 t
theorem qh.of {e e':iO} {hp:Hp} {md:AV} {dfs:List (Nat × List AV)} (h:IL e e'.get):qh {env:=e,hp,md,dfs} {env:=e',hp,md,dfs}:=⟨wQ h,rfl,rfl,rfl⟩
section
variable {P:Program} {ap:AP}
theorem FR.lessF {s s':St} (h:qh s s') {nt:Nat} {m:a_} {S:aU} {w:World} {a:Act} (b:FR ap s'.env s'.hp s'.dfs nt m S w a):FR ap s.env s.hp s.dfs nt m S w a:=by
 refine ⟨h.hp ▸ b.srel,fun t=> ?_, ?_,b.size⟩
 ·have:=h.env t _ _ _ _ (b.env t);rw [h.hp];exact this
 ·rw [h.hp,h.dfs];exact b.dfs
theorem aj.weakF {h0:List bi} {nt:Nat} {b:Code} {s s' r j:St} {e:bK} (h:aj P ap h0 nt b s e r) (hs:qh s s') (c:qh j r):aj P ap h0 nt b s' e j:=by
 intro d;obtain ⟨u,k⟩:=h (hs.md ▸ d);refine ⟨c.md ▸ u,fun m0 S0 w0 m S w a f n Q l=>k m0 S0 w0 m S w a (by rw [hs.hp];exact f) (n.lessF hs) Q ?_⟩;intro t S' w' o q p;have:=l t S' w' o (by rw [c.hp];exact q) (p.lessF c);cases e with
 |normal=>exact this
 |exit id=>exact this
 |ret=>exact this
 |panic v=>intro cv i;exact this cv (by rw [c.hp];exact i)
theorem aF.blkF {h0:List bi} {n id:Nat} {b:Code} {α β:Type} {e:β→bK} {d:α→St} {out:β→St} {a:α} {r:β} {s s':St} {e':bK} (h:∀ nt,n≤nt→aF P ap h0 nt b e d out a r) (c:e r ≠ .normal) (j:oU id (e r)=e') (hs:qh (d a) s) (k:qh s' (out r)):aI P ap h0 n (.block id (.loop b)) s e' s':=by
 intro nt i;have f:=((h nt i).ok c).block (id:=id);rw [j] at f;exact f.weakF hs k
end
end AM
namespace AM
open Go
def yB (b:Nat) (c v:Nat):Option (Nat × Nat):=match Xqo c b with|true=>none|false=>some (c,v)
inductive Fz (b:Nat) (B:bi):AV→AV→Prop
 |ren {x:AV}:Fz b B x (ren (yB b) x)
 |ref {i n:Nat}:Fz b B (.ref b B.ver i n) (.sl ((B.cells.drop (i*B.esz)).take (n*B.esz)) n true)
 |fit {x y z:AV}:Fz b B x y→aZ y z→Fz b B x z
inductive FzL (b:Nat) (B:bi):List AV→List AV→Prop
 |nil:FzL b B [] []
 |cons {x y:AV} {l r:List AV}:Fz b B x y→FzL b B l r→FzL b B (x::l) (y::r)
theorem Fz.same {b:Nat} {B:bi} {x:AV} (h:AM.ren (yB b) x=x):Fz b B x x:=by
 have:=Fz.ren (b:=b) (B:=B) (x:=x);rwa [h] at this
theorem Fz.dead {b:Nat} {B:bi} (x:AV):Fz b B x .dead:= .fit .ren (aZ.dead _)
theorem FzL.length {b:Nat} {B:bi} {l r:List AV} (h:FzL b B l r):l.length=r.length:=by
 induction h with
 |nil=>rfl
 |cons _ _ ih=>simp [ih]
structure Ig (b:Nat) (B:bi) (C C':bi):Prop where
 ver:C'.ver=C.ver
 fro:C'.fro=C.fro
 fz:C'.fz=C.fz
 esz:C'.esz=C.esz
 body:(C.pr=true∧C'.cells=C.cells∧C'.pr=true)∨(FzL b B C.cells C'.cells∧(C'.pr=true→(cO C'.cells).isEmpty=true))
theorem Ig.same {b:Nat} {B C:bi} (hp:C.pr=true):Ig b B C C:=⟨rfl,rfl,rfl,rfl,.inl ⟨hp,rfl,hp⟩⟩
theorem Ig.length {b:Nat} {B C C':bi} (h:Ig b B C C'):C.cells.length=C'.cells.length:=by
 rcases h.body with ⟨_,e,_⟩|⟨e,_⟩
 ·rw [e]
 ·exact e.length
section
variable {P:Program} {ap:AP} {g:dM} {m:a_} {S:aU} {w:World}
def mP (b:Nat) (B:bi):dM:=fun c=>match Xqo c b with|true=>some B|false=>none
theorem rU {b c:Nat} {B C:bi} (h:mP b B c=some C):c=b∧C=B:=by
 unfold mP at h;split at h
 ·rename_i a;cases h;exact ⟨aO a,rfl⟩
 ·cases h
theorem Ox (b:Nat) (B:bi):mP b B b=some B:=by unfold mP;rw [Xzy]
theorem Fz.sound {b:Nat} {B:bi} (j:cZ ap g m S w) (o:g b=some B) (f:B.pr=true) {g':dM} (k:sN g m g' m (yB b)) {x y:AV} (h:Fz b B x y):∀ {v:Value},VR g m S x v→VR g' m (dR S m (mP b B) w) y v:=by
 have e:∀ c C,mP b B c=some C→g c=some C:=by
  intro c C l;obtain ⟨rfl,rfl⟩:=rU l;exact o
 induction h with
 |ren=>intro v a;exact zo (nC S m (mP b B) w) k _ a
 | @ref i n=>
  intro v a;have d:frz (mP b B) 6 (.ref b B.ver i n)=some (.sl ((B.cells.drop (i*B.esz)).take (n*B.esz)) n true):=by
   simp [frz,Ox,f]
  exact iH _ (lH j e 6 _ _ _ d a)
 |fit _ d ih=>intro v a;exact d _ _ _ _ (ih a)
theorem FzL.sound {b:Nat} {B:bi} (e:cZ ap g m S w) (f:g b=some B) (c:B.pr=true) {g':dM} (d:sN g m g' m (yB b)) {l r:List AV} (h:FzL b B l r):∀ {vs:List Value},bD g m S l vs→bD g' m (dR S m (mP b B) w) r vs:=by
 induction h with
 |nil=>intro vs a;cases vs with|nil=>simp [bD]|cons _ _=>simp [bD] at a
 | cons hx _ ih=>
  intro vs a;cases vs with
  |nil=>simp [bD] at a
  |cons v vs=>
   simp only [bD] at a ⊢;exact ⟨hx.sound e f c d a.1,ih a.2⟩
theorem wK:∀ {l:List AV} {vs:List Value},(cO l).isEmpty=true→bD g m S l vs→dD S l vs
 | [],[],_,_=>by simp [dD]
 |x::l,v::vs,h,hv=>by
  simp only [cO,Xvu,List.append_eq_nil_iff] at h;rw [← Xvu,← Xvu] at h;simp only [bD] at hv;simp only [dD];exact ⟨mX h.1 hv.1,wK h.2 hv.2⟩
 | [],_::_,_,hv=>by simp [bD] at hv
 |_::_,[],_,hv=>by simp [bD] at hv
theorem Gn {g g':dM} {m c:a_} {S S':aU} {ρ:Nat→Nat→Option (Nat × Nat)} (b:mY S S') (e:sN g m g' c ρ):∀ {l:List (Nat × List AV)} {ds:List Deferred},iw g m S l ds→iw g' c S' (l.map fun d=>(d.1,mG ρ d.2)) ds
 | [],[],_=>by simp only [List.map_nil,iw]
 |d::r,cd::cr,h=>by
  simp only [iw] at h;simp only [Xqf,iw];obtain ⟨⟨a,f,i⟩,j⟩:=h;exact ⟨⟨a,f,kU b e _ i⟩,Gn b e j⟩
 | [],_::_,h=>by simp [iw] at h
 |_::_,[],h=>by simp [iw] at h
theorem UY {h0:List bi} {nt:Nat} {r i:St} {m0 h:a_} {S0 S':aU} {w0 w':World} {R:Act} (b:Nat) (B:bi) (hb0:h0.length≤b) (F:aG r.hp b=some B) (G:B.pr=true)
  (hd:i.dfs=r.dfs.map fun d=>(d.1,mG (yB b) d.2))
  (henv:∀ t,Fz b B (r.env.get t) (i.env.get t))
  (hdom:∀ c C',aG i.hp c=some C'→c ≠ b∧∃ C,aG r.hp c=some C∧Ig b B C C')
  (hall:∀ c C,c ≠ b→aG r.hp c=some C→∃ C',aG i.hp c=some C')
  (h5:Fr (bH h0) m0 S0 w0 (aG r.hp) h S' w') (h6:FR ap r.env r.hp r.dfs nt h S' w' R):
  ∃ S2,Fr (bH h0) m0 S0 w0 (aG i.hp) h S2 w'∧FR ap i.env i.hp i.dfs nt h S2 w' R:=by
 have f:=h6.srel;have n:=nC S' h (mP b B) w';have hrd:∀ c C,mP b B c=some C→aG r.hp c=some C:=by
  intro c C j;obtain ⟨rfl,rfl⟩:=rU j;exact F
 have q:sN (aG r.hp) h (aG i.hp) h (yB b):=by
  intro c ver X Y hρ C u s;unfold yB at hρ;split at hρ
  ·cases hρ
  ·rename_i K;cases hρ;have x:c ≠ b:=by intro e;subst e;simp at K
   obtain ⟨C',l⟩:=hall c C x u;obtain ⟨_,C2,p,a⟩:=hdom c C' l;rw [u] at p;cases p;exact ⟨C',l,by rw [a.ver];exact s,fun e=> ⟨by rw [← a.ver];exact e,rfl,a.esz⟩⟩
 have U:cZ ap (aG i.hp) h (dR S' h (mP b B) w') w':=by
  refine ⟨?_, ?_,fun k o v s=>pF f s, ?_, ?_⟩
  ·intro c X C C' j M hm;obtain ⟨_,D,hD,_⟩:=hdom c C j;obtain ⟨_,D',Q,_⟩:=hdom X C' M;exact f.inj c X D D' hD Q hm
  ·intro c C' j;obtain ⟨_,C,u,a⟩:=hdom c C' j;obtain ⟨⟨cur,ee,vs,rest,k1,k2,k3,k4,k5,k6⟩,hz,L⟩:=f.blk c C u;have z:(C'.pr=true→dD (dR S' h (mP b B) w') C'.cells vs)∧bD (aG i.hp) h (dR S' h (mP b B) w') C'.cells vs:=by
    rcases a.body with ⟨V,N,q3⟩|⟨V,N⟩
    ·have:=bM n _ (k3 V);rw [N];exact ⟨fun _=>this,bY _ this⟩
    ·have s:=V.sound f F G q k4;exact ⟨fun hp=>wK (N hp) s,s⟩
   exact ⟨⟨cur,ee,vs,rest,by rw [a.esz];exact k1,k2,z.1,z.2,by rw [a.esz];exact k5,fun hp=>by rw [a.esz] at hp ⊢;exact k6 hp⟩,fun hp=>by rw [a.fz];exact hz (by rw [← a.fro];exact hp),by rw [a.fz,← a.length];exact L⟩
  ·intro c C' j o v s;obtain ⟨x,C,u,a⟩:=hdom c C' j;rw [a.fro,a.fz];rcases f_ s with y|⟨y,I,B',O,W,h4⟩
   ·exact f.own c C u o v y
   ·obtain ⟨rfl,rfl⟩:=rU O;exact absurd (f.inj c I C B' u F W.symm) x
  ·intro k xs hk;obtain ⟨vs,k1,k2⟩:=f.glob k xs hk;exact ⟨vs,bM n _ k1,k2.mono n⟩
 have E:Fr (bH h0) m0 S0 w0 (aG i.hp) h (dR S' h (mP b B) w') w':=by
  refine ⟨?_,mY.trans h5.sle n,h5.os,h5.tape,h5.output,h5.size,h5.rest, ?_, ?_⟩
  ·intro c C j;have hlt:c<h0.length:=(List.getElem?_eq_some_iff.1 j).1;obtain ⟨C1,A,e1,Z⟩:=h5.ge c C j;obtain ⟨C',l⟩:=hall c C1 (by omega) A;obtain ⟨_,C2,p,a⟩:=hdom c C' l;rw [A] at p;cases p;exact ⟨C',l,by rw [a.esz];exact e1,by rw [a.ver];exact Z⟩
  ·intro c C' j;obtain ⟨_,C,u,_⟩:=hdom c C' j;exact h5.img c C u
  ·intro k o v s;rcases f_ s with y|⟨y,I,B',O,W,h4⟩
   ·exact h5.sealN k o v y
   ·obtain ⟨rfl,rfl⟩:=rU O;rcases h5.img I B' F with T|⟨B0,T,_⟩
    ·exact .inr (.inl (W ▸ T))
    ·have:I<h0.length:=(List.getElem?_eq_some_iff.1 T).1;omega
 have J:FR ap i.env i.hp i.dfs nt h (dR S' h (mP b B) w') w' R:=by
  refine ⟨U,fun t=>(henv t).sound f F G q (h6.env t), ?_,h6.size⟩;rw [hd];exact Gn n q h6.dfs
 exact ⟨_,E,J⟩
theorem aj.freeze {h0:List bi} {nt:Nat} {f:Code} {s r i:St} {e:bK} (b:Nat) (B:bi) (h:aj P ap h0 nt f s e r) (x:∀ v,e ≠ .panic v) (l:h0.length≤b) (D:aG r.hp b=some B) (o:B.pr=true)
  (hmd:i.md=r.md) (hd:i.dfs=r.dfs.map fun d=>(d.1,mG (yB b) d.2))
  (henv:∀ t,Fz b B (r.env.get t) (i.env.get t))
  (hdom:∀ c C',aG i.hp c=some C'→c ≠ b∧∃ C,aG r.hp c=some C∧Ig b B C C')
  (hall:∀ c C,c ≠ b→aG r.hp c=some C→∃ C',aG i.hp c=some C'):aj P ap h0 nt f s e i:=by
 intro hs;obtain ⟨u,y⟩:=h hs;refine ⟨hmd ▸ u,fun m0 S0 w0 m S w a n z Q p=>y m0 S0 w0 m S w a n z Q ?_⟩;intro F S' w' A E q;obtain ⟨S2,j,k⟩:=UY b B l D o hd henv hdom hall E q;have:=p F S2 w' A j k;cases e with
 |normal=>exact this
 |exit id=>exact this
 |ret=>exact this
 |panic v=>exact absurd rfl (x v)
def UR (b:Nat) (B:bi):iO→(Nat→AV)→Prop
 | [],_=>True
 |(t,v)::r,f=>Fz b B (f t) v∧UR b B r f
theorem ut {b:Nat} {B:bi} {f:Nat→AV}:∀ {e:iO},UR b B e f→∀ t,Fz b B (f t) (e.get t)
 | [],_,t=>Fz.dead _
 | (u,v)::r,h,t=>by
  simp only [UR] at h;simp only [iO.get,aG];cases a:Xqo u t with
  |true=>
   have:=aO a;subst this;exact h.1
  |false=>exact ut h.2 t
def PT (b:Nat) (B:bi):Hp→Hp→Prop
 | [],l=>l= [(b,B)]
 |(c,C)::r,(d,D)::l=>c=d∧Ig b B D C∧c ≠ b∧PT b B r l
 |_::_,[]=>False
theorem IZ {b:Nat} {B:bi}:∀ {r l:Hp},PT b B r l→∀ c C',aG r c=some C'→c ≠ b∧∃ C,aG l c=some C∧Ig b B C C'
 | [],l,_,c,C',hc=>by simp [aG] at hc
 | (d,D)::r,(d',D')::l,h,c,C',hc=>by
  simp only [PT] at h;obtain ⟨rfl,f,i,e⟩:=h;simp only [aG] at hc ⊢;cases a:Xqo d c with
  |true=>
   rw [a] at hc;have:=aO a;subst this;cases hc;exact ⟨i,D',rfl,f⟩
  |false=>
   rw [a] at hc;exact IZ e c C' hc
 |_::_,[],h,_,_,_=>by simp [PT] at h
theorem IY {b:Nat} {B:bi}:∀ {r l:Hp},PT b B r l→∀ c C,c ≠ b→aG l c=some C→∃ C',aG r c=some C'
 | [],l,h,c,C,hcb,hc=>by
  simp only [PT] at h;subst h;simp only [aG] at hc;split at hc
  ·rename_i a;exact absurd (aO a).symm hcb
  ·cases hc
 |(d,D)::r,(d',D')::l,h,c,C,hcb,hc=>by
  simp only [PT] at h;obtain ⟨rfl,f,i,e⟩:=h;simp only [aG] at hc ⊢;cases a:Xqo d c with
  |true=>exact ⟨D,rfl⟩
  |false=>rw [a] at hc;exact IY e c C hcb hc
 |_::_,[],h,_,_,_,_=>by simp [PT] at h
theorem DV {b:Nat} {B:bi}:∀ {r l:Hp},PT b B r l→aG l b=some B
 | [],l,h=>by
  simp only [PT] at h;subst h;simp [aG]
 |(d,D)::r,(d',D')::l,h=>by
  simp only [PT] at h;obtain ⟨rfl,f,e,c⟩:=h;simp only [aG];cases a:Xqo d b with
  |true=>exact absurd (aO a) e
  |false=>exact DV c
 |_::_,[],h=>by simp [PT] at h
theorem aj.forget {h0:List bi} {nt:Nat} {a:Code} {s:St} {e:bK} (b:Nat) (B:bi) {f en':iO} {hp hp':Hp} {md:AV} (h:aj P ap h0 nt a s e {env:=f,hp,md,dfs:= []}) (i:∀ v,e ≠ .panic v) (d:h0.length≤b) (c:B.pr=true)
  (henv:UR b B en' (iO.get f)) (hhp:PT b B hp' hp):aj P ap h0 nt a s e {env:=en',hp:=hp',md,dfs:= []}:=
 h.freeze b B i d (DV hhp) c rfl rfl (ut henv) (IZ hhp) (IY hhp)
theorem aj.forgetD {h0:List bi} {nt:Nat} {a:Code} {s:St} {e:bK} (b:Nat) (B:bi) {i en':iO} {hp hp':Hp} {md:AV} {dfs:List (Nat × List AV)} (h:aj P ap h0 nt a s e {env:=i,hp,md,dfs}) (j:∀ v,e ≠ .panic v) (f:h0.length≤b) (c:B.pr=true)
  (henv:UR b B en' (iO.get i)) (hhp:PT b B hp' hp) (hd:dfs.map (fun d=>(d.1,mG (yB b) d.2))=dfs):aj P ap h0 nt a s e {env:=en',hp:=hp',md,dfs}:=
 h.freeze b B j f (DV hhp) c rfl hd.symm (ut henv) (IZ hhp) (IY hhp)
end
end AM
namespace AM
open Go
inductive CE:List LK→List Value→Prop
 |nil:CE [] []
 |int {k:IntKind} {n:Int} {r:List LK} {l:List Value}:CE r l→CE (.int k::r) (.int k n::l)
 |bool {b:Bool} {r:List LK} {l:List Value}:CE r l→CE (.bool::r) (.bool b::l)
 |str {s:ByteArray} {r:List LK} {l:List Value}:CE r l→CE (.str::r) (.string s::l)
section
variable {H:Type} {enc:TypeId × Value→H} {P:Program} {w:World} {base:Nat} {spare:Nat→Bool} {held:Bool}
end
end AM
namespace AM
open Go
def yf:Nat→Nat→List Bool
 |0,_=> []
 |n+1,k=>Xqo (k % 2) 1::yf n (k / 2)
def Xt:Nat→List Bool→List Bool
 |0,l=>l
 |n+1,l=>true::Xt n l
theorem lV.n (k:Nat) {l:List Bool} (h:lV l):lV (Xt k l):=by
 induction k with
 |zero=>exact h
 |succ k ih=>exact .t ih
theorem lV.k (k:Nat) {b:Bool} {l:List Bool} (a:b=true) (h:lV l):lV (Xt k (b::l)):= .n k (.c a h)
theorem tf (b:Bool):b=true∨b=false:=by cases b<;>simp
theorem aC {b:Bool} (h:b=true):lit true b=true:=h
theorem aB {b:Bool} (h:b=false):lit false b=true:=by subst h;rfl
theorem dK {b:Bool} (h:b=false):lit true (!b)=true:=by subst h;rfl
theorem aS {b:Bool} (h:b=true):lit false (!b)=true:=by subst h;rfl
inductive PS (P:Program) (ap:AP):List Prop→List (kC × List bi)→xW→List ww→Prop where
 |nil:PS P ap [] [] [] []
 |c {f:Nat} {args:List AV} {h h':List bi} {out:kC} {ps:List Prop} {ans:List (kC × List bi)} {lps:xW} {hs:List ww}:ax P ap f args h out h'→PS P ap ps ans lps hs→PS P ap (ax P ap f args h out h'::ps) (ans++ [(out,h')]) lps hs
 |l {h0:List bi} {n:Nat} {code:Code} {s s':St} {e:bK} {ps:List Prop} {ans:List (kC × List bi)} {lps:xW} {hs:List ww}:aI P ap h0 n code s e s'→PS P ap ps ans lps hs→PS P ap (aI P ap h0 n code s e s'::ps) ans (lps++ [(e,s')]) hs
 |v (d:Nat) {x y:AV} {ps:List Prop} {ans:List (kC × List bi)} {lps:xW} {hs:List ww}:aZ x y→PS P ap ps ans lps hs→PS P ap (aZ x y::ps) ans lps (hs++ [.v d y])
 |b (d:Nat) {x y:List AV} {ps:List Prop} {ans:List (kC × List bi)} {lps:xW} {hs:List ww}:x=y→PS P ap ps ans lps hs→PS P ap ((x=y)::ps) ans lps (hs++ [.b d y])
 |u (d:Nat) {x y:List (Option bi)} {ps:List Prop} {ans:List (kC × List bi)} {lps:xW} {hs:List ww}:x=y→PS P ap ps ans lps hs→PS P ap ((x=y)::ps) ans lps (hs++ [.u d])
theorem PS.all {P:Program} {ap:AP} {ps:List Prop} {ans:List (kC × List bi)} {a:xW} {hs:List ww} (h:PS P ap ps ans a hs):JQ ps:=by
 induction h with
 |nil=>exact .nil
 |c h _ ih=>exact .cons h ih
 |l h _ ih=>exact .cons h ih
 |v _ h _ ih=>exact .cons h ih
 |b _ h _ ih=>exact .cons h ih
 |u _ h _ ih=>exact .cons h ih
theorem ck {P:Program} {ap:AP} (g:CG P ap) {ans:List (kC × List bi)} {ps:List Prop} {f:Nat} {args:List AV} {h a:List bi} {out:kC} (hp:PS P ap ps ans [] [])
  (he:t_ ap (xN P ap 3000 4) 3000 .dead f args h ⟨true,[],[],[],ans,[]⟩= .ok (out,a,.dead) ⟨true,[],[],ps,[],[]⟩):ax P ap f args h out a:=GK g hp.all he
theorem pk {P:Program} {ap:AP} (g:CG P ap) (c:List Nat) (n k:Nat) {ans:List (kC × List bi)} {a:xW} {hs:List ww} {bs:List Bool} {ps:List Prop} {f:Nat} {args:List AV} {h b:List bi} {out:kC}
  (hb:lV bs) (hp:PS P ap ps ans a hs) (he:Po P ap (xN P ap 3000 4) 3000 c f args h a ⟨false,yf n k,[],[],ans,hs⟩= .ok (out,b,.dead) ⟨false,[],bs,ps,[],[]⟩):ax P ap f args h out b:=by
 obtain ⟨e,d⟩:=lI g.apok g.mixed g.fnok 3000 4;exact Us g.apok g.mixed g.fnok e d he ⟨hb.mem,hp.all.mem⟩
def uw (ap:AP) (f:Nat):List Nat:=match ap.fnAt f with|some F=>F.keep|none=> []
def Qh (env:iO):R ((bK × St) × xW)→R ((bK × St) × xW)
 | .ok ((e,s),l) c=> .ok ((e,⟨env.map fun q=>(q.1,s.env.get q.1),s.hp,s.md,s.dfs⟩),l) c
 |r=>r
def Ot (P:Program) (ap:AP) (h0:List bi) (f nt0:Nat) (ls:List Nat) (code:Code) (s:St) (lps:xW) (orc:List Bool) (ans:List (kC × List bi)) (hs:List ww) (env:iO):R ((bK × St) × xW):=
 match dV nt0 code with
 |true=>Qh env (lX P ap (xN P ap 3000 4) h0 (uw ap f) 3000 nt0 ls code s lps ⟨false,orc,[],[],ans,hs⟩)
 |false=> .bad 0
theorem U5 (env a:iO):∀ t,iO.get (env.map fun q=>(q.1,a.get q.1)) t=a.get t∨iO.get (env.map fun q=>(q.1,a.get q.1)) t= .dead:=by
 intro t
 induction env with
 |nil=>exact .inr rfl
 | cons q r ih=>
  cases b:Xqo q.1 t with
  |true=>
   left;have:=Xjl b;subst this;simp only [iO.get,Xqf,aG,b,Option.getD_some]
  | false=>
   have e:iO.get (Xjh (fun q=>(q.1,a.get q.1)) (q::r)) t=iO.get (Xjh (fun q=>(q.1,a.get q.1)) r) t:=by
    simp only [iO.get,Xqf,aG,b]
   rw [e];exact ih
theorem pj {P:Program} {ap:AP} (g:CG P ap) (f:Nat) (h:List Nat) (n k:Nat) {nt nt0:Nat} {ans:List (kC × List bi)} {b:xW} {hs:List ww} {bs:List Bool} {ps:List Prop} {a:Code} {s s':St} {h0:List bi} {e:bK}
  (hb:lV bs) (hp:PS P ap ps ans b hs) (hn:nt0≤nt) (he:Ot P ap h0 f nt0 h a s b (yf n k) ans hs s'.env= .ok ((e,s'),[]) ⟨false,[],bs,ps,[],[]⟩):aj P ap h0 nt a s e s':=by
 unfold Ot at he;split at he
 ·rename_i hd;generalize l:lX P ap (xN P ap 3000 4) h0 (uw ap f) 3000 nt0 h a s b ⟨false,yf n k,[],[],ans,hs⟩=r at he;cases r with
  |ok q c=>
   obtain ⟨⟨o,i⟩,u⟩:=q;simp only [Qh,R.ok.injEq,Prod.mk.injEq] at he;obtain ⟨⟨⟨rfl,d⟩,rfl⟩,rfl⟩:=he;obtain ⟨j,t⟩:=lI g.apok g.mixed g.fnok 3000 4;have p:aj P ap h0 nt a s o i:=(ul g.apok g.mixed j hn a (fA hn a hd) _ _ _ _ _ l ⟨hb.mem,hp.all.mem⟩).2;refine p.weak (aJ.refl _) ?_;rw [← d];exact ⟨U5 _ _,rfl,rfl,rfl⟩
  |need=>simp [Qh] at he
  |bad n=>simp [Qh] at he
 ·cases he
theorem aZ.pp {f d:List AV} {a:Nat} (h:ε a f=d):aZ (.pp f a) (.pp d 0):=by
 subst h;intro g m S v c;simp only [VR,PR] at c ⊢;obtain ⟨b,o,vs,rfl,hp,hs⟩:=c;refine ⟨b,o+a,vs.drop a,rfl,qi a hp,fun j u e=> ?_⟩;rw [Xj0] at e;have:=hs (a+j) u e;rwa [← Nat.add_assoc] at this
theorem aZ.ppt {e c f:List AV} {a:Nat} (h:ε a e=c++f):aZ (.pp e a) (.pp c 0):=by
 intro g m S v i;have:=aZ.pp h g m S v i;simp only [VR,PR] at this ⊢;obtain ⟨b,o,vs,rfl,hp,hs⟩:=this;refine ⟨b,o,vs.take c.length,rfl, ?_,fun j u d=> ?_⟩
 ·have:=kR c.length hp;rwa [List.take_left'] at this;rfl
 ·rw [Xjp] at d;split at d
  ·exact hs j u d
  ·cases d
theorem aZ.eq {x y:AV} (h:x=y):aZ x y:=h ▸ fun _ _ _ _ a=>a
theorem aZ.rd1 (k:LK) {b c:List AV} {y:AV} {a:Nat} (h:ε a b= [y]++c) (d:eta k y=y):aZ (eta k ((ε a b).headD .dead)) y:= .eq (by rw [h];exact d)
theorem lV.a {l r:List Bool} (h:lV l) (a:lV r):lV (l++r):=by
 induction h with
 |nil=>exact a
 |t _ ih=>exact .t ih
 |c hb _ ih=>exact .c hb ih
theorem lV.of {l:List Bool} (h:l.all id=true):lV l:=by
 induction l with
 |nil=>exact .nil
 |cons b r ih=>
  simp only [List.all_cons,id,σ] at h;exact .c h.1 (ih h.2)
theorem gU (ks:List LK) {d b c:List AV} {a:Nat} (h:ε a d=b++c) (e:(Uu true ks (b++c)).all id=true):lV (IA true ks d a):=by
 unfold IA;rw [h];exact .of e
inductive XD:List AV→List AV→Prop where
 |nil:XD [] []
 |same {x:AV} {l r:List AV}:XD l r→XD (x::l) (x::r)
 |nilS {l r:List AV}:XD l r→XD (.nilS::l) (.sl [] 0 false::r)
 |sl {xs:List AV} {n:Nat} {a:Bool} {l r:List AV}:XD l r→XD (.sl xs n a::l) (.sl xs n false::r)
theorem XD.prl {S:aU} {l r:List AV} (h:XD l r):∀ {vs:List Value},dD S l vs→dD S r vs:=by
 induction h with
 |nil=>exact fun h=>h
 |same _ ih=>intro vs b;cases vs with|nil=>simp [dD] at b|cons v vs=>simp only [dD] at b ⊢;exact ⟨b.1,ih b.2⟩
 | nilS _ ih=>
  intro vs b;cases vs with
  |nil=>simp [dD] at b
  |cons v vs=>
   simp only [dD,PR] at b ⊢;exact ⟨⟨none,0,b.1,Θ _,.inl (by simp)⟩,ih b.2⟩
 | @sl xs n a _ _ _ ih=>
  intro vs b;cases vs with
  |nil=>simp [dD] at b
  |cons v vs=>
   have c:=b;simp only [dD] at c ⊢;refine ⟨?_,ih c.2⟩;have d:=aZ.sl xs n a (fun _=>none) (fun _=>(0,0)) S v (by simp only [VR];exact c.1);simpa only [VR] using d
theorem aZ.slP {i f:List AV} {n:Nat} {l:Bool} (j:XD i f):aZ (.sl i n l) (.sl f n l):=by
 intro g m S v k;simp only [VR,PR] at k ⊢;obtain ⟨a,c,rfl,r,h⟩:=k;refine ⟨a,c,rfl,r, ?_⟩;rcases h with ⟨d,e,p,q⟩|⟨b,o,vs,s,d,e⟩
 ·subst e;cases j;exact .inl ⟨d,rfl,p,q⟩
 ·exact .inr ⟨b,o,vs,s,j.prl d,e⟩
end AM
namespace AM
open Go
variable {P:Program} {ap:AP}
theorem aj.norm {h0:List bi} {nt:Nat} {b:Code} {s c:St} {e:bK} (keep:List Nat) (n:∀ v,e= .panic v→(eX v).isEmpty=true) (h:aj P ap h0 nt b s e c):aj P ap h0 nt b s e (AM.norm h0.length keep c):=by
 intro hs;obtain ⟨u,i⟩:=h hs;refine ⟨u,fun m0 S0 w0 m S w a f o Q j=>i m0 S0 w0 m S w a f o Q ?_⟩;intro x S' w' p t r;obtain ⟨q,l,k⟩:=n_ (keep:=keep) t r;have:=j q S' w' p l k;clear j l k i;generalize AM.norm h0.length keep c=s2 at*
 cases e with
 |normal=>exact this
 |exit id=>exact this
 |ret=>exact this
 |panic v=>intro cv d;exact this cv (iH _ (mX (n v rfl) d))
def ahU:bK→Bool
 | .panic v=>(eX v).isEmpty
 |_=>true
def Qc (base:Nat) (env:iO):R ((bK × St) × xW)→R ((bK × St) × xW)
 | .ok ((e,s),l) c=>match ahU e with
  |true=> .ok ((e,norm base (env.map fun q=>q.1) s),l) c
  |false=> .bad 1
 |r=>r
def Oq (P:Program) (ap:AP) (h0:List bi) (f nt0:Nat) (ls:List Nat) (code:Code) (s:St) (lps:xW) (orc:List Bool) (ans:List (kC × List bi)) (hs:List ww) (env:iO):R ((bK × St) × xW):=
 match dV nt0 code with
 |true=>Qc h0.length env (lX P ap (xN P ap 3000 4) h0 (uw ap f) 3000 nt0 ls code s lps ⟨false,orc,[],[],ans,hs⟩)
 |false=> .bad 0
theorem pn (g:CG P ap) (f:Nat) (i:List Nat) (n k:Nat) {nt nt0:Nat} {ans:List (kC × List bi)} {b:xW} {hs:List ww} {bs:List Bool} {ps:List Prop} {a:Code} {s s':St} {h0:List bi} {e:bK}
  (hb:lV bs) (hp:PS P ap ps ans b hs) (hn:nt0≤nt) (he:Oq P ap h0 f nt0 i a s b (yf n k) ans hs s'.env= .ok ((e,s'),[]) ⟨false,[],bs,ps,[],[]⟩):aj P ap h0 nt a s e s':=by
 unfold Oq at he;split at he
 ·rename_i hd;generalize p:lX P ap (xN P ap 3000 4) h0 (uw ap f) 3000 nt0 i a s b ⟨false,yf n k,[],[],ans,hs⟩=r at he;cases r with
  | ok q c=>
   obtain ⟨⟨t,j⟩,y⟩:=q;simp only [Qc] at he;split at he
   ·rename_i d;simp only [R.ok.injEq,Prod.mk.injEq] at he;obtain ⟨⟨⟨rfl,h⟩,rfl⟩,rfl⟩:=he;obtain ⟨o,x⟩:=lI g.apok g.mixed g.fnok 3000 4;have u:aj P ap h0 nt a s t j:=(ul g.apok g.mixed o hn a (fA hn a hd) _ _ _ _ _ p ⟨hb.mem,hp.all.mem⟩).2;have:=u.norm (s'.env.map fun q=>q.1) (fun v l=>by subst l;exact d);rwa [h] at this
   ·cases he
  |need=>simp [Qc] at he
  |bad n=>simp [Qc] at he
 ·cases he
end AM
namespace AM
open Go
variable {P:Program} {ap:AP}
theorem aF.mapL {α β:Type} {h0:List bi} {nt:Nat} {b:Code} {e:bK} {a:Nat × List β→St} {out:List β→St} (g:α→β) (L:List α)
  (hstep:∀ p x r,L=p++x::r→aj P ap h0 nt b (a (p.length,p.map g)) .normal (a (p.length+1,p.map g++ [g x])))
  (hend:aj P ap h0 nt b (a (L.length,L.map g)) e (out (L.map g))):aF P ap h0 nt b (fun _=>e) a out (0,[]) (L.map g):=by
 have key:∀ (r p:List α),L=p++r→aF P ap h0 nt b (fun _=>e) a out (p.length,p.map g) (L.map g):=by
  intro r
  induction r with
  |nil=>intro p h;rw [Γ] at h;subst h;exact .done hend
  |cons x r ih=>
   intro p h;have c:=ih (p++ [x]) (by rw [h];simp);rw [θ,List.length_singleton,List.map_append] at c;exact .next (hstep p x r h) c
 exact key L [] rfl
end AM
namespace AM
open Go Go.WideShapes Go.ChangeShapes
theorem Gu {a:Addr} (h:a.spot=none) (n:Nat):a.add n=⟨a.block,a.off+n,none⟩:=by
 unfold Addr.add;obtain ⟨b,o,s⟩:=a;simp only at h;subst h;split
 ·rename_i c;subst c;rfl
 ·rfl
section
variable {H:Type} {enc:TypeId × Value→H} {P:Program} {w:World} {base:Nat} {spare:Nat→Bool} {held:Bool}
end
end AM
namespace AM
open Go
section
variable {P:Program} {ap:AP} {H:dw}
def p_ (r:kE):kE:={r with rb:= []}
theorem Dy {D:Nat→Bool}:∀ (rs:List kE) (i j:Nat) (e:iO) (r:kE),rs[i]? =some r→mD D j e (rs.set i (p_ r))=mD D j e rs
 | [],i,j,e,r,h=>by simp at h
 |x::rs,0,j,e,r,h=>by
  have h:x=r:=by simpa using h
  subst h;rfl
 |x::rs,i+1,j,e,r,h=>by
  simp only [Xvd,mD];exact Dy rs i (j+1) _ r (by simpa using h)
theorem IX {D:Nat→Bool}:∀ (rs:List kE) (i j:Nat) (e:Hp) (r:kE),rs[i]? =some r→oI D j e (rs.set i (p_ r))=oI D j e rs
 | [],i,j,e,r,h=>by simp at h
 |x::rs,0,j,e,r,h=>by
  have h:x=r:=by simpa using h
  subst h;rfl
 |x::rs,i+1,j,e,r,h=>by
  simp only [Xvd,oI];exact IX rs i (j+1) _ r (by simpa using h)
theorem H9 (a:List kE) (i k:Nat) (r:kE) (h:a[i]? =some r):(a.set i (p_ r)).take k=a.take k∨((a.take k)[i]? =some r∧(a.set i (p_ r)).take k=(a.take k).set i (p_ r)):=by
 by_cases hk:i<k
 ·right;refine ⟨by rw [Xjp,if_pos hk];exact h, ?_⟩;rw [Yq8]
 ·left;rw [Yq8,List.set_eq_of_length_le];rw [List.length_take];omega
theorem GU (a:List kE) (i k:Nat) (e:iO) (r:kE) (h:a[i]? =some r):oH e ((a.set i (p_ r)).take k)=oH e (a.take k):=by
 rcases H9 a i k r h with b|⟨b,c⟩
 ·rw [b]
 ·rw [c];exact Dy _ _ _ _ _ b
theorem U9 (a:List kE) (i k:Nat) (e:Hp) (r:kE) (h:a[i]? =some r):DU e ((a.set i (p_ r)).take k)=DU e (a.take k):=by
 rcases H9 a i k r h with b|⟨b,c⟩
 ·rw [b]
 ·rw [c];exact IX _ _ _ _ _ b
def Ib:Hp→Nat→List bi
 | [],_=> []
 |(b,B)::r,t=>match Xqo b t with|true=>B::Ib r t|false=>Ib r t
theorem Ic {b:Nat} {B:bi}:∀ {hp:Hp},(b,B) ∈ hp→B ∈ Ib hp b
 | (c,C)::r,h=>by
  simp only [Ib];rcases List.mem_cons.1 h with h|h
  ·cases h;rw [Xzy];exact List.mem_cons_self
  ·have a:=Ic h;split
   ·exact List.mem_cons_of_mem _ a
   ·exact a
theorem PQ {D D':Nat→Bool} (b:∀ j,D j=true→D' j=true):∀ (rs:List kE) (j:Nat) (h h':Hp),(∀ x ∈ h,x ∈ h')→∀ x ∈ oI D j h rs,x ∈ oI D' j h' rs
 | [],_,_,_,hs=>hs
 | r::rs,j,h,h',hs=>by
  simp only [oI];refine PQ b rs (j+1) _ _ ?_;intro x a;cases hd:D j with
  |true=>
   rw [hd] at a;rw [b j hd];rcases List.mem_append.1 a with a|a
   ·exact List.mem_append.2 (.inl a)
   ·exact List.mem_append.2 (.inr (hs x a))
  |false=>
   rw [hd] at a;cases D' j with
   |true=>exact List.mem_append.2 (.inr (hs x a))
   |false=>exact hs x a
def vW (D:Nat→Bool):List wY→Hp→Hp
 | [],hp=>hp
 |F::r,hp=>match D r.length with
  |true=>hp.take F.wb.length++vW D r (hp.drop F.wb.length)
  |false=>vW D r (hp.drop F.wb.length)
theorem DT {D:Nat→Bool}:∀ (rs:List kE) (j:Nat) (h:Hp) (r:kE),oI D j h (rs++ [r])=match D (j+rs.length) with|true=>r.ups++oI D j h rs|false=>oI D j h rs
 | [],j,h,r=>by
  simp only [List.nil_append,oI,List.length_nil,Xq5];cases D j<;>rfl
 |x::rs,j,h,r=>by
  simp only [List.cons_append,oI];rw [DT rs (j+1) _ r];rw [show j+1+rs.length=j+(x::rs).length by simp;omega]
theorem Fg {D:Nat→Bool} (h:Hp):∀ (l:List kE),vW D (l.map kE.foot) (DU h l.reverse)=oI D 0 h l.reverse
 | []=>rfl
 | r::l=>by
  have e:DU h (r::l).reverse=r.ups++DU h l.reverse:=by
   unfold DU;rw [Xj3,DT]
  have a:(kE.foot r).wb.length=r.ups.length:=by simp [kE.foot]
  rw [e,Xj3,DT];simp only [Xqf,vW,a,List.length_map,List.take_left,List.drop_left,List.length_reverse,χ];rw [Fg h l]
theorem KF {D:Nat→Bool} {b:Nat}:∀ (rs:List kE) (j:Nat) (h:Hp),(∃ B,aG h b=some B)→∃ B,aG (oI D j h rs) b=some B
 | [],_,_,hs=>hs
 | r ::rs,j,h,hs=>by
  simp only [oI];refine KF rs (j+1) _ ?_;cases D j with
  |false=>exact hs
  | true=>
   by_cases hm:b ∈ r.ups.map (·.1)
   ·obtain ⟨B,a⟩:=uC hm;exact ⟨B,by
     rw [gZ,a]⟩
   ·rw [rF hm];exact hs
inductive CQ (P:Program) (ap:AP) (H:dw) (n:Nat) (ops:List Oper) (o:Oper) (b d:Nat) (rt:List Nat) (env:iO) (v:AV):List bi→Prop where
 |nil:CQ P ap H n ops o b d rt env v []
 | cons {B:bi} {r:List bi} {c2 c3:Cx} {t:RS}:L_ ap H n ops o {env,hp:= [(b,B)],md:= .dead,dfs:= [],dec:= [],feet:= []} c2= .ok (t,none) c3→c3.Ok→t.feet= [{rt:=rt,wt:= [d],rb:= [b],wb:= []}]→t.dfs= []→t.env.get d=v→
   CQ P ap H n ops o b d rt env v r→CQ P ap H n ops o b d rt env v (B::r)
theorem CQ.sem (j:iM P ap) (y:jX P ap H) {n:Nat} {ops:List Oper} {o:Oper} {b d:Nat} {rt:List Nat} {env:iO} {v:AV} {l:List bi} (hd:o.dst=some d) (h:CQ P ap H n ops o b d rt env v l):∀ B ∈ l,Ij P ap ops.toArray o n env [(b,B)] rt [b] v [] [] none:=by
 induction h with
 |nil=>intro B s;simp at s
 | @cons B r c2 c3 t he hc hft hdf0 hvd _ ih=>
  intro B' a;rcases List.mem_cons.1 a with rfl|a
  ·obtain ⟨_,hs⟩:=sD j y he hc;obtain ⟨q,rb,ups,u,hs⟩:=hs rfl (fun t b z=>by cases z);have i:=hs.feet rfl;rw [hft] at i;simp only [List.cons.injEq,wY.mk.injEq,and_true] at i;obtain ⟨f,_,p,e⟩:=i;have c:ups= []:=by
    cases ups with
    |nil=>rfl
    |cons _ _=>simp at e
   have k:u= []:=by
    have:=hs.dfs;rw [hdf0] at this;simpa using this.symm
   have x:q=v:=by
    have:=hs.env rfl;rw [this,hd,ji] at hvd;exact hvd
   have:=hs.sem;rw [← f,← p,c,k,x] at this;exact this
  ·exact ih B' a
theorem Rn (Y:iM P ap) (Z:P.follows .mixedOrders=true) (hH:jX P ap H) {ops:List Oper} {nt:Nat} {h0:List bi} (keep:List Nat) {id:Nat} (hnt:∀ o ∈ ops,∀ d,o.dst=some d→d<nt) {s:St} {f:RS} {c c':Cx} (i b d:Nat) (o:Oper) (rt:List Nat) (v:AV) (L:List bi)
  (e1:sF ap H ops ops (iC s.hp) {env:=s.env,hp:=s.hp,md:=s.md,dfs:=s.dfs,dec:= [],feet:= []} c= .ok (f,none) c') (hc:c'.Ok)
  (hoi:ops[i]? =some o) (hod:o.dst=some d) (hft:f.feet.reverse[i]? =some {rt:=rt,wt:= [d],rb:= [b],wb:= []})
  (hord:uK (iC s.hp) (Region.before ops.toArray).toList (f.feet.reverse.set i {rt:=rt,wt:= [d],rb:= [],wb:= []}).reverse=true) (hback:qZ ops=true) (hdl:f.dfs.length=s.dfs.length)
  (hlate:∀ k C,i<k→ops[k]? =some C→∀ x,C.dst=some x→x ≠ d∧x ∉ rt) (hdr:d ∉ rt)
  (hv:f.env.get d=v) (V:∃ B,aG s.hp b=some B) (hL:Ib (vW (fun k=> !(((Region.before ops.toArray).toList.getD k 0).testBit i)) f.feet f.hp) b=L) (hst:CQ P ap H (iC s.hp+4*i) ops o b d rt f.env v L):
  aj P ap h0 nt (.region id ops.toArray true) s .normal (norm h0.length keep ⟨f.env,f.hp,f.md,f.dfs⟩):=by
 intro hmd;have hn0:∀ b B,aG s.hp b=some B→b<iC s.hp:=fun b B V=>qJ V
 obtain ⟨_,hs⟩:=Xn Y hH ops 0 _ _ _ _ _ e1 hc;obtain ⟨h1,recs,M,e⟩:=hs hmd (fun t b V=>by cases V) rfl;refine ⟨h1,fun m0 S0 w0 m S w a hfr N Q hQ=>wp_region_any Z ?_⟩;have F:f.dfs.length=s.dfs.length:=hdl;have hdf:=(e.sem F).1;have hil:i<recs.length:=by rw [M];exact (List.getElem?_eq_some_iff.1 hoi).1
 have p:recs[i]? =some recs[i]:=π hil;have hfeet:f.feet.reverse=recs.map kE.foot:=by rw [e.feet,Γ,Xz5]
 rw [hfeet] at hft hord;rw [List.getElem?_map,p,Option.map_some,Option.some.injEq] at hft;generalize recs[i]=r at p hft;have J:=hft;simp only [kE.foot,wY.mk.injEq] at J;obtain ⟨hrt,hwt,hrb,u⟩:=J;have u:r.ups= []:=by
  cases hu:r.ups with
  |nil=>rfl
  |cons _ _=>rw [hu] at u;simp at u
 have hset:(recs.map kE.foot).set i {rt:=rt,wt:= [d],rb:= [],wb:= []}=(recs.set i (p_ r)).map kE.foot:=by
  rw [List.map_set];congr 1;simp only [kE.foot,p_,wY.mk.injEq];exact ⟨hrt.symm,hwt.symm,trivial,by rw [u];rfl⟩
 rw [hset] at hord;have U:oV (Array.replicate ops.length false)=fun _=>false:=by
  funext k;simp only [oV,Array.getD_eq_getD_getElem?];by_cases n:k<ops.length<;>simp [n]
 have hsz:ops.toArray.size=ops.length:=by simp
 rw [hsz];have X:∀ D,oI D 0 s.hp (recs.set i (p_ r))=oI D 0 s.hp recs:=fun D=>IX recs i 0 s.hp r p
 have enE:∀ D,mD D 0 s.env (recs.set i (p_ r))=mD D 0 s.env recs:=fun D=>Dy recs i 0 s.env r p
 have R:∀ k,k ≠ i→(recs.set i (p_ r))[k]? =recs[k]? :=fun k n=>List.getElem?_set_ne (Ne.symm n)
 have hgeti:(recs.set i (p_ r))[i]? =some (p_ r):=List.getElem?_set_self hil;have hdsto:∀ (k:Nat) (q:kE),recs[k]? =some q→∃ C:Oper,ops[k]? =some C∧q.dst=C.dst:=by
  intro k q n;obtain ⟨C,z,A,_⟩:=(e.sem F).2 k q n;exact ⟨C,by rw [← z,χ],A⟩
 have I:r.dst=some d:=by
  obtain ⟨C,z,A⟩:=hdsto i r p;rw [hoi] at z;cases z;rw [A,hod]
 have hrv:r.v=v:=by
  have e2:(oH s.env recs).get d=(oH s.env (recs.take (i+1))).get d:=by
   rw [← yD];refine nO recs 0 _ _ rfl fun k q n hd=> ?_
   rw [χ];by_cases hki:i<k
   ·obtain ⟨C,z,A⟩:=hdsto k q n;exact absurd rfl (hlate k C hki z d (A ▸ hd)).1
   ·simp;omega
  have e3:f.env.get d=v:=hv;rw [e.env] at e3;rw [show (oH s.env recs).get d=(oH s.env recs).get d from rfl,e2,GV _ _ _ _ p,I,ji] at e3;exact e3
 have hrte:∀ t ∈ rt,(oH s.env (recs.take i)).get t=f.env.get t:=by
  intro t ht;rw [e.env,← yD];refine nO recs 0 _ _ rfl fun k q n hd=> ?_
  rw [χ];rcases Nat.lt_trichotomy k i with h|h|h
  ·simp [h]
  ·subst h;rw [p] at n;cases n;rw [I] at hd;cases hd;exact absurd ht hdr
  ·obtain ⟨C,z,A⟩:=hdsto k q n;exact absurd ht (hlate k C h z t (A ▸ hd)).2
 refine Kz (P:=P) (ap:=ap) (s:={env:=s.env,hp:=s.hp,md:=s.md,dfs:=s.dfs,dec:= [],feet:= []}) (recs:=recs.set i (p_ r)) hnt (by rw [List.length_set];exact M) ?_ ?_ (EG hord) hback hn0 (m0:=m) (S0:=S) (w0:=w) (Q:=Q) ?_ ops.length _ m S _ a ⟨by simp, ?_, ?_, ?_⟩ ?_
 ·intro k q n x O;by_cases hki:k=i
  ·subst hki;rw [hgeti] at n;cases n;rw [show (p_ r).ups=r.ups from rfl,u] at O;simp at O
  ·rw [R k hki] at n;have:=e.bound k q n x O;omega
 ·intro k q n;by_cases hki:k=i
  ·subst hki;rw [hgeti] at n;cases n;refine ⟨o,hoi,by rw [← hod] at I;exact I, ?_⟩;intro D m2 S2 w2 a2 W y _ l hnb Q2 K T;dsimp only at W y l T;rw [X] at W y l T;obtain ⟨B,hB⟩:=KF (D:=D) recs 0 s.hp V;have hBm:B ∈ L:=by
    have e4:=Fg (D:=fun j=> !(((Region.before ops.toArray).toList.getD j 0).testBit k)) s.hp recs.reverse;rw [Xz5,List.map_reverse] at e4;rw [← hL,e.hp,e.feet,Γ];rw [e4];refine Ic (PQ (D:=D) (fun j hj=> ?_) recs 0 s.hp s.hp (fun _ h=>h) _ (zK hB));cases hb2:((Region.before ops.toArray).toList.getD j 0).testBit k with
    |false=>rfl
    |true=>rw [hnb j hb2] at hj;cases hj
   have E:=hst.sem Y hH hod B hBm;rw [show (p_ r).v=r.v from rfl,hrv,show (p_ r).ups=r.ups from rfl,u] at T;refine E _ m2 S2 w2 a2 W (fun t ht=> ?_) (fun x O B2 hB2=> ?_) l Q2 K T
   ·have z:=y t (by rw [show (p_ r).rt=r.rt from rfl,hrt];exact ht);rw [GU recs k k s.env r p,hrte t ht] at z;exact z
   ·rw [List.mem_singleton] at O;subst O;simp only [aG,Xzy,Option.some.injEq] at hB2;subst hB2;exact hB
  ·rw [R k hki] at n;obtain ⟨C,z,A,E⟩:=(e.sem F).2 k q n;rw [χ] at z;refine ⟨C,z,A, ?_⟩;intro D m2 S2 w2 a2 W y G l _ Q2 K T;dsimp only at W y G l T;rw [X] at W y G l T;rw [GU recs i k s.env r p] at y;rw [U9 recs i k s.hp r p] at G;exact E _ m2 S2 w2 a2 W y (fun x O B hB=>by rw [← G x O];exact hB) l Q2 K T
 ·intro m' S' w' a' A h4;dsimp only at A h4;have e5:DU s.hp (recs.set i (p_ r))=DU s.hp recs:=X _;have e6:oH s.env (recs.set i (p_ r))=oH s.env recs:=enE _;rw [e5] at A h4;rw [e6] at h4;have h5:Fr (bH h0) m0 S0 w0 (aG f.hp) m' S' w':=by
   rw [e.hp];exact hfr.trans A
  have h6:FR ap f.env f.hp f.dfs nt m' S' w' a':=by
   rw [e.hp,e.env,hdf];exact h4
  obtain ⟨m2,h7,h8⟩:=n_ (keep:=keep) (s:=⟨f.env,f.hp,f.md,f.dfs⟩) h5 h6;exact hQ m2 S' w' a' h7 h8
 ·intro k o n hd;rw [U] at hd;cases hd
 ·dsimp only;rw [U,nT _ 0 _ (fun _ _=>rfl)];exact ⟨Ge.refl _ _,mY.refl _,rfl,rfl,rfl,Θ _,fun _ _ _=>rfl,fun _ B h=> .inr ⟨B,h,rfl⟩,fun _ _ _ h=> .inl h⟩
 ·dsimp only;rw [U,nT _ 0 _ (fun _ _=>rfl),vJ _ 0 _ (fun _ _=>rfl)];exact ⟨⟨N.srel.inj,fun b B V=>N.srel.blk b B V|>fun ⟨h1,z,A⟩=> ⟨h1,z,A⟩,N.srel.sealed,N.srel.own,N.srel.glob⟩,N.env,N.dfs,N.size⟩
 ·simp only [BU];exact Xxm (List.length_filter_le _ _) (by simp)
def Bl:List Nat→List Nat→Bool
 | [],[]=>true
 |a::r,b::q=>Xqo a b && Bl r q
 |_,_=>false
theorem oW:∀ {l r:List Nat},Bl l r=true→l=r
 | [],[],_=>rfl
 |a::r,b::q,h=>by
  simp only [Bl,σ] at h;rw [aO h.1,oW h.2]
 | [],_::_,h=>by simp [Bl] at h
 |_::_,[],h=>by simp [Bl] at h
def Qz (ap:AP) (H:dw) (n:Nat) (ops:List Oper) (o:Oper) (b d:Nat) (rt:List Nat) (env:iO) (v:AV):List bi→Option (List Prop)
 | []=>some []
 | B ::r=>match L_ ap H n ops o {env,hp:= [(b,B)],md:= .dead,dfs:= [],dec:= [],feet:= []} ⟨true,[],[],[],[],[]⟩ with
  | .ok (t,none) c3=>match t.feet,t.dfs,c3.bs,c3.ps with
   | [F],[],[],[]=>match Bl F.rt rt && Bl F.wt [d] && Bl F.rb [b] && Bl F.wb [] with
    |true=>match Qz ap H n ops o b d rt env v r with
     |some l=>some ((t.env.get d=v)::l)
     |none=>none
    |false=>none
   |_,_,_,_=>none
  |_=>none
theorem L9 {n:Nat} {ops:List Oper} {o:Oper} {b d:Nat} {rt:List Nat} {env:iO} {v:AV}:∀ {L:List bi} {l:List Prop},Qz ap H n ops o b d rt env v L=some l→(∀ p ∈ l,p)→CQ P ap H n ops o b d rt env v L
 | [],_,_,_=> .nil
 | B ::r,l,h,hl=>by
  simp only [Qz] at h;split at h
  ·rename_i t q c;split at h
   ·rename_i F j i k e;split at h
    ·rename_i a;simp only [σ] at a;split at h
     ·rename_i s f;cases h;refine .cons c ⟨by rw [k];simp,by rw [e];simp⟩ ?_ i (hl _ (by simp)) (L9 f fun p hp=>hl p (by simp [hp]));rw [j,← oW a.1.1.1,← oW a.1.1.2,← oW a.1.2,← oW a.2]
     ·cases h
    ·cases h
   ·cases h
  ·cases h
def JC (ap:AP) (H:dw) (base:Nat) (keep:List Nat) (nt0 i b d:Nat) (code:Code) (s:St) (c:Cx):R St:=
 match code with
 | .region _ opsA true=>
  (sF ap H opsA.toList opsA.toList (iC s.hp) {env:=s.env,hp:=s.hp,md:=s.md,dfs:=s.dfs,dec:= [],feet:= []} c).bind fun (s1,p) c=>
  match p with
  |some _=> .bad 1
  |none=>
  match opsA.toList[i]?,s1.feet.reverse[i]? with
  | some o,some F=>
   match (match o.dst with|some d'=>Xqo d' d|none=>false) && Bl F.wt [d] && Bl F.rb [b] && Bl F.wb [] && uK (iC s.hp) (Region.before opsA).toList (s1.feet.reverse.set i {rt:=F.rt,wt:= [d],rb:= [],wb:= []}).reverse && qZ opsA.toList && Xqo s1.dfs.length s.dfs.length
    && (opsA.toList.drop (i+1)).all (fun o'=>match o'.dst with|some x=> !(Xqo x d) && !(pY F.rt x)|none=>true) && !(pY F.rt d) && (aG s.hp b).isSome && opsA.toList.all (GR nt0) with
   |true=>match Qz ap H (iC s.hp+4*i) opsA.toList o b d F.rt s1.env (s1.env.get d) (Ib (vW (fun k=> !(((Region.before opsA).toList.getD k 0).testBit i)) s1.feet s1.hp) b) with
    |some l=> .ok (norm base keep ⟨s1.env,s1.hp,s1.md,s1.dfs⟩) {c with ps:=l++c.ps}
    |none=> .bad 3
   |false=> .bad 2
  |_,_=> .bad 4
 |_=> .bad 5
theorem OO (u:iM P ap) (q:P.follows .mixedOrders=true) (V:jX P ap H) {h0:List bi} {keep:List Nat} {nt nt0 i b d:Nat} {j:Code} {s s':St} {c E:Cx} (I:nt0≤nt) (h:JC ap H h0.length keep nt0 i b d j s c= .ok s' E) (y:E.Ok):aj P ap h0 nt j s .normal s':=by
 unfold JC at h;split at h
 ·rename_i id a;obtain ⟨⟨L,p⟩,c1,Z,h⟩:=R.bind_ok h;dsimp only at h;split at h
  ·cases h
  ·split at h
   ·rename_i o F N O;split at h
    ·rename_i hcond;split at h
     ·rename_i l U;cases h;simp only [σ] at hcond;obtain ⟨⟨⟨⟨⟨⟨⟨⟨⟨⟨v,M⟩,Q⟩,X⟩,Y⟩,K⟩,T⟩,W⟩,G⟩,A⟩,B⟩:=hcond;have t:o.dst=some d:=by
       split at v
       ·rename_i d' C;rw [C,aO v]
       ·cases v
      have z:F={rt:=F.rt,wt:= [d],rb:= [b],wb:= []}:=by
       rw [← oW M,← oW Q,← oW X]
      have f:a.toList.toArray=a:=by simp
      have key:=Rn (nt:=nt) (h0:=h0) u q V keep (id:=id) (ops:=a.toList) (fun r n x D=>by
        have:=List.all_eq_true.1 B r n;simp only [GR,D] at this;exact Xqg (fU this) I) i b d o F.rt (L.env.get d) _ Z ⟨y.bs,fun p hp=>y.ps p (by simp [hp])⟩ N t (by rw [O,← z]) (by rw [f];exact Y) K (aO T) ?_ ?_ rfl (by simpa [Option.isSome_iff_exists] using A) (by rw [f]) (L9 U fun p hp=>y.ps p (by simp [hp]))
      ·rw [f] at key;exact key
      ·intro k r hk n x D;have J:r ∈ a.toList.drop (i+1):=by
        refine Xqr (i:=k - (i+1)) ?_;rw [Xj0,show i+1+(k - (i+1))=k by omega];exact n
       have:=List.all_eq_true.1 W r J;simp only [D,σ,Bool.not_eq_true'] at this;refine ⟨fun e=> ?_,fun e=> ?_⟩
       ·subst e;rw [Xzy] at this;cases this.1
       ·rw [iV.2 e] at this;cases this.2
      ·intro e;rw [iV.2 e] at G;cases G
     ·cases h
    ·cases h
   ·cases h
 ·cases h
end
theorem Cb {P:Program} {ap:AP} (g:CG P ap) {h0:List bi} {keep:List Nat} {nt nt0 i b d:Nat} {a:Code} {s s':St} {ans:List (kC × List bi)} {ps:List Prop} (hp:JQ ps) (c:nt0≤nt)
  (h:JC ap (xN P ap 3000 4) h0.length keep nt0 i b d a s ⟨true,[],[],[],ans,[]⟩= .ok s' ⟨true,[],[],ps,[],[]⟩):aj P ap h0 nt a s .normal s':=by
 obtain ⟨e,_⟩:=lI g.apok g.mixed g.fnok 3000 4;exact OO g.apok g.mixed e c h ⟨by simp,hp.mem⟩
end AM
namespace AM
open Go Go.WideShapes Go.ChangeShapes
section
variable {H:Type} {enc:TypeId × Value→H} {P:Program} {w:World} {base:Nat} {spare:Nat→Bool} {held:Bool}
theorem LY {u e:TypeId} (b:P.underlying u=some (.slice e)) {base':Nat} {v:Value} (h:Value.okWide P w .any base' u v):v.cells.toList= [v]:=by
 obtain ⟨a,l,c,rfl⟩:=okWide_slice b h;rfl
end
end AM
namespace AM
open Go Go.WideShapes Go.ChangeShapes
inductive DK where
 |int (k:IntKind)
 |bool
 |str
 |slc (l:List DK)
def Dq (P:Program) (f:TypeId→Option (List DK)):List Field→Nat→Option (List DK)
 | [],_=>some []
 | x::r,off=>match f x.type with
  | some l=>match Xqo x.offset off && Xqo (P.cellsOf x.type) l.length with
   |true=>match Dq P f r (off+l.length) with
    |some q=>some (l++q)
    |none=>none
   |false=>none
  |none=>none
def Dt (P:Program):Nat→TypeId→Option (List DK)
 |0,_=>none
 | n+1,t=>match P.underlying t with
  |some (.int k)=>some [.int k]
  |some .bool=>some [.bool]
  |some .string=>some [.str]
  |some (.struct fs)=>match Dq P (Dt P n) fs.toList 0 with
   |some l=>match Xqo (P.cellsOf t) l.length with|true=>some l|false=>none
   |none=>none
  |some (.slice e)=>match Dt P n e with
   |some l=>match Xqo (P.cellsOf e) l.length && Nat.ble 1 l.length with|true=>some [.slc l]|false=>none
   |none=>none
  |_=>none
inductive gW (b:Nat):List DK→List AV→Prop
 |nil:gW b [] []
 |int {k:IntKind} {n:Int} {r:List DK} {l:List AV}:gW b r l→gW b (.int k::r) (.int k n::l)
 |bool {x:Bool} {r:List DK} {l:List AV}:gW b r l→gW b (.bool::r) (.bool x::l)
 |str {s:List UInt8} {r:List DK} {l:List AV}:s.length≤b→gW b r l→gW b (.str::r) (.str s::l)
 |slc {ks:List DK} {L:List (List AV)} {r:List DK} {l:List AV}:(∀ x ∈ L,gW b ks x)→L.length≤b→gW b r l→gW b (.slc ks::r) (.sl L.flatten L.length false::l)
theorem gW.mono {b c:Nat} (h:b≤c) {ks:List DK} {a:List AV} (hd:gW b ks a):gW c ks a:=by
 induction hd with
 |nil=>exact .nil
 |int _ ih=>exact .int ih
 |bool _ ih=>exact .bool ih
 |str hs _ ih=>exact .str (Xxm hs h) ih
 |slc _ hl _ ihx ih=>exact .slc ihx (Xxm hl h) ih
theorem gW.app {b:Nat} {k1 k2:List DK} {a c:List AV} (h:gW b k1 a) (d:gW b k2 c):gW b (k1++k2) (a++c):=by
 induction h with
 |nil=>exact d
 |int _ ih=>exact .int ih
 |bool _ ih=>exact .bool ih
 |str hs _ ih=>exact .str hs ih
 |slc hx hl _ _ ih=>exact .slc hx hl ih
structure afr {H:Type} (bk:DataW H→Nat):Prop where
 str:∀ s:List UInt8,s.length≤bk (.lit (.string s))
 agg:∀ l:List (DataW H),∀ d ∈ l,bk d≤bk (.agg l)
 slc:∀ l r:List (DataW H),(∀ d ∈ l,bk d≤bk (.slice l r))∧l.length≤bk (.slice l r)
section
variable {H:Type} {enc:TypeId × Value→H} {P:Program} {w:World} {base:Nat} {spare:Nat→Bool} {held:Bool} {bk:DataW H→Nat}
theorem Ap {n B:Nat} {f:TypeId→Option (List DK)} (c:∀ t ks,f t=some ks→∀ (fuel:Nat) (cs:List Value) (x:DataW H × List MemPlace),DataW.trod enc P w base spare held fuel t cs=some x→∃ xs,gW (bk x.1) ks xs∧dD (je w) xs cs∧∀ u ∈ cs,u.oneCell'=true) {cs:List Value}:∀ (r:List Field) (off:Nat) (ks:List DK),Dq P f r off=some ks→
  (∀ (i:Nat) (x:Field),r[i]? =some x→∃ y,DataW.trod enc P w base spare held n x.type ((cs.drop x.offset).take (P.cellsOf x.type))=some y∧bk y.1≤B)→∃ xs,gW B ks xs∧dD (je w) xs ((cs.drop off).take ks.length)∧∀ u ∈ (cs.drop off).take ks.length,u.oneCell'=true
 | [],off,ks,h,_=>by
  simp only [Dq] at h;cases h;exact ⟨[],.nil,by simp [dD],by simp⟩
 | x ::r,off,ks,h,hx=>by
  simp only [Dq] at h;split at h
  ·rename_i l s;split at h
   ·rename_i b;simp only [σ] at b;have E:=Xjl b.1;have j:=Xjl b.2;split at h
    ·rename_i q v;cases h;obtain ⟨y,z,p⟩:=hx 0 x rfl;obtain ⟨k,G,d,e⟩:=c _ _ s _ _ _ z;rw [E,j] at d e;obtain ⟨D,C,o,A⟩:=Ap c r (off+l.length) q v (fun i f F=>hx (i+1) f (by simpa using F));refine ⟨k++D,(G.mono p).app C, ?_, ?_⟩
     ·rw [θ,Yq9,Xjy];exact lC d o
     ·rw [θ,Yq9,Xjy];intro u a;rcases List.mem_append.1 a with a|a
      ·exact e u a
      ·exact A u a
    ·cases h
   ·cases h
  ·cases h
theorem Af {S:aU}:∀ {L:List (List AV)} {M:List (List Value)},L.length=M.length→(∀ (i:Nat) (x:List AV) (m:List Value),L[i]? =some x→M[i]? =some m→dD S x m)→dD S L.flatten M.flatten
 | [],[],_,_=>by simp [dD]
 |x::L,m::M,h,hp=>by
  rw [Xjw,Xjw];exact lC (hp 0 x m rfl rfl) (Af (by simpa using h) fun i a d c b=>hp (i+1) a d (by simpa using c) (by simpa using b))
 | [],_::_,h,_=>by simp at h
 |_::_,[],h,_=>by simp at h
theorem GM (hk:afr bk) (hsp:∀ b,spare b=true):∀ (n:Nat) (t:TypeId) (ks:List DK),Dt P n t=some ks→∀ (E:Nat) (cs:List Value) (x:DataW H × List MemPlace),DataW.trod enc P w base spare held E t cs=some x→
  ∃ W,gW (bk x.1) ks W∧dD (je w) W cs∧∀ u ∈ cs,u.oneCell'=true:=by
 intro n
 induction n with
 |zero=>intro t ks h;simp [Dt] at h
 | succ n ih=>
  intro t ks h E cs x v;simp only [Dt] at h;split at h
  ·rename_i k A;cases h;obtain ⟨m,rfl,_⟩:=DataW.trod_int A v;exact ⟨[.int k m],.int .nil,by simp [dD,PR],by simp [Value.oneCell']⟩
  ·rename_i A;cases h;obtain ⟨b,rfl,_⟩:=DataW.trod_bool A v;exact ⟨[.bool b],.bool .nil,by simp [dD,PR],by simp [Value.oneCell']⟩
  ·rename_i A;cases h;obtain ⟨s,rfl,rfl,_⟩:=DataW.trod_string A v;exact ⟨[.str s.data.toList],.str (hk.str _) .nil,by simp [dD,PR],by simp [Value.oneCell']⟩
  ·rename_i fs A;split at h
   ·rename_i l hl;split at h
    ·rename_i V;cases h;obtain ⟨W,m,rfl,rfl,C,hxl,F⟩:=DataW.trod_struct A v;have e:=Xjl V;obtain ⟨Y,d1,Z,T⟩:=Ap (n:=m) (B:=bk (.agg (W.map (·.1)))) ih (cs:=cs) fs.toList 0 ks hl (fun i f hf=>by
      have X:fs[i]? =some f:=by simpa using hf
      have N:=F i f X;have r:i<W.length:=by rw [hxl];exact (Array.getElem?_eq_some_iff.1 X).1
      rw [π r] at N;exact ⟨_,N,hk.agg _ _ (List.mem_map.2 ⟨_,Xjr r,rfl⟩)⟩)
     rw [List.drop_zero,List.take_of_length_le (by omega)] at Z T;exact ⟨Y,d1,Z,T⟩
    ·cases h
   ·cases h
  ·rename_i e A;split at h
   ·rename_i l hl;split at h
    ·rename_i V;cases h;simp only [σ] at V;have hce:=Xjl V.1;have hpos:=Nat.le_of_ble_eq_true V.2;rcases DataW.trod_slice A v with ⟨rfl,rfl⟩|⟨a,y,J,elems,rest,m,_,rfl,rfl,_,hlc,hm,C,U,hre,_⟩
     ·refine ⟨[.sl [] 0 false],.slc (L:= []) (by simp) (by simp) .nil, ?_,by simp [Value.oneCell']⟩;simp only [dD,PR,and_true];exact ⟨none,0,rfl,Θ _,.inl ⟨fun _=>trivial,trivial,trivial,rfl⟩⟩
     ·obtain ⟨b1,b2⟩:=hk.slc (elems.map (·.1)) (rest.map (·.1));generalize hB:bk (.slice (elems.map (·.1)) (rest.map (·.1)))=B at b1 b2;have hspot:0<J→a.spot=none:=by
       intro hc;have key:∃ c,w.cells? base (a.add 0) (P.cellsOf e)=some c:=by
        rcases Xqb y with h0|h0
        ·obtain ⟨r1,r2⟩:=hre (hsp _);have D:=r2 0 (by omega);rw [π (by omega)] at D;obtain ⟨c,z,_⟩:=Option.bind_eq_some_iff.1 D;rw [h0,Xq5,Xzl] at z;exact ⟨c,z⟩
        ·have D:=U 0 h0;rw [π (by omega)] at D;obtain ⟨c,z,_⟩:=Option.bind_eq_some_iff.1 D;rw [Xzl] at z;exact ⟨c,z⟩
       obtain ⟨c,z⟩:=key;obtain ⟨_,h9,G⟩:=World.cells?_some z;have p:=G 0 (by omega);have ez:(a.add 0).add 0=a:=by simp [Addr.add]
       rw [ez] at p;have r:0<c.length:=by omega
       rw [π r] at p;exact World.cell?_spot p
      have key:∀ q,q≤y→∃ (L:List (List AV)) (M:List (List Value)),L.length=q∧M.length=q∧(∀ x ∈ L,gW B l x)∧(∀ (i:Nat) (x:List AV) (m:List Value),L[i]? =some x→M[i]? =some m→dD (je w) x m)∧M.flatten.length=q*l.length∧(∀ u ∈ M.flatten,u.oneCell'=true)∧∀ j u,M.flatten[j]? =some u→je w a.block (a.off+j)=some u:=by
       intro q
       induction q with
       |zero=>intro _;exact ⟨[],[],rfl,rfl,by simp,by simp,by simp,by simp,by simp⟩
       | succ q ihq=>
        intro hq;obtain ⟨L,M,Q,R,N,I,h3,K,h4⟩:=ihq (by omega);have D:=U q (by omega);rw [π (by omega)] at D;obtain ⟨c,z,h7⟩:=Option.bind_eq_some_iff.1 D;obtain ⟨Y,d1,Z,T⟩:=ih e l hl _ _ _ h7;obtain ⟨_,h9,G⟩:=World.cells?_some z;have hs:=hspot (by omega);have d2:gW B l Y:=d1.mono (b1 _ (List.mem_map.2 ⟨_,Xjr _,rfl⟩));refine ⟨L++ [Y],M++ [c],by simp [Q],by simp [R], ?_, ?_, ?_, ?_, ?_⟩
        ·intro x v;rcases List.mem_append.1 v with v|v
         ·exact N x v
         ·simp at v;subst v;exact d2
        ·intro i x m F d;rw [Xv8] at F d;split at F
         ·rename_i r;rw [if_pos (by omega)] at d;exact I i x m F d
         ·rename_i r;rw [if_neg (by omega)] at d;have e0:i - L.length=0:=by
           have:=(List.getElem?_eq_some_iff.1 F).1;simp at this;omega
          have e1:i - M.length=0:=by omega
          rw [e0] at F;rw [e1] at d;cases F;cases d;exact Z
        ·rw [Xzm,θ,h3];simp only [Xjw,Xk6,Γ];rw [Nat.succ_mul];omega
        ·intro u O;rw [Xzm] at O;rcases List.mem_append.1 O with O|O
         ·exact K u O
         ·exact T u (by simpa using O)
        ·intro j u d;rw [Xzm,Xv8] at d;split at d
         ·exact h4 j u d
         ·rename_i hjl;simp only [Xjw,Xk6,Γ] at d;have h11:=(List.getElem?_eq_some_iff.1 d).1;have p:=G (j - M.flatten.length) (by omega);rw [d,Gu hs,Gu rfl] at p;refine Ie ?_ (T u (Xqr d));rw [← p,h3,hce];congr 2;have:q*l.length≤j:=by rw [← h3];omega
          simp only;omega
      obtain ⟨L,M,Q,R,N,I,h3,K,h4⟩:=key y (Θ _);have hlB:L.length≤B:=by rw [Q,← C];simpa using b2
      refine ⟨[.sl L.flatten L.length false],.slc N hlB .nil, ?_,by simp [Value.oneCell']⟩;simp only [dD,PR,and_true];refine ⟨some a,J,by rw [Q],by rw [Q];exact hlc, ?_⟩;rcases Xqb J with hc|hc
      ·have h0:y=0:=by omega
       have:L= []:=List.eq_nil_of_length_eq_zero (by omega);subst this;exact .inl ⟨fun _=>trivial,rfl,rfl,hc⟩
      ·refine .inr ⟨a.block,a.off,M.flatten, ?_,Af (by omega) I,fun j u d=> ⟨h4 j u d,K u (Xqr d)⟩⟩;have hs:=hspot hc;obtain ⟨b,o,s⟩:=a;simp only at hs;subst hs;rfl
    ·cases h
   ·cases h
  ·cases h
end
abbrev ω (x:Int):AV:= .int .i64 x
abbrev Ω (b:Bool) (n d:List UInt8):AV:= .agg [.bool b,.str n,.str d]
theorem Yq0 {p:Prop} [Decidable p]:p→decide p=true:=decide_eq_true
theorem Yq1 {p:Prop} [Decidable p]:¬p→decide p=false:=decide_eq_false
theorem Yq2 {α:Type} [BEq α] [LawfulBEq α] {a b:α}:(a==b)=false↔a≠b:=beq_eq_false_iff_ne
end AM
