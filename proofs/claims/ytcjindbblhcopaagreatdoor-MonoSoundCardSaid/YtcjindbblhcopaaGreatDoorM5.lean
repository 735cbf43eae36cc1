/- The abstract machine over the code of the model, and the proof that it is sound. No conditions. -/
import Derived.Test.YtcjindbblhcopaaGreatDoorM4
import Derived.ChangeArms
import Derived.WideShapes
import Derived.Deep.Strs
set_option linter.unusedSimpArgs false
set_option linter.unusedVariables false
open Nat renaming beq→Xqn,le_refl→φ,add_zero→Xq3,lt_of_lt_of_le→σ,sub_self→Xwk,beq_refl→Xz0,eq_of_beq_eq_true→Xjf,succ_mul→Xkl,zero_add→Θ
open List renaming map_cons→Xqc,append_nil→Xqa,mem_of_getElem?→Xqm,isEmpty_iff→Xkb,replicate→θ,length_append→κ,take_add→Yxu,drop_drop→Xjl,getElem?_eq_getElem→ξ,drop_zero→Xjq,take_length→Xqw,flatten_cons→Xza,map→Xwe,drop→ε,getElem?_drop→Xj1,getElem?_take→Xju,flatMap_cons→Xx2,flatten_append→Xwg,flatten_nil→Yqm,set_cons_succ→Xwx,take_set→Yxv,reverse_cons→Xj8,reverse_reverse→Xwa
open Bool renaming and_eq_true→π
namespace AM
open Go
structure aJ (s s':St):Prop where
 env:∀ t,s.env.get t=s'.env.get t∨s.env.get t= .dead
 hp:s.hp=s'.hp
 md:s.md=s'.md
 dfs:s.dfs=s'.dfs
theorem aJ.refl (s:St):aJ s s:=⟨fun _=> .inl rfl,rfl,rfl,rfl⟩
def Il:eZ→(Nat→AV)→Prop
 | [],_=>True
 |(t,v)::r,f=>(f t=v)∧Il r f
theorem tX {f:Nat→AV}:∀ {e:eZ},Il e f→∀ t,e.get t=f t∨e.get t= .dead
 | [],_,t=> .inr rfl
 | (u,v)::r,h,t=>by
  simp only [Il] at h;simp only [eZ.get,ax];cases a:Xqn u t with
  |true=>
   have:=aK a;subst this;exact .inl h.1.symm
  |false=>exact tX h.2 t
theorem aJ.of {e e':eZ} {hp:Hp} {md:AV} {dfs:List (Nat × List AV)} (h:Il e e'.get):aJ {env:=e,hp,md,dfs} {env:=e',hp,md,dfs}:=⟨tX h,rfl,rfl,rfl⟩
section
variable {P:Program} {ap:AP} {H:bL}
theorem FR.less {s s':St} (h:aJ s s') {nt:Nat} {m:aQ} {S:aO} {w:World} {a:Act} (b:FR ap s'.env s'.hp s'.dfs nt m S w a):FR ap s.env s.hp s.dfs nt m S w a:=by
 refine ⟨h.hp ▸ b.srel,fun t=> ?_, ?_,b.size⟩
 ·rcases h.env t with e|e
  ·rw [e,h.hp];exact b.env t
  ·rw [e];simp [VR]
 ·rw [h.hp,h.dfs];exact b.dfs
theorem ai.weak {h0:List aR} {nt:Nat} {b:Code} {s s' r r':St} {e:br} (h:ai P ap h0 nt b s e r) (hs:aJ s s') (c:aJ r' r):ai P ap h0 nt b s' e r':=by
 intro i;obtain ⟨p,t⟩:=h (hs.md ▸ i);refine ⟨c.md ▸ p,fun m0 S0 w0 m S w a f l Q k=>t m0 S0 w0 m S w a (by rw [hs.hp];exact f) (l.less hs) Q ?_⟩;intro j S' w' q n o;have:=k j S' w' q (by rw [c.hp];exact n) (o.less c);cases e with
 |normal=>exact this
 |exit id=>exact this
 |ret=>exact this
 |panic v=>intro cv d;exact this cv (by rw [c.hp];exact d)
inductive az (P:Program) (ap:AP) (h0:List aR) (nt:Nat) (b:Code) {α β:Type} (e:β→br) (st:α→St) (out:β→St):α→β→Prop where
 |done {a:α} {r:β}:ai P ap h0 nt b (st a) (e r) (out r)→az P ap h0 nt b e st out a r
 |next {a a':α} {r:β}:ai P ap h0 nt b (st a) .normal (st a')→az P ap h0 nt b e st out a' r→az P ap h0 nt b e st out a r
theorem az.rounds {h0:List aR} {nt:Nat} {b:Code} {α β:Type} {e:β→br} {j:α→St} {out:β→St} {a:α} {r:β} (d:e r ≠ .normal) (h:az P ap h0 nt b e j out a r):(j a).md= .dead→(out r).md= .dead∧∃ n,∀ m0 S0 w0 m S w c,Fr (aZ h0) m0 S0 w0 (ax (j a).hp) m S w→FR ap (j a).env (j a).hp (j a).dfs nt m S w c→∀ Q,XA ap h0 m0 S0 w0 nt (out r) (e r) Q→Code.rounds P b Q n c w:=by
 induction h with
 |@done a r hx=>
  intro i;obtain ⟨s,u⟩:=hx i;refine ⟨s,1,fun m0 S0 w0 m S w c f k Q q=>u m0 S0 w0 m S w c f k _ ?_⟩;intro p S' w' t l o;have:=q p S' w' t l o
  revert d this
  cases e r with
  |normal=>intro d _;exact absurd rfl d
  |exit id=>intro _ h;exact h
  |ret=>intro _ h;exact h
  |panic v=>intro _ h;exact h
 |next hx _ ih=>
  intro i;obtain ⟨s,u⟩:=hx i;obtain ⟨l,n,o⟩:=ih d s;refine ⟨l,n+1,fun m0 S0 w0 m S w c f k Q q=>u m0 S0 w0 m S w c f k _ ?_⟩;intro p S' w' t x y;exact o m0 S0 w0 p S' w' t x y Q q
theorem az.ok {h0:List aR} {nt:Nat} {b:Code} {α β:Type} {e:β→br} {j:α→St} {out:β→St} {a:α} {r:β} (f:e r ≠ .normal) (h:az P ap h0 nt b e j out a r):ai P ap h0 nt (.loop b) (j a) (e r) (out r):=by
 intro i;obtain ⟨o,n,p⟩:=h.rounds f i;exact ⟨o,fun m0 S0 w0 m S w c d l Q k=>wp_loop_rounds n (p m0 S0 w0 m S w c d l Q k)⟩
theorem az.blk {h0:List aR} {n id:Nat} {b:Code} {α β:Type} {e:β→br} {d:α→St} {out:β→St} {a:α} {r:β} {s s':St} {e':br} (h:∀ nt,n≤nt→az P ap h0 nt b e d out a r) (c:e r ≠ .normal) (i:ld id (e r)=e') (hs:aJ (d a) s) (k:aJ s' (out r)):aG P ap h0 n (.block id (.loop b)) s e' s':=by
 intro nt j;have f:=((h nt j).ok c).block (id:=id);rw [i] at f;exact f.weak hs k
def lc (id:Nat):Code→Option Code
 | .seq a b=>match lc id a with|some c=>some c|none=>lc id b
 | .cond _ a b=>match lc id a with|some c=>some c|none=>lc id b
 | .block i b=>match Xqn i id with|true=>some b|false=>lc id b
 | .loop b=>lc id b
 | .scope b=>lc id b
 |_=>none
def ac (id:Nat) (c:Code):Code:=match lc id c with|some (.loop b)=>b|_=> .skip
def pU (id:Nat):Code→Code
 | .seq a b=>match pU id a with| .region i o d=> .region i o d|_=>pU id b
 | .cond _ a b=>match pU id a with| .region i o d=> .region i o d|_=>pU id b
 | .block _ b=>pU id b
 | .loop b=>pU id b
 | .scope b=>pU id b
 | .region i o d=>match Xqn i id with|true=> .region i o d|false=> .skip
 |_=> .skip
end
end AM
namespace AM
open Go
def fI (x y:List AV):Prop:=∀ g m S v,aW g m S x v→aW g m S y v
def qE:AV→Bool
 | .own _ _ _=>false
 | .tup _=>false
 |_=>true
theorem aN.refl (x:AV):aN x x:=fun _ _ _ _ h=>h
theorem fI.refl (x:List AV):fI x x:=fun _ _ _ _ h=>h
theorem fI.nil:fI [] []:=fI.refl []
theorem fI.cons {x y:AV} {l r:List AV} (h:aN x y) (b:fI l r):fI (x::l) (y::r):=by
 intro g m S v a;cases v with
 |nil=>simp [aW] at a
 |cons u vs=>simp only [aW] at a ⊢;exact ⟨h g m S u a.1,b g m S vs a.2⟩
theorem aN.nilS (b:Bool) (h:b=false):aN .nilS (.sl [] 0 b):=by
 subst h;intro g m S v a;simp only [VR,PR] at a ⊢;exact ⟨none,0,a,φ _,.inl (by simp)⟩
theorem aN.sl (d:List AV) (n:Nat) (a:Bool):aN (.sl d n a) (.sl d n false):=by
 intro g m S v f;simp only [VR,PR] at f ⊢;obtain ⟨a,c,e,b,q⟩:=f;refine ⟨a,c,e,b, ?_⟩;rcases q with ⟨h,_,i⟩|q
 ·exact .inl (by simp [h,i])
 ·exact .inr q
theorem aN.dead (x:AV):aN x .dead:=fun _ _ _ _ _=>by simp only [VR]
theorem aN.agg {l r:List AV} (h:fI l r):aN (.agg l) (.agg r):=by
 intro g m S v a;simp only [VR] at a ⊢;obtain ⟨vs,e,q⟩:=a;exact ⟨vs,e,h _ _ _ _ q⟩
section
variable {P:Program} {ap:AP}
theorem aj.args {f:Nat} {args args':List AV} {h b:List aR} {out:iy} (d:fI args' args) (a:aj P ap f args h out b):aj P ap f args' h out b:=
 ⟨a.len,a.ent,fun m S w cargs c e=>a.calls m S w cargs c (d _ _ _ _ e)⟩
def gm (out out':iy):Prop:=(∀ n,iI n out=iI n out')∧∀ h' m' S' e,U_ h' m' S' out e→U_ h' m' S' out' e
theorem aj.out {f:Nat} {args:List AV} {h d:List aR} {out a:iy} (c:gm out a) (b:aj P ap f args h out d):aj P ap f args h a d:=
 ⟨b.len,b.ent,fun m S w cargs i j=>(b.calls m S w cargs i j).mono fun e w' ⟨m',S',hF⟩=> ⟨m',S',c.1 _ ▸ hF.srel,c.1 _ ▸ hF.fr,c.2 _ _ _ _ hF.out⟩⟩
theorem ib {x:AV} (h:qE x=true):∀ a k e,x ≠ .own a k e:=by intro a k e b;subst b;cases h
theorem qF {x:AV} (h:qE x=true):∀ l,x ≠ .tup l:=by intro l a;subst a;cases h
theorem gm.ret {x y:AV} (a:qE x=true) (b:qE y=true) (h:aN x y):gm (.ret x) (.ret y):=by
 refine ⟨fun n=> ?_,fun i j S' e d=> ?_⟩
 ·simp only [iI,fW n (ib a) (qF a),fW n (ib b) (qF b)]
 ·obtain ⟨cv,f,c⟩:=d;refine ⟨cv,f, ?_⟩;rw [iS (ib a) (qF a)] at c;rw [iS (ib b) (qF b)];exact h _ _ _ _ c
inductive AL:List AV→List AV→Prop where
 |nil:AL [] []
 |same {x:AV} {l r:List AV}:AL l r→AL (x::l) (x::r)
 |fit {x y:AV} {l r:List AV}:qE x=true→qE y=true→aN x y→AL l r→AL (x::l) (y::r)
theorem AL.blocks {l r:List AV} (h:AL l r):∀ n,(dM n l).2=(dM n r).2:=by
 induction h with
 |nil=>intro n;rfl
 |@same x l r _ ih=>
  intro n;rcases gp x with ⟨a,k,e,rfl⟩|hx
  ·simp only [dM];rw [ih]
  ·rw [a_ n hx,a_ n hx];exact ih n
 |fit hx hy _ _ ih=>
  intro n;rw [a_ n (ib hx),a_ n (ib hy)];exact ih n
theorem AL.outR {gh gf:bV} {m:aQ} {S:aO} {l r:List AV} (h:AL l r):∀ (n:Nat) (vs:List Value),gz gh gf m S n l vs→gz gh gf m S n r vs:=by
 induction h with
 |nil=>intro n vs a;exact a
 | @same x l r _ ih=>
  intro n vs a;cases vs with
  |nil=>simp [gz] at a
  |cons v vs=>
   rcases gp x with ⟨b,k,e,rfl⟩|hx
   ·simp only [gz] at a ⊢;exact ⟨a.1,ih _ _ a.2⟩
   ·rw [bH hx] at a ⊢;exact ⟨a.1,ih _ _ a.2⟩
 | fit hx hy hf _ ih=>
  intro n vs a;cases vs with
  |nil=>simp [gz] at a
  |cons v vs=>
   rw [bH (ib hx)] at a;rw [bH (ib hy)];exact ⟨hf _ _ _ _ a.1,ih _ _ a.2⟩
theorem gm.tup {l r:List AV} (h:AL l r):gm (.ret (.tup l)) (.ret (.tup r)):=by
 refine ⟨fun n=> ?_,fun b j S' e c=> ?_⟩
 ·simp only [iI,gW];exact h.blocks n
 ·obtain ⟨cv,d,a⟩:=c;refine ⟨cv,d, ?_⟩;simp only [sU] at a ⊢;obtain ⟨vs,f,q⟩:=a;have i:(gW b.length (.tup l)).2=(gW b.length (.tup r)).2:=by simp only [gW];exact h.blocks _
  refine ⟨vs,f, ?_⟩;rw [i] at q;exact h.outR _ _ q
end
end AM
namespace AM
open Go
def thaw:AV→AV
 | .own xs n e=> .sl (xs.take (n*e)) n true
 |x=>x
def rK:iy→iy
 | .ret (.tup l)=> .ret (.tup (l.map thaw))
 | .ret x=> .ret (thaw x)
 | .pan v=> .pan v
theorem Ah {x:AV} (h:∀ xs k e,x ≠ .own xs k e):thaw x=x:=by
 cases x<;>first|rfl|exact absurd rfl (h _ _ _)
theorem mV (x:AV):∀ a k e,thaw x ≠ .own a k e:=by
 intro a k e h;cases x<;>simp [thaw] at h
theorem sG:∀ (l:List AV) (n:Nat),(dM n (l.map thaw)).2= []
 | [],_=>rfl
 |x::r,n=>by rw [Xqc,a_ n (mV x)];exact sG r n
section
variable {P:Program} {ap:AP}
theorem vn {gh gf g':bV} {m:aQ} {S S':aO} {w:World} (o:bF ap gf m S w) {rd:bV} (c:∀ b B,rd b=some B→gf b=some B) (d:S'=bY S m rd w) (hother:∀ x v,VR gh m S x v→VR g' m S' x v):
  ∀ (l:List AV) (n:Nat) (vs:List Value),(∀ i B,(dM n l).2[i]? =some B→rd (n+i)=some B)→gz gh gf m S n l vs→gz g' g' m S' n (l.map thaw) vs
 | [],n,vs,_,h=>by cases vs with|nil=>trivial|cons _ _=>simp [gz] at h
 |x::r,n,[],_,h=>by
  exfalso;rcases gp x with ⟨j,k,e,rfl⟩|f
  ·simp [gz] at h
  ·cases x<;>simp [gz] at h
 | x ::r,n,v::vs,hb,h=>by
  rcases gp x with ⟨j,k,e,rfl⟩|f
  ·simp only [gz] at h;simp only [dM] at hb;have h0:=hb 0 _ rfl;rw [Xq3] at h0;have t:frz rd 6 (.ref n 0 0 k)=some (.sl (j.take (k*e)) k true):=by
    simp [frz,h0,Dt]
   have D:=iV o c 6 _ _ _ t h.1;rw [Xqc,bH (mV _)];refine ⟨eW _ (d ▸ D), ?_⟩;have C:=vn o c d hother r (n+1) vs (fun i B A=>by rw [show n+1+i=n+(i+1) by omega];exact hb (i+1) B (by simpa using A)) h.2;have key:∀ (l:List AV) (a b:Nat) (vs:List Value),(∀ x ∈ l,∀ j k e,x ≠ .own j k e)→gz g' g' m S' a l vs→gz g' g' m S' b l vs:=by
    intro l
    induction l with
    |nil=>intro a b vs _ h;cases vs with|nil=>trivial|cons _ _=>simp [gz] at h
    | cons y q ih=>
     intro a b vs s h;cases vs with
     |nil=>cases y<;>simp [gz] at h
     |cons u us=>
      have p:=s y (by simp);rw [bH p] at h ⊢;exact ⟨h.1,ih a b us (fun x f=>s x (by simp [f])) h.2⟩
   refine key _ (n+1) n vs ?_ C;intro y p;obtain ⟨z,_,rfl⟩:=List.mem_map.1 p;exact mV z
  ·rw [bH f] at h;rw [a_ n f] at hb;rw [Xqc,bH (mV x),Ah f];exact ⟨hother _ _ h.1,vn o c d hother r n vs hb h.2⟩
theorem aj.thaw {f:Nat} {args:List AV} {h a:List aR} {out:iy} (hp:∀ B ∈ a,B.pr=true) (L:aj P ap f args h out a):aj P ap f args h (rK out) a:=by
 refine ⟨L.len,L.ent,fun m S w cargs Y E=>(L.calls m S w cargs Y E).mono ?_⟩
 rintro e w' ⟨m',S',hF⟩
 obtain ⟨s,j,z⟩:=hF;have y:∀ n,iI n (rK out)= []:=by
  intro n;cases out with
  |pan v=>rfl
  | ret x=>
   rcases vG x with ⟨l,rfl⟩|ht
   ·simp only [rK,iI,gW];exact sG l n
   ·have:rK (.ret x)= .ret (AM.thaw x):=by cases x<;>first|rfl|exact absurd rfl (ht _)
    rw [this];simp only [iI];have D:∀ l,AM.thaw x ≠ .tup l:=by intro l K;cases x<;>simp [AM.thaw] at K;exact ht _ rfl
    rw [fW n (mV x) D]
 let rd:bV:=fun b=>if a.length≤b then aZ (a++iI a.length out) b else none
 have u:∀ b B,rd b=some B→aZ (a++iI a.length out) b=some B:=by
  intro b B c;simp only [rd] at c;split at c
  ·exact c
  ·cases c
 have r:=jP S' m' rd w';have p:∀ b B,aZ a b=some B→aZ (a++iI a.length out) b=some B:=by
  intro b B c;have:b<a.length:=(List.getElem?_eq_some_iff.1 c).1;rw [du this];exact c
 have hother:∀ x v,VR (aZ a) m' S' x v→VR (aZ (a++iI a.length (rK out))) m' (bY S' m' rd w') x v:=by
  intro x v G;rw [y,Xqa];exact kW r (Ge.refl _ _) x G
 refine ⟨m',bY S' m' rd w', ?_, ?_, ?_⟩
 ·rw [y,Xqa];refine ⟨fun b C B B' c Q=>s.inj b C B B' (p b B c) (p C B' Q), ?_,fun k o v E=>lD s E, ?_, ?_⟩
  ·intro b B c;obtain ⟨⟨cur,e,vs,rest,d,t,F,T,J,Z⟩,hz,R⟩:=s.blk b B (p b B c);have M:=hp B (Xqm c);refine ⟨⟨cur,e,vs,rest,d,t,fun _=>bk r _ (F M),bu _ (bk r _ (F M)),J,Z⟩,hz,R⟩
  ·intro b B c o v E;rcases dO E with d|⟨d,C,B',t,F,T⟩
   ·exact s.own b B (p b B c) o v d
   ·have:=s.inj b C B B' (p b B c) (u _ _ t) F.symm;subst this;have A:b<a.length:=(List.getElem?_eq_some_iff.1 c).1;simp only [rd] at t;rw [if_neg (by omega)] at t;cases t
  ·intro k O U;obtain ⟨vs,d,t⟩:=s.glob k O U;exact ⟨vs,bk r _ d,t.mono r⟩
 ·rw [y,Xqa];refine ⟨?_,jF.trans j.sle r,j.os,j.tape,j.output,j.size,j.rest,fun b B c=>j.img b B (p b B c), ?_⟩
  ·intro b B c;obtain ⟨B',d,t⟩:=j.ge b B c;have A:b<a.length:=σ (List.getElem?_eq_some_iff.1 c).1 L.len;rw [du A] at d;exact ⟨B',d,t⟩
  ·intro k o v E;rcases dO E with d|⟨d,C,B',t,F,T⟩
   ·exact j.sealN k o v d
   ·rcases j.img C B' (u _ _ t) with J|⟨B0,J,_⟩
    ·exact .inr (.inl (F ▸ J))
    ·exfalso;have A:C<h.length:=(List.getElem?_eq_some_iff.1 J).1;simp only [rd] at t;rw [if_neg (by have:=L.len;omega)] at t;cases t
 ·have I:∀ l,out= .ret (.tup l)→∀ i B,(dM a.length l).2[i]? =some B→rd (a.length+i)=some B:=by
   intro l K i B X;subst K;simp only [rd];rw [if_pos (by omega),fR (by omega),show a.length+i - a.length=i by omega];exact X
  cases out with
  |pan v=>
   obtain ⟨cv,N,d⟩:=z;refine ⟨cv,N, ?_⟩;have:=hother v cv d;rwa [y,Xqa] at this
  | ret x=>
   obtain ⟨cv,N,d⟩:=z;rcases vG x with ⟨l,rfl⟩|ht
   ·simp only [sU] at d;obtain ⟨vs,V,q⟩:=d;refine ⟨cv,N, ?_⟩;simp only [sU];refine ⟨vs,V, ?_⟩;have c:(gW a.length (.tup (l.map AM.thaw))).2= []:=by simp only [gW];exact sG l _
    rw [c,Xqa];have:=vn (gh:=aZ a) (g':=aZ a) s u rfl (fun x v G=>kW r (Ge.refl _ _) x G) l a.length vs (I l rfl) q;exact this
   ·have e3:rK (.ret x)= .ret (AM.thaw x):=by cases x<;>first|rfl|exact absurd rfl (ht _)
    have D:∀ l,AM.thaw x ≠ .tup l:=by intro l K;cases x<;>simp [AM.thaw] at K;exact ht _ rfl
    rw [e3];refine ⟨cv,N, ?_⟩;rw [iS (mV x) D];rcases gp x with ⟨O,k,e,rfl⟩|G
    ·simp only [sU] at d;have h0:rd a.length=some (Dt O e):=by
      simp only [rd];rw [if_pos (φ _),fR (φ _),Xwk];rfl
     have W:frz rd 6 (.ref a.length 0 0 k)=some (.sl (O.take (k*e)) k true):=by
      simp [frz,h0,Dt]
     have:=iV s u 6 _ _ _ W d;exact eW _ this
    ·rw [iS G ht] at d;rw [Ah G];exact kW r (Ge.refl _ _) x d
end
end AM
namespace AM
open Go
structure mf (s s':St):Prop where
 env:∀ t,aN (s'.env.get t) (s.env.get t)
 hp:s.hp=s'.hp
 md:s.md=s'.md
 dfs:s.dfs=s'.dfs
theorem mf.refl (s:St):mf s s:=⟨fun _=>aN.refl _,rfl,rfl,rfl⟩
def CR:eZ→(Nat→AV)→Prop
 | [],_=>True
 |(t,v)::r,f=>aN (f t) v∧CR r f
theorem rq {f:Nat→AV}:∀ {e:eZ},CR e f→∀ t,aN (f t) (e.get t)
 | [],_,t=>aN.dead _
 | (u,v)::r,h,t=>by
  simp only [CR] at h;simp only [eZ.get,ax];cases a:Xqn u t with
  |true=>
   have:=aK a;subst this;exact h.1
  |false=>exact rq h.2 t
theorem mf.of {e e':eZ} {hp:Hp} {md:AV} {dfs:List (Nat × List AV)} (h:CR e e'.get):mf {env:=e,hp,md,dfs} {env:=e',hp,md,dfs}:=⟨rq h,rfl,rfl,rfl⟩
section
variable {P:Program} {ap:AP}
theorem FR.lessF {s s':St} (h:mf s s') {nt:Nat} {m:aQ} {S:aO} {w:World} {a:Act} (b:FR ap s'.env s'.hp s'.dfs nt m S w a):FR ap s.env s.hp s.dfs nt m S w a:=by
 refine ⟨h.hp ▸ b.srel,fun t=> ?_, ?_,b.size⟩
 ·have:=h.env t _ _ _ _ (b.env t);rw [h.hp];exact this
 ·rw [h.hp,h.dfs];exact b.dfs
theorem ai.weakF {h0:List aR} {nt:Nat} {b:Code} {s s' r r':St} {e:br} (h:ai P ap h0 nt b s e r) (hs:mf s s') (c:mf r' r):ai P ap h0 nt b s' e r':=by
 intro i;obtain ⟨p,t⟩:=h (hs.md ▸ i);refine ⟨c.md ▸ p,fun m0 S0 w0 m S w a f l Q k=>t m0 S0 w0 m S w a (by rw [hs.hp];exact f) (l.lessF hs) Q ?_⟩;intro j S' w' q n o;have:=k j S' w' q (by rw [c.hp];exact n) (o.lessF c);cases e with
 |normal=>exact this
 |exit id=>exact this
 |ret=>exact this
 |panic v=>intro cv d;exact this cv (by rw [c.hp];exact d)
theorem az.blkF {h0:List aR} {n id:Nat} {b:Code} {α β:Type} {e:β→br} {d:α→St} {out:β→St} {a:α} {r:β} {s s':St} {e':br} (h:∀ nt,n≤nt→az P ap h0 nt b e d out a r) (c:e r ≠ .normal) (i:ld id (e r)=e') (hs:mf (d a) s) (k:mf s' (out r)):aG P ap h0 n (.block id (.loop b)) s e' s':=by
 intro nt j;have f:=((h nt j).ok c).block (id:=id);rw [i] at f;exact f.weakF hs k
end
end AM
namespace AM
open Go
def tM (b:Nat) (c v:Nat):Option (Nat × Nat):=match Xqn c b with|true=>none|false=>some (c,v)
inductive Fz (b:Nat) (B:aR):AV→AV→Prop
 |ren {x:AV}:Fz b B x (ren (tM b) x)
 |ref {i n:Nat}:Fz b B (.ref b B.ver i n) (.sl ((B.cells.drop (i*B.esz)).take (n*B.esz)) n true)
 |fit {x y z:AV}:Fz b B x y→aN y z→Fz b B x z
inductive Uc (b:Nat) (B:aR):List AV→List AV→Prop
 |nil:Uc b B [] []
 |cons {x y:AV} {l r:List AV}:Fz b B x y→Uc b B l r→Uc b B (x::l) (y::r)
theorem Fz.same {b:Nat} {B:aR} {x:AV} (h:AM.ren (tM b) x=x):Fz b B x x:=by
 have:=Fz.ren (b:=b) (B:=B) (x:=x);rwa [h] at this
theorem Fz.dead {b:Nat} {B:aR} (x:AV):Fz b B x .dead:= .fit .ren (aN.dead _)
theorem Uc.length {b:Nat} {B:aR} {l r:List AV} (h:Uc b B l r):l.length=r.length:=by
 induction h with
 |nil=>rfl
 |cons _ _ ih=>simp [ih]
structure D3 (b:Nat) (B:aR) (C C':aR):Prop where
 ver:C'.ver=C.ver
 fro:C'.fro=C.fro
 fz:C'.fz=C.fz
 esz:C'.esz=C.esz
 body:(C.pr=true∧C'.cells=C.cells∧C'.pr=true)∨(Uc b B C.cells C'.cells∧(C'.pr=true→(bE C'.cells).isEmpty=true))
theorem D3.same {b:Nat} {B C:aR} (hp:C.pr=true):D3 b B C C:=⟨rfl,rfl,rfl,rfl,.inl ⟨hp,rfl,hp⟩⟩
theorem D3.length {b:Nat} {B C C':aR} (h:D3 b B C C'):C.cells.length=C'.cells.length:=by
 rcases h.body with ⟨_,e,_⟩|⟨e,_⟩
 ·rw [e]
 ·exact e.length
section
variable {P:Program} {ap:AP} {g:bV} {m:aQ} {S:aO} {w:World}
def jA (b:Nat) (B:aR):bV:=fun c=>match Xqn c b with|true=>some B|false=>none
theorem nM {b c:Nat} {B C:aR} (h:jA b B c=some C):c=b∧C=B:=by
 unfold jA at h;split at h
 ·rename_i a;cases h;exact ⟨aK a,rfl⟩
 ·cases h
theorem Hm (b:Nat) (B:aR):jA b B b=some B:=by unfold jA;rw [Xz0]
theorem Fz.sound {b:Nat} {B:aR} (k:bF ap g m S w) (o:g b=some B) (f:B.pr=true) {g':bV} (l:ol g m g' m (tM b)) {x y:AV} (h:Fz b B x y):∀ {v:Value},VR g m S x v→VR g' m (bY S m (jA b B) w) y v:=by
 have d:∀ c C,jA b B c=some C→g c=some C:=by
  intro c C j;obtain ⟨rfl,rfl⟩:=nM j;exact o
 induction h with
 |ren=>intro v a;exact uK (jP S m (jA b B) w) l _ a
 | @ref i n=>
  intro v a;have e:frz (jA b B) 6 (.ref b B.ver i n)=some (.sl ((B.cells.drop (i*B.esz)).take (n*B.esz)) n true):=by
   simp [frz,Hm,f]
  exact eW _ (iV k d 6 _ _ _ e a)
 |fit _ e ih=>intro v a;exact e _ _ _ _ (ih a)
theorem Uc.sound {b:Nat} {B:aR} (d:bF ap g m S w) (f:g b=some B) (c:B.pr=true) {g':bV} (e:ol g m g' m (tM b)) {l r:List AV} (h:Uc b B l r):∀ {vs:List Value},aW g m S l vs→aW g' m (bY S m (jA b B) w) r vs:=by
 induction h with
 |nil=>intro vs a;cases vs with|nil=>simp [aW]|cons _ _=>simp [aW] at a
 | cons hx _ ih=>
  intro vs a;cases vs with
  |nil=>simp [aW] at a
  |cons v vs=>
   simp only [aW] at a ⊢;exact ⟨hx.sound d f c e a.1,ih a.2⟩
theorem qY:∀ {l:List AV} {vs:List Value},(bE l).isEmpty=true→aW g m S l vs→bZ S l vs
 | [],[],_,_=>by simp [bZ]
 |x::l,v::vs,h,hv=>by
  simp only [bE,Xkb,List.append_eq_nil_iff] at h;rw [← Xkb,← Xkb] at h;simp only [aW] at hv;simp only [bZ];exact ⟨jE h.1 hv.1,qY h.2 hv.2⟩
 | [],_::_,_,hv=>by simp [aW] at hv
 |_::_,[],_,hv=>by simp [aW] at hv
theorem Bd {g g':bV} {m c:aQ} {S S':aO} {ρ:Nat→Nat→Option (Nat × Nat)} (b:jF S S') (e:ol g m g' c ρ):∀ {l:List (Nat × List AV)} {ds:List Deferred},eQ g m S l ds→eQ g' c S' (l.map fun d=>(d.1,ju ρ d.2)) ds
 | [],[],_=>by simp only [List.map_nil,eQ]
 |d::r,cd::cr,h=>by
  simp only [eQ] at h;simp only [Xqc,eQ];obtain ⟨⟨a,f,j⟩,i⟩:=h;exact ⟨⟨a,f,iB b e _ j⟩,Bd b e i⟩
 | [],_::_,h=>by simp [eQ] at h
 |_::_,[],h=>by simp [eQ] at h
theorem ED {h0:List aR} {nt:Nat} {r r':St} {m0 h:aQ} {S0 S':aO} {w0 w':World} {W:Act} (b:Nat) (B:aR) (hb0:h0.length≤b) (E:ax r.hp b=some B) (z:B.pr=true)
  (hd:r'.dfs=r.dfs.map fun d=>(d.1,ju (tM b) d.2))
  (henv:∀ t,Fz b B (r.env.get t) (r'.env.get t))
  (hdom:∀ c C',ax r'.hp c=some C'→c ≠ b∧∃ C,ax r.hp c=some C∧D3 b B C C')
  (hall:∀ c C,c ≠ b→ax r.hp c=some C→∃ C',ax r'.hp c=some C')
  (h5:Fr (aZ h0) m0 S0 w0 (ax r.hp) h S' w') (h6:FR ap r.env r.hp r.dfs nt h S' w' W):
  ∃ S2,Fr (aZ h0) m0 S0 w0 (ax r'.hp) h S2 w'∧FR ap r'.env r'.hp r'.dfs nt h S2 w' W:=by
 have f:=h6.srel;have n:=jP S' h (jA b B) w';have Z:∀ c C,jA b B c=some C→ax r.hp c=some C:=by
  intro c C i;obtain ⟨rfl,rfl⟩:=nM i;exact E
 have j:ol (ax r.hp) h (ax r'.hp) h (tM b):=by
  intro c ver L X hρ C s q;unfold tM at hρ;split at hρ
  ·cases hρ
  ·rename_i O;cases hρ;have u:c ≠ b:=by intro e;subst e;simp at O
   obtain ⟨C',l⟩:=hall c C u s;obtain ⟨_,C2,p,a⟩:=hdom c C' l;rw [s] at p;cases p;exact ⟨C',l,by rw [a.ver];exact q,fun e=> ⟨by rw [← a.ver];exact e,rfl,a.esz⟩⟩
 have U:bF ap (ax r'.hp) h (bY S' h (jA b B) w') w':=by
  refine ⟨?_, ?_,fun k o v q=>lD f q, ?_, ?_⟩
  ·intro c L C C' i K hm;obtain ⟨_,D,hD,_⟩:=hdom c C i;obtain ⟨_,D',N,_⟩:=hdom L C' K;exact f.inj c L D D' hD N hm
  ·intro c C' i;obtain ⟨_,C,s,a⟩:=hdom c C' i;obtain ⟨⟨cur,ee,vs,rest,k1,k2,k3,k4,k5,k6⟩,hz,V⟩:=f.blk c C s;have A:(C'.pr=true→bZ (bY S' h (jA b B) w') C'.cells vs)∧aW (ax r'.hp) h (bY S' h (jA b B) w') C'.cells vs:=by
    rcases a.body with ⟨Q,T,q3⟩|⟨Q,T⟩
    ·have:=bk n _ (k3 Q);rw [T];exact ⟨fun _=>this,bu _ this⟩
    ·have q:=Q.sound f E z j k4;exact ⟨fun hp=>qY (T hp) q,q⟩
   exact ⟨⟨cur,ee,vs,rest,by rw [a.esz];exact k1,k2,A.1,A.2,by rw [a.esz];exact k5,fun hp=>by rw [a.esz] at hp ⊢;exact k6 hp⟩,fun hp=>by rw [a.fz];exact hz (by rw [← a.fro];exact hp),by rw [a.fz,← a.length];exact V⟩
  ·intro c C' i o v q;obtain ⟨u,C,s,a⟩:=hdom c C' i;rw [a.fro,a.fz];rcases dO q with F|⟨F,G,B',J,M,h4⟩
   ·exact f.own c C s o v F
   ·obtain ⟨rfl,rfl⟩:=nM J;exact absurd (f.inj c G C B' s E M.symm) u
  ·intro k xs Y;obtain ⟨vs,k1,k2⟩:=f.glob k xs Y;exact ⟨vs,bk n _ k1,k2.mono n⟩
 have x:Fr (aZ h0) m0 S0 w0 (ax r'.hp) h (bY S' h (jA b B) w') w':=by
  refine ⟨?_,jF.trans h5.sle n,h5.os,h5.tape,h5.output,h5.size,h5.rest, ?_, ?_⟩
  ·intro c C i;have hlt:c<h0.length:=(List.getElem?_eq_some_iff.1 i).1;obtain ⟨C1,y,e1,e2⟩:=h5.ge c C i;obtain ⟨C',l⟩:=hall c C1 (by omega) y;obtain ⟨_,C2,p,a⟩:=hdom c C' l;rw [y] at p;cases p;exact ⟨C',l,by rw [a.esz];exact e1,by rw [a.ver];exact e2⟩
  ·intro c C' i;obtain ⟨_,C,s,_⟩:=hdom c C' i;exact h5.img c C s
  ·intro k o v q;rcases dO q with F|⟨F,G,B',J,M,h4⟩
   ·exact h5.sealN k o v F
   ·obtain ⟨rfl,rfl⟩:=nM J;rcases h5.img G B' E with R|⟨B0,R,_⟩
    ·exact .inr (.inl (M ▸ R))
    ·have:G<h0.length:=(List.getElem?_eq_some_iff.1 R).1;omega
 have I:FR ap r'.env r'.hp r'.dfs nt h (bY S' h (jA b B) w') w' W:=by
  refine ⟨U,fun t=>(henv t).sound f E z j (h6.env t), ?_,h6.size⟩;rw [hd];exact Bd n j h6.dfs
 exact ⟨_,x,I⟩
theorem ai.freeze {h0:List aR} {nt:Nat} {f:Code} {s r r':St} {e:br} (b:Nat) (B:aR) (h:ai P ap h0 nt f s e r) (o:∀ v,e ≠ .panic v) (n:h0.length≤b) (x:ax r.hp b=some B) (l:B.pr=true)
  (hmd:r'.md=r.md) (hd:r'.dfs=r.dfs.map fun d=>(d.1,ju (tM b) d.2))
  (henv:∀ t,Fz b B (r.env.get t) (r'.env.get t))
  (hdom:∀ c C',ax r'.hp c=some C'→c ≠ b∧∃ C,ax r.hp c=some C∧D3 b B C C')
  (hall:∀ c C,c ≠ b→ax r.hp c=some C→∃ C',ax r'.hp c=some C'):ai P ap h0 nt f s e r':=by
 intro hs;obtain ⟨A,E⟩:=h hs;refine ⟨hmd ▸ A,fun m0 S0 w0 m S w a k p Q z=>E m0 S0 w0 m S w a k p Q ?_⟩;intro y S' w' D q u;obtain ⟨S2,i,j⟩:=ED b B n x l hd henv hdom hall q u;have:=z y S2 w' D i j;cases e with
 |normal=>exact this
 |exit id=>exact this
 |ret=>exact this
 |panic v=>exact absurd rfl (o v)
def Kf (b:Nat) (B:aR):eZ→(Nat→AV)→Prop
 | [],_=>True
 |(t,v)::r,f=>Fz b B (f t) v∧Kf b B r f
theorem lj {b:Nat} {B:aR} {f:Nat→AV}:∀ {e:eZ},Kf b B e f→∀ t,Fz b B (f t) (e.get t)
 | [],_,t=>Fz.dead _
 | (u,v)::r,h,t=>by
  simp only [Kf] at h;simp only [eZ.get,ax];cases a:Xqn u t with
  |true=>
   have:=aK a;subst this;exact h.1
  |false=>exact lj h.2 t
def GV (b:Nat) (B:aR):Hp→Hp→Prop
 | [],l=>l= [(b,B)]
 |(c,C)::r,(d,D)::l=>c=d∧D3 b B D C∧c ≠ b∧GV b B r l
 |_::_,[]=>False
theorem xc {b:Nat} {B:aR}:∀ {r l:Hp},GV b B r l→∀ c C',ax r c=some C'→c ≠ b∧∃ C,ax l c=some C∧D3 b B C C'
 | [],l,_,c,C',hc=>by simp [ax] at hc
 | (d,D)::r,(d',D')::l,h,c,C',hc=>by
  simp only [GV] at h;obtain ⟨rfl,i,f,e⟩:=h;simp only [ax] at hc ⊢;cases a:Xqn d c with
  |true=>
   rw [a] at hc;have:=aK a;subst this;cases hc;exact ⟨f,D',rfl,i⟩
  |false=>
   rw [a] at hc;exact xc e c C' hc
 |_::_,[],h,_,_,_=>by simp [GV] at h
theorem w_ {b:Nat} {B:aR}:∀ {r l:Hp},GV b B r l→∀ c C,c ≠ b→ax l c=some C→∃ C',ax r c=some C'
 | [],l,h,c,C,hcb,hc=>by
  simp only [GV] at h;subst h;simp only [ax] at hc;split at hc
  ·rename_i a;exact absurd (aK a).symm hcb
  ·cases hc
 |(d,D)::r,(d',D')::l,h,c,C,hcb,hc=>by
  simp only [GV] at h;obtain ⟨rfl,i,f,e⟩:=h;simp only [ax] at hc ⊢;cases a:Xqn d c with
  |true=>exact ⟨D,rfl⟩
  |false=>rw [a] at hc;exact w_ e c C hcb hc
 |_::_,[],h,_,_,_,_=>by simp [GV] at h
theorem ub {b:Nat} {B:aR}:∀ {r l:Hp},GV b B r l→ax l b=some B
 | [],l,h=>by
  simp only [GV] at h;subst h;simp [ax]
 |(d,D)::r,(d',D')::l,h=>by
  simp only [GV] at h;obtain ⟨rfl,f,e,c⟩:=h;simp only [ax];cases a:Xqn d b with
  |true=>exact absurd (aK a) e
  |false=>exact ub c
 |_::_,[],h=>by simp [GV] at h
theorem ai.forget {h0:List aR} {nt:Nat} {a:Code} {s:St} {e:br} (b:Nat) (B:aR) {f en':eZ} {hp hp':Hp} {md:AV} (h:ai P ap h0 nt a s e {env:=f,hp,md,dfs:= []}) (i:∀ v,e ≠ .panic v) (d:h0.length≤b) (c:B.pr=true)
  (henv:Kf b B en' (eZ.get f)) (hhp:GV b B hp' hp):ai P ap h0 nt a s e {env:=en',hp:=hp',md,dfs:= []}:=
 h.freeze b B i d (ub hhp) c rfl rfl (lj henv) (xc hhp) (w_ hhp)
theorem ai.forgetD {h0:List aR} {nt:Nat} {a:Code} {s:St} {e:br} (b:Nat) (B:aR) {i en':eZ} {hp hp':Hp} {md:AV} {dfs:List (Nat × List AV)} (h:ai P ap h0 nt a s e {env:=i,hp,md,dfs}) (j:∀ v,e ≠ .panic v) (f:h0.length≤b) (c:B.pr=true)
  (henv:Kf b B en' (eZ.get i)) (hhp:GV b B hp' hp) (hd:dfs.map (fun d=>(d.1,ju (tM b) d.2))=dfs):ai P ap h0 nt a s e {env:=en',hp:=hp',md,dfs}:=
 h.freeze b B j f (ub hhp) c rfl hd.symm (lj henv) (xc hhp) (w_ hhp)
end
end AM
namespace AM
open Go
def ym (P:Program) (f:TypeId→Option (List LK)):List Field→Nat→Option (List LK)
 | [],_=>some []
 | x::r,off=>match f x.type with
  |some l=>match Xqn x.offset off && Xqn (P.cellsOf x.type) l.length with
   |true=>match ym P f r (off+l.length) with|some q=>some (l++q)|none=>none
   |false=>none
  |none=>none
def BF (P:Program):Nat→TypeId→Option (List LK)
 |0,_=>none
 | n+1,t=>match P.underlying t with
  |some (.int k)=>some [.int k]
  |some .bool=>some [.bool]
  |some .string=>some [.str]
  |some (.struct fs)=>match ym P (BF P n) fs.toList 0 with
   |some l=>match Xqn (P.cellsOf t) l.length with|true=>some l|false=>none
   |none=>none
  |some (.array m e)=>match BF P n e with
   |some l=>match Xqn (P.cellsOf e) l.length && Xqn (P.cellsOf t) (m*l.length) with|true=>some (θ m l).flatten|false=>none
   |none=>none
  |_=>none
inductive dJ:List LK→List Value→Prop
 |nil:dJ [] []
 |int {k:IntKind} {n:Int} {r:List LK} {l:List Value}:dJ r l→dJ (.int k::r) (.int k n::l)
 |bool {b:Bool} {r:List LK} {l:List Value}:dJ r l→dJ (.bool::r) (.bool b::l)
 |str {s:ByteArray} {r:List LK} {l:List Value}:dJ r l→dJ (.str::r) (.string s::l)
theorem dJ.app {a b:List LK} {x y:List Value} (h:dJ a x) (c:dJ b y):dJ (a++b) (x++y):=by
 induction h with
 |nil=>exact c
 |int _ ih=>exact .int ih
 |bool _ ih=>exact .bool ih
 |str _ ih=>exact .str ih
theorem dJ.length {a:List LK} {x:List Value} (h:dJ a x):a.length=x.length:=by
 induction h with
 |nil=>rfl
 |int _ ih=>simp [ih]
 |bool _ ih=>simp [ih]
 |str _ ih=>simp [ih]
def lJ:Value→AV
 | .int k n=> .int k n
 | .bool b=> .bool b
 | .string s=> .str s.data.toList
 |_=> .dead
theorem dJ.pr {S:aO} {a:List LK} {x:List Value} (h:dJ a x):bZ S (x.map lJ) x:=by
 induction h with
 |nil=>simp [bZ]
 |int _ ih=>simp only [Xqc,bZ];exact ⟨by simp [lJ,PR],ih⟩
 |bool _ ih=>simp only [Xqc,bZ];exact ⟨by simp [lJ,PR],ih⟩
 |@str s _ _ _ ih=>simp only [Xqc,bZ];exact ⟨by simp [lJ,PR],ih⟩
theorem dJ.one {a:List LK} {x:List Value} (h:dJ a x):∀ u ∈ x,u.oneCell'=true:=by
 induction h with
 |nil=>intro u b;cases b
 |int _ ih=>
  intro u b;rcases List.mem_cons.1 b with rfl|b
  ·rfl
  ·exact ih u b
 |bool _ ih=>
  intro u b;rcases List.mem_cons.1 b with rfl|b
  ·rfl
  ·exact ih u b
 |str _ ih=>
  intro u b;rcases List.mem_cons.1 b with rfl|b
  ·rfl
  ·exact ih u b
section
variable {H:Type} {enc:TypeId × Value→H} {P:Program} {w:World} {base:Nat} {spare:Nat→Bool} {held:Bool}
theorem vO {n:Nat} {f:TypeId→Option (List LK)} (d:∀ t ks,f t=some ks→∀ (fuel:Nat) (a:List Value) (x:DataW H × List MemPlace),DataW.trod enc P w base spare held fuel t a=some x→dJ ks a) {a:List Value}:∀ (r:List Field) (off:Nat) (ks:List LK),ym P f r off=some ks→
  (∀ (i:Nat) (x:Field),r[i]? =some x→∃ y,DataW.trod enc P w base spare held n x.type ((a.drop x.offset).take (P.cellsOf x.type))=some y)→dJ ks ((a.drop off).take ks.length)
 | [],off,ks,h,_=>by
  simp only [ym] at h;cases h;simpa using dJ.nil
 | x ::r,off,ks,h,hx=>by
  simp only [ym] at h;split at h
  ·rename_i l s;split at h
   ·rename_i b;simp only [π] at b;have e:=Xjf b.1;have j:=Xjf b.2;split at h
    ·rename_i q k;cases h;obtain ⟨y,o⟩:=hx 0 x rfl;have c:=d _ _ s _ _ _ o;rw [e,j] at c;have u:=vO d r (off+l.length) q k (fun i f p=>hx (i+1) f (by simpa using p));rw [κ,Yxu,Xjl];exact c.app u
    ·cases h
   ·cases h
  ·cases h
theorem Kl:∀ (n:Nat) (t:TypeId) (ks:List LK),BF P n t=some ks→∀ (d:Nat) (y:List Value) (x:DataW H × List MemPlace),DataW.trod enc P w base spare held d t y=some x→dJ ks y:=by
 intro n
 induction n with
 |zero=>intro t ks h;simp [BF] at h
 | succ n ih=>
  intro t ks h d y x u;simp only [BF] at h;split at h
  ·rename_i k c;cases h;obtain ⟨m,rfl,_⟩:=DataW.trod_int c u;exact .int .nil
  ·rename_i c;cases h;obtain ⟨b,rfl,_⟩:=DataW.trod_bool c u;exact .bool .nil
  ·rename_i c;cases h;obtain ⟨s,rfl,_⟩:=DataW.trod_string c u;exact .str .nil
  ·rename_i G c;split at h
   ·rename_i l A;split at h
    ·rename_i v;cases h;obtain ⟨E,m,rfl,_,a,p,z⟩:=DataW.trod_struct c u;have e:=Xjf v;have D:=vO (n:=m) ih G.toList 0 ks A (fun i f J=>by
      have r:G[i]? =some f:=by simpa using J
      have o:=z i f r;have B:i<E.length:=by rw [p];exact (Array.getElem?_eq_some_iff.1 r).1
      rw [ξ B] at o;exact ⟨_,o⟩)
     rw [Xjq,← e,← a,Xqw] at D;exact D
    ·cases h
   ·cases h
  ·rename_i m e c;split at h
   ·rename_i l A;split at h
    ·rename_i v;cases h;simp only [π] at v;have L:=Xjf v.1;have I:=Xjf v.2;obtain ⟨E,q,rfl,_,a,p,z⟩:=DataW.trod_array c u;have key:∀ j,j≤m→dJ (θ j l).flatten ((y.drop ((m - j)*l.length)).take (j*l.length)):=by
      intro j
      induction j with
      |zero=>intro _;simpa using dJ.nil
      | succ j ihj=>
       intro N;have o:=z (m - (j+1)) (by omega);rw [ξ (by omega)] at o;have F:=ih _ _ A _ _ _ o;rw [L] at F;have M:=ihj (by omega);rw [List.replicate_succ,Xza,Nat.add_mul,Nat.one_mul,Nat.add_comm (j*l.length),Yxu,Xjl];have K:(m - (j+1))*l.length+l.length=(m - j)*l.length:=by
        rw [← Xkl];congr 1;omega
       rw [K];exact F.app M
     have C:=key m (φ _);rw [Xwk,Nat.zero_mul,Xjq,← I,← a,Xqw] at C;exact C
    ·cases h
   ·cases h
  ·cases h
end
end AM
namespace AM
open Go
def tj:Nat→Nat→List Bool
 |0,_=> []
 |n+1,k=>Xqn (k % 2) 1::tj n (k / 2)
def Pr:Nat→List Bool→List Bool
 |0,l=>l
 |n+1,l=>true::Pr n l
theorem jk.n (k:Nat) {l:List Bool} (h:jk l):jk (Pr k l):=by
 induction k with
 |zero=>exact h
 |succ k ih=>exact .t ih
theorem jk.k (k:Nat) {b:Bool} {l:List Bool} (a:b=true) (h:jk l):jk (Pr k (b::l)):= .n k (.c a h)
theorem tf (b:Bool):b=true∨b=false:=by cases b<;>simp
theorem aw {b:Bool} (h:b=true):lit true b=true:=h
theorem ay {b:Bool} (h:b=false):lit false b=true:=by subst h;rfl
theorem bi {b:Bool} (h:b=false):lit true (!b)=true:=by subst h;rfl
theorem aA {b:Bool} (h:b=true):lit false (!b)=true:=by subst h;rfl
inductive PS (P:Program) (ap:AP):List Prop→List (iy × List aR)→sQ→List qP→Prop where
 |nil:PS P ap [] [] [] []
 |c {f:Nat} {args:List AV} {h h':List aR} {out:iy} {ps:List Prop} {ans:List (iy × List aR)} {lps:sQ} {hs:List qP}:aj P ap f args h out h'→PS P ap ps ans lps hs→PS P ap (aj P ap f args h out h'::ps) (ans++ [(out,h')]) lps hs
 |l {h0:List aR} {n:Nat} {code:Code} {s s':St} {e:br} {ps:List Prop} {ans:List (iy × List aR)} {lps:sQ} {hs:List qP}:aG P ap h0 n code s e s'→PS P ap ps ans lps hs→PS P ap (aG P ap h0 n code s e s'::ps) ans (lps++ [(e,s')]) hs
 |v (d:Nat) {x y:AV} {ps:List Prop} {ans:List (iy × List aR)} {lps:sQ} {hs:List qP}:aN x y→PS P ap ps ans lps hs→PS P ap (aN x y::ps) ans lps (hs++ [.v d y])
 |b (d:Nat) {x y:List AV} {ps:List Prop} {ans:List (iy × List aR)} {lps:sQ} {hs:List qP}:x=y→PS P ap ps ans lps hs→PS P ap ((x=y)::ps) ans lps (hs++ [.b d y])
 |u (d:Nat) {x y:List (Option aR)} {ps:List Prop} {ans:List (iy × List aR)} {lps:sQ} {hs:List qP}:x=y→PS P ap ps ans lps hs→PS P ap ((x=y)::ps) ans lps (hs++ [.u d])
theorem PS.all {P:Program} {ap:AP} {ps:List Prop} {ans:List (iy × List aR)} {a:sQ} {hs:List qP} (h:PS P ap ps ans a hs):DX ps:=by
 induction h with
 |nil=>exact .nil
 |c h _ ih=>exact .cons h ih
 |l h _ ih=>exact .cons h ih
 |v _ h _ ih=>exact .cons h ih
 |b _ h _ ih=>exact .cons h ih
 |u _ h _ ih=>exact .cons h ih
theorem ck {P:Program} {ap:AP} (g:xC P ap) {ans:List (iy × List aR)} {ps:List Prop} {f:Nat} {args:List AV} {h a:List aR} {out:iy} (hp:PS P ap ps ans [] [])
  (he:oN ap (sJ P ap 3000 4) 3000 .dead f args h ⟨true,[],[],[],ans,[]⟩= .ok (out,a,.dead) ⟨true,[],[],ps,[],[]⟩):aj P ap f args h out a:=Bv g hp.all he
theorem pk {P:Program} {ap:AP} (g:xC P ap) (e:List Nat) (n k:Nat) {ans:List (iy × List aR)} {a:sQ} {hs:List qP} {bs:List Bool} {ps:List Prop} {f:Nat} {args:List AV} {h b:List aR} {out:iy}
  (hb:jk bs) (hp:PS P ap ps ans a hs) (he:H7 P ap (sJ P ap 3000 4) 3000 e f args h a ⟨false,tj n k,[],[],ans,hs⟩= .ok (out,b,.dead) ⟨false,[],bs,ps,[],[]⟩):aj P ap f args h out b:=by
 obtain ⟨c,d⟩:=iZ g.apok g.mixed g.fnok 3000 4;exact L8 g.apok g.mixed g.fnok c d he ⟨hb.mem,hp.all.mem⟩
def px (ap:AP) (f:Nat):List Nat:=match ap.fnAt f with|some F=>F.keep|none=> []
def I5 (env:eZ):R ((br × St) × sQ)→R ((br × St) × sQ)
 | .ok ((e,s),l) c=> .ok ((e,⟨env.map fun q=>(q.1,s.env.get q.1),s.hp,s.md,s.dfs⟩),l) c
 |r=>r
def Hk (P:Program) (ap:AP) (h0:List aR) (f nt0:Nat) (ls:List Nat) (code:Code) (s:St) (lps:sQ) (orc:List Bool) (ans:List (iy × List aR)) (hs:List qP) (env:eZ):R ((br × St) × sQ):=
 match cj nt0 code with
 |true=>I5 env (jm P ap (sJ P ap 3000 4) h0 (px ap f) 3000 nt0 ls code s lps ⟨false,orc,[],[],ans,hs⟩)
 |false=> .bad 0
theorem M0 (env a:eZ):∀ t,eZ.get (env.map fun q=>(q.1,a.get q.1)) t=a.get t∨eZ.get (env.map fun q=>(q.1,a.get q.1)) t= .dead:=by
 intro t
 induction env with
 |nil=>exact .inr rfl
 | cons q r ih=>
  cases b:Xqn q.1 t with
  |true=>
   left;have:=Xjf b;subst this;simp only [eZ.get,Xqc,ax,b,Option.getD_some]
  | false=>
   have e:eZ.get (Xwe (fun q=>(q.1,a.get q.1)) (q::r)) t=eZ.get (Xwe (fun q=>(q.1,a.get q.1)) r) t:=by
    simp only [eZ.get,Xqc,ax,b]
   rw [e];exact ih
theorem pj {P:Program} {ap:AP} (g:xC P ap) (f:Nat) (h:List Nat) (n k:Nat) {nt nt0:Nat} {ans:List (iy × List aR)} {b:sQ} {hs:List qP} {bs:List Bool} {ps:List Prop} {a:Code} {s s':St} {h0:List aR} {e:br}
  (hb:jk bs) (hp:PS P ap ps ans b hs) (hn:nt0≤nt) (he:Hk P ap h0 f nt0 h a s b (tj n k) ans hs s'.env= .ok ((e,s'),[]) ⟨false,[],bs,ps,[],[]⟩):ai P ap h0 nt a s e s':=by
 unfold Hk at he;split at he
 ·rename_i hd;generalize l:jm P ap (sJ P ap 3000 4) h0 (px ap f) 3000 nt0 h a s b ⟨false,tj n k,[],[],ans,hs⟩=r at he;cases r with
  |ok q c=>
   obtain ⟨⟨i,p⟩,u⟩:=q;simp only [I5,R.ok.injEq,Prod.mk.injEq] at he;obtain ⟨⟨⟨rfl,d⟩,rfl⟩,rfl⟩:=he;obtain ⟨j,t⟩:=iZ g.apok g.mixed g.fnok 3000 4;have o:ai P ap h0 nt a s i p:=(oZ g.apok g.mixed j hn a (cZ hn a hd) _ _ _ _ _ l ⟨hb.mem,hp.all.mem⟩).2;refine o.weak (aJ.refl _) ?_;rw [← d];exact ⟨M0 _ _,rfl,rfl,rfl⟩
  |need=>simp [I5] at he
  |bad n=>simp [I5] at he
 ·cases he
theorem aN.pp {d f:List AV} {a:Nat} (h:ε a d=f):aN (.pp d a) (.pp f 0):=by
 subst h;intro g m S v e;simp only [VR,PR] at e ⊢;obtain ⟨b,o,vs,rfl,hp,hs⟩:=e;refine ⟨b,o+a,vs.drop a,rfl,mg a hp,fun j u c=> ?_⟩;rw [Xj1] at c;have:=hs (a+j) u c;rwa [← Nat.add_assoc] at this
theorem aN.ppt {e d f:List AV} {a:Nat} (h:ε a e=d++f):aN (.pp e a) (.pp d 0):=by
 intro g m S v i;have:=aN.pp h g m S v i;simp only [VR,PR] at this ⊢;obtain ⟨b,o,vs,rfl,hp,hs⟩:=this;refine ⟨b,o,vs.take d.length,rfl, ?_,fun j u c=> ?_⟩
 ·have:=iz d.length hp;rwa [List.take_left'] at this;rfl
 ·rw [Xju] at c;split at c
  ·exact hs j u c
  ·cases c
theorem aN.eq {x y:AV} (h:x=y):aN x y:=h ▸ fun _ _ _ _ a=>a
theorem aN.rd (ks:List LK) {d b c:List AV} {a:Nat} (h:ε a d=b++c) (e:Fq true ks (b++c)=b):aN (.agg (pR true ks d a)) (.agg b):= .eq (by unfold pR;rw [h,e])
theorem aN.rd1 (k:LK) {b c:List AV} {y:AV} {a:Nat} (h:ε a b= [y]++c) (d:eta k y=y):aN (eta k ((ε a b).headD .dead)) y:= .eq (by rw [h];exact d)
theorem jk.a {l r:List Bool} (h:jk l) (a:jk r):jk (l++r):=by
 induction h with
 |nil=>exact a
 |t _ ih=>exact .t ih
 |c hb _ ih=>exact .c hb ih
theorem jk.of {l:List Bool} (h:l.all id=true):jk l:=by
 induction l with
 |nil=>exact .nil
 |cons b r ih=>
  simp only [List.all_cons,id,π] at h;exact .c h.1 (ih h.2)
theorem aD (ks:List LK) {c d b:List AV} {a:Nat} (h:ε a c=d++b) (e:(L_ true ks (d++b)).all id=true):jk (CF true ks c a):=by
 unfold CF;rw [h];exact .of e
inductive PD:List AV→List AV→Prop where
 |nil:PD [] []
 |same {x:AV} {l r:List AV}:PD l r→PD (x::l) (x::r)
 |nilS {l r:List AV}:PD l r→PD (.nilS::l) (.sl [] 0 false::r)
 |sl {xs:List AV} {n:Nat} {a:Bool} {l r:List AV}:PD l r→PD (.sl xs n a::l) (.sl xs n false::r)
theorem PD.prl {S:aO} {l r:List AV} (h:PD l r):∀ {vs:List Value},bZ S l vs→bZ S r vs:=by
 induction h with
 |nil=>exact fun h=>h
 |same _ ih=>intro vs b;cases vs with|nil=>simp [bZ] at b|cons v vs=>simp only [bZ] at b ⊢;exact ⟨b.1,ih b.2⟩
 | nilS _ ih=>
  intro vs b;cases vs with
  |nil=>simp [bZ] at b
  |cons v vs=>
   simp only [bZ,PR] at b ⊢;exact ⟨⟨none,0,b.1,φ _,.inl (by simp)⟩,ih b.2⟩
 | @sl xs n a _ _ _ ih=>
  intro vs b;cases vs with
  |nil=>simp [bZ] at b
  |cons v vs=>
   have c:=b;simp only [bZ] at c ⊢;refine ⟨?_,ih c.2⟩;have d:=aN.sl xs n a (fun _=>none) (fun _=>(0,0)) S v (by simp only [VR];exact c.1);simpa only [VR] using d
theorem aN.slP {i p:List AV} {n:Nat} {k:Bool} (j:PD i p):aN (.sl i n k) (.sl p n k):=by
 intro g m S v l;simp only [VR,PR] at l ⊢;obtain ⟨a,d,rfl,q,h⟩:=l;refine ⟨a,d,rfl,q, ?_⟩;rcases h with ⟨c,e,f,s,r⟩|⟨b,o,vs,c,e,f⟩
 ·subst f;cases j;exact .inl ⟨c,e,rfl,s,r⟩
 ·exact .inr ⟨b,o,vs,c,j.prl e,f⟩
end AM
namespace AM
open Go
variable {P:Program} {ap:AP}
theorem ai.norm {h0:List aR} {nt:Nat} {b:Code} {s f:St} {e:br} (keep:List Nat) (n:∀ v,e= .panic v→(cR v).isEmpty=true) (h:ai P ap h0 nt b s e f):ai P ap h0 nt b s e (AM.norm h0.length keep f):=by
 intro hs;obtain ⟨t,l⟩:=h hs;refine ⟨t,fun m0 S0 w0 m S w a d o Q i=>l m0 S0 w0 m S w a d o Q ?_⟩;intro x S' w' u p r;obtain ⟨q,k,j⟩:=kE (keep:=keep) p r;have:=i q S' w' u k j;clear i k j l;generalize AM.norm h0.length keep f=s2 at*
 cases e with
 |normal=>exact this
 |exit id=>exact this
 |ret=>exact this
 |panic v=>intro cv c;exact this cv (eW _ (jE (n v rfl) c))
def abW:br→Bool
 | .panic v=>(cR v).isEmpty
 |_=>true
def I0 (base:Nat) (env:eZ):R ((br × St) × sQ)→R ((br × St) × sQ)
 | .ok ((e,s),l) c=>match abW e with
  |true=> .ok ((e,norm base (env.map fun q=>q.1) s),l) c
  |false=> .bad 1
 |r=>r
def Hj (P:Program) (ap:AP) (h0:List aR) (f nt0:Nat) (ls:List Nat) (code:Code) (s:St) (lps:sQ) (orc:List Bool) (ans:List (iy × List aR)) (hs:List qP) (env:eZ):R ((br × St) × sQ):=
 match cj nt0 code with
 |true=>I0 h0.length env (jm P ap (sJ P ap 3000 4) h0 (px ap f) 3000 nt0 ls code s lps ⟨false,orc,[],[],ans,hs⟩)
 |false=> .bad 0
theorem pn (g:xC P ap) (f:Nat) (i:List Nat) (n k:Nat) {nt nt0:Nat} {ans:List (iy × List aR)} {b:sQ} {hs:List qP} {bs:List Bool} {ps:List Prop} {a:Code} {s s':St} {h0:List aR} {e:br}
  (hb:jk bs) (hp:PS P ap ps ans b hs) (hn:nt0≤nt) (he:Hj P ap h0 f nt0 i a s b (tj n k) ans hs s'.env= .ok ((e,s'),[]) ⟨false,[],bs,ps,[],[]⟩):ai P ap h0 nt a s e s':=by
 unfold Hj at he;split at he
 ·rename_i hd;generalize l:jm P ap (sJ P ap 3000 4) h0 (px ap f) 3000 nt0 i a s b ⟨false,tj n k,[],[],ans,hs⟩=r at he;cases r with
  | ok q c=>
   obtain ⟨⟨o,t⟩,y⟩:=q;simp only [I0] at he;split at he
   ·rename_i d;simp only [R.ok.injEq,Prod.mk.injEq] at he;obtain ⟨⟨⟨rfl,h⟩,rfl⟩,rfl⟩:=he;obtain ⟨j,x⟩:=iZ g.apok g.mixed g.fnok 3000 4;have p:ai P ap h0 nt a s o t:=(oZ g.apok g.mixed j hn a (cZ hn a hd) _ _ _ _ _ l ⟨hb.mem,hp.all.mem⟩).2;have:=p.norm (s'.env.map fun q=>q.1) (fun v u=>by subst u;exact d);rwa [h] at this
   ·cases he
  |need=>simp [I0] at he
  |bad n=>simp [I0] at he
 ·cases he
end AM
namespace AM
open Go Go.WideShapes Go.ChangeShapes
theorem Bh {a:Addr} (h:a.spot=none) (n:Nat):a.add n=⟨a.block,a.off+n,none⟩:=by
 unfold Addr.add;obtain ⟨b,o,s⟩:=a;simp only at h;subst h;split
 ·rename_i c;subst c;rfl
 ·rfl
section
variable {H:Type} {enc:TypeId × Value→H} {P:Program} {w:World} {base:Nat} {spare:Nat→Bool} {held:Bool}
theorem D4 {S:aO} {ks:List LK}:∀ (L:List (List Value)),(∀ x ∈ L,dJ ks x)→bZ S (L.flatMap fun x=>x.map lJ) L.flatten
 | [],_=>by simp [bZ]
 |x::r,h=>by
  rw [Xx2,Xza];exact jT (dJ.pr (h x (by simp))) (D4 r fun y a=>h y (by simp [a]))
theorem Oa {ks:List LK}:∀ (L:List (List Value)),(∀ x ∈ L,dJ ks x)→∀ u ∈ L.flatten,u.oneCell'=true:=by
 intro L h u a;obtain ⟨x,b,a⟩:=List.mem_flatten.1 a;exact dJ.one (h x b) u a
theorem abY {t e:TypeId} {n base':Nat} {ks:List LK} (D:P.underlying t=some (.slice e)) (Q:BF P n e=some ks) (V:P.cellsOf e=ks.length) {v:Value} {d:DataW H} {p:List MemPlace}
  (hv:Value.okWide P w .any base' t v) (h:DataW.Trod enc P w base spare held t v d p):∃ L:List (List Value),(∀ x ∈ L,dJ ks x)∧PR (lZ w) (.sl (L.flatMap fun x=>x.map lJ) L.length false) v:=by
 obtain ⟨O,f,k,rfl⟩:=okWide_slice D hv;obtain ⟨M,h⟩:=h;rcases DataW.trod_slice D h with ⟨i,_⟩|⟨a,A,r,elems,rest,m,_,i,_,_,R,hm,N,F,_,_⟩
 ·have:O=none∧f=0∧k=0:=by simpa [Value.cells] using i
  obtain ⟨rfl,rfl,rfl⟩:=this;refine ⟨[],by simp, ?_⟩;simp only [PR];exact ⟨none,0,rfl,φ _,.inl (by simp)⟩
 ·have:O=some a∧f=A∧k=r:=by simpa [Value.cells] using i
  obtain ⟨rfl,rfl,rfl⟩:=this;have hspot:a.spot=none:=by
   simp only [Value.okWide,D,Cell.okWide,Cell.ok] at hv;exact hv.2.2.2.1
  have key:∀ q,q≤f→∃ L:List (List Value),L.length=q∧(∀ x ∈ L,dJ ks x)∧L.flatten.length=q*ks.length∧∀ j u,L.flatten[j]? =some u→lZ w a.block (a.off+j)=some u:=by
   intro q
   induction q with
   |zero=>intro _;exact ⟨[],rfl,by simp,by simp,by simp⟩
   | succ q ih=>
    intro Y;obtain ⟨L,B,y,C,J⟩:=ih (by omega);have K:=F q (by omega);rw [ξ (by omega)] at K;obtain ⟨E,T,U⟩:=Option.bind_eq_some_iff.1 K;have I:=Kl n e ks Q _ _ _ U;obtain ⟨_,Z,G⟩:=World.cells?_some T;refine ⟨L++ [E],by simp [B], ?_, ?_, ?_⟩
    ·intro x l;rcases List.mem_append.1 l with l|l
     ·exact y x l
     ·simp at l;subst l;exact I
    ·rw [Xwg,κ,C];have:=I.length;simp only [Xza,Yqm,Xqa];rw [← this,Xkl]
    ·intro j u c;rw [Xwg,List.getElem?_append] at c;split at c
     ·exact J j u c
     ·rename_i W;simp only [Xza,Yqm,Xqa] at c;have X:=(List.getElem?_eq_some_iff.1 c).1;have z:=G (j - L.flatten.length) (by omega);rw [c,Bh hspot,Bh rfl] at z;refine Co ?_ (dJ.one I u (Xqm c));rw [← z,C,V];congr 2;have:q*ks.length≤j:=by rw [← C];omega
      simp only;omega
  obtain ⟨L,B,y,C,J⟩:=key f (φ _);refine ⟨L,y, ?_⟩;simp only [PR];refine ⟨some a,k,by rw [B],by rw [B];exact R,.inr ⟨a.block,a.off,L.flatten, ?_,D4 L y,fun j u c=> ⟨J j u c,Oa L y u (Xqm c)⟩⟩⟩;obtain ⟨b,o,s⟩:=a;simp only at hspot;subst hspot;rfl
theorem YR {α:Type} (f:α→List AV) {L:List (List Value)} (h:∀ x ∈ L,∃ a,x.map lJ=f a):∃ l:List α,(L.flatMap fun x=>x.map lJ)=l.flatMap f∧L.length=l.length:=by
 induction L with
 |nil=>exact ⟨[],rfl,rfl⟩
 |cons x r ih=>
  obtain ⟨a,c⟩:=h x (by simp);obtain ⟨l,b,d⟩:=ih fun y e=>h y (by simp [e])
  exact ⟨a::l,by rw [Xx2,Xx2,c,b],by simp [d]⟩
end
end AM
namespace AM
open Go
section
variable {P:Program} {ap:AP}
theorem ai.ahead {h0:List aR} {nt:Nat} {c:Code} {e:br} {j:St} (b:Nat) (B:aR) {d en':eZ} {hp hp':Hp} (s:ai P ap h0 nt c ⟨en',hp',.dead,[]⟩ e j) (i:h0.length≤b) (h:B.pr=true)
  (henv:Kf b B en' (eZ.get d)) (hhp:GV b B hp' hp):ai P ap h0 nt c {env:=d,hp,md:= .dead,dfs:= []} e j:=by
 intro _;obtain ⟨n,q⟩:=s rfl;refine ⟨n,fun m0 S0 w0 m S w a f l Q k=> ?_⟩;obtain ⟨S2,p,o⟩:=ED (r:={env:=d,hp,md:= .dead,dfs:= []}) (r':=⟨en',hp',.dead,[]⟩) b B i (ub hhp) h rfl (lj henv) (xc hhp) (w_ hhp) f l;exact q m0 S0 w0 m S2 w a p o Q k
end
end AM
namespace AM
open Go
inductive HpS (b:Nat) (B:aR):Hp→Hp→Prop
 |nil:HpS b B [] []
 |cons {c:Nat} {C D:aR} {r l:Hp}:D3 b B D C→c ≠ b→HpS b B r l→HpS b B ((c,C)::r) ((c,D)::l)
inductive HpY (b:Nat) (B:aR):Hp→Hp→Prop
 |here {r l:Hp}:HpS b B r l→HpY b B r ((b,B)::l)
 |step {c:Nat} {C D:aR} {r l:Hp}:D3 b B D C→c ≠ b→HpY b B r l→HpY b B ((c,C)::r) ((c,D)::l)
section
variable {P:Program} {ap:AP}
end
end AM
namespace AM
open Go
section
variable {P:Program} {ap:AP} {H:bL}
def lR (r:g_):g_:={r with rb:= []}
theorem yd {D:Nat→Bool}:∀ (rs:List g_) (i j:Nat) (e:eZ) (r:g_),rs[i]? =some r→jt D j e (rs.set i (lR r))=jt D j e rs
 | [],i,j,e,r,h=>by simp at h
 |x::rs,0,j,e,r,h=>by
  have h:x=r:=by simpa using h
  subst h;rfl
 |x::rs,i+1,j,e,r,h=>by
  simp only [Xwx,jt];exact yd rs i (j+1) _ r (by simpa using h)
theorem C4 {D:Nat→Bool}:∀ (rs:List g_) (i j:Nat) (e:Hp) (r:g_),rs[i]? =some r→kS D j e (rs.set i (lR r))=kS D j e rs
 | [],i,j,e,r,h=>by simp at h
 |x::rs,0,j,e,r,h=>by
  have h:x=r:=by simpa using h
  subst h;rfl
 |x::rs,i+1,j,e,r,h=>by
  simp only [Xwx,kS];exact C4 rs i (j+1) _ r (by simpa using h)
theorem Ch (a:List g_) (i k:Nat) (r:g_) (h:a[i]? =some r):(a.set i (lR r)).take k=a.take k∨((a.take k)[i]? =some r∧(a.set i (lR r)).take k=(a.take k).set i (lR r)):=by
 by_cases hk:i<k
 ·right;refine ⟨by rw [Xju,if_pos hk];exact h, ?_⟩;rw [Yxv]
 ·left;rw [Yxv,List.set_eq_of_length_le];rw [List.length_take];omega
theorem BA (a:List g_) (i k:Nat) (e:eZ) (r:g_) (h:a[i]? =some r):kR e ((a.set i (lR r)).take k)=kR e (a.take k):=by
 rcases Ch a i k r h with b|⟨b,c⟩
 ·rw [b]
 ·rw [c];exact yd _ _ _ _ _ b
theorem M6 (a:List g_) (i k:Nat) (e:Hp) (r:g_) (h:a[i]? =some r):yz e ((a.set i (lR r)).take k)=yz e (a.take k):=by
 rcases Ch a i k r h with b|⟨b,c⟩
 ·rw [b]
 ·rw [c];exact C4 _ _ _ _ _ b
def Cl:Hp→Nat→List aR
 | [],_=> []
 |(b,B)::r,t=>match Xqn b t with|true=>B::Cl r t|false=>Cl r t
theorem Cm {b:Nat} {B:aR}:∀ {hp:Hp},(b,B) ∈ hp→B ∈ Cl hp b
 | (c,C)::r,h=>by
  simp only [Cl];rcases List.mem_cons.1 h with h|h
  ·cases h;rw [Xz0];exact List.mem_cons_self
  ·have a:=Cm h;split
   ·exact List.mem_cons_of_mem _ a
   ·exact a
theorem Iv {D D':Nat→Bool} (b:∀ j,D j=true→D' j=true):∀ (rs:List g_) (j:Nat) (h h':Hp),(∀ x ∈ h,x ∈ h')→∀ x ∈ kS D j h rs,x ∈ kS D' j h' rs
 | [],_,_,_,hs=>hs
 | r::rs,j,h,h',hs=>by
  simp only [kS];refine Iv b rs (j+1) _ _ ?_;intro x a;cases hd:D j with
  |true=>
   rw [hd] at a;rw [b j hd];rcases List.mem_append.1 a with a|a
   ·exact List.mem_append.2 (.inl a)
   ·exact List.mem_append.2 (.inr (hs x a))
  |false=>
   rw [hd] at a;cases D' j with
   |true=>exact List.mem_append.2 (.inr (hs x a))
   |false=>exact hs x a
def qJ (D:Nat→Bool):List rN→Hp→Hp
 | [],hp=>hp
 |F::r,hp=>match D r.length with
  |true=>hp.take F.wb.length++qJ D r (hp.drop F.wb.length)
  |false=>qJ D r (hp.drop F.wb.length)
theorem yx {D:Nat→Bool}:∀ (rs:List g_) (j:Nat) (h:Hp) (r:g_),kS D j h (rs++ [r])=match D (j+rs.length) with|true=>r.ups++kS D j h rs|false=>kS D j h rs
 | [],j,h,r=>by
  simp only [List.nil_append,kS,List.length_nil,Xq3];cases D j<;>rfl
 |x::rs,j,h,r=>by
  simp only [List.cons_append,kS];rw [yx rs (j+1) _ r];rw [show j+1+rs.length=j+(x::rs).length by simp;omega]
theorem z_ {D:Nat→Bool} (h:Hp):∀ (l:List g_),qJ D (l.map g_.foot) (yz h l.reverse)=kS D 0 h l.reverse
 | []=>rfl
 | r::l=>by
  have e:yz h (r::l).reverse=r.ups++yz h l.reverse:=by
   unfold yz;rw [Xj8,yx]
  have a:(g_.foot r).wb.length=r.ups.length:=by simp [g_.foot]
  rw [e,Xj8,yx];simp only [Xqc,qJ,a,List.length_map,List.take_left,List.drop_left,List.length_reverse,Θ];rw [z_ h l]
theorem EF {D:Nat→Bool} {b:Nat}:∀ (rs:List g_) (j:Nat) (h:Hp),(∃ B,ax h b=some B)→∃ B,ax (kS D j h rs) b=some B
 | [],_,_,hs=>hs
 | r ::rs,j,h,hs=>by
  simp only [kS];refine EF rs (j+1) _ ?_;cases D j with
  |false=>exact hs
  | true=>
   by_cases hm:b ∈ r.ups.map (·.1)
   ·obtain ⟨B,a⟩:=pE hm;exact ⟨B,by
     rw [eJ,a]⟩
   ·rw [nG hm];exact hs
inductive xF (P:Program) (ap:AP) (H:bL) (n:Nat) (ops:List Oper) (o:Oper) (b d:Nat) (rt:List Nat) (env:eZ) (v:AV):List aR→Prop where
 |nil:xF P ap H n ops o b d rt env v []
 | cons {B:aR} {r:List aR} {c2 c3:Cx} {t:RS}:FH ap H n ops o {env,hp:= [(b,B)],md:= .dead,dfs:= [],dec:= [],feet:= []} c2= .ok (t,none) c3→c3.Ok→t.feet= [{rt:=rt,wt:= [d],rb:= [b],wb:= []}]→t.dfs= []→t.env.get d=v→
   xF P ap H n ops o b d rt env v r→xF P ap H n ops o b d rt env v (B::r)
theorem xF.sem (p:fe P ap) (q:gR P ap H) {n:Nat} {ops:List Oper} {o:Oper} {b d:Nat} {rt:List Nat} {env:eZ} {v:AV} {l:List aR} (hd:o.dst=some d) (h:xF P ap H n ops o b d rt env v l):∀ B ∈ l,Ct P ap ops.toArray o n env [(b,B)] rt [b] v [] [] none:=by
 induction h with
 |nil=>intro B x;simp at x
 | @cons B r c2 c3 t he hc hft hdf0 hvd _ ih=>
  intro B' a;rcases List.mem_cons.1 a with rfl|a
  ·obtain ⟨_,hs⟩:=nX p q he hc;obtain ⟨u,rb,ups,s,hs⟩:=hs rfl (fun t b y=>by cases y);have f:=hs.feet rfl;rw [hft] at f;simp only [List.cons.injEq,rN.mk.injEq,and_true] at f;obtain ⟨k,_,e,i⟩:=f;have c:ups= []:=by
    cases ups with
    |nil=>rfl
    |cons _ _=>simp at i
   have j:s= []:=by
    have:=hs.dfs;rw [hdf0] at this;simpa using this.symm
   have z:u=v:=by
    have:=hs.env rfl;rw [this,hd,fQ] at hvd;exact hvd
   have:=hs.sem;rw [← k,← e,c,j,z] at this;exact this
  ·exact ih B' a
theorem Ka (hap:fe P ap) (hmix:P.follows .mixedOrders=true) (hH:gR P ap H) {ops:List Oper} {nt:Nat} {h0:List aR} (keep:List Nat) {id:Nat} (hnt:∀ o ∈ ops,∀ d,o.dst=some d→d<nt) {s:St} {f:RS} {c c':Cx} (i b d:Nat) (o:Oper) (rt:List Nat) (v:AV) (L:List aR)
  (e1:nY ap H ops ops (eT s.hp) {env:=s.env,hp:=s.hp,md:=s.md,dfs:=s.dfs,dec:= [],feet:= []} c= .ok (f,none) c') (hc:c'.Ok)
  (hoi:ops[i]? =some o) (hod:o.dst=some d) (hft:f.feet.reverse[i]? =some {rt:=rt,wt:= [d],rb:= [b],wb:= []})
  (hord:pL (eT s.hp) (Region.before ops.toArray).toList (f.feet.reverse.set i {rt:=rt,wt:= [d],rb:= [],wb:= []}).reverse=true) (hback:nA ops=true) (hdl:f.dfs.length=s.dfs.length)
  (hlate:∀ k C,i<k→ops[k]? =some C→∀ x,C.dst=some x→x ≠ d∧x ∉ rt) (hdr:d ∉ rt)
  (hv:f.env.get d=v) (X:∃ B,ax s.hp b=some B) (hL:Cl (qJ (fun k=> !(((Region.before ops.toArray).toList.getD k 0).testBit i)) f.feet f.hp) b=L) (hst:xF P ap H (eT s.hp+4*i) ops o b d rt f.env v L):
  ai P ap h0 nt (.region id ops.toArray true) s .normal (norm h0.length keep ⟨f.env,f.hp,f.md,f.dfs⟩):=by
 intro hmd;have hn0:∀ b B,ax s.hp b=some B→b<eT s.hp:=fun b B X=>mR X
 obtain ⟨_,hs⟩:=Pm hap hH ops 0 _ _ _ _ _ e1 hc;obtain ⟨h1,recs,R,e⟩:=hs hmd (fun t b X=>by cases X) rfl;refine ⟨h1,fun m0 S0 w0 m S w a hfr J Q hQ=>wp_region_any hmix ?_⟩;have E:f.dfs.length=s.dfs.length:=hdl;have hdf:=(e.sem E).1;have hil:i<recs.length:=by rw [R];exact (List.getElem?_eq_some_iff.1 hoi).1
 have p:recs[i]? =some recs[i]:=ξ hil;have hfeet:f.feet.reverse=recs.map g_.foot:=by rw [e.feet,Xqa,Xwa]
 rw [hfeet] at hft hord;rw [List.getElem?_map,p,Option.map_some,Option.some.injEq] at hft;generalize recs[i]=r at p hft;have M:=hft;simp only [g_.foot,rN.mk.injEq] at M;obtain ⟨hrt,hwt,hrb,u⟩:=M;have u:r.ups= []:=by
  cases hu:r.ups with
  |nil=>rfl
  |cons _ _=>rw [hu] at u;simp at u
 have Y:(recs.map g_.foot).set i {rt:=rt,wt:= [d],rb:= [],wb:= []}=(recs.set i (lR r)).map g_.foot:=by
  rw [List.map_set];congr 1;simp only [g_.foot,lR,rN.mk.injEq];exact ⟨hrt.symm,hwt.symm,trivial,by rw [u];rfl⟩
 rw [Y] at hord;have W:lg (Array.replicate ops.length false)=fun _=>false:=by
  funext k;simp only [lg,Array.getD_eq_getD_getElem?];by_cases n:k<ops.length<;>simp [n]
 have hsz:ops.toArray.size=ops.length:=by simp
 rw [hsz];have U:∀ D,kS D 0 s.hp (recs.set i (lR r))=kS D 0 s.hp recs:=fun D=>C4 recs i 0 s.hp r p
 have enE:∀ D,jt D 0 s.env (recs.set i (lR r))=jt D 0 s.env recs:=fun D=>yd recs i 0 s.env r p
 have O:∀ k,k ≠ i→(recs.set i (lR r))[k]? =recs[k]? :=fun k n=>List.getElem?_set_ne (Ne.symm n)
 have hgeti:(recs.set i (lR r))[i]? =some (lR r):=List.getElem?_set_self hil;have hdsto:∀ (k:Nat) (q:g_),recs[k]? =some q→∃ C:Oper,ops[k]? =some C∧q.dst=C.dst:=by
  intro k q n;obtain ⟨C,z,A,_⟩:=(e.sem E).2 k q n;exact ⟨C,by rw [← z,Θ],A⟩
 have G:r.dst=some d:=by
  obtain ⟨C,z,A⟩:=hdsto i r p;rw [hoi] at z;cases z;rw [A,hod]
 have hrv:r.v=v:=by
  have e2:(kR s.env recs).get d=(kR s.env (recs.take (i+1))).get d:=by
   rw [← tT];refine kg recs 0 _ _ rfl fun k q n hd=> ?_
   rw [Θ];by_cases hki:i<k
   ·obtain ⟨C,z,A⟩:=hdsto k q n;exact absurd rfl (hlate k C hki z d (A ▸ hd)).1
   ·simp;omega
  have e3:f.env.get d=v:=hv;rw [e.env] at e3;rw [show (kR s.env recs).get d=(kR s.env recs).get d from rfl,e2,BB _ _ _ _ p,G,fQ] at e3;exact e3
 have hrte:∀ t ∈ rt,(kR s.env (recs.take i)).get t=f.env.get t:=by
  intro t ht;rw [e.env,← tT];refine kg recs 0 _ _ rfl fun k q n hd=> ?_
  rw [Θ];rcases Nat.lt_trichotomy k i with h|h|h
  ·simp [h]
  ·subst h;rw [p] at n;cases n;rw [G] at hd;cases hd;exact absurd ht hdr
  ·obtain ⟨C,z,A⟩:=hdsto k q n;exact absurd ht (hlate k C h z t (A ▸ hd)).2
 refine Eo (P:=P) (ap:=ap) (s:={env:=s.env,hp:=s.hp,md:=s.md,dfs:=s.dfs,dec:= [],feet:= []}) (recs:=recs.set i (lR r)) hnt (by rw [List.length_set];exact R) ?_ ?_ (zt hord) hback hn0 (m0:=m) (S0:=S) (w0:=w) (Q:=Q) ?_ ops.length _ m S _ a ⟨by simp, ?_, ?_, ?_⟩ ?_
 ·intro k q n x N;by_cases hki:k=i
  ·subst hki;rw [hgeti] at n;cases n;rw [show (lR r).ups=r.ups from rfl,u] at N;simp at N
  ·rw [O k hki] at n;have:=e.bound k q n x N;omega
 ·intro k q n;by_cases hki:k=i
  ·subst hki;rw [hgeti] at n;cases n;refine ⟨o,hoi,by rw [← hod] at G;exact G, ?_⟩;intro D Z S2 w2 a2 V y _ l hnb Q2 K T;dsimp only at V y l T;rw [U] at V y l T;obtain ⟨B,hB⟩:=EF (D:=D) recs 0 s.hp X;have hBm:B ∈ L:=by
    have e4:=z_ (D:=fun j=> !(((Region.before ops.toArray).toList.getD j 0).testBit k)) s.hp recs.reverse;rw [Xwa,List.map_reverse] at e4;rw [← hL,e.hp,e.feet,Xqa];rw [e4];refine Cm (Iv (D:=D) (fun j hj=> ?_) recs 0 s.hp s.hp (fun _ h=>h) _ (uX hB));cases hb2:((Region.before ops.toArray).toList.getD j 0).testBit k with
    |false=>rfl
    |true=>rw [hnb j hb2] at hj;cases hj
   have F:=hst.sem hap hH hod B hBm;rw [show (lR r).v=r.v from rfl,hrv,show (lR r).ups=r.ups from rfl,u] at T;refine F _ Z S2 w2 a2 V (fun t ht=> ?_) (fun x N B2 hB2=> ?_) l Q2 K T
   ·have z:=y t (by rw [show (lR r).rt=r.rt from rfl,hrt];exact ht);rw [BA recs k k s.env r p,hrte t ht] at z;exact z
   ·rw [List.mem_singleton] at N;subst N;simp only [ax,Xz0,Option.some.injEq] at hB2;subst hB2;exact hB
  ·rw [O k hki] at n;obtain ⟨C,z,A,F⟩:=(e.sem E).2 k q n;rw [Θ] at z;refine ⟨C,z,A, ?_⟩;intro D Z S2 w2 a2 V y I l _ Q2 K T;dsimp only at V y I l T;rw [U] at V y I l T;rw [BA recs i k s.env r p] at y;rw [M6 recs i k s.hp r p] at I;exact F _ Z S2 w2 a2 V y (fun x N B hB=>by rw [← I x N];exact hB) l Q2 K T
 ·intro m' S' w' a' A h4;dsimp only at A h4;have e5:yz s.hp (recs.set i (lR r))=yz s.hp recs:=U _;have e6:kR s.env (recs.set i (lR r))=kR s.env recs:=enE _;rw [e5] at A h4;rw [e6] at h4;have h5:Fr (aZ h0) m0 S0 w0 (ax f.hp) m' S' w':=by
   rw [e.hp];exact hfr.trans A
  have h6:FR ap f.env f.hp f.dfs nt m' S' w' a':=by
   rw [e.hp,e.env,hdf];exact h4
  obtain ⟨Z,h7,h8⟩:=kE (keep:=keep) (s:=⟨f.env,f.hp,f.md,f.dfs⟩) h5 h6;exact hQ Z S' w' a' h7 h8
 ·intro k o n hd;rw [W] at hd;cases hd
 ·dsimp only;rw [W,kr _ 0 _ (fun _ _=>rfl)];exact ⟨Ge.refl _ _,jF.refl _,rfl,rfl,rfl,φ _,fun _ _ _=>rfl,fun _ B h=> .inr ⟨B,h,rfl⟩,fun _ _ _ h=> .inl h⟩
 ·dsimp only;rw [W,kr _ 0 _ (fun _ _=>rfl),qt _ 0 _ (fun _ _=>rfl)];exact ⟨⟨J.srel.inj,fun b B X=>J.srel.blk b B X|>fun ⟨h1,z,A⟩=> ⟨h1,z,A⟩,J.srel.sealed,J.srel.own,J.srel.glob⟩,J.env,J.dfs,J.size⟩
 ·simp only [xg];exact Nat.le_trans (List.length_filter_le _ _) (by simp)
def wE:List Nat→List Nat→Bool
 | [],[]=>true
 |a::r,b::q=>Xqn a b && wE r q
 |_,_=>false
theorem lh:∀ {l r:List Nat},wE l r=true→l=r
 | [],[],_=>rfl
 |a::r,b::q,h=>by
  simp only [wE,π] at h;rw [aK h.1,lh h.2]
 | [],_::_,h=>by simp [wE] at h
 |_::_,[],h=>by simp [wE] at h
def Js (ap:AP) (H:bL) (n:Nat) (ops:List Oper) (o:Oper) (b d:Nat) (rt:List Nat) (env:eZ) (v:AV):List aR→Option (List Prop)
 | []=>some []
 | B ::r=>match FH ap H n ops o {env,hp:= [(b,B)],md:= .dead,dfs:= [],dec:= [],feet:= []} ⟨true,[],[],[],[],[]⟩ with
  | .ok (t,none) c3=>match t.feet,t.dfs,c3.bs,c3.ps with
   | [F],[],[],[]=>match wE F.rt rt && wE F.wt [d] && wE F.rb [b] && wE F.wb [] with
    |true=>match Js ap H n ops o b d rt env v r with
     |some l=>some ((t.env.get d=v)::l)
     |none=>none
    |false=>none
   |_,_,_,_=>none
  |_=>none
theorem FG {n:Nat} {ops:List Oper} {o:Oper} {b d:Nat} {rt:List Nat} {env:eZ} {v:AV}:∀ {L:List aR} {l:List Prop},Js ap H n ops o b d rt env v L=some l→(∀ p ∈ l,p)→xF P ap H n ops o b d rt env v L
 | [],_,_,_=> .nil
 | B ::r,l,h,hl=>by
  simp only [Js] at h;split at h
  ·rename_i t q e;split at h
   ·rename_i F c i j k;split at h
    ·rename_i a;simp only [π] at a;split at h
     ·rename_i s f;cases h;refine .cons e ⟨by rw [j];simp,by rw [k];simp⟩ ?_ i (hl _ (by simp)) (FG f fun p hp=>hl p (by simp [hp]));rw [c,← lh a.1.1.1,← lh a.1.1.2,← lh a.1.2,← lh a.2]
     ·cases h
    ·cases h
   ·cases h
  ·cases h
def DI (ap:AP) (H:bL) (base:Nat) (keep:List Nat) (nt0 i b d:Nat) (code:Code) (s:St) (c:Cx):R St:=
 match code with
 | .region _ opsA true=>
  (nY ap H opsA.toList opsA.toList (eT s.hp) {env:=s.env,hp:=s.hp,md:=s.md,dfs:=s.dfs,dec:= [],feet:= []} c).bind fun (s1,p) c=>
  match p with
  |some _=> .bad 1
  |none=>
  match opsA.toList[i]?,s1.feet.reverse[i]? with
  | some o,some F=>
   match (match o.dst with|some d'=>Xqn d' d|none=>false) && wE F.wt [d] && wE F.rb [b] && wE F.wb [] && pL (eT s.hp) (Region.before opsA).toList (s1.feet.reverse.set i {rt:=F.rt,wt:= [d],rb:= [],wb:= []}).reverse && nA opsA.toList && Xqn s1.dfs.length s.dfs.length
    && (opsA.toList.drop (i+1)).all (fun o'=>match o'.dst with|some x=> !(Xqn x d) && !(lQ F.rt x)|none=>true) && !(lQ F.rt d) && (ax s.hp b).isSome && opsA.toList.all (Bz nt0) with
   |true=>match Js ap H (eT s.hp+4*i) opsA.toList o b d F.rt s1.env (s1.env.get d) (Cl (qJ (fun k=> !(((Region.before opsA).toList.getD k 0).testBit i)) s1.feet s1.hp) b) with
    |some l=> .ok (norm base keep ⟨s1.env,s1.hp,s1.md,s1.dfs⟩) {c with ps:=l++c.ps}
    |none=> .bad 3
   |false=> .bad 2
  |_,_=> .bad 4
 |_=> .bad 5
theorem HE (B:fe P ap) (q:P.follows .mixedOrders=true) (I:gR P ap H) {h0:List aR} {keep:List Nat} {nt nt0 i b d:Nat} {j:Code} {s s':St} {c G:Cx} (M:nt0≤nt) (h:DI ap H h0.length keep nt0 i b d j s c= .ok s' G) (y:G.Ok):ai P ap h0 nt j s .normal s':=by
 unfold DI at h;split at h
 ·rename_i id a;obtain ⟨⟨X,p⟩,c1,L,h⟩:=R.bind_ok h;dsimp only at h;split at h
  ·cases h
  ·split at h
   ·rename_i o F Y J;split at h
    ·rename_i hcond;split at h
     ·rename_i l K;cases h;simp only [π] at hcond;obtain ⟨⟨⟨⟨⟨⟨⟨⟨⟨⟨v,N⟩,O⟩,U⟩,V⟩,Q⟩,W⟩,T⟩,E⟩,A⟩,z⟩:=hcond;have D:o.dst=some d:=by
       split at v
       ·rename_i d' t;rw [t,aK v]
       ·cases v
      have u:F={rt:=F.rt,wt:= [d],rb:= [b],wb:= []}:=by
       rw [← lh N,← lh O,← lh U]
      have f:a.toList.toArray=a:=by simp
      have key:=Ka (nt:=nt) (h0:=h0) B q I keep (id:=id) (ops:=a.toList) (fun r n x C=>by
        have:=List.all_eq_true.1 z r n;simp only [Bz,C] at this;exact σ (dG this) M) i b d o F.rt (X.env.get d) _ L ⟨y.bs,fun p hp=>y.ps p (by simp [hp])⟩ Y D (by rw [J,← u]) (by rw [f];exact V) Q (aK W) ?_ ?_ rfl (by simpa [Option.isSome_iff_exists] using A) (by rw [f]) (FG K fun p hp=>y.ps p (by simp [hp]))
      ·rw [f] at key;exact key
      ·intro k r hk n x C;have Z:r ∈ a.toList.drop (i+1):=by
        refine Xqm (i:=k - (i+1)) ?_;rw [Xj1,show i+1+(k - (i+1))=k by omega];exact n
       have:=List.all_eq_true.1 T r Z;simp only [C,π,Bool.not_eq_true'] at this;refine ⟨fun e=> ?_,fun e=> ?_⟩
       ·subst e;rw [Xz0] at this;cases this.1
       ·rw [fA.2 e] at this;cases this.2
      ·intro e;rw [fA.2 e] at E;cases E
     ·cases h
    ·cases h
   ·cases h
 ·cases h
end
theorem xq {P:Program} {ap:AP} (g:xC P ap) {h0:List aR} {keep:List Nat} {nt nt0 i b d:Nat} {a:Code} {s s':St} {ans:List (iy × List aR)} {ps:List Prop} (hp:DX ps) (e:nt0≤nt)
  (h:DI ap (sJ P ap 3000 4) h0.length keep nt0 i b d a s ⟨true,[],[],[],ans,[]⟩= .ok s' ⟨true,[],[],ps,[],[]⟩):ai P ap h0 nt a s .normal s':=by
 obtain ⟨c,_⟩:=iZ g.apok g.mixed g.fnok 3000 4;exact HE g.apok g.mixed c e h ⟨by simp,hp.mem⟩
end AM
namespace AM
open Go Go.WideShapes Go.ChangeShapes
section
variable {H:Type} {enc:TypeId × Value→H} {P:Program} {w:World} {base:Nat} {spare:Nat→Bool} {held:Bool}
theorem UL {t u:TypeId} {ts:List TypeId} (c:(∃ l,P.underlying t=some (.struct l))∨∃ n e,P.underlying t=some (.array n e)) (j:P.cellTypes P.depth t=some ts) {f:Array Value} {base':Nat} (h:Value.okWide P w .any base' t (.agg f)) {i:Nat} {v:Value} (o:f[i]? =some v) (q:ts[i % ts.length]? =some u):Cell.okWide P w .any base' u v:=by
 have key:Row.okWide P w .any base' t f:=by
  rcases c with ⟨l,c⟩|⟨n,e,c⟩
  ·simp only [Value.okWide,c] at h;obtain ⟨k,a,d,b⟩:=h;cases a;exact b
  ·simp only [Value.okWide,c] at h;obtain ⟨k,a,d,b⟩:=h;cases a;exact b
 obtain ⟨p,a,_,d⟩:=key;rw [j] at a;cases a;obtain ⟨s,b,r⟩:=d i v o;rw [q] at b;cases b;exact r
theorem YW {u e:TypeId} (a:P.underlying u=some (.slice e)) {base':Nat} {v:Value} (h:Cell.okWide P w .any base' u v):Value.okWide P w .any base' u v:=by
 simp only [Value.okWide,a];exact h
theorem UU {u e:TypeId} (b:P.underlying u=some (.slice e)) {base':Nat} {v:Value} (h:Value.okWide P w .any base' u v):v.cells.toList= [v]:=by
 obtain ⟨a,l,c,rfl⟩:=okWide_slice b h;rfl
end
abbrev ω (x:Int):AV:= .int .i64 x
abbrev Ω (b:Bool) (n d:List UInt8):AV:= .agg [.bool b,.str n,.str d]
theorem Yq0 {p:Prop} [Decidable p]:p→decide p=true:=decide_eq_true
theorem Yq1 {p:Prop} [Decidable p]:¬p→decide p=false:=decide_eq_false
theorem Yq2 {α:Type} [BEq α] [LawfulBEq α] {a b:α}:(a==b)=false↔a≠b:=beq_eq_false_iff_ne
end AM
