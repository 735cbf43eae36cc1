/- The abstract machine over the code of the model, and the proof that it is sound. No conditions. -/
import Derived.Test.YtdmfgmmooalfnaaGreatDoorM4
import Derived.ChangeArms
import Derived.WideShapes
import Derived.Deep.Strs
set_option linter.unusedSimpArgs false
set_option linter.unusedVariables false
open Nat renaming beq→Xqq,le_refl→Δ,add_zero→Xq0,eq_of_beq_eq_true→Xjk,le_trans→Xqy,eq_zero_or_pos→Γ,zero_mul→Xwv
open List renaming map_cons→Xqi,append_nil→Θ,mem_of_getElem?→Xqh,isEmpty_iff→Xv3,map→Xw4,drop→ε,length_append→θ,take_add→Yq8,drop_drop→Xjl,flatten_cons→Xjw,getElem?_eq_getElem→ξ,getElem_mem→Xxe,getElem?_append→Xkf,flatten_append→Xzo,flatten_nil→Xk6
open Bool renaming and_eq_true→ο
namespace AM
open Go
structure aH (s s':St):Prop where
 env:∀ t,s.env.get t=s'.env.get t∨s.env.get t= .dead
 hp:s.hp=s'.hp
 md:s.md=s'.md
 dfs:s.dfs=s'.dfs
theorem aH.refl (s:St):aH s s:=⟨fun _=> .inl rfl,rfl,rfl,rfl⟩
def Pi:iY→(Nat→AV)→Prop
 | [],_=>True
 |(t,v)::r,f=>(f t=v)∧Pi r f
theorem yt {f:Nat→AV}:∀ {e:iY},Pi e f→∀ t,e.get t=f t∨e.get t= .dead
 | [],_,t=> .inr rfl
 | (u,v)::r,h,t=>by
  simp only [Pi] at h;simp only [iY.get,az];cases a:Xqq u t with
  |true=>
   have:=aJ a;subst this;exact .inl h.1.symm
  |false=>exact yt h.2 t
theorem aH.of {e e':iY} {hp:Hp} {md:AV} {dfs:List (Nat × List AV)} (h:Pi e e'.get):aH {env:=e,hp,md,dfs} {env:=e',hp,md,dfs}:=⟨yt h,rfl,rfl,rfl⟩
section
variable {P:Program} {ap:AP} {H:b_}
theorem FR.less {s s':St} (h:aH s s') {nt:Nat} {m:aV} {S:aQ} {w:World} {a:Act} (b:FR ap s'.env s'.hp s'.dfs nt m S w a):FR ap s.env s.hp s.dfs nt m S w a:=by
 refine ⟨h.hp ▸ b.srel,fun t=> ?_, ?_,b.size⟩
 ·rcases h.env t with e|e
  ·rw [e,h.hp];exact b.env t
  ·rw [e];simp [VR]
 ·rw [h.hp,h.dfs];exact b.dfs
theorem ak.weak {k:List a_} {nt:Nat} {b:Code} {s s' r j:St} {e:bD} (h:ak P ap k nt b s e r) (hs:aH s s') (c:aH j r):ak P ap k nt b s' e j:=by
 intro f;obtain ⟨t,u⟩:=h (hs.md ▸ f);refine ⟨c.md ▸ t,fun m0 S0 w0 m S w a i l Q n=>u m0 S0 w0 m S w a (by rw [hs.hp];exact i) (l.less hs) Q ?_⟩;intro p S' w' q o x;have:=n p S' w' q (by rw [c.hp];exact o) (x.less c);cases e with
 |normal=>exact this
 |exit id=>exact this
 |ret=>exact this
 |panic v=>intro cv d;exact this cv (by rw [c.hp];exact d)
inductive aA (P:Program) (ap:AP) (h0:List a_) (nt:Nat) (b:Code) {α β:Type} (e:β→bD) (st:α→St) (out:β→St):α→β→Prop where
 |done {a:α} {r:β}:ak P ap h0 nt b (st a) (e r) (out r)→aA P ap h0 nt b e st out a r
 |next {a a':α} {r:β}:ak P ap h0 nt b (st a) .normal (st a')→aA P ap h0 nt b e st out a' r→aA P ap h0 nt b e st out a r
theorem aA.rounds {t:List a_} {nt:Nat} {b:Code} {α β:Type} {e:β→bD} {j:α→St} {out:β→St} {a:α} {r:β} (d:e r ≠ .normal) (h:aA P ap t nt b e j out a r):(j a).md= .dead→(out r).md= .dead∧∃ n,∀ m0 S0 w0 m S w c,Fr (bF t) m0 S0 w0 (az (j a).hp) m S w→FR ap (j a).env (j a).hp (j a).dfs nt m S w c→∀ Q,XA ap t m0 S0 w0 nt (out r) (e r) Q→Code.rounds P b Q n c w:=by
 induction h with
 |@done a r hx=>
  intro f;obtain ⟨o,p⟩:=hx f;refine ⟨o,1,fun m0 S0 w0 m S w c i u Q s=>p m0 S0 w0 m S w c i u _ ?_⟩;intro l S' w' q k x;have:=s l S' w' q k x
  revert d this
  cases e r with
  |normal=>intro d _;exact absurd rfl d
  |exit id=>intro _ h;exact h
  |ret=>intro _ h;exact h
  |panic v=>intro _ h;exact h
 |next hx _ ih=>
  intro f;obtain ⟨o,p⟩:=hx f;obtain ⟨k,n,x⟩:=ih d o;refine ⟨k,n+1,fun m0 S0 w0 m S w c i u Q s=>p m0 S0 w0 m S w c i u _ ?_⟩;intro l S' w' q y z;exact x m0 S0 w0 l S' w' q y z Q s
theorem aA.ok {j:List a_} {nt:Nat} {b:Code} {α β:Type} {e:β→bD} {k:α→St} {out:β→St} {a:α} {r:β} (d:e r ≠ .normal) (h:aA P ap j nt b e k out a r):ak P ap j nt (.loop b) (k a) (e r) (out r):=by
 intro f;obtain ⟨p,n,q⟩:=h.rounds d f;exact ⟨p,fun m0 S0 w0 m S w c i l Q o=>wp_loop_rounds n (q m0 S0 w0 m S w c i l Q o)⟩
theorem aA.blk {f:List a_} {n id:Nat} {b:Code} {α β:Type} {e:β→bD} {i:α→St} {out:β→St} {a:α} {r:β} {s s':St} {e':bD} (h:∀ nt,n≤nt→aA P ap f nt b e i out a r) (c:e r ≠ .normal) (k:pg id (e r)=e') (hs:aH (i a) s) (l:aH s' (out r)):aG P ap f n (.block id (.loop b)) s e' s':=by
 intro nt j;have d:=((h nt j).ok c).block (id:=id);rw [k] at d;exact d.weak hs l
def o_ (id:Nat):Code→Option Code
 | .seq a b=>match o_ id a with|some c=>some c|none=>o_ id b
 | .cond _ a b=>match o_ id a with|some c=>some c|none=>o_ id b
 | .block i b=>match Xqq i id with|true=>some b|false=>o_ id b
 | .loop b=>o_ id b
 | .scope b=>o_ id b
 |_=>none
def af (id:Nat) (c:Code):Code:=match o_ id c with|some (.loop b)=>b|_=> .skip
end
end AM
namespace AM
open Go
def gZ (x y:List AV):Prop:=∀ g m S v,bg g m S x v→bg g m S y v
def vF:AV→Bool
 | .own _ _ _=>false
 | .tup _=>false
 |_=>true
theorem aT.refl (x:AV):aT x x:=fun _ _ _ _ h=>h
theorem gZ.refl (x:List AV):gZ x x:=fun _ _ _ _ h=>h
theorem gZ.nil:gZ [] []:=gZ.refl []
theorem gZ.cons {x y:AV} {l r:List AV} (h:aT x y) (b:gZ l r):gZ (x::l) (y::r):=by
 intro g m S v a;cases v with
 |nil=>simp [bg] at a
 |cons u vs=>simp only [bg] at a ⊢;exact ⟨h g m S u a.1,b g m S vs a.2⟩
theorem aT.nilS (b:Bool) (h:b=false):aT .nilS (.sl [] 0 b):=by
 subst h;intro g m S v a;simp only [VR,PR] at a ⊢;exact ⟨none,0,a,Δ _,.inl (by simp)⟩
theorem aT.sl (f:List AV) (n:Nat) (a:Bool):aT (.sl f n a) (.sl f n false):=by
 intro g m S v d;simp only [VR,PR] at d ⊢;obtain ⟨a,c,e,b,q⟩:=d;refine ⟨a,c,e,b, ?_⟩;rcases q with ⟨_,h,i⟩|q
 ·exact .inl ⟨fun _=>trivial,h,i⟩
 ·exact .inr q
theorem aT.dead (x:AV):aT x .dead:=fun _ _ _ _ _=>by simp only [VR]
theorem aT.agg {l r:List AV} (h:gZ l r):aT (.agg l) (.agg r):=by
 intro g m S v a;simp only [VR] at a ⊢;obtain ⟨vs,e,q⟩:=a;exact ⟨vs,e,h _ _ _ _ q⟩
section
variable {P:Program} {ap:AP}
theorem bC.args {f:Nat} {args args':List AV} {h b:List a_} {out:kD} (e:gZ args' args) (a:bC P ap f args h out b):bC P ap f args' h out b:=
 ⟨a.len,a.ent,fun m S w cargs d c=>a.calls m S w cargs d (e _ _ _ _ c)⟩
def jW (out out':kD):Prop:=(∀ n,mP n out=mP n out')∧∀ h' m' S' e,ack h' m' S' out e→ack h' m' S' out' e
theorem bC.out {f:Nat} {args:List AV} {h d:List a_} {out a:kD} (b:jW out a) (c:bC P ap f args h out d):bC P ap f args h a d:=
 ⟨c.len,c.ent,fun m S w cargs j i=>(c.calls m S w cargs j i).mono fun e w' ⟨m',S',hF⟩=> ⟨m',S',b.1 _ ▸ hF.srel,b.1 _ ▸ hF.fr,b.2 _ _ _ _ hF.out⟩⟩
theorem jZ {x:AV} (h:vF x=true):∀ a k e,x ≠ .own a k e:=by intro a k e b;subst b;cases h
theorem vG {x:AV} (h:vF x=true):∀ l,x ≠ .tup l:=by intro l a;subst a;cases h
theorem jW.ret {x y:AV} (a:vF x=true) (b:vF y=true) (h:aT x y):jW (.ret x) (.ret y):=by
 refine ⟨fun n=> ?_,fun j i S' e f=> ?_⟩
 ·simp only [mP,jk n (jZ a) (vG a),jk n (jZ b) (vG b)]
 ·obtain ⟨cv,d,c⟩:=f;refine ⟨cv,d, ?_⟩;rw [lu (jZ a) (vG a)] at c;rw [lu (jZ b) (vG b)];exact h _ _ _ _ c
inductive FV:List AV→List AV→Prop where
 |nil:FV [] []
 |same {x:AV} {l r:List AV}:FV l r→FV (x::l) (x::r)
 |fit {x y:AV} {l r:List AV}:vF x=true→vF y=true→aT x y→FV l r→FV (x::l) (y::r)
theorem FV.blocks {l r:List AV} (h:FV l r):∀ n,(fF n l).2=(fF n r).2:=by
 induction h with
 |nil=>intro n;rfl
 |@same x l r _ ih=>
  intro n;rcases jv x with ⟨a,k,e,rfl⟩|hx
  ·simp only [fF];rw [ih]
  ·rw [bu n hx,bu n hx];exact ih n
 |fit hx hy _ _ ih=>
  intro n;rw [bu n (jZ hx),bu n (jZ hy)];exact ih n
theorem FV.outR {gh b:dw} {m:aV} {S:aQ} {l r:List AV} (h:FV l r):∀ (n:Nat) (vs:List Value),jA gh b m S n l vs→jA gh b m S n r vs:=by
 induction h with
 |nil=>intro n vs a;exact a
 | @same x l r _ ih=>
  intro n vs a;cases vs with
  |nil=>simp [jA] at a
  |cons v vs=>
   rcases jv x with ⟨c,k,e,rfl⟩|hx
   ·simp only [jA] at a ⊢;exact ⟨a.1,ih _ _ a.2⟩
   ·rw [bM hx] at a ⊢;exact ⟨a.1,ih _ _ a.2⟩
 | fit hx hy hf _ ih=>
  intro n vs a;cases vs with
  |nil=>simp [jA] at a
  |cons v vs=>
   rw [bM (jZ hx)] at a;rw [bM (jZ hy)];exact ⟨hf _ _ _ _ a.1,ih _ _ a.2⟩
theorem jW.tup {l r:List AV} (h:FV l r):jW (.ret (.tup l)) (.ret (.tup r)):=by
 refine ⟨fun n=> ?_,fun b j S' e i=> ?_⟩
 ·simp only [mP,lI];exact h.blocks n
 ·obtain ⟨cv,d,a⟩:=i;refine ⟨cv,d, ?_⟩;simp only [BJ] at a ⊢;obtain ⟨vs,f,q⟩:=a;have c:(lI b.length (.tup l)).2=(lI b.length (.tup r)).2:=by simp only [lI];exact h.blocks _
  refine ⟨vs,f, ?_⟩;rw [c] at q;exact h.outR _ _ q
end
end AM
namespace AM
open Go
def thaw:AV→AV
 | .own xs n e=> .sl (xs.take (n*e)) n true
 |x=>x
def yO:kD→kD
 | .ret (.tup l)=> .ret (.tup (l.map thaw))
 | .ret x=> .ret (thaw x)
 | .pan v=> .pan v
theorem FB {x:AV} (h:∀ xs k e,x ≠ .own xs k e):thaw x=x:=by
 cases x<;>first|rfl|exact absurd rfl (h _ _ _)
theorem qY (x:AV):∀ a k e,thaw x ≠ .own a k e:=by
 intro a k e h;cases x<;>simp [thaw] at h
theorem xm:∀ (l:List AV) (n:Nat),(fF n (l.map thaw)).2= []
 | [],_=>rfl
 |x::r,n=>by rw [Xqi,bu n (qY x)];exact xm r n
section
variable {P:Program} {ap:AP}
theorem zW {gh o g':dw} {m:aV} {S S':aQ} {w:World} (s:bP ap o m S w) {rd:dw} (d:∀ b B,rd b=some B→o b=some B) (c:S'=dB S m rd w) (hother:∀ x v,VR gh m S x v→VR g' m S' x v):
  ∀ (l:List AV) (n:Nat) (vs:List Value),(∀ i B,(fF n l).2[i]? =some B→rd (n+i)=some B)→jA gh o m S n l vs→jA g' g' m S' n (l.map thaw) vs
 | [],n,vs,_,h=>by cases vs with|nil=>trivial|cons _ _=>simp [jA] at h
 |x::r,n,[],_,h=>by
  exfalso;rcases jv x with ⟨j,k,e,rfl⟩|f
  ·simp [jA] at h
  ·cases x<;>simp [jA] at h
 | x ::r,n,v::vs,hb,h=>by
  rcases jv x with ⟨j,k,e,rfl⟩|f
  ·simp only [jA] at h;simp only [fF] at hb;have A:=hb 0 _ rfl;rw [Xq0] at A;have D:frz rd 6 (.ref n 0 0 k)=some (.sl (j.take (k*e)) k true):=by
    simp [frz,A,I9]
   have E:=lG s d 6 _ _ _ D h.1;rw [Xqi,bM (qY _)];refine ⟨iw _ (c ▸ E), ?_⟩;have C:=zW s d c hother r (n+1) vs (fun i B F=>by rw [show n+1+i=n+(i+1) by omega];exact hb (i+1) B (by simpa using F)) h.2;have key:∀ (l:List AV) (a b:Nat) (vs:List Value),(∀ x ∈ l,∀ j k e,x ≠ .own j k e)→jA g' g' m S' a l vs→jA g' g' m S' b l vs:=by
    intro l
    induction l with
    |nil=>intro a b vs _ h;cases vs with|nil=>trivial|cons _ _=>simp [jA] at h
    | cons y q ih=>
     intro a b vs t h;cases vs with
     |nil=>cases y<;>simp [jA] at h
     |cons u us=>
      have p:=t y (by simp);rw [bM p] at h ⊢;exact ⟨h.1,ih a b us (fun x f=>t x (by simp [f])) h.2⟩
   refine key _ (n+1) n vs ?_ C;intro y p;obtain ⟨z,_,rfl⟩:=List.mem_map.1 p;exact qY z
  ·rw [bM f] at h;rw [bu n f] at hb;rw [Xqi,bM (qY x),FB f];exact ⟨hother _ _ h.1,zW s d c hother r n vs hb h.2⟩
theorem bC.thaw {f:Nat} {args:List AV} {h a:List a_} {out:kD} (hp:∀ B ∈ a,B.pr=true) (M:bC P ap f args h out a):bC P ap f args h (yO out) a:=by
 refine ⟨M.len,M.ent,fun m S w cargs W A=>(M.calls m S w cargs W A).mono ?_⟩
 rintro e w' ⟨m',S',hF⟩
 obtain ⟨s,d,z⟩:=hF;have y:∀ n,mP n (yO out)= []:=by
  intro n;cases out with
  |pan v=>rfl
  | ret x=>
   rcases Au x with ⟨l,rfl⟩|ht
   ·simp only [yO,mP,lI];exact xm l n
   ·have:yO (.ret x)= .ret (AM.thaw x):=by cases x<;>first|rfl|exact absurd rfl (ht _)
    rw [this];simp only [mP];have C:∀ l,AM.thaw x ≠ .tup l:=by intro l I;cases x<;>simp [AM.thaw] at I;exact ht _ rfl
    rw [jk n (qY x) C]
 let rd:dw:=fun b=>if a.length≤b then bF (a++mP a.length out) b else none
 have u:∀ b B,rd b=some B→bF (a++mP a.length out) b=some B:=by
  intro b B c;simp only [rd] at c;split at c
  ·exact c
  ·cases c
 have r:=nJ S' m' rd w';have p:∀ b B,bF a b=some B→bF (a++mP a.length out) b=some B:=by
  intro b B c;have:b<a.length:=(List.getElem?_eq_some_iff.1 c).1;rw [eU this];exact c
 have hother:∀ x v,VR (bF a) m' S' x v→VR (bF (a++mP a.length (yO out))) m' (dB S' m' rd w') x v:=by
  intro x v G;rw [y,Θ];exact oU r (Ge.refl _ _) x G
 refine ⟨m',dB S' m' rd w', ?_, ?_, ?_⟩
 ·rw [y,Θ];refine ⟨fun b E B B' c Q=>s.inj b E B B' (p b B c) (p E B' Q), ?_,fun k o v A=>pU s A, ?_, ?_⟩
  ·intro b B c;obtain ⟨⟨cur,e,vs,rest,j,t,F,T,J,h6⟩,Y,R⟩:=s.blk b B (p b B c);have L:=hp B (Xqh c);refine ⟨⟨cur,e,vs,rest,j,t,fun _=>cO r _ (F L),bT _ (cO r _ (F L)),J,h6⟩,Y,R⟩
  ·intro b B c o v A;rcases fG A with j|⟨j,E,B',t,F,T⟩
   ·exact s.own b B (p b B c) o v j
   ·have:=s.inj b E B B' (p b B c) (u _ _ t) F.symm;subst this;have D:b<a.length:=(List.getElem?_eq_some_iff.1 c).1;simp only [rd] at t;rw [if_neg (by omega)] at t;cases t
  ·intro k N hk;obtain ⟨vs,j,t⟩:=s.glob k N hk;exact ⟨vs,cO r _ j,t.mono r⟩
 ·rw [y,Θ];refine ⟨?_,oM.trans d.sle r,d.os,d.tape,d.output,d.size,d.rest,fun b B c=>d.img b B (p b B c), ?_⟩
  ·intro b B c;obtain ⟨B',j,t⟩:=d.ge b B c;have D:b<a.length:=Nat.lt_of_lt_of_le (List.getElem?_eq_some_iff.1 c).1 M.len;rw [eU D] at j;exact ⟨B',j,t⟩
  ·intro k o v A;rcases fG A with j|⟨j,E,B',t,F,T⟩
   ·exact d.sealN k o v j
   ·rcases d.img E B' (u _ _ t) with J|⟨B0,J,_⟩
    ·exact .inr (.inl (F ▸ J))
    ·exfalso;have D:E<h.length:=(List.getElem?_eq_some_iff.1 J).1;simp only [rd] at t;rw [if_neg (by have:=M.len;omega)] at t;cases t
 ·have K:∀ l,out= .ret (.tup l)→∀ i B,(fF a.length l).2[i]? =some B→rd (a.length+i)=some B:=by
   intro l I i B hi;subst I;simp only [rd];rw [if_pos (by omega),je (by omega),show a.length+i - a.length=i by omega];exact hi
  cases out with
  |pan v=>
   obtain ⟨cv,O,j⟩:=z;refine ⟨cv,O, ?_⟩;have:=hother v cv j;rwa [y,Θ] at this
  | ret x=>
   obtain ⟨cv,O,j⟩:=z;rcases Au x with ⟨l,rfl⟩|ht
   ·simp only [BJ] at j;obtain ⟨vs,U,q⟩:=j;refine ⟨cv,O, ?_⟩;simp only [BJ];refine ⟨vs,U, ?_⟩;have c:(lI a.length (.tup (l.map AM.thaw))).2= []:=by simp only [lI];exact xm l _
    rw [c,Θ];have:=zW (gh:=bF a) (g':=bF a) s u rfl (fun x v G=>oU r (Ge.refl _ _) x G) l a.length vs (K l rfl) q;exact this
   ·have Z:yO (.ret x)= .ret (AM.thaw x):=by cases x<;>first|rfl|exact absurd rfl (ht _)
    have C:∀ l,AM.thaw x ≠ .tup l:=by intro l I;cases x<;>simp [AM.thaw] at I;exact ht _ rfl
    rw [Z];refine ⟨cv,O, ?_⟩;rw [lu (qY x) C];rcases jv x with ⟨N,k,e,rfl⟩|G
    ·simp only [BJ] at j;have X:rd a.length=some (I9 N e):=by
      simp only [rd];rw [if_pos (Δ _),je (Δ _),Nat.sub_self];rfl
     have V:frz rd 6 (.ref a.length 0 0 k)=some (.sl (N.take (k*e)) k true):=by
      simp [frz,X,I9]
     have:=lG s u 6 _ _ _ V j;exact iw _ this
    ·rw [lu G ht] at j;rw [FB G];exact oU r (Ge.refl _ _) x j
end
end AM
namespace AM
open Go
structure qo (s s':St):Prop where
 env:∀ t,aT (s'.env.get t) (s.env.get t)
 hp:s.hp=s'.hp
 md:s.md=s'.md
 dfs:s.dfs=s'.dfs
theorem qo.refl (s:St):qo s s:=⟨fun _=>aT.refl _,rfl,rfl,rfl⟩
def Ip:iY→(Nat→AV)→Prop
 | [],_=>True
 |(t,v)::r,f=>aT (f t) v∧Ip r f
theorem wE {f:Nat→AV}:∀ {e:iY},Ip e f→∀ t,aT (f t) (e.get t)
 | [],_,t=>aT.dead _
 | (u,v)::r,h,t=>by
  simp only [Ip] at h;simp only [iY.get,az];cases a:Xqq u t with
  |true=>
   have:=aJ a;subst this;exact h.1
  |false=>exact wE h.2 t
theorem qo.of {e e':iY} {hp:Hp} {md:AV} {dfs:List (Nat × List AV)} (h:Ip e e'.get):qo {env:=e,hp,md,dfs} {env:=e',hp,md,dfs}:=⟨wE h,rfl,rfl,rfl⟩
section
variable {P:Program} {ap:AP}
theorem FR.lessF {s s':St} (h:qo s s') {nt:Nat} {m:aV} {S:aQ} {w:World} {a:Act} (b:FR ap s'.env s'.hp s'.dfs nt m S w a):FR ap s.env s.hp s.dfs nt m S w a:=by
 refine ⟨h.hp ▸ b.srel,fun t=> ?_, ?_,b.size⟩
 ·have:=h.env t _ _ _ _ (b.env t);rw [h.hp];exact this
 ·rw [h.hp,h.dfs];exact b.dfs
theorem ak.weakF {k:List a_} {nt:Nat} {b:Code} {s s' r j:St} {e:bD} (h:ak P ap k nt b s e r) (hs:qo s s') (c:qo j r):ak P ap k nt b s' e j:=by
 intro f;obtain ⟨t,u⟩:=h (hs.md ▸ f);refine ⟨c.md ▸ t,fun m0 S0 w0 m S w a i l Q n=>u m0 S0 w0 m S w a (by rw [hs.hp];exact i) (l.lessF hs) Q ?_⟩;intro p S' w' q o x;have:=n p S' w' q (by rw [c.hp];exact o) (x.lessF c);cases e with
 |normal=>exact this
 |exit id=>exact this
 |ret=>exact this
 |panic v=>intro cv d;exact this cv (by rw [c.hp];exact d)
theorem aA.blkF {f:List a_} {n id:Nat} {b:Code} {α β:Type} {e:β→bD} {i:α→St} {out:β→St} {a:α} {r:β} {s s':St} {e':bD} (h:∀ nt,n≤nt→aA P ap f nt b e i out a r) (c:e r ≠ .normal) (k:pg id (e r)=e') (hs:qo (i a) s) (l:qo s' (out r)):aG P ap f n (.block id (.loop b)) s e' s':=by
 intro nt j;have d:=((h nt j).ok c).block (id:=id);rw [k] at d;exact d.weakF hs l
end
end AM
namespace AM
open Go
def xY (b:Nat) (c v:Nat):Option (Nat × Nat):=match Xqq c b with|true=>none|false=>some (c,v)
inductive Fz (b:Nat) (B:a_):AV→AV→Prop
 |ren {x:AV}:Fz b B x (ren (xY b) x)
 |ref {i n:Nat}:Fz b B (.ref b B.ver i n) (.sl ((B.cells.drop (i*B.esz)).take (n*B.esz)) n true)
 |fit {x y z:AV}:Fz b B x y→aT y z→Fz b B x z
inductive FzL (b:Nat) (B:a_):List AV→List AV→Prop
 |nil:FzL b B [] []
 |cons {x y:AV} {l r:List AV}:Fz b B x y→FzL b B l r→FzL b B (x::l) (y::r)
theorem Fz.same {b:Nat} {B:a_} {x:AV} (h:AM.ren (xY b) x=x):Fz b B x x:=by
 have:=Fz.ren (b:=b) (B:=B) (x:=x);rwa [h] at this
theorem Fz.dead {b:Nat} {B:a_} (x:AV):Fz b B x .dead:= .fit .ren (aT.dead _)
theorem FzL.length {b:Nat} {B:a_} {l r:List AV} (h:FzL b B l r):l.length=r.length:=by
 induction h with
 |nil=>rfl
 |cons _ _ ih=>simp [ih]
structure MH (b:Nat) (B:a_) (C C':a_):Prop where
 ver:C'.ver=C.ver
 fro:C'.fro=C.fro
 fz:C'.fz=C.fz
 esz:C'.esz=C.esz
 body:(C.pr=true∧C'.cells=C.cells∧C'.pr=true)∨(FzL b B C.cells C'.cells∧(C'.pr=true→(bK C'.cells).isEmpty=true))
theorem MH.same {b:Nat} {B C:a_} (hp:C.pr=true):MH b B C C:=⟨rfl,rfl,rfl,rfl,.inl ⟨hp,rfl,hp⟩⟩
theorem MH.length {b:Nat} {B C C':a_} (h:MH b B C C'):C.cells.length=C'.cells.length:=by
 rcases h.body with ⟨_,e,_⟩|⟨e,_⟩
 ·rw [e]
 ·exact e.length
section
variable {P:Program} {ap:AP} {g:dw} {m:aV} {S:aQ} {w:World}
def mY (b:Nat) (B:a_):dw:=fun c=>match Xqq c b with|true=>some B|false=>none
theorem rZ {b c:Nat} {B C:a_} (h:mY b B c=some C):c=b∧C=B:=by
 unfold mY at h;split at h
 ·rename_i a;cases h;exact ⟨aJ a,rfl⟩
 ·cases h
theorem Oh (b:Nat) (B:a_):mY b B b=some B:=by unfold mY;rw [Nat.beq_refl]
theorem Fz.sound {b:Nat} {B:a_} (k:bP ap g m S w) (j:g b=some B) (d:B.pr=true) {g':dw} (l:sO g m g' m (xY b)) {x y:AV} (h:Fz b B x y):∀ {v:Value},VR g m S x v→VR g' m (dB S m (mY b B) w) y v:=by
 have f:∀ c C,mY b B c=some C→g c=some C:=by
  intro c C o;obtain ⟨rfl,rfl⟩:=rZ o;exact j
 induction h with
 |ren=>intro v a;exact yZ (nJ S m (mY b B) w) l _ a
 | @ref i n=>
  intro v a;have e:frz (mY b B) 6 (.ref b B.ver i n)=some (.sl ((B.cells.drop (i*B.esz)).take (n*B.esz)) n true):=by
   simp [frz,Oh,d]
  exact iw _ (lG k f 6 _ _ _ e a)
 |fit _ e ih=>intro v a;exact e _ _ _ _ (ih a)
theorem FzL.sound {b:Nat} {B:a_} (e:bP ap g m S w) (d:g b=some B) (c:B.pr=true) {g':dw} (f:sO g m g' m (xY b)) {l r:List AV} (h:FzL b B l r):∀ {vs:List Value},bg g m S l vs→bg g' m (dB S m (mY b B) w) r vs:=by
 induction h with
 |nil=>intro vs a;cases vs with|nil=>simp [bg]|cons _ _=>simp [bg] at a
 | cons hx _ ih=>
  intro vs a;cases vs with
  |nil=>simp [bg] at a
  |cons v vs=>
   simp only [bg] at a ⊢;exact ⟨hx.sound e d c f a.1,ih a.2⟩
theorem wu:∀ {l:List AV} {vs:List Value},(bK l).isEmpty=true→bg g m S l vs→dO S l vs
 | [],[],_,_=>by simp [dO]
 |x::l,v::vs,h,hv=>by
  simp only [bK,Xv3,List.append_eq_nil_iff] at h;rw [← Xv3,← Xv3] at h;simp only [bg] at hv;simp only [dO];exact ⟨m_ h.1 hv.1,wu h.2 hv.2⟩
 | [],_::_,_,hv=>by simp [bg] at hv
 |_::_,[],_,hv=>by simp [bg] at hv
theorem Gh {g g':dw} {m b:aV} {S S':aQ} {ρ:Nat→Nat→Option (Nat × Nat)} (c:oM S S') (e:sO g m g' b ρ):∀ {l:List (Nat × List AV)} {ds:List Deferred},gX g m S l ds→gX g' b S' (l.map fun d=>(d.1,mQ ρ d.2)) ds
 | [],[],_=>by simp only [List.map_nil,gX]
 |d::r,cd::cr,h=>by
  simp only [gX] at h;simp only [Xqi,gX];obtain ⟨⟨a,f,j⟩,i⟩:=h;exact ⟨⟨a,f,kG c e _ j⟩,Gh c e i⟩
 | [],_::_,h=>by simp [gX] at h
 |_::_,[],h=>by simp [gX] at h
theorem Vj {y:List a_} {nt:Nat} {r i:St} {m0 h:aV} {S0 S':aQ} {w0 w':World} {Q:Act} (b:Nat) (B:a_) (hb0:y.length≤b) (A:az r.hp b=some B) (F:B.pr=true)
  (hd:i.dfs=r.dfs.map fun d=>(d.1,mQ (xY b) d.2))
  (henv:∀ t,Fz b B (r.env.get t) (i.env.get t))
  (hdom:∀ c C',az i.hp c=some C'→c ≠ b∧∃ C,az r.hp c=some C∧MH b B C C')
  (hall:∀ c C,c ≠ b→az r.hp c=some C→∃ C',az i.hp c=some C')
  (h5:Fr (bF y) m0 S0 w0 (az r.hp) h S' w') (h6:FR ap r.env r.hp r.dfs nt h S' w' Q):
  ∃ S2,Fr (bF y) m0 S0 w0 (az i.hp) h S2 w'∧FR ap i.env i.hp i.dfs nt h S2 w' Q:=by
 have f:=h6.srel;have l:=nJ S' h (mY b B) w';have hrd:∀ c C,mY b B c=some C→az r.hp c=some C:=by
  intro c C j;obtain ⟨rfl,rfl⟩:=rZ j;exact A
 have p:sO (az r.hp) h (az i.hp) h (xY b):=by
  intro c ver Y Z hρ C u s;unfold xY at hρ;split at hρ
  ·cases hρ
  ·rename_i U;cases hρ;have x:c ≠ b:=by intro e;subst e;simp at U
   obtain ⟨C',q⟩:=hall c C x u;obtain ⟨_,C2,n,a⟩:=hdom c C' q;rw [u] at n;cases n;exact ⟨C',q,by rw [a.ver];exact s,fun e=> ⟨by rw [← a.ver];exact e,rfl,a.esz⟩⟩
 have T:bP ap (az i.hp) h (dB S' h (mY b B) w') w':=by
  refine ⟨?_, ?_,fun k o v s=>pU f s, ?_, ?_⟩
  ·intro c Y C C' j R hm;obtain ⟨_,D,hD,_⟩:=hdom c C j;obtain ⟨_,D',W,_⟩:=hdom Y C' R;exact f.inj c Y D D' hD W hm
  ·intro c C' j;obtain ⟨_,C,u,a⟩:=hdom c C' j;obtain ⟨⟨cur,ee,vs,rest,k1,k2,k3,k4,k5,k6⟩,hz,O⟩:=f.blk c C u;have I:(C'.pr=true→dO (dB S' h (mY b B) w') C'.cells vs)∧bg (az i.hp) h (dB S' h (mY b B) w') C'.cells vs:=by
    rcases a.body with ⟨K,N,q3⟩|⟨K,N⟩
    ·have:=cO l _ (k3 K);rw [N];exact ⟨fun _=>this,bT _ this⟩
    ·have s:=K.sound f A F p k4;exact ⟨fun hp=>wu (N hp) s,s⟩
   exact ⟨⟨cur,ee,vs,rest,by rw [a.esz];exact k1,k2,I.1,I.2,by rw [a.esz];exact k5,fun hp=>by rw [a.esz] at hp ⊢;exact k6 hp⟩,fun hp=>by rw [a.fz];exact hz (by rw [← a.fro];exact hp),by rw [a.fz,← a.length];exact O⟩
  ·intro c C' j o v s;obtain ⟨x,C,u,a⟩:=hdom c C' j;rw [a.fro,a.fz];rcases fG s with G|⟨G,J,B',L,M,h4⟩
   ·exact f.own c C u o v G
   ·obtain ⟨rfl,rfl⟩:=rZ L;exact absurd (f.inj c J C B' u A M.symm) x
  ·intro k xs hk;obtain ⟨vs,k1,k2⟩:=f.glob k xs hk;exact ⟨vs,cO l _ k1,k2.mono l⟩
 have z:Fr (bF y) m0 S0 w0 (az i.hp) h (dB S' h (mY b B) w') w':=by
  refine ⟨?_,oM.trans h5.sle l,h5.os,h5.tape,h5.output,h5.size,h5.rest, ?_, ?_⟩
  ·intro c C j;have hlt:c<y.length:=(List.getElem?_eq_some_iff.1 j).1;obtain ⟨C1,E,e1,e2⟩:=h5.ge c C j;obtain ⟨C',q⟩:=hall c C1 (by omega) E;obtain ⟨_,C2,n,a⟩:=hdom c C' q;rw [E] at n;cases n;exact ⟨C',q,by rw [a.esz];exact e1,by rw [a.ver];exact e2⟩
  ·intro c C' j;obtain ⟨_,C,u,_⟩:=hdom c C' j;exact h5.img c C u
  ·intro k o v s;rcases fG s with G|⟨G,J,B',L,M,h4⟩
   ·exact h5.sealN k o v G
   ·obtain ⟨rfl,rfl⟩:=rZ L;rcases h5.img J B' A with V|⟨B0,V,_⟩
    ·exact .inr (.inl (M ▸ V))
    ·have:J<y.length:=(List.getElem?_eq_some_iff.1 V).1;omega
 have X:FR ap i.env i.hp i.dfs nt h (dB S' h (mY b B) w') w' Q:=by
  refine ⟨T,fun t=>(henv t).sound f A F p (h6.env t), ?_,h6.size⟩;rw [hd];exact Gh l p h6.dfs
 exact ⟨_,z,X⟩
theorem ak.freeze {n:List a_} {nt:Nat} {f:Code} {s r i:St} {e:bD} (b:Nat) (B:a_) (h:ak P ap n nt f s e r) (A:∀ v,e ≠ .panic v) (k:n.length≤b) (E:az r.hp b=some B) (l:B.pr=true)
  (hmd:i.md=r.md) (hd:i.dfs=r.dfs.map fun d=>(d.1,mQ (xY b) d.2))
  (henv:∀ t,Fz b B (r.env.get t) (i.env.get t))
  (hdom:∀ c C',az i.hp c=some C'→c ≠ b∧∃ C,az r.hp c=some C∧MH b B C C')
  (hall:∀ c C,c ≠ b→az r.hp c=some C→∃ C',az i.hp c=some C'):ak P ap n nt f s e i:=by
 intro hs;obtain ⟨x,y⟩:=h hs;refine ⟨hmd ▸ x,fun m0 S0 w0 m S w a p F Q D=>y m0 S0 w0 m S w a p F Q ?_⟩;intro u S' w' z q G;obtain ⟨S2,j,o⟩:=Vj b B k E l hd henv hdom hall q G;have:=D u S2 w' z j o;cases e with
 |normal=>exact this
 |exit id=>exact this
 |ret=>exact this
 |panic v=>exact absurd rfl (A v)
def UQ (b:Nat) (B:a_):iY→(Nat→AV)→Prop
 | [],_=>True
 |(t,v)::r,f=>Fz b B (f t) v∧UQ b B r f
theorem uo {b:Nat} {B:a_} {f:Nat→AV}:∀ {e:iY},UQ b B e f→∀ t,Fz b B (f t) (e.get t)
 | [],_,t=>Fz.dead _
 | (u,v)::r,h,t=>by
  simp only [UQ] at h;simp only [iY.get,az];cases a:Xqq u t with
  |true=>
   have:=aJ a;subst this;exact h.1
  |false=>exact uo h.2 t
def Px (b:Nat) (B:a_):Hp→Hp→Prop
 | [],l=>l= [(b,B)]
 |(c,C)::r,(d,D)::l=>c=d∧MH b B D C∧c ≠ b∧Px b B r l
 |_::_,[]=>False
theorem IC {b:Nat} {B:a_}:∀ {r l:Hp},Px b B r l→∀ c C',az r c=some C'→c ≠ b∧∃ C,az l c=some C∧MH b B C C'
 | [],l,_,c,C',hc=>by simp [az] at hc
 | (d,D)::r,(d',D')::l,h,c,C',hc=>by
  simp only [Px] at h;obtain ⟨rfl,i,e,f⟩:=h;simp only [az] at hc ⊢;cases a:Xqq d c with
  |true=>
   rw [a] at hc;have:=aJ a;subst this;cases hc;exact ⟨e,D',rfl,i⟩
  |false=>
   rw [a] at hc;exact IC f c C' hc
 |_::_,[],h,_,_,_=>by simp [Px] at h
theorem IB {b:Nat} {B:a_}:∀ {r l:Hp},Px b B r l→∀ c C,c ≠ b→az l c=some C→∃ C',az r c=some C'
 | [],l,h,c,C,hcb,hc=>by
  simp only [Px] at h;subst h;simp only [az] at hc;split at hc
  ·rename_i a;exact absurd (aJ a).symm hcb
  ·cases hc
 |(d,D)::r,(d',D')::l,h,c,C,hcb,hc=>by
  simp only [Px] at h;obtain ⟨rfl,i,f,e⟩:=h;simp only [az] at hc ⊢;cases a:Xqq d c with
  |true=>exact ⟨D,rfl⟩
  |false=>rw [a] at hc;exact IB e c C hcb hc
 |_::_,[],h,_,_,_,_=>by simp [Px] at h
theorem D7 {b:Nat} {B:a_}:∀ {r l:Hp},Px b B r l→az l b=some B
 | [],l,h=>by
  simp only [Px] at h;subst h;simp [az]
 |(d,D)::r,(d',D')::l,h=>by
  simp only [Px] at h;obtain ⟨rfl,f,a,c⟩:=h;simp only [az];cases e:Xqq d b with
  |true=>exact absurd (aJ e) a
  |false=>exact D7 c
 |_::_,[],h=>by simp [Px] at h
theorem ak.forget {i:List a_} {nt:Nat} {a:Code} {s:St} {e:bD} (b:Nat) (B:a_) {k c:iY} {hp d:Hp} {md:AV} (h:ak P ap i nt a s e {env:=k,hp,md,dfs:= []}) (l:∀ v,e ≠ .panic v) (j:i.length≤b) (f:B.pr=true)
  (henv:UQ b B c (iY.get k)) (hhp:Px b B d hp):ak P ap i nt a s e {env:=c,hp:=d,md,dfs:= []}:=
 h.freeze b B l j (D7 hhp) f rfl rfl (uo henv) (IC hhp) (IB hhp)
theorem ak.forgetD {j:List a_} {nt:Nat} {a:Code} {s:St} {e:bD} (b:Nat) (B:a_) {l c:iY} {hp f:Hp} {md:AV} {dfs:List (Nat × List AV)} (h:ak P ap j nt a s e {env:=l,hp,md,dfs}) (n:∀ v,e ≠ .panic v) (k:j.length≤b) (i:B.pr=true)
  (henv:UQ b B c (iY.get l)) (hhp:Px b B f hp) (hd:dfs.map (fun d=>(d.1,mQ (xY b) d.2))=dfs):ak P ap j nt a s e {env:=c,hp:=f,md,dfs}:=
 h.freeze b B n k (D7 hhp) i rfl hd.symm (uo henv) (IC hhp) (IB hhp)
end
end AM
namespace AM
open Go
inductive CZ:List LK→List Value→Prop
 |nil:CZ [] []
 |int {k:IntKind} {n:Int} {r:List LK} {l:List Value}:CZ r l→CZ (.int k::r) (.int k n::l)
 |bool {b:Bool} {r:List LK} {l:List Value}:CZ r l→CZ (.bool::r) (.bool b::l)
 |str {s:ByteArray} {r:List LK} {l:List Value}:CZ r l→CZ (.str::r) (.string s::l)
section
variable {H:Type} {enc:TypeId × Value→H} {P:Program} {w:World} {base:Nat} {spare:Nat→Bool} {held:Bool}
end
end AM
namespace AM
open Go
def xI:Nat→Nat→List Bool
 |0,_=> []
 |n+1,k=>Xqq (k % 2) 1::xI n (k / 2)
def Xw:Nat→List Bool→List Bool
 |0,l=>l
 |n+1,l=>true::Xw n l
theorem lV.n (k:Nat) {l:List Bool} (h:lV l):lV (Xw k l):=by
 induction k with
 |zero=>exact h
 |succ k ih=>exact .t ih
theorem lV.k (k:Nat) {b:Bool} {l:List Bool} (a:b=true) (h:lV l):lV (Xw k (b::l)):= .n k (.c a h)
theorem tf (b:Bool):b=true∨b=false:=by cases b<;>simp
theorem aN {b:Bool} (h:b=true):lit true b=true:=h
theorem aK {b:Bool} (h:b=false):lit false b=true:=by subst h;rfl
theorem dL {b:Bool} (h:b=false):lit true (!b)=true:=by subst h;rfl
theorem aU {b:Bool} (h:b=true):lit false (!b)=true:=by subst h;rfl
inductive PS (P:Program) (ap:AP):List Prop→List (kD × List a_)→xC→List vU→Prop where
 |nil:PS P ap [] [] [] []
 |c {f:Nat} {args:List AV} {h h':List a_} {out:kD} {ps:List Prop} {ans:List (kD × List a_)} {lps:xC} {hs:List vU}:bC P ap f args h out h'→PS P ap ps ans lps hs→PS P ap (bC P ap f args h out h'::ps) (ans++ [(out,h')]) lps hs
 |l {h0:List a_} {n:Nat} {code:Code} {s s':St} {e:bD} {ps:List Prop} {ans:List (kD × List a_)} {lps:xC} {hs:List vU}:aG P ap h0 n code s e s'→PS P ap ps ans lps hs→PS P ap (aG P ap h0 n code s e s'::ps) ans (lps++ [(e,s')]) hs
 |v (d:Nat) {x y:AV} {ps:List Prop} {ans:List (kD × List a_)} {lps:xC} {hs:List vU}:aT x y→PS P ap ps ans lps hs→PS P ap (aT x y::ps) ans lps (hs++ [.v d y])
 |b (d:Nat) {x y:List AV} {ps:List Prop} {ans:List (kD × List a_)} {lps:xC} {hs:List vU}:x=y→PS P ap ps ans lps hs→PS P ap ((x=y)::ps) ans lps (hs++ [.b d y])
 |u (d:Nat) {x y:List (Option a_)} {ps:List Prop} {ans:List (kD × List a_)} {lps:xC} {hs:List vU}:x=y→PS P ap ps ans lps hs→PS P ap ((x=y)::ps) ans lps (hs++ [.u d])
theorem PS.all {P:Program} {ap:AP} {ps:List Prop} {ans:List (kD × List a_)} {a:xC} {hs:List vU} (h:PS P ap ps ans a hs):MG ps:=by
 induction h with
 |nil=>exact .nil
 |c h _ ih=>exact .cons h ih
 |l h _ ih=>exact .cons h ih
 |v _ h _ ih=>exact .cons h ih
 |b _ h _ ih=>exact .cons h ih
 |u _ h _ ih=>exact .cons h ih
theorem ck {P:Program} {ap:AP} (g:Gi P ap) {ans:List (kD × List a_)} {ps:List Prop} {f:Nat} {args:List AV} {h a:List a_} {out:kD} (hp:PS P ap ps ans [] [])
  (he:tN ap (yK P ap 3000 4) 3000 .dead f args h ⟨true,[],[],[],ans,[]⟩= .ok (out,a,.dead) ⟨true,[],[],ps,[],[]⟩):bC P ap f args h out a:=Gx g hp.all he
theorem pk {P:Program} {ap:AP} (g:Gi P ap) (ls:List Nat) (n k:Nat) {ans:List (kD × List a_)} {a:xC} {hs:List vU} {bs:List Bool} {ps:List Prop} {f:Nat} {args:List AV} {h b:List a_} {out:kD}
  (hb:lV bs) (hp:PS P ap ps ans a hs) (he:O0 P ap (yK P ap 3000 4) 3000 ls f args h a ⟨false,xI n k,[],[],ans,hs⟩= .ok (out,b,.dead) ⟨false,[],bs,ps,[],[]⟩):bC P ap f args h out b:=by
 obtain ⟨c,d⟩:=oG g.apok g.mixed g.fnok 3000 4;exact Uj g.apok g.mixed g.fnok c d he ⟨hb.mem,hp.all.mem⟩
def IK (ap:AP) (f:Nat):List Nat:=match ap.fnAt f with|some F=>F.keep|none=> []
def P8 (env:iY):R ((bD × St) × xC)→R ((bD × St) × xC)
 | .ok ((e,s),l) c=> .ok ((e,⟨env.map fun q=>(q.1,s.env.get q.1),s.hp,s.md,s.dfs⟩),l) c
 |r=>r
def Ob (P:Program) (ap:AP) (h0:List a_) (f nt0:Nat) (ls:List Nat) (code:Code) (s:St) (lps:xC) (orc:List Bool) (ans:List (kD × List a_)) (hs:List vU) (env:iY):R ((bD × St) × xC):=
 match dE nt0 code with
 |true=>P8 env (lZ P ap (yK P ap 3000 4) h0 (IK ap f) 3000 nt0 ls code s lps ⟨false,orc,[],[],ans,hs⟩)
 |false=> .bad 0
theorem Vo (env a:iY):∀ t,iY.get (env.map fun q=>(q.1,a.get q.1)) t=a.get t∨iY.get (env.map fun q=>(q.1,a.get q.1)) t= .dead:=by
 intro t
 induction env with
 |nil=>exact .inr rfl
 | cons q r ih=>
  cases b:Xqq q.1 t with
  |true=>
   left;have:=Xjk b;subst this;simp only [iY.get,Xqi,az,b,Option.getD_some]
  | false=>
   have e:iY.get (Xw4 (fun q=>(q.1,a.get q.1)) (q::r)) t=iY.get (Xw4 (fun q=>(q.1,a.get q.1)) r) t:=by
    simp only [iY.get,Xqi,az,b]
   rw [e];exact ih
theorem pj {P:Program} {ap:AP} (g:Gi P ap) (f:Nat) (ls:List Nat) (n k:Nat) {nt d:Nat} {ans:List (kD × List a_)} {b:xC} {hs:List vU} {bs:List Bool} {ps:List Prop} {a:Code} {s s':St} {h:List a_} {e:bD}
  (hb:lV bs) (hp:PS P ap ps ans b hs) (hn:d≤nt) (he:Ob P ap h f d ls a s b (xI n k) ans hs s'.env= .ok ((e,s'),[]) ⟨false,[],bs,ps,[],[]⟩):ak P ap h nt a s e s':=by
 unfold Ob at he;split at he
 ·rename_i hd;generalize p:lZ P ap (yK P ap 3000 4) h (IK ap f) 3000 d ls a s b ⟨false,xI n k,[],[],ans,hs⟩=r at he;cases r with
  |ok q c=>
   obtain ⟨⟨l,j⟩,v⟩:=q;simp only [P8,R.ok.injEq,Prod.mk.injEq] at he;obtain ⟨⟨⟨rfl,i⟩,rfl⟩,rfl⟩:=he;obtain ⟨o,u⟩:=oG g.apok g.mixed g.fnok 3000 4;have t:ak P ap h nt a s l j:=(uj g.apok g.mixed o hn a (dX hn a hd) _ _ _ _ _ p ⟨hb.mem,hp.all.mem⟩).2;refine t.weak (aH.refl _) ?_;rw [← i];exact ⟨Vo _ _,rfl,rfl,rfl⟩
  |need=>simp [P8] at he
  |bad n=>simp [P8] at he
 ·cases he
theorem aT.pp {f d:List AV} {a:Nat} (h:ε a f=d):aT (.pp f a) (.pp d 0):=by
 subst h;intro g m S v c;simp only [VR,PR] at c ⊢;obtain ⟨b,o,vs,rfl,hp,hs⟩:=c;refine ⟨b,o+a,vs.drop a,rfl,qp a hp,fun j u e=> ?_⟩;rw [List.getElem?_drop] at e;have:=hs (a+j) u e;rwa [← Nat.add_assoc] at this
theorem aT.ppt {e c i:List AV} {a:Nat} (h:ε a e=c++i):aT (.pp e a) (.pp c 0):=by
 intro g m S v f;have:=aT.pp h g m S v f;simp only [VR,PR] at this ⊢;obtain ⟨b,o,vs,rfl,hp,hs⟩:=this;refine ⟨b,o,vs.take c.length,rfl, ?_,fun j u d=> ?_⟩
 ·have:=kE c.length hp;rwa [List.take_left'] at this;rfl
 ·rw [List.getElem?_take] at d;split at d
  ·exact hs j u d
  ·cases d
theorem aT.eq {x y:AV} (h:x=y):aT x y:=h ▸ fun _ _ _ _ a=>a
theorem aT.rd (ks:List LK) {d b c:List AV} {a:Nat} (h:ε a d=b++c) (e:Lj true ks (b++c)=b):aT (.agg (uH true ks d a)) (.agg b):= .eq (by unfold uH;rw [h,e])
theorem lV.a {l r:List Bool} (h:lV l) (a:lV r):lV (l++r):=by
 induction h with
 |nil=>exact a
 |t _ ih=>exact .t ih
 |c hb _ ih=>exact .c hb ih
theorem lV.of {l:List Bool} (h:l.all id=true):lV l:=by
 induction l with
 |nil=>exact .nil
 |cons b r ih=>
  simp only [List.all_cons,id,ο] at h;exact .c h.1 (ih h.2)
theorem rE (ks:List LK) {d b c:List AV} {a:Nat} (h:ε a d=b++c) (e:(Um true ks (b++c)).all id=true):lV (Ib true ks d a):=by
 unfold Ib;rw [h];exact .of e
inductive XE:List AV→List AV→Prop where
 |nil:XE [] []
 |same {x:AV} {l r:List AV}:XE l r→XE (x::l) (x::r)
 |nilS {l r:List AV}:XE l r→XE (.nilS::l) (.sl [] 0 false::r)
 |sl {xs:List AV} {n:Nat} {a:Bool} {l r:List AV}:XE l r→XE (.sl xs n a::l) (.sl xs n false::r)
theorem XE.prl {S:aQ} {l r:List AV} (h:XE l r):∀ {vs:List Value},dO S l vs→dO S r vs:=by
 induction h with
 |nil=>exact fun h=>h
 |same _ ih=>intro vs b;cases vs with|nil=>simp [dO] at b|cons v vs=>simp only [dO] at b ⊢;exact ⟨b.1,ih b.2⟩
 | nilS _ ih=>
  intro vs b;cases vs with
  |nil=>simp [dO] at b
  |cons v vs=>
   simp only [dO,PR] at b ⊢;exact ⟨⟨none,0,b.1,Δ _,.inl (by simp)⟩,ih b.2⟩
 | @sl xs n a _ _ _ ih=>
  intro vs b;cases vs with
  |nil=>simp [dO] at b
  |cons v vs=>
   have c:=b;simp only [dO] at c ⊢;refine ⟨?_,ih c.2⟩;have d:=aT.sl xs n a (fun _=>none) (fun _=>(0,0)) S v (by simp only [VR];exact c.1);simpa only [VR] using d
theorem aT.slP {j k:List AV} {n:Nat} {l:Bool} (i:XE j k):aT (.sl j n l) (.sl k n l):=by
 intro g m S v f;simp only [VR,PR] at f ⊢;obtain ⟨a,c,rfl,s,h⟩:=f;refine ⟨a,c,rfl,s, ?_⟩;rcases h with ⟨d,e,r,q⟩|⟨b,o,vs,p,d,e⟩
 ·subst e;cases i;exact .inl ⟨d,rfl,r,q⟩
 ·exact .inr ⟨b,o,vs,p,i.prl d,e⟩
end AM
namespace AM
open Go
variable {P:Program} {ap:AP}
theorem ak.norm {c:List a_} {nt:Nat} {b:Code} {s d:St} {e:bD} (keep:List Nat) (p:∀ v,e= .panic v→(dR v).isEmpty=true) (h:ak P ap c nt b s e d):ak P ap c nt b s e (AM.norm c.length keep d):=by
 intro hs;obtain ⟨t,l⟩:=h hs;refine ⟨t,fun m0 S0 w0 m S w a i o Q j=>l m0 S0 w0 m S w a i o Q ?_⟩;intro y S' w' u q x;obtain ⟨r,k,n⟩:=rW (keep:=keep) q x;have:=j r S' w' u k n;clear j k n l;generalize AM.norm c.length keep d=s2 at*
 cases e with
 |normal=>exact this
 |exit id=>exact this
 |ret=>exact this
 |panic v=>intro cv f;exact this cv (iw _ (m_ (p v rfl) f))
def aif:bD→Bool
 | .panic v=>(dR v).isEmpty
 |_=>true
def PY (base:Nat) (env:iY):R ((bD × St) × xC)→R ((bD × St) × xC)
 | .ok ((e,s),l) c=>match aif e with
  |true=> .ok ((e,norm base (env.map fun q=>q.1) s),l) c
  |false=> .bad 1
 |r=>r
def Oa (P:Program) (ap:AP) (h0:List a_) (f nt0:Nat) (ls:List Nat) (code:Code) (s:St) (lps:xC) (orc:List Bool) (ans:List (kD × List a_)) (hs:List vU) (env:iY):R ((bD × St) × xC):=
 match dE nt0 code with
 |true=>PY h0.length env (lZ P ap (yK P ap 3000 4) h0 (IK ap f) 3000 nt0 ls code s lps ⟨false,orc,[],[],ans,hs⟩)
 |false=> .bad 0
theorem pn (g:Gi P ap) (f:Nat) (ls:List Nat) (n k:Nat) {nt d:Nat} {ans:List (kD × List a_)} {b:xC} {hs:List vU} {bs:List Bool} {ps:List Prop} {a:Code} {s s':St} {i:List a_} {e:bD}
  (hb:lV bs) (hp:PS P ap ps ans b hs) (hn:d≤nt) (he:Oa P ap i f d ls a s b (xI n k) ans hs s'.env= .ok ((e,s'),[]) ⟨false,[],bs,ps,[],[]⟩):ak P ap i nt a s e s':=by
 unfold Oa at he;split at he
 ·rename_i hd;generalize u:lZ P ap (yK P ap 3000 4) i (IK ap f) 3000 d ls a s b ⟨false,xI n k,[],[],ans,hs⟩=r at he;cases r with
  | ok q c=>
   obtain ⟨⟨o,p⟩,y⟩:=q;simp only [PY] at he;split at he
   ·rename_i h;simp only [R.ok.injEq,Prod.mk.injEq] at he;obtain ⟨⟨⟨rfl,j⟩,rfl⟩,rfl⟩:=he;obtain ⟨t,z⟩:=oG g.apok g.mixed g.fnok 3000 4;have x:ak P ap i nt a s o p:=(uj g.apok g.mixed t hn a (dX hn a hd) _ _ _ _ _ u ⟨hb.mem,hp.all.mem⟩).2;have:=x.norm (s'.env.map fun q=>q.1) (fun v l=>by subst l;exact h);rwa [j] at this
   ·cases he
  |need=>simp [PY] at he
  |bad n=>simp [PY] at he
 ·cases he
end AM
namespace AM
open Go Go.WideShapes Go.ChangeShapes
theorem Gn {a:Addr} (h:a.spot=none) (n:Nat):a.add n=⟨a.block,a.off+n,none⟩:=by
 unfold Addr.add;obtain ⟨b,o,s⟩:=a;simp only at h;subst h;split
 ·rename_i c;subst c;rfl
 ·rfl
section
variable {H:Type} {enc:TypeId × Value→H} {P:Program} {w:World} {base:Nat} {spare:Nat→Bool} {held:Bool}
end
end AM
namespace AM
open Go
inductive HpS (b:Nat) (B:a_):Hp→Hp→Prop
 |nil:HpS b B [] []
 |cons {c:Nat} {C D:a_} {r l:Hp}:MH b B D C→c ≠ b→HpS b B r l→HpS b B ((c,C)::r) ((c,D)::l)
inductive HpY (b:Nat) (B:a_):Hp→Hp→Prop
 |here {r l:Hp}:HpS b B r l→HpY b B r ((b,B)::l)
 |step {c:Nat} {C D:a_} {r l:Hp}:MH b B D C→c ≠ b→HpY b B r l→HpY b B ((c,C)::r) ((c,D)::l)
section
variable {P:Program} {ap:AP}
end
end AM
namespace AM
open Go
section
variable {P:Program} {ap:AP} {H:b_}
inductive TY (P:Program) (ap:AP) (H:b_) (n:Nat) (ops:List Oper) (o:Oper) (b d:Nat) (rt:List Nat) (env:iY) (v:AV):List a_→Prop where
 |nil:TY P ap H n ops o b d rt env v []
 | cons {B:a_} {r:List a_} {c2 c3:Cx} {t:RS}:Qz ap H n ops o {env,hp:= [(b,B)],md:= .dead,dfs:= [],dec:= [],feet:= []} c2= .ok (t,none) c3→c3.Ok→t.feet= [{rt:=rt,wt:= [d],rb:= [b],wb:= []}]→t.dfs= []→t.env.get d=v→
   TY P ap H n ops o b d rt env v r→TY P ap H n ops o b d rt env v (B::r)
end
end AM
namespace AM
open Go Go.WideShapes Go.ChangeShapes
section
variable {H:Type} {enc:TypeId × Value→H} {P:Program} {w:World} {base:Nat} {spare:Nat→Bool} {held:Bool}
theorem LM {u e:TypeId} (b:P.underlying u=some (.slice e)) {base':Nat} {v:Value} (h:Value.okWide P w .any base' u v):v.cells.toList= [v]:=by
 obtain ⟨a,l,c,rfl⟩:=okWide_slice b h;rfl
end
end AM
namespace AM
open Go Go.WideShapes Go.ChangeShapes
inductive DK where
 |int (k:IntKind)
 |bool
 |str
 |slc (l:List DK)
def DC (P:Program) (f:TypeId→Option (List DK)):List Field→Nat→Option (List DK)
 | [],_=>some []
 | x::r,off=>match f x.type with
  | some l=>match Xqq x.offset off && Xqq (P.cellsOf x.type) l.length with
   |true=>match DC P f r (off+l.length) with
    |some q=>some (l++q)
    |none=>none
   |false=>none
  |none=>none
def DD (P:Program):Nat→TypeId→Option (List DK)
 |0,_=>none
 | n+1,t=>match P.underlying t with
  |some (.int k)=>some [.int k]
  |some .bool=>some [.bool]
  |some .string=>some [.str]
  |some (.struct fs)=>match DC P (DD P n) fs.toList 0 with
   |some l=>match Xqq (P.cellsOf t) l.length with|true=>some l|false=>none
   |none=>none
  |some (.slice e)=>match DD P n e with
   |some l=>match Xqq (P.cellsOf e) l.length && Nat.ble 1 l.length with|true=>some [.slc l]|false=>none
   |none=>none
  |_=>none
inductive fE (b:Nat):List DK→List AV→Prop
 |nil:fE b [] []
 |int {k:IntKind} {n:Int} {r:List DK} {l:List AV}:fE b r l→fE b (.int k::r) (.int k n::l)
 |bool {x:Bool} {r:List DK} {l:List AV}:fE b r l→fE b (.bool::r) (.bool x::l)
 |str {s:List UInt8} {r:List DK} {l:List AV}:s.length≤b→fE b r l→fE b (.str::r) (.str s::l)
 |slc {ks:List DK} {L:List (List AV)} {r:List DK} {l:List AV}:(∀ x ∈ L,fE b ks x)→L.length≤b→fE b r l→fE b (.slc ks::r) (.sl L.flatten L.length false::l)
theorem fE.mono {b c:Nat} (h:b≤c) {ks:List DK} {a:List AV} (hd:fE b ks a):fE c ks a:=by
 induction hd with
 |nil=>exact .nil
 |int _ ih=>exact .int ih
 |bool _ ih=>exact .bool ih
 |str hs _ ih=>exact .str (Xqy hs h) ih
 |slc _ hl _ ihx ih=>exact .slc ihx (Xqy hl h) ih
theorem fE.app {b:Nat} {k1 k2:List DK} {a c:List AV} (h:fE b k1 a) (d:fE b k2 c):fE b (k1++k2) (a++c):=by
 induction h with
 |nil=>exact d
 |int _ ih=>exact .int ih
 |bool _ ih=>exact .bool ih
 |str hs _ ih=>exact .str hs ih
 |slc hx hl _ _ ih=>exact .slc hx hl ih
structure afO {H:Type} (bk:DataW H→Nat):Prop where
 str:∀ s:List UInt8,s.length≤bk (.lit (.string s))
 agg:∀ l:List (DataW H),∀ d ∈ l,bk d≤bk (.agg l)
 slc:∀ l r:List (DataW H),(∀ d ∈ l,bk d≤bk (.slice l r))∧l.length≤bk (.slice l r)
section
variable {H:Type} {enc:TypeId × Value→H} {P:Program} {w:World} {base:Nat} {spare:Nat→Bool} {held:Bool} {bk:DataW H→Nat}
theorem AY {n B:Nat} {f:TypeId→Option (List DK)} (e:∀ t ks,f t=some ks→∀ (fuel:Nat) (cs:List Value) (x:DataW H × List MemPlace),DataW.trod enc P w base spare held fuel t cs=some x→∃ xs,fE (bk x.1) ks xs∧dO (iW w) xs cs∧∀ u ∈ cs,u.oneCell'=true) {cs:List Value}:∀ (r:List Field) (off:Nat) (ks:List DK),DC P f r off=some ks→
  (∀ (i:Nat) (x:Field),r[i]? =some x→∃ y,DataW.trod enc P w base spare held n x.type ((cs.drop x.offset).take (P.cellsOf x.type))=some y∧bk y.1≤B)→∃ xs,fE B ks xs∧dO (iW w) xs ((cs.drop off).take ks.length)∧∀ u ∈ (cs.drop off).take ks.length,u.oneCell'=true
 | [],off,ks,h,_=>by
  simp only [DC] at h;cases h;exact ⟨[],.nil,by simp [dO],by simp⟩
 | x ::r,off,ks,h,hx=>by
  simp only [DC] at h;split at h
  ·rename_i l o;split at h
   ·rename_i b;simp only [ο] at b;have k:=Xjk b.1;have F:=Xjk b.2;split at h
    ·rename_i q A;cases h;obtain ⟨y,v,C⟩:=hx 0 x rfl;obtain ⟨j,z,c,d⟩:=e _ _ o _ _ _ v;rw [k,F] at c d;obtain ⟨G,s,p,D⟩:=AY e r (off+l.length) q A (fun i f E=>hx (i+1) f (by simpa using E));refine ⟨j++G,(z.mono C).app s, ?_, ?_⟩
     ·rw [θ,Yq8,Xjl];exact lC c p
     ·rw [θ,Yq8,Xjl];intro u a;rcases List.mem_append.1 a with a|a
      ·exact d u a
      ·exact D u a
    ·cases h
   ·cases h
  ·cases h
theorem AB {S:aQ}:∀ {L:List (List AV)} {M:List (List Value)},L.length=M.length→(∀ (i:Nat) (x:List AV) (m:List Value),L[i]? =some x→M[i]? =some m→dO S x m)→dO S L.flatten M.flatten
 | [],[],_,_=>by simp [dO]
 |x::L,m::M,h,hp=>by
  rw [Xjw,Xjw];exact lC (hp 0 x m rfl rfl) (AB (by simpa using h) fun i a b d c=>hp (i+1) a b (by simpa using d) (by simpa using c))
 | [],_::_,h,_=>by simp at h
 |_::_,[],h,_=>by simp at h
theorem Gz (hk:afO bk) (hsp:∀ b,spare b=true):∀ (n:Nat) (t:TypeId) (ks:List DK),DD P n t=some ks→∀ (D:Nat) (cs:List Value) (x:DataW H × List MemPlace),DataW.trod enc P w base spare held D t cs=some x→
  ∃ U,fE (bk x.1) ks U∧dO (iW w) U cs∧∀ u ∈ cs,u.oneCell'=true:=by
 intro n
 induction n with
 |zero=>intro t ks h;simp [DD] at h
 | succ n ih=>
  intro t ks h D cs x v;simp only [DD] at h;split at h
  ·rename_i k z;cases h;obtain ⟨m,rfl,_⟩:=DataW.trod_int z v;exact ⟨[.int k m],.int .nil,by simp [dO,PR],by simp [Value.oneCell']⟩
  ·rename_i z;cases h;obtain ⟨b,rfl,_⟩:=DataW.trod_bool z v;exact ⟨[.bool b],.bool .nil,by simp [dO,PR],by simp [Value.oneCell']⟩
  ·rename_i z;cases h;obtain ⟨s,rfl,rfl,_⟩:=DataW.trod_string z v;exact ⟨[.str s.data.toList],.str (hk.str _) .nil,by simp [dO,PR],by simp [Value.oneCell']⟩
  ·rename_i fs z;split at h
   ·rename_i l hl;split at h
    ·rename_i Q;cases h;obtain ⟨U,m,rfl,rfl,E,hxl,F⟩:=DataW.trod_struct z v;have e:=Xjk Q;obtain ⟨ys,d1,Y,R⟩:=AY (n:=m) (B:=bk (.agg (U.map (·.1)))) ih (cs:=cs) fs.toList 0 ks hl (fun i f hf=>by
      have V:fs[i]? =some f:=by simpa using hf
      have N:=F i f V;have p:i<U.length:=by rw [hxl];exact (Array.getElem?_eq_some_iff.1 V).1
      rw [ξ p] at N;exact ⟨_,N,hk.agg _ _ (List.mem_map.2 ⟨_,Xxe p,rfl⟩)⟩)
     rw [List.drop_zero,List.take_of_length_le (by omega)] at Y R;exact ⟨ys,d1,Y,R⟩
    ·cases h
   ·cases h
  ·rename_i e z;split at h
   ·rename_i l hl;split at h
    ·rename_i Q;cases h;simp only [ο] at Q;have hce:=Xjk Q.1;have hpos:=Nat.le_of_ble_eq_true Q.2;rcases DataW.trod_slice z v with ⟨rfl,rfl⟩|⟨a,y,I,elems,rest,m,_,rfl,rfl,_,hlc,hm,E,W,hre,_⟩
     ·refine ⟨[.sl [] 0 false],.slc (L:= []) (by simp) (by simp) .nil, ?_,by simp [Value.oneCell']⟩;simp only [dO,PR,and_true];exact ⟨none,0,rfl,Δ _,.inl ⟨fun _=>trivial,trivial,trivial,rfl⟩⟩
     ·obtain ⟨b1,b2⟩:=hk.slc (elems.map (·.1)) (rest.map (·.1));generalize hB:bk (.slice (elems.map (·.1)) (rest.map (·.1)))=B at b1 b2;have hspot:0<I→a.spot=none:=by
       intro hc;have key:∃ c,w.cells? base (a.add 0) (P.cellsOf e)=some c:=by
        rcases Γ y with h0|h0
        ·obtain ⟨r1,r2⟩:=hre (hsp _);have C:=r2 0 (by omega);rw [ξ (by omega)] at C;obtain ⟨c,A,_⟩:=Option.bind_eq_some_iff.1 C;rw [h0,Xq0,Xwv] at A;exact ⟨c,A⟩
        ·have C:=W 0 h0;rw [ξ (by omega)] at C;obtain ⟨c,A,_⟩:=Option.bind_eq_some_iff.1 C;rw [Xwv] at A;exact ⟨c,A⟩
       obtain ⟨c,A⟩:=key;obtain ⟨_,h9,J⟩:=World.cells?_some A;have r:=J 0 (by omega);have ez:(a.add 0).add 0=a:=by simp [Addr.add]
       rw [ez] at r;have p:0<c.length:=by omega
       rw [ξ p] at r;exact World.cell?_spot r
      have key:∀ q,q≤y→∃ (L:List (List AV)) (M:List (List Value)),L.length=q∧M.length=q∧(∀ x ∈ L,fE B l x)∧(∀ (i:Nat) (x:List AV) (m:List Value),L[i]? =some x→M[i]? =some m→dO (iW w) x m)∧M.flatten.length=q*l.length∧(∀ u ∈ M.flatten,u.oneCell'=true)∧∀ j u,M.flatten[j]? =some u→iW w a.block (a.off+j)=some u:=by
       intro q
       induction q with
       |zero=>intro _;exact ⟨[],[],rfl,rfl,by simp,by simp,by simp,by simp,by simp⟩
       | succ q ihq=>
        intro hq;obtain ⟨L,M,X,T,N,K,Z,G,h4⟩:=ihq (by omega);have C:=W q (by omega);rw [ξ (by omega)] at C;obtain ⟨c,A,h7⟩:=Option.bind_eq_some_iff.1 C;obtain ⟨ys,d1,Y,R⟩:=ih e l hl _ _ _ h7;obtain ⟨_,h9,J⟩:=World.cells?_some A;have hs:=hspot (by omega);have d2:fE B l ys:=d1.mono (b1 _ (List.mem_map.2 ⟨_,Xxe _,rfl⟩));refine ⟨L++ [ys],M++ [c],by simp [X],by simp [T], ?_, ?_, ?_, ?_, ?_⟩
        ·intro x v;rcases List.mem_append.1 v with v|v
         ·exact N x v
         ·simp at v;subst v;exact d2
        ·intro i x m F d;rw [Xkf] at F d;split at F
         ·rename_i p;rw [if_pos (by omega)] at d;exact K i x m F d
         ·rename_i p;rw [if_neg (by omega)] at d;have e0:i - L.length=0:=by
           have:=(List.getElem?_eq_some_iff.1 F).1;simp at this;omega
          have e1:i - M.length=0:=by omega
          rw [e0] at F;rw [e1] at d;cases F;cases d;exact Y
        ·rw [Xzo,θ,Z];simp only [Xjw,Xk6,Θ];rw [Nat.succ_mul];omega
        ·intro u O;rw [Xzo] at O;rcases List.mem_append.1 O with O|O
         ·exact G u O
         ·exact R u (by simpa using O)
        ·intro j u d;rw [Xzo,Xkf] at d;split at d
         ·exact h4 j u d
         ·rename_i hjl;simp only [Xjw,Xk6,Θ] at d;have h11:=(List.getElem?_eq_some_iff.1 d).1;have r:=J (j - M.flatten.length) (by omega);rw [d,Gn hs,Gn rfl] at r;refine Hu ?_ (R u (Xqh d));rw [← r,Z,hce];congr 2;have:q*l.length≤j:=by rw [← Z];omega
          simp only;omega
      obtain ⟨L,M,X,T,N,K,Z,G,h4⟩:=key y (Δ _);have hlB:L.length≤B:=by rw [X,← E];simpa using b2
      refine ⟨[.sl L.flatten L.length false],.slc N hlB .nil, ?_,by simp [Value.oneCell']⟩;simp only [dO,PR,and_true];refine ⟨some a,I,by rw [X],by rw [X];exact hlc, ?_⟩;rcases Γ I with hc|hc
      ·have h0:y=0:=by omega
       have:L= []:=List.eq_nil_of_length_eq_zero (by omega);subst this;exact .inl ⟨fun _=>trivial,rfl,rfl,hc⟩
      ·refine .inr ⟨a.block,a.off,M.flatten, ?_,AB (by omega) K,fun j u d=> ⟨h4 j u d,G u (Xqh d)⟩⟩;have hs:=hspot hc;obtain ⟨b,o,s⟩:=a;simp only at hs;subst hs;rfl
    ·cases h
   ·cases h
  ·cases h
end
abbrev ω (x:Int):AV:= .int .i64 x
abbrev Ω (b:Bool) (n d:List UInt8):AV:= .agg [.bool b,.str n,.str d]
theorem Yq0 {p:Prop} [Decidable p]:p→decide p=true:=decide_eq_true
theorem Yq1 {p:Prop} [Decidable p]:¬p→decide p=false:=decide_eq_false
theorem Yq2 {α:Type} [BEq α] [LawfulBEq α] {a b:α}:(a==b)=false↔a≠b:=beq_eq_false_iff_ne
end AM
