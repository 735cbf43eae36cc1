/- The law EvalLogic returns true for every input. No conditions beyond the given row's. -/
import Derived.Test.YtdmfgmmooalfnaaGreatDoorC4
set_option linter.unusedSimpArgs false
set_option linter.unusedVariables false
set_option maxRecDepth 100000
set_option linter.unusedVariables false
open Go AM
namespace Go.Proofs.Tryz
theorem age (op:Int) (nn:Bool) (l:List Oq) (o:Oq) (E:dW) (a:CO 15 [.agg [.int .i64 op,.bool false,.str [],.str [],.str []],.sl (gp l) l.length nn,.agg [.sl (kE E.ls) E.ls.length false,.sl (kS (E.qs.map Sq.c)) (E.qs.map Sq.c).length false]] (.ret (.agg [.bool o.n,.str o.a,.str o.d,.int .i64 o.e]))):CO 31 [.int .i64 op,.sl (gp l) l.length nn,.pp [.sl (kE E.ls) E.ls.length true,.sl (kS (E.qs.map Sq.c)) (E.qs.map Sq.c).length true] 0] (.ret (.agg [.bool o.n,.str o.a,.str o.d,.int .i64 o.e])):=pK [] 0 0 (.n 7 .nil) (.c a .nil)
theorem agf:CO 29 [.agg [.bool false,.str [1],.str [1]]] (.ret (.agg [.bool false,.str [1],.str [1],.int .i64 0])):=pK [] 0 0 (.n 8 .nil) (.nil)
abbrev acS (E:dW):AV:= .pp [.sl (kE E.ls) E.ls.length true,.sl (kS (E.qs.map Sq.c)) (E.qs.map Sq.c).length true] 0
def opZ (op:Int):Nd:=⟨op,false,[],[],[]⟩
theorem agd {E:dW} (d:E.sm) {op:Int} (b:aC (opZ op)=0) (nn:Bool) {l:List Oq} (a:l.length=dX op) (c:∀ o ∈ l,o.ok):CO 31 [.int .i64 op,.sl (gp l) l.length nn,acS E] (.ret (fH (dD E (opZ op) l))):=
 age op nn l _ E (alJ d false false nn b ⟨Nat.two_pow_pos 33,Nat.two_pow_pos 33⟩ a c)
theorem do2 {E:dW} (e:E.sm) {op:Int} (a:aC (opZ op)=0) (c:dX op=2) {x y:Oq} (b:x.ok) (d:y.ok):CO 31 [.int .i64 op,.sl [.bool x.n,.str x.a,.str x.d,.int .i64 x.e,.bool y.n,.str y.a,.str y.d,.int .i64 y.e] 2 true,acS E] (.ret (fH (dD E (opZ op) [x,y]))):=
 agd e a true (l:= [x,y]) c.symm (by simp;exact ⟨b,d⟩)
theorem do1 {E:dW} (d:E.sm) {op:Int} (a:aC (opZ op)=0) (c:dX op=1) {x:Oq} (b:x.ok):CO 31 [.int .i64 op,.sl [.bool x.n,.str x.a,.str x.d,.int .i64 x.e] 1 true,acS E] (.ret (fH (dD E (opZ op) [x]))):=
 agd d a true (l:= [x]) c.symm (by simp;exact b)
theorem aar {op:Int} (h:9≤op) (a:op≤20):aC (opZ op)=0:=by
 rcases (show op=9∨op=10∨op=11∨op=12∨op=13∨op=14∨op=15∨op=16∨op=17∨op=18∨op=19∨op=20 by omega) with rfl|rfl|rfl|rfl|rfl|rfl|rfl|rfl|rfl|rfl|rfl|rfl<;>kernel_rfl
theorem af_ {op:Int} (h:9≤op) (b:op≤19) (a:op ≠ 15):dX op=2:=by
 unfold dX;rw [if_neg a,if_pos (by omega)]
theorem acI (E:dW) {op:Int} (h:9≤op) (x y:Oq):dD E (opZ op) [x,y]=if x.e=0 then (if y.e=0 then E8 op x y else y) else x:=by
 unfold dD;rw [if_neg (show ¬ (opZ op).op≤4 by show ¬ op≤4;omega),if_neg (show ¬ (opZ op).op≤8 by show ¬ op≤8;omega)];rfl
theorem acQ (E:dW) {x:Oq} (b:x.e=0) (a:x.bit=true):dD E (opZ 20) [x]=AQ (!x.one):=by
 unfold dD
 rw [if_neg (show ¬ (opZ 20).op≤4 by decide),if_neg (show ¬ (opZ 20).op≤8 by decide)]
 show (if x.e=0 then JJ E.qs 20 [] _ x else x)=_
 rw [if_pos b]
 unfold JJ
 rw [if_pos rfl,if_pos a]
theorem afp {o:Oq} (l:o.ok) (k:o.e=0) (e:o.bit=true):∃ b,o=AQ b:=by
 obtain ⟨q,rfl,m,n⟩:=Il l k
 simp only [Oq.bit,Oq.one,Bool.or_eq_true,Bool.and_eq_true,beq_iff_eq,and_true] at e
 have key:∀ b:Bool,q.neg=false→ae q.n=ae (bR b).n→ae q.d=ae 1→Oq.val q=AQ b:=by
  intro b i h j
  have f:=congrArg ag h
  have g:=congrArg ag j
  clear h j e
  rw [aB,aB] at f g
  obtain ⟨a,c,d⟩:=q
  simp only at i f g
  subst i f g
  cases b<;>rfl
 rcases e with e|e
 ·exact ⟨true,key true e.1 e.2.1 e.2.2⟩
 ·exact ⟨false,key false e.1 e.2.1 e.2.2⟩
theorem aco (b:Bool):(AQ b).one=b:=by
 have a:ae 0= []:=dU
 have c:ae 1= [1]:=by kernel_rfl
 cases b<;>simp [AQ,bR,Oq.one,Oq.n,Oq.a,Oq.d,a,c]
theorem acT (b:Bool):fH (AQ b)=if b then .agg [.bool false,.str [1],.str [1],.int .i64 0] else .agg [.bool false,.str [],.str [1],.int .i64 0]:=by
 have a:ae 0= []:=dU
 have c:ae 1= [1]:=by kernel_rfl
 cases b<;>simp [AQ,bR,Oq.n,Oq.a,Oq.d,Oq.e,a,c]
theorem ac3 (a b:RQ) (c:a.ok) (d:b.ok):iP a b=iP b a:=afs (jD c d) (jD d c) (by rw [XJ c d,XJ d c];grind)
theorem aga {p q:RQ} (hp:p.ok) (a:q.ok):jg (iP p q) q=p:=afs (pX (jD hp a) a) hp (by rw [abD (jD hp a) a,XJ hp a];grind)
theorem r11:CO 27 [.int .i64 1,.int .i64 1] (.ret (.agg [.bool false,.str [1],.str [1]])):=kL (sN 1 1 (by decide) (by decide) (by decide) (by decide)) (by kernel_rfl)
theorem af9 (la lb lc:List Int) (q:Int) (ha:la.length<2^63) (hb:lb.length<2^63) (F:lc.length<2^63):CO 10 [.agg [.sl (iL la) la.length false,.sl (iL lb) lb.length false,.sl (iL lc) lc.length false],.int .u8 q] (.ret (.bool true)):=by
 obtain ⟨t,ht,ck⟩:=alf (IntKind.wrap .i64 q)
 obtain ⟨a,Z,ca⟩:=ag2 q t ht la ha
 obtain ⟨b,X,cb⟩:=ag2 q t ht lb hb
 obtain ⟨E,hM,cE⟩:=akV true true false lc F
 have w:=ag3 ck ca cE
 have v:=ag3 ck cb cE
 have m:=hM.sm
 have n:=g_ E true true true (e:=a) m Z.sm
 have o:=g_ E true true true (e:=b) m X.sm
 rw [← Jm] at n o
 have sx:=Z.tm.sound hM.typed (by have:=Z.ln;omega)
 have sy:=X.tm.sound hM.typed (by have:=X.ln;omega)
 generalize uA E a=x at*
 generalize uA E b=y at*
 have g:=agf
 rcases tf (x.e==((0:Nat):Int)) with zx|zx
 ·have l:x.e=0:=by simpa using zx
  rcases tf (y.e==((0:Nat):Int)) with zy|zy
  ·have k:y.e=0:=by simpa using zy
   obtain ⟨p,rfl,S,p2⟩:=Il sx.ok l
   obtain ⟨r,rfl,Q,r2⟩:=Il sy.ok k
   generalize hX:Oq.val p=x at*
   generalize hY:Oq.val r=y at*
   have hX':=hX
   have hY':=hY
   have B:x.q=p:=by rw [← hX];rfl
   have u:y.q=r:=by rw [← hY];rfl
   have P:=sx.ok
   have M:=sy.ok
   have n9:=acI E (op:=9) (by omega) x y
   have c:=do2 m (aar (op:=9) (by omega) (by omega)) rfl P M
   have d16xy:=do2 m (aar (op:=16) (by omega) (by omega)) rfl P M
   have d17xy:=do2 m (aar (op:=17) (by omega) (by omega)) rfl P M
   have d16yx:=do2 m (aar (op:=16) (by omega) (by omega)) rfl M P
   have d13xy:=do2 m (aar (op:=13) (by omega) (by omega)) rfl P M
   have d14xy:=do2 m (aar (op:=14) (by omega) (by omega)) rfl P M
   rw [acI E (by omega),if_pos l,if_pos k] at c d16xy d17xy d13xy d14xy
   rw [acI E (by omega),if_pos k,if_pos l] at d16yx
   have e9:E8 9 x y=mM (iP p r):=by show mM (iP x.q y.q)=_;rw [B,u]
   have W:E8 16 x y=AQ (decide (kZ p r<0)):=by show AQ (decide (kZ x.q y.q<0))=_;rw [B,u]
   have H:E8 16 y x=AQ (decide (kZ r p<0)):=by show AQ (decide (kZ y.q x.q<0))=_;rw [B,u]
   have V:E8 13 x y=if 0<kZ p r then y else x:=by show (if 0<kZ x.q y.q then y else x)=_;rw [B,u]
   have U:E8 14 x y=if kZ p r<0 then y else x:=by show (if kZ x.q y.q<0 then y else x)=_;rw [B,u]
   have Y:E8 17 x y=AQ (decide (kZ p r=0)):=by
    show AQ (eqO x y)=_
    congr 1
    rw [← hX,← hY]
    by_cases h:p=r
    ·rw [decide_eq_true ((CQ S Q).2.1.2 h),h];simp [eqO]
    ·rw [decide_eq_false (fun h'=>h ((CQ S Q).2.1.1 h'))]
     simp only [eqO,Oq.n,Oq.a,Oq.d]
     rw [Bool.eq_false_iff]
     intro G
     simp only [Bool.and_eq_true,beq_iff_eq] at G
     apply h
     have T:=congrArg ag G.2.1
     have h4:=congrArg ag G.2.2.1
     rw [aB,aB] at T h4
     obtain ⟨p0,S,p2⟩:=p
     obtain ⟨r0,Q,r2⟩:=r
     simp only at G T h4
     rw [G.1,T,h4]
   rw [e9] at c
   rw [W,acT] at d16xy
   rw [H,acT] at d16yx
   rw [Y,acT] at d17xy
   rw [V] at d13xy
   rw [U] at d14xy
   have c1:=CQ S Q
   have c2:=CQ Q S
   have ks:(mM (iP p r)).ok:=p_ (jD S Q)
   have J:(mM (iP p r)).e=0→dD E (opZ 10) [mM (iP p r),y]=x:=by
    intro h0
    rw [acI E (by omega),if_pos h0,if_pos k]
    have hf:jV (iP p r)=true:=by
     cases hfr:jV (iP p r) with
     |true=>rfl
     |false=>unfold mM at h0;rw [hfr] at h0;cases h0
    have:mM (iP p r)= .val (iP p r):=by unfold mM;rw [if_pos hf]
    rw [this]
    show mM (jg (iP p r) y.q)=x
    rw [u,aga S Q,← hX]
    unfold mM
    rw [if_pos p2]
   have N:=do2 m (aar (op:=10) (by omega) (by omega)) rfl ks M
   have A:∀ L K:Oq,(L=x∧K=y)∨(L=y∧K=x)→CO 31 [.int .i64 9,.sl [.bool L.n,.str L.a,.str L.d,.int .i64 L.e,.bool K.n,.str K.a,.str K.d,.int .i64 K.e] 2 true,acS E] (.ret (fH (mM (iP p r)))):=by
    intro L K h
    rcases h with ⟨rfl,rfl⟩|⟨rfl,rfl⟩
    ·exact c
    ·have:=do2 m (aar (op:=9) (by omega) (by omega)) rfl M P
     rw [acI E (by omega),if_pos k,if_pos l] at this
     have e:E8 9 L K=mM (iP p r):=by
      show mM (iP L.q K.q)=_
      rw [B,u,ac3 r p Q S]
     rw [e] at this
     exact this
   generalize mM (iP p r)=s at*
   have tail:∀ (o1 o2 o3:Bool) (L K:Oq),True:=fun _ _ _ _ _=>trivial
   have d10sy:s.e=0→CO 31 [.int .i64 10,.sl [.bool s.n,.str s.a,.str s.d,.int .i64 s.e,.bool y.n,.str y.a,.str y.d,.int .i64 y.e] 2 true,acS E] (.ret (fH x)):=fun h=>by rw [J h] at N;exact N
   have truths:t.tr=true→∃ R I D O:Oq,CO 31 [.int .i64 18,.sl [.bool x.n,.str x.a,.str x.d,.int .i64 x.e,.bool y.n,.str y.a,.str y.d,.int .i64 y.e] 2 true,acS E] (.ret (fH R))∧CO 31 [.int .i64 20,.sl [.bool R.n,.str R.a,.str R.d,.int .i64 R.e] 1 true,acS E] (.ret (fH I))
     ∧CO 31 [.int .i64 20,.sl [.bool x.n,.str x.a,.str x.d,.int .i64 x.e] 1 true,acS E] (.ret (fH D))∧CO 31 [.int .i64 20,.sl [.bool y.n,.str y.a,.str y.d,.int .i64 y.e] 1 true,acS E] (.ret (fH O))
     ∧CO 31 [.int .i64 19,.sl [.bool D.n,.str D.a,.str D.d,.int .i64 D.e,.bool O.n,.str O.a,.str O.d,.int .i64 O.e] 2 true,acS E] (.ret (fH I))∧CO 31 [.int .i64 20,.sl [.bool D.n,.str D.a,.str D.d,.int .i64 D.e] 1 true,acS E] (.ret (fH x)):=by
    intro htr
    obtain ⟨C,hbx⟩:=afp P l (sx.bt l htr)
    obtain ⟨by_,hby⟩:=afp M k (sy.bt k htr)
    clear c d16xy d17xy d13xy d14xy d16yx J N A d10sy e9 W H V U Y n9 n o
    subst hbx hby
    have tb:∀ b,(AQ b).e=0:=fun b=>rfl
    refine ⟨AQ (C && by_),AQ (!(C && by_)),AQ (!C),AQ (!by_), ?_, ?_, ?_, ?_, ?_, ?_⟩
    ·have:=do2 m (aar (op:=18) (by omega) (by omega)) rfl (tu C) (tu by_)
     rw [acI E (by omega),if_pos (tb _),if_pos (tb _)] at this
     have e:E8 18 (AQ C) (AQ by_)=AQ (C && by_):=by
      unfold E8
      simp [rE,aco]
     rw [e] at this;exact this
    ·have:=do1 m (aar (op:=20) (by omega) (by omega)) rfl (tu (C && by_))
     rw [acQ E (tb _) (rE _),aco] at this
     exact this
    ·have:=do1 m (aar (op:=20) (by omega) (by omega)) rfl (tu C)
     rw [acQ E (tb _) (rE _),aco] at this
     exact this
    ·have:=do1 m (aar (op:=20) (by omega) (by omega)) rfl (tu by_)
     rw [acQ E (tb _) (rE _),aco] at this
     exact this
    ·have:=do2 m (aar (op:=19) (by omega) (by omega)) rfl (tu (!C)) (tu (!by_))
     rw [acI E (by omega),if_pos (tb _),if_pos (tb _)] at this
     have e:E8 19 (AQ (!C)) (AQ (!by_))=AQ (!(C && by_)):=by
      unfold E8
      cases C<;>cases by_<;>simp [rE,aco]
     rw [e] at this;exact this
    ·have:=do1 m (aar (op:=20) (by omega) (by omega)) rfl (tu (!C))
     rw [acQ E (tb _) (rE _),aco,Bool.not_not] at this
     exact this
   clear hX hY e9 W H V U Y n9 J N
   rcases (show kZ p r<0∨kZ p r=0∨0<kZ p r by omega) with F|F|F
   ·have k1:¬ 0<kZ p r:=by omega
    have k0:¬ kZ p r=0:=by omega
    have k2:¬ kZ r p<0:=fun h=>by have h1:=c1.1.1 F;have G:=c2.1.1 h;grind
    rw [if_neg k1] at d13xy
    rw [if_pos F] at d14xy
    rw [decide_eq_true F,if_pos rfl] at d16xy
    rw [decide_eq_false k0,if_neg Bool.false_ne_true] at d17xy
    rw [decide_eq_false k2,if_neg Bool.false_ne_true] at d16yx
    have z:=A x y (.inl ⟨rfl,rfl⟩)
    rcases tf t.tr with ztr|ztr
    ·obtain ⟨R,I,D,O,d18xy,d20an,d,f,d19nxny,d20nx⟩:=truths ztr
     rcases tf (s.e==((0:Nat):Int)) with zs|zs
     ·have i:s.e=0:=by simpa using zs
      exact pK [] 16 59485 (.k 8 (stO I) (.k 22 (aG ztr) (.k 1 (sfO x) (.k 12 (aG zs) (.k 1 (sfO s) (.k 107 (aW zy) (.k 6 (aG zx) (.n 26 .nil)))))))) (.v 178 (.eq (seO x)) (.c d20nx (.c d (.c d19nxny (.c f (.c d (.c d20an (.c d18xy (.c ck (.c (d10sy i) (.c z (.c d14xy (.c d13xy (.c d16yx (.c d17xy (.c d16xy (.c g (.c r11 (.c c (.c o (.c n (.c v (.c w (.c agh .nil))))))))))))))))))))))))
     ·exact pK [] 16 57437 (.k 8 (stO I) (.k 22 (aG ztr) (.k 2 (aF zs) (.k 1 (sfO s) (.k 107 (aW zy) (.k 6 (aG zx) (.n 26 .nil))))))) (.v 178 (.eq (seO x)) (.c d20nx (.c d (.c d19nxny (.c f (.c d (.c d20an (.c d18xy (.c ck (.c z (.c d14xy (.c d13xy (.c d16yx (.c d17xy (.c d16xy (.c g (.c r11 (.c c (.c o (.c n (.c v (.c w (.c agh .nil)))))))))))))))))))))))
    ·rcases tf (s.e==((0:Nat):Int)) with zs|zs
     ·have i:s.e=0:=by simpa using zs
      exact pK [] 14 2141 (.c (aF ztr) (.k 1 (sfO x) (.k 12 (aG zs) (.k 1 (sfO s) (.k 107 (aW zy) (.k 6 (aG zx) (.n 26 .nil))))))) (.c ck (.c (d10sy i) (.c z (.c d14xy (.c d13xy (.c d16yx (.c d17xy (.c d16xy (.c g (.c r11 (.c c (.c o (.c n (.c v (.c w (.c agh .nil))))))))))))))))
     ·exact pK [] 14 93 (.c (aF ztr) (.k 2 (aF zs) (.k 1 (sfO s) (.k 107 (aW zy) (.k 6 (aG zx) (.n 26 .nil)))))) (.c ck (.c z (.c d14xy (.c d13xy (.c d16yx (.c d17xy (.c d16xy (.c g (.c r11 (.c c (.c o (.c n (.c v (.c w (.c agh .nil)))))))))))))))
   ·have k1:¬ 0<kZ p r:=by omega
    have k0:¬ kZ p r<0:=by omega
    have k2:¬ kZ r p<0:=fun h=>by have h1:=c1.2.1.1 F;have G:=c2.1.1 h;rw [h1] at G;grind
    rw [if_neg k1] at d13xy
    rw [if_neg k0] at d14xy
    rw [decide_eq_false k0,if_neg Bool.false_ne_true] at d16xy
    rw [decide_eq_true F,if_pos rfl] at d17xy
    rw [decide_eq_false k2,if_neg Bool.false_ne_true] at d16yx
    have hxy:x=y:=by rw [← hX',← hY',c1.2.1.1 F]
    have z:=A x x (.inl ⟨rfl,hxy⟩)
    rcases tf t.tr with ztr|ztr
    ·obtain ⟨R,I,D,O,d18xy,d20an,d,f,d19nxny,d20nx⟩:=truths ztr
     rcases tf (s.e==((0:Nat):Int)) with zs|zs
     ·have i:s.e=0:=by simpa using zs
      exact pK [] 16 59509 (.k 8 (stO I) (.k 22 (aG ztr) (.k 1 (sfO x) (.k 12 (aG zs) (.k 1 (sfO s) (.k 107 (aW zy) (.k 6 (aG zx) (.n 26 .nil)))))))) (.v 178 (.eq (seO x)) (.c d20nx (.c d (.c d19nxny (.c f (.c d (.c d20an (.c d18xy (.c ck (.c (d10sy i) (.c z (.c d14xy (.c d13xy (.c d16yx (.c d17xy (.c d16xy (.c g (.c r11 (.c c (.c o (.c n (.c v (.c w (.c agh .nil))))))))))))))))))))))))
     ·exact pK [] 16 57461 (.k 8 (stO I) (.k 22 (aG ztr) (.k 2 (aF zs) (.k 1 (sfO s) (.k 107 (aW zy) (.k 6 (aG zx) (.n 26 .nil))))))) (.v 178 (.eq (seO x)) (.c d20nx (.c d (.c d19nxny (.c f (.c d (.c d20an (.c d18xy (.c ck (.c z (.c d14xy (.c d13xy (.c d16yx (.c d17xy (.c d16xy (.c g (.c r11 (.c c (.c o (.c n (.c v (.c w (.c agh .nil)))))))))))))))))))))))
    ·rcases tf (s.e==((0:Nat):Int)) with zs|zs
     ·have i:s.e=0:=by simpa using zs
      exact pK [] 14 2165 (.c (aF ztr) (.k 1 (sfO x) (.k 12 (aG zs) (.k 1 (sfO s) (.k 107 (aW zy) (.k 6 (aG zx) (.n 26 .nil))))))) (.c ck (.c (d10sy i) (.c z (.c d14xy (.c d13xy (.c d16yx (.c d17xy (.c d16xy (.c g (.c r11 (.c c (.c o (.c n (.c v (.c w (.c agh .nil))))))))))))))))
     ·exact pK [] 14 117 (.c (aF ztr) (.k 2 (aF zs) (.k 1 (sfO s) (.k 107 (aW zy) (.k 6 (aG zx) (.n 26 .nil)))))) (.c ck (.c z (.c d14xy (.c d13xy (.c d16yx (.c d17xy (.c d16xy (.c g (.c r11 (.c c (.c o (.c n (.c v (.c w (.c agh .nil)))))))))))))))
   ·have k1:¬ kZ p r<0:=by omega
    have k0:¬ kZ p r=0:=by omega
    have k2:kZ r p<0:=c2.1.2 (c1.2.2.1 F)
    rw [if_pos F] at d13xy
    rw [if_neg k1] at d14xy
    rw [decide_eq_false k1,if_neg Bool.false_ne_true] at d16xy
    rw [decide_eq_false k0,if_neg Bool.false_ne_true] at d17xy
    rw [decide_eq_true k2,if_pos rfl] at d16yx
    have z:=A y x (.inr ⟨rfl,rfl⟩)
    rcases tf t.tr with ztr|ztr
    ·obtain ⟨R,I,D,O,d18xy,d20an,d,f,d19nxny,d20nx⟩:=truths ztr
     rcases tf (s.e==((0:Nat):Int)) with zs|zs
     ·have i:s.e=0:=by simpa using zs
      exact pK [] 16 59605 (.k 8 (stO I) (.k 22 (aG ztr) (.k 1 (sfO x) (.k 12 (aG zs) (.k 1 (sfO s) (.k 107 (aW zy) (.k 6 (aG zx) (.n 26 .nil)))))))) (.v 178 (.eq (seO x)) (.c d20nx (.c d (.c d19nxny (.c f (.c d (.c d20an (.c d18xy (.c ck (.c (d10sy i) (.c z (.c d14xy (.c d13xy (.c d16yx (.c d17xy (.c d16xy (.c g (.c r11 (.c c (.c o (.c n (.c v (.c w (.c agh .nil))))))))))))))))))))))))
     ·exact pK [] 16 57557 (.k 8 (stO I) (.k 22 (aG ztr) (.k 2 (aF zs) (.k 1 (sfO s) (.k 107 (aW zy) (.k 6 (aG zx) (.n 26 .nil))))))) (.v 178 (.eq (seO x)) (.c d20nx (.c d (.c d19nxny (.c f (.c d (.c d20an (.c d18xy (.c ck (.c z (.c d14xy (.c d13xy (.c d16yx (.c d17xy (.c d16xy (.c g (.c r11 (.c c (.c o (.c n (.c v (.c w (.c agh .nil)))))))))))))))))))))))
    ·rcases tf (s.e==((0:Nat):Int)) with zs|zs
     ·have i:s.e=0:=by simpa using zs
      exact pK [] 14 2261 (.c (aF ztr) (.k 1 (sfO x) (.k 12 (aG zs) (.k 1 (sfO s) (.k 107 (aW zy) (.k 6 (aG zx) (.n 26 .nil))))))) (.c ck (.c (d10sy i) (.c z (.c d14xy (.c d13xy (.c d16yx (.c d17xy (.c d16xy (.c g (.c r11 (.c c (.c o (.c n (.c v (.c w (.c agh .nil))))))))))))))))
     ·exact pK [] 14 213 (.c (aF ztr) (.k 2 (aF zs) (.k 1 (sfO s) (.k 107 (aW zy) (.k 6 (aG zx) (.n 26 .nil)))))) (.c ck (.c z (.c d14xy (.c d13xy (.c d16yx (.c d17xy (.c d16xy (.c g (.c r11 (.c c (.c o (.c n (.c v (.c w (.c agh .nil)))))))))))))))
  ·have k:y.e ≠ 0:=by simpa using zy
   have j:∀ op:Int,9≤op→op≤19→op ≠ 15→CO 31 [.int .i64 op,.sl [.bool x.n,.str x.a,.str x.d,.int .i64 x.e,.bool y.n,.str y.a,.str y.d,.int .i64 y.e] 2 true,acS E] (.ret (fH y)):=fun op h1 G T=>by
    have:=do2 m (aar (op:=op) (by omega) (by omega)) (af_ h1 G T) sx.ok sy.ok
    rw [acI E (by omega),if_pos l,if_neg k] at this
    exact this
   exact pK [] 36 14723505007 (.k 1 (sfO y) (.k 14 (sfO y) (.k 14 (sfO y) (.k 14 (sfO y) (.k 17 (sfO y) (.k 14 (sfO y) (.k 14 (sfO y) (.k 14 (sfO y) (.k 14 (sfO y) (.k 14 (sfO y) (.k 14 (d_ zy) (.k 6 (aG zx) (.n 26 .nil))))))))))))) (.c (j 19 (by omega) (by omega) (by omega)) (.c (j 18 (by omega) (by omega) (by omega)) (.c (j 17 (by omega) (by omega) (by omega)) (.c (j 16 (by omega) (by omega) (by omega)) (.c (j 14 (by omega) (by omega) (by omega)) (.c (j 13 (by omega) (by omega) (by omega)) (.c (j 12 (by omega) (by omega) (by omega)) (.c (j 11 (by omega) (by omega) (by omega)) (.c (j 10 (by omega) (by omega) (by omega)) (.c (j 9 (by omega) (by omega) (by omega)) (.c o (.c n (.c v (.c w (.c agh .nil)))))))))))))))
 ·have l:x.e ≠ 0:=by simpa using zx
  have j:∀ op:Int,9≤op→op≤19→op ≠ 15→CO 31 [.int .i64 op,.sl [.bool x.n,.str x.a,.str x.d,.int .i64 x.e,.bool y.n,.str y.a,.str y.d,.int .i64 y.e] 2 true,acS E] (.ret (fH x)):=fun op h1 G T=>by
   have:=do2 m (aar (op:=op) (by omega) (by omega)) (af_ h1 G T) sx.ok sy.ok
   rw [acI E (by omega),if_neg l] at this
   exact this
  exact pK [] 36 14723505006 (.k 1 (sfO x) (.k 14 (sfO x) (.k 14 (sfO x) (.k 14 (sfO x) (.k 17 (sfO x) (.k 14 (sfO x) (.k 14 (sfO x) (.k 14 (sfO x) (.k 14 (sfO x) (.k 14 (sfO x) (.k 14 (d_ zx) (.k 1 (aF zx) (.n 26 .nil))))))))))))) (.c (j 19 (by omega) (by omega) (by omega)) (.c (j 18 (by omega) (by omega) (by omega)) (.c (j 17 (by omega) (by omega) (by omega)) (.c (j 16 (by omega) (by omega) (by omega)) (.c (j 14 (by omega) (by omega) (by omega)) (.c (j 13 (by omega) (by omega) (by omega)) (.c (j 12 (by omega) (by omega) (by omega)) (.c (j 11 (by omega) (by omega) (by omega)) (.c (j 10 (by omega) (by omega) (by omega)) (.c (j 9 (by omega) (by omega) (by omega)) (.c o (.c n (.c v (.c w (.c agh .nil)))))))))))))))
end Go.Proofs.Tryz
set_option maxRecDepth 100000
open Go AM Go.ChangeShapes Go.WideShapes Go.ChangeAt Go.RowKit
namespace Go.Proofs.YtdmfgmmooalfnaaGreatDoor.logic
open Go.Proofs.Tryz
theorem af7 (a:Os):laidMet Tryz.prog Rows.evalLogicRow.laid ((agc a).forCall (fun _ _=>0) ⟨#[],#[.agg #[.slice none 0 0,.slice none 0 0,.slice none 0 0],.int .u8 0],[]⟩).memory:=
 laidMet_of_run' 8 (by kernel_rfl) (by kernel_rfl)
theorem agz (a:Os) {H:Type} (enc:TypeId × Value→H):∃ places,DataW.whole enc Tryz.prog ((agc a).forCall (fun _ _=>0) ⟨#[],#[.agg #[.slice none 0 0,.slice none 0 0,.slice none 0 0],.int .u8 0],[]⟩).memory Tryz.f10.params.toList Rows.evalLogicSpec.vars false [.agg #[.slice none 0 0,.slice none 0 0,.slice none 0 0],.int .u8 0] 8=some ([.agg [.nil,.nil,.nil],.lit (.int .u8 0)],[],places):=
 ⟨[],by kernel_rfl⟩
theorem af6 (H:Type) (enc:TypeId × Value→H) (W:World) (base:Nat) (args:Array Value) (m p:List (DataW H)) (before:List MemPlace)
  (hval:∀ (j:Nat) t v,Tryz.f10.params[j]? =some t→args[j]? =some v→Value.okWide Tryz.prog W .any base t v)
  (hW:DataW.Whole enc Tryz.prog Tryz.f10.params.toList Rows.evalLogicSpec.vars false W args.toList m p before) (hL:laidMetH Tryz.prog Rows.evalLogicRow.laid W):
  Calls Tryz.prog 10 args W fun e W'=> ∃ v,e= .returned v∧Rows.evalLogicSpec.post enc Tryz.prog Tryz.f10 false true false false W args v W':=by
 have b:=hW
 obtain ⟨pp,F,a,y,rfl,r,x⟩:=hW
 have c:DataW.TrodAll enc Tryz.prog W 0 (fun _=>true) true Tryz.f10.params.toList args.toList m pp:=a
 obtain ⟨L⟩:=args
 simp only at c b hval ⊢
 rw [Tryz.params10] at c hval
 obtain ⟨v0,D,J,A,G,q0,rfl,rfl,rfl,z,a⟩:=trodAll_cons c
 obtain ⟨v1,C,E,B,K,I,rfl,rfl,rfl,s,f⟩:=trodAll_cons a
 obtain ⟨rfl,rfl,rfl⟩:=trodAll_nil f
 obtain ⟨rfl,rfl⟩:=trodVars_none y
 obtain ⟨l,n,o,h,d,i,g⟩:=aku (t:=63) (by kernel_rfl) (by kernel_rfl) (by kernel_rfl) (hval 0 63 v0 rfl rfl) z
 obtain ⟨w,rfl,_,_,q⟩:=open_int (k:= .u8) (by kernel_rfl) (hval 1 5 v1 rfl rfl) s
 have u:dQ (kQ W) [a3A l n o,.int .u8 w] [v0,.int .u8 w]:=by
  simp only [dQ,and_true]
  exact ⟨g,by simp only [PR]⟩
 refine (adr (af9 l n o w h d i) (ahW hL) u).mono fun e W' ⟨he,hb⟩=> ?_
 subst he
 exact ⟨_,rfl,ah7 akp (by kernel_rfl) b rfl (tb:=4) rfl (by kernel_rfl) rfl hb⟩
theorem agi (a:Os) (started:a.Started) (H:Type) (enc:TypeId × Value→H) (F:Stop.Interp):
  ReturnsInHanded {} Tryz.checked a 10 .any ((OpenSpec.ofChange Rows.evalLogicSpec).preRow enc Tryz.prog Tryz.f10 Rows.evalLogicRow.domain false Rows.evalLogicRow.laid) (((OpenSpec.ofChange Rows.evalLogicSpec).at F).post enc Tryz.prog Tryz.f10 false true false false):=by
 obtain ⟨places,d⟩:=agz a enc
 refine returnsInHanded_of_row (C:=Tryz.checked) (s:=OpenSpec.ofChange Rows.evalLogicSpec) own started (by kernel_rfl) Tryz.func10
  (witness_row_at (enc:=enc) (C:=Tryz.checked) false (agc a) #[.agg #[.slice none 0 0,.slice none 0 0,.slice none 0 0],.int .u8 0] rfl (by kernel_rfl) (by kernel_rfl) (by kernel_rfl)
   (OpenSpec.preRow_of_cond 8 d (by kernel_rfl) (fun k g=>by cases g) (by kernel_rfl) (af7 a))) ?_
 intro W base args h c before b f _ _ _ e _ _
 exact af6 H enc W base args h c before b f e
theorem ah1:Rows.EvalLogicSaid:=
 OpenClaim.holds_of_cond 10 Tryz.f10 rfl rfl rfl rfl rfl rfl rfl ⟨rfl,rfl,rfl,rfl,rfl⟩ rfl rfl rfl rfl rfl (by kernel_rfl) Tryz.func10 (by kernel_rfl)
  (of_decide_eq_true (by kernel_rfl)) (by unfold Func.isWrapper;first|(rw [if_pos (by decide+kernel)];kernel_rfl)|(rw [if_neg (by decide+kernel)];exact ⟨rfl,rfl⟩))
  (fun a started H enc _ F=>by rw [OpenClaim.pre_eq_preRow];exact agi a started H enc F)
theorem agj (f:FuncId) (b:Func) (d:Tryz.pinned.checked.prog.funcNamed Rows.evalLogicRow.func=some f) (c:Tryz.pinned.checked.prog.funcs[f]? =some b):
  true=Tryz.pinned.checked.prog.looks []∧∀ (j:Nat) t,b.params[j]? =some t→Tryz.pinned.checked.prog.wantsStandIn t=false:=by
 obtain rfl:f=10:=Option.some.inj ((show Tryz.prog.funcNamed Rows.evalLogicRow.func=some 10 by kernel_rfl).symm.trans d)|>.symm
 obtain rfl:b=Tryz.f10:=(Option.some.inj (Tryz.func10.symm.trans c)).symm
 refine ⟨by kernel_rfl,fun j t e=> ?_⟩
 have a:Tryz.f10.params.toList.all (fun t=> !Tryz.prog.wantsStandIn t)=true:=by kernel_rfl
 have:=List.all_eq_true.1 a t (by simpa using Array.mem_of_getElem? e)
 show Tryz.prog.wantsStandIn t=false
 simpa using this
theorem card:Rows.EvalLogicCardSaid:=
 Claim7.holds_tied_plain_at .later [] _ _ _ _ ah1 (fun _ h=>by cases h) (by kernel_rfl) (fun _ h=>by cases h) evalLogic_row_tie rfl ⟨rfl,rfl⟩ (by kernel_rfl) rfl agj (by kernel_rfl)
end Go.Proofs.YtdmfgmmooalfnaaGreatDoor.logic
