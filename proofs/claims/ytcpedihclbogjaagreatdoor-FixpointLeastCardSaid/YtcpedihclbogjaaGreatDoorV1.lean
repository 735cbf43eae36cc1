/- The law FixpointLeast returns true for every input: what Least returns is the least fixed point of the rounds. No conditions beyond the given row's. -/
import Derived.Test.YtcpedihclbogjaaGreatDoorC4
set_option linter.unusedSimpArgs false
set_option linter.unusedVariables false
set_option maxRecDepth 100000
set_option linter.unusedVariables false
open Go AM
open List renaming take->π
open Nat renaming le_refl->κ
namespace Go.Proofs.Tryz
def aas (xa xb:List Int) (xr:List Rw) (na nb nr:Bool) (f0 f1 f2:Int) (es:List a_) (ss:List (List Lk)) (v:List Rw) (p:Nat × List Rw):St:=⟨[(4,.ptr 0 0 0),(5,.ptr 1 0 0),(7,.bool true),(8,.ptr 2 0 0),(9,.sl (dF v) v.length false),(14,rvA p.2 p.1 3),(15,.int .i64 (p.1:Int))],(0,⟨[.int .i64 f0,.int .i64 f1,.int .i64 f2],0,false,0,0,true⟩)::(1,⟨[.sl (iL xa) xa.length na,.sl (iL xb) xb.length nb,.sl (dF xr) xr.length nr],0,false,0,0,true⟩)::(2,⟨[.sl (bV es) es.length false,.sl (eF ss) ss.length false,.sl [] 0 false],0,false,0,0,true⟩)::rvH p.2 3,.dead,[]⟩
def ad9 (xa xb:List Int) (xr:List Rw) (na nb nr:Bool) (f0 f1 f2:Int) (es:List a_) (ss:List (List Lk)) (v:List Rw) (p:Nat × List Rw):St:=⟨[(4,.ptr 0 0 0),(5,.ptr 1 0 0),(7,.bool true),(8,.ptr 2 0 0),(9,.sl (dF v) v.length false),(14,rvA p.2 p.1 3)],(0,⟨[.int .i64 f0,.int .i64 f1,.int .i64 f2],0,false,0,0,true⟩)::(1,⟨[.sl (iL xa) xa.length na,.sl (iL xb) xb.length nb,.sl (dF xr) xr.length nr],0,false,0,0,true⟩)::(2,⟨[.sl (bV es) es.length false,.sl (eF ss) ss.length false,.sl [] 0 false],0,false,0,0,true⟩)::rvH p.2 3,.dead,[]⟩
theorem acS (d f:List Int) (c:List Rw) (i j g:Bool) (m l n:Int) (es:List a_) (ss:List (List Lk)) (v:List Rw) (t:es.length<2^39) (k:Nat) (vs:List Rw) (x:a_) (s:List AV) (p:List.drop ((Int.toNat (k:Int))*14) (bV es)=ZL x++s) (o:vs.length=k) (b:k<es.length) {nt:Nat} (q:107<=nt):ψ nt f6 (aas d f c i j g m l n es ss v (k,vs)) .normal (aas d f c i j g m l n es ss v (k+1,vs++ [x.cp])):=by
 have r:k<2^62:=by omega
 cases vs with
 |nil=>
  obtain rfl:k=0:=by simpa using o.symm
  have h:ψ nt f6 (aas d f c i j g m l n es ss v (0,[])) .normal (aas d f c i j g m l n es ss v (0+1,[x.cp])):=pN 6 [] 2 1 (.k 6 (pU 0) (.c (aY b) (.k 1 (aA (aY b)) (.n 1 .nil)))) (.v 60 (.eq (pO r)) (.v 65 (.ppt p) .nil)) q;exact h
 |cons a vs'=>
  have h:ψ nt f6 (aas d f c i j g m l n es ss v (k,a::vs')) .normal ⟨[(4,.ptr 0 0 0),(5,.ptr 1 0 0),(7,.bool true),(8,.ptr 2 0 0),(9,.sl (dF v) v.length false),(14,.ref 3 0 0 (k+1)),(15,.int .i64 (((k+1):Nat):Int))],[(0,⟨[.int .i64 m,.int .i64 l,.int .i64 n],0,false,0,0,true⟩),(1,⟨[.sl (iL d) d.length i,.sl (iL f) f.length j,.sl (dF c) c.length g],0,false,0,0,true⟩),(2,⟨[.sl (bV es) es.length false,.sl (eF ss) ss.length false,.sl [] 0 false],0,false,0,0,true⟩),(3,⟨((π (k*3) (dF (a::vs')))++ [.bool x.cp.n,.str x.cp.a,.str x.cp.d]),0,false,0,3,true⟩)],.dead,[]⟩:=pN 6 [] 1 1 (.k 1 (Aa (k+1)) (.c (Nat.ble_eq_true_of_le (by rw [jc];omega:k*3<=(dF (a::vs')).length)) (.k 4 (pU k) (.c (aY b) (.k 1 (aA (aY b)) (.n 1 .nil)))))) (.v 60 (.eq (pO r)) (.v 65 (.ppt p) .nil)) q;have e:π (k*3) (dF (a::vs'))++ [.bool x.cp.n,.str x.cp.a,.str x.cp.d]=dF ((a::vs')++ [x.cp]):=afy o x.cp;rw [e] at h;exact h
theorem acV (d f:List Int) (c:List Rw) (j g e:Bool) (n m o:Int) (es:List a_) (ss:List (List Lk)) (v:List Rw) (l:es.length<2^39) {nt:Nat} (i:107<=nt):∀ (r p:List a_),es=p++r->aF prog ap [] nt (af 0 (ax f6)) (λ_=> .exit 0) (aas d f c j g e n m o es ss v) (ad9 d f c j g e n m o es ss v) (p.length,p.map a_.cp) (es.length,es.map a_.cp):=by
 intro r
 induction r with
 |nil=>
  intro p hp;rw [List.append_nil] at hp;rw [<- hp];have b:es.length<=es.length:=κ _;refine .done ?_;have q:(es.map a_.cp).length=es.length:=by simp
  generalize es.map a_.cp=vs at q;generalize s:es.length=k at q b;cases vs with
  |nil=>exact pN 6 [] 1 0 (.c (az (xG (by omega))) (.n 1 .nil)) (.nil) i
  |cons a r=>exact pN 6 [] 1 0 (.c (az (xG (by omega))) (.n 1 .nil)) (.nil) i
 |cons x r ih=>
  intro p hp;have h:=ih (p++ [x]) (by rw [hp];simp);rw [List.length_append,List.length_singleton,List.map_append] at h;refine .next (acS d f c j g e n m o es ss v l p.length (p.map a_.cp) x (bV r) ?_ (by simp) (by rw [hp];simp) i) h
  exact fD DD hp
theorem agj {b n:Nat} {L:List Rw} (a:L.length=n):Fz b ⟨dF L,0,false,0,3,true⟩ (.ref b 0 0 n) (.sl (dF L) L.length false):=by
 subst a;exact .fit .ref (by rw [Nat.zero_mul,List.drop_zero,List.take_of_length_le (by rw [jc];exact κ _)];exact bY.sl _ _ _)
theorem af7 (c d:List Int) (b:List Rw) (g f e:Bool) (i h j:Int) (es:List a_) (ss:List (List Lk)) (v:List Rw) (l:es.length<2^39) (p:es ≠ []):LB 107 0 f6 (aas c d b g f e i h j es ss v (0,[])) .normal ⟨[(4,.ptr 0 0 0),(5,.ptr 1 0 0),(7,.bool true),(8,.ptr 2 0 0),(9,.sl (dF v) v.length false),(14,.sl (dF (es.map a_.cp)) (es.map a_.cp).length false)],(0,⟨[.int .i64 i,.int .i64 h,.int .i64 j],0,false,0,0,true⟩)::(1,⟨[.sl (iL c) c.length g,.sl (iL d) d.length f,.sl (dF b) b.length e],0,false,0,0,true⟩)::(2,⟨[.sl (bV es) es.length false,.sl (eF ss) ss.length false,.sl [] 0 false],0,false,0,0,true⟩)::[],.dead,[]⟩:=by
 have h0:LB 107 0 f6 (aas c d b g f e i h j es ss v (0,[])) .normal (ad9 c d b g f e i h j es ss v (es.length,es.map a_.cp)):=aF.blk (λnt k=>acV c d b g f e i h j es ss v l k es [] rfl) (by simp) rfl (aK.refl _) (aK.refl _);intro nt k;have o:=h0 nt k;have m:(es.map a_.cp).length=es.length:=by simp
 cases n:es.map a_.cp with
 |nil=>cases es with
  |nil=>exact absurd rfl p
  |cons a r=>simp at n
 | cons a r=>
  rw [n] at m o;exact ak.forget 3 ⟨dF (a::r),0,false,0,3,true⟩ o (by simp [rvH]) (Nat.zero_le _) rfl ⟨Fz.same rfl,Fz.same rfl,Fz.same rfl,Fz.same rfl,Fz.same rfl,agj m,trivial⟩
   ⟨rfl,zX.same rfl,by decide,rfl,zX.same rfl,by decide,rfl,zX.same rfl,by decide,rfl⟩
def ahu (xa xb:List Int) (xr:List Rw) (na nb nr:Bool) (f0 f1 f2:Int) (es:List a_) (ss:List (List Lk)) (v:List Rw) (w0 q0:List Rw) (j:Nat) (p:Nat × List Rw):St:=⟨[(4,.ptr 0 0 0),(5,.ptr 1 0 0),(7,.bool true),(8,.ptr 2 0 0),(9,.sl (dF v) v.length false),(17,.sl (dF p.2) p.2.length false),(18,.int .i64 (p.1:Int)),(76,.ref 3 0 0 2),(77,.int .i64 2),(78,.int .i64 (j:Int))],[(0,⟨[.int .i64 f0,.int .i64 f1,.int .i64 f2],0,false,0,0,true⟩),(1,⟨[.sl (iL xa) xa.length na,.sl (iL xb) xb.length nb,.sl (dF xr) xr.length nr],0,false,0,0,true⟩),(2,⟨[.sl (bV es) es.length false,.sl (eF ss) ss.length false,.sl [] 0 false],0,false,0,0,true⟩),(3,⟨[AV.sl (dF w0) w0.length false,AV.sl (dF q0) q0.length false],0,false,0,1,true⟩)],.dead,[]⟩
def agS (xa xb:List Int) (xr:List Rw) (na nb nr:Bool) (f0 f1 f2:Int) (es:List a_) (ss:List (List Lk)) (v:List Rw) (w0 q0:List Rw) (j:Nat) (_:Nat):St:=(aqA (.sl (dF v) v.length false) (j:Int) [.int .i64 f0,.int .i64 f1,.int .i64 f2] [.sl (iL xa) xa.length na,.sl (iL xb) xb.length nb,.sl (dF xr) xr.length nr] [.sl (bV es) es.length false,.sl (eF ss) ss.length false,.sl [] 0 false] [AV.sl (dF w0) w0.length false,AV.sl (dF q0) q0.length false])
structure LwK (es:List a_) (ss:List (List Lk)) (v:List Rw):Prop where
 sm:lZ es ss
 ct:∀ x ∈ es,qJ x
 vsm:∀ y ∈ v,y.ti
 vl:v.length<2^40
 le:∀ {w r:List Rw},kz ss es w= .inr r->leB r w=true->leB v w=true
theorem abU (u x:List Int) (q:List Rw) (t z s:Bool) (C B D:Int) (es:List a_) (ss:List (List Lk)) (v:List Rw) (w0 q0:List Rw) (j:Nat) (h:LwK es ss v) {nt:Nat} (m:107<=nt):∀ (d k:Nat) (w:List Rw),k+d=6->(∀ y ∈ w,y.ti)->aF prog ap [] nt (af 4 (ax f6)) (λ_=> .exit 4) (ahu u x q t z s C B D es ss v w0 q0 j) (agS u x q t z s C B D es ss v w0 q0 j) (k,w) 0:=by
 intro d
 induction d with
 |zero=>
  intro k w hd l;refine .done ?_;have c:6<=k:=by omega
  exact pN 6 [] 1 0 (.c (az (xG c)) .nil) (.nil) m
 | succ d ih=>
  intro k w hd l;have A:k<2^62:=by omega
  have c:k<6:=by omega
  have g:∀ y ∈ w,y.sm:=λy F=>(l y F).sm
  have a:=YO es ss w false false false h.sm.len h.sm.sm g h.sm.ls λi _=>h.sm.env g i
  cases b:kz ss es w with
  |inl e=>
   rw [b] at a;have E:(e==((0:Nat):Int))=false:=beq_eq_false_iff_ne.2 (am8 h.sm b);have a:CO 15 [.agg [.sl (bV es) es.length false,.sl (eF ss) ss.length false,.sl [] 0 false],.sl (dF w) w.length false] (.ret (.tup [.nilS,.int .i64 e])):=a;exact .done (pN 6 [] 2 3 (.c (dC E) (.k 3 (aA (aY c)) .nil)) (.c a .nil) m)
  | inr r=>
   rw [b] at a;have f:=am9 h.ct h.sm b;have n:=akm h.sm b;have cl:=aoT r w false false n f l;have a:CO 15 [.agg [.sl (bV es) es.length false,.sl (eF ss) ss.length false,.sl [] 0 false],.sl (dF w) w.length false] (.ret (.tup [.sl (dF r) r.length false,.int .i64 0])):=a;have p:=ih (k+1) r (by omega) f;refine .next ?_ p
   cases o:leB r w with
   |true=>
    rw [o] at cl;have cv:=aoT v w false false h.vl h.vsm l;rw [h.le b o] at cv;exact pN 6 [] 4 5 (.k 6 (aA (aY c)) .nil) (.v 85 (.eq (pO A)) (.c cv (.c cl (.c a .nil)))) m
   |false=>
    rw [o] at cl;exact pN 6 [] 4 1 (.k 6 (aA (aY c)) .nil) (.v 85 (.eq (pO A)) (.c cl (.c a .nil))) m
def acx (xa xb:List Int) (xr:List Rw) (na nb nr:Bool) (f0 f1 f2:Int) (es:List a_) (ss:List (List Lk)) (v:List Rw) (w0 q0:List Rw) (j:Nat):St:=(aqA (.sl (dF v) v.length false) (j:Int) [.int .i64 f0,.int .i64 f1,.int .i64 f2] [.sl (iL xa) xa.length na,.sl (iL xb) xb.length nb,.sl (dF xr) xr.length nr] [.sl (bV es) es.length false,.sl (eF ss) ss.length false,.sl [] 0 false] [.sl (dF w0) w0.length false,.sl (dF q0) q0.length false])
def afZ (_:Nat):St:=⟨[(7,.bool true)],[],.dead,[]⟩
theorem ahr (b c:List Int) (a:List Rw) (f e d:Bool) (i g j:Int) (es:List a_) (ss:List (List Lk)) (v:List Rw) (w0 q0:List Rw) (h:LwK es ss v) (l:∀ y ∈ w0,y.ti) {nt:Nat} (k:107<=nt):ak prog ap [] nt (af 2 (ax f6)) (acx b c a f e d i g j es ss v w0 q0 0) .normal (acx b c a f e d i g j es ss v w0 q0 1):=by
 have m:LB 107 4 f6 (aqB (.sl (dF v) v.length false) (.dead) (.sl (dF w0) w0.length false) (.int .i64 0) 0 (.bool true) [.int .i64 i,.int .i64 g,.int .i64 j] [.sl (iL b) b.length f,.sl (iL c) c.length e,.sl (dF a) a.length d] [.sl (bV es) es.length false,.sl (eF ss) ss.length false,.sl [] 0 false] [.sl (dF w0) w0.length false,.sl (dF q0) q0.length false]) (.normal) (aqA (.sl (dF v) v.length false) 0 [.int .i64 i,.int .i64 g,.int .i64 j] [.sl (iL b) b.length f,.sl (iL c) c.length e,.sl (dF a) a.length d] [.sl (bV es) es.length false,.sl (eF ss) ss.length false,.sl [] 0 false] [.sl (dF w0) w0.length false,.sl (dF q0) q0.length false]):=aF.blk (λnt k=>abU b c a f e d i g j es ss v w0 q0 0 h k 6 0 w0 rfl l) (by simp) rfl (aK.of (by simp only [UL];exact ⟨rfl,rfl,rfl,rfl,rfl,rfl,rfl,rfl,rfl,rfl,trivial⟩)) (aK.refl _);exact pN 6 [4] 1 1 (.n 4 .nil) (.l m .nil) k
theorem ahs (b c:List Int) (a:List Rw) (f e d:Bool) (i g j:Int) (es:List a_) (ss:List (List Lk)) (v:List Rw) (w0 q0:List Rw) (h:LwK es ss v) (l:∀ y ∈ q0,y.ti) {nt:Nat} (k:107<=nt):ak prog ap [] nt (af 2 (ax f6)) (acx b c a f e d i g j es ss v w0 q0 1) .normal (acx b c a f e d i g j es ss v w0 q0 2):=by
 have m:LB 107 4 f6 (aqB (.sl (dF v) v.length false) (.dead) (.sl (dF q0) q0.length false) (.int .i64 0) 1 (.bool true) [.int .i64 i,.int .i64 g,.int .i64 j] [.sl (iL b) b.length f,.sl (iL c) c.length e,.sl (dF a) a.length d] [.sl (bV es) es.length false,.sl (eF ss) ss.length false,.sl [] 0 false] [.sl (dF w0) w0.length false,.sl (dF q0) q0.length false]) (.normal) (aqA (.sl (dF v) v.length false) 1 [.int .i64 i,.int .i64 g,.int .i64 j] [.sl (iL b) b.length f,.sl (iL c) c.length e,.sl (dF a) a.length d] [.sl (bV es) es.length false,.sl (eF ss) ss.length false,.sl [] 0 false] [.sl (dF w0) w0.length false,.sl (dF q0) q0.length false]):=aF.blk (λnt k=>abU b c a f e d i g j es ss v w0 q0 1 h k 6 0 q0 rfl l) (by simp) rfl (aK.of (by simp only [UL];exact ⟨rfl,rfl,rfl,rfl,rfl,rfl,rfl,rfl,rfl,rfl,trivial⟩)) (aK.refl _);exact pN 6 [4] 1 1 (.n 4 .nil) (.l m .nil) k
theorem af6 (d e:List Int) (a:List Rw) (c f b:Bool) (j i k:Int) (es:List a_) (ss:List (List Lk)) (v:List Rw) (w0 q0:List Rw) (h:LwK es ss v) (m:∀ y ∈ w0,y.ti) (l:∀ y ∈ q0,y.ti) {nt:Nat} (g:107<=nt):aF prog ap [] nt (af 2 (ax f6)) (λ_=> .exit 2) (acx d e a c f b j i k es ss v w0 q0) afZ 0 0:=
 .next (ahr d e a c f b j i k es ss v w0 q0 h m g) (.next (ahs d e a c f b j i k es ss v w0 q0 h l g) (.done (pN 6 [4] 1 0 (.n 1 .nil) (.nil) g)))
theorem ad6 (l:List (List Int)) (k:Bool) (a d:List Int) (b:List Rw) (e j i:Bool) (g f h:Int) (es:List a_) (ss:List (List Lk)) (v:List Rw) (c:List (List Rw)) (q w:List Rw) (cs:CO 10 [] (.ret (.bool true))) (r:CO 11 [.sl (jC l) l.length k,.agg [.int .i64 g,.int .i64 f,.int .i64 h]] (.ret (.agg [.sl (bV es) es.length false,.sl (eF ss) ss.length false,.sl [] 0 false]))) (n:CO 23 [.agg [.sl (bV es) es.length false,.sl (eF ss) ss.length false,.sl [] 0 false]] (.ret (.tup [.sl (dF v) v.length false,.sl (vw c) c.length false,.int .i64 0]))) (s:CO 15 [.agg [.sl (bV es) es.length false,.sl (eF ss) ss.length false,.sl [] 0 false],.sl (dF v) v.length false] (.ret (.tup [.sl (dF v) v.length false,.int .i64 0]))) (o:CO 17 [.sl (dF v) v.length false,.sl (dF v) v.length false] (.ret (.bool true))) (cv:CO 14 [.agg [.sl (bV es) es.length false,.sl (eF ss) ss.length false,.sl [] 0 false],.sl (iL a) a.length e] (.ret (.sl (dF w) w.length false))) (m:LB 107 0 f6 ⟨[(0,.sl (jC l) l.length k),(1,.agg [.int .i64 g,.int .i64 f,.int .i64 h]),(2,.agg [.sl (iL a) a.length e,.sl (iL d) d.length j,.sl (dF b) b.length i]),(4,.ptr 0 0 0),(5,.ptr 1 0 0),(6,.bool false),(7,.bool true),(8,.ptr 2 0 0),(9,.sl (dF v) v.length false),(11,.int .i64 0),(12,.sl (dF v) v.length false),(13,.int .i64 0),(14,.nilS),(15,.int .i64 0),(17,.dead),(18,.dead),(19,.dead),(20,.dead),(21,.dead),(33,.bool false),(53,.bool false),(58,.dead),(76,.dead),(77,.dead),(78,.dead),(79,.dead),(83,.dead),(93,.dead),(103,.dead)],[(0,⟨[.int .i64 g,.int .i64 f,.int .i64 h],0,false,0,0,true⟩),(1,⟨[.sl (iL a) a.length e,.sl (iL d) d.length j,.sl (dF b) b.length i],0,false,0,0,true⟩),(2,⟨[.sl (bV es) es.length false,.sl (eF ss) ss.length false,.sl [] 0 false],0,false,0,0,true⟩)],.dead,[]⟩ (.normal) ⟨[(4,.ptr 0 0 0),(5,.ptr 1 0 0),(7,.bool true),(8,.ptr 2 0 0),(9,.sl (dF v) v.length false),(14,.sl (dF q) q.length false)],[(0,⟨[.int .i64 g,.int .i64 f,.int .i64 h],0,false,0,0,true⟩),(1,⟨[.sl (iL a) a.length e,.sl (iL d) d.length j,.sl (dF b) b.length i],0,false,0,0,true⟩),(2,⟨[.sl (bV es) es.length false,.sl (eF ss) ss.length false,.sl [] 0 false],0,false,0,0,true⟩)],.dead,[]⟩) (p:LB 107 2 f6 (aqB (.sl (dF v) v.length false) (.sl (dF q) q.length false) (.dead) (.dead) 0 (.dead) [.int .i64 g,.int .i64 f,.int .i64 h] [.sl (iL a) a.length e,.sl (iL d) d.length j,.sl (dF b) b.length i] [.sl (bV es) es.length false,.sl (eF ss) ss.length false,.sl [] 0 false] [.sl (dF w) w.length false,.sl (dF q) q.length false]) (.normal) ⟨[(7,.bool true)],[],.dead,[]⟩):CO 6 [.sl (jC l) l.length k,.agg [.int .i64 g,.int .i64 f,.int .i64 h],.agg [.sl (iL a) a.length e,.sl (iL d) d.length j,.sl (dF b) b.length i]] (.ret (.bool true)):=pK [0,2] 3 0 (.n 17 .nil) (.l p (.c cv (.l m (.c o (.c s (.c n (.c r (.c cs .nil))))))))
theorem aeR (l:List (List Int)) (f:Bool) (d g:List Int) (c:List Rw) (i o m:Bool) (b a h:Int) (es:List a_) (ss:List (List Lk)) (e:Int) (j:(e==((0:Nat):Int))=false) (cs:CO 10 [] (.ret (.bool true))) (n:CO 11 [.sl (jC l) l.length f,.agg [.int .i64 b,.int .i64 a,.int .i64 h]] (.ret (.agg [.sl (bV es) es.length false,.sl (eF ss) ss.length false,.sl [] 0 false]))) (k:CO 23 [.agg [.sl (bV es) es.length false,.sl (eF ss) ss.length false,.sl [] 0 false]] (.ret (.tup [.nilS,.nilS,.int .i64 e]))):CO 6 [.sl (jC l) l.length f,.agg [.int .i64 b,.int .i64 a,.int .i64 h],.agg [.sl (iL d) d.length i,.sl (iL g) g.length o,.sl (dF c) c.length m]] (.ret (.bool true)):=pK [0,4] 2 3 (.k 1 (dC j) (.n 7 .nil)) (.c k (.c n (.c cs .nil)))
theorem abT (cs:CO 10 [] (.ret (.bool true))) (l:List (List Int)) (u:Bool) (k j m:Int) (d h:List Int) (f:List Rw) (g t p:Bool):CO 6 [.sl (jC l) l.length u,.agg [.int .i64 k,.int .i64 j,.int .i64 m],.agg [.sl (iL d) d.length g,.sl (iL h) h.length t,.sl (dF f) f.length p]] (.ret (.bool true)):=by
 obtain ⟨es,ss,a,b,Q,K,H⟩:=akl l u k j m;rcases alQ a with ⟨e,N,A⟩|⟨c,v,h0,z,q,hlast,n,J,o,A⟩
 .exact aeR l u d h f g t p k j m es ss e (beq_eq_false_iff_ne.2 N) cs H (OJ es ss false false a A)
 .have F:=OJ es ss false false a A;rw [Ir,hlast,Option.getD_some] at F;have I:=YO es ss v false false false a.len a.sm o a.ls λi _=>a.env o i
  rw [J] at I;have s:v.length<2^40:=by have:=n.len;omega
  have G:=Ji v v false false s;rw [decide_eq_true rfl] at G;obtain ⟨w,M,E,cv⟩:=aks es ss false false d g a b;have B:es ≠ []:=(Dx h0 a.sm).2.1;have L:LwK es ss v:=⟨a,b,Qn b n,s,fun {w r} hr hb=>ao1 a h0 z q hlast hr hb⟩
  have C:∀ y ∈ es.map a_.cp,y.ti:=λy P=>by
   obtain ⟨x,O,rfl⟩:=List.mem_map.1 P;exact (b x O).cti
  exact ad6 l u d h f g t p k j m es ss v c (es.map a_.cp) w cs H F I G cv
   (λnt D=>(af7 d h f g t p k j m es ss v a.len B nt D).weak (aK.of (by simp only [UL];exact ⟨rfl,rfl,rfl,rfl,rfl,rfl,rfl,trivial⟩)) (aK.refl _))
   (aF.blk (λnt D=>af6 d h f g t p k j m es ss v w (es.map a_.cp) L E C D) (by simp) rfl (aK.of (by simp only [UL];exact ⟨rfl,rfl,rfl,rfl,rfl,rfl,rfl,rfl,trivial⟩)) (aK.refl _))
end Go.Proofs.Tryz
set_option maxRecDepth 100000
open Go AM Go.ChangeShapes Go.WideShapes Go.ChangeAt Go.RowKit
namespace Go.Proofs.YtcpedihclbogjaaGreatDoor.leasts
open Go.Proofs.Tryz
theorem acU (os:Os):laidMet Tryz.prog Rows.fixpointLeastRow.laid ((akj os).forCall (λ_ _=>0) ⟨#[],#[.slice none 0 0,.agg #[.int .i64 0,.int .i64 0,.int .i64 0],.agg #[.slice none 0 0,.slice none 0 0,.slice none 0 0]],[]⟩).memory:=
 laidMet_of_run' 8 (by kernel_rfl) (by kernel_rfl)
theorem agx (os:Os) {H:Type} (enc:TypeId × Value->H):∃ places,DataW.whole enc Tryz.prog ((akj os).forCall (λ_ _=>0) ⟨#[],#[.slice none 0 0,.agg #[.int .i64 0,.int .i64 0,.int .i64 0],.agg #[.slice none 0 0,.slice none 0 0,.slice none 0 0]],[]⟩).memory Tryz.f6.params.toList Rows.fixpointLeastSpec.vars false [.slice none 0 0,.agg #[.int .i64 0,.int .i64 0,.int .i64 0],.agg #[.slice none 0 0,.slice none 0 0,.slice none 0 0]] 8=some ([.nil,.agg [.lit (.int .i64 0),.lit (.int .i64 0),.lit (.int .i64 0)],.agg [.nil,.nil,.nil]],[],places):=
 ⟨[],by kernel_rfl⟩
theorem acT (H:Type) (enc:TypeId × Value->H) (W:World) (base:Nat) (args:Array Value) (q A:List (DataW H)) (before:List MemPlace)
  (hval:∀ (j:Nat) t v,Tryz.f6.params[j]? =some t->args[j]? =some v->Value.okWide Tryz.prog W .any base t v)
  (hW:DataW.Whole enc Tryz.prog Tryz.f6.params.toList Rows.fixpointLeastSpec.vars false W args.toList q A before) (hL:laidMetH Tryz.prog Rows.fixpointLeastRow.laid W):
  Calls Tryz.prog 6 args W λe W'=> ∃ v,e= .returned v/\Rows.fixpointLeastSpec.post enc Tryz.prog Tryz.f6 false true false false W args v W':=by
 have b:=hW;obtain ⟨pp,Q,a,D,rfl,s,B⟩:=hW;have i:DataW.TrodAll enc Tryz.prog W 0 (λ_=>true) true Tryz.f6.params.toList args.toList q pp:=a;obtain ⟨J⟩:=args;simp only at i b hval ⊢;rw [Tryz.params6] at i hval;obtain ⟨v0,u,M,E,O,q0,rfl,rfl,rfl,h0,a⟩:=trodAll_cons i;obtain ⟨v1,C,I,y,N,P,rfl,rfl,rfl,F,o⟩:=trodAll_cons a;obtain ⟨r,x,L,w,R,K,rfl,rfl,rfl,G,p⟩:=trodAll_cons o;obtain ⟨rfl,rfl,rfl⟩:=trodAll_nil p;obtain ⟨rfl,rfl⟩:=trodVars_none D;obtain ⟨l,k⟩:=aoX (hval 0 22 v0 rfl rfl) h0;obtain ⟨d,c,f,rfl⟩:=aoW (hval 1 23 v1 rfl rfl) F;obtain ⟨m,n,g,h⟩:=aoY (hval 2 45 r rfl rfl) G;have z:bT (jT W) [.sl (jC l) l.length false,.agg [.int .i64 d,.int .i64 c,.int .i64 f],.agg [.sl (iL m) m.length false,.sl (iL n) n.length false,.sl (dF g) g.length false]] [v0,.agg #[.int .i64 d,.int .i64 c,.int .i64 f],r]:=by
  simp only [bT,and_true];exact ⟨k,(by simp only [PR];exact ⟨[.int .i64 d,.int .i64 c,.int .i64 f],rfl,by simp [bT,PR]⟩),h⟩
 refine (ahN (abT akp l false d c f m n g false false false) (alI hL) z).mono λe W' ⟨he,hb⟩=> ?_
 subst he;exact ⟨_,rfl,alP aoS (by kernel_rfl) b rfl (tb:=4) rfl (by kernel_rfl) rfl hb⟩
theorem aeS (os:Os) (started:os.Started) (H:Type) (enc:TypeId × Value->H) (F:Stop.Interp):
  ReturnsInHanded {} Tryz.checked os 6 .any ((OpenSpec.ofChange Rows.fixpointLeastSpec).preRow enc Tryz.prog Tryz.f6 Rows.fixpointLeastRow.domain false Rows.fixpointLeastRow.laid) (((OpenSpec.ofChange Rows.fixpointLeastSpec).at F).post enc Tryz.prog Tryz.f6 false true false false):=by
 obtain ⟨places,c⟩:=agx os enc;refine returnsInHanded_of_row (C:=Tryz.checked) (s:=OpenSpec.ofChange Rows.fixpointLeastSpec) own started (by kernel_rfl) Tryz.func6
  (witness_row_at (enc:=enc) (C:=Tryz.checked) false (akj os) #[.slice none 0 0,.agg #[.int .i64 0,.int .i64 0,.int .i64 0],.agg #[.slice none 0 0,.slice none 0 0,.slice none 0 0]] rfl (by kernel_rfl) (by kernel_rfl) (by kernel_rfl)
   (OpenSpec.preRow_of_cond 8 c (by kernel_rfl) (λk g=>by cases g) (by kernel_rfl) (acU os))) ?_
 intro W base args f e before a b _ _ _ d _ _;exact acT H enc W base args f e before a b d
theorem aix:Rows.FixpointLeastSaid:=
 OpenClaim.holds_of_cond 6 Tryz.f6 rfl rfl rfl rfl rfl rfl rfl ⟨rfl,rfl,rfl,rfl,rfl⟩ rfl rfl rfl rfl rfl (by kernel_rfl) Tryz.func6 (by kernel_rfl)
  (of_decide_eq_true (by kernel_rfl)) (by unfold Func.isWrapper;first|(rw [if_pos (by decide+kernel)];kernel_rfl)|(rw [if_neg (by decide+kernel)];exact ⟨rfl,rfl⟩))
  (λos started H enc _ F=>by rw [OpenClaim.pre_eq_preRow];exact aeS os started H enc F)
theorem agm (f:FuncId) (b:Func) (e:Tryz.pinned.checked.prog.funcNamed Rows.fixpointLeastRow.func=some f) (c:Tryz.pinned.checked.prog.funcs[f]? =some b):
  false=Tryz.pinned.checked.prog.looks []/\∀ (j:Nat) t,b.params[j]? =some t->Tryz.pinned.checked.prog.wantsStandIn t=false:=by
 obtain rfl:f=6:=Option.some.inj ((show Tryz.prog.funcNamed Rows.fixpointLeastRow.func=some 6 by kernel_rfl).symm.trans e)|>.symm
 obtain rfl:b=Tryz.f6:=(Option.some.inj (Tryz.func6.symm.trans c)).symm;refine ⟨by kernel_rfl,λj t d=> ?_⟩;have a:Tryz.f6.params.toList.all (λt=> !Tryz.prog.wantsStandIn t)=true:=by kernel_rfl
 have:=List.all_eq_true.1 a t (by simpa using Array.mem_of_getElem? d);show Tryz.prog.wantsStandIn t=false;simpa using this
theorem card:Rows.FixpointLeastCardSaid:=
 Claim7.holds_tied_plain_at .later [] _ _ _ _ aix (λ_ h=>by cases h) (by kernel_rfl) (λ_ h=>by cases h) fixpointLeast_row_tie rfl ⟨rfl,rfl⟩ (by kernel_rfl) rfl agm (by kernel_rfl)
end Go.Proofs.YtcpedihclbogjaaGreatDoor.leasts
