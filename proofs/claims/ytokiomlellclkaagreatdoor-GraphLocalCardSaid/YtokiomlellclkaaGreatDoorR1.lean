/- The law GraphLocal returns true for every input: another body of a provision changes only what the cells of this provision use, and what is reached from other cells. No conditions beyond the given row's. -/
import Derived.Test.YtokiomlellclkaaGreatDoorC2
import Derived.Test.YtokiomlellclkaaGreatDoorM5
import Derived.Test.YtokiomlellclkaaGreatDoorC3
set_option linter.unusedSimpArgs false
set_option linter.unusedVariables false
set_option maxRecDepth 100000
set_option linter.unusedVariables false
open Go AM
namespace Go.Proofs.Tryz
abbrev zcr1_0 : List AV := [.bool false,.str [],.str [1],.bool false,.str [1],.str [5],.bool false,.str [5],.str [1],.bool false,.str [2],.str [5]]
abbrev zcr1_1 : List AV := [.bool false,.str [],.str [1],.bool false,.str [1],.str [5],.bool false,.str [5],.str [1],.bool true,.str [1],.str [5]]
theorem ab7 (l:List (List Int)) (c:Bool) (mn:Nat) (a:Nat) (ps:List Pv) (d:ps.length=a) (b:AV.int .i64 (if ((8:Nat):Int)<(l.length:Int) then ((8:Nat):Int) else (l.length:Int))= .int .i64 (mn:Int)) (e:CO 61 [.int .i64 (l.length:Int),.int .i64 2] (.ret (.int .i64 0)))
  (l1:aK prog ap [] 140 (.block 0 (.loop (af 0 (ag f24)))) ⟨[(0,.sl (iM l) l.length c),(2,.ptr 0 0 0),(3,.ptr 1 0 0),(4,.ptr 2 0 0),(5,.ptr 3 0 0),(6,.int .i64 (mn:Int)),(7,.int .i64 0),(8,.dead),(9,.dead),(10,.dead),(11,.dead),(12,.dead),(13,.dead),(14,.dead),(15,.dead),(39,.dead),(57,.dead),(69,.dead),(74,.dead),(89,.dead),(97,.dead),(115,.dead)],[(0,⟨[.nilS,.nilS,.nilS],0,false,0,0,true⟩),(1,⟨[.bool false,.int .i64 1,.int .i64 0],0,false,0,0,true⟩),(2,⟨[.ref 4 0 0 1,.ref 5 0 0 1,.nilS],0,false,0,0,false⟩),(3,⟨[.str [115],.int .i64 1,.int .i64 0,.sl zcr1_1 2 true],0,false,0,0,true⟩),(4,⟨[.str [120],.bool false,.int .i64 1,.int .i64 0],0,false,0,4,true⟩),(5,⟨[.str [115],.int .i64 1,.int .i64 0,.sl zcr1_1 2 true],0,false,0,4,true⟩)],.dead,[]⟩ (.normal) ⟨[(2,.ptr 0 0 0),(4,.ptr 1 0 0)],[(0,⟨[.nilS,.nilS,.nilS],0,false,0,0,true⟩),(1,⟨[.ref 2 0 0 1,.ref 3 0 0 1,.ref 4 0 0 a],0,false,0,0,false⟩),(2,⟨[.str [120],.bool false,.int .i64 1,.int .i64 0],0,false,0,4,true⟩),(3,⟨[.str [115],.int .i64 1,.int .i64 0,.sl zcr1_1 2 true],0,false,0,4,true⟩),(4,⟨(qF ps),0,false,0,12,true⟩)],.dead,[]⟩):ae prog ap 24 [.sl (iM l) l.length c] [] (.ret (.agg [.ref 1 0 0 1,.ref 2 0 0 1,.ref 3 0 0 a])) [⟨[.ref 1 0 0 1,.ref 2 0 0 1,.ref 3 0 0 a],0,false,0,0,false⟩,⟨[.str [120],.bool false,.int .i64 1,.int .i64 0],0,false,0,4,true⟩,⟨[.str [115],.int .i64 1,.int .i64 0,.sl zcr1_1 2 true],0,false,0,4,true⟩,⟨(qF ps),0,false,0,12,true⟩]:=by
 exact jB jY 4 (F:=⟨f24,[0,2,3,4,5,6,7,8,9,10,11,12,13,14,15,39,57,69,74,89,97,115],true⟩) rfl rfl (fun nt f=>(pN 24 [0] 0 0 (.n 16 .nil) (.l l1 (.v 36 (.eq b) (.c Rq (.c e (.c xf .nil))))) f:ah prog ap [] nt (ag f24) (dO .dead [.sl (iM l) l.length c] []) .ret ⟨[(2,.ptr 0 0 0)],[(0,⟨[.ref 1 0 0 1,.ref 2 0 0 1,.ref 3 0 0 a],0,false,0,0,false⟩),(1,⟨[.str [120],.bool false,.int .i64 1,.int .i64 0],0,false,0,4,true⟩),(2,⟨[.str [115],.int .i64 1,.int .i64 0,.sl zcr1_1 2 true],0,false,0,4,true⟩),(3,⟨(qF ps),0,false,0,12,true⟩)],.dead,[]⟩)) rfl (Nat.zero_le _) rfl
theorem ab8 (l:List (List Int)) (c:Bool) (mn:Nat) (a:Nat) (ps:List Pv) (d:ps.length=a) (b:AV.int .i64 (if ((8:Nat):Int)<(l.length:Int) then ((8:Nat):Int) else (l.length:Int))= .int .i64 (mn:Int)) (e:CO 61 [.int .i64 (l.length:Int),.int .i64 2] (.ret (.int .i64 1)))
  (l1:aK prog ap [] 140 (.block 0 (.loop (af 0 (ag f24)))) ⟨[(0,.sl (iM l) l.length c),(2,.ptr 0 0 0),(3,.ptr 1 0 0),(4,.ptr 2 0 0),(5,.ptr 3 0 0),(6,.int .i64 (mn:Int)),(7,.int .i64 0),(8,.dead),(9,.dead),(10,.dead),(11,.dead),(12,.dead),(13,.dead),(14,.dead),(15,.dead),(39,.dead),(57,.dead),(69,.dead),(74,.dead),(89,.dead),(97,.dead),(115,.dead)],[(0,⟨[.nilS,.nilS,.nilS],0,false,0,0,true⟩),(1,⟨[.bool false,.int .i64 1,.int .i64 0],0,false,0,0,true⟩),(2,⟨[.ref 4 0 0 1,.ref 5 0 0 1,.nilS],0,false,0,0,false⟩),(3,⟨[.str [115],.int .i64 1,.int .i64 0,.sl zcr1_0 2 true],0,false,0,0,true⟩),(4,⟨[.str [120],.bool false,.int .i64 1,.int .i64 0],0,false,0,4,true⟩),(5,⟨[.str [115],.int .i64 1,.int .i64 0,.sl zcr1_0 2 true],0,false,0,4,true⟩)],.dead,[]⟩ (.normal) ⟨[(2,.ptr 0 0 0),(4,.ptr 1 0 0)],[(0,⟨[.nilS,.nilS,.nilS],0,false,0,0,true⟩),(1,⟨[.ref 2 0 0 1,.ref 3 0 0 1,.ref 4 0 0 a],0,false,0,0,false⟩),(2,⟨[.str [120],.bool false,.int .i64 1,.int .i64 0],0,false,0,4,true⟩),(3,⟨[.str [115],.int .i64 1,.int .i64 0,.sl zcr1_0 2 true],0,false,0,4,true⟩),(4,⟨(qF ps),0,false,0,12,true⟩)],.dead,[]⟩):ae prog ap 24 [.sl (iM l) l.length c] [] (.ret (.agg [.ref 1 0 0 1,.ref 2 0 0 1,.ref 3 0 0 a])) [⟨[.ref 1 0 0 1,.ref 2 0 0 1,.ref 3 0 0 a],0,false,0,0,false⟩,⟨[.str [120],.bool false,.int .i64 1,.int .i64 0],0,false,0,4,true⟩,⟨[.str [115],.int .i64 1,.int .i64 0,.sl zcr1_0 2 true],0,false,0,4,true⟩,⟨(qF ps),0,false,0,12,true⟩]:=by
 exact jB jY 4 (F:=⟨f24,[0,2,3,4,5,6,7,8,9,10,11,12,13,14,15,39,57,69,74,89,97,115],true⟩) rfl rfl (fun nt f=>(pN 24 [0] 0 0 (.n 16 .nil) (.l l1 (.v 36 (.eq b) (.c Rt (.c e (.c xf .nil))))) f:ah prog ap [] nt (ag f24) (dO .dead [.sl (iM l) l.length c] []) .ret ⟨[(2,.ptr 0 0 0)],[(0,⟨[.ref 1 0 0 1,.ref 2 0 0 1,.ref 3 0 0 a],0,false,0,0,false⟩),(1,⟨[.str [120],.bool false,.int .i64 1,.int .i64 0],0,false,0,4,true⟩),(2,⟨[.str [115],.int .i64 1,.int .i64 0,.sl zcr1_0 2 true],0,false,0,4,true⟩),(3,⟨(qF ps),0,false,0,12,true⟩)],.dead,[]⟩)) rfl (Nat.zero_le _) rfl
theorem abW (l:List (List Int)) (b:Bool) (o:0<l.length):∃ L:Lw,L.ps.length=Min.min 8 l.length∧vz (Min.min 8 l.length) L.ps∧L.fx=ZL∧L.fn=1∧L.sn=1∧((L.sx).drop (0*4)).take (1*4)=L.sx∧CO 24 [.sl (iM l) l.length b] (.ret (.agg (L.c true true true)))∧ae prog ap 24 [.sl (iM l) l.length b] [] (.ret (.agg [.ref 1 0 0 1,.ref 2 0 0 1,.ref 3 0 0 L.ps.length])) [⟨[.ref 1 0 0 1,.ref 2 0 0 1,.ref 3 0 0 L.ps.length],0,false,0,0,false⟩,⟨ZL,0,false,0,4,true⟩,⟨L.sx,0,false,0,4,true⟩,⟨qF L.ps,0,false,0,12,true⟩]:=by
 obtain ⟨mn,f⟩:∃ mn,mn=Min.min 8 l.length:=⟨_,rfl⟩
 have c:AV.int .i64 (if ((8:Nat):Int)<(l.length:Int) then ((8:Nat):Int) else (l.length:Int))= .int .i64 ((mn:Nat):Int):=by
  congr 1
  split<;>omega
 obtain ⟨q,m,i⟩:=OD (l.length:Int) 2 (by omega) (by omega)
 rw [← f]
 have d:∀ SX,∃ ps2:List Pv,ps2.length=mn∧vz mn ps2∧∀ nt,140≤nt→aQ prog ap [] nt (af 0 (ag f24)) (fun _=> .exit 0) (Qa l b mn SX) (moX SX) (0,[]) ps2:=fun SX=>
  Hw l b mn SX (by omega) (by omega) (by omega) mn 0 [] (by omega) rfl (fun k p h=>by simp at h)
 match q,m with
 | 0,_=>
  obtain ⟨ps,e,j,n⟩:=d [.str [115],.int .i64 1,.int .i64 0,.sl zcr1_1 2 true]
  have g:=aQ.blk (id:=0) (e':= .normal) (fun nt (hn:140≤nt)=>n nt hn) (by simp) rfl (aG.refl _) (aG.refl _)
  cases ps with
  |nil=>simp at e;omega
  |cons p ps=>
   have h:=KZ l b mn (p::ps).length (p::ps) rfl c i (fun nt a=>(g nt a).tidy [0,2,3,4,6,7] (Hy l b mn) rfl)
   rw [List.take_of_length_le (by rw [CZ rfl];exact Nat.le_refl _)] at h
   exact ⟨⟨ZL,1,[.str [115],.int .i64 1,.int .i64 0,.sl zcr1_1 2 true],1,p::ps⟩,e,j,rfl,rfl,rfl,rfl,h.out (jE.ret rfl rfl (bC.agg (.cons (bC.eq rfl) (.cons (bC.eq rfl) (.cons (bC.slP (Gg (p::ps))) .nil))))),ab7 l b mn (p::ps).length (p::ps) rfl c i (fun nt a=>(g nt a).tidy [0,2,3,4,6,7] (Hy l b mn) rfl)⟩
 | 1,_=>
  obtain ⟨ps,e,j,n⟩:=d [.str [115],.int .i64 1,.int .i64 0,.sl zcr1_0 2 true]
  have g:=aQ.blk (id:=0) (e':= .normal) (fun nt (hn:140≤nt)=>n nt hn) (by simp) rfl (aG.refl _) (aG.refl _)
  cases ps with
  |nil=>simp at e;omega
  |cons p ps=>
   have h:=La l b mn (p::ps).length (p::ps) rfl c i (fun nt a=>(g nt a).tidy [0,2,3,4,6,7] (Hz l b mn) rfl)
   rw [List.take_of_length_le (by rw [CZ rfl];exact Nat.le_refl _)] at h
   exact ⟨⟨ZL,1,[.str [115],.int .i64 1,.int .i64 0,.sl zcr1_0 2 true],1,p::ps⟩,e,j,rfl,rfl,rfl,rfl,h.out (jE.ret rfl rfl (bC.agg (.cons (bC.eq rfl) (.cons (bC.eq rfl) (.cons (bC.slP (Gg (p::ps))) .nil))))),ab8 l b mn (p::ps).length (p::ps) rfl c i (fun nt a=>(g nt a).tidy [0,2,3,4,6,7] (Hz l b mn) rfl)⟩
def glS (L Y:Lw) (q0 q1 q2:Int) (ia:Nat) (s k:Nat):St:=⟨[(3,.ptr 0 0 0),(4,.bool false),(5,.bool true),(6,.ptr 1 0 0),(7,.int .i64 (L.ps.length:Int)),(8,.int .i64 (ia:Int)),(9,.ptr 2 0 0),(10,.int .i64 (s:Int)),(11,.int .i64 (k:Int))],[(0,⟨[.int .u8 q0,.int .u8 q1,.int .u8 q2],0,false,0,0,true⟩),(1,⟨[.sl L.fx L.fn true,.sl L.sx L.sn true,.sl (dm L.ps) L.ps.length true],0,false,0,0,true⟩),(2,⟨[.sl Y.fx Y.fn true,.sl Y.sx Y.sn true,.sl (dm Y.ps) Y.ps.length true],0,false,0,0,true⟩)],.dead,[]⟩
theorem abQ {nt:Nat} (q:170≤nt) (L Y:Lw) (f g h:Int) (b:Nat) (s k:Nat) (d c a j:List Cl) (e:k<L.ps.length) (r:k<2^62) (i:((k:Int)==(b:Int))=false) (h0:CO 16 [.agg [.sl Y.fx Y.fn true,.sl Y.sx Y.sn true,.sl (dm Y.ps) Y.ps.length true],.int .i64 2,.agg [.int .i64 (s:Int),.int .i64 (k:Int)]] (.ret (.sl (cL c) c.length false))) (l:CO 16 [.agg [.sl L.fx L.fn true,.sl L.sx L.sn true,.sl (dm L.ps) L.ps.length true],.int .i64 2,.agg [.int .i64 (s:Int),.int .i64 (k:Int)]] (.ret (.sl (cL d) d.length false))) (p:CO 15 [.sl (cL c) c.length false,.sl (cL d) d.length false] (.ret (.bool true))) (t:ae prog ap 22 [.agg [.sl L.fx L.fn true,.sl L.sx L.sn true,.sl (dm L.ps) L.ps.length true],.int .i64 2,.ref 0 0 0 1] [⟨[.int .i64 (s:Int),.int .i64 (k:Int)],0,false,0,2,true⟩] (.ret (.sl (cL a) a.length false)) [⟨[.int .i64 (s:Int),.int .i64 (k:Int)],0,false,0,2,true⟩]) (m:ae prog ap 22 [.agg [.sl Y.fx Y.fn true,.sl Y.sx Y.sn true,.sl (dm Y.ps) Y.ps.length true],.int .i64 2,.ref 0 0 0 1] [⟨[.int .i64 (s:Int),.int .i64 (k:Int)],0,false,0,2,true⟩] (.ret (.sl (cL j) j.length false)) [⟨[.int .i64 (s:Int),.int .i64 (k:Int)],0,false,0,2,true⟩]) (n:CO 29 [.sl (cL a) a.length false,.agg [.int .i64 0,.int .i64 (b:Int)]] (.ret (.bool true))):ah prog ap [] nt (af 2 (ag f12)) (glS L Y f g h b s k) .normal (glS L Y f g h b s (k+1)):=by
 have o:(decide ((k:Int)<(L.ps.length:Int)))=true:=kl e
 unfold glS
 exact pN 12 [] 10 227 (.k 16 (aT i) (.k 6 (oz i) (.k 6 (aN o) .nil))) (.v 72 (.eq (wpS r)) (.c n (.c m (.c t (.c p (.c l (.c h0 .nil))))))) q
theorem abP {nt:Nat} (z:170≤nt) (L Y:Lw) (o f g:Int) (d:Nat) (s k n q p:Nat) (a c t:List Cl) (i:k<L.ps.length) (A:k<2^62) (r:((k:Int)==(d:Int))=true) (l:(decide (((2:Nat):Int)<(a.length:Int)))=false) (h:AV.int .i64 (Int.tmod (IntKind.wrap .i64 f) (L.ps.length:Int))= .int .i64 (q:Int)) (e:AV.int .i64 (Int.tmod (IntKind.wrap .i64 g) (L.ps.length:Int))= .int .i64 (p:Int)) (j:AV.int .i64 (IntKind.wrap .i64 (((1:Nat):Int) - (s:Int)))= .int .i64 (n:Int)) (h0:CO 16 [.agg [.sl Y.fx Y.fn true,.sl Y.sx Y.sn true,.sl (dm Y.ps) Y.ps.length true],.int .i64 2,.agg [.int .i64 (s:Int),.int .i64 (k:Int)]] (.ret (.sl (cL a) a.length false))) (u:CO 29 [.sl (cL a) a.length false,.agg [.int .i64 (s:Int),.int .i64 (q:Int)]] (.ret (.bool true))) (y:CO 29 [.sl (cL a) a.length false,.agg [.int .i64 (n:Int),.int .i64 (p:Int)]] (.ret (.bool true))) (B:ae prog ap 22 [.agg [.sl L.fx L.fn true,.sl L.sx L.sn true,.sl (dm L.ps) L.ps.length true],.int .i64 2,.ref 0 0 0 1] [⟨[.int .i64 (s:Int),.int .i64 (k:Int)],0,false,0,2,true⟩] (.ret (.sl (cL c) c.length false)) [⟨[.int .i64 (s:Int),.int .i64 (k:Int)],0,false,0,2,true⟩]) (v:ae prog ap 22 [.agg [.sl Y.fx Y.fn true,.sl Y.sx Y.sn true,.sl (dm Y.ps) Y.ps.length true],.int .i64 2,.ref 0 0 0 1] [⟨[.int .i64 (s:Int),.int .i64 (k:Int)],0,false,0,2,true⟩] (.ret (.sl (cL t) t.length false)) [⟨[.int .i64 (s:Int),.int .i64 (k:Int)],0,false,0,2,true⟩]) (w:CO 29 [.sl (cL c) c.length false,.agg [.int .i64 0,.int .i64 (d:Int)]] (.ret (.bool true))):ah prog ap [] nt (af 2 (ag f12)) (glS L Y o f g d s k) .normal (glS L Y o f g d s (k+1)):=by
 have x:(decide ((k:Int)<(L.ps.length:Int)))=true:=kl i
 have m:(!((L.ps.length:Int)==((0:Nat):Int)))=true:=by rw [Bool.not_eq_true'];exact beq_eq_false_iff_ne.2 (by omega)
 have b:(!((L.ps.length:Int)==((0:Nat):Int)))=true:=m
 unfold glS
 exact pN 12 [] 12 905 (.k 15 (aT l) (.k 1 b (.k 4 b (.k 3 (aN r) (.k 1 (gY r) (.k 6 (aN x) .nil)))))) (.v 72 (.eq (wpS A)) (.c w (.c v (.c B (.c y (.v 112 (.eq e) (.v 107 (.eq j) (.c u (.v 100 (.eq h) (.c h0 .nil)))))))))) z
theorem abO {nt:Nat} (r:170≤nt) (L Y:Lw) (f g h:Int) (b:Nat) (s k:Nat) (d c a j:List Cl) (e:k<L.ps.length) (t:k<2^62) (i:((k:Int)==(b:Int))=false) (h0:CO 16 [.agg [.sl Y.fx Y.fn true,.sl Y.sx Y.sn true,.sl (dm Y.ps) Y.ps.length true],.int .i64 2,.agg [.int .i64 (s:Int),.int .i64 (k:Int)]] (.ret (.sl (cL c) c.length false))) (l:CO 16 [.agg [.sl L.fx L.fn true,.sl L.sx L.sn true,.sl (dm L.ps) L.ps.length true],.int .i64 2,.agg [.int .i64 (s:Int),.int .i64 (k:Int)]] (.ret (.sl (cL d) d.length false))) (q:CO 15 [.sl (cL c) c.length false,.sl (cL d) d.length false] (.ret (.bool true))) (u:ae prog ap 22 [.agg [.sl L.fx L.fn true,.sl L.sx L.sn true,.sl (dm L.ps) L.ps.length true],.int .i64 2,.ref 0 0 0 1] [⟨[.int .i64 (s:Int),.int .i64 (k:Int)],0,false,0,2,true⟩] (.ret (.sl (cL a) a.length false)) [⟨[.int .i64 (s:Int),.int .i64 (k:Int)],0,false,0,2,true⟩]) (m:ae prog ap 22 [.agg [.sl Y.fx Y.fn true,.sl Y.sx Y.sn true,.sl (dm Y.ps) Y.ps.length true],.int .i64 2,.ref 0 0 0 1] [⟨[.int .i64 (s:Int),.int .i64 (k:Int)],0,false,0,2,true⟩] (.ret (.sl (cL j) j.length false)) [⟨[.int .i64 (s:Int),.int .i64 (k:Int)],0,false,0,2,true⟩]) (n:CO 29 [.sl (cL a) a.length false,.agg [.int .i64 0,.int .i64 (b:Int)]] (.ret (.bool false))) (o:CO 29 [.sl (cL a) a.length false,.agg [.int .i64 1,.int .i64 (b:Int)]] (.ret (.bool true))):ah prog ap [] nt (af 2 (ag f12)) (glS L Y f g h b s k) .normal (glS L Y f g h b s (k+1)):=by
 have p:(decide ((k:Int)<(L.ps.length:Int)))=true:=kl e
 unfold glS
 exact pN 12 [] 10 195 (.k 16 (aT i) (.k 6 (oz i) (.k 6 (aN p) .nil))) (.v 72 (.eq (wpS t)) (.c o (.c n (.c m (.c u (.c q (.c l (.c h0 .nil)))))))) r
theorem abN {nt:Nat} (A:170≤nt) (L Y:Lw) (o f g:Int) (d:Nat) (s k n q p:Nat) (a b t:List Cl) (i:k<L.ps.length) (B:k<2^62) (r:((k:Int)==(d:Int))=true) (l:(decide (((2:Nat):Int)<(a.length:Int)))=false) (h:AV.int .i64 (Int.tmod (IntKind.wrap .i64 f) (L.ps.length:Int))= .int .i64 (q:Int)) (e:AV.int .i64 (Int.tmod (IntKind.wrap .i64 g) (L.ps.length:Int))= .int .i64 (p:Int)) (j:AV.int .i64 (IntKind.wrap .i64 (((1:Nat):Int) - (s:Int)))= .int .i64 (n:Int)) (h0:CO 16 [.agg [.sl Y.fx Y.fn true,.sl Y.sx Y.sn true,.sl (dm Y.ps) Y.ps.length true],.int .i64 2,.agg [.int .i64 (s:Int),.int .i64 (k:Int)]] (.ret (.sl (cL a) a.length false))) (u:CO 29 [.sl (cL a) a.length false,.agg [.int .i64 (s:Int),.int .i64 (q:Int)]] (.ret (.bool true))) (z:CO 29 [.sl (cL a) a.length false,.agg [.int .i64 (n:Int),.int .i64 (p:Int)]] (.ret (.bool true))) (C:ae prog ap 22 [.agg [.sl L.fx L.fn true,.sl L.sx L.sn true,.sl (dm L.ps) L.ps.length true],.int .i64 2,.ref 0 0 0 1] [⟨[.int .i64 (s:Int),.int .i64 (k:Int)],0,false,0,2,true⟩] (.ret (.sl (cL b) b.length false)) [⟨[.int .i64 (s:Int),.int .i64 (k:Int)],0,false,0,2,true⟩]) (v:ae prog ap 22 [.agg [.sl Y.fx Y.fn true,.sl Y.sx Y.sn true,.sl (dm Y.ps) Y.ps.length true],.int .i64 2,.ref 0 0 0 1] [⟨[.int .i64 (s:Int),.int .i64 (k:Int)],0,false,0,2,true⟩] (.ret (.sl (cL t) t.length false)) [⟨[.int .i64 (s:Int),.int .i64 (k:Int)],0,false,0,2,true⟩]) (w:CO 29 [.sl (cL b) b.length false,.agg [.int .i64 0,.int .i64 (d:Int)]] (.ret (.bool false))) (x:CO 29 [.sl (cL b) b.length false,.agg [.int .i64 1,.int .i64 (d:Int)]] (.ret (.bool true))):ah prog ap [] nt (af 2 (ag f12)) (glS L Y o f g d s k) .normal (glS L Y o f g d s (k+1)):=by
 have y:(decide ((k:Int)<(L.ps.length:Int)))=true:=kl i
 have m:(!((L.ps.length:Int)==((0:Nat):Int)))=true:=by rw [Bool.not_eq_true'];exact beq_eq_false_iff_ne.2 (by omega)
 have c:(!((L.ps.length:Int)==((0:Nat):Int)))=true:=m
 unfold glS
 exact pN 12 [] 12 777 (.k 15 (aT l) (.k 1 c (.k 4 c (.k 3 (aN r) (.k 1 (gY r) (.k 6 (aN y) .nil)))))) (.v 72 (.eq (wpS B)) (.c x (.c w (.c v (.c C (.c z (.v 112 (.eq e) (.v 107 (.eq j) (.c u (.v 100 (.eq h) (.c h0 .nil))))))))))) A
theorem abM {nt:Nat} (r:170≤nt) (L Y:Lw) (g h i:Int) (b:Nat) (s k:Nat) (d c a e:List Cl) (f:k<L.ps.length) (t:k<2^62) (j:((k:Int)==(b:Int))=false) (h0:CO 16 [.agg [.sl Y.fx Y.fn true,.sl Y.sx Y.sn true,.sl (dm Y.ps) Y.ps.length true],.int .i64 2,.agg [.int .i64 (s:Int),.int .i64 (k:Int)]] (.ret (.sl (cL c) c.length false))) (l:CO 16 [.agg [.sl L.fx L.fn true,.sl L.sx L.sn true,.sl (dm L.ps) L.ps.length true],.int .i64 2,.agg [.int .i64 (s:Int),.int .i64 (k:Int)]] (.ret (.sl (cL d) d.length false))) (q:CO 15 [.sl (cL c) c.length false,.sl (cL d) d.length false] (.ret (.bool true))) (v:ae prog ap 22 [.agg [.sl L.fx L.fn true,.sl L.sx L.sn true,.sl (dm L.ps) L.ps.length true],.int .i64 2,.ref 0 0 0 1] [⟨[.int .i64 (s:Int),.int .i64 (k:Int)],0,false,0,2,true⟩] (.ret (.sl (cL a) a.length false)) [⟨[.int .i64 (s:Int),.int .i64 (k:Int)],0,false,0,2,true⟩]) (m:ae prog ap 22 [.agg [.sl Y.fx Y.fn true,.sl Y.sx Y.sn true,.sl (dm Y.ps) Y.ps.length true],.int .i64 2,.ref 0 0 0 1] [⟨[.int .i64 (s:Int),.int .i64 (k:Int)],0,false,0,2,true⟩] (.ret (.sl (cL e) e.length false)) [⟨[.int .i64 (s:Int),.int .i64 (k:Int)],0,false,0,2,true⟩]) (n:CO 29 [.sl (cL a) a.length false,.agg [.int .i64 0,.int .i64 (b:Int)]] (.ret (.bool false))) (o:CO 29 [.sl (cL a) a.length false,.agg [.int .i64 1,.int .i64 (b:Int)]] (.ret (.bool false))) (u:CO 29 [.sl (cL e) e.length false,.agg [.int .i64 0,.int .i64 (b:Int)]] (.ret (.bool true))):ah prog ap [] nt (af 2 (ag f12)) (glS L Y g h i b s k) .normal (glS L Y g h i b s (k+1)):=by
 have p:(decide ((k:Int)<(L.ps.length:Int)))=true:=kl f
 unfold glS
 exact pN 12 [] 10 131 (.k 16 (aT j) (.k 6 (oz j) (.k 6 (aN p) .nil))) (.v 72 (.eq (wpS t)) (.c u (.c o (.c n (.c m (.c v (.c q (.c l (.c h0 .nil))))))))) r
theorem abL {nt:Nat} (A:170≤nt) (L Y:Lw) (p g h:Int) (c:Nat) (s k o r q:Nat) (a b e:List Cl) (j:k<L.ps.length) (B:k<2^62) (t:((k:Int)==(c:Int))=true) (m:(decide (((2:Nat):Int)<(a.length:Int)))=false) (i:AV.int .i64 (Int.tmod (IntKind.wrap .i64 g) (L.ps.length:Int))= .int .i64 (r:Int)) (f:AV.int .i64 (Int.tmod (IntKind.wrap .i64 h) (L.ps.length:Int))= .int .i64 (q:Int)) (l:AV.int .i64 (IntKind.wrap .i64 (((1:Nat):Int) - (s:Int)))= .int .i64 (o:Int)) (h0:CO 16 [.agg [.sl Y.fx Y.fn true,.sl Y.sx Y.sn true,.sl (dm Y.ps) Y.ps.length true],.int .i64 2,.agg [.int .i64 (s:Int),.int .i64 (k:Int)]] (.ret (.sl (cL a) a.length false))) (u:CO 29 [.sl (cL a) a.length false,.agg [.int .i64 (s:Int),.int .i64 (r:Int)]] (.ret (.bool true))) (z:CO 29 [.sl (cL a) a.length false,.agg [.int .i64 (o:Int),.int .i64 (q:Int)]] (.ret (.bool true))) (D:ae prog ap 22 [.agg [.sl L.fx L.fn true,.sl L.sx L.sn true,.sl (dm L.ps) L.ps.length true],.int .i64 2,.ref 0 0 0 1] [⟨[.int .i64 (s:Int),.int .i64 (k:Int)],0,false,0,2,true⟩] (.ret (.sl (cL b) b.length false)) [⟨[.int .i64 (s:Int),.int .i64 (k:Int)],0,false,0,2,true⟩]) (v:ae prog ap 22 [.agg [.sl Y.fx Y.fn true,.sl Y.sx Y.sn true,.sl (dm Y.ps) Y.ps.length true],.int .i64 2,.ref 0 0 0 1] [⟨[.int .i64 (s:Int),.int .i64 (k:Int)],0,false,0,2,true⟩] (.ret (.sl (cL e) e.length false)) [⟨[.int .i64 (s:Int),.int .i64 (k:Int)],0,false,0,2,true⟩]) (w:CO 29 [.sl (cL b) b.length false,.agg [.int .i64 0,.int .i64 (c:Int)]] (.ret (.bool false))) (x:CO 29 [.sl (cL b) b.length false,.agg [.int .i64 1,.int .i64 (c:Int)]] (.ret (.bool false))) (C:CO 29 [.sl (cL e) e.length false,.agg [.int .i64 0,.int .i64 (c:Int)]] (.ret (.bool true))):ah prog ap [] nt (af 2 (ag f12)) (glS L Y p g h c s k) .normal (glS L Y p g h c s (k+1)):=by
 have y:(decide ((k:Int)<(L.ps.length:Int)))=true:=kl j
 have n:(!((L.ps.length:Int)==((0:Nat):Int)))=true:=by rw [Bool.not_eq_true'];exact beq_eq_false_iff_ne.2 (by omega)
 have d:(!((L.ps.length:Int)==((0:Nat):Int)))=true:=n
 unfold glS
 exact pN 12 [] 12 521 (.k 15 (aT m) (.k 1 d (.k 4 d (.k 3 (aN t) (.k 1 (gY t) (.k 6 (aN y) .nil)))))) (.v 72 (.eq (wpS B)) (.c C (.c x (.c w (.c v (.c D (.c z (.v 112 (.eq f) (.v 107 (.eq l) (.c u (.v 100 (.eq i) (.c h0 .nil)))))))))))) A
theorem abK {nt:Nat} (t:170≤nt) (L Y:Lw) (g h i:Int) (a:Nat) (s k:Nat) (e d b c:List Cl) (f:k<L.ps.length) (u:k<2^62) (j:((k:Int)==(a:Int))=false) (h0:CO 16 [.agg [.sl Y.fx Y.fn true,.sl Y.sx Y.sn true,.sl (dm Y.ps) Y.ps.length true],.int .i64 2,.agg [.int .i64 (s:Int),.int .i64 (k:Int)]] (.ret (.sl (cL d) d.length false))) (l:CO 16 [.agg [.sl L.fx L.fn true,.sl L.sx L.sn true,.sl (dm L.ps) L.ps.length true],.int .i64 2,.agg [.int .i64 (s:Int),.int .i64 (k:Int)]] (.ret (.sl (cL e) e.length false))) (q:CO 15 [.sl (cL d) d.length false,.sl (cL e) e.length false] (.ret (.bool true))) (w:ae prog ap 22 [.agg [.sl L.fx L.fn true,.sl L.sx L.sn true,.sl (dm L.ps) L.ps.length true],.int .i64 2,.ref 0 0 0 1] [⟨[.int .i64 (s:Int),.int .i64 (k:Int)],0,false,0,2,true⟩] (.ret (.sl (cL b) b.length false)) [⟨[.int .i64 (s:Int),.int .i64 (k:Int)],0,false,0,2,true⟩]) (m:ae prog ap 22 [.agg [.sl Y.fx Y.fn true,.sl Y.sx Y.sn true,.sl (dm Y.ps) Y.ps.length true],.int .i64 2,.ref 0 0 0 1] [⟨[.int .i64 (s:Int),.int .i64 (k:Int)],0,false,0,2,true⟩] (.ret (.sl (cL c) c.length false)) [⟨[.int .i64 (s:Int),.int .i64 (k:Int)],0,false,0,2,true⟩]) (n:CO 29 [.sl (cL b) b.length false,.agg [.int .i64 0,.int .i64 (a:Int)]] (.ret (.bool false))) (o:CO 29 [.sl (cL b) b.length false,.agg [.int .i64 1,.int .i64 (a:Int)]] (.ret (.bool false))) (v:CO 29 [.sl (cL c) c.length false,.agg [.int .i64 0,.int .i64 (a:Int)]] (.ret (.bool false))) (r:CO 29 [.sl (cL c) c.length false,.agg [.int .i64 1,.int .i64 (a:Int)]] (.ret (.bool true))):ah prog ap [] nt (af 2 (ag f12)) (glS L Y g h i a s k) .normal (glS L Y g h i a s (k+1)):=by
 have p:(decide ((k:Int)<(L.ps.length:Int)))=true:=kl f
 unfold glS
 exact pN 12 [] 10 3 (.k 16 (aT j) (.k 6 (oz j) (.k 6 (aN p) .nil))) (.v 72 (.eq (wpS u)) (.c r (.c v (.c o (.c n (.c m (.c w (.c q (.c l (.c h0 .nil)))))))))) t
theorem abJ {nt:Nat} (B:170≤nt) (L Y:Lw) (p g h:Int) (a:Nat) (s k o r q:Nat) (b c d:List Cl) (j:k<L.ps.length) (C:k<2^62) (t:((k:Int)==(a:Int))=true) (m:(decide (((2:Nat):Int)<(b.length:Int)))=false) (i:AV.int .i64 (Int.tmod (IntKind.wrap .i64 g) (L.ps.length:Int))= .int .i64 (r:Int)) (f:AV.int .i64 (Int.tmod (IntKind.wrap .i64 h) (L.ps.length:Int))= .int .i64 (q:Int)) (l:AV.int .i64 (IntKind.wrap .i64 (((1:Nat):Int) - (s:Int)))= .int .i64 (o:Int)) (h0:CO 16 [.agg [.sl Y.fx Y.fn true,.sl Y.sx Y.sn true,.sl (dm Y.ps) Y.ps.length true],.int .i64 2,.agg [.int .i64 (s:Int),.int .i64 (k:Int)]] (.ret (.sl (cL b) b.length false))) (u:CO 29 [.sl (cL b) b.length false,.agg [.int .i64 (s:Int),.int .i64 (r:Int)]] (.ret (.bool true))) (z:CO 29 [.sl (cL b) b.length false,.agg [.int .i64 (o:Int),.int .i64 (q:Int)]] (.ret (.bool true))) (E:ae prog ap 22 [.agg [.sl L.fx L.fn true,.sl L.sx L.sn true,.sl (dm L.ps) L.ps.length true],.int .i64 2,.ref 0 0 0 1] [⟨[.int .i64 (s:Int),.int .i64 (k:Int)],0,false,0,2,true⟩] (.ret (.sl (cL c) c.length false)) [⟨[.int .i64 (s:Int),.int .i64 (k:Int)],0,false,0,2,true⟩]) (v:ae prog ap 22 [.agg [.sl Y.fx Y.fn true,.sl Y.sx Y.sn true,.sl (dm Y.ps) Y.ps.length true],.int .i64 2,.ref 0 0 0 1] [⟨[.int .i64 (s:Int),.int .i64 (k:Int)],0,false,0,2,true⟩] (.ret (.sl (cL d) d.length false)) [⟨[.int .i64 (s:Int),.int .i64 (k:Int)],0,false,0,2,true⟩]) (w:CO 29 [.sl (cL c) c.length false,.agg [.int .i64 0,.int .i64 (a:Int)]] (.ret (.bool false))) (x:CO 29 [.sl (cL c) c.length false,.agg [.int .i64 1,.int .i64 (a:Int)]] (.ret (.bool false))) (D:CO 29 [.sl (cL d) d.length false,.agg [.int .i64 0,.int .i64 (a:Int)]] (.ret (.bool false))) (A:CO 29 [.sl (cL d) d.length false,.agg [.int .i64 1,.int .i64 (a:Int)]] (.ret (.bool true))):ah prog ap [] nt (af 2 (ag f12)) (glS L Y p g h a s k) .normal (glS L Y p g h a s (k+1)):=by
 have y:(decide ((k:Int)<(L.ps.length:Int)))=true:=kl j
 have n:(!((L.ps.length:Int)==((0:Nat):Int)))=true:=by rw [Bool.not_eq_true'];exact beq_eq_false_iff_ne.2 (by omega)
 have e:(!((L.ps.length:Int)==((0:Nat):Int)))=true:=n
 unfold glS
 exact pN 12 [] 12 9 (.k 15 (aT m) (.k 1 e (.k 4 e (.k 3 (aN t) (.k 1 (gY t) (.k 6 (aN y) .nil)))))) (.v 72 (.eq (wpS C)) (.c A (.c D (.c x (.c w (.c v (.c E (.c z (.v 112 (.eq f) (.v 107 (.eq l) (.c u (.v 100 (.eq i) (.c h0 .nil))))))))))))) B
theorem abI {nt:Nat} (u:170≤nt) (L Y:Lw) (g h i:Int) (c:Nat) (s k:Nat) (e d a b:List Cl) (f:k<L.ps.length) (v:k<2^62) (j:((k:Int)==(c:Int))=false) (h0:CO 16 [.agg [.sl Y.fx Y.fn true,.sl Y.sx Y.sn true,.sl (dm Y.ps) Y.ps.length true],.int .i64 2,.agg [.int .i64 (s:Int),.int .i64 (k:Int)]] (.ret (.sl (cL d) d.length false))) (l:CO 16 [.agg [.sl L.fx L.fn true,.sl L.sx L.sn true,.sl (dm L.ps) L.ps.length true],.int .i64 2,.agg [.int .i64 (s:Int),.int .i64 (k:Int)]] (.ret (.sl (cL e) e.length false))) (r:CO 15 [.sl (cL d) d.length false,.sl (cL e) e.length false] (.ret (.bool true))) (x:ae prog ap 22 [.agg [.sl L.fx L.fn true,.sl L.sx L.sn true,.sl (dm L.ps) L.ps.length true],.int .i64 2,.ref 0 0 0 1] [⟨[.int .i64 (s:Int),.int .i64 (k:Int)],0,false,0,2,true⟩] (.ret (.sl (cL a) a.length false)) [⟨[.int .i64 (s:Int),.int .i64 (k:Int)],0,false,0,2,true⟩]) (m:ae prog ap 22 [.agg [.sl Y.fx Y.fn true,.sl Y.sx Y.sn true,.sl (dm Y.ps) Y.ps.length true],.int .i64 2,.ref 0 0 0 1] [⟨[.int .i64 (s:Int),.int .i64 (k:Int)],0,false,0,2,true⟩] (.ret (.sl (cL b) b.length false)) [⟨[.int .i64 (s:Int),.int .i64 (k:Int)],0,false,0,2,true⟩]) (n:CO 29 [.sl (cL a) a.length false,.agg [.int .i64 0,.int .i64 (c:Int)]] (.ret (.bool false))) (p:CO 29 [.sl (cL a) a.length false,.agg [.int .i64 1,.int .i64 (c:Int)]] (.ret (.bool false))) (w:CO 29 [.sl (cL b) b.length false,.agg [.int .i64 0,.int .i64 (c:Int)]] (.ret (.bool false))) (t:CO 29 [.sl (cL b) b.length false,.agg [.int .i64 1,.int .i64 (c:Int)]] (.ret (.bool false))) (o:CO 15 [.sl (cL a) a.length false,.sl (cL b) b.length false] (.ret (.bool true))):ah prog ap [] nt (af 2 (ag f12)) (glS L Y g h i c s k) .normal (glS L Y g h i c s (k+1)):=by
 have q:(decide ((k:Int)<(L.ps.length:Int)))=true:=kl f
 unfold glS
 exact pN 12 [] 10 259 (.k 16 (aT j) (.k 6 (oz j) (.k 6 (aN q) .nil))) (.v 72 (.eq (wpS v)) (.c o (.c t (.c w (.c p (.c n (.c m (.c x (.c r (.c l (.c h0 .nil))))))))))) u
theorem abH {nt:Nat} (C:170≤nt) (L Y:Lw) (p g h:Int) (c:Nat) (s k o r q:Nat) (d a b:List Cl) (j:k<L.ps.length) (D:k<2^62) (t:((k:Int)==(c:Int))=true) (m:(decide (((2:Nat):Int)<(d.length:Int)))=false) (i:AV.int .i64 (Int.tmod (IntKind.wrap .i64 g) (L.ps.length:Int))= .int .i64 (r:Int)) (f:AV.int .i64 (Int.tmod (IntKind.wrap .i64 h) (L.ps.length:Int))= .int .i64 (q:Int)) (l:AV.int .i64 (IntKind.wrap .i64 (((1:Nat):Int) - (s:Int)))= .int .i64 (o:Int)) (h0:CO 16 [.agg [.sl Y.fx Y.fn true,.sl Y.sx Y.sn true,.sl (dm Y.ps) Y.ps.length true],.int .i64 2,.agg [.int .i64 (s:Int),.int .i64 (k:Int)]] (.ret (.sl (cL d) d.length false))) (u:CO 29 [.sl (cL d) d.length false,.agg [.int .i64 (s:Int),.int .i64 (r:Int)]] (.ret (.bool true))) (A:CO 29 [.sl (cL d) d.length false,.agg [.int .i64 (o:Int),.int .i64 (q:Int)]] (.ret (.bool true))) (F:ae prog ap 22 [.agg [.sl L.fx L.fn true,.sl L.sx L.sn true,.sl (dm L.ps) L.ps.length true],.int .i64 2,.ref 0 0 0 1] [⟨[.int .i64 (s:Int),.int .i64 (k:Int)],0,false,0,2,true⟩] (.ret (.sl (cL a) a.length false)) [⟨[.int .i64 (s:Int),.int .i64 (k:Int)],0,false,0,2,true⟩]) (v:ae prog ap 22 [.agg [.sl Y.fx Y.fn true,.sl Y.sx Y.sn true,.sl (dm Y.ps) Y.ps.length true],.int .i64 2,.ref 0 0 0 1] [⟨[.int .i64 (s:Int),.int .i64 (k:Int)],0,false,0,2,true⟩] (.ret (.sl (cL b) b.length false)) [⟨[.int .i64 (s:Int),.int .i64 (k:Int)],0,false,0,2,true⟩]) (w:CO 29 [.sl (cL a) a.length false,.agg [.int .i64 0,.int .i64 (c:Int)]] (.ret (.bool false))) (y:CO 29 [.sl (cL a) a.length false,.agg [.int .i64 1,.int .i64 (c:Int)]] (.ret (.bool false))) (E:CO 29 [.sl (cL b) b.length false,.agg [.int .i64 0,.int .i64 (c:Int)]] (.ret (.bool false))) (B:CO 29 [.sl (cL b) b.length false,.agg [.int .i64 1,.int .i64 (c:Int)]] (.ret (.bool false))) (x:CO 15 [.sl (cL a) a.length false,.sl (cL b) b.length false] (.ret (.bool true))):ah prog ap [] nt (af 2 (ag f12)) (glS L Y p g h c s k) .normal (glS L Y p g h c s (k+1)):=by
 have z:(decide ((k:Int)<(L.ps.length:Int)))=true:=kl j
 have n:(!((L.ps.length:Int)==((0:Nat):Int)))=true:=by rw [Bool.not_eq_true'];exact beq_eq_false_iff_ne.2 (by omega)
 have e:(!((L.ps.length:Int)==((0:Nat):Int)))=true:=n
 unfold glS
 exact pN 12 [] 12 1033 (.k 15 (aT m) (.k 1 e (.k 4 e (.k 3 (aN t) (.k 1 (gY t) (.k 6 (aN z) .nil)))))) (.v 72 (.eq (wpS D)) (.c x (.c B (.c E (.c y (.c w (.c v (.c F (.c A (.v 112 (.eq f) (.v 107 (.eq l) (.c u (.v 100 (.eq i) (.c h0 .nil)))))))))))))) C
def glO (L Y:Lw) (q0 q1 q2:Int) (ia:Nat) (s:Nat):St:=⟨[(3,.ptr 0 0 0),(4,.bool false),(5,.bool true),(6,.ptr 1 0 0),(7,.int .i64 (L.ps.length:Int)),(8,.int .i64 (ia:Int)),(9,.ptr 2 0 0),(10,.int .i64 (s:Int))],[(0,⟨[.int .u8 q0,.int .u8 q1,.int .u8 q2],0,false,0,0,true⟩),(1,⟨[.sl L.fx L.fn true,.sl L.sx L.sn true,.sl (dm L.ps) L.ps.length true],0,false,0,0,true⟩),(2,⟨[.sl Y.fx Y.fn true,.sl Y.sx Y.sn true,.sl (dm Y.ps) Y.ps.length true],0,false,0,0,true⟩)],.dead,[]⟩
theorem ack {nt:Nat} (f:170≤nt) (L Y:Lw) (c d b:Int) (a:Nat) (s:Nat):ah prog ap [] nt (af 2 (ag f12)) (glS L Y c d b a s L.ps.length) (.exit 2) (glO L Y c d b a s):=by
 have e:(decide ((L.ps.length:Int)<(L.ps.length:Int)))=false:=kn (Nat.le_refl _)
 unfold glS glO
 exact pN 12 [] 1 0 (.c (aT e) .nil) .nil f
theorem aci {nt:Nat} (h:170≤nt) (L Y:Lw) (c d b:Int) (a:Nat) (s:Nat) (hs:s<2) (f:aK prog ap [] 170 (.block 2 (.loop (af 2 (ag f12)))) ⟨[(0,.dead),(1,.dead),(3,.ptr 0 0 0),(4,.bool false),(5,.bool true),(6,.ptr 1 0 0),(7,.int .i64 (L.ps.length:Int)),(8,.int .i64 (a:Int)),(9,.ptr 2 0 0),(10,.int .i64 (s:Int)),(11,.int .i64 0),(12,.dead),(13,.dead),(14,.dead),(15,.dead),(16,.dead),(23,.dead),(65,.bool (decide ((s:Int)<((2:Nat):Int)))),(70,.dead),(89,.dead),(122,.dead),(160,.dead)],[(0,⟨[.int .u8 c,.int .u8 d,.int .u8 b],0,false,0,0,true⟩),(1,⟨[.sl L.fx L.fn true,.sl L.sx L.sn true,.sl (dm L.ps) L.ps.length true],0,false,0,0,true⟩),(2,⟨[.sl Y.fx Y.fn true,.sl Y.sx Y.sn true,.sl (dm Y.ps) Y.ps.length true],0,false,0,0,true⟩)],.dead,[]⟩ (.normal) ⟨[(3,.ptr 0 0 0),(4,.bool false),(5,.bool true),(6,.ptr 1 0 0),(7,.int .i64 (L.ps.length:Int)),(8,.int .i64 (a:Int)),(9,.ptr 2 0 0),(10,.int .i64 (s:Int))],[(0,⟨[.int .u8 c,.int .u8 d,.int .u8 b],0,false,0,0,true⟩),(1,⟨[.sl L.fx L.fn true,.sl L.sx L.sn true,.sl (dm L.ps) L.ps.length true],0,false,0,0,true⟩),(2,⟨[.sl Y.fx Y.fn true,.sl Y.sx Y.sn true,.sl (dm Y.ps) Y.ps.length true],0,false,0,0,true⟩)],.dead,[]⟩):ah prog ap [] nt (af 0 (ag f12)) (glO L Y c d b a s) .normal (glO L Y c d b a (s+1)):=by
 have e:s<2^62:=by omega
 have g:(decide ((s:Int)<((2:Nat):Int)))=true:=kl hs
 unfold glO
 exact pN 12 [2] 1 1 (.c (aN g) .nil) (.v 67 (.eq (wpS e)) (.l f .nil)) h
theorem ach {nt:Nat} (e:170≤nt) (L Y:Lw) (d f b:Int) (a:Nat):ah prog ap [] nt (af 0 (ag f12)) (glO L Y d f b a 2) (.exit 0) ⟨[(5,.bool true),(6,.ptr 0 0 0),(7,.int .i64 (L.ps.length:Int))],[(0,⟨[.sl L.fx L.fn true,.sl L.sx L.sn true,.sl (dm L.ps) L.ps.length true],0,false,0,0,true⟩)],.dead,[]⟩:=by
 have c:(decide (((2:Nat):Int)<((2:Nat):Int)))=false:=kn (Nat.le_refl _)
 unfold glO
 exact pN 12 [2] 1 0 (.c (aT c) .nil) .nil e
theorem ab1 (b:List UInt8):∀ (ps qs:List Pv) (k:Nat),ps.map Pv.nm=qs.map Pv.nm→AM.goL (ZK b) (fun _=>none) ps k=AM.goL (ZK b) (fun _=>none) qs k
 | [],[],_,_=>rfl
 | [],_::_,_,h=>by simp at h
 |_::_,[],_,h=>by simp at h
 | p::ps,q::qs,k,h=>by
  simp only [List.map_cons,List.cons.injEq] at h
  simp only [AM.goL,ZK,h.1]
  split
  ·rename_i a
   split at a
   ·cases a
   ·cases a;exact ab1 b ps qs (k+1) h.2
  ·rename_i a
   split at a
   ·cases a;rfl
   ·cases a
theorem acb {ps qs:List Pv} (h:ps.map Pv.nm=qs.map Pv.nm) (a:List UInt8):Pz ps a=Pz qs a:=ab1 a ps qs 0 h
theorem ab_ (a:List UInt8):∀ (ps:List Pv) (j k:Nat) (p:Pv),ps[j]? =some p→p.nm=a→(∀ i q,i<j→ps[i]? =some q→q.nm ≠ a)→AM.goL (ZK a) (fun _=>none) ps k=some (k+j)
 | [],j,k,p,h,_,_=>by simp at h
 |q::ps,0,k,p,h,hn,_=>by
  simp at h
  subst h
  simp [AM.goL,ZK,hn]
 |q::ps,j+1,k,p,h,hn,hb=>by
  have c:=hb 0 q (by omega) rfl
  have:(q.nm==a)=false:=by simpa using c
  simp only [AM.goL,ZK,this]
  have:=ab_ a ps j (k+1) p (by simpa using h) hn (fun i x d b=>hb (i+1) x (by omega) (by simpa using b))
  simp only [if_neg Bool.false_ne_true]
  rw [this]
  congr 1
  omega
theorem abG {mn:Nat} {ps:List Pv} (d:ps.length≤8) (h:vz mn ps) {j:Nat} {p:Pv} (a:ps[j]? =some p):Pz ps p.nm=some j:=by
 have f:=(List.getElem?_eq_some_iff.1 a).1
 have:=ab_ p.nm ps j 0 p a rfl (fun i q g c=>by
  rw [(h i q c).nm,(h j p a).nm]
  intro e
  have e:=(List.cons.inj e).1
  have b:=congrArg UInt8.toNat e
  simp only [UInt8.toNat_ofNat'] at b
  omega)
 unfold Pz
 rw [this]
 congr 1
 omega
theorem abm {x:Cl}:∀ (r A:List Cl) (z:Cl),z ∈ A→(x ∈ rZ A z r↔x ∈ A∨x ∈ r)
 | [],A,z,_=>by simp [rZ]
 | y::r,A,z,hz=>by
  unfold rZ
  split
  ·rename_i h
   have e:=ZJ.1 h
   subst e
   rw [abm r A y hz,List.mem_cons]
   constructor
   ·exact fun h=>h.imp id .inr
   ·rintro (h|h|h)
    ·exact .inl h
    ·subst h;exact .inl hz
    ·exact .inr h
  ·rw [abm r (A++ [y]) y (by simp),List.mem_append,List.mem_singleton,List.mem_cons,or_assoc]
theorem abC {x:Cl} (l:List Cl):x ∈ dA l↔x ∈ l:=by
 cases l with
 |nil=>simp [dA]
 |cons y l=>
  unfold dA
  rw [abm l [y] y (by simp)]
  simp
theorem abE (l:List Cl):(dA l).length≤l.length:=by
 cases l with
 |nil=>simp [dA]
 |cons y l=>
  unfold dA
  have:=xK l [y] y
  simp at this ⊢
  omega
def lcY (L:Lw) (A B:List Pv) (p:Pv) (bd:List Nd):Lw:=⟨L.fx,L.fn,L.sx,L.sn,A++{p with body:=bd}::B⟩
theorem acd {L:Lw} {A B:List Pv} {p:Pv} {bd:List Nd} (h:L.ps=A++p::B) (a:List UInt8):Pz (lcY L A B p bd).ps a=Pz L.ps a:=by
 refine acb ?_ a
 rw [h]
 simp [lcY]
theorem abk {L:Lw} {A B:List Pv} {p:Pv} {bd:List Nd} (h:L.ps=A++p::B):(lcY L A B p bd).ps.length=L.ps.length:=by rw [h];simp [lcY]
theorem abD {L:Lw} {A B:List Pv} {p:Pv} {bd:List Nd} (h:L.ps=A++p::B) (s:Int) (w:Cl):qc (lcY L A B p bd) s w=qc L s w:=by
 funext x
 unfold qc UN NG
 rw [acd h]
theorem abV {L:Lw} {A B:List Pv} {p:Pv} {bd:List Nd} (h:L.ps=A++p::B) (s:Int) (w:Cl) (a:w.2.toNat ≠ A.length):iH (lcY L A B p bd) s w=iH L s w:=by
 unfold iH qf
 rw [abk h,abD h]
 have e:(lcY L A B p bd).ps[w.2.toNat]? =L.ps[w.2.toNat]? :=by
  rw [h]
  show (A++_::B)[w.2.toNat]? =_
  by_cases hl:w.2.toNat<A.length
  ·rw [List.getElem?_append_left hl,List.getElem?_append_left hl]
  ·rw [List.getElem?_append_right (by omega),List.getElem?_append_right (by omega)]
   obtain ⟨m,hm⟩:∃ m,w.2.toNat - A.length=m+1:=⟨w.2.toNat - A.length - 1,by omega⟩
   rw [hm,List.getElem?_cons_succ,List.getElem?_cons_succ]
 rw [e]
theorem aby {L Y:Lw} {f:Nat} (d:Y.ps.length=L.ps.length) (m:∀ w:Cl,w.2.toNat ≠ f→iH L 2 w=iH Y 2 w) {fr:List Cl} (h0:¬ (((0:Int),(f:Int)):Cl) ∈ ak L 2 fr) (k:¬ (((1:Int),(f:Int)):Cl) ∈ ak L 2 fr) {c:Cl} (h:zO (jd L 2) (aI 2 L.ps.length) fr c):zO (jd Y 2) (aI 2 Y.ps.length) fr c:=by
 rw [d]
 induction h with
 |base h2 h3=>exact .base h2 h3
 | @step x y h2 h3 h4 ih=>
  have j:y ∈ ak L 2 fr:=oK.2 ⟨h4,.step h2 h3 h4⟩
  have g:y.2.toNat ≠ f:=fun e=>by
   have i:=h4
   unfold aI at i
   simp only [Bool.and_eq_true,decide_eq_true_eq] at i
   obtain ⟨_,k1,k2,k3,_⟩:=i
   obtain ⟨a,b⟩:=y
   simp only at e k1 k2 k3
   have l:b=(f:Int):=by omega
   subst l
   have:a=0∨a=1:=by omega
   rcases this with e1|e1
   ·subst e1;exact h0 j
   ·subst e1;exact k j
  refine .step ih ?_ h4
  have:=ND.1 h3
  refine ND.2 ⟨by rw [d];exact this.1, ?_⟩
  rw [← m y g]
  exact this.2
theorem abl {L Y:Lw} {b:Nat} (a:Y.ps.length=L.ps.length) (d:∀ w:Cl,w.2.toNat ≠ b→iH L 2 w=iH Y 2 w) {fr:List Cl} (h0:¬ (((0:Int),(b:Int)):Cl) ∈ ak L 2 fr) (g:¬ (((1:Int),(b:Int)):Cl) ∈ ak L 2 fr) (e:¬ (((0:Int),(b:Int)):Cl) ∈ ak Y 2 fr) (f:¬ (((1:Int),(b:Int)):Cl) ∈ ak Y 2 fr):ak L 2 fr=ak Y 2 fr:=by
 classical
 show (ax 2 L.ps.length).filter (fun c=>decide (zO (jd L 2) (aI 2 L.ps.length) fr c))=(ax 2 Y.ps.length).filter (fun c=>decide (zO (jd Y 2) (aI 2 Y.ps.length) fr c))
 rw [a]
 refine List.filter_congr fun c _=> ?_
 rw [decide_eq_decide]
 constructor
 ·intro h
  have:=aby a d h0 g h
  rw [a] at this
  exact this
 ·intro h
  exact aby (L:=Y) (Y:=L) a.symm (fun w i=>(d w i).symm) e f (by rw [a];exact h)
def aaQ (n1 n2:List UInt8):List Nd:= [⟨6,false,[],[],n1⟩,⟨8,false,[],[],n2⟩,⟨9,false,[],[],[]⟩]
theorem ab6 {L:Lw} {A B:List Pv} {p:Pv} {n1 n2:List UInt8} (h:L.ps=A++p::B) {b a:Nat} (f:Pz L.ps n1=some b) (c:Pz L.ps n2=some a) (w:Cl) (d:w.2.toNat=A.length) (m:aI 2 L.ps.length w=true):
  (∀ x,x ∈ iH (lcY L A B p (aaQ n1 n2)) 2 w↔x=(w.1,(b:Int))∨x=(1 - w.1,(a:Int)))∧(iH (lcY L A B p (aaQ n1 n2)) 2 w).length≤2:=by
 have e:(lcY L A B p (aaQ n1 n2)).ps[w.2.toNat]? =some {p with body:=aaQ n1 n2}:=by
  rw [d]
  show (A++_::B)[A.length]? =_
  simp
 have i:qf (lcY L A B p (aaQ n1 n2)) 2 w (aaQ n1 n2)= [(w.1,(b:Int)),(1 - w.1,(a:Int))]:=by
  unfold qf
  rw [abD h]
  have k:qc L 2 w ⟨6,false,[],[],n1⟩=some (w.1,(b:Int)):=by simp [qc,UN,NG,f]
  have l:qc L 2 w ⟨8,false,[],[],n2⟩=some (1 - w.1,(a:Int)):=by simp [qc,UN,NG,c]
  have g:qc L 2 w ⟨9,false,[],[],[]⟩=none:=by simp [qc]
  simp [aaQ,k,l,g]
 have j:iH (lcY L A B p (aaQ n1 n2)) 2 w=dA (iy [(w.1,(b:Int)),(1 - w.1,(a:Int))]):=by
  unfold iH
  rw [abk h,if_pos m,e]
  show dA (iy (qf (lcY L A B p (aaQ n1 n2)) 2 w (aaQ n1 n2)))=_
  rw [i]
 rw [j]
 refine ⟨fun x=> ?_, ?_⟩
 ·rw [abC,(yD _).mem_iff]
  simp
 ·refine Nat.le_trans (abE _) ?_
  rw [(yD _).length_eq]
  simp
theorem ace {L:Lw} {A B:List Pv} {p:Pv} {n1 n2:List UInt8} (h:L.ps=A++p::B) (b:qi L):qi (lcY L A B p (aaQ n1 n2)):=by
 refine ⟨by rw [abk h];exact b.1,fun q a=> ?_⟩
 have a:q ∈ A++{p with body:=aaQ n1 n2}::B:=a
 have key:q ∈ L.ps∨q={p with body:=aaQ n1 n2}:=by
  rw [h]
  rcases List.mem_append.1 a with a|a
  ·exact .inl (List.mem_append_left _ a)
  ·rcases List.mem_cons.1 a with a|a
   ·exact .inr a
   ·exact .inl (by simp [a])
 rcases key with a|a
 ·refine ⟨(b.2 q a).1,fun s w=> ?_⟩
  have:=(b.2 q a).2 s w
  unfold qf at this ⊢
  rw [abD h]
  exact this
 ·subst a
  exact ⟨by show (aaQ n1 n2).length<_;simp [aaQ],fun s w=>Nat.le_trans (List.length_filterMap_le _ _) (by show (aaQ n1 n2).length≤12;simp [aaQ])⟩
theorem abY {nt:Nat} (t:170≤nt) (L Y:Lw) (i f g:Int) (a:Nat) (I:qi L) (G:qi Y) (K:L.ps.length≤8) (v:Y.ps.length=L.ps.length) (m:∀ w:Cl,w.2.toNat ≠ a→iH Y 2 w=iH L 2 w) (z y:Nat)
  (hnew:∀ w:Cl,w.2.toNat=a→aI 2 L.ps.length w=true→(∀ x,x ∈ iH Y 2 w↔x=(w.1,(z:Int))∨x=(1 - w.1,(y:Int)))∧(iH Y 2 w).length≤2)
  (hj1:AV.int .i64 (Int.tmod (IntKind.wrap .i64 f) (L.ps.length:Int))= .int .i64 (z:Int)) (hj2:AV.int .i64 (Int.tmod (IntKind.wrap .i64 g) (L.ps.length:Int))= .int .i64 (y:Int))
  (s k:Nat) (hs:s<2) (hkl:k<L.ps.length):ah prog ap [] nt (af 2 (ag f12)) (glS L Y i f g a s k) .normal (glS L Y i f g a s (k+1)):=by
 have J:aI 2 L.ps.length ((s:Int),(k:Int))=true:=by
  unfold aI
  simp
  omega
 have n:AV.int .i64 (IntKind.wrap .i64 (((1:Nat):Int) - (s:Int)))= .int .i64 (((1 - s:Nat)):Int):=by
  rw [nD (by omega) (by omega)]
  congr 1
  omega
 have c:=Ir Y true true true 2 ((s:Int),(k:Int)) G
 have l:=Ir L true true true 2 ((s:Int),(k:Int)) I
 have b:=zh L true true true 2 [((s:Int),(k:Int))] I (by omega) (by simp) [.int .i64 (s:Int),.int .i64 (k:Int)] 1 rfl rfl
 have d:=zh Y true true true 2 [((s:Int),(k:Int))] G (by omega) (by simp) [.int .i64 (s:Int),.int .i64 (k:Int)] 1 rfl rfl
 have u:(ak L 2 [((s:Int),(k:Int))]).length<2^40:=by have:=Df L 2 [((s:Int),(k:Int))];omega
 have E:(ak Y 2 [((s:Int),(k:Int))]).length<2^40:=by have:=Df Y 2 [((s:Int),(k:Int))];omega
 have e:=yu (ak L 2 [((s:Int),(k:Int))]) false ((0:Int),(a:Int)) u
 have j:=yu (ak L 2 [((s:Int),(k:Int))]) false ((1:Int),(a:Int)) u
 have r:=yu (ak Y 2 [((s:Int),(k:Int))]) false ((0:Int),(a:Int)) E
 have A:=yu (ak Y 2 [((s:Int),(k:Int))]) false ((1:Int),(a:Int)) E
 have B:(iH Y 2 ((s:Int),(k:Int))).length<2^40:=by have:=lX G 2 ((s:Int),(k:Int));omega
 by_cases hk:k=a
 ·have o:((k:Int)==(a:Int))=true:=by simp [hk]
  obtain ⟨n1,n2⟩:=hnew ((s:Int),(k:Int)) (by simp [hk]) J
  have p:(decide (((2:Nat):Int)<(((iH Y 2 ((s:Int),(k:Int))).length:Nat):Int)))=false:=kn n2
  have C:=yu (iH Y 2 ((s:Int),(k:Int))) false ((s:Int),(z:Int)) B
  rw [decide_eq_true ((n1 _).2 (.inl rfl))] at C
  have D:=yu (iH Y 2 ((s:Int),(k:Int))) false ((((1 - s:Nat)):Int),(y:Int)) B
  rw [decide_eq_true ((n1 _).2 (.inr (by congr 1;omega)))] at D
  by_cases t1:(((0:Int),(a:Int)):Cl) ∈ (ak L 2 [((s:Int),(k:Int))])
  ·rw [decide_eq_true t1] at e
   exact abP t L Y i f g a s k (1 - s) z y (iH Y 2 ((s:Int),(k:Int))) (ak L 2 [((s:Int),(k:Int))]) (ak Y 2 [((s:Int),(k:Int))]) hkl (by omega) o p hj1 hj2 n c C D b d e
  ·rw [decide_eq_false t1] at e
   by_cases t2:(((1:Int),(a:Int)):Cl) ∈ (ak L 2 [((s:Int),(k:Int))])
   ·rw [decide_eq_true t2] at j
    exact abN t L Y i f g a s k (1 - s) z y (iH Y 2 ((s:Int),(k:Int))) (ak L 2 [((s:Int),(k:Int))]) (ak Y 2 [((s:Int),(k:Int))]) hkl (by omega) o p hj1 hj2 n c C D b d e j
   ·rw [decide_eq_false t2] at j
    by_cases t3:(((0:Int),(a:Int)):Cl) ∈ (ak Y 2 [((s:Int),(k:Int))])
    ·rw [decide_eq_true t3] at r
     exact abL t L Y i f g a s k (1 - s) z y (iH Y 2 ((s:Int),(k:Int))) (ak L 2 [((s:Int),(k:Int))]) (ak Y 2 [((s:Int),(k:Int))]) hkl (by omega) o p hj1 hj2 n c C D b d e j r
    ·rw [decide_eq_false t3] at r
     by_cases t4:(((1:Int),(a:Int)):Cl) ∈ (ak Y 2 [((s:Int),(k:Int))])
     ·rw [decide_eq_true t4] at A
      exact abJ t L Y i f g a s k (1 - s) z y (iH Y 2 ((s:Int),(k:Int))) (ak L 2 [((s:Int),(k:Int))]) (ak Y 2 [((s:Int),(k:Int))]) hkl (by omega) o p hj1 hj2 n c C D b d e j r A
     ·rw [decide_eq_false t4] at A
      have q:=J3 (ak L 2 [((s:Int),(k:Int))]) (ak Y 2 [((s:Int),(k:Int))]) false false u
      rw [decide_eq_true (abl v (fun w F=>(m w F).symm) t1 t2 t3 t4)] at q
      exact abH t L Y i f g a s k (1 - s) z y (iH Y 2 ((s:Int),(k:Int))) (ak L 2 [((s:Int),(k:Int))]) (ak Y 2 [((s:Int),(k:Int))]) hkl (by omega) o p hj1 hj2 n c C D b d e j r A q
 ·have o:((k:Int)==(a:Int))=false:=beq_eq_false_iff_ne.2 (by omega)
  have h:=J3 (iH Y 2 ((s:Int),(k:Int))) (iH L 2 ((s:Int),(k:Int))) false false B
  rw [decide_eq_true (m ((s:Int),(k:Int)) (by simpa using hk))] at h
  by_cases t1:(((0:Int),(a:Int)):Cl) ∈ (ak L 2 [((s:Int),(k:Int))])
  ·rw [decide_eq_true t1] at e
   exact abQ t L Y i f g a s k (iH L 2 ((s:Int),(k:Int))) (iH Y 2 ((s:Int),(k:Int))) (ak L 2 [((s:Int),(k:Int))]) (ak Y 2 [((s:Int),(k:Int))]) hkl (by omega) o c l h b d e
  ·rw [decide_eq_false t1] at e
   by_cases t2:(((1:Int),(a:Int)):Cl) ∈ (ak L 2 [((s:Int),(k:Int))])
   ·rw [decide_eq_true t2] at j
    exact abO t L Y i f g a s k (iH L 2 ((s:Int),(k:Int))) (iH Y 2 ((s:Int),(k:Int))) (ak L 2 [((s:Int),(k:Int))]) (ak Y 2 [((s:Int),(k:Int))]) hkl (by omega) o c l h b d e j
   ·rw [decide_eq_false t2] at j
    by_cases t3:(((0:Int),(a:Int)):Cl) ∈ (ak Y 2 [((s:Int),(k:Int))])
    ·rw [decide_eq_true t3] at r
     exact abM t L Y i f g a s k (iH L 2 ((s:Int),(k:Int))) (iH Y 2 ((s:Int),(k:Int))) (ak L 2 [((s:Int),(k:Int))]) (ak Y 2 [((s:Int),(k:Int))]) hkl (by omega) o c l h b d e j r
    ·rw [decide_eq_false t3] at r
     by_cases t4:(((1:Int),(a:Int)):Cl) ∈ (ak Y 2 [((s:Int),(k:Int))])
     ·rw [decide_eq_true t4] at A
      exact abK t L Y i f g a s k (iH L 2 ((s:Int),(k:Int))) (iH Y 2 ((s:Int),(k:Int))) (ak L 2 [((s:Int),(k:Int))]) (ak Y 2 [((s:Int),(k:Int))]) hkl (by omega) o c l h b d e j r A
     ·rw [decide_eq_false t4] at A
      have q:=J3 (ak L 2 [((s:Int),(k:Int))]) (ak Y 2 [((s:Int),(k:Int))]) false false u
      rw [decide_eq_true (abl v (fun w F=>(m w F).symm) t1 t2 t3 t4)] at q
      exact abI t L Y i f g a s k (iH L 2 ((s:Int),(k:Int))) (iH Y 2 ((s:Int),(k:Int))) (ak L 2 [((s:Int),(k:Int))]) (ak Y 2 [((s:Int),(k:Int))]) hkl (by omega) o c l h b d e j r A q
theorem abU {nt:Nat} (j:170≤nt) (L Y:Lw) (f e d:Int) (c:Nat) (m:qi L) (n:qi Y) (l:L.ps.length≤8) (a:Y.ps.length=L.ps.length) (b:∀ w:Cl,w.2.toNat ≠ c→iH Y 2 w=iH L 2 w) (i g:Nat)
  (hnew:∀ w:Cl,w.2.toNat=c→aI 2 L.ps.length w=true→(∀ x,x ∈ iH Y 2 w↔x=(w.1,(i:Int))∨x=(1 - w.1,(g:Int)))∧(iH Y 2 w).length≤2)
  (hj1:AV.int .i64 (Int.tmod (IntKind.wrap .i64 e) (L.ps.length:Int))= .int .i64 (i:Int)) (hj2:AV.int .i64 (Int.tmod (IntKind.wrap .i64 d) (L.ps.length:Int))= .int .i64 (g:Int)) (s:Nat) (hs:s<2):∀ (rem k:Nat),k+rem=L.ps.length→aQ prog ap [] nt (af 2 (ag f12)) (fun _=> .exit 2) (glS L Y f e d c s) (fun _:Unit=>glO L Y f e d c s) k ()
 |0,k,h=>by
  have h:k=L.ps.length:=by omega
  subst h
  exact .done (ack j L Y f e d c s)
 |rem+1,k,h=> .next (a':=k+1) (abY j L Y f e d c m n l a b i g hnew hj1 hj2 s k hs (by omega)) (abU j L Y f e d c m n l a b i g hnew hj1 hj2 s hs rem (k+1) (by omega))
theorem abt {nt:Nat} (j:170≤nt) (L Y:Lw) (f d c:Int) (a:Nat) (m:qi L) (n:qi Y) (l:L.ps.length≤8) (b:Y.ps.length=L.ps.length) (e:∀ w:Cl,w.2.toNat ≠ a→iH Y 2 w=iH L 2 w) (i g:Nat)
  (hnew:∀ w:Cl,w.2.toNat=a→aI 2 L.ps.length w=true→(∀ x,x ∈ iH Y 2 w↔x=(w.1,(i:Int))∨x=(1 - w.1,(g:Int)))∧(iH Y 2 w).length≤2)
  (hj1:AV.int .i64 (Int.tmod (IntKind.wrap .i64 d) (L.ps.length:Int))= .int .i64 (i:Int)) (hj2:AV.int .i64 (Int.tmod (IntKind.wrap .i64 c) (L.ps.length:Int))= .int .i64 (g:Int)) (s:Nat) (hs:s<2):ah prog ap [] nt (af 0 (ag f12)) (glO L Y f d c a s) .normal (glO L Y f d c a (s+1)):=by
 have k:=aQ.blk (id:=2) (e':= .normal) (fun nt (j:170≤nt)=>abU j L Y f d c a m n l b e i g hnew hj1 hj2 s hs L.ps.length 0 (by omega)) (by simp) rfl (aG.refl _) (aG.refl _)
 unfold glS glO at k
 exact aci j L Y f d c a s hs (fun nt h=>(k nt h).weak (aG.of ⟨rfl,rfl,rfl,rfl,rfl,rfl,rfl,rfl,rfl,trivial⟩) (aG.refl _))
theorem abZ {nt:Nat} (i:170≤nt) (L Y:Lw) (h e d:Int) (c:Nat) (k:qi L) (l:qi Y) (j:L.ps.length≤8) (a:Y.ps.length=L.ps.length) (b:∀ w:Cl,w.2.toNat ≠ c→iH Y 2 w=iH L 2 w) (g f:Nat)
  (hnew:∀ w:Cl,w.2.toNat=c→aI 2 L.ps.length w=true→(∀ x,x ∈ iH Y 2 w↔x=(w.1,(g:Int))∨x=(1 - w.1,(f:Int)))∧(iH Y 2 w).length≤2)
  (hj1:AV.int .i64 (Int.tmod (IntKind.wrap .i64 e) (L.ps.length:Int))= .int .i64 (g:Int)) (hj2:AV.int .i64 (Int.tmod (IntKind.wrap .i64 d) (L.ps.length:Int))= .int .i64 (f:Int)):aQ prog ap [] nt (af 0 (ag f12)) (fun _=> .exit 0) (glO L Y h e d c) (fun _:Unit=> ⟨[(5,.bool true),(6,.ptr 0 0 0),(7,.int .i64 (L.ps.length:Int))],[(0,⟨[.sl L.fx L.fn true,.sl L.sx L.sn true,.sl (dm L.ps) L.ps.length true],0,false,0,0,true⟩)],.dead,[]⟩) 0 ():=
 .next (a':=1) (abt i L Y h e d c k l j a b g f hnew hj1 hj2 0 (by decide)) (.next (a':=2) (abt i L Y h e d c k l j a b g f hnew hj1 hj2 1 (by decide)) (.done (ach i L Y h e d c)))
theorem acl (l:List (List Int)) (b:Bool) (d f c:Int) (L:Lw) (e:Bool) (h0:((L.ps.length:Int)==((0:Nat):Int))=true) (a:CO 13 [] (.ret (.bool true))) (hm:CO 24 [.sl (iM l) l.length b] (.ret (.agg [.sl L.fx L.fn true,.sl L.sx L.sn true,.sl (dm L.ps) L.ps.length e]))):CO 12 [.sl (iM l) l.length b,.agg [.int .u8 d,.int .u8 f,.int .u8 c]] (.ret (.bool true)):=pK [0] 1 1 (.c (aN h0) (.n 2 .nil)) (.c hm (.c a .nil))
theorem acm (l:List (List Int)) (h:Bool) (e f g:Int) (L:Lw) (a c b:Nat) (n1 n2:List UInt8) (z A x u:List AV) (h0:((L.ps.length:Int)==((0:Nat):Int))=false) (y:a<L.ps.length) (w:c<L.ps.length) (v:b<L.ps.length)
  (hia:AV.int .i64 (Int.tmod (IntKind.wrap .i64 e) (L.ps.length:Int))= .int .i64 (a:Int)) (hj1:AV.int .i64 (Int.tmod (IntKind.wrap .i64 f) (L.ps.length:Int))= .int .i64 (c:Int)) (hj2:AV.int .i64 (Int.tmod (IntKind.wrap .i64 g) (L.ps.length:Int))= .int .i64 (b:Int))
  (hd1:(List.drop (((Int.toNat (c:Int))*12)+0) (dm L.ps))= .str n1::x) (hd2:(List.drop (((Int.toNat (b:Int))*12)+0) (dm L.ps))= .str n2::u) (hsan:CO 13 [] (.ret (.bool true))) (hm:CO 24 [.sl (iM l) l.length h] (.ret (.agg [.sl L.fx L.fn true,.sl L.sx L.sn true,.sl (dm L.ps) L.ps.length true]))) (hd:ae prog ap 24 [.sl (iM l) l.length h] [] (.ret (.agg [.ref 1 0 0 1,.ref 2 0 0 1,.ref 3 0 0 L.ps.length])) [⟨[.ref 1 0 0 1,.ref 2 0 0 1,.ref 3 0 0 L.ps.length],0,false,0,0,false⟩,⟨ZL,0,false,0,4,true⟩,⟨L.sx,0,false,0,4,true⟩,⟨(qF L.ps),0,false,0,12,true⟩]) (hu:CO 16 [.agg [.sl L.fx L.fn true,.sl L.sx L.sn true,.sl (dm L.ps) L.ps.length true],.int .i64 2,.agg [.int .i64 0,.int .i64 (L.ps.length:Int)]] (.ret (.sl [] 0 false))) (l1:aK prog ap [] 170 (.block 0 (.loop (af 0 (ag f12)))) ⟨[(0,.sl (iM l) l.length h),(1,.agg [.int .u8 e,.int .u8 f,.int .u8 g]),(3,.ptr 0 0 0),(4,.bool false),(5,.bool true),(6,.ptr 1 0 0),(7,.int .i64 (L.ps.length:Int)),(8,.int .i64 (a:Int)),(9,.ptr 2 0 0),(10,.int .i64 0),(11,.dead),(12,.dead),(13,.dead),(14,.dead),(15,.dead),(16,.dead),(23,.bool ((L.ps.length:Int)==((0:Nat):Int))),(65,.dead),(70,.dead),(89,.dead),(122,.dead),(160,.dead)],[(0,⟨[.int .u8 e,.int .u8 f,.int .u8 g],0,false,0,0,true⟩),(1,⟨[.sl L.fx L.fn true,.sl L.sx L.sn true,.sl (dm L.ps) L.ps.length true],0,false,0,0,true⟩),(2,⟨[.ref 3 0 0 1,.ref 4 0 0 1,.ref 5 0 0 L.ps.length],0,false,0,0,false⟩),(3,⟨ZL,0,false,0,4,true⟩),(4,⟨L.sx,0,false,0,4,true⟩),(5,⟨(List.take (((0+(Int.toNat (a:Int)))*12)+4) (qF L.ps)++ [.sl [.int .i64 6,.bool false,.str [],.str [],.str n1,.int .i64 8,.bool false,.str [],.str [],.str n2,.int .i64 9,.bool false,.str [],.str [],.str []] 3 true]++List.drop ((((0+(Int.toNat (a:Int)))*12)+4)+1) (qF L.ps)),0,false,0,12,true⟩)],.dead,[]⟩ (.normal) ⟨[(5,.bool true),(6,.ptr 0 0 0),(7,.int .i64 (L.ps.length:Int))],[(0,⟨[.sl L.fx L.fn true,.sl L.sx L.sn true,.sl (dm L.ps) L.ps.length true],0,false,0,0,true⟩)],.dead,[]⟩):CO 12 [.sl (iM l) l.length h,.agg [.int .u8 e,.int .u8 f,.int .u8 g]] (.ret (.bool true)):=by
 have n:AV.str (AV.toStr (List.headD (List.drop (((Int.toNat (c:Int))*12)+0) (dm L.ps)) .dead))= .str n1:=by rw [hd1];rfl
 have m:AV.str (AV.toStr (List.headD (List.drop (((Int.toNat (b:Int))*12)+0) (dm L.ps)) .dead))= .str n2:=by rw [hd2];rfl
 have k:(Nat.ble ((((0+(Int.toNat (a:Int)))*12)+4)+1) (List.length (qF L.ps)))=true:=(Nat.ble_eq_true_of_le (by rw [CZ rfl,Int.toNat_natCast];omega))
 have s:(decide (((0:Nat):Int)≤(a:Int)))=true:=(k0 _)
 have q:(decide ((a:Int)<(L.ps.length:Int)))=true:=(kl (by omega))
 have r:(chk .str (List.headD (List.drop (((Int.toNat (b:Int))*12)+0) (dm L.ps)) .dead))=true:=(by rw [hd2];rfl)
 have i:(decide (((0:Nat):Int)≤(b:Int)))=true:=(k0 _)
 have p:(decide ((b:Int)<(L.ps.length:Int)))=true:=(kl (by omega))
 have d:(!((L.ps.length:Int)==((0:Nat):Int)))=true:=(by rw [Bool.not_eq_true'];exact h0)
 have j:(chk .str (List.headD (List.drop (((Int.toNat (c:Int))*12)+0) (dm L.ps)) .dead))=true:=(by rw [hd1];rfl)
 have o:(decide (((0:Nat):Int)≤(c:Int)))=true:=(k0 _)
 have t:(decide ((c:Int)<(L.ps.length:Int)))=true:=(kl (by omega))
 exact pK [0] 2 2 (.k 4 k (.c s (.c q (.c r (.c i (.c p (.c d (.k 4 j (.c o (.c t (.c d (.k 6 d (.k 4 (aT h0) (.n 2 .nil)))))))))))))) (.c hu (.l l1 (.f 61 (.v 58 (.eq m) (.v 55 (.eq hj2) (.v 47 (.eq n) (.v 44 (.eq hj1) (.c hd (.v 32 (.eq hia) (.c hm (.c hsan .nil)))))))))))
theorem ab4 {A B:List Pv} {p:Pv} {a:Nat} (b:A.length=a) (n1 n2:List UInt8):List.take (((0+(Int.toNat (a:Int)))*12)+4) (qF (A++p::B))++ [.sl (cO (aaQ n1 n2)) 3 true]++List.drop ((((0+(Int.toNat (a:Int)))*12)+4)+1) (qF (A++p::B))=qF (A++{p with body:=aaQ n1 n2}::B):=by
 have d:(qF A).length=a*12:=CZ b
 have e:qF (A++p::B)=qF A++(OL p++qF B):=by simp [qF]
 have c:qF (A++{p with body:=aaQ n1 n2}::B)=qF A++(OL {p with body:=aaQ n1 n2}++qF B):=by simp [qF]
 rw [e,c,Int.toNat_natCast,Nat.zero_add,← d,List.take_length_add_append,Nat.add_assoc,List.drop_length_add_append]
 simp [OL,aaQ]
theorem abS {ps:List Pv} {j:Nat} {p:Pv} (h:ps[j]? =some p):∃ r,List.drop (((Int.toNat (j:Int))*12)+0) (dm ps)= .str p.nm::r:=by
 obtain ⟨a,hp⟩:=List.getElem?_eq_some_iff.1 h
 have hs:ps=ps.take j++p::ps.drop (j+1):=by
  rw [← hp,← List.drop_eq_getElem_cons a,List.take_append_drop]
 have b:(dm (ps.take j)).length=j*12:=by
  have:=qU (f:=Wp) (n:=12) (fun _=>rfl) (ps.take j)
  rw [List.length_take,Nat.min_eq_left (by omega)] at this
  exact this
 have e:dm ps=dm (ps.take j)++(Wp p++dm (ps.drop (j+1))):=by
  conv=>lhs;rw [hs]
  simp [dm]
 refine ⟨(Wp p).drop 1++dm (ps.drop (j+1)), ?_⟩
 rw [e,Int.toNat_natCast,Nat.add_zero,← b,List.drop_left]
 rfl
theorem acg (L:Lw) (A B:List Pv) (p:Pv) (n1 n2:List UInt8) (d f g:Int) (c:Nat) (i:L.ps=A++p::B) (y:A.length=c) (m:L.fx=ZL) (l:L.fn=1) (k:L.sn=1) (q:((L.sx).drop (0*4)).take (1*4)=L.sx) {a:Code} {e:bf} {n:St} {nt:Nat} (z:∀ v,e= .panic v→(bU v).isEmpty=true) (h:ah prog ap [] nt a (glO L (lcY L A B p (aaQ n1 n2)) d f g c 0) e n):
  ah prog ap [] nt a ⟨[(3,.ptr 0 0 0),(4,.bool false),(5,.bool true),(6,.ptr 1 0 0),(7,.int .i64 (L.ps.length:Int)),(8,.int .i64 (c:Int)),(9,.ptr 2 0 0),(10,.int .i64 ((0:Nat):Int))],[(0,⟨[.int .u8 d,.int .u8 f,.int .u8 g],0,false,0,0,true⟩),(1,⟨[.sl L.fx L.fn true,.sl L.sx L.sn true,.sl (dm L.ps) L.ps.length true],0,false,0,0,true⟩),(2,⟨[.ref 3 0 0 1,.ref 4 0 0 1,.ref 5 0 0 L.ps.length],0,false,0,0,false⟩),(3,⟨ZL,0,false,0,4,true⟩),(4,⟨L.sx,0,false,0,4,true⟩),(5,⟨qF (lcY L A B p (aaQ n1 n2)).ps,0,false,0,12,true⟩)],.dead,[]⟩ e n:=by
 have b:(lcY L A B p (aaQ n1 n2)).ps.length=L.ps.length:=abk i
 unfold glO at h
 have x:(lcY L A B p (aaQ n1 n2)).fx=ZL:=m
 have t:(lcY L A B p (aaQ n1 n2)).fn=1:=l
 have w:(lcY L A B p (aaQ n1 n2)).sn=1:=k
 rw [x,t,w] at h
 have h:ah prog ap [] nt a ⟨[(3,.ptr 0 0 0),(4,.bool false),(5,.bool true),(6,.ptr 1 0 0),(7,.int .i64 (L.ps.length:Int)),(8,.int .i64 (c:Int)),(9,.ptr 2 0 0),(10,.int .i64 ((0:Nat):Int))],[(0,⟨[.int .u8 d,.int .u8 f,.int .u8 g],0,false,0,0,true⟩),(1,⟨[.sl L.fx L.fn true,.sl L.sx L.sn true,.sl (dm L.ps) L.ps.length true],0,false,0,0,true⟩),(2,⟨[.sl ZL 1 true,.sl L.sx 1 true,.sl (dm (lcY L A B p (aaQ n1 n2)).ps) (lcY L A B p (aaQ n1 n2)).ps.length true],0,false,0,0,true⟩)],.dead,[]⟩ e n:=h
 have j:((L.sx).drop (0*4)).take (1*4)=L.sx:=q
 have o:bC (.sl (((qF (lcY L A B p (aaQ n1 n2)).ps).drop (0*12)).take (L.ps.length*12)) L.ps.length true) (.sl (dm (lcY L A B p (aaQ n1 n2)).ps) (lcY L A B p (aaQ n1 n2)).ps.length true):=by
  rw [Nat.zero_mul,List.drop_zero,List.take_of_length_le (by rw [CZ b];exact Nat.le_refl _),b]
  exact bC.slP (Gg _)
 have r:=ah.ahead (en:= [(3,.ptr 0 0 0),(4,.bool false),(5,.bool true),(6,.ptr 1 0 0),(7,.int .i64 (L.ps.length:Int)),(8,.int .i64 (c:Int)),(9,.ptr 2 0 0),(10,.int .i64 ((0:Nat):Int))]) (hp:= [(0,⟨[.int .u8 d,.int .u8 f,.int .u8 g],0,false,0,0,true⟩),(1,⟨[.sl L.fx L.fn true,.sl L.sx L.sn true,.sl (dm L.ps) L.ps.length true],0,false,0,0,true⟩),(2,⟨[.ref 3 0 0 1,.sl L.sx 1 true,.sl (dm (lcY L A B p (aaQ n1 n2)).ps) (lcY L A B p (aaQ n1 n2)).ps.length true],0,false,0,0,false⟩),(3,⟨ZL,0,false,0,4,true⟩)]) 3 ⟨ZL,0,false,0,4,true⟩ h (Nat.zero_le _) rfl ⟨Fz.same rfl,Fz.same rfl,Fz.same rfl,Fz.same rfl,Fz.same rfl,Fz.same rfl,Fz.same rfl,Fz.same rfl,trivial⟩ ⟨rfl,zT.same rfl,by decide,rfl,zT.same rfl,by decide,rfl,⟨rfl,rfl,rfl,rfl,.inr ⟨.cons (.fit .ref (bC.eq rfl)) (.cons (.same rfl) (.cons (.same rfl) .nil)),fun _=>rfl⟩⟩,by decide,rfl⟩
 have s:=ah.ahead (en:= [(3,.ptr 0 0 0),(4,.bool false),(5,.bool true),(6,.ptr 1 0 0),(7,.int .i64 (L.ps.length:Int)),(8,.int .i64 (c:Int)),(9,.ptr 2 0 0),(10,.int .i64 ((0:Nat):Int))]) (hp:= [(0,⟨[.int .u8 d,.int .u8 f,.int .u8 g],0,false,0,0,true⟩),(1,⟨[.sl L.fx L.fn true,.sl L.sx L.sn true,.sl (dm L.ps) L.ps.length true],0,false,0,0,true⟩),(2,⟨[.ref 3 0 0 1,.ref 4 0 0 1,.sl (dm (lcY L A B p (aaQ n1 n2)).ps) (lcY L A B p (aaQ n1 n2)).ps.length true],0,false,0,0,false⟩),(3,⟨ZL,0,false,0,4,true⟩),(4,⟨L.sx,0,false,0,4,true⟩)]) 4 ⟨L.sx,0,false,0,4,true⟩ r (Nat.zero_le _) rfl ⟨Fz.same rfl,Fz.same rfl,Fz.same rfl,Fz.same rfl,Fz.same rfl,Fz.same rfl,Fz.same rfl,Fz.same rfl,trivial⟩ ⟨rfl,zT.same rfl,by decide,rfl,zT.same rfl,by decide,rfl,⟨rfl,rfl,rfl,rfl,.inr ⟨.cons (.same rfl) (.cons (.fit .ref (bC.eq (by rw [j]))) (.cons (.same rfl) .nil)),fun h=>by cases h⟩⟩,by decide,rfl,zT.same rfl,by decide,rfl⟩
 have u:=ah.ahead (en:= [(3,.ptr 0 0 0),(4,.bool false),(5,.bool true),(6,.ptr 1 0 0),(7,.int .i64 (L.ps.length:Int)),(8,.int .i64 (c:Int)),(9,.ptr 2 0 0),(10,.int .i64 ((0:Nat):Int))]) (hp:= [(0,⟨[.int .u8 d,.int .u8 f,.int .u8 g],0,false,0,0,true⟩),(1,⟨[.sl L.fx L.fn true,.sl L.sx L.sn true,.sl (dm L.ps) L.ps.length true],0,false,0,0,true⟩),(2,⟨[.ref 3 0 0 1,.ref 4 0 0 1,.ref 5 0 0 L.ps.length],0,false,0,0,false⟩),(3,⟨ZL,0,false,0,4,true⟩),(4,⟨L.sx,0,false,0,4,true⟩),(5,⟨qF (lcY L A B p (aaQ n1 n2)).ps,0,false,0,12,true⟩)]) 5 ⟨qF (lcY L A B p (aaQ n1 n2)).ps,0,false,0,12,true⟩ s (Nat.zero_le _) rfl ⟨Fz.same rfl,Fz.same rfl,Fz.same rfl,Fz.same rfl,Fz.same rfl,Fz.same rfl,Fz.same rfl,Fz.same rfl,trivial⟩ ⟨rfl,zT.same rfl,by decide,rfl,zT.same rfl,by decide,rfl,⟨rfl,rfl,rfl,rfl,.inr ⟨.cons (.same rfl) (.cons (.same rfl) (.cons (.fit .ref o) .nil)),fun h=>by cases h⟩⟩,by decide,rfl,zT.same rfl,by decide,rfl,zT.same rfl,by decide,rfl⟩
 exact u
theorem abR {q:Int} {n:Nat} (h0:0≤q) (a:q<256) (b:0<n):∃ j,j<n∧AV.int .i64 (Int.tmod (IntKind.wrap .i64 q) (n:Int))= .int .i64 ((j:Nat):Int):=by
 refine ⟨(q % (n:Int)).toNat, ?_, ?_⟩
 ·have:=Int.emod_lt_of_pos q (show (0:Int)<(n:Int) by omega)
  have:=Int.emod_nonneg q (show (n:Int) ≠ 0 by omega)
  omega
 ·have:=Int.emod_nonneg q (show (n:Int) ≠ 0 by omega)
  rw [nD (by omega) (by omega),Int.tmod_eq_emod_of_nonneg h0,Int.toNat_of_nonneg this]
theorem ab3 (d:CO 13 [] (.ret (.bool true))) (l:List (List Int)) (y:Bool) (f g i:Int) (h0:0≤f∧f<256) (P:0≤g∧g<256) (S:0≤i∧i<256):CO 12 [.sl (iM l) l.length y,.agg [.int .u8 f,.int .u8 g,.int .u8 i]] (.ret (.bool true)):=by
 rcases Nat.eq_zero_or_pos l.length with hl|hl
 ·obtain ⟨L,X,k1,_,hm⟩:=Ox l y
  have:L.ps.length=0:=by omega
  exact acl l y f g i L X (by rw [this];rfl) d hm
 ·obtain ⟨L,k1,k2,J,I,E,O,hm,hd⟩:=abW l y hl
  have z:L.ps.length≤8:=by omega
  have c:0<L.ps.length:=by omega
  have K:=Oy z k2
  obtain ⟨b,R,N⟩:=abR h0.1 h0.2 c
  obtain ⟨u,q,r⟩:=abR P.1 P.2 c
  obtain ⟨t,s,m⟩:=abR S.1 S.2 c
  obtain ⟨p,hp⟩:∃ p,p=L.ps[b]:=⟨_,rfl⟩
  obtain ⟨A,j⟩:∃ A,A=L.ps.take b:=⟨_,rfl⟩
  obtain ⟨B,x⟩:∃ B,B=L.ps.drop (b+1):=⟨_,rfl⟩
  have a:L.ps=A++p::B:=by rw [j,x,hp,← List.drop_eq_getElem_cons R,List.take_append_drop]
  have C:A.length=b:=by rw [j,List.length_take,Nat.min_eq_left (by omega)]
  clear hp j x
  have Q:L.ps[u]? =some L.ps[u]:=List.getElem?_eq_getElem q
  have U:L.ps[t]? =some L.ps[t]:=List.getElem?_eq_getElem s
  obtain ⟨r1,M⟩:=abS Q
  obtain ⟨r2,F⟩:=abS U
  have V:=abG z k2 Q
  have Z:=abG z k2 U
  generalize L.ps[u].nm=n1 at*
  generalize L.ps[t].nm=n2 at*
  have Y:=ace (n1:=n1) (n2:=n2) a K
  have k:=abk (bd:=aaQ n1 n2) a
  have n:∀ w:Cl,w.2.toNat ≠ b→iH (lcY L A B p (aaQ n1 n2)) 2 w=iH L 2 w:=fun w D=>abV a 2 w (by rw [C];exact D)
  have o:=fun (w:Cl) (D:w.2.toNat=b) (hv:aI 2 L.ps.length w=true)=>ab6 a V Z w (by rw [C];exact D) hv
  have l0:=aQ.blk (id:=0) (e':= .normal) (fun nt (hn:170≤nt)=>abZ hn L (lcY L A B p (aaQ n1 n2)) f g i b K Y z k n u t o r m) (by simp) rfl (aG.refl _) (aG.refl _)
  have hu:CO 16 [.agg (L.c true true true),.int .i64 2,.agg [.int .i64 0,.int .i64 (L.ps.length:Int)]] (.ret (.sl [] 0 false)):=by
   have h:=Ir L true true true 2 ((0:Int),(L.ps.length:Int)) K
   have e:iH L 2 ((0:Int),(L.ps.length:Int))= []:=by
    unfold iH
    rw [if_neg]
    unfold aI
    simp
   rw [e] at h
   exact h
  have e5:List.take (((0+(Int.toNat (b:Int)))*12)+4) (qF L.ps)++ [.sl (cO (aaQ n1 n2)) 3 true]++List.drop ((((0+(Int.toNat (b:Int)))*12)+4)+1) (qF L.ps)=qF (lcY L A B p (aaQ n1 n2)).ps:=by
   have:=ab4 (A:=A) (B:=B) (p:=p) C n1 n2
   rw [← a] at this
   exact this
  refine acm l y f g i L b u t n1 n2 [] [] r1 r2 (beq_eq_false_iff_ne.2 (by omega)) R q s N r m M F d hm hd hu (fun nt G=> ?_)
  have T:=acg L A B p n1 n2 f g i b a C J I E O (fun v h=>by cases h) (l0 nt G)
  rw [← e5] at T
  refine ah.weak T (aG.of ?_) (aG.refl _)
  exact ⟨rfl,rfl,rfl,rfl,rfl,rfl,rfl,rfl,trivial⟩
end Go.Proofs.Tryz
set_option maxRecDepth 100000
set_option linter.unusedVariables false
open Go AM Go.ChangeShapes Go.WideShapes Go.ChangeAt Go.RowKit
namespace Go.Proofs.Tryz
open Go.Proofs.YtokiomlellclkaaGreatDoor
section
variable {H:Type} {enc:TypeId × Value→H} {W:World} {base:Nat}
theorem u5:prog.underlying 5=some (.int .u8):=by kernel_rfl
theorem ab5 {u:Value} (h:Cell.okWide prog W .any base 5 u):∃ q:Int,u= .int .u8 q∧0≤q∧q<256:=by
 cases u<;>simp only [Cell.okWide,Cell.ok,u5] at h
 rename_i k q
 obtain ⟨rfl,h⟩:=h
 have a:IntKind.min .u8≤q∧q≤IntKind.max .u8:=h
 have c:IntKind.min .u8=0:=rfl
 have b:IntKind.max .u8=255:=rfl
 exact ⟨q,rfl,by omega,by omega⟩
theorem ab9 {t:TypeId} (r:prog.underlying t=some (.array 3 5)) (g:prog.cellTypes prog.depth t=some [5,5,5]) (j:prog.cellsOf t=3) {v:Value} (i:Value.okWide prog W .any base t v):
  ∃ a b c:Int,(0≤a∧a<256)∧(0≤b∧b<256)∧(0≤c∧c<256)∧PR (fQ W) (.agg [.int .u8 a,.int .u8 b,.int .u8 c]) v:=by
 simp only [Value.okWide,r] at i
 obtain ⟨cs,rfl,e,z,h,_,d⟩:=i
 rw [g] at h
 cases h
 obtain ⟨cl⟩:=cs
 have f:cl.length=3:=e.trans j
 match cl,f with
 | [v0,v1,v2],_=>
 obtain ⟨C,y,s⟩:=d 0 v0 rfl
 obtain ⟨A,u,o⟩:=d 1 v1 rfl
 obtain ⟨B,l,p⟩:=d 2 v2 rfl
 cases y
 cases u
 cases l
 obtain ⟨a,rfl,w,q⟩:=ab5 s
 obtain ⟨b,rfl,x,k⟩:=ab5 o
 obtain ⟨c,rfl,n,m⟩:=ab5 p
 refine ⟨a,b,c,⟨w,q⟩,⟨x,k⟩,⟨n,m⟩, ?_⟩
 rw [PR]
 exact ⟨[.int .u8 a,.int .u8 b,.int .u8 c],rfl,by simp [aZ,PR]⟩
end
end Go.Proofs.Tryz
set_option maxRecDepth 100000
open Go AM Go.ChangeShapes Go.WideShapes Go.ChangeAt Go.RowKit
namespace Go.Proofs.YtokiomlellclkaaGreatDoor.locals
open Go.Proofs.Tryz
theorem ab2 (os:Os):laidMet Tryz.prog Rows.graphLocalRow.laid ((Ui os).forCall (fun _ _=>0) ⟨#[],#[.slice none 0 0,.agg #[.int .u8 0,.int .u8 0,.int .u8 0]],[]⟩).memory:=
 laidMet_of_run' 8 (by kernel_rfl) (by kernel_rfl)
theorem acj (os:Os) {H:Type} (enc:TypeId × Value→H):∃ places,DataW.whole enc Tryz.prog ((Ui os).forCall (fun _ _=>0) ⟨#[],#[.slice none 0 0,.agg #[.int .u8 0,.int .u8 0,.int .u8 0]],[]⟩).memory Tryz.f12.params.toList Rows.graphLocalSpec.vars false [.slice none 0 0,.agg #[.int .u8 0,.int .u8 0,.int .u8 0]] 8=some ([.nil,.agg [.lit (.int .u8 0),.lit (.int .u8 0),.lit (.int .u8 0)]],[],places):=
 ⟨[],by kernel_rfl⟩
theorem abg {a b:Bool} (h:a=true) (c:b=true):(a && b)=true:=by rw [h,c];rfl
theorem lk:true=Tryz.prog.looks []:=by kernel_rfl
theorem k0:Rows.graphLocalRow.wf (OpenSpec.ofChange (OpenSpec.ofChange Rows.graphLocalSpec).bare)=true:=by kernel_rfl
theorem k1:laidOutB Tryz.prog=true:=by kernel_rfl
theorem k2:mapsRowed Tryz.prog=true:=by kernel_rfl
theorem k3:Tryz.f12.params.all (Tryz.prog.readableRec ·)=true:=by kernel_rfl
theorem k4:namedTie Tryz.prog Rows.graphLocalRow.named (OpenSpec.ofChange Rows.graphLocalSpec).bare.vars=true:=by kernel_rfl
theorem k5:(Rows.graphLocalRow.stops== [])=true:=by kernel_rfl
theorem k6:(Tryz.prog.stops== [])=true:=by kernel_rfl
theorem k7:(Rows.graphLocalRow.knobs== [])=true:=by kernel_rfl
theorem k8:(Tryz.prog.stopKnobs== [])=true:=by kernel_rfl
theorem k9:(Rows.graphLocalRow.inPlace==Tryz.prog.inPlace 12)=true:=by kernel_rfl
theorem k10:(Rows.graphLocalRow.unfollowed==Tryz.prog.unfollowed 12)=true:=by kernel_rfl
theorem k11:(Rows.graphLocalRow.recurses==Tryz.prog.recurses 12)=true:=by kernel_rfl
theorem k12:(Rows.graphLocalRow.named==Tryz.prog.varsNamed 12)=true:=by kernel_rfl
theorem k13:(Rows.graphLocalRow.maps==(Tryz.f12.params.toList++(OpenSpec.ofChange Rows.graphLocalSpec).bare.plain.varTypes Tryz.prog).any (Tryz.prog.mapsRec ·))=true:=by kernel_rfl
theorem k14:(Rows.graphLocalRow.ifaces==(Tryz.f12.params.toList++(OpenSpec.ofChange Rows.graphLocalSpec).bare.plain.varTypes Tryz.prog).any (Tryz.prog.ifacesRec ·))=true:=by kernel_rfl
theorem k15:(Rows.graphLocalRow.mapsOut==Tryz.prog.mapsAmong Tryz.f12.resultTypes.toList)=true:=by kernel_rfl
theorem k16:(Rows.graphLocalRow.loops==(Tryz.f12.params.toList++(OpenSpec.ofChange Rows.graphLocalSpec).bare.plain.varTypes Tryz.prog).any (Tryz.prog.loopsFrom ·))=true:=by kernel_rfl
theorem k17:(Rows.graphLocalRow.wideKeys==(Tryz.f12.params.toList++(OpenSpec.ofChange Rows.graphLocalSpec).bare.plain.varTypes Tryz.prog++Tryz.f12.resultTypes.toList).any (Tryz.prog.wideKeysFrom ·))=true:=by kernel_rfl
theorem k18:(OpenSpec.ofChange Rows.graphLocalSpec).bare.vars.all (Tryz.prog.varReadable ·)=true:=by kernel_rfl
theorem k19:Tryz.f12.resultTypes.all (fun t=>Tryz.prog.readableRec t && decide (t<Tryz.prog.types.size))=true:=by kernel_rfl
theorem k20:(Rows.graphLocalRow.ifacesOut==Tryz.f12.resultTypes.toList.any (Tryz.prog.ifacesRec ·))=true:=by kernel_rfl
theorem k21:(Rows.graphLocalRow.loopsOut==Tryz.f12.resultTypes.toList.any (Tryz.prog.loopsFrom ·))=true:=by kernel_rfl
theorem k22:(Rows.graphLocalRow.plainKeys==Tryz.prog.plainKeys)=true:=by kernel_rfl
theorem k23:Rows.graphLocalRow.shortTexts.isNone=true:=by kernel_rfl
theorem k24:Tryz.prog.stopsHeard=true:=by kernel_rfl
theorem k25:Tryz.prog.mayEnter=true:=by kernel_rfl
theorem k26:(Rows.graphLocalRow.lifted==Tryz.prog.liftsFinal)=true:=by kernel_rfl
theorem k27:(Tryz.prog.make==some Rows.graphLocalRow.make)=true:=by kernel_rfl
theorem k28:(Rows.graphLocalRow.kinds==(if Rows.graphLocalRow.domain.isEmpty then [] else Tryz.f12.params.toList.map fun t=>match Tryz.prog.underlying t with|some (.int k)=>some k|_=>none))=true:=by kernel_rfl
theorem k29:(Rows.graphLocalRow.pinned==Rows.graphLocalRow.pinnedBy)=true:=by kernel_rfl
theorem k30:(Rows.graphLocalRow.veiled==(Tryz.f12.params.toList++(OpenSpec.ofChange Rows.graphLocalSpec).bare.plain.varTypes Tryz.prog++Tryz.f12.resultTypes.toList).any (Tryz.prog.veiledRec ·))=true:=by kernel_rfl
theorem k31:Rows.graphLocalRow.veiledFits Tryz.prog Tryz.f12.params.toList (Tryz.f12.params.toList++(OpenSpec.ofChange Rows.graphLocalSpec).bare.plain.varTypes Tryz.prog++Tryz.f12.resultTypes.toList)=true:=by kernel_rfl
theorem acf:joinedFacts Tryz.prog 12 Tryz.f12 (OpenSpec.ofChange Rows.graphLocalSpec).bare Rows.graphLocalRow=true:=(abg (abg (abg (abg (abg (abg (abg (abg (abg (abg (abg (abg (abg (abg (abg (abg (abg (abg (abg (abg (abg (abg (abg (abg (abg (abg (abg (abg (abg (abg (abg k0 k1) k2) k3) k4) k5) k6) k7) k8) k9) k10) k11) k12) k13) k14) k15) k16) k17) k18) k19) k20) k21) k22) k23) k24) k25) k26) k27) k28) k29) k30) k31)
theorem abX (H:Type) (enc:TypeId × Value→H) (W:World) (base:Nat) (args:Array Value) (m s:List (DataW H)) (before:List MemPlace)
  (hval:∀ (j:Nat) t v,Tryz.f12.params[j]? =some t→args[j]? =some v→Value.okWide Tryz.prog W .any base t v)
  (hW:DataW.Whole enc Tryz.prog Tryz.f12.params.toList Rows.graphLocalSpec.vars false W args.toList m s before) (hL:laidMetH Tryz.prog Rows.graphLocalRow.laid W):
  Calls Tryz.prog 12 args W fun e W'=> ∃ v,e= .returned v∧Rows.graphLocalSpec.post enc Tryz.prog Tryz.f12 false true false false W args v W':=by
 have b:=hW
 obtain ⟨pp,F,a,x,rfl,z,p⟩:=hW
 have h:DataW.TrodAll enc Tryz.prog W 0 (fun _=>true) true Tryz.f12.params.toList args.toList m pp:=a
 obtain ⟨E⟩:=args
 simp only at h b hval ⊢
 rw [Tryz.params12] at h hval
 obtain ⟨o,A,J,w,K,c,rfl,rfl,rfl,h0,a⟩:=trodAll_cons h
 obtain ⟨n,r,G,q,I,d,rfl,rfl,rfl,D,i⟩:=trodAll_cons a
 obtain ⟨rfl,rfl,rfl⟩:=trodAll_nil i
 obtain ⟨rfl,rfl⟩:=trodVars_none x
 obtain ⟨l,g⟩:=ZO (hval 0 22 o rfl rfl) h0
 obtain ⟨c,d,k,C,y,B,f⟩:=ab9 (by kernel_rfl) (by kernel_rfl) (by kernel_rfl) (hval 1 78 n rfl rfl)
 have u:aZ (fQ W) [.sl (iM l) l.length false,.agg [.int .u8 c,.int .u8 d,.int .u8 k]] [o,n]:=by
  simp only [aZ,and_true]
  exact ⟨g,f⟩
 refine (RN (ab3 Uj l false c d k C y B) (UU hL) u).mono fun e W' ⟨he,hb⟩=> ?_
 subst he
 exact ⟨_,rfl,V5 ZM (by kernel_rfl) b rfl (tb:=4) rfl (by kernel_rfl) rfl hb⟩
theorem lifted (os:Os) (started:os.Started) (H:Type) (enc:TypeId × Value→H) (F:Stop.Interp):
  ReturnsInHanded {} Tryz.checked os 12 .any ((OpenSpec.ofChange Rows.graphLocalSpec).preRow enc Tryz.prog Tryz.f12 Rows.graphLocalRow.domain false Rows.graphLocalRow.laid) (((OpenSpec.ofChange Rows.graphLocalSpec).at F).post enc Tryz.prog Tryz.f12 false true false false):=by
 obtain ⟨places,f⟩:=acj os enc
 refine returnsInHanded_of_row (C:=Tryz.checked) (s:=OpenSpec.ofChange Rows.graphLocalSpec) own started (by kernel_rfl) Tryz.func12
  (witness_row_at (enc:=enc) (C:=Tryz.checked) false (Ui os) #[.slice none 0 0,.agg #[.int .u8 0,.int .u8 0,.int .u8 0]] rfl (by kernel_rfl) (by kernel_rfl) (by kernel_rfl)
   (OpenSpec.preRow_of_cond 8 f (by kernel_rfl) (fun k c=>by cases c) (by kernel_rfl) (ab2 os))) ?_
 intro W base args e g before a d _ _ _ b _ _
 exact abX H enc W base args e g before a d b
theorem aca:Tryz.prog.funcNamed Rows.graphLocalRow.func=some 12:=by kernel_rfl
theorem acn:Rows.GraphLocalSaid:=
 OpenClaim.holds_of_cond 12 Tryz.f12 rfl rfl rfl rfl rfl rfl rfl ⟨rfl,rfl,rfl,rfl,rfl⟩ rfl rfl rfl rfl rfl aca Tryz.func12 acf
  (of_decide_eq_true (by kernel_rfl)) (by unfold Func.isWrapper;first|(rw [if_pos (by decide+kernel)];kernel_rfl)|(rw [if_neg (by decide+kernel)];exact ⟨rfl,rfl⟩))
  (fun os started H enc _ F=>by rw [OpenClaim.pre_eq_preRow];exact lifted os started H enc F)
theorem plain (f:FuncId) (c:Func) (e:Tryz.pinned.checked.prog.funcNamed Rows.graphLocalRow.func=some f) (b:Tryz.pinned.checked.prog.funcs[f]? =some c):
  true=Tryz.pinned.checked.prog.looks []∧∀ (j:Nat) t,c.params[j]? =some t→Tryz.pinned.checked.prog.wantsStandIn t=false:=by
 obtain rfl:f=12:=Option.some.inj (aca.symm.trans e)|>.symm
 obtain rfl:c=Tryz.f12:=(Option.some.inj (Tryz.func12.symm.trans b)).symm
 refine ⟨lk,fun j t d=> ?_⟩
 have a:Tryz.f12.params.toList.all (fun t=> !Tryz.prog.wantsStandIn t)=true:=by kernel_rfl
 have:=List.all_eq_true.1 a t (by simpa using Array.mem_of_getElem? d)
 show Tryz.prog.wantsStandIn t=false
 simpa using this
theorem wft:Rows.graphLocalRow.wfByText (OpenSpec.ofChange Rows.graphLocalSpec)=true:=by kernel_rfl
theorem mn:Tryz.prog.mainIs=some (Rows.graphLocalCard.stood.harness.1,Rows.graphLocalCard.stood.harness.2.toList):=by kernel_rfl
theorem gby:false=Rows.graphLocalRow.goesBy Tryz.prog:=by kernel_rfl
theorem card:Rows.GraphLocalCardSaid:=
 Claim7.holds_tied_plain_at .later [] _ _ _ _ acn (fun _ h=>by cases h) wft (fun _ h=>by cases h) graphLocal_row_tie rfl ⟨rfl,rfl⟩ mn rfl plain gby
end Go.Proofs.YtokiomlellclkaaGreatDoor.locals
