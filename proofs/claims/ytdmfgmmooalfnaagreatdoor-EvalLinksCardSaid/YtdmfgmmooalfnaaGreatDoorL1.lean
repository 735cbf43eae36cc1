/- The law EvalLinks returns true for every input. No conditions beyond the given row's. -/
import Derived.Test.YtdmfgmmooalfnaaGreatDoorC4
set_option linter.unusedSimpArgs false
set_option linter.unusedVariables false
set_option maxRecDepth 100000
set_option linter.unusedVariables false
open Go AM
namespace Go.Proofs.Tryz
theorem agd (a b:List Int) (k u1:Nat) (q0 d:Int) (e:List Nd) (ls L L2:List Lk) (g G:List Sc) (x:Lk) (w:RQ) (p:List AV) {nt:Nat} (l:134≤nt) (i:(List.drop ((Int.toNat (k:Int))*6) (kE ls))=lkC x++p) (f:AV.int .i64 (IntKind.wrap .i64 d)=AV.int .i64 (u1:Int)) (h:AV.ref 6 1 0 (L.length+2)=AV.ref 6 1 0 L2.length) (c:((List.take (L.length*6) (kE L))++ [.int .i64 x.op,.str x.nm,.bool w.neg,.str (ae w.n),.str (ae w.d),.int .i64 0,.int .i64 x.op,.str (x.nm++ [120]),.bool w.neg,.str (ae w.n),.str (ae w.d),.int .i64 0])=(kE L2)) (n:AV.int .i64 (IntKind.wrap .i64 ((k:Int)+((1:Nat):Int)))=AV.int .i64 ((k+1:Nat):Int)) (s:(Nat.ble (L.length+2) 1099511627776)=true) (j:(Nat.ble (L.length*6) (List.length (kE L)))=true) (o:(Nat.ble ((List.length x.nm)+1) 9223372036854775807)=true) (m:(decide (((0:Nat):Int)≤(k:Int)))=true) (r:(decide ((k:Int)<(ls.length:Int)))=true) (u:lit true (decide ((k:Int)<(ls.length:Int)))=true) (t:CO 27 [.int .i64 (IntKind.wrap .i64 ((u1:Int)+(k:Int))),.int .i64 7] (.ret (.agg [.bool w.neg,.str (ae w.n),.str (ae w.d)]))) (q:CO 29 [.agg [.bool w.neg,.str (ae w.n),.str (ae w.d)]] (.ret (.agg [.bool w.neg,.str (ae w.n),.str (ae w.d),.int .i64 0]))):au prog ap [] nt (af 0 (ah f9)) ⟨[(3,.ptr 0 0 0),(5,.ptr 1 0 0),(7,.bool true),(8,.ref 2 0 0 e.length),(9,.ptr 3 0 0),(10,.ptr 4 0 0),(13,.int .i64 (k:Int))],[(0,⟨[.sl (iL a) a.length false,.sl (iL b) b.length false],0,false,0,0,true⟩),(1,⟨[.int .u8 q0,.int .u8 d],0,false,0,0,true⟩),(2,⟨(bC e),0,false,0,5,true⟩),(3,⟨[.sl (kE ls) ls.length true,.sl (kS g) g.length true],0,false,0,0,true⟩),(4,⟨[.ref 5 0 0 L.length,.ref 6 0 0 G.length],0,false,0,0,false⟩),(5,⟨(kE L),0,false,0,6,true⟩),(6,⟨(kS G),0,false,0,4,true⟩)],.dead,[]⟩ (.normal) ⟨[(3,.ptr 0 0 0),(5,.ptr 1 0 0),(7,.bool true),(8,.ref 2 0 0 e.length),(9,.ptr 3 0 0),(10,.ptr 4 0 0),(13,.int .i64 ((k+1:Nat):Int))],[(0,⟨[.sl (iL a) a.length false,.sl (iL b) b.length false],0,false,0,0,true⟩),(1,⟨[.int .u8 q0,.int .u8 d],0,false,0,0,true⟩),(2,⟨(bC e),0,false,0,5,true⟩),(3,⟨[.sl (kE ls) ls.length true,.sl (kS g) g.length true],0,false,0,0,true⟩),(4,⟨[.ref 5 0 0 L2.length,.ref 6 0 0 G.length],0,false,0,0,false⟩),(5,⟨(kE L2),0,false,0,6,true⟩),(6,⟨(kS G),0,false,0,4,true⟩)],.dead,[]⟩:=pN 9 [] 1 1 (.k 2 s (.c j (.k 5 o (.k 20 m (.c r (.k 1 u (.n 1 .nil))))))) (.v 70 (.eq n) (.b 96 c (.v 96 (.eq h) (.c q (.c t (.v 78 (.eq f) (.v 74 (.ppt i) .nil))))))) l
theorem age (c a:List Int) (k:Nat) (q0 b:Int) (e:List Nd) (ls L:List Lk) (g G:List Sc) {nt:Nat} (d:134≤nt) (f:lit false (decide ((k:Int)<(ls.length:Int)))=true):au prog ap [] nt (af 0 (ah f9)) ⟨[(3,.ptr 0 0 0),(5,.ptr 1 0 0),(7,.bool true),(8,.ref 2 0 0 e.length),(9,.ptr 3 0 0),(10,.ptr 4 0 0),(13,.int .i64 (k:Int))],[(0,⟨[.sl (iL c) c.length false,.sl (iL a) a.length false],0,false,0,0,true⟩),(1,⟨[.int .u8 q0,.int .u8 b],0,false,0,0,true⟩),(2,⟨(bC e),0,false,0,5,true⟩),(3,⟨[.sl (kE ls) ls.length true,.sl (kS g) g.length true],0,false,0,0,true⟩),(4,⟨[.ref 5 0 0 L.length,.ref 6 0 0 G.length],0,false,0,0,false⟩),(5,⟨(kE L),0,false,0,6,true⟩),(6,⟨(kS G),0,false,0,4,true⟩)],.dead,[]⟩ (.exit 0) ⟨[(5,.ptr 0 0 0),(7,.bool true),(8,.ref 1 0 0 e.length),(9,.ptr 2 0 0),(10,.ptr 3 0 0)],[(0,⟨[.int .u8 q0,.int .u8 b],0,false,0,0,true⟩),(1,⟨(bC e),0,false,0,5,true⟩),(2,⟨[.sl (kE ls) ls.length true,.sl (kS g) g.length true],0,false,0,0,true⟩),(3,⟨[.ref 4 0 0 L.length,.ref 5 0 0 G.length],0,false,0,0,false⟩),(4,⟨(kE L),0,false,0,6,true⟩),(5,⟨(kS G),0,false,0,4,true⟩)],.dead,[]⟩:=pN 9 [] 1 0 (.c f (.n 1 .nil)) (.nil) d
theorem agf (k u0:Nat) (q0 d:Int) (e:List Nd) (ls L:List Lk) (g G G2:List Sc) (x:Sc) (bs:List Br) (n:List AV) {nt:Nat} (i:134≤nt) (f:(List.drop ((Int.toNat (k:Int))*4) (kS g))=Q5 x++n) (a:AV.int .i64 (IntKind.wrap .i64 q0)=AV.int .i64 (u0:Int)) (c:AV.ref 6 1 0 (G.length+1)=AV.ref 6 1 0 G2.length) (b:((List.take (G.length*4) (kS G))++ [.str x.name,.int .i64 1,.int .i64 0,.sl (nG bs) bs.length false])=(kS G2)) (l:AV.int .i64 (IntKind.wrap .i64 ((k:Int)+((1:Nat):Int)))=AV.int .i64 ((k+1:Nat):Int)) (p:(Nat.ble (G.length+1) 1099511627776)=true) (h:(Nat.ble (G.length*4) (List.length (kS G)))=true) (m:(decide (((0:Nat):Int)≤(k:Int)))=true) (j:(decide ((k:Int)<(g.length:Int)))=true) (o:lit true (decide ((k:Int)<(g.length:Int)))=true) (q:CO 30 [.sl [.int .i64 (u0:Int),.int .i64 1,.int .i64 2] 1 true] (.ret (.agg [.str [98,97,115,105,99],.int .i64 1,.int .i64 0,.sl (nG bs) bs.length false]))):au prog ap [] nt (af 2 (ah f9)) ⟨[(5,.ptr 0 0 0),(7,.bool true),(8,.ref 1 0 0 e.length),(9,.ptr 2 0 0),(10,.ptr 3 0 0),(15,.int .i64 (k:Int))],[(0,⟨[.int .u8 q0,.int .u8 d],0,false,0,0,true⟩),(1,⟨(bC e),0,false,0,5,true⟩),(2,⟨[.sl (kE ls) ls.length true,.sl (kS g) g.length true],0,false,0,0,true⟩),(3,⟨[.ref 4 0 0 L.length,.ref 5 0 0 G.length],0,false,0,0,false⟩),(4,⟨(kE L),0,false,0,6,true⟩),(5,⟨(kS G),0,false,0,4,true⟩)],.dead,[]⟩ (.normal) ⟨[(5,.ptr 0 0 0),(7,.bool true),(8,.ref 1 0 0 e.length),(9,.ptr 2 0 0),(10,.ptr 3 0 0),(15,.int .i64 ((k+1:Nat):Int))],[(0,⟨[.int .u8 q0,.int .u8 d],0,false,0,0,true⟩),(1,⟨(bC e),0,false,0,5,true⟩),(2,⟨[.sl (kE ls) ls.length true,.sl (kS g) g.length true],0,false,0,0,true⟩),(3,⟨[.ref 4 0 0 L.length,.ref 5 0 0 G2.length],0,false,0,0,false⟩),(4,⟨(kE L),0,false,0,6,true⟩),(5,⟨(kS G2),0,false,0,4,true⟩)],.dead,[]⟩:=pN 9 [] 1 1 (.k 2 p (.c h (.k 8 m (.c j (.k 5 o (.n 1 .nil)))))) (.v 104 (.eq l) (.b 122 b (.v 122 (.eq c) (.v 114 (.ppt f) (.c q (.v 107 (.eq a) .nil)))))) i
theorem agi (k:Nat) (q0 c:Int) (e:List Nd) (ls L:List Lk) (g G:List Sc) {nt:Nat} (a:134≤nt) (b:lit false (decide ((k:Int)<(g.length:Int)))=true):au prog ap [] nt (af 2 (ah f9)) ⟨[(5,.ptr 0 0 0),(7,.bool true),(8,.ref 1 0 0 e.length),(9,.ptr 2 0 0),(10,.ptr 3 0 0),(15,.int .i64 (k:Int))],[(0,⟨[.int .u8 q0,.int .u8 c],0,false,0,0,true⟩),(1,⟨(bC e),0,false,0,5,true⟩),(2,⟨[.sl (kE ls) ls.length true,.sl (kS g) g.length true],0,false,0,0,true⟩),(3,⟨[.ref 4 0 0 L.length,.ref 5 0 0 G.length],0,false,0,0,false⟩),(4,⟨(kE L),0,false,0,6,true⟩),(5,⟨(kS G),0,false,0,4,true⟩)],.dead,[]⟩ (.exit 2) ⟨[(7,.bool true),(8,.ref 0 0 0 e.length),(9,.ptr 1 0 0),(10,.ptr 2 0 0)],[(0,⟨(bC e),0,false,0,5,true⟩),(1,⟨[.sl (kE ls) ls.length true,.sl (kS g) g.length true],0,false,0,0,true⟩),(2,⟨[.ref 3 0 0 L.length,.ref 4 0 0 G.length],0,false,0,0,false⟩),(3,⟨(kE L),0,false,0,6,true⟩),(4,⟨(kS G),0,false,0,4,true⟩)],.dead,[]⟩:=pN 9 [] 1 0 (.c b (.n 1 .nil)) (.nil) a
theorem agj (d f:List Int) (u0 u1 n m:Nat) (q0 j w_:Int) (e:List Nd) (ls L L3 a i:List Lk) (g G G3 b h:List Sc) (c:List Oq) (p:AV.int .i64 (IntKind.wrap .i64 q0)=AV.int .i64 (u0:Int)) (H:AV.int .i64 (Int.tmod (u0:Int) (ls.length:Int))=AV.int .i64 (n:Int)) (E:AV.int .i64 (IntKind.wrap .i64 j)=AV.int .i64 (u1:Int)) (w:AV.int .i64 (Int.tmod (u1:Int) (g.length:Int))=AV.int .i64 (m:Int)) (y:AV.sl (List.drop ((Int.toNat (n:Int))*6) (List.take ((Int.toNat (ls.length:Int))*6) (kE ls))) ((Int.toNat (ls.length:Int)) - (Int.toNat (n:Int))) true=AV.sl (kE a) a.length true) (v:AV.sl (List.take ((Int.toNat (n:Int))*6) (kE ls)) ((Int.toNat (n:Int)) - 0) true=AV.sl (kE i) i.length true) (I:AV.ref 29 1 0 (a.length+i.length)=AV.ref 29 1 0 L.length) (A:((List.take (a.length*6) (kE a))++(kE i))=(kE L)) (r:AV.sl (List.drop ((Int.toNat (m:Int))*4) (List.take ((Int.toNat (g.length:Int))*4) (kS g))) ((Int.toNat (g.length:Int)) - (Int.toNat (m:Int))) true=AV.sl (kS b) b.length true) (B:AV.sl (List.take ((Int.toNat (m:Int))*4) (kS g)) ((Int.toNat (m:Int)) - 0) true=AV.sl (kS h) h.length true) (D:AV.ref 30 1 0 (b.length+h.length)=AV.ref 30 1 0 G.length) (C:((List.take (b.length*4) (kS b))++(kS h))=(kS G)) (U:(Nat.beq (List.length (kS h)) (h.length*4))=true) (N:(Nat.ble (b.length+h.length) 1099511627776)=true) (S:(Nat.ble (b.length*4) (List.length (kS b)))=true) (J:(decide (((0:Nat):Int)≤(m:Int)))=true) (K:(decide ((m:Int)≤(g.length:Int)))=true) (h5:(Nat.beq (List.length (kS b)) (b.length*4))=true) (Z:(Nat.ble b.length 1099511627776)=true) (P:lit false (Nat.beq b.length 0)=true) (R:(decide ((g.length:Int)≤(g.length:Int)))=true) (Q:(Nat.beq (List.length (kE i)) (i.length*6))=true) (z:(Nat.ble (a.length+i.length) 1099511627776)=true) (q:(Nat.ble (a.length*6) (List.length (kE a)))=true) (l:(decide (((0:Nat):Int)≤(n:Int)))=true) (k:(decide ((n:Int)≤(ls.length:Int)))=true) (x:(Nat.beq (List.length (kE a)) (a.length*6))=true) (F:(Nat.ble a.length 1099511627776)=true) (t:lit false (Nat.beq a.length 0)=true) (o:(decide ((ls.length:Int)≤(ls.length:Int)))=true) (u:(!((g.length:Int)==((0:Nat):Int)))=true) (s:(!((ls.length:Int)==((0:Nat):Int)))=true) (Y:CO 13 [] (.ret (.bool true))) (T:CO 23 [.agg [.sl (iL d) d.length false,.sl (iL f) f.length false],.int .u8 w_,.bool true] (.ret (.tup [.own (bC e) e.length 5,.agg [.sl (kE ls) ls.length true,.sl (kS g) g.length true]]))) (O:aK prog ap [] 134 (.block 0 (.loop (af 0 (ah f9)))) ⟨[(0,.agg [.sl (iL d) d.length false,.sl (iL f) f.length false]),(1,.int .u8 w_),(2,.agg [.int .u8 q0,.int .u8 j]),(3,.ptr 0 0 0),(5,.ptr 1 0 0),(6,.bool false),(7,.bool true),(8,.ref 2 0 0 e.length),(9,.ptr 3 0 0),(10,.ptr 4 0 0),(11,.int .i64 (n:Int)),(12,.int .i64 (m:Int)),(13,.int .i64 0),(14,.dead),(15,.dead),(16,.dead),(68,.dead),(102,.dead)],[(0,⟨[.sl (iL d) d.length false,.sl (iL f) f.length false],0,false,0,0,true⟩),(1,⟨[.int .u8 q0,.int .u8 j],0,false,0,0,true⟩),(2,⟨(bC e),0,false,0,5,true⟩),(3,⟨[.sl (kE ls) ls.length true,.sl (kS g) g.length true],0,false,0,0,true⟩),(4,⟨[.ref 5 0 0 L.length,.ref 6 0 0 G.length],0,false,0,0,false⟩),(5,⟨(kE L),0,false,0,6,true⟩),(6,⟨(kS G),0,false,0,4,true⟩)],.dead,[]⟩ (.normal) ⟨[(5,.ptr 0 0 0),(7,.bool true),(8,.ref 1 0 0 e.length),(9,.ptr 2 0 0),(10,.ptr 3 0 0)],[(0,⟨[.int .u8 q0,.int .u8 j],0,false,0,0,true⟩),(1,⟨(bC e),0,false,0,5,true⟩),(2,⟨[.sl (kE ls) ls.length true,.sl (kS g) g.length true],0,false,0,0,true⟩),(3,⟨[.ref 4 0 0 L3.length,.ref 5 0 0 G.length],0,false,0,0,false⟩),(4,⟨(kE L3),0,false,0,6,true⟩),(5,⟨(kS G),0,false,0,4,true⟩)],.dead,[]⟩) (V:aK prog ap [] 134 (.block 2 (.loop (af 2 (ah f9)))) ⟨[(0,.dead),(1,.dead),(2,.dead),(3,.dead),(5,.ptr 0 0 0),(6,.dead),(7,.bool true),(8,.ref 1 0 0 e.length),(9,.ptr 2 0 0),(10,.ptr 3 0 0),(11,.dead),(12,.dead),(13,.dead),(14,.dead),(15,.int .i64 0),(16,.dead),(68,.dead),(102,.dead)],[(0,⟨[.int .u8 q0,.int .u8 j],0,false,0,0,true⟩),(1,⟨(bC e),0,false,0,5,true⟩),(2,⟨[.sl (kE ls) ls.length true,.sl (kS g) g.length true],0,false,0,0,true⟩),(3,⟨[.ref 4 0 0 L3.length,.ref 5 0 0 G.length],0,false,0,0,false⟩),(4,⟨(kE L3),0,false,0,6,true⟩),(5,⟨(kS G),0,false,0,4,true⟩)],.dead,[]⟩ (.normal) ⟨[(7,.bool true),(8,.ref 0 0 0 e.length),(9,.ptr 1 0 0),(10,.ptr 2 0 0)],[(0,⟨(bC e),0,false,0,5,true⟩),(1,⟨[.sl (kE ls) ls.length true,.sl (kS g) g.length true],0,false,0,0,true⟩),(2,⟨[.ref 3 0 0 L3.length,.ref 4 0 0 G3.length],0,false,0,0,false⟩),(3,⟨(kE L3),0,false,0,6,true⟩),(4,⟨(kS G3),0,false,0,4,true⟩)],.dead,[]⟩) (M:CO 19 [.sl (List.take (e.length*5) (bC e)) e.length true,.agg [.sl (kE ls) ls.length true,.sl (kS g) g.length true]] (.ret (.own (gp c) c.length 4))) (W:CO 19 [.sl (List.take (e.length*5) (bC e)) e.length true,.agg [.sl (List.take (L3.length*6) (kE L3)) L3.length true,.sl (List.take (G3.length*4) (kS G3)) G3.length true]] (.ret (.own (gp c) c.length 4))) (X:CO 18 [.sl (List.take (c.length*4) (gp c)) c.length true,.sl (List.take (c.length*4) (gp c)) c.length true] (.ret (.bool true))):CO 9 [.agg [.sl (iL d) d.length false,.sl (iL f) f.length false],.int .u8 w_,.agg [.int .u8 q0,.int .u8 j]] (.ret (.bool true)):=pK [0,2] 3 4 (.k 6 U (.c N (.c S (.k 2 J (.c K (.k 1 h5 (.c Z (.c P (.c J (.c K (.c R (.k 3 Q (.c z (.c q (.k 2 l (.c k (.k 1 x (.c F (.c t (.c l (.c k (.c o (.k 2 u (.k 4 s (.n 7 .nil))))))))))))))))))))))))) (.c X (.c W (.c M (.l V (.l O (.b 62 C (.v 62 (.eq D) (.v 61 (.eq B) (.v 56 (.eq r) (.b 49 A (.v 49 (.eq I) (.v 48 (.eq v) (.v 43 (.eq y) (.v 37 (.eq w) (.v 33 (.eq E) (.v 30 (.eq H) (.v 26 (.eq p) (.c T (.c Y .nil)))))))))))))))))))
theorem af9 (w:RQ):CO 29 [.agg [.bool w.neg,.str (ae w.n),.str (ae w.d)]] (.ret (.agg [.bool w.neg,.str (ae w.n),.str (ae w.d),.int .i64 0])):=pK [] 0 0 (.n 8 .nil) (.nil)
theorem aar {α:Type} {p:α→Bool} {y:α}:∀ {l:List α},y ∈ l→p y=true→(∀ z ∈ l,p z=true→z=y)→l.find? p=some y
 | x::r,hy,hp,h=>by
  by_cases hx:p x=true
  ·rw [List.find?_cons_of_pos hx,h x (by simp) hx]
  ·rw [List.find?_cons_of_neg hx]
   refine aar ?_ hp (fun z a=>h z (by simp [a]))
   rcases List.mem_cons.1 hy with rfl|hy
   ·exact absurd hp hx
   ·exact hy
theorem acQ {α:Type} {p:α→Bool} {l m:List α} (n:Nat) (f:∀ x ∈ l,∀ y ∈ l,p x=true→p y=true→x=y) (hs:(l.find? p).isSome):((l.drop n++l.take n)++m).find? p=l.find? p:=by
 obtain ⟨y,b⟩:=Option.isSome_iff_exists.1 hs
 have c:=List.mem_of_find?_eq_some b
 have hp:=List.find?_some b
 have d:∀ z,z ∈ l.drop n++l.take n↔z ∈ l:=fun z=>by
  rw [List.mem_append]
  constructor
  ·rintro (h|h)
   ·exact List.mem_of_mem_drop h
   ·exact List.mem_of_mem_take h
  ·intro h
   have:=h
   rw [← List.take_append_drop n l,List.mem_append] at this
   exact this.symm
 rw [b,List.find?_append,aar ((d y).2 c) hp (fun z e a=>f z ((d z).1 e) y c a hp)]
 rfl
theorem acS {d:Bool}:∀ {r:List Sg} {l:List Lk},tH d r l→(∀ s ∈ r,∀ u ∈ r,s.op=u.op→s.name=u.name→s=u)→r.Nodup→∀ x ∈ l,∀ y ∈ l,x.op=y.op→x.nm=y.nm→x=y
 | [],[],_,_,_,x,hx,_,_,_,_=>by cases hx
 | s::r,z::l,h,hk,hn,x,hx,y,hy,ho,hm=>by
  rw [List.nodup_cons] at hn
  have a:∀ w ∈ l,w.op=z.op→w.nm=z.nm→False:=fun w e g f=>by
   obtain ⟨u,b,i,c,_⟩:=h.2.get w e
   have:=hk s (by simp) u (by simp [b]) (by rw [← h.1.1,← g,i]) (by rw [← h.1.2.1,← f,c])
   exact hn.1 (this ▸ b)
  rcases List.mem_cons.1 hx with hx1|hx1
  ·rcases List.mem_cons.1 hy with hy1|hy1
   ·rw [hx1,hy1]
   ·exact (a y hy1 (by rw [← ho,hx1]) (by rw [← hm,hx1])).elim
  ·rcases List.mem_cons.1 hy with hy1|hy1
   ·exact (a x hx1 (by rw [ho,hy1]) (by rw [hm,hy1])).elim
   ·exact acS h.2 (fun s hs u b=>hk s (by simp [hs]) u (by simp [b])) hn.2 x hx1 y hy1 ho hm
theorem acT:∀ {r:List Sg} {l:List Sq},qC r l→(∀ s ∈ r,∀ u ∈ r,s.name=u.name→s=u)→r.Nodup→∀ x ∈ l,∀ y ∈ l,x.nm=y.nm→x=y
 | [],[],_,_,_,x,hx,_,_,_=>by cases hx
 | s::r,z::l,h,hk,hn,x,hx,y,hy,hm=>by
  rw [List.nodup_cons] at hn
  have a:∀ w ∈ l,w.nm=z.nm→False:=fun w d e=>by
   obtain ⟨⟨u,b,c⟩,_⟩:=h.2.get w d
   have:=hk s (by simp) u (by simp [b]) (by rw [← h.1.1,← e,c])
   exact hn.1 (this ▸ b)
  rcases List.mem_cons.1 hx with hx1|hx1
  ·rcases List.mem_cons.1 hy with hy1|hy1
   ·rw [hx1,hy1]
   ·exact (a y hy1 (by rw [← hm,hx1])).elim
  ·rcases List.mem_cons.1 hy with hy1|hy1
   ·exact (a x hx1 (by rw [hm,hy1])).elim
   ·exact acT h.2 (fun s hs u b=>hk s (by simp [hs]) u (by simp [b])) hn.2 x hx1 y hy1 hm
theorem aco:(Uh.map fun s=>(s.op,s.name)).Nodup∧(sgR.map fun s=>s.name).Nodup:=by decide
theorem acI {C:Bool} {E:dW} (j:Nq C E) {t:Ty} {e:List Nd} (hd:Du t e) (n m:Nat) (M:List Lk) (N:List Sq):dL ⟨(E.ls.drop n++E.ls.take n)++M,(E.qs.drop m++E.qs.take m)++N⟩ e=dL E e:=by
 refine acY fun x A l=> ?_
 obtain ⟨H,v⟩:=hd.tm.names x A
 refine aeP (fun z w=> ?_) (fun g=> ?_) l
 ·obtain ⟨s,hs⟩:=v (decide_eq_true (.inl ⟨z,w⟩))
  obtain ⟨y,u,B,_⟩:=aeJ j z w hs
  rw [ah8,ah8]
  show (((E.ls.drop n++E.ls.take n)++M).find? _).map UM=_
  rw [acQ n (fun a p b o f i=>by
   simp only [WA,Bool.and_eq_true,beq_iff_eq] at f i
   exact acS j.lk (fun s hs u k=>Yu hs k) ((List.pairwise_map.1 aco.1).imp (fun h e=>h (by rw [e]))) a p b o (by omega) (by rw [← f.2,← i.2])) (by rw [B];rfl)]
 ·obtain ⟨s,hs⟩:=v (decide_eq_true (.inr g))
  rw [g] at hs
  obtain ⟨q,_,r,_⟩:=afE j hs
  unfold sqO at r ⊢
  show (((E.qs.drop m++E.qs.take m)++N).find? _)=_
  rw [acQ m (fun a p b o f i=>by
   simp only [beq_iff_eq] at f i
   exact acT j.sc (by
    intro s hs u k h
    have:∀ s ∈ sgR,∀ u ∈ sgR,s.name=u.name→s.op=u.op∧s.ty.tr=u.ty.tr∧s.ty.m=u.ty.m∧s.ty.d=u.ty.d:=by decide
    obtain ⟨a,c,d,e⟩:=this s hs u k h
    obtain ⟨F,O,⟨G,K,J⟩⟩:=s
    obtain ⟨u1,u2,⟨L,D,I⟩⟩:=u
    simp only at a c d e h
    subst a c d e h
    rfl) ((List.pairwise_map.1 aco.2).imp (fun h e=>h (by rw [e]))) a p b o (by rw [← f,← i])) (by rw [r];rfl)]
abbrev ah3 (la lb:List Int) (q0 q1:Int) (e:List Nd) (ls:List Lk) (g G:List Sc) (p:Nat × List Lk):St:=(fun (k:Nat) (L:List Lk)=>(⟨[(3,.ptr 0 0 0),(5,.ptr 1 0 0),(7,.bool true),(8,.ref 2 0 0 e.length),(9,.ptr 3 0 0),(10,.ptr 4 0 0),(13,.int .i64 (k:Int))],[(0,⟨[.sl (iL la) la.length false,.sl (iL lb) lb.length false],0,false,0,0,true⟩),(1,⟨[.int .u8 q0,.int .u8 q1],0,false,0,0,true⟩),(2,⟨(bC e),0,false,0,5,true⟩),(3,⟨[.sl (kE ls) ls.length true,.sl (kS g) g.length true],0,false,0,0,true⟩),(4,⟨[.ref 5 0 0 L.length,.ref 6 0 0 G.length],0,false,0,0,false⟩),(5,⟨(kE L),0,false,0,6,true⟩),(6,⟨(kS G),0,false,0,4,true⟩)],.dead,[]⟩:St)) p.1 p.2
abbrev agz (q0 q1:Int) (e:List Nd) (ls:List Lk) (g G:List Sc) (L:List Lk):St:=⟨[(5,.ptr 0 0 0),(7,.bool true),(8,.ref 1 0 0 e.length),(9,.ptr 2 0 0),(10,.ptr 3 0 0)],[(0,⟨[.int .u8 q0,.int .u8 q1],0,false,0,0,true⟩),(1,⟨(bC e),0,false,0,5,true⟩),(2,⟨[.sl (kE ls) ls.length true,.sl (kS g) g.length true],0,false,0,0,true⟩),(3,⟨[.ref 4 0 0 L.length,.ref 5 0 0 G.length],0,false,0,0,false⟩),(4,⟨(kE L),0,false,0,6,true⟩),(5,⟨(kS G),0,false,0,4,true⟩)],.dead,[]⟩
abbrev ah4 (q0 q1:Int) (e:List Nd) (ls L:List Lk) (g:List Sc) (p:Nat × List Sc):St:=(fun (k:Nat) (G:List Sc)=>(⟨[(5,.ptr 0 0 0),(7,.bool true),(8,.ref 1 0 0 e.length),(9,.ptr 2 0 0),(10,.ptr 3 0 0),(15,.int .i64 (k:Int))],[(0,⟨[.int .u8 q0,.int .u8 q1],0,false,0,0,true⟩),(1,⟨(bC e),0,false,0,5,true⟩),(2,⟨[.sl (kE ls) ls.length true,.sl (kS g) g.length true],0,false,0,0,true⟩),(3,⟨[.ref 4 0 0 L.length,.ref 5 0 0 G.length],0,false,0,0,false⟩),(4,⟨(kE L),0,false,0,6,true⟩),(5,⟨(kS G),0,false,0,4,true⟩)],.dead,[]⟩:St)) p.1 p.2
abbrev ahy (e:List Nd) (ls L:List Lk) (g G:List Sc):St:=⟨[(7,.bool true),(8,.ref 0 0 0 e.length),(9,.ptr 1 0 0),(10,.ptr 2 0 0)],[(0,⟨(bC e),0,false,0,5,true⟩),(1,⟨[.sl (kE ls) ls.length true,.sl (kS g) g.length true],0,false,0,0,true⟩),(2,⟨[.ref 3 0 0 L.length,.ref 4 0 0 G.length],0,false,0,0,false⟩),(3,⟨(kE L),0,false,0,6,true⟩),(4,⟨(kS G),0,false,0,4,true⟩)],.dead,[]⟩
def szL (x:Lk):Prop:=x.a.length<2^36∧x.d.length<2^36
theorem af6 (i k:List Int) (q0 b:Int) (u1:Nat) (z:u1<1000) (j:AV.int .i64 (IntKind.wrap .i64 b)=AV.int .i64 (u1:Int)) (e:List Nd) (g G:List Sc):∀ (r p:List Lk) (L:List Lk),p.length+r.length<1000→L.length+2*r.length<2^30→(∀ x ∈ r,x.nm.length<2^20)→
  ∃ M:List Lk,M.length=2*r.length∧(∀ y ∈ M,szL y)∧∀ nt,134≤nt→aI prog ap [] nt (af 0 (ah f9)) (fun _:List Lk=> .exit 0) (ah3 i k q0 b e (p++r) g G) (agz q0 b e (p++r) g G) (p.length,L) (L++M):=by
 intro r
 induction r with
 |nil=>
  intro p L hp n f
  refine ⟨[],rfl,by simp,fun nt c=> ?_⟩
  rw [List.append_nil,List.append_nil]
  exact .done (age i k p.length q0 b e p L g G c (aF (decide_eq_false (by omega))))
 | cons x r ih=>
  intro p L hp n f
  simp only [List.length_cons] at hp n
  have t:=f x (by simp)
  have h:=sN ((u1:Int)+(p.length:Int)) 7 (by omega) (by omega) (by decide) (by decide)
  have m:IntKind.wrap .i64 ((u1:Int)+(p.length:Int))=(u1:Int)+(p.length:Int):=bF (by omega) (by omega)
  rw [← m] at h
  have u:=xx (mf (IntKind.wrap .i64 ((u1:Int)+(p.length:Int)))).neg (mf (IntKind.wrap .i64 ((u1:Int)+(p.length:Int)))).n 7
  have A:(mf (IntKind.wrap .i64 ((u1:Int)+(p.length:Int)))).n<65536:=by rw [m];simp only [mf];omega
  generalize iq (mf (IntKind.wrap .i64 ((u1:Int)+(p.length:Int)))).neg (mf (IntKind.wrap .i64 ((u1:Int)+(p.length:Int)))).n 7=w at h u
  have o:(ae w.n).length<2^36∧(ae w.d).length<2^36:=⟨Nat.lt_trans (fF (B:=16) (by omega) (by omega)) (by decide),Nat.lt_trans (fF (B:=16) (by omega) (by omega)) (by decide)⟩
  obtain ⟨M,s,q,d⟩:=ih (p++ [x]) (L++ [⟨x.op,x.nm,w.neg,ae w.n,ae w.d,0⟩,⟨x.op,x.nm++ [120],w.neg,ae w.n,ae w.d,0⟩]) (by simp;omega) (by simp;omega) (fun y a=>f y (by simp [a]))
  refine ⟨⟨x.op,x.nm,w.neg,ae w.n,ae w.d,0⟩::⟨x.op,x.nm++ [120],w.neg,ae w.n,ae w.d,0⟩::M,by simp [s];omega, ?_, ?_⟩
  ·intro y a
   simp only [List.mem_cons] at a
   rcases a with rfl|rfl|a
   ·exact o
   ·exact o
   ·exact q y a
  ·intro nt c
   have d:=d nt c
   rw [List.append_assoc,List.append_assoc,List.length_append,List.length_singleton] at d
   refine .next ?_ d
   have hd:List.drop (Int.toNat (p.length:Int)*6) (kE (p++x::r))=lkC x++kE r:=by
    rw [aJ]
    unfold kE
    rw [List.flatMap_append,List.flatMap_cons,← nX lkC 6 (fun _=>rfl) p,List.drop_left]
   have l:decide ((p.length:Int)<(((p++x::r).length:Nat):Int))=true:=decide_eq_true (by rw [List.length_append,List.length_cons];omega)
   have v:List.take (L.length*6) (kE L)++ [AV.int .i64 x.op,.str x.nm,.bool w.neg,.str (ae w.n),.str (ae w.d),.int .i64 0,.int .i64 x.op,.str (x.nm++ [120]),.bool w.neg,.str (ae w.n),.str (ae w.d),.int .i64 0]=kE (L++ [⟨x.op,x.nm,w.neg,ae w.n,ae w.d,0⟩,⟨x.op,x.nm++ [120],w.neg,ae w.n,ae w.d,0⟩]):=by
    rw [List.take_of_length_le (by rw [Jc];exact Nat.le_refl _)]
    unfold kE
    rw [List.flatMap_append];rfl
   exact agd i k p.length u1 q0 b e (p++x::r) L _ g G x w _ c hd j (by simp) v (Ci (by omega)) (Nat.ble_eq_true_of_le (by omega)) (Nat.ble_eq_true_of_le (by rw [Jc];exact Nat.le_refl _)) (Nat.ble_eq_true_of_le (by omega)) (nJ _) l (aG l) h (af9 w)
theorem af7 (q0 h:Int) (u0:Nat) (g:AV.int .i64 (IntKind.wrap .i64 q0)=AV.int .i64 (u0:Int)) (e:List Nd) (ls L:List Lk):∀ (r p:List Sq) (G:List Sc),p.length+r.length<1000→G.length+r.length<2^30→
  ∃ N:List Sq,N.length=r.length∧(∀ y ∈ N,y.l.length≤8∧∀ b ∈ y.l,b.s28)∧∀ nt,134≤nt→aI prog ap [] nt (af 2 (ah f9)) (fun _:List Sc=> .exit 2) (ah4 q0 h e ls L ((p++r).map Sq.c)) (ahy e ls L ((p++r).map Sq.c)) (p.length,G) (G++N.map Sq.c):=by
 intro r
 induction r with
 |nil=>
  intro p G hp j
  refine ⟨[],rfl,by simp,fun nt c=> ?_⟩
  rw [List.append_nil,List.map_nil,List.append_nil]
  have a:(p.map Sq.c).length=p.length:=List.length_map ..
  exact .done (agi p.length q0 h e ls L (p.map Sq.c) G c (aF (decide_eq_false (by omega))))
 | cons x r ih=>
  intro p G hp j
  simp only [List.length_cons] at hp j
  obtain ⟨bs,q,m,s,f⟩:=TB [((u0:Int),1,2)] true (by simp) (by simp)
  have f:CO 30 [.sl [.int .i64 (u0:Int),.int .i64 1,.int .i64 2] 1 true] (.ret (.agg [.str [98,97,115,105,99],.int .i64 1,.int .i64 0,.sl (nG bs) bs.length true])):=f
  have l:=aA.out (jm.ret rfl rfl (aU.agg (.cons (aU.refl _) (.cons (aU.refl _) (.cons (aU.refl _) (.cons (aU.sl _ _ _) .nil)))))) f
  obtain ⟨N,o,n,d⟩:=ih (p++ [x]) (G++ [Sq.c ⟨x.nm,1,0,bs⟩]) (by simp;omega) (by simp;omega)
  refine ⟨⟨x.nm,1,0,bs⟩::N,by simp [o], ?_, ?_⟩
  ·intro y i
   rcases List.mem_cons.1 i with rfl|i
   ·exact ⟨by show bs.length≤8;rw [q];simp,m⟩
   ·exact n y i
  ·intro nt c
   have d:=d nt c
   rw [List.append_assoc,List.append_assoc,List.length_append,List.length_singleton] at d
   refine .next ?_ d
   have hd:List.drop (Int.toNat (p.length:Int)*4) (kS ((p++x::r).map Sq.c))=Q5 (Sq.c x)++kS (r.map Sq.c):=by
    have a:(p.map Sq.c).length=p.length:=List.length_map ..
    rw [aJ,List.map_append,List.map_cons]
    unfold kS
    rw [List.flatMap_append,List.flatMap_cons,← a,← nX Q5 4 (fun _=>rfl) (p.map Sq.c),List.drop_left]
   have k:decide ((p.length:Int)<((((p++x::r).map Sq.c).length:Nat):Int))=true:=decide_eq_true (by rw [List.length_map,List.length_append,List.length_cons];omega)
   exact agf p.length u0 q0 h e ls L ((p++x::r).map Sq.c) G _ (Sq.c x) bs _ c hd g (by simp) (XU G (Sq.c ⟨x.nm,1,0,bs⟩)) (Ci (by omega)) (Nat.ble_eq_true_of_le (by omega)) (Nat.ble_eq_true_of_le (by rw [JI];exact Nat.le_refl _)) (nJ _) k (aG k) l
theorem af_:∀ {n:Nat},0<n→Nat.beq n 0=false
 |0,h=>absurd h (Nat.lt_irrefl _)
 |_+1,_=>rfl
theorem aeq {α:Type} (f:α→List AV) (m:Nat) (b:∀ a,(f a).length=m) (l:List α) (n:Nat) (c:n≤l.length):AV.sl (List.drop ((Int.toNat (n:Int))*m) (List.take ((Int.toNat (l.length:Int))*m) (l.flatMap f))) ((Int.toNat (l.length:Int)) - (Int.toNat (n:Int))) true=AV.sl ((l.drop n).flatMap f) (l.drop n).length true:=by
 rw [aJ,aJ,List.take_of_length_le (by rw [nX f m b];exact Nat.le_refl _),List.length_drop]
 congr 1
 conv=>lhs;rw [← List.take_append_drop n l,List.flatMap_append]
 have:((l.take n).flatMap f).length=n*m:=by rw [nX f m b,List.length_take];congr 1;omega
 rw [← this,List.drop_left]
theorem aeQ {α:Type} (f:α→List AV) (m:Nat) (c:∀ a,(f a).length=m) (l:List α) (n:Nat) (b:n≤l.length):AV.sl (List.take ((Int.toNat (n:Int))*m) (l.flatMap f)) ((Int.toNat (n:Int)) - 0) true=AV.sl ((l.take n).flatMap f) (l.take n).length true:=by
 rw [aJ,List.length_take,Nat.sub_zero,Nat.min_eq_left b]
 congr 1
 conv=>lhs;rw [← List.take_append_drop n l,List.flatMap_append]
 have:((l.take n).flatMap f).length=n*m:=by rw [nX f m c,List.length_take];congr 1;omega
 rw [← this,List.take_left]
theorem ac2 (c f:List Int) (w q0 v:Int) (K:c.length<2^63) (F:f.length<2^63) (h0:0≤q0∧q0<256) (h1:0≤v∧v<256):CO 9 [.agg [.sl (iL c) c.length false,.sl (iL f) f.length false],.int .u8 w,.agg [.int .u8 q0,.int .u8 v]] (.ret (.bool true)):=by
 obtain ⟨t,ht,ck⟩:=alf (IntKind.wrap .i64 w)
 obtain ⟨e,q,ce⟩:=ag2 w t ht c K
 obtain ⟨E,r,cE⟩:=akV true true false f F
 have dr:=ag3 ck ce cE
 have j:=r.sm
 have V:=q.ck
 obtain ⟨u0,rfl⟩:∃ u:Nat,q0=(u:Int):=⟨q0.toNat,by omega⟩
 obtain ⟨u1,rfl⟩:∃ u:Nat,v=(u:Int):=⟨v.toNat,by omega⟩
 have i:AV.int .i64 (IntKind.wrap .i64 (u0:Int))=AV.int .i64 (u0:Int):=by rw [bF (by omega) (by omega)]
 have A:AV.int .i64 (IntKind.wrap .i64 (u1:Int))=AV.int .i64 (u1:Int):=by rw [bF (by omega) (by omega)]
 have b:E.ls.length=10:=r.lk.len
 have d:E.qs.length=2:=r.sc.len
 have Q:(E.qs.map Sq.c).length=2:=by rw [List.length_map];exact d
 have B:u0 % 10<10:=Nat.mod_lt _ (by decide)
 have hm:u1 % 2<2:=Nat.mod_lt _ (by decide)
 have P:AV.int .i64 (Int.tmod (u0:Int) (E.ls.length:Int))=AV.int .i64 (((u0 % 10):Nat):Int):=by rw [b,um]
 have G:AV.int .i64 (Int.tmod (u1:Int) (((E.qs.map Sq.c).length:Nat):Int))=AV.int .i64 (((u1 % 2):Nat):Int):=by rw [Q,um]
 generalize u0 % 10=n at*
 generalize u1 % 2=m at*
 have I:=fun M N=>acI r q n m M N
 have hD:(E.ls.drop n).length=10 - n:=by rw [List.length_drop,b]
 have hT:(E.ls.take n).length=n:=by rw [List.length_take,b];omega
 have U:(E.ls.drop n++E.ls.take n).length=10:=by rw [List.length_append,hD,hT];omega
 have O:(E.qs.drop m).length=2 - m:=by rw [List.length_drop,d]
 have J:(E.qs.take m).length=m:=by rw [List.length_take,d];omega
 have R:(E.qs.drop m++E.qs.take m).length=2:=by rw [List.length_append,O,J];omega
 have H:∀ x ∈ E.ls,x.nm.length<2^20:=fun x a=>by
  obtain ⟨s,hs,_,g,_⟩:=r.lk.get x a
  rw [g]
  have:∀ s ∈ Uh,s.name.length<2^20:=by decide
  exact this s hs
 obtain ⟨M,m1,m2,m3⟩:=af6 c f u0 u1 u1 (by omega) A e (E.qs.map Sq.c) ((E.qs.drop m++E.qs.take m).map Sq.c) E.ls [] (E.ls.drop n++E.ls.take n) (by simp [b]) (by rw [U,b];decide) H
 obtain ⟨N,n1,n2,n3⟩:=af7 u0 u1 u0 i e E.ls ((E.ls.drop n++E.ls.take n)++M) E.qs [] ((E.qs.drop m++E.qs.take m).map Sq.c) (by simp [d]) (by rw [List.length_map,R,d];decide)
 have D:(⟨(E.ls.drop n++E.ls.take n)++M,(E.qs.drop m++E.qs.take m)++N⟩:dW).sm:=⟨by
   show ((E.ls.drop n++E.ls.take n)++M).length<_
   rw [List.length_append,U,m1,b];decide,by
   show ((E.qs.drop m++E.qs.take m)++N).length<_
   rw [List.length_append,R,n1,d];decide,fun x a=>by
   rcases List.mem_append.1 a with a|a
   ·rcases List.mem_append.1 a with a|a
    ·exact j.lk x (List.mem_of_mem_drop a)
    ·exact j.lk x (List.mem_of_mem_take a)
   ·exact m2 x a,fun x a=>by
   rcases List.mem_append.1 a with a|a
   ·rcases List.mem_append.1 a with a|a
    ·exact j.sq x (List.mem_of_mem_drop a)
    ·exact j.sq x (List.mem_of_mem_take a)
   ·exact ⟨Nat.lt_of_le_of_lt (n2 x a).1 (by decide),(n2 x a).2⟩⟩
 have S:=Ha E true true true j V q.sm
 have L:=Ha _ true true true D V q.sm
 rw [I M N] at L
 have h13:=q.ln
 have T:=tq E e
 have Y:=Uc (dL E e) (dL E e) true true (by omega)
 rw [SY,decide_eq_true rfl] at Y
 generalize dL E e=os at*
 have C:List.take (os.length*4) (gp os)=gp os:=List.take_of_length_le (by rw [zf];exact Nat.le_refl _)
 rw [← Jm e] at S L
 have o:=aeq Q5 4 (fun _=>rfl) (E.qs.map Sq.c) m (by omega)
 have y:=aeQ Q5 4 (fun _=>rfl) (E.qs.map Sq.c) m (by omega)
 rw [← List.map_drop] at o
 rw [← List.map_take] at y
 have p:∀ l:List Lk,List.take (l.length*6) (kE l)=kE l:=fun l=>List.take_of_length_le (by rw [Jc];exact Nat.le_refl _)
 have z:∀ l:List Sc,List.take (l.length*4) (kS l)=kS l:=fun l=>List.take_of_length_le (by rw [JI];exact Nat.le_refl _)
 have Z:∀ (k:Nat) (l:List Lk),l.length=k→Nat.beq (List.length (kE l)) (k*6)=true:=fun k l h=>by rw [Jc,h];exact Nat.beq_refl _
 have W:∀ (k:Nat) (l:List Sc),l.length=k→Nat.beq (List.length (kS l)) (k*4)=true:=fun k l h=>by rw [JI,h];exact Nat.beq_refl _
 have l0:=aI.blk (id:=0) (e':= .normal) (s':=agz u0 u1 e E.ls (E.qs.map Sq.c) ((E.qs.drop m++E.qs.take m).map Sq.c) ((E.ls.drop n++E.ls.take n)++M)) m3 (by simp) rfl (aO.refl _) (aO.refl _)
 have X:=aI.blk (id:=2) (e':= .normal) (s':=ahy e E.ls ((E.ls.drop n++E.ls.take n)++M) (E.qs.map Sq.c) ((E.qs.drop m++E.qs.take m).map Sq.c++N.map Sq.c)) n3 (by simp) rfl (aO.refl _) (aO.refl _)
 rw [← List.map_append] at X
 refine agj c f u0 u1 n m u0 u1 w e E.ls (E.ls.drop n++E.ls.take n) ((E.ls.drop n++E.ls.take n)++M) (E.ls.drop n) (E.ls.take n) (E.qs.map Sq.c) ((E.qs.drop m++E.qs.take m).map Sq.c) (((E.qs.drop m++E.qs.take m)++N).map Sq.c) ((E.qs.drop m).map Sq.c) ((E.qs.take m).map Sq.c) os
  i P A G (aeq lkC 6 (fun _=>rfl) E.ls n (by omega)) (aeQ lkC 6 (fun _=>rfl) E.ls n (by omega)) (by rw [List.length_append]) (by rw [p];unfold kE;rw [List.flatMap_append]) o y (by rw [List.length_map,List.length_map,List.length_map,List.length_append]) (by rw [z,List.map_append];unfold kS;rw [List.flatMap_append])
  (W _ _ rfl) (Nat.ble_eq_true_of_le (by rw [List.length_map,List.length_map];omega)) (Nat.ble_eq_true_of_le (by rw [JI];exact Nat.le_refl _)) (nJ _) (decide_eq_true (by omega)) (W _ _ rfl) (Nat.ble_eq_true_of_le (by rw [List.length_map];omega)) ?_ (decide_eq_true (Int.le_refl _))
  (Z _ _ rfl) (Nat.ble_eq_true_of_le (by omega)) (Nat.ble_eq_true_of_le (by rw [Jc];exact Nat.le_refl _)) (nJ _) (decide_eq_true (by omega)) (Z _ _ rfl) (Nat.ble_eq_true_of_le (by omega)) ?_ (decide_eq_true (Int.le_refl _)) (by rw [Q];rfl) (by rw [b];rfl)
  agh dr (fun nt B=>(l0 nt B).weak (aO.of ⟨rfl,rfl,rfl,rfl,rfl,rfl,rfl,trivial⟩) (aO.refl _)) (fun nt B=>(X nt B).weak (aO.of ⟨rfl,rfl,rfl,rfl,rfl,rfl,trivial⟩) (aO.refl _)) S ?_ ?_
 ·rw [af_ (n:=((E.qs.drop m).map Sq.c).length) (by rw [List.length_map];omega)];rfl
 ·rw [af_ (n:=(E.ls.drop n).length) (by omega)];rfl
 ·rw [p,z];exact L
 ·rw [C];exact Y
end Go.Proofs.Tryz
set_option maxRecDepth 100000
open Go AM Go.ChangeShapes Go.WideShapes Go.ChangeAt Go.RowKit
namespace Go.Proofs.YtdmfgmmooalfnaaGreatDoor.links
open Go.Proofs.Tryz
theorem afp (a:Os):laidMet Tryz.prog Rows.evalLinksRow.laid ((agc a).forCall (fun _ _=>0) ⟨#[],#[.agg #[.slice none 0 0,.slice none 0 0],.int .u8 0,.agg #[.int .u8 0,.int .u8 0]],[]⟩).memory:=
 laidMet_of_run' 8 (by kernel_rfl) (by kernel_rfl)
theorem ah2 (a:Os) {H:Type} (enc:TypeId × Value→H):∃ places,DataW.whole enc Tryz.prog ((agc a).forCall (fun _ _=>0) ⟨#[],#[.agg #[.slice none 0 0,.slice none 0 0],.int .u8 0,.agg #[.int .u8 0,.int .u8 0]],[]⟩).memory Tryz.f9.params.toList Rows.evalLinksSpec.vars false [.agg #[.slice none 0 0,.slice none 0 0],.int .u8 0,.agg #[.int .u8 0,.int .u8 0]] 8=some ([.agg [.nil,.nil],.lit (.int .u8 0),.agg [.lit (.int .u8 0),.lit (.int .u8 0)]],[],places):=
 ⟨[],by kernel_rfl⟩
theorem ac3 (H:Type) (enc:TypeId × Value→H) (W:World) (base:Nat) (args:Array Value) (p r:List (DataW H)) (before:List MemPlace)
  (hval:∀ (j:Nat) t v,Tryz.f9.params[j]? =some t→args[j]? =some v→Value.okWide Tryz.prog W .any base t v)
  (hW:DataW.Whole enc Tryz.prog Tryz.f9.params.toList Rows.evalLinksSpec.vars false W args.toList p r before) (hL:laidMetH Tryz.prog Rows.evalLinksRow.laid W):
  Calls Tryz.prog 9 args W fun e W'=> ∃ v,e= .returned v∧Rows.evalLinksSpec.post enc Tryz.prog Tryz.f9 false true false false W args v W':=by
 have b:=hW
 obtain ⟨pp,N,a,C,rfl,u,B⟩:=hW
 have d:DataW.TrodAll enc Tryz.prog W 0 (fun _=>true) true Tryz.f9.params.toList args.toList p pp:=a
 obtain ⟨T⟩:=args
 simp only at d b hval ⊢
 rw [Tryz.params9] at d hval
 obtain ⟨v0,J,R,E,P,q0,rfl,rfl,rfl,D,a⟩:=trodAll_cons d
 obtain ⟨v1,G,M,F,S,c,rfl,rfl,rfl,y,h⟩:=trodAll_cons a
 obtain ⟨s,K,Q,I,O,L,rfl,rfl,rfl,z,m⟩:=trodAll_cons h
 obtain ⟨rfl,rfl,rfl⟩:=trodAll_nil m
 obtain ⟨rfl,rfl⟩:=trodVars_none C
 obtain ⟨o,q,l,f,i⟩:=akt (t:=46) (by kernel_rfl) (by kernel_rfl) (by kernel_rfl) (hval 0 46 v0 rfl rfl) D
 obtain ⟨w,rfl,_,_,x⟩:=open_int (k:= .u8) (by kernel_rfl) (hval 1 5 v1 rfl rfl) y
 obtain ⟨q0,c,rfl,g,n⟩:=akv (hval 2 47 s rfl rfl) z
 have A:dQ (kQ W) [a2A o q,.int .u8 w,.agg [.int .u8 q0,.int .u8 c]] [v0,.int .u8 w,.agg #[.int .u8 q0,.int .u8 c]]:=by
  simp only [dQ,and_true]
  refine ⟨i,by simp only [PR], ?_⟩
  simp only [PR]
  exact ⟨[.int .u8 q0,.int .u8 c],rfl,by simp [dQ,PR]⟩
 refine (adr (ac2 o q w q0 c l f g n) (ahW hL) A).mono fun e W' ⟨he,hb⟩=> ?_
 subst he
 exact ⟨_,rfl,ah7 akp (by kernel_rfl) b rfl (tb:=4) rfl (by kernel_rfl) rfl hb⟩
theorem aga (a:Os) (started:a.Started) (H:Type) (enc:TypeId × Value→H) (F:Stop.Interp):
  ReturnsInHanded {} Tryz.checked a 9 .any ((OpenSpec.ofChange Rows.evalLinksSpec).preRow enc Tryz.prog Tryz.f9 Rows.evalLinksRow.domain false Rows.evalLinksRow.laid) (((OpenSpec.ofChange Rows.evalLinksSpec).at F).post enc Tryz.prog Tryz.f9 false true false false):=by
 obtain ⟨places,d⟩:=ah2 a enc
 refine returnsInHanded_of_row (C:=Tryz.checked) (s:=OpenSpec.ofChange Rows.evalLinksSpec) own started (by kernel_rfl) Tryz.func9
  (witness_row_at (enc:=enc) (C:=Tryz.checked) false (agc a) #[.agg #[.slice none 0 0,.slice none 0 0],.int .u8 0,.agg #[.int .u8 0,.int .u8 0]] rfl (by kernel_rfl) (by kernel_rfl) (by kernel_rfl)
   (OpenSpec.preRow_of_cond 8 d (by kernel_rfl) (fun k g=>by cases g) (by kernel_rfl) (afp a))) ?_
 intro W base args h c before b f _ _ _ e _ _
 exact ac3 H enc W base args h c before b f e
theorem ah5:Rows.EvalLinksSaid:=
 OpenClaim.holds_of_cond 9 Tryz.f9 rfl rfl rfl rfl rfl rfl rfl ⟨rfl,rfl,rfl,rfl,rfl⟩ rfl rfl rfl rfl rfl (by kernel_rfl) Tryz.func9 (by kernel_rfl)
  (of_decide_eq_true (by kernel_rfl)) (by unfold Func.isWrapper;first|(rw [if_pos (by decide+kernel)];kernel_rfl)|(rw [if_neg (by decide+kernel)];exact ⟨rfl,rfl⟩))
  (fun a started H enc _ F=>by rw [OpenClaim.pre_eq_preRow];exact aga a started H enc F)
theorem ah1 (f:FuncId) (b:Func) (d:Tryz.pinned.checked.prog.funcNamed Rows.evalLinksRow.func=some f) (c:Tryz.pinned.checked.prog.funcs[f]? =some b):
  true=Tryz.pinned.checked.prog.looks []∧∀ (j:Nat) t,b.params[j]? =some t→Tryz.pinned.checked.prog.wantsStandIn t=false:=by
 obtain rfl:f=9:=Option.some.inj ((show Tryz.prog.funcNamed Rows.evalLinksRow.func=some 9 by kernel_rfl).symm.trans d)|>.symm
 obtain rfl:b=Tryz.f9:=(Option.some.inj (Tryz.func9.symm.trans c)).symm
 refine ⟨by kernel_rfl,fun j t e=> ?_⟩
 have a:Tryz.f9.params.toList.all (fun t=> !Tryz.prog.wantsStandIn t)=true:=by kernel_rfl
 have:=List.all_eq_true.1 a t (by simpa using Array.mem_of_getElem? e)
 show Tryz.prog.wantsStandIn t=false
 simpa using this
theorem card:Rows.EvalLinksCardSaid:=
 Claim7.holds_tied_plain_at .later [] _ _ _ _ ah5 (fun _ h=>by cases h) (by kernel_rfl) (fun _ h=>by cases h) evalLinks_row_tie rfl ⟨rfl,rfl⟩ (by kernel_rfl) rfl ah1 (by kernel_rfl)
end Go.Proofs.YtdmfgmmooalfnaaGreatDoor.links
