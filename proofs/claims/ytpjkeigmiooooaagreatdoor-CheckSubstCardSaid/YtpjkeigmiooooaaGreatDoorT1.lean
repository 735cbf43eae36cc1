/- The law CheckSubst returns true for every input: no conditions beyond the given row. -/
import Derived.Test.YtpjkeigmiooooaaGreatDoorC3
set_option linter.unusedSimpArgs false
set_option linter.unusedVariables false
set_option maxRecDepth 100000
open Go AM
namespace Go.Proofs.Tryz
def UI (nm:List UInt8) (x:Nd):Bool:=(x.op==((6:Nat):Int)) && (x.name==nm)
def UH (nm:List UInt8) (by_ e:List Nd):List Nd:=e.flatMap fun x=>if UI nm x then by_ else [x]
def VK (b:Nat) (o:List Nd):AV:=match o with| []=> .nilS|z::r=> .ref b 0 0 (z::r).length
def VL (b:Nat) (o:List Nd):Hp:=match o with| []=> []|z::r=> [(b,⟨aw (z::r),0,false,0,5,true⟩)]
theorem U4 {b:Nat} {o:List Nd} (h:o ≠ []):VK b o= .ref b 0 0 o.length:=by cases o with|nil=>exact absurd rfl h|cons _ _=>rfl
theorem U5 {b:Nat} {o:List Nd} (h:o ≠ []):VL b o= [(b,⟨aw o,0,false,0,5,true⟩)]:=by cases o with|nil=>exact absurd rfl h|cons _ _=>rfl
def U6 (e by_:List Nd) (nm:List UInt8) (ne nb:Bool) (p:Nat × List Nd):St:=⟨[(1,.str nm),(2,.sl (aw by_) by_.length nb),(16,.ref 0 0 0 2),(28,.sl (aw e) e.length ne),(29,.int .i64 (e.length:Int)),(30,.int .i64 (p.1:Int)),(11,VK 1 p.2)],(0,⟨[.sl (aw e) e.length ne,.sl (aw by_) by_.length nb],0,false,0,1,true⟩)::VL 1 p.2,.dead,[]⟩
def Vj (o:List Nd):St:=⟨[(11,VK 0 o)],VL 0 o,.dead,[]⟩
theorem U7 (o w:List Nd) (h:o ≠ []) {e by_:List Nd} {nm:List UInt8} {ne nb:Bool} {k:Nat}:U6 e by_ nm ne nb (k,o++w)=⟨[(1,.str nm),(2,.sl (aw by_) by_.length nb),(16,.ref 0 0 0 2),(28,.sl (aw e) e.length ne),(29,.int .i64 (e.length:Int)),(30,.int .i64 (k:Int)),(11,.ref 1 0 0 (o.length+w.length))],[(0,⟨[.sl (aw e) e.length ne,.sl (aw by_) by_.length nb],0,false,0,1,true⟩),(1,⟨((List.take (o.length*5) (aw o))++(aw w)),0,false,0,5,true⟩)],.dead,[]⟩:=by
 have hne:o++w ≠ []:=fun hh=>h (List.append_eq_nil_iff.1 hh).1
 unfold U6
 rw [U4 hne,U5 hne,List.length_append,qy,List.take_of_length_le (by rw [aJ];omega)]
theorem Vt (nm:List UInt8) (by_ l:List Nd):∀ o,goL (fun (o:List Nd) x=>(.inl (o++if UI nm x then by_ else [x]):List Nd ⊕ List Nd)) id l o=o++UH nm by_ l:=by
 induction l with
 |nil=>intro o;simp [goL,UH]
 |cons y r ih=>intro o;simp only [goL];rw [ih];simp [UH]
theorem Vp {nt:Nat} (hn:55≤nt) (e by_:List Nd) (nm:List UInt8) (ne nb:Bool) (hl:e.length<2^20) (hb:by_ ≠ []) (hbl:by_.length<2^10):aA prog ap [] nt (ac 2 (ae f32)) (fun _=> .exit 2) (U6 e by_ nm ne nb) Vj (0,[]) (UH nm by_ e):=by
 have hg:=Vt nm by_ e []
 rw [List.nil_append] at hg
 rw [← hg]
 refine aA.goL (fun (o:List Nd) x=>(.inl (o++if UI nm x then by_ else [x]):List Nd ⊕ List Nd)) id e (fun p o=>o.length≤p.length*1024) ?_ ?_ e [] [] rfl (by simp)
 ·intro p x r o hll ho
  have hdr:(List.drop ((Int.toNat (p.length:Int))*5) (aw e))=fk x++aw r:=by rw [hll];exact jP rfl
  have hlen:p.length+(r.length+1)=e.length:=by rw [hll];simp
  refine ⟨?_,by rw [List.length_append,List.length_append,List.length_singleton];split<;>first|omega|(rw [List.length_singleton];omega)⟩
  generalize p.length=k at*
  have hw:k<2^62:=by omega
  have h0:decide (((0:Nat):Int)≤(k:Int))=true:=decide_eq_true (by omega)
  have h1:decide ((k:Int)<(e.length:Int))=true:=decide_eq_true (by omega)
  have h2:Nat.beq by_.length 0=false:=by cases by_ with|nil=>exact absurd rfl hb|cons _ _=>rfl
  have h3:Nat.beq (List.length (aw by_)) (by_.length*5)=true:=by rw [aJ];exact Nat.beq_refl _
  have h4:Nat.ble by_.length 1099511627776=true:=(by rw [Nat.ble_eq];omega)
  show ah prog ap [] nt (ac 2 (ae f32)) (U6 e by_ nm ne nb (k,o)) .normal (U6 e by_ nm ne nb (k+1,o++if UI nm x then by_ else [x]))
  cases o with
  | nil=>
   rcases tf (x.op==((6:Nat):Int)) with b0|b0
   ·rcases tf (x.name==nm) with b1|b1
    ·rw [show UI nm x=true by unfold UI;rw [b0,b1];rfl]
     rw [if_pos rfl,List.nil_append]
     unfold U6
     rw [U4 hb,U5 hb]
     exact pN 32 [] 4 7 (.c h3 (.c h4 (.c (aU h2) (.c (aQ b1) (.k 1 (aQ b0) (.k 7 h0 (.c h1 (.c (aQ h1) .nil)))))))) (.v 50 (.eq (zQ hw)) (.v 32 (.ppt hdr) .nil)) hn
    ·rw [show UI nm x=false by unfold UI;rw [b0,b1];rfl]
     exact pN 32 [] 4 3 (.k 8 (aU b1) (.k 1 (aQ b0) (.k 7 h0 (.c h1 (.c (aQ h1) .nil))))) (.v 50 (.eq (zQ hw)) (.v 32 (.ppt hdr) .nil)) hn
   ·rw [show UI nm x=false by unfold UI;rw [b0];rfl]
    exact pN 32 [] 4 1 (.k 9 (aU b0) (.k 7 h0 (.c h1 (.c (aQ h1) .nil)))) (.v 50 (.eq (zQ hw)) (.v 32 (.ppt hdr) .nil)) hn
  | cons z o=>
   have h5:Nat.ble ((z::o).length+by_.length) 1099511627776=true:=(by rw [Nat.ble_eq];omega)
   have h6:Nat.ble ((z::o).length+1) 1099511627776=true:=(by rw [Nat.ble_eq];omega)
   have h7:Nat.ble ((z::o).length*5) (List.length (aw (z::o)))=true:=(by rw [Nat.ble_eq,aJ];exact Nat.le_refl _)
   rcases tf (x.op==((6:Nat):Int)) with b0|b0
   ·rcases tf (x.name==nm) with b1|b1
    ·rw [show UI nm x=true by unfold UI;rw [b0,b1];rfl]
     rw [if_pos rfl,U7 (z::o) by_ (by simp)]
     exact pN 32 [] 3 7 (.c h3 (.c h5 (.c h7 (.k 1 (aQ b1) (.k 1 (aQ b0) (.k 7 h0 (.c h1 (.c (aQ h1) .nil)))))))) (.v 50 (.eq (zQ hw)) (.v 32 (.ppt hdr) .nil)) hn
    ·rw [show UI nm x=false by unfold UI;rw [b0,b1];rfl]
     rw [if_neg Bool.false_ne_true,U7 (z::o) [x] (by simp)]
     exact pN 32 [] 3 3 (.k 1 h6 (.c h7 (.k 6 (aU b1) (.k 1 (aQ b0) (.k 7 h0 (.c h1 (.c (aQ h1) .nil))))))) (.v 50 (.eq (zQ hw)) (.v 32 (.ppt hdr) .nil)) hn
   ·rw [show UI nm x=false by unfold UI;rw [b0];rfl]
    rw [if_neg Bool.false_ne_true,U7 (z::o) [x] (by simp)]
    exact pN 32 [] 3 1 (.k 1 h6 (.c h7 (.k 7 (aU b0) (.k 7 h0 (.c h1 (.c (aQ h1) .nil)))))) (.v 50 (.eq (zQ hw)) (.v 32 (.ppt hdr) .nil)) hn
 ·intro o _
  have b0:decide ((e.length:Int)<(e.length:Int))=false:=decide_eq_false (by omega)
  cases o with
  |nil=>exact pN 32 [] 1 0 (.c (aU b0) .nil) .nil hn
  |cons z o=>exact pN 32 [] 1 0 (.c (aU b0) .nil) .nil hn
theorem VG (e by_ w:List Nd) (nm:List UInt8) (ne nb:Bool) (h0:lit true (decide (((60:Nat):Int)<(w.length:Int)))=true) (c0:CO 49 [.sl (aw e) e.length false] (.ret (.int .i64 0))) (c1:CO 49 [.sl (aw by_) by_.length false] (.ret (.int .i64 0))) (l0:aC prog ap [] 55 (.block 2 (.loop (ac 2 (ae f32)))) ⟨[(0,.sl (aw e) e.length ne),(1,.str nm),(2,.sl (aw by_) by_.length nb),(6,.nilS),(7,.int .i64 0),(9,.sl (aw by_) by_.length false),(10,.int .i64 0),(11,.nilS),(13,.dead),(16,.ref 0 0 0 2),(17,.int .i64 2),(18,.int .i64 2),(19,.bool false),(25,.bool false),(28,.sl (aw e) e.length ne),(29,.int .i64 (e.length:Int)),(30,.int .i64 0),(31,.dead),(42,.dead),(53,.dead)],[(0,⟨[.sl (aw e) e.length ne,.sl (aw by_) by_.length nb],0,false,0,1,true⟩)],.dead,[]⟩ (.normal) ⟨[(11,.ref 0 0 0 w.length)],[(0,⟨(aw w),0,false,0,5,true⟩)],.dead,[]⟩):CO 32 [.sl (aw e) e.length ne,.str nm,.sl (aw by_) by_.length nb] (.ret (.tup [.nilS,.int .i64 2])):=pK [2] 6 37 (.c h0 (.n 11 .nil)) (.l l0 (.c c1 (.c c0 .nil)))
theorem VH (e by_ w:List Nd) (nm:List UInt8) (ne nb:Bool) (h0:lit false (decide (((60:Nat):Int)<(w.length:Int)))=true) (c0:CO 49 [.sl (aw e) e.length false] (.ret (.int .i64 0))) (c1:CO 49 [.sl (aw by_) by_.length false] (.ret (.int .i64 0))) (l0:aC prog ap [] 55 (.block 2 (.loop (ac 2 (ae f32)))) ⟨[(0,.sl (aw e) e.length ne),(1,.str nm),(2,.sl (aw by_) by_.length nb),(6,.nilS),(7,.int .i64 0),(9,.sl (aw by_) by_.length false),(10,.int .i64 0),(11,.nilS),(13,.dead),(16,.ref 0 0 0 2),(17,.int .i64 2),(18,.int .i64 2),(19,.bool false),(25,.bool false),(28,.sl (aw e) e.length ne),(29,.int .i64 (e.length:Int)),(30,.int .i64 0),(31,.dead),(42,.dead),(53,.dead)],[(0,⟨[.sl (aw e) e.length ne,.sl (aw by_) by_.length nb],0,false,0,1,true⟩)],.dead,[]⟩ (.normal) ⟨[(11,.ref 0 0 0 w.length)],[(0,⟨(aw w),0,false,0,5,true⟩)],.dead,[]⟩):CO 32 [.sl (aw e) e.length ne,.str nm,.sl (aw by_) by_.length nb] (.ret (.tup [.own (List.take (w.length*5) (aw w)) w.length 5,.int .i64 0])):=pK [2] 6 5 (.c h0 (.n 11 .nil)) (.l l0 (.c c1 (.c c0 .nil)))
theorem Vu {nm:List UInt8} {by_ e:List Nd} (hb:by_ ≠ []) (he:e ≠ []):UH nm by_ e ≠ []:=by
 cases e with
 |nil=>exact absurd rfl he
 |cons x r=>
  unfold UH
  rw [List.flatMap_cons]
  split
  ·exact fun h=>hb (List.append_eq_nil_iff.1 h).1
  ·simp
theorem Vl (e by_:List Nd) (nm:List UInt8) (ne nb:Bool) (hl:e.length<2^10) (he:e ≠ []) (hb:by_ ≠ []) (hbl:by_.length<2^10) (hse:∀ x ∈ e,x.sm) (hsb:∀ x ∈ by_,x.sm) (hce:dX e=0) (hcb:dX by_=0):
  CO 32 [.sl (aw e) e.length ne,.str nm,.sl (aw by_) by_.length nb] (.ret (if 60<(UH nm by_ e).length then .tup [.nilS,.int .i64 2] else .tup [.own (aw (UH nm by_ e)) (UH nm by_ e).length 5,.int .i64 0])):=by
 have ce:=wI e false hse
 have cb:=wI by_ false hsb
 rw [hce] at ce
 rw [hcb] at cb
 have hloop:=fun nt (hn:55≤nt)=>Vp hn e by_ nm ne nb (by omega) hb hbl
 have l0:=aA.blk (id:=2) (e':= .normal) (s:=U6 e by_ nm ne nb (0,[])) (s':=Vj (UH nm by_ e)) hloop (by simp) rfl (aF.refl _) (aF.refl _)
 have hne:=Vu (nm:=nm) hb he
 revert hne l0
 generalize UH nm by_ e=w
 intro l0 hne
 unfold Vj at l0
 rw [U4 hne,U5 hne] at l0
 ·have l1:aC prog ap [] 55 (.block 2 (.loop (ac 2 (ae f32)))) ⟨[(0,.sl (aw e) e.length ne),(1,.str nm),(2,.sl (aw by_) by_.length nb),(6,.nilS),(7,.int .i64 0),(9,.sl (aw by_) by_.length false),(10,.int .i64 0),(11,.nilS),(13,.dead),(16,.ref 0 0 0 2),(17,.int .i64 2),(18,.int .i64 2),(19,.bool false),(25,.bool false),(28,.sl (aw e) e.length ne),(29,.int .i64 (e.length:Int)),(30,.int .i64 0),(31,.dead),(42,.dead),(53,.dead)],[(0,⟨[.sl (aw e) e.length ne,.sl (aw by_) by_.length nb],0,false,0,1,true⟩)],.dead,[]⟩ (.normal) ⟨[(11,.ref 0 0 0 w.length)],[(0,⟨(aw w),0,false,0,5,true⟩)],.dead,[]⟩:=fun nt hnt=>(l0 nt hnt).weak (aF.of ⟨rfl,rfl,rfl,rfl,rfl,rfl,rfl,trivial⟩) (aF.refl _)
  split
  ·rename_i hlt
   exact VG e by_ w nm ne nb (aQ (decide_eq_true (by omega))) ce cb l1
  ·rename_i hlt
   have:=VH e by_ w nm ne nb (aU (decide_eq_false (by omega))) ce cb l1
   rw [xo w] at this
   exact this
theorem UO {e:List Nd} {j:Nat} (h:j≤e.length):List.take (j*5) (aw e)=aw (e.take j):=by
 have h1:aw e=aw (e.take j)++aw (e.drop j):=by rw [← qy,List.take_append_drop]
 rw [h1,List.take_left' (by rw [aJ,List.length_take,Nat.min_eq_left h])]
theorem UW {e:List Nd} {j:Nat} (h:j≤e.length):List.drop (j*5) (aw e)=aw (e.drop j):=by
 have h1:aw e=aw (e.take j)++aw (e.drop j):=by rw [← qy,List.take_append_drop]
 rw [h1,List.drop_left' (by rw [aJ,List.length_take,Nat.min_eq_left h])]
theorem U9 {e:List Nd} {j:Nat} (h:j<e.length):List.drop ((0+Int.toNat (j:Int))*5) (aw e)=fk e[j]++aw (e.drop (j+1)):=by
 rw [aD,Nat.zero_add,UW (by omega),List.drop_eq_getElem_cons h];rfl
theorem UN {e:List Nd} {j i:Nat} (h:j<e.length):List.drop (j*5+i) (aw e)=List.drop i (fk e[j]++aw (e.drop (j+1))):=by
 have:=U9 h
 rw [aD,Nat.zero_add] at this
 rw [← List.drop_drop,this]
theorem Vi {e:List Nd} {j i:Nat} (h:j<e.length):List.take (j*5+i) (aw e)=aw (e.take j)++List.take i (fk e[j]++aw (e.drop (j+1))):=by
 have h1:aw e=aw (e.take j)++(fk e[j]++aw (e.drop (j+1))):=by
  have:=List.drop_eq_getElem_cons h
  rw [← xn,← this,← qy,List.take_append_drop]
 have hl:(aw (e.take j)).length=j*5:=by rw [aJ,List.length_take,Nat.min_eq_left (by omega)]
 rw [h1,List.take_append,List.take_of_length_le (by omega),hl,Nat.add_sub_cancel_left]
theorem U3 {e:List Nd} {j:Nat} (x:Nd) (h:j<e.length):List.take ((0+Int.toNat (j:Int))*5) (aw e)++fk x++List.drop (((0+Int.toNat (j:Int))*5)+5) (aw e)=aw (e.set j x):=by
 rw [aD,Nat.zero_add,UO (by omega),UN h,List.set_eq_take_append_cons_drop,if_pos h,qy,xn,List.append_assoc];rfl
theorem VD {e:List Nd} {j:Nat} (v:Int) (h:j<e.length):List.take (((0+Int.toNat (j:Int))*5)+0) (aw e)++ [AV.int .i64 v]++List.drop ((((0+Int.toNat (j:Int))*5)+0)+1) (aw e)=aw (e.set j {e[j] with op:=v}):=by
 rw [aD,Nat.zero_add,Nat.add_zero,UO (by omega),UN h,List.set_eq_take_append_cons_drop,if_pos h,qy,xn,List.append_assoc];rfl
theorem VC {e:List Nd} {j:Nat} (s:List UInt8) (h:j<e.length):List.take (((0+Int.toNat (j:Int))*5)+4) (aw e)++ [AV.str s]++List.drop ((((0+Int.toNat (j:Int))*5)+4)+1) (aw e)=aw (e.set j {e[j] with name:=s}):=by
 rw [aD,Nat.zero_add,Vi h,Nat.add_assoc,UN h,List.set_eq_take_append_cons_drop,if_pos h,qy,xn,List.append_assoc,List.append_assoc];rfl
theorem UM {e:List Nd} {j:Nat} {x:Nd} (he:∀ y ∈ e,y.sm) (hx:x.sm):∀ y ∈ e.set j x,y.sm:=by
 intro y hy
 rcases List.mem_or_eq_of_mem_set hy with h|rfl
 ·exact he y h
 ·exact hx
theorem Vy {e:List Nd} {j:Nat} (h:j<e.length):[]++List.take (((Int.toNat (j:Int)) - 0)*5) (aw e)=aw (e.take j):=by
 rw [List.nil_append,aD,Nat.sub_zero,UO (by omega)]
theorem Vz {e:List Nd} {j:Nat} (h:j<e.length):List.take ((0+((Int.toNat (j:Int)) - 0))*5) (aw (e.take j))++List.take (((Int.toNat (e.length:Int)) - (Int.toNat ((j+1:Nat):Int)))*5) (List.drop ((0+(Int.toNat ((j+1:Nat):Int)))*5) (aw e))=aw (e.take j++e.drop (j+1)):=by
 have h1:List.take (j*5) (aw (e.take j))=aw (e.take j):=List.take_of_length_le (by rw [aJ,List.length_take];have:=Nat.min_le_left j e.length;omega)
 have h2:List.take ((e.length - (j+1))*5) (aw (e.drop (j+1)))=aw (e.drop (j+1)):=List.take_of_length_le (by rw [aJ,List.length_drop];omega)
 rw [aD,aD,aD,Nat.sub_zero,Nat.zero_add,Nat.zero_add,UW (by omega),h1,h2,qy]
theorem UK (a:Int) (n:Nat) (h:0<n) (h2:n<1000):∃ k:Nat,k<n∧CO 18 [.int .i64 a,.int .i64 (n:Int)] (.ret (.int .i64 (k:Int))):=Ej a n h h2
theorem Vw (x:List Int) (nn:Bool) (q0 q1 q2 q3:Int) (n:Nd):CO 5 [.sl (iL x) x.length nn,.agg [.int .i64 q0,.int .i64 q1,.int .i64 q2,.int .i64 q3],.agg (fk n)] (.ret (.bool true)):=by
 obtain ⟨t,ht,ck⟩:=RL q0
 have h80:(x.take 80).length<2^62:=by rw [List.length_take];omega
 obtain ⟨e,h1,h2,h3,cm⟩:=QW ht (x.take 80) nn h80
 have hne:0<e.length:=List.length_pos_iff.2 h1.ne
 obtain ⟨j,hj,cj⟩:=UK q1 e.length hne (by omega)
 obtain ⟨s,hs,cs⟩:=UK q2 5 (by omega) (by omega)
 have hj2:j<2^62:=by omega
 have hsm:∀ E:List Nd,(∀ y ∈ E,y.sm)→CO 12 [.sl (aW aR) 12 true,.sl (aw E) E.length true] (.ret (.bool true)):=fun E hE=>Q8 aR E true true (by decide) hE
 have hy:=U9 hj
 have k0:decide (((0:Nat):Int)≤(j:Int))=true:=decide_eq_true (by omega)
 have k1:decide ((j:Int)<(e.length:Int))=true:=decide_eq_true (by omega)
 have k2:decide ((j:Int)≤(e.length:Int))=true:=decide_eq_true (by omega)
 have k3:decide ((e.length:Int)≤(e.length:Int))=true:=decide_eq_true (by omega)
 have k4:decide (((j+1:Nat):Int)≤(e.length:Int))=true:=decide_eq_true (by omega)
 have k5:decide (((0:Nat):Int)≤((j+1:Nat):Int))=true:=decide_eq_true (by omega)
 rcases (show s=0∨s=1∨s=2∨s=3∨s=4 by omega) with rfl|rfl|rfl|rfl|rfl
 ·have cn:=Ru [n] true
  have h12:CO 12 [.sl (aW aR) 12 true,.sl (List.take (e.length*5) (List.take ((0+(Int.toNat (j:Int)))*5) (aw e)++ [.int .i64 n.op,.bool n.neg,.str (List.take 60 n.num),.str (List.take 60 n.den),.str (List.take 25 n.name)]++List.drop (((0+(Int.toNat (j:Int)))*5)+5) (aw e))) e.length true] (.ret (.bool true)):=by
   have hs:=hsm (e.set j (tG n)) (UM h2 (Rv [n] (tG n) (by simp [uX])))
   rw [← xo,← U3 (tG n) hj,List.length_set] at hs
   exact hs
  exact pK [] 2 3 (.k 1 (show (Nat.ble (((0+(Int.toNat (j:Int)))*5)+5) (List.length (aw e)))=true by first|(simp [aJ];done)|(simp [aJ];omega)) (.c k0 (.c k1 (.k 20 (Tk 80 x.length) (.c (Tl 80 x.length) (.n 3 .nil)))))) (.c h12 (.c Q9 (.c cn (.c cs (.c cj (.c cm (.v 21 (.eq (Q_ 80 x nn)) (.v 20 (.eq (R0 80 x.length)) (.c ck (.c Q9 (.c LQ .nil)))))))))))
 ·obtain ⟨b,hb,cb⟩:=UK q3 26 (by omega) (by omega)
  have h12:CO 12 [.sl (aW aR) 12 true,.sl (List.take (e.length*5) (List.take (((0+(Int.toNat (j:Int)))*5)+0) (aw e)++ [.int .i64 (b:Int)]++List.drop ((((0+(Int.toNat (j:Int)))*5)+0)+1) (aw e))) e.length true] (.ret (.bool true)):=by
   have hs:=hsm (e.set j {e[j] with op:=(b:Int)}) (UM h2 (h2 e[j] (List.getElem_mem hj)))
   rw [← xo,← VD (b:Int) hj,List.length_set] at hs
   exact hs
  exact pK [] 3 6 (.k 1 (show (Nat.ble ((((0+(Int.toNat (j:Int)))*5)+0)+1) (List.length (aw e)))=true by first|(simp [aJ];done)|(simp [aJ];omega)) (.c k0 (.c k1 (.k 12 (Tk 80 x.length) (.c (Tl 80 x.length) (.n 3 .nil)))))) (.c h12 (.c Q9 (.c cb (.c cs (.c cj (.c cm (.v 21 (.eq (Q_ 80 x nn)) (.v 20 (.eq (R0 80 x.length)) (.c ck (.c Q9 (.c LQ .nil)))))))))))
 ·obtain ⟨b,hb,cb⟩:=UK q3 6 (by omega) (by omega)
  obtain ⟨w,hw⟩:∃ w:List UInt8,b=0∧w= [105,110,99,111,109,101]∨b=1∧w= [112,111,111,114]∨b=2∧w= [116,97,120]∨b=3∧w= [115,116,97,121]∨b=4∧w= [110,111,110,101]∨b=5∧w= []:=by
   rcases (show b=0∨b=1∨b=2∨b=3∨b=4∨b=5 by omega) with rfl|rfl|rfl|rfl|rfl|rfl<;>simp
  have h12:CO 12 [.sl (aW aR) 12 true,.sl (List.take (e.length*5) (List.take (((0+(Int.toNat (j:Int)))*5)+4) (aw e)++ [.str w]++List.drop ((((0+(Int.toNat (j:Int)))*5)+4)+1) (aw e))) e.length true] (.ret (.bool true)):=by
   have hs:=hsm (e.set j {e[j] with name:=w}) (UM h2 (h2 e[j] (List.getElem_mem hj)))
   rw [← xo,← VC w hj,List.length_set] at hs
   exact hs
  rcases hw with ⟨rfl,rfl⟩|⟨rfl,rfl⟩|⟨rfl,rfl⟩|⟨rfl,rfl⟩|⟨rfl,rfl⟩|⟨rfl,rfl⟩<;>
   exact pK [] 4 12 (.k 1 (show (Nat.ble ((((0+(Int.toNat (j:Int)))*5)+4)+1) (List.length (aw e)))=true by first|(simp [aJ];done)|(simp [aJ];omega)) (.c k0 (.c k1 (.k 16 (Tk 80 x.length) (.c (Tl 80 x.length) (.n 3 .nil)))))) (.c h12 (.c Q9 (.c cb (.c cs (.c cj (.c cm (.v 21 (.eq (Q_ 80 x nn)) (.v 20 (.eq (R0 80 x.length)) (.c ck (.c Q9 (.c LQ .nil)))))))))))
 ·have hc:((0+((Int.toNat (j:Int)) - 0))+((Int.toNat (e.length:Int)) - (Int.toNat (((j+1):Nat):Int))))=(e.take j++e.drop (j+1)).length:=by
   rw [aD,aD,aD,List.length_append,List.length_take,List.length_drop];omega
  have h12:CO 12 [.sl (aW aR) 12 true,.sl (List.take (((0+((Int.toNat (j:Int)) - 0))+((Int.toNat (e.length:Int)) - (Int.toNat (((j+1):Nat):Int))))*5) (aw (e.take j++e.drop (j+1)))) ((0+((Int.toNat (j:Int)) - 0))+((Int.toNat (e.length:Int)) - (Int.toNat (((j+1):Nat):Int)))) true] (.ret (.bool true)):=by
   rw [hc,xo]
   exact hsm _ fun z hz=>by
    rcases List.mem_append.1 hz with h|h
    ·exact h2 z (List.mem_of_mem_take h)
    ·exact h2 z (List.mem_of_mem_drop h)
  exact pK [] 5 24 (.k 1 (show (Nat.beq (List.length (List.take (((Int.toNat (e.length:Int)) - (Int.toNat (((j+1):Nat):Int)))*5) (List.drop ((0+(Int.toNat (((j+1):Nat):Int)))*5) (aw e)))) (((Int.toNat (e.length:Int)) - (Int.toNat (((j+1):Nat):Int)))*5))=true by first|(simp [aJ];done)|(simp [aJ];omega)) (.c (show (Nat.ble ((0+((Int.toNat (j:Int)) - 0))+((Int.toNat (e.length:Int)) - (Int.toNat (((j+1):Nat):Int)))) 1099511627776)=true by first|(simp [aJ];done)|(simp [aJ];omega)) (.c (show (Nat.ble ((0+((Int.toNat (j:Int)) - 0))*5) (List.length (aw (e.take j))))=true by first|(simp [aJ];done)|(simp [aJ];omega)) (.k 1 k5 (.c k4 (.c k3 (.c (show (Nat.beq (List.length (List.take (((Int.toNat (j:Int)) - 0)*5) (aw e))) (((Int.toNat (j:Int)) - 0)*5))=true by first|(simp [aJ];done)|(simp [aJ];omega)) (.c (show (Nat.ble (0+((Int.toNat (j:Int)) - 0)) 1099511627776)=true by first|(simp [aJ];done)|(simp [aJ];omega)) (.k 3 k0 (.c k2 (.k 11 (Tk 80 x.length) (.c (Tl 80 x.length) (.n 3 .nil))))))))))))) (.c h12 (.c Q9 (.b 92 (Vz hj) (.v 90 (.eq (zQ hj2)) (.b 87 (Vy hj) (.c cs (.c cj (.c cm (.v 21 (.eq (Q_ 80 x nn)) (.v 20 (.eq (R0 80 x.length)) (.c ck (.c Q9 (.c LQ .nil)))))))))))))
 ·obtain ⟨b,hb,cb⟩:=UK q3 e.length hne (by omega)
  have hz:=U9 hb
  have b0:decide (((0:Nat):Int)≤(b:Int))=true:=decide_eq_true (by omega)
  have b1:decide ((b:Int)<(e.length:Int))=true:=decide_eq_true (by omega)
  have hl:(e.set j e[b]).length=e.length:=List.length_set ..
  have hb2:b<(e.set j e[b]).length:=by omega
  have hq:∀ w ∈ (e.set j e[b]).set b e[j],w.sm:=UM (UM h2 (h2 e[b] (List.getElem_mem hb))) (h2 e[j] (List.getElem_mem hj))
  have e1:=U3 e[b] hj
  have e2:=U3 e[j] hb2
  rw [← e1] at e2
  obtain ⟨y,hyd⟩:∃ y,y=e[j]:=⟨_,rfl⟩
  obtain ⟨z,hzd⟩:∃ z,z=e[b]:=⟨_,rfl⟩
  rw [← hyd] at hy
  rw [← hzd] at hz
  have h12:CO 12 [.sl (aW aR) 12 true,.sl (List.take (e.length*5) (List.take ((0+(Int.toNat (b:Int)))*5) (List.take ((0+(Int.toNat (j:Int)))*5) (aw e)++ [.int .i64 z.op,.bool z.neg,.str z.num,.str z.den,.str z.name]++List.drop (((0+(Int.toNat (j:Int)))*5)+5) (aw e))++ [.int .i64 y.op,.bool y.neg,.str y.num,.str y.den,.str y.name]++List.drop (((0+(Int.toNat (b:Int)))*5)+5) (List.take ((0+(Int.toNat (j:Int)))*5) (aw e)++ [.int .i64 z.op,.bool z.neg,.str z.num,.str z.den,.str z.name]++List.drop (((0+(Int.toNat (j:Int)))*5)+5) (aw e)))) e.length true] (.ret (.bool true)):=by
   have hs:=hsm _ hq
   rw [← xo,← e2,← hyd,← hzd,List.length_set,List.length_set] at hs
   exact hs
  exact pK [] 5 16 (.k 1 (show (Nat.ble (((0+(Int.toNat (b:Int)))*5)+5) (List.length (List.take ((0+(Int.toNat (j:Int)))*5) (aw e)++ [.int .i64 z.op,.bool z.neg,.str z.num,.str z.den,.str z.name]++List.drop (((0+(Int.toNat (j:Int)))*5)+5) (aw e))))=true by first|(simp [aJ];done)|(simp [aJ];omega)) (.c b0 (.c b1 (.k 5 (show (Nat.ble (((0+(Int.toNat (j:Int)))*5)+5) (List.length (aw e)))=true by first|(simp [aJ];done)|(simp [aJ];omega)) (.c k0 (.c k1 (.a (DA [.int .i64,.bool,.str,.str,.str] hz rfl) (.c b0 (.c b1 (.n 1 (.a (DA [.int .i64,.bool,.str,.str,.str] hy rfl) (.c k0 (.c k1 (.k 14 (Tk 80 x.length) (.c (Tl 80 x.length) (.n 3 .nil)))))))))))))))) (.c h12 (.c Q9 (.v 45 (.rd [.int .i64,.bool,.str,.str,.str] hz rfl) (.v 39 (.rd [.int .i64,.bool,.str,.str,.str] hy rfl) (.c cb (.c cs (.c cj (.c cm (.v 21 (.eq (Q_ 80 x nn)) (.v 20 (.eq (R0 80 x.length)) (.c ck (.c Q9 (.c LQ .nil)))))))))))))
theorem Vh {op:Int} (h0:1≤op) (h:op≤24):(chk .bool (List.headD (List.drop ((0+((Int.toNat op)*5))+2) eR) .dead))=true∧(chk .bool (List.headD (List.drop ((0+((Int.toNat op)*5))+4) eR) .dead))=true:=by
 obtain ⟨k,rfl⟩:∃ k:Nat,op=k:=⟨op.toNat,by omega⟩
 rw [aD]
 rcases (show k=1∨k=2∨k=3∨k=4∨k=5∨k=6∨k=7∨k=8∨k=9∨k=10∨k=11∨k=12∨k=13∨k=14∨k=15∨k=16∨k=17∨k=18∨k=19∨k=20∨k=21∨k=22∨k=23∨k=24 by omega) with rfl|rfl|rfl|rfl|rfl|rfl|rfl|rfl|rfl|rfl|rfl|rfl|rfl|rfl|rfl|rfl|rfl|rfl|rfl|rfl|rfl|rfl|rfl|rfl<;>exact ⟨rfl,rfl⟩
def VA (op:Int):Bool:=AV.toBool (List.headD (List.drop ((0+((Int.toNat op)*5))+2) eR) .dead)
def VI (op:Int):Bool:=AV.toBool (List.headD (List.drop ((0+((Int.toNat op)*5))+4) eR) .dead)
theorem UU (op:Int):AV.bool (AV.toBool (List.headD (List.drop ((0+((Int.toNat op)*5))+2) eR) .dead))= .bool (VA op):=rfl
theorem Vk (op:Int):AV.bool (AV.toBool (List.headD (List.drop ((0+((Int.toNat op)*5))+4) eR) .dead))= .bool (VI op):=rfl
theorem Ve (e:List Nd) (h:e.length<2^20):CO 54 [.sl (aw e) e.length true] (.ret (.own (aw e) e.length 5)):=by
 have h:=(pK [] 1 0 (.c (show Nat.beq (List.length (aw e)) (e.length*5)=true by rw [aJ];exact Nat.beq_refl _) (.c (show Nat.ble (0+e.length) 1099511627776=true by rw [Nat.ble_eq];omega) (.n 3 .nil))) (.nil):CO 54 [.sl (aw e) e.length true] (.ret (.own (List.take ((0+e.length)*5) ([]++(aw e))) (0+e.length) 5)))
 rwa [List.nil_append,Nat.zero_add,xo] at h
theorem US {e:List Nd} {j:Nat} (neg:Bool) (n d:List UInt8) (h:j<e.length):(List.take (((0+(Int.toNat (j:Int)))*5)+1) (aw e)++ [.bool neg,.str n,.str d]++List.drop ((((0+(Int.toNat (j:Int)))*5)+1)+3) (aw e))=aw (e.set j {e[j] with neg:=neg,num:=n,den:=d}):=by
 rw [aD,Nat.zero_add,Vi h,Nat.add_assoc,UN h,List.set_eq_take_append_cons_drop,if_pos h,qy,xn,List.append_assoc,List.append_assoc];rfl
theorem Vq (e:List Nd) (j:Nat) (neg:Bool) (n d:List UInt8) (hj:j<e.length) (hl:e.length<2^10) (hse:∀ x ∈ e,x.sm) (hnm:n.length<2^33∧d.length<2^33) (hce:dX e=0) (hop:1≤e[j].op∧e[j].op≤24):
  (∃ w:Int,((w==((0:Nat):Int))=false)∧CO 33 [.sl (aw e) e.length true,.int .i64 (j:Int),.agg [.bool neg,.str n,.str d]] (.ret (.tup [.nilS,.int .i64 w])))∨(CO 33 [.sl (aw e) e.length true,.int .i64 (j:Int),.agg [.bool neg,.str n,.str d]] (.ret (.tup [.sl (aw (e.set j {e[j] with neg:=neg,num:=n,den:=d})) e.length true,.int .i64 0]))∧dX (e.set j {e[j] with neg:=neg,num:=n,den:=d})=0∧∀ x ∈ e.set j {e[j] with neg:=neg,num:=n,den:=d},x.sm):=by
 have c1:=wI e true hse
 rw [hce] at c1
 have cc:=Ve e (by omega)
 have hq:=Vh hop.1 hop.2
 have hs:∀ x ∈ e.set j {e[j] with neg:=neg,num:=n,den:=d},x.sm:=UM hse ⟨hnm.1,hnm.2⟩
 have c2:=wI (e.set j {e[j] with neg:=neg,num:=n,den:=d}) true hs
 rw [← xo,← US neg n d hj,List.length_set] at c2
 have hfin:=xo (e.set j {e[j] with neg:=neg,num:=n,den:=d})
 rw [List.length_set,← US neg n d hj] at hfin
 generalize dX (e.set j {e[j] with neg:=neg,num:=n,den:=d})=w at*
 have hdr:(List.drop ((Int.toNat (j:Int))*5) (aw e))=fk e[j]++aw (e.drop (j+1)):=by
  have:=U9 hj
  rw [Nat.zero_add] at this
  exact this
 have hx:∃ x,x=e[j]:=⟨_,rfl⟩
 obtain ⟨x,hx⟩:=hx
 rw [← hx] at hdr hop hq
 generalize aw (e.drop (j+1))=r at hdr
 have k0:decide (((0:Nat):Int)≤(j:Int))=true:=decide_eq_true (by omega)
 have k1:decide ((j:Int)<(e.length:Int))=true:=decide_eq_true (by omega)
 have k2:decide (((0:Nat):Int)≤x.op)=true:=decide_eq_true (by omega)
 have k3:decide (x.op<((25:Nat):Int))=true:=decide_eq_true (by omega)
 have k4:(Nat.ble ((((0+(Int.toNat (j:Int)))*5)+1)+3) (List.length (aw e)))=true:=by rw [aD,aJ,Nat.ble_eq];omega
 have d0:(decide ((j:Int)<((0:Nat):Int)))=false:=decide_eq_false (by omega)
 have d1:(decide ((e.length:Int)≤(j:Int)))=false:=decide_eq_false (by omega)
 rcases tf (VA x.op) with b0|b0
 ·rcases tf (w==((0:Nat):Int)) with b1|b1
  ·have hw:w=0:=by simpa using b1
   refine .inr ⟨?_,hw,hs⟩
   rw [← US neg n d hj,← hfin]
   exact pK [] 6 0 (.c (aG b1) (.c k4 (.c k0 (.c k1 (.k 4 (aG b0) (.c hq.1 (.c k2 (.c k3 (.k 1 k0 (.c k1 (.c (aU d1) (.c (aU d0) (.n 1 .nil))))))))))))) (.c c2 (.c cc (.v 32 (.eq (UU x.op)) (.v 27 (.ppt hdr) (.c c1 .nil)))))
  ·exact .inl ⟨w,b1,pK [] 6 32 (.c (bm b1) (.c k4 (.c k0 (.c k1 (.k 4 (aG b0) (.c hq.1 (.c k2 (.c k3 (.k 1 k0 (.c k1 (.c (aU d1) (.c (aU d0) (.n 1 .nil))))))))))))) (.c c2 (.c cc (.v 32 (.eq (UU x.op)) (.v 27 (.ppt hdr) (.c c1 .nil)))))⟩
 ·rcases tf (VI x.op) with b1|b1
  ·rcases tf (w==((0:Nat):Int)) with b2|b2
   ·have hw:w=0:=by simpa using b2
    refine .inr ⟨?_,hw,hs⟩
    rw [← US neg n d hj,← hfin]
    exact pK [] 6 8 (.c (aG b2) (.c k4 (.c k0 (.c k1 (.k 3 (aG b1) (.c hq.2 (.c k2 (.c k3 (.k 1 k0 (.c k1 (.c (bm b0) (.c hq.1 (.c k2 (.c k3 (.k 1 k0 (.c k1 (.c (aU d1) (.c (aU d0) (.n 1 .nil))))))))))))))))))) (.c c2 (.c cc (.v 42 (.eq (Vk x.op)) (.v 37 (.ppt hdr) (.v 32 (.eq (UU x.op)) (.v 27 (.ppt hdr) (.c c1 .nil)))))))
   ·exact .inl ⟨w,b2,pK [] 6 40 (.c (bm b2) (.c k4 (.c k0 (.c k1 (.k 3 (aG b1) (.c hq.2 (.c k2 (.c k3 (.k 1 k0 (.c k1 (.c (bm b0) (.c hq.1 (.c k2 (.c k3 (.k 1 k0 (.c k1 (.c (aU d1) (.c (aU d0) (.n 1 .nil))))))))))))))))))) (.c c2 (.c cc (.v 42 (.eq (Vk x.op)) (.v 37 (.ppt hdr) (.v 32 (.eq (UU x.op)) (.v 27 (.ppt hdr) (.c c1 .nil)))))))⟩
  ·exact .inl ⟨1,rfl,pK [] 5 24 (.c (bm b1) (.c hq.2 (.c k2 (.c k3 (.k 1 k0 (.c k1 (.c (bm b0) (.c hq.1 (.c k2 (.c k3 (.k 1 k0 (.c k1 (.c (aU d1) (.c (aU d0) (.n 1 .nil))))))))))))))) (.v 42 (.eq (Vk x.op)) (.v 37 (.ppt hdr) (.v 32 (.eq (UU x.op)) (.v 27 (.ppt hdr) (.c c1 .nil)))))⟩
theorem UX {l l':List Sg} (bad:Nd→Bool) (h1:∀ x own,bad x=false→(dG l x own).2=0→dG l' x own=dG l x own) (h2:∀ x own,bad x=true→(dG l' x own).2=12):∀ (r:List Nd) (k:Nat) (st:List Nat) (ts us:List Ty),dT l r k st ts= .inl us→dT l' r k st ts=if r.any bad then .inr 12 else .inl us:=by
 intro r
 induction r with
 |nil=>intro k st ts us h;exact h
 | cons x r ih=>
  intro k st ts us h
  simp only [dT] at h ⊢
  split at h
  ·rename_i h0
   cases hb:bad x with
   |true=>rw [List.any_cons,hb,h2 x _ hb];rfl
   |false=>
    rw [List.any_cons,hb,h1 x _ hb h0,if_pos h0,ih _ _ _ _ h,Bool.false_or]
  ·cases h
theorem UR {s:Sg} {op:Int} {nm:List UInt8} (h:¬(s.op=op∧s.name=nm)):gj s op nm=false:=by
 unfold gj
 cases h1:s.op==op with
 |false=>rfl
 |true=>
  cases h2:s.name==nm with
  |false=>rfl
  |true=>exact absurd ⟨by simpa using h1,by simpa using h2⟩ h
theorem UZ {s:Sg} {op:Int} {nm:List UInt8} (h:gj s op nm=true):s.op=op∧s.name=nm∧br op=true:=by
 unfold gj at h
 simp only [Bool.and_eq_true,beq_iff_eq] at h
 exact ⟨h.1,h.2.1,h.2.2.1⟩
theorem U8 {l:List Sg} {op:Int} {nm:List UInt8} {t:Ty} (h:dL l op nm=some t):br op=true∧∃ s ∈ l,s.op=op∧s.name=nm:=by
 unfold dL at h
 rw [Option.map_eq_some_iff] at h
 obtain ⟨s,h1,_⟩:=h
 have h2:=UZ (List.find?_some (p:=fun s=>gj s op nm) h1)
 exact ⟨h2.2.2,s,List.mem_of_find?_eq_some h1,h2.1,h2.2.1⟩
theorem UQ {l:List Sg} {op:Int} {nm:List UInt8} (h:br op=false):dL l op nm=none:=by
 cases hf:dL l op nm with
 |none=>rfl
 |some t=>rw [(U8 hf).1] at h;cases h
theorem U_ {l l':List Sg} {x:Nd} {own:List Ty} (h0:(dG l x own).2=0) (h:∀ t,dL l x.op x.name=some t→dL l' x.op x.name=some t):dG l' x own=dG l x own:=by
 cases hn:br x.op with
 |false=>unfold dG;rw [UQ hn,UQ hn]
 | true=>
  cases hf:dL l x.op x.name with
  |some t=>unfold dG;rw [h t hf,hf]
  |none=>
   unfold dG at h0
   rw [hf,hn] at h0
   exact absurd h0 (by show ¬((12:Int)=0);decide)
def UV (s:Sg) (t:Ty):List Sg:= [⟨5,[111,116,104,101,114],t⟩,⟨s.op,s.name,⟨true,0,1⟩⟩,⟨s.op,s.name,⟨false,4,0⟩⟩,⟨9,s.name,s.ty⟩,⟨24,s.name,⟨true,0,0⟩⟩]++aR++ [⟨s.op,s.name,t⟩]
theorem Vc (s:Sg) (t:Ty) {op:Int} {nm:List UInt8} {u:Ty} (h:dL aR op nm=some u):dL (UV s t) op nm=some u:=by
 obtain ⟨hn,s0,hs0,e1,e2⟩:=U8 h
 have q0:gj ⟨5,[111,116,104,101,114],t⟩ op nm=false:=UR fun ⟨_,g2⟩=>by
  rw [← e2] at g2
  have:∀ z ∈ aR,z.name ≠ [111,116,104,101,114]:=by decide
  exact this s0 hs0 g2.symm
 have q1:gj ⟨s.op,s.name,⟨true,0,1⟩⟩ op nm=false:=by
  unfold gj;rw [show aI ⟨true,0,1⟩=false from rfl];simp
 have q2:gj ⟨s.op,s.name,⟨false,4,0⟩⟩ op nm=false:=by
  unfold gj;rw [show aI ⟨false,4,0⟩=false from rfl];simp
 have q3:gj ⟨9,s.name,s.ty⟩ op nm=false:=by
  cases hh:gj ⟨9,s.name,s.ty⟩ op nm with
  |false=>rfl
  |true=>rw [← (UZ hh).1] at hn;cases hn
 have q4:gj ⟨24,s.name,⟨true,0,0⟩⟩ op nm=false:=by
  cases hh:gj ⟨24,s.name,⟨true,0,0⟩⟩ op nm with
  |false=>rfl
  |true=>
   have h1:=(UZ hh).1
   unfold gj at hh
   rw [← h1] at hh
   simp at hh
 unfold dL UV at*
 rw [Option.map_eq_some_iff] at h ⊢
 obtain ⟨z,h1,h2⟩:=h
 refine ⟨z, ?_,h2⟩
 rw [List.append_assoc,List.find?_append,List.find?_append,h1]
 simp only [List.find?_cons,q0,q1,q2,q3,q4,List.find?_nil]
 rfl
def UT (j:Nat):List Sg:=aR.take j++aR.drop (j+1)
def Vn (s:Sg) (x:Nd):Bool:=x.op==s.op && x.name==s.name
theorem Va {j:Nat} (hj:j<aR.length) {op:Int} {nm:List UInt8} {u:Ty} (hb:¬(aR[j].op=op∧aR[j].name=nm)) (h:dL aR op nm=some u):dL (UT j) op nm=some u:=by
 have hd:aR=aR.take j++aR[j]::aR.drop (j+1):=by rw [← List.drop_eq_getElem_cons hj,List.take_append_drop]
 have hh:=UR hb
 generalize aR[j]=s at hd hh
 unfold dL UT at*
 rw [hd,List.find?_append,List.find?_cons,hh] at h
 rw [List.find?_append]
 exact h
theorem Vb {j:Nat} (hj:j<12):dL (UT j) (aR.getD j ⟨0,[],zT⟩).op (aR.getD j ⟨0,[],zT⟩).name=none∧br (aR.getD j ⟨0,[],zT⟩).op=true:=by
 rcases (show j=0∨j=1∨j=2∨j=3∨j=4∨j=5∨j=6∨j=7∨j=8∨j=9∨j=10∨j=11 by omega) with rfl|rfl|rfl|rfl|rfl|rfl|rfl|rfl|rfl|rfl|rfl|rfl<;>exact ⟨by kernel_rfl,by kernel_rfl⟩
theorem VB {e:List Nd} {t:Ty} (s:Sg) (v:Ty) (h:Tm aR e t) (he:e.length≤60):lV (UV s v) e=(t,0):=by
 obtain ⟨u,hu,h1⟩:=h.types he
 have h2:eL (UV s v) e= .inl (u++ [t]):=by
  unfold eL at h1 ⊢
  rw [if_pos (h.check he)] at h1 ⊢
  have:=UX (l:=aR) (l':=UV s v) (fun _=>false) (fun x own _ h0=>U_ h0 fun T hT=>Vc s v hT) (fun x own hb=>by cases hb) e 0 [] [] _ h1
  rw [this]
  simp
 unfold lV
 rw [h2]
 simp
theorem Vx {e:List Nd} {t:Ty} {j:Nat} (hj:j<12) (h:Tm aR e t) (he:e.length≤60):∃ u,eL (UT j) e=if e.any (Vn (aR.getD j ⟨0,[],zT⟩)) then .inr 12 else .inl (u++ [t]):=by
 obtain ⟨u,hu,h1⟩:=h.types he
 refine ⟨u, ?_⟩
 obtain ⟨n1,n2⟩:=Vb hj
 have hj2:j<aR.length:=hj
 have hg:aR.getD j ⟨0,[],zT⟩=aR[j]:=by rw [List.getD_eq_getElem?_getD,List.getElem?_eq_getElem hj2];rfl
 rw [hg] at n1 n2 ⊢
 unfold eL at h1 ⊢
 rw [if_pos (h.check he)] at h1 ⊢
 refine UX (l:=aR) (l':=UT j) (Vn aR[j]) (fun x own hb h0=>U_ h0 fun T hT=>Va hj2 (fun ⟨g1,g2⟩=> ?_) hT) (fun x own hb=> ?_) e 0 [] [] _ h1
 ·unfold Vn at hb
  rw [← g1,← g2] at hb
  simp at hb
 ·unfold Vn at hb
  simp only [Bool.and_eq_true,beq_iff_eq] at hb
  unfold dG
  rw [hb.1,hb.2,n1,n2]
  rfl
theorem UJ (nm:List UInt8) (b x y:List Nd):UH nm b (x++y)=UH nm b x++UH nm b y:=by unfold UH;rw [List.flatMap_append]
theorem UL {nm:List UInt8} {b:List Nd} {x:Nd} (h:UI nm x=false):UH nm b [x]= [x]:=by simp [UH,h]
theorem UY {nm:List UInt8} {x:Nd} {k:Nat} (h:bB x.op=k+1):UI nm x=false:=by
 unfold UI
 cases hh:(x.op==((6:Nat):Int)) with
 |false=>rfl
 |true=>rw [show x.op=((6:Nat):Int) by simpa using hh] at h;cases h
theorem Tm.subst {l:List Sg} {e:List Nd} {t:Ty} (h:Tm l e t) {b:List Nd} {tb:Ty} {nm:List UInt8} (hb:Tm l b tb) (hn:dL l 6 nm=some tb):Tm l (UH nm b e) t:=by
 induction h with
 | @n0 x t hw ha ht=>
  cases hh:UI nm x with
  |false=>rw [UL hh];exact .n0 hw ha ht
  |true=>
   have e1:UH nm b [x]=b:=by simp [UH,hh]
   unfold UI at hh
   simp only [Bool.and_eq_true,beq_iff_eq] at hh
   unfold dG at ht
   rw [hh.1,hh.2,show (((6:Nat):Int))=6 from rfl,hn] at ht
   have e2:(tb,(0:Int))=(t,0):=ht
   rw [e1,← (Prod.mk.inj e2).1]
   exact hb
 |n1 _ hw ha ht iha=>rw [UJ,UL (UY ha)];exact .n1 iha hw ha ht
 |n2 _ _ hw ha ht iha ihb=>rw [UJ,UJ,UL (UY ha)];exact .n2 iha ihb hw ha ht
 |n3 _ _ _ hw ha ht iha ihb ihc=>rw [UJ,UJ,UJ,UL (UY ha)];exact .n3 iha ihb ihc hw ha ht
theorem Vr (l:List Sg):∀ (r r':List Nd) (k:Nat) (st:List Nat) (ts:List Ty),r.map (fun x=>(x.op,x.name))=r'.map (fun x=>(x.op,x.name))→dT l r k st ts=dT l r' k st ts:=by
 intro r
 induction r with
 |nil=>intro r' k st ts h;cases r' with|nil=>rfl|cons _ _=>cases h
 | cons x r ih=>
  intro r' k st ts h
  cases r' with
  |nil=>cases h
  |cons y r'=>
   simp only [List.map_cons,List.cons.injEq,Prod.mk.injEq] at h
   have e:∀ own,dG l x own=dG l y own:=fun own=>by unfold dG;rw [h.1.1,h.1.2]
   simp only [dT,e,h.1.1]
   rw [ih r' _ _ _ h.2]
theorem Tm.wrong {l:List Sg} {e:List Nd} {t:Ty} (h:Tm l e t):∀ x ∈ e,az x=0:=by
 induction h with
 |n0 hw _ _=>intro y hy;rw [List.mem_singleton] at hy;rw [hy];exact hw
 |n1 _ hw _ _ iha=>intro y hy;rcases List.mem_append.1 hy with h|h;exact iha y h;rw [List.mem_singleton] at h;rw [h];exact hw
 |n2 _ _ hw _ _ iha ihb=>
  intro y hy
  simp only [List.mem_append,List.mem_singleton] at hy
  rcases hy with (h|h)|h
  ·exact iha y h
  ·exact ihb y h
  ·rw [h];exact hw
 |n3 _ _ _ hw _ _ iha ihb ihc=>
  intro y hy
  simp only [List.mem_append,List.mem_singleton] at hy
  rcases hy with ((h|h)|h)|h
  ·exact iha y h
  ·exact ihb y h
  ·exact ihc y h
  ·rw [h];exact hw
theorem Vm {x:Nd} (h:az x=0):1≤x.op∧x.op≤24:=by
 cases hi:Ch x.op with
 |false=>unfold az at h;rw [hi] at h;cases h
 |true=>unfold Ch at hi;simpa using hi
theorem Vd {l:List Sg} {e:List Nd} {t:Ty} {j:Nat} (h:Tm l e t) (he:e.length≤60) (hj:j<e.length) (neg:Bool) (n d:List UInt8) (hc:dX (e.set j {e[j] with neg:=neg,num:=n,den:=d})=0):lV l (e.set j {e[j] with neg:=neg,num:=n,den:=d})=(t,0):=by
 have h1:=h.type he
 unfold lV eL at h1 ⊢
 rw [if_pos (h.check he)] at h1
 rw [if_pos hc,← Vr l e _ 0 [] []]
 ·exact h1
 ·rw [List.map_set]
  refine List.ext_getElem? fun i=> ?_
  rw [List.getElem?_set]
  split
  ·rename_i hij
   subst hij
   rw [List.length_map,if_pos hj,List.getElem?_map,List.getElem?_eq_getElem hj];rfl
  ·rfl
theorem Vv {nm:List UInt8} {b e:List Nd} (hb:∀ x ∈ b,x.sm) (he:∀ x ∈ e,x.sm):∀ x ∈ UH nm b e,x.sm:=by
 intro x hx
 unfold UH at hx
 obtain ⟨y,hy,h⟩:=List.mem_flatMap.1 hx
 split at h
 ·exact hb x h
 ·rw [List.mem_singleton] at h;rw [h];exact he y hy
theorem Vo (x y:List Int) (nx ny:Bool) (q0 q1 q2 q3:Int):CO 10 [.sl (iL x) x.length nx,.sl (iL y) y.length ny,.agg [.int .i64 q0,.int .i64 q1,.int .i64 q2,.int .i64 q3]] (.ret (.bool true)):=by
 obtain ⟨t,ht,ck⟩:=RL q0
 have h80:(x.take 80).length<2^62:=by rw [List.length_take];omega
 have h81:(y.take 80).length<2^62:=by rw [List.length_take];omega
 obtain ⟨e,h1,h2,h3,cm⟩:=QW ht (x.take 80) nx h80
 obtain ⟨b1,g1,g2,g3,cm1⟩:=QW (t:=tM) (.inl (by simp [bF])) (y.take 80) ny h81
 obtain ⟨b2,f1,f2,f3,cm2⟩:=QW (t:=tT) (.inl (by simp [bF])) (y.take 80) ny h81
 have hne:0<e.length:=List.length_pos_iff.2 h1.ne
 obtain ⟨j,hj,cj⟩:=Ej q2 e.length hne (by omega)
 obtain ⟨k,hk,ckk⟩:=Ej q3 9 (by omega) (by omega)
 have cq:=dR (k:Int) (by omega) (by omega)
 obtain ⟨_,a2,a3⟩:=xz (v:=(k:Int)) (by omega) (by omega)
 generalize nG (k:Int)=q at*
 have hq:=sx (op:=0) a2 a3
 have hsw:=Vq e j q.neg (ak q.n) (ak q.d) hj (by omega) h2 hq (h1.check (by omega)) (Vm (h1.wrong _ (List.getElem_mem hj)))
 have hst:=fun (hc:dX (e.set j {e[j] with neg:=q.neg,num:=ak q.n,den:=ak q.d})=0)=>Vd h1 (by omega) hj q.neg (ak q.n) (ak q.d) hc
 have hel:(e.set j {e[j] with neg:=q.neg,num:=ak q.n,den:=ak q.d}).length=e.length:=List.length_set ..
 generalize e.set j {e[j] with neg:=q.neg,num:=ak q.n,den:=ak q.d}=E at*
 have key:∀ (b:List Nd) (nm:List UInt8) (tb:Ty),Tm aR b tb→(∀ x ∈ b,x.sm)→b.length≤13→dL aR 6 nm=some tb→
   CO 32 [.sl (List.take (e.length*5) (aw e)) e.length true,.str nm,.sl (List.take (b.length*5) (aw b)) b.length true] (.ret (.tup [.nilS,.int .i64 2]))∨
   ∃ F,CO 32 [.sl (List.take (e.length*5) (aw e)) e.length true,.str nm,.sl (List.take (b.length*5) (aw b)) b.length true] (.ret (.tup [.own (aw F) F.length 5,.int .i64 0]))∧CO 17 [.sl (aW aR) 12 true,.sl (List.take (F.length*5) (aw F)) F.length true,.agg (bC t)] (.ret (.bool true)):=by
  intro b nm tb hb hbs hbl hf
  have hs:=Vl e b nm true true (by omega) h1.ne hb.ne (by omega) h2 hbs (h1.check (by omega)) (hb.check (by omega))
  rw [xo,xo]
  rcases Nat.lt_or_ge 60 (UH nm b e).length with hlt|hge
  ·rw [if_pos hlt] at hs;exact .inl hs
  ·rw [if_neg (by omega)] at hs
   refine .inr ⟨_,hs, ?_⟩
   rw [xo]
   exact Q0 aR _ true true t (by decide) (Vv hbs h2) ((h1.subst hb hf).type (by omega))
 have swp:(∃ w:Int,((w==((0:Nat):Int))=false)∧CO 33 [.sl (List.take (e.length*5) (aw e)) e.length true,.int .i64 (j:Int),.agg [.bool q.neg,.str (ak q.n),.str (ak q.d)]] (.ret (.tup [.nilS,.int .i64 w])))∨
   (CO 33 [.sl (List.take (e.length*5) (aw e)) e.length true,.int .i64 (j:Int),.agg [.bool q.neg,.str (ak q.n),.str (ak q.d)]] (.ret (.tup [.sl (aw E) e.length true,.int .i64 0]))∧CO 17 [.sl (aW aR) 12 true,.sl (aw E) e.length true,.agg (bC t)] (.ret (.bool true))):=by
  rw [xo]
  rcases hsw with h|⟨ha,hb,hc⟩
  ·exact .inl h
  ·refine .inr ⟨ha, ?_⟩
   rw [← hel]
   exact Q0 aR E true true t (by decide) hc (hst hb)
 clear hsw hst
 rcases tf (Int.tmod q1 ((2:Nat):Int)==((0:Nat):Int)) with b0|b0
 ·rcases key b2 [112,111,111,114] tT f1 f2 f3 (by kernel_rfl) with hs|⟨F,hs,h17F⟩
  ·rcases swp with ⟨w,hw,cw⟩|⟨cw,h17E⟩
   ·exact pK [] 5 25 (.c (bm hw) (.k 10 (Tk 80 y.length) (.c (Tl 80 y.length) (.c (aQ b0) (.k 5 (Tk 80 y.length) (.c (Tl 80 y.length) (.k 1 (Tk 80 x.length) (.c (Tl 80 x.length) (.n 7 .nil))))))))) (.c cw (.c cq (.c ckk (.c cj (.c hs (.c cm2 (.v 45 (.eq (Q_ 80 y ny)) (.v 44 (.eq (R0 80 y.length)) (.c iT (.c Q9 (.c cm1 (.v 33 (.eq (Q_ 80 y ny)) (.v 32 (.eq (R0 80 y.length)) (.c (nF 1 0) (.c Q9 (.c cm (.v 25 (.eq (Q_ 80 x nx)) (.v 24 (.eq (R0 80 x.length)) (.c Q9 (.c ck (.c LQ .nil)))))))))))))))))))))
   ·exact pK [] 5 9 (.k 14 (Tk 80 y.length) (.c (Tl 80 y.length) (.c (aQ b0) (.k 5 (Tk 80 y.length) (.c (Tl 80 y.length) (.k 1 (Tk 80 x.length) (.c (Tl 80 x.length) (.n 7 .nil)))))))) (.c h17E (.c Q9 (.c cw (.c cq (.c ckk (.c cj (.c hs (.c cm2 (.v 45 (.eq (Q_ 80 y ny)) (.v 44 (.eq (R0 80 y.length)) (.c iT (.c Q9 (.c cm1 (.v 33 (.eq (Q_ 80 y ny)) (.v 32 (.eq (R0 80 y.length)) (.c (nF 1 0) (.c Q9 (.c cm (.v 25 (.eq (Q_ 80 x nx)) (.v 24 (.eq (R0 80 x.length)) (.c Q9 (.c ck (.c LQ .nil)))))))))))))))))))))))
  ·rcases swp with ⟨w,hw,cw⟩|⟨cw,h17E⟩
   ·exact pK [] 5 27 (.c (bm hw) (.k 13 (Tk 80 y.length) (.c (Tl 80 y.length) (.c (aQ b0) (.k 5 (Tk 80 y.length) (.c (Tl 80 y.length) (.k 1 (Tk 80 x.length) (.c (Tl 80 x.length) (.n 7 .nil))))))))) (.c cw (.c cq (.c ckk (.c cj (.c h17F (.c Q9 (.c hs (.c cm2 (.v 45 (.eq (Q_ 80 y ny)) (.v 44 (.eq (R0 80 y.length)) (.c iT (.c Q9 (.c cm1 (.v 33 (.eq (Q_ 80 y ny)) (.v 32 (.eq (R0 80 y.length)) (.c (nF 1 0) (.c Q9 (.c cm (.v 25 (.eq (Q_ 80 x nx)) (.v 24 (.eq (R0 80 x.length)) (.c Q9 (.c ck (.c LQ .nil)))))))))))))))))))))))
   ·exact pK [] 5 11 (.k 17 (Tk 80 y.length) (.c (Tl 80 y.length) (.c (aQ b0) (.k 5 (Tk 80 y.length) (.c (Tl 80 y.length) (.k 1 (Tk 80 x.length) (.c (Tl 80 x.length) (.n 7 .nil)))))))) (.c h17E (.c Q9 (.c cw (.c cq (.c ckk (.c cj (.c h17F (.c Q9 (.c hs (.c cm2 (.v 45 (.eq (Q_ 80 y ny)) (.v 44 (.eq (R0 80 y.length)) (.c iT (.c Q9 (.c cm1 (.v 33 (.eq (Q_ 80 y ny)) (.v 32 (.eq (R0 80 y.length)) (.c (nF 1 0) (.c Q9 (.c cm (.v 25 (.eq (Q_ 80 x nx)) (.v 24 (.eq (R0 80 x.length)) (.c Q9 (.c ck (.c LQ .nil)))))))))))))))))))))))))
 ·rcases key b1 [116,97,120] tM g1 g2 g3 (by kernel_rfl) with hs|⟨F,hs,h17F⟩
  ·rcases swp with ⟨w,hw,cw⟩|⟨cw,h17E⟩
   ·exact pK [] 5 24 (.c (bm hw) (.k 9 (aU b0) (.k 5 (Tk 80 y.length) (.c (Tl 80 y.length) (.k 1 (Tk 80 x.length) (.c (Tl 80 x.length) (.n 7 .nil))))))) (.c cw (.c cq (.c ckk (.c cj (.c hs (.c cm1 (.v 33 (.eq (Q_ 80 y ny)) (.v 32 (.eq (R0 80 y.length)) (.c (nF 1 0) (.c Q9 (.c cm (.v 25 (.eq (Q_ 80 x nx)) (.v 24 (.eq (R0 80 x.length)) (.c Q9 (.c ck (.c LQ .nil))))))))))))))))
   ·exact pK [] 5 8 (.k 13 (aU b0) (.k 5 (Tk 80 y.length) (.c (Tl 80 y.length) (.k 1 (Tk 80 x.length) (.c (Tl 80 x.length) (.n 7 .nil)))))) (.c h17E (.c Q9 (.c cw (.c cq (.c ckk (.c cj (.c hs (.c cm1 (.v 33 (.eq (Q_ 80 y ny)) (.v 32 (.eq (R0 80 y.length)) (.c (nF 1 0) (.c Q9 (.c cm (.v 25 (.eq (Q_ 80 x nx)) (.v 24 (.eq (R0 80 x.length)) (.c Q9 (.c ck (.c LQ .nil))))))))))))))))))
  ·rcases swp with ⟨w,hw,cw⟩|⟨cw,h17E⟩
   ·exact pK [] 5 26 (.c (bm hw) (.k 12 (aU b0) (.k 5 (Tk 80 y.length) (.c (Tl 80 y.length) (.k 1 (Tk 80 x.length) (.c (Tl 80 x.length) (.n 7 .nil))))))) (.c cw (.c cq (.c ckk (.c cj (.c h17F (.c Q9 (.c hs (.c cm1 (.v 33 (.eq (Q_ 80 y ny)) (.v 32 (.eq (R0 80 y.length)) (.c (nF 1 0) (.c Q9 (.c cm (.v 25 (.eq (Q_ 80 x nx)) (.v 24 (.eq (R0 80 x.length)) (.c Q9 (.c ck (.c LQ .nil))))))))))))))))))
   ·exact pK [] 5 10 (.k 16 (aU b0) (.k 5 (Tk 80 y.length) (.c (Tl 80 y.length) (.k 1 (Tk 80 x.length) (.c (Tl 80 x.length) (.n 7 .nil)))))) (.c h17E (.c Q9 (.c cw (.c cq (.c ckk (.c cj (.c h17F (.c Q9 (.c hs (.c cm1 (.v 33 (.eq (Q_ 80 y ny)) (.v 32 (.eq (R0 80 y.length)) (.c (nF 1 0) (.c Q9 (.c cm (.v 25 (.eq (Q_ 80 x nx)) (.v 24 (.eq (R0 80 x.length)) (.c Q9 (.c ck (.c LQ .nil))))))))))))))))))))
end Go.Proofs.Tryz
set_option maxRecDepth 100000
open Go AM Go.ChangeShapes Go.WideShapes Go.ChangeAt Go.RowKit
namespace Go.Proofs.YtpjkeigmiooooaaGreatDoor.subst
open Go.Proofs.Tryz
theorem Vg (os:Os):laidMet Tryz.prog Rows.checkSubstRow.laid ((LM os).forCall (fun _ _=>0) ⟨#[],#[.slice none 0 0,.slice none 0 0,.agg #[.int .i64 0,.int .i64 0,.int .i64 0,.int .i64 0]],[]⟩).memory:=
 laidMet_of_run' 8 (by kernel_rfl) (by kernel_rfl)
theorem VF (os:Os) {H:Type} (enc:TypeId × Value→H):∃ places,DataW.whole enc Tryz.prog ((LM os).forCall (fun _ _=>0) ⟨#[],#[.slice none 0 0,.slice none 0 0,.agg #[.int .i64 0,.int .i64 0,.int .i64 0,.int .i64 0]],[]⟩).memory Tryz.f10.params.toList Rows.checkSubstSpec.vars false [.slice none 0 0,.slice none 0 0,.agg #[.int .i64 0,.int .i64 0,.int .i64 0,.int .i64 0]] 8=some ([.nil,.nil,.agg [.lit (.int .i64 0),.lit (.int .i64 0),.lit (.int .i64 0),.lit (.int .i64 0)]],[],places):=
 ⟨[],by kernel_rfl⟩
theorem Vf (H:Type) (enc:TypeId × Value→H) (W:World) (base:Nat) (args:Array Value) (ds gs:List (DataW H)) (before:List MemPlace)
  (hval:∀ (j:Nat) t v,Tryz.f10.params[j]? =some t→args[j]? =some v→Value.okWide Tryz.prog W .any base t v)
  (hW:DataW.Whole enc Tryz.prog Tryz.f10.params.toList Rows.checkSubstSpec.vars false W args.toList ds gs before) (hL:laidMetH Tryz.prog Rows.checkSubstRow.laid W):
  Calls Tryz.prog 10 args W fun e W'=> ∃ v,e= .returned v∧Rows.checkSubstSpec.post enc Tryz.prog Tryz.f10 false true false false W args v W':=by
 have hW':=hW
 obtain ⟨pp,qq,hA0,hV,rfl,hfz,hnd⟩:=hW
 have hA:DataW.TrodAll enc Tryz.prog W 0 (fun _=>true) true Tryz.f10.params.toList args.toList ds pp:=hA0
 obtain ⟨al⟩:=args
 simp only at hA hW' hval ⊢
 rw [Tryz.params10] at hA hval
 obtain ⟨v0,vs0,d0,ds0,p0,q0,rfl,rfl,rfl,h0,hA0⟩:=trodAll_cons hA
 obtain ⟨v1,vs1,d1,ds1,p1,q1,rfl,rfl,rfl,h1,hA1⟩:=trodAll_cons hA0
 obtain ⟨v2,vs2,d2,ds2,p2,q2,rfl,rfl,rfl,h2,hA2⟩:=trodAll_cons hA1
 obtain ⟨rfl,rfl,rfl⟩:=trodAll_nil hA2
 obtain ⟨rfl,rfl⟩:=trodVars_none hV
 obtain ⟨L0,f0,pr0⟩:=OW (t:=34) (e:=3) (n:=4) (ks:= [.int .i64]) (by kernel_rfl) (by kernel_rfl) (by kernel_rfl) (hval 0 34 v0 rfl rfl) h0
 obtain ⟨x,e0,n0⟩:=LL (fun a:Int=> [AV.int .i64 a]) (L:=L0) (fun x hx=>SZ (f0 x hx))
 rw [e0,n0,QZ] at pr0
 obtain ⟨L1,f1,pr1⟩:=OW (t:=34) (e:=3) (n:=4) (ks:= [.int .i64]) (by kernel_rfl) (by kernel_rfl) (by kernel_rfl) (hval 1 34 v1 rfl rfl) h1
 obtain ⟨y,e1,n1⟩:=LL (fun a:Int=> [AV.int .i64 a]) (L:=L1) (fun x hx=>SZ (f1 x hx))
 rw [e1,n1,QZ] at pr1
 have g2:=LN (n:=4) (ks:= [.int .i64,.int .i64,.int .i64,.int .i64]) (by kernel_rfl) h2
 generalize hc2:v2.cells.toList=c2 at g2
 rcases g2 with _|@⟨_,q0,_,_,g2⟩|_|_
 rcases g2 with _|@⟨_,q1,_,_,g2⟩|_|_
 rcases g2 with _|@⟨_,q2,_,_,g2⟩|_|_
 rcases g2 with _|@⟨_,q3,_,_,g2⟩|_|_
 cases g2
 rw [FV hc2 (by simp)] at hW' ⊢
 have hv:cZ (mL W) [.sl (iL x) x.length false,.sl (iL y) y.length false,.agg [.int .i64 q0,.int .i64 q1,.int .i64 q2,.int .i64 q3]] [v0,v1,.agg #[.int .i64 q0,.int .i64 q1,.int .i64 q2,.int .i64 q3]]:=by
  simp only [cZ,and_true]
  refine ⟨pr0,pr1, ?_⟩
  simp only [PR]
  exact ⟨[.int .i64 q0,.int .i64 q1,.int .i64 q2,.int .i64 q3],rfl,by simp [cZ,PR]⟩
 refine (JD (Vo x y false false q0 q1 q2 q3) (NP hL) hv).mono fun e W' ⟨he,hb⟩=> ?_
 subst he
 exact ⟨_,rfl,NZ Q4 (by kernel_rfl) hW' rfl (tb:=4) rfl (by kernel_rfl) rfl hb⟩
theorem Vs (os:Os) (started:os.Started) (H:Type) (enc:TypeId × Value→H) (F:Stop.Interp):
  ReturnsInHanded {} Tryz.checked os 10 .any ((OpenSpec.ofChange Rows.checkSubstSpec).preRow enc Tryz.prog Tryz.f10 Rows.checkSubstRow.domain false Rows.checkSubstRow.laid) (((OpenSpec.ofChange Rows.checkSubstSpec).at F).post enc Tryz.prog Tryz.f10 false true false false):=by
 obtain ⟨places,hx⟩:=VF os enc
 refine returnsInHanded_of_row (C:=Tryz.checked) (s:=OpenSpec.ofChange Rows.checkSubstSpec) own started (by kernel_rfl) Tryz.func10
  (witness_row_at (enc:=enc) (C:=Tryz.checked) false (LM os) #[.slice none 0 0,.slice none 0 0,.agg #[.int .i64 0,.int .i64 0,.int .i64 0,.int .i64 0]] rfl (by kernel_rfl) (by kernel_rfl) (by kernel_rfl)
   (OpenSpec.preRow_of_cond 8 hx (by kernel_rfl) (fun k hk=>by cases hk) (by kernel_rfl) (Vg os))) ?_
 intro W base args ds gs before hval hW _ _ _ hL _ _
 exact Vf H enc W base args ds gs before hval hW hL
theorem VJ:Rows.CheckSubstSaid:=
 OpenClaim.holds_of_cond 10 Tryz.f10 rfl rfl rfl rfl rfl rfl rfl ⟨rfl,rfl,rfl,rfl,rfl⟩ rfl rfl rfl rfl rfl (by kernel_rfl) Tryz.func10 (by kernel_rfl)
  (of_decide_eq_true (by kernel_rfl)) (by unfold Func.isWrapper;first|(rw [if_pos (by decide+kernel)];kernel_rfl)|(rw [if_neg (by decide+kernel)];exact ⟨rfl,rfl⟩))
  (fun os started H enc _ F=>by rw [OpenClaim.pre_eq_preRow];exact Vs os started H enc F)
theorem VE (f:FuncId) (fn:Func) (hf:Tryz.pinned.checked.prog.funcNamed Rows.checkSubstRow.func=some f) (hfn:Tryz.pinned.checked.prog.funcs[f]? =some fn):
  true=Tryz.pinned.checked.prog.looks []∧∀ (j:Nat) t,fn.params[j]? =some t→Tryz.pinned.checked.prog.wantsStandIn t=false:=by
 obtain rfl:f=10:=Option.some.inj ((show Tryz.prog.funcNamed Rows.checkSubstRow.func=some 10 by kernel_rfl).symm.trans hf)|>.symm
 obtain rfl:fn=Tryz.f10:=(Option.some.inj (Tryz.func10.symm.trans hfn)).symm
 refine ⟨by kernel_rfl,fun j t ht=> ?_⟩
 have hall:Tryz.f10.params.toList.all (fun t=> !Tryz.prog.wantsStandIn t)=true:=by kernel_rfl
 have:=List.all_eq_true.1 hall t (by simpa using Array.mem_of_getElem? ht)
 show Tryz.prog.wantsStandIn t=false
 simpa using this
theorem card:Rows.CheckSubstCardSaid:=
 Claim7.holds_tied_plain_at .later [] _ _ _ _ VJ (fun _ h=>by cases h) (by kernel_rfl) (fun _ h=>by cases h) checkSubst_row_tie rfl ⟨rfl,rfl⟩ (by kernel_rfl) rfl VE (by kernel_rfl)
end Go.Proofs.YtpjkeigmiooooaaGreatDoor.subst
